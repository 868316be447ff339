import PyProof.Rows.All
import Wide.All
import OpenK.AllK
import Wide.FinOn
import HandS.ForMost
import HandS.ExcValue
import HandS.CallSlots
import HandS.Lambda
import HandS.WordsExc
import HandS.ExcInit
import HandS.Wide
import HandS.WideBits
import HandS.TupAny
import HandS.TupLe
import HandS.Style
import HandS.IsInst
import HandS.ExcField
import HandS.ExcIs
import HandS.SetFor
import KE.KExcIs
import HandS.Defaults
import KE.KSuper
import KE.KExcSuper
import HandS.EndTab
import HandS.HeadWalk
import HandS.HeadHook4
import HandS.Head0
import HandS.Head1
import HandS.Head2
import HandS.HeadEnd
import PySem.Challenge.RW_beatsigns_k76_whole_tables_told_by_match
import PyProof.ReprBulk
set_option Elab.async false
set_option linter.all false
set_option maxRecDepth 100000
set_option maxHeartbeats 200000
/-! # Mini: an interpreter of one's own for the part of Python that the law and the program use -/
namespace Mn
open PySem

/-! ### the text -/
inductive BOp where
  | add | sub | mul | fdv | mod | pow
  deriving DecidableEq
inductive COp where
  | eq | ne | lt | le | gt | ge | is | isnt | inn | notin
  deriving DecidableEq
/-- built-in functions by name -/
inductive Bi where
  | len | int | abs | min | max | sum | repr | list | tuple | isinst (ts : List Nat) | isexc (c : Nat) | str | sorted | all
  deriving DecidableEq
/-- methods of built-in types -/
inductive Mt where
  | append | bitlen | get | index | count | pop | remove
  deriving DecidableEq
mutual
inductive E where
  | var (i : Nat) | non | bl (b : Bool) | int (i : Int) | str (x : Str) | glo (g : Nat) (i : Int)
  | neg (a : E) | not (a : E)
  | bin (lv : Bool) (o : BOp) (a b : E) | cmp (o : COp) (a b : E) | chn (o o' : COp) (a b c : E)
  | and (a b : E) | or (a b : E) | one (a : E)
  | ife (c a b : E)
  | idx (a i : E) | slc (a lo hi : E) | nil
  | tup (es : Es) | lst (lv : Bool) (es : Es) | dK (lv : Bool) | dT (lv : Bool)
  | call (f : Nat) (es : Es) | bi (lv : Bool) (b : Bi) (es : Es) | mt (m : Mt) (a : E) (es : Es)
  | fld (a : E) (x : Nat) | om (c m f : Nat) (a : E) (es : Es) | mk (c f : Nat) (es : Es)
  | xval (a : E)
  | lc (lv : Bool) (s : I) (t : Tg) (fs : Es) (e : E)
  | act (i : Nat) | cal1 (f : Nat) (ls : Bool) (ks : Ls) (es : Es)
  | callp (f : Nat) (pm : List Nat) (es : Es)
  | frz (a : E)
inductive Es where
  | nil | cons (e : E) (r : Es)
/-- lambdas, each with the places that it takes along -/
inductive Ls where
  | nil | cons (b : E) (cap : List Nat) (r : Ls)
/-- what a loop walks -/
inductive I where
  | seq (e : E) | rng1 (a : E) | rng2 (a b : E) | enum (e : E) | zip (a b : E) | items (e : E)
/-- targets -/
inductive Tg where
  | nm (i : Nat) | sub (a i : E) | fld (a : E) (x : Nat) | tup (ts : Tgs)
inductive Tgs where
  | nil | cons (t : Tg) (r : Tgs)
end
mutual
inductive S where
  | asg (t : Tg) (e : E) | par (i j : Nat) (a b : E)
  | ex (e : E) | ret (e : E) | retN | pas | brk | cnt
  | ite (c : E) (a b : Ss) | whl (c : E) (b : Ss) | fr (s : I) (t : Tg) (b : Ss) (fg : List Nat)
  | rai (c : Nat) (e : E) | rai0 (c : Nat)
  | tri (b : Ss) (c : Nat) (i : Nat) (h : Ss)
inductive Ss where
  | nil | cons (s : S) (r : Ss)
end
/-- a value: frozen data is a tree; cel c is a live (changeable) object; clo k a lambda with what it captured; exc an error object -/
inductive D where
  | und | non | bl (b : Bool) | int (i : Int) | str (x : Str)
  | lst (xs : List D) | tup (xs : List D) | ro (xs : List D)
  | dK (kvs : List (L2.Key × D)) | dT (kvs : List (List L2.Key × D))
  | cel (c : Nat) | exc (c : Nat) (p : D) | clo (b : E) (cs : List D)
  deriving Inhabited
/-- a live object -/
inductive Ob where
  | lst (xs : List D) | dK (kvs : List (L2.Key × D)) | dT (kvs : List (List L2.Key × D)) | ins (c : Nat) (fs : List (Nat × D)) | dead
  deriving Inhabited
abbrev Hh := List Ob
inductive Res (α : Type) where
  | ok (a : α) (h : Hh) | exc (c : Nat) (p : D) (h : Hh) | stk
  deriving Inhabited
def Res.bind {α β : Type} (r : Res α) (f : α → Hh → Res β) : Res β := match r with
  | .ok a h => f a h
  | .exc c p h => .exc c p h
  | .stk => .stk
@[simp] theorem bind_ok {α β : Type} (a : α) (h : Hh) (f : α → Hh → Res β) : (Res.ok a h).bind f = f a h := rfl
@[simp] theorem bind_exc {α β : Type} (c : Nat) (p : D) (h : Hh) (f : α → Hh → Res β) : (Res.exc c p h : Res α).bind f = .exc c p h := rfl
@[simp] theorem bind_stk {α β : Type} (f : α → Hh → Res β) : (Res.stk : Res α).bind f = .stk := rfl

end Mn
namespace Mn
open PySem
/-! ### equal trees; closed trees; frozen data -/
mutual
def same : D → D → Bool
  | .und, .und => true
  | .non, .non => true
  | .bl a, .bl b => decide (a = b)
  | .int a, .int b => decide (a = b)
  | .str a, .str b => decide (a = b)
  | .lst xs, .lst ys => sameL xs ys
  | .tup xs, .tup ys => sameL xs ys
  | .ro xs, .ro ys => sameL xs ys
  | .dK xs, .dK ys => sameK xs ys
  | .dT xs, .dT ys => sameT xs ys
  | .cel a, .cel b => decide (a = b)
  | .exc a p, .exc b q => decide (a = b) && same p q
  | _, _ => false
def sameL : List D → List D → Bool
  | [], [] => true
  | x :: xs, y :: ys => same x y && sameL xs ys
  | _, _ => false
def sameK : List (L2.Key × D) → List (L2.Key × D) → Bool
  | [], [] => true
  | (k, x) :: xs, (l, y) :: ys => decide (k = l) && (same x y && sameK xs ys)
  | _, _ => false
def sameT : List (List L2.Key × D) → List (List L2.Key × D) → Bool
  | [], [] => true
  | (k, x) :: xs, (l, y) :: ys => decide (k = l) && (same x y && sameT xs ys)
  | _, _ => false
end
mutual
/-- no live object at n or above is named -/
def clsd (n : Nat) : D → Bool
  | .lst xs => clsdL n xs
  | .tup xs => clsdL n xs
  | .ro xs => clsdL n xs
  | .dK xs => clsdK n xs
  | .dT xs => clsdT n xs
  | .cel a => decide (a < n)
  | .exc _ p => clsd n p
  | .clo _ xs => clsdL n xs
  | _ => true
def clsdL (n : Nat) : List D → Bool
  | [] => true
  | x :: xs => clsd n x && clsdL n xs
def clsdK (n : Nat) : List (L2.Key × D) → Bool
  | [] => true
  | (_, x) :: xs => clsd n x && clsdK n xs
def clsdT (n : Nat) : List (List L2.Key × D) → Bool
  | [] => true
  | (_, x) :: xs => clsd n x && clsdT n xs
end
mutual
/-- as plain data -/
def D.py : D → Option PySem.PyData
  | .non => some .none
  | .bl b => some (.bool b)
  | .int i => some (.int i)
  | .str x => some (.str x)
  | .lst xs => (D.pyAll xs).map .list
  | .tup xs => (D.pyAll xs).map .tuple
  | _ => none
def D.pyAll : List D → Option (List PySem.PyData)
  | [] => some []
  | x :: xs => match D.py x, D.pyAll xs with
    | some y, some ys => some (y :: ys)
    | _, _ => none
end
def Ob.same : Ob → Ob → Bool
  | .lst xs, .lst ys => sameL xs ys
  | .dK xs, .dK ys => sameK xs ys
  | .dT xs, .dT ys => sameT xs ys
  | .ins c xs, .ins d ys => decide (c = d) && (decide (xs.map (·.1) = ys.map (·.1)) && sameL (xs.map (·.2)) (ys.map (·.2)))
  | .dead, .dead => true
  | _, _ => false
def Ob.clsd (n : Nat) : Ob → Bool
  | .lst xs => clsdL n xs
  | .dK xs => clsdK n xs
  | .dT xs => clsdT n xs
  | .ins _ fs => clsdL n (fs.map (·.2))
  | .dead => true
/-- live objects at n and above, read as trees -/
def thaw (h : Hh) (n : Nat) : Nat → D → D
  | 0, d => d
  | k + 1, .cel c => if c < n then .cel c else match h[c]? with
    | some (.lst xs) => .lst (xs.map (thaw h n k))
    | some (.dK kvs) => .dK (kvs.map fun p => (p.1, thaw h n k p.2))
    | some (.dT kvs) => .dT (kvs.map fun p => (p.1, thaw h n k p.2))
    | _ => .cel c
  | k + 1, .lst xs => if clsdL n xs then .lst xs else .lst (xs.map (thaw h n k))
  | k + 1, .tup xs => if clsdL n xs then .tup xs else .tup (xs.map (thaw h n k))
  | _ + 1, d => d
def sizeL : Nat := 16777216
/-! ### operators -/
def lsW (h : Hh) : D → Option (List D)
  | .lst xs => some xs
  | .cel c => match h[c]? with
    | some (.lst xs) => some xs
    | _ => none
  | _ => none
def lsOf (h : Hh) : D → Option (List D)
  | .lst xs => some xs
  | .ro xs => some xs
  | .cel c => match h[c]? with
    | some (.lst xs) => some xs
    | _ => none
  | _ => none
def newL (lv : Bool) (xs : List D) (h : Hh) : Res D := if xs.length ≤ sizeL then (if lv then .ok (.cel h.length) (h ++ [.lst xs]) else .ok (.lst xs) h) else .stk
def mulOk (i j : Int) : Bool := decide (i.natAbs.log2 + j.natAbs.log2 < 1000000)
def fdvOk (j : Int) : Bool := decide (0 < j) && decide (j.natAbs.log2 < 9000)
def powOk (i j : Int) : Bool := decide (0 ≤ j) && decide (((i.natAbs.log2 + 1 : Nat) : Int) * j ≤ 134217728)
def binop (lv : Bool) (o : BOp) (a b : D) (h : Hh) : Res D := match o, a, b with
  | .add, .int i, .int j => .ok (.int (i + j)) h
  | .add, .str x, .str y => if x.length + y.length ≤ sizeL then .ok (.str (x ++ y)) h else .stk
  | .add, .tup xs, .tup ys => if xs.length + ys.length ≤ sizeL then .ok (.tup (xs ++ ys)) h else .stk
  | .add, a, b => match lsW h a, lsW h b with
    | some xs, some ys => newL lv (xs ++ ys) h
    | _, _ => .stk
  | .sub, .int i, .int j => .ok (.int (i - j)) h
  | .mul, .int i, .int j => if mulOk i j then .ok (.int (i * j)) h else .stk
  | .mul, a, .int k => match lsW h a with
    | some xs => if xs.length * k.toNat ≤ sizeL ∧ -(2 ^ 63) ≤ k ∧ k < 2 ^ 63 then newL lv (List.replicate k.toNat xs).flatten h else .stk
    | none => .stk
  | .fdv, .int i, .int j => if fdvOk j then .ok (.int (i / j)) h else .stk
  | .mod, .int i, .int j => if 0 < j then .ok (.int (i % j)) h else .stk
  | .pow, .int i, .int j => if powOk i j then .ok (.int (i ^ j.toNat)) h else .stk
  | _, _, _ => .stk
/-- == of plain data -/
def eqPy (a b : D) : Option Bool := match a.py, b.py with
  | some x, some y => if SeqAt.shaped x && SeqAt.shaped y then some (PySem.PyData.eqv x y) else none
  | _, _ => none
def eqD (h : Hh) (a b : D) : Option Bool := match a, b with
  | .int i, .int j => some (decide (i = j))
  | .str i, .str j => some (decide (i = j))
  | a, b => eqPy (thaw h 0 3 a) (thaw h 0 3 b)
def isD (a b : D) : Option Bool := match b with
  | .non => some (match a with | .non => true | _ => false)
  | .bl c => some (match a with | .bl d => decide (d = c) | _ => false)
  | _ => none
def keyOf : D → Option L2.Key
  | .int i => some (.inl i)
  | .str x => some (.inr x)
  | _ => none
def keysOf : D → Option (List L2.Key)
  | .tup xs => xs.mapM keyOf
  | _ => none
def valO {κ : Type} [DecidableEq κ] (kvs : List (κ × D)) (k : κ) : Option D := (kvs.find? fun kv => decide (kv.1 = k)).map (·.2)
def putO {κ : Type} [DecidableEq κ] (kvs : List (κ × D)) (k : κ) (v : D) : List (κ × D) :=
  if (kvs.any fun kv => decide (kv.1 = k)) = true then kvs.map (fun kv => if kv.1 = k then (kv.1, v) else kv) else kvs ++ [(k, v)]
/-- what a dict holds at a key: none: no dict, or no key -/
def dGet (h : Hh) (d k : D) : Option (Option D) := match d with
  | .dK kvs => (keyOf k).map fun x => valO kvs x
  | .dT kvs => (keysOf k).map fun x => valO kvs x
  | .cel c => match h[c]? with
    | some (.dK kvs) => (keyOf k).map fun x => valO kvs x
    | some (.dT kvs) => (keysOf k).map fun x => valO kvs x
    | _ => none
  | _ => none
def dPut (h : Hh) (d k v : D) : Option Hh := match d with
  | .cel c => match h[c]? with
    | some (.dK kvs) => if kvs.length < sizeL then (keyOf k).map fun x => h.set c (.dK (putO kvs x v)) else none
    | some (.dT kvs) => if kvs.length < sizeL then (keysOf k).map fun x => h.set c (.dT (putO kvs x v)) else none
    | _ => none
  | _ => none
def flat : D → Bool
  | .non => true
  | .bl _ => true
  | .int _ => true
  | .str _ => true
  | _ => false
/-- == of flat values -/
def eqF : D → D → Bool
  | .non, .non => true
  | .bl a, .bl b => decide (a = b)
  | .bl a, .int j => decide ((if a then 1 else 0) = j)
  | .int i, .bl b => decide (i = (if b then 1 else 0))
  | .int i, .int j => decide (i = j)
  | .str x, .str y => decide (x = y)
  | _, _ => false
def inD (h : Hh) (x y : D) : Option Bool := match (match y with | .tup ys => some ys | y => lsOf h y) with
  | some ys => if flat x && ys.all flat then some (ys.any fun z => eqF z x) else none
  | none => (dGet h y x).map (·.isSome)
def ii (f : Int → Int → Bool) : D → D → Option Bool
  | .int i, .int j => some (f i j)
  | _, _ => none
def cmpop (o : COp) (a b : D) (h : Hh) : Option Bool := match o with
  | .eq => eqD h a b
  | .ne => (eqD h a b).map (!·)
  | .is => isD a b
  | .isnt => (isD a b).map (!·)
  | .inn => inD h a b
  | .notin => (inD h a b).map (!·)
  | .lt => ii (fun i j => decide (i < j)) a b
  | .le => ii (fun i j => decide (i ≤ j)) a b
  | .gt => ii (fun i j => decide (j < i)) a b
  | .ge => ii (fun i j => decide (j ≤ i)) a b
def idxop (a i : D) (h : Hh) : Option D := match a with
  | .tup xs => match i with | .int k => L2.atI xs k | _ => none
  | a => match lsOf h a with
    | some xs => match i with | .int k => L2.atI xs k | _ => none
    | none => match dGet h a i with
      | some (some v) => some v
      | _ => none
def endOf : D → Option (Option Int)
  | .und => some none
  | .int i => some (some i)
  | _ => none
def cutO {α : Type} (xs : List α) (lo hi : Option Int) : List α := (xs.drop (HT.sIx xs.length 0 lo)).take (HT.sIx xs.length xs.length hi - HT.sIx xs.length 0 lo)
def slcop (x : D) (l u : Option Int) (h : Hh) : Res D := match x with
  | .str z => if z.length ≤ sizeL then .ok (.str (L2.cutS z l u)) h else .stk
  | .tup xs => .ok (.tup (cutO xs l u)) h
  | x => match lsOf h x with
    | some xs => .ok (.lst (cutO xs l u)) h
    | none => .stk
end Mn
namespace Mn
open PySem
/-! ### built-in functions -/
def tyIs (h : Hh) (d : D) : Nat → Bool
  | 0 => match d with | .int _ => true | .bl _ => true | _ => false
  | 1 => match d with | .bl _ => true | _ => false
  | 2 => match d with | .str _ => true | _ => false
  | 3 => (lsOf h d).isSome
  | 4 => match d with | .tup _ => true | _ => false
  | _ => match d with
    | .dK _ => true
    | .dT _ => true
    | .cel c => match h[c]? with
      | some (.dK _) => true
      | some (.dT _) => true
      | _ => false
    | _ => false
/-- values whose class is told -/
def plain (h : Hh) : D → Bool
  | .und => false
  | .exc _ _ => false
  | .clo _ _ => false
  | .cel c => match h[c]? with
    | some (.lst _) => true
    | some (.dK _) => true
    | some (.dT _) => true
    | _ => false
  | _ => true
def intsOf : List D → Option (List Int)
  | [] => some []
  | .int i :: r => (intsOf r).map (i :: ·)
  | _ => none
def blsOf : List D → Option (List Bool)
  | [] => some []
  | .bl i :: r => (blsOf r).map (i :: ·)
  | _ => none
def maxL : List Int → Int
  | [] => 0
  | [a] => a
  | a :: r => let m := maxL r; if a < m then m else a
def minL : List Int → Int
  | [] => 0
  | [a] => a
  | a :: r => let m := minL r; if m < a then m else a
def bfn (sub : Nat → Nat → Bool) (lv : Bool) (b : Bi) (ds : List D) (h : Hh) : Res D := match b, ds with
  | .len, [d] => match d with
    | .str x => if x.length ≤ sizeL then .ok (.int x.length) h else .stk
    | .tup xs => .ok (.int xs.length) h
    | d => match lsOf h d with
      | some xs => .ok (.int xs.length) h
      | none => .stk
  | .int, [d] => match d with
    | .int i => .ok (.int i) h
    | .bl b => .ok (.int (if b then 1 else 0)) h
    | _ => .stk
  | .abs, [.int i] => .ok (.int (if i < 0 then -i else i)) h
  | .max, [.int i, .int j] => .ok (.int (if j > i then j else i)) h
  | .min, [.int i, .int j] => .ok (.int (if j < i then j else i)) h
  | .max, [d] => match (lsOf h d).bind intsOf with
    | some (i :: r) => .ok (.int (maxL (i :: r))) h
    | _ => .stk
  | .min, [d] => match (lsOf h d).bind intsOf with
    | some (i :: r) => .ok (.int (minL (i :: r))) h
    | _ => .stk
  | .sum, [d] => match (lsOf h d).bind intsOf with
    | some r => .ok (.int r.sum) h
    | none => .stk
  | .list, [d] => match (match d with | .tup xs => some xs | d => lsOf h d) with
    | some xs => newL lv xs h
    | none => .stk
  | .tuple, [d] => match (match d with | .tup xs => some xs | d => lsOf h d) with
    | some xs => .ok (.tup xs) h
    | none => .stk
  | .isinst ts, [d] => if plain h d then .ok (.bl (ts.any (tyIs h d))) h else .stk
  | .isexc c, [.exc k p] => (match p with
    | .und => .stk
    | _ => if sub k k then .ok (.bl (sub k c)) h else .stk)
  | .all, [d] => match (lsOf h d).bind blsOf with
    | some r => .ok (.bl (r.all id)) h
    | none => .stk
  | .repr, [d] => match thaw h 0 3 d with
    | .dK [] => .ok (.str (PySem.PyData.dict []).shown) h
    | t => match t.py with
      | some p => if p.showable && !p.hasDict && decide (p.shown.length ≤ sizeL) && decide (p.depth ≤ 60) then .ok (.str p.shown) h else .stk
      | none => .stk
  | _, _ => .stk
/-! ### methods of built-in types -/
def findF (y : D) : List D → Nat → Option Nat
  | [], _ => none
  | x :: r, n => if eqF x y then some n else findF y r (n + 1)
def mtf (lv : Bool) (m : Mt) (a : D) (ds : List D) (h : Hh) : Res D := match m, ds with
  | .append, [d] => match a with
    | .cel c => match h[c]? with
      | some (.lst xs) => if xs.length < sizeL then .ok .non (h.set c (.lst (xs ++ [d]))) else .stk
      | _ => .stk
    | _ => .stk
  | .pop, [] => match a with
    | .cel c => match h[c]? with
      | some (.lst xs) => match xs[xs.length - 1]? with
        | some y => .ok y (h.set c (.lst xs.dropLast))
        | none => .stk
      | _ => .stk
    | _ => .stk
  | .pop, [.int i] => if -(2 ^ 63) ≤ i ∧ i < 2 ^ 63 then (match a with
    | .cel c => match h[c]? with
      | some (.lst xs) => match L2.ixN xs.length i with
        | some k => match xs[k]? with
          | some y => .ok y (h.set c (.lst (xs.eraseIdx k)))
          | none => .stk
        | none => .stk
      | _ => .stk
    | _ => .stk) else .stk
  | .bitlen, [] => match a with
    | .int i => .ok (.int (Builtin.Int.intBits i : Nat)) h
    | _ => .stk
  | .get, [k, x] => match dGet h a k with
    | some o => .ok (o.getD x) h
    | none => .stk
  | .index, [y] => match lsOf h a with
    | some xs => if flat y && xs.all flat then (match findF y xs 0 with
        | some j => .ok (.int (j : Nat)) h
        | none => .stk) else .stk
    | none => .stk
  | .count, [.bl b] => match (lsOf h a).bind blsOf with
    | some r => .ok (.int ((r.count b : Nat))) h
    | none => .stk
  | _, _ => .stk
/-- the receiver is of the right kind -/
def rcv (m : Mt) (x : D) (h : Hh) : Bool := match m with
  | .bitlen => (match x with | .int _ => true | _ => false)
  | .get => (match x with
    | .dK _ => true
    | .dT _ => true
    | .cel c => (match h[c]? with
      | some (.dK _) => true
      | some (.dT _) => true
      | _ => false)
    | _ => false)
  | _ => (lsOf h x).isSome
/-! ### the interpreter -/
inductive Fl where
  | nx | brk | cnt | ret (d : D)
inductive SRes where
  | ok (f : Fl) (e : List D) (h : Hh) | exc (c : Nat) (p : D) (e : List D) (h : Hh) | stk
structure Glb where
  call : Nat → List D → Hh → Res D
  sub : Nat → Nat → Bool
  lam : E → List D → Hh → Res D
  wh : (List D → Hh → Res D) → (List D → Hh → SRes) → List D → Hh → SRes
/-- what a loop walks -/
inductive Src where
  | fz (xs : List D) | cl (c : Nat) | rng (lo : Int) (n : Nat) | en (s : Src) | zp (s t : Src)
def Src.at : Src → Nat → Hh → Option (Option D)
  | .fz xs, i, _ => some xs[i]?
  | .cl c, i, h => match h[c]? with
    | some (.lst xs) => some xs[i]?
    | _ => none
  | .rng lo n, i, _ => some (if i < n then some (.int (lo + i)) else none)
  | .en s, i, h => match s.at i h with
    | some (some d) => some (some (.tup [.int (i : Nat), d]))
    | some none => some none
    | none => none
  | .zp s t, i, h => match s.at i h, t.at i h with
    | some (some x), some (some y) => some (some (.tup [x, y]))
    | some none, some _ => some none
    | some _, some none => some none
    | _, _ => none
def Src.len : Src → Hh → Nat
  | .fz xs, _ => xs.length
  | .cl c, h => match h[c]? with
    | some (.lst xs) => xs.length
    | _ => 0
  | .rng _ n, _ => n
  | .en s, h => s.len h
  | .zp s t, h => min (s.len h) (t.len h)
def srcOf (h : Hh) (tupToo : Bool) : D → Option Src
  | .lst xs => some (.fz xs)
  | .ro xs => some (.fz xs)
  | .tup xs => if tupToo then some (.fz xs) else none
  | .cel c => match h[c]? with
    | some (.lst _) => some (.cl c)
    | _ => none
  | _ => none
def loopS (s : Src) (body : D → List D → Hh → SRes) : Nat → Nat → List D → Hh → SRes
  | 0, i, e, h => match s.at i h with
    | some none => .ok .nx e h
    | _ => .stk
  | n + 1, i, e, h => match s.at i h with
    | some none => .ok .nx e h
    | some (some d) => match body d e h with
      | .ok .nx e' h' => loopS s body n (i + 1) e' h'
      | .ok .cnt e' h' => loopS s body n (i + 1) e' h'
      | .ok .brk e' h' => .ok .nx e' h'
      | r => r
    | none => .stk
def loopL (s : Src) (step : D → Hh → Res (Option D)) : Nat → Nat → List D → Hh → Res (List D)
  | 0, i, acc, h => match s.at i h with
    | some none => .ok acc h
    | _ => .stk
  | n + 1, i, acc, h => match s.at i h with
    | some none => .ok acc h
    | some (some d) => match step d h with
      | .ok none h' => loopL s step n (i + 1) acc h'
      | .ok (some x) h' => if acc.length < sizeL then loopL s step n (i + 1) (acc ++ [x]) h' else .stk
      | _ => .stk
    | none => .stk
def wipeD (e : List D) : List Nat → List D
  | [] => e
  | v :: vs => (wipeD e vs).set v .und
mutual
def Tg.own : Tg → List Nat
  | .nm i => [i]
  | .sub _ _ => []
  | .fld _ _ => []
  | .tup ts => ts.own
def Tgs.own : Tgs → List Nat
  | .nil => []
  | .cons t r => t.own ++ r.own
end
def setF (fs : List (Nat × D)) (x : Nat) (v : D) : List (Nat × D) := match fs with
  | [] => [(x, v)]
  | (y, w) :: r => if y = x then (y, v) :: r else (y, w) :: setF r x v
/-- a store to an item -/
def putI (h : Hh) (a i v : D) : Option Hh := match a, i with
  | .cel c, .int k => match h[c]? with
    | some (.lst xs) => match L2.ixN xs.length k with
      | some j => some (h.set c (.lst (xs.set j v)))
      | none => none
    | some (.dK _) => dPut h (.cel c) (.int k) v
    | _ => none
  | a, i => dPut h a i v
def fldOf (h : Hh) (a : D) (x : Nat) : Option D := match a with
  | .cel c => match h[c]? with
    | some (.ins _ fs) => fs.lookup x
    | _ => none
  | _ => none
def putF (h : Hh) (a : D) (x : Nat) (v : D) : Option Hh := match a with
  | .cel c => match h[c]? with
    | some (.ins k fs) => if fs.length < 1000 then some (h.set c (.ins k (setF fs x v))) else none
    | _ => none
  | _ => none
mutual
/-- no closure, no error -/
def tidy : D → Bool
  | .lst xs => tidyL xs
  | .tup xs => tidyL xs
  | .ro xs => tidyL xs
  | .dK xs => tidyK xs
  | .dT xs => tidyT xs
  | .exc _ _ => false
  | .clo _ _ => false
  | _ => true
def tidyL : List D → Bool
  | [] => true
  | x :: xs => tidy x && tidyL xs
def tidyK : List (L2.Key × D) → Bool
  | [] => true
  | (_, x) :: xs => tidy x && tidyK xs
def tidyT : List (List L2.Key × D) → Bool
  | [] => true
  | (_, x) :: xs => tidy x && tidyT xs
end
def Ob.tidy : Ob → Bool
  | .lst xs => tidyL xs
  | .dK kvs => tidyK kvs
  | .dT kvs => tidyT kvs
  | .ins _ fs => tidyL (fs.map (·.2))
  | .dead => true
/-- what comes back from a call that got closures -/
def tidyR (r : Res D) : Res D := match r with
  | .ok d h => if tidy d && h.all Ob.tidy then .ok d h else .stk
  | _ => .stk
/-- what a lambda takes along -/
def maskD : List D → Nat → List Nat → List D
  | [], _, _ => []
  | d :: r, i, cap => (if cap.contains i then d else .und) :: maskD r (i + 1) cap
def clos (e : List D) : Ls → List D
  | .nil => []
  | .cons b cap r => .clo b (maskD e 0 cap) :: clos e r
def cloA (ls : Bool) (ks : Ls) (e : List D) : D := if ls then .lst (clos e ks) else match ks with
  | .cons b cap .nil => .clo b (maskD e 0 cap)
  | _ => .und
def permD (pm : List Nat) (ds : List D) : Option (List D) := if pm.length = ds.length then pm.mapM fun i => ds[i]? else none
mutual
def ev (G : Glb) : E → List D → Hh → Res D
  | .var i, e, h => match e[i]? with
    | some .und => .stk
    | some d => .ok d h
    | none => .stk
  | .non, _, h => .ok .non h
  | .bl b, _, h => .ok (.bl b) h
  | .int i, _, h => .ok (.int i) h
  | .str x, _, h => .ok (.str x) h
  | .glo _ i, _, h => .ok (.int i) h
  | .nil, _, h => .ok .und h
  | .neg a, e, h => (ev G a e h).bind fun x h => match x with | .int i => .ok (.int (-i)) h | _ => .stk
  | .not a, e, h => (ev G a e h).bind fun x h => match x with | .bl b => .ok (.bl (!b)) h | _ => .stk
  | .bin lv o a b, e, h => (ev G a e h).bind fun x h => (ev G b e h).bind fun y h => binop lv o x y h
  | .cmp o a b, e, h => (ev G a e h).bind fun x h => (ev G b e h).bind fun y h => match cmpop o x y h with | some c => .ok (.bl c) h | none => .stk
  | .chn o o' a b c, e, h => (ev G a e h).bind fun x h => (ev G b e h).bind fun y h => match cmpop o x y h with
    | some true => (ev G c e h).bind fun z h => match cmpop o' y z h with | some c => .ok (.bl c) h | none => .stk
    | some false => .ok (.bl false) h
    | none => .stk
  | .one a, e, h => ev G a e h
  | .and a b, e, h => (ev G a e h).bind fun x h => match x with | .bl true => ev G b e h | .bl false => .ok (.bl false) h | _ => .stk
  | .or a b, e, h => (ev G a e h).bind fun x h => match x with | .bl false => ev G b e h | .bl true => .ok (.bl true) h | _ => .stk
  | .ife c a b, e, h => (ev G c e h).bind fun x h => match x with | .bl true => ev G a e h | .bl false => ev G b e h | _ => .stk
  | .idx a i, e, h => (ev G a e h).bind fun x h => (ev G i e h).bind fun y h => match idxop x y h with | some v => .ok v h | none => .stk
  | .slc a lo hi, e, h => (ev G a e h).bind fun x h => (ev G lo e h).bind fun l h => match endOf l with
    | some l => (ev G hi e h).bind fun u h => match endOf u with
      | some u => slcop x l u h
      | none => .stk
    | none => .stk
  | .tup es, e, h => (evs G es e h).bind fun ds h => if ds.length ≤ sizeL then .ok (.tup ds) h else .stk
  | .lst lv es, e, h => (evs G es e h).bind fun ds h => newL lv ds h
  | .dK lv, _, h => if lv then .ok (.cel h.length) (h ++ [.dK []]) else .ok (.dK []) h
  | .dT lv, _, h => if lv then .ok (.cel h.length) (h ++ [.dT []]) else .ok (.dT []) h
  | .call f es, e, h => (evs G es e h).bind fun ds h => G.call f ds h
  | .cal1 f ls ks es, e, h => (evs G es e h).bind fun ds h => tidyR (G.call f (cloA ls ks e :: ds) h)
  | .callp f pm es, e, h => (evs G es e h).bind fun ds h => match permD pm ds with | some ds => G.call f ds h | none => .stk
  | .bi lv b es, e, h => (evs G es e h).bind fun ds h => bfn G.sub lv b ds h
  | .mt m a es, e, h => (ev G a e h).bind fun x h => if rcv m x h then ((evs G es e h).bind fun ds h => mtf false m x ds h) else .stk
  | .fld a x, e, h => (ev G a e h).bind fun d h => match fldOf h d x with | some v => .ok v h | none => .stk
  | .om c _ f a es, e, h => (ev G a e h).bind fun d h => match d with
    | .cel k => match h[k]? with
      | some (.ins c' _) => if c' = c then ((evs G es e h).bind fun ds h => G.call f (.cel k :: ds) h) else .stk
      | _ => .stk
    | _ => .stk
  | .mk c f es, e, h => (evs G es e h).bind fun ds h => (G.call f (.cel h.length :: ds) (h ++ [.ins c []])).bind fun v h' => match v with | .non => .ok (.cel h.length) h' | _ => .stk
  | .xval a, e, h => (ev G a e h).bind fun d h => match d with | .exc c p => (if G.sub c c then (match p with | .und => .stk | p => .ok p h) else .stk) | _ => .stk
  | .lc lv s t fs x, e, h => (evI G s e h).bind fun src h => (loopL src (fun d h => match evT G t d (wipeD e t.own) h with
      | .ok e' h => (evB G fs e' h).bind fun b h => if b then ((ev G x e' h).bind fun v h => .ok (some v) h) else .ok none h
      | _ => .stk) (src.len h) 0 [] h).bind fun ds h => newL lv ds h
  | .act i, e, h => match e[i]? with
    | some (.clo k cs) => if tidyL cs && h.all Ob.tidy then G.lam k cs h else .stk
    | _ => .stk
  | .frz a, e, h => ev G a e h
def evs (G : Glb) : Es → List D → Hh → Res (List D)
  | .nil, _, h => .ok [] h
  | .cons a r, e, h => (ev G a e h).bind fun d h => (evs G r e h).bind fun ds h => .ok (d :: ds) h
/-- all tests of a comprehension -/
def evB (G : Glb) : Es → List D → Hh → Res Bool
  | .nil, _, h => .ok true h
  | .cons a r, e, h => (ev G a e h).bind fun d h => match d with
    | .bl true => evB G r e h
    | .bl false => .ok false h
    | _ => .stk
def evI (G : Glb) : I → List D → Hh → Res Src
  | .seq a, e, h => (ev G a e h).bind fun d h => match srcOf h true d with | some s => .ok s h | none => .stk
  | .rng1 a, e, h => (ev G a e h).bind fun d h => match d with
    | .int j => if -(2 ^ 62) ≤ j ∧ j < 2 ^ 62 then .ok (.rng 0 j.toNat) h else .stk
    | _ => .stk
  | .rng2 a b, e, h => (ev G a e h).bind fun d h => (ev G b e h).bind fun d' h => match d, d' with
    | .int i, .int j => if -(2 ^ 62) ≤ i ∧ i < 2 ^ 62 ∧ -(2 ^ 62) ≤ j ∧ j < 2 ^ 62 then .ok (.rng i (j - i).toNat) h else .stk
    | _, _ => .stk
  | .enum a, e, h => (ev G a e h).bind fun d h => match srcOf h false d with | some s => .ok (.en s) h | none => .stk
  | .zip a b, e, h => (ev G a e h).bind fun d h => (ev G b e h).bind fun d' h => match srcOf h false d, srcOf h false d' with
    | some s, some t => .ok (.zp s t) h
    | _, _ => .stk
  | .items _, _, _ => .stk
def evT (G : Glb) : Tg → D → List D → Hh → Res (List D)
  | .nm i, v, e, h => .ok (e.set i v) h
  | .sub a i, v, e, h => (ev G a e h).bind fun x h => (ev G i e h).bind fun y h => match putI h x y v with | some h' => .ok e h' | none => .stk
  | .fld a x, v, e, h => (ev G a e h).bind fun d h => match putF h d x v with | some h' => .ok e h' | none => .stk
  | .tup ts, v, e, h => match v with
    | .tup xs => evTs G ts xs e h
    | _ => .stk
def evTs (G : Glb) : Tgs → List D → List D → Hh → Res (List D)
  | .nil, [], e, h => .ok e h
  | .cons t r, x :: xs, e, h => (evT G t x e h).bind fun e h => evTs G r xs e h
  | _, _, _, _ => .stk
end
end Mn

namespace Mn
open PySem
def Res.toS (r : Res (List D)) : SRes := match r with
  | .ok e' h => .ok .nx e' h
  | _ => .stk
def Res.thenS (r : Res D) (e : List D) (f : D → Hh → SRes) : SRes := match r with
  | .ok d h => f d h
  | .exc c p h => .exc c p e h
  | .stk => .stk
@[simp] theorem thenS_ok (d : D) (h : Hh) (e : List D) (f : D → Hh → SRes) : (Res.ok d h).thenS e f = f d h := rfl
@[simp] theorem thenS_exc (c : Nat) (p : D) (h : Hh) (e : List D) (f : D → Hh → SRes) : (Res.exc c p h : Res D).thenS e f = .exc c p e h := rfl
@[simp] theorem thenS_stk (e : List D) (f : D → Hh → SRes) : (Res.stk : Res D).thenS e f = .stk := rfl
def SRes.seq (r : SRes) (f : List D → Hh → SRes) : SRes := match r with
  | .ok .nx e h => f e h
  | r => r
/-- a while loop with so many turns at most -/
def whF (c : List D → Hh → Res D) (b : List D → Hh → SRes) : Nat → List D → Hh → SRes
  | 0, _, _ => .stk
  | n + 1, e, h => (c e h).thenS e fun v h => match v with
    | .bl false => .ok .nx e h
    | .bl true => match b e h with
      | .ok .nx e h => whF c b n e h
      | .ok .cnt e h => whF c b n e h
      | .ok .brk e h => .ok .nx e h
      | r => r
    | _ => .stk
def fgS (fg : List Nat) : SRes → SRes
  | .ok .nx e h => .ok .nx (wipeD e fg) h
  | .ok .cnt e h => .ok .nx (wipeD e fg) h
  | .ok .brk e h => .ok .brk (wipeD e fg) h
  | r => r
mutual
def exe (G : Glb) : S → List D → Hh → SRes
  | .asg t x, e, h => (ev G x e h).thenS e fun v h => (evT G t v e h).toS
  | .par i j a b, e, h => (ev G a e h).thenS e fun v h => (ev G b e h).thenS e fun w h => .ok .nx ((e.set i v).set j w) h
  | .ex x, e, h => (ev G x e h).thenS e fun _ h => .ok .nx e h
  | .ret x, e, h => (ev G x e h).thenS e fun v h => .ok (.ret v) e h
  | .retN, e, h => .ok (.ret .non) e h
  | .pas, e, h => .ok .nx e h
  | .brk, e, h => .ok .brk e h
  | .cnt, e, h => .ok .cnt e h
  | .ite c a b, e, h => (ev G c e h).thenS e fun v h => match v with
    | .bl true => exes G a e h
    | .bl false => exes G b e h
    | _ => .stk
  | .whl c b, e, h => G.wh (fun e h => ev G c e h) (fun e h => exes G b e h) e h
  | .fr s t b fg, e, h => match evI G s e h with
    | .ok src h => loopS src (fun d e h => match evT G t d e h with
        | .ok e' h' => fgS fg (exes G b e' h')
        | _ => .stk) (src.len h) 0 (wipeD e fg) h
    | .exc c p h => .exc c p e h
    | .stk => .stk
  | .rai c x, e, h => (ev G x e h).thenS e fun v h => .exc c v e h
  | .rai0 c, e, h => .exc c .und e h
  | .tri b c i hd, e, h => match exes G b e h with
    | .exc c' p e' h' => if G.sub c' c' && G.sub c' c then (match exes G hd (e'.set i (.exc c' p)) h' with
        | .ok f e'' h'' => .ok f (e''.set i .und) h''
        | .exc c'' p' e'' h'' => .exc c'' p' (e''.set i .und) h''
        | .stk => .stk) else .stk
    | r => r
def exes (G : Glb) : Ss → List D → Hh → SRes
  | .nil, e, h => .ok .nx e h
  | .cons s r, e, h => match exe G s e h with
    | .ok .nx e h => exes G r e h
    | r => r
end
/-! ### defs -/
structure Fn where
  np : Nat
  nl : Nat
  body : Ss
  pop : Bool := true
/-- old objects name no new one -/
def oldOk (n : Nat) (h h' : Hh) : Bool := (List.range n).all fun i => match h[i]?, h'[i]? with
  | some a, some b => b.clsd n || a.same b
  | _, _ => false
/-- a def's end: what was made by it is frozen, and what is handed back names no live object of its own -/
def leave (pop : Bool) (h0 : Hh) (d : D) (h : Hh) : Res D := if pop then (let d' := thaw h h0.length 4 d; if clsd h0.length d' && oldOk h0.length h0 h then .ok d' (h.take h0.length) else .stk) else .ok d h
def leaveX (pop : Bool) (h0 : Hh) (c : Nat) (d : D) (h : Hh) : Res D := match leave pop h0 d h with
  | .ok d h => .exc c d h
  | _ => .stk
def callFn (G : Glb) (F : Fn) (ds : List D) (h : Hh) : Res D := if ds.length = F.np then (match exes G F.body (ds ++ List.replicate (F.nl - F.np) .und) h with
    | .ok (.ret d) _ h' => leave F.pop h d h'
    | .ok .nx _ h' => leave F.pop h .non h'
    | .exc c p _ h' => leaveX F.pop h c p h'
    | _ => .stk) else .stk
structure Prg where
  fns : List Fn
  sub : Nat → Nat → Bool
/-- the globals at a depth -/
def glb (P : Prg) (wh : (List D → Hh → Res D) → (List D → Hh → SRes) → List D → Hh → SRes) : Nat → Glb
  | 0 => ⟨fun _ _ _ => .stk, P.sub, fun _ _ _ => .stk, wh⟩
  | n + 1 => ⟨fun f ds h => match P.fns[f]? with
      | some F => callFn (glb P wh n) F ds h
      | none => .stk, P.sub, fun b cs h => ev (glb P wh n) b cs h, wh⟩
end Mn
/-! # What a value of Mini stands for -/
namespace Mn
open PySem L2
/-- a lambda of the text: its maker's names, its own scope, parameters, body, the maker's qualified name -/
structure LamI where
  N : List Str
  sc : Scope
  params : Arguments
  body : Expr
  qual : Str
structure Tb where
  K : PySem.W.Frag
  cls : Nat → Option Addr
  fld : Nat → Str
  lam : E → LamI → Prop
  tabs : List (Addr × Str)
/-- a knowledge: frozen things, the live objects' addresses, private things, pinned errors -/
structure Rl where
  F : Hp
  rho : List Addr
  P : Hp
  pn : List (Addr × Obj)
def ExT (cls : Value) (d : Option Addr) (a : Addr) : HO := .ext fun h => ∃ (oe : Obj) (vs : Array Value), h.get? a = some oe ∧ Zc cls d oe ∧ oe.data = .fields vs
def CellT (c : Addr) (o : Obj) : HO := .ext fun h => h.get? c = some o
def lamO (I : LamI) (c' : Addr) (cl : List (Str × Addr)) (pm ctv : Value) : Obj := PySem.W.kla_obj "<lambda>" (I.qual ++ "<lambda>") I.params I.body I.sc cl pm c' ctv
/-- an error object at a -/
def ExAt (R : Rl) (a : Addr) (cls : Value) (d : Option Addr) : Prop := R.F a = some (ExT cls d a)
def valN : Str := "value"
/-- X.__init__(self, value) -/
def spI (C : Addr) : Sp := fun vs H Q _ => ∃ a v, vs = [.ref a, v] ∧ H a = some (exo a C none) ∧ ∀ dx, H dx = none → dx ≠ a → Q .non (upd (upd H dx (exd dx [(valN, v)])) a (exo a C (some dx)))
/-- the cells that a lambda took along -/
structure CloK (F : Hp) (I : LamI) (cl : List (Str × Addr)) (ws : List (Option V)) : Prop where
  len : ws.length = I.N.length
  cel : ∀ x c, cl.lookup x = some c → ∃ o v, F c = some (CellT c o) ∧ o.data = .cell v
  inj : ∀ x y c, cl.lookup x = some c → cl.lookup y = some c → x = y
  has : ∀ x, I.sc.names.lookup x = some .free → ∃ c, cl.lookup x = some c
  val : ∀ (i : Nat) (x : Str) (w : V), I.N[i]? = some x → ws[i]? = some (some w) → I.sc.names.lookup x = some .free → ∃ c o u, cl.lookup x = some c ∧ F c = some (CellT c o) ∧ o.data = .cell (some u) ∧ RelV w u
theorem CloK.mono {F F' : Hp} {I : LamI} {cl : List (Str × Addr)} {ws : List (Option V)} (k : CloK F I cl ws) (e : ∀ a o, F a = some o → F' a = some o) : CloK F' I cl ws :=
  ⟨k.len, fun x c h => let ⟨o, v, q, z⟩ := k.cel x c h; ⟨o, v, e _ _ q, z⟩, k.inj, k.has, fun i x w h1 h2 h3 => let ⟨c, o, u, q1, q2, q3⟩ := k.val i x w h1 h2 h3; ⟨c, o, u, q1, e _ _ q2, q3⟩⟩
mutual
def DV (T : Tb) (R : Rl) : D → V → Prop
  | .und, _ => False
  | .non, v => v = .non
  | .bl b, v => v = .bl b
  | .int i, v => v = .int i
  | .str x, v => v = .str x
  | .lst xs, v => ∃ a vs, v = .ref a ∧ R.F a = some (.lst vs) ∧ DVs T R xs vs
  | .ro xs, v => ∃ a vs, v = .ref a ∧ SqL T.K R.F a vs ∧ DVs T R xs vs
  | .tup xs, v => ∃ a vs, v = .ref a ∧ R.F a = some (.tup vs) ∧ DVs T R xs vs
  | .dK kvs, v => ∃ a ps, v = .ref a ∧ R.F a = some (.dK ps) ∧ DVk T R kvs ps
  | .dT kvs, v => ∃ a ps, v = .ref a ∧ R.F a = some (.dT ps) ∧ DVt T R kvs ps
  | .cel c, v => ∃ a, v = .ref a ∧ R.rho[c]? = some a
  | .exc c p, v => ∃ a C d, v = .ref a ∧ T.cls c = some C ∧ ExAt R a (.ref C) d ∧ ((p = .und ∧ d = none) ∨ ∃ dx pv, d = some dx ∧ R.F dx = some (.xd [(valN, pv)]) ∧ DV T R p pv)
  | .clo k cs, v => ∃ f I c' cl ws, v = .ref f ∧ T.lam k I ∧ (∃ pm ctv, R.F f = some (CellT f (lamO I c' cl pm ctv))) ∧ R.F c' = some (LamX.CodeO c' (I.qual ++ "<lambda>")) ∧ DVE T R cs ws ∧ CloK R.F I cl ws
def DVs (T : Tb) (R : Rl) : List D → List V → Prop
  | [], [] => True
  | d :: ds, v :: vs => DV T R d v ∧ DVs T R ds vs
  | _, _ => False
def DVk (T : Tb) (R : Rl) : List (Key × D) → List (Key × V) → Prop
  | [], [] => True
  | (k, d) :: ds, (l, v) :: vs => k = l ∧ DV T R d v ∧ DVk T R ds vs
  | _, _ => False
def DVt (T : Tb) (R : Rl) : List (List Key × D) → List (List Key × V) → Prop
  | [], [] => True
  | (k, d) :: ds, (l, v) :: vs => k = l ∧ DV T R d v ∧ DVt T R ds vs
  | _, _ => False
/-- places: what is not told may be anything -/
def DVE (T : Tb) (R : Rl) : List D → List (Option V) → Prop
  | [], [] => True
  | d :: ds, o :: os => (d = .und ∨ ∃ w, o = some w ∧ DV T R d w) ∧ DVE T R ds os
  | _, _ => False
end
def DVf (T : Tb) (R : Rl) : List (Nat × D) → List (Str × V) → Prop
  | [], [] => True
  | (k, d) :: ds, (l, v) :: vs => T.fld k = l ∧ DV T R d v ∧ DVf T R ds vs
  | _, _ => False
/-- what stands at a live object's address -/
def ObR (T : Tb) (R : Rl) : Ob → Option HO → Prop
  | .lst ds, o => ∃ vs, o = some (.lst vs) ∧ DVs T R ds vs
  | .dK kvs, o => ∃ ps, o = some (.dK ps) ∧ DVk T R kvs ps
  | .dT kvs, o => ∃ ps, o = some (.dT ps) ∧ DVt T R kvs ps
  | .ins c fs, o => ∃ C dx gs, o = some (.ins C dx gs) ∧ T.cls c = some C ∧ DVf T R fs gs
  | .dead, _ => False
structure RelH (T : Tb) (R : Rl) (h : Hh) (H : Hp) : Prop where
  fz : ∀ a o, R.F a = some o → H a = some o
  pv : ∀ a o, R.P a = some o → H a = some o
  dj : ∀ a o, R.P a = some o → R.F a = none
  len : R.rho.length = h.length
  live : ∀ (c : Nat) (ob : Ob) (a : Addr), h[c]? = some ob → R.rho[c]? = some a → R.F a = none ∧ R.P a = none ∧ ObR T R ob (H a)
  nd : R.rho.Nodup
  px : ∀ a o, R.P a = some o → ∃ vs, o = .lst vs
  nt : ∀ a ps, R.F a ≠ some (.tbl ps)
  tb : LamX.Tabs T.tabs H
/-- more is known -/
structure Rle (R R' : Rl) : Prop where
  F : ∀ a o, R.F a = some o → R'.F a = some o
  rho : ∀ (c : Nat) (a : Addr), R.rho[c]? = some a → R'.rho[c]? = some a
  P : R'.P = R.P
  pn : R'.pn = R.pn
theorem Rle.refl (R : Rl) : Rle R R := ⟨fun _ _ h => h, fun _ _ h => h, rfl, rfl⟩
theorem Rle.trans {R R1 R2 : Rl} (a : Rle R R1) (b : Rle R1 R2) : Rle R R2 := ⟨fun x o h => b.F x o (a.F x o h), fun x o h => b.rho x o (a.rho x o h), b.P.trans a.P, b.pn.trans a.pn⟩
theorem SqL.mn {K : PySem.W.Frag} {H H' : Hp} {a : Addr} {xs : List V} (h : SqL K H a xs) (e : ∀ a o, H a = some o → H' a = some o) : SqL K H' a xs := by
  rcases h with (h | ⟨o, h⟩) | h
  · exact .inl (.inl (e _ _ h))
  · exact .inl (.inr ⟨o, e _ _ h⟩)
  · exact .inr h
theorem SqT.mn {K : PySem.W.Frag} {H H' : Hp} {a : Addr} {xs : List V} (h : SqT K H a xs) (e : ∀ a o, H a = some o → H' a = some o) : SqT K H' a xs := by
  rcases h with (h | ⟨o, h⟩) | h
  · exact .inl (.inl (e _ _ h))
  · exact .inl (.inr ⟨o, e _ _ h⟩)
  · exact .inr h
/-- tables are kept where tables and records of the library's own are -/
theorem Tabs.keep {T : List (Addr × Str)} {H H' : Hp} (t : LamX.Tabs T H) (e : ∀ b o, H b = some o → ((∃ ps, o = .tbl ps) ∨ ∃ φ, o = .ext φ) → H' b = some o) : LamX.Tabs T H' := fun p hp => by
  obtain ⟨ps, h1, h2, h3⟩ := t p hp
  refine ⟨ps, e _ _ h1 (.inl ⟨ps, rfl⟩), h2, fun pos cv hc => ?_⟩
  obtain ⟨c, e1, e2⟩ := h3 pos cv hc
  exact ⟨c, e1, e _ _ e2 (.inr ⟨_, rfl⟩)⟩
theorem ObR.nt {T : Tb} {R : Rl} {ob : Ob} {o : Option HO} {x : HO} (h : ObR T R ob o) (e : o = some x) : (∀ ps, x ≠ .tbl ps) ∧ ∀ φ, x ≠ .ext φ := by
  subst e
  cases ob with
  | lst ds => obtain ⟨vs, e, z⟩ := h; cases e; exact ⟨fun _ q => (nomatch q), fun _ q => (nomatch q)⟩
  | dK ds => obtain ⟨vs, e, z⟩ := h; cases e; exact ⟨fun _ q => (nomatch q), fun _ q => (nomatch q)⟩
  | dT ds => obtain ⟨vs, e, z⟩ := h; cases e; exact ⟨fun _ q => (nomatch q), fun _ q => (nomatch q)⟩
  | ins c fs => obtain ⟨C, dx, gs, e, e1, z⟩ := h; cases e; exact ⟨fun _ q => (nomatch q), fun _ q => (nomatch q)⟩
  | dead => exact absurd h id
theorem ExAt.mono {R R' : Rl} {a : Addr} {c : Value} {d : Option Addr} (hF : ∀ a o, R.F a = some o → R'.F a = some o) (_hp : R'.pn = R.pn) (h : ExAt R a c d) : ExAt R' a c d := hF _ _ h
/-! ### more knowledge keeps what is told -/
section
variable {T : Tb} {R R' : Rl} (hF : ∀ a o, R.F a = some o → R'.F a = some o) (hr : ∀ (c : Nat) (a : Addr), R.rho[c]? = some a → R'.rho[c]? = some a) (hp : R'.pn = R.pn)
include hF hr hp
mutual
theorem DV.mono' : ∀ (d : D) (v : V), DV T R d v → DV T R' d v
  | .und, _, h => by simp only [DV] at h
  | .non, _, h => by simpa only [DV] using h
  | .bl _, _, h => by simpa only [DV] using h
  | .int _, _, h => by simpa only [DV] using h
  | .str _, _, h => by simpa only [DV] using h
  | .lst xs, v, h => by
    simp only [DV] at h ⊢
    obtain ⟨a, vs, e, s, z⟩ := h
    exact ⟨a, vs, e, hF _ _ s, DVs.mono' xs vs z⟩
  | .ro xs, v, h => by
    simp only [DV] at h ⊢
    obtain ⟨a, vs, e, s, z⟩ := h
    exact ⟨a, vs, e, SqL.mn s hF, DVs.mono' xs vs z⟩
  | .tup xs, v, h => by
    simp only [DV] at h ⊢
    obtain ⟨a, vs, e, s, z⟩ := h
    exact ⟨a, vs, e, hF _ _ s, DVs.mono' xs vs z⟩
  | .dK xs, v, h => by
    simp only [DV] at h ⊢
    obtain ⟨a, vs, e, s, z⟩ := h
    exact ⟨a, vs, e, hF _ _ s, DVk.mono' xs vs z⟩
  | .dT xs, v, h => by
    simp only [DV] at h ⊢
    obtain ⟨a, vs, e, s, z⟩ := h
    exact ⟨a, vs, e, hF _ _ s, DVt.mono' xs vs z⟩
  | .cel c, v, h => by
    simp only [DV] at h ⊢
    obtain ⟨a, e, z⟩ := h
    exact ⟨a, e, hr _ _ z⟩
  | .exc c p, v, h => by
    simp only [DV] at h ⊢
    obtain ⟨a, C, d, e, ec, ea, z⟩ := h
    refine ⟨a, C, d, e, ec, ea.mono hF hp, ?_⟩
    rcases z with z | ⟨dx, pv, e1, e2, e3⟩
    · exact .inl z
    · exact .inr ⟨dx, pv, e1, hF _ _ e2, DV.mono' p pv e3⟩
  | .clo k cs, v, h => by
    simp only [DV] at h ⊢
    obtain ⟨f, I, c', cl, ws, e, e1, e2, e3, e4, e5⟩ := h
    obtain ⟨pm, ctv, e2⟩ := e2
    exact ⟨f, I, c', cl, ws, e, e1, ⟨pm, ctv, hF _ _ e2⟩, hF _ _ e3, DVE.mono' cs ws e4, e5.mono hF⟩
theorem DVs.mono' : ∀ (d : List D) (v : List V), DVs T R d v → DVs T R' d v
  | [], [], _ => by simp only [DVs]
  | [], _ :: _, h => by simp only [DVs] at h
  | _ :: _, [], h => by simp only [DVs] at h
  | d :: ds, v :: vs, h => by
    simp only [DVs] at h ⊢
    exact ⟨DV.mono' d v h.1, DVs.mono' ds vs h.2⟩
theorem DVk.mono' : ∀ (d : List (Key × D)) (v : List (Key × V)), DVk T R d v → DVk T R' d v
  | [], [], _ => by simp only [DVk]
  | [], _ :: _, h => by simp only [DVk] at h
  | _ :: _, [], h => by simp only [DVk] at h
  | (k, d) :: ds, (l, v) :: vs, h => by
    simp only [DVk] at h ⊢
    exact ⟨h.1, DV.mono' d v h.2.1, DVk.mono' ds vs h.2.2⟩
theorem DVt.mono' : ∀ (d : List (List Key × D)) (v : List (List Key × V)), DVt T R d v → DVt T R' d v
  | [], [], _ => by simp only [DVt]
  | [], _ :: _, h => by simp only [DVt] at h
  | _ :: _, [], h => by simp only [DVt] at h
  | (k, d) :: ds, (l, v) :: vs, h => by
    simp only [DVt] at h ⊢
    exact ⟨h.1, DV.mono' d v h.2.1, DVt.mono' ds vs h.2.2⟩
theorem DVE.mono' : ∀ (d : List D) (v : List (Option V)), DVE T R d v → DVE T R' d v
  | [], [], _ => by simp only [DVE]
  | [], _ :: _, h => by simp only [DVE] at h
  | _ :: _, [], h => by simp only [DVE] at h
  | d :: ds, v :: vs, h => by
    simp only [DVE] at h ⊢
    refine ⟨?_, DVE.mono' ds vs h.2⟩
    rcases h.1 with z | ⟨w, e, z⟩
    · exact .inl z
    · exact .inr ⟨w, e, DV.mono' d w z⟩
end
end
section
variable {T : Tb} {R R' : Rl} (hF : ∀ a o, R.F a = some o → R'.F a = some o) (hr : ∀ (c : Nat) (a : Addr), R.rho[c]? = some a → R'.rho[c]? = some a) (hp : R'.pn = R.pn)
include hF hr hp
theorem DVf.mono' : ∀ {d : List (Nat × D)} {v : List (Str × V)}, DVf T R d v → DVf T R' d v
  | [], [], _ => trivial
  | [], _ :: _, h => h
  | _ :: _, [], h => h
  | (k, d) :: ds, (j, v) :: vs, h => ⟨h.1, DV.mono' hF hr hp d v h.2.1, DVf.mono' h.2.2⟩
theorem ObR.mono' {ob : Ob} {o : Option HO} (h : ObR T R ob o) : ObR T R' ob o := by
  cases ob with
  | lst ds => obtain ⟨vs, e, z⟩ := h; exact ⟨vs, e, DVs.mono' hF hr hp _ _ z⟩
  | dK ds => obtain ⟨vs, e, z⟩ := h; exact ⟨vs, e, DVk.mono' hF hr hp _ _ z⟩
  | dT ds => obtain ⟨vs, e, z⟩ := h; exact ⟨vs, e, DVt.mono' hF hr hp _ _ z⟩
  | ins c fs => obtain ⟨C, dx, gs, e, e1, z⟩ := h; exact ⟨C, dx, gs, e, e1, DVf.mono' hF hr hp z⟩
  | dead => exact h
end
section
variable {T : Tb} {R R' : Rl} (l : Rle R R')
include l
theorem DV.mono {d : D} {v : V} (h : DV T R d v) : DV T R' d v := DV.mono' l.F l.rho l.pn d v h
theorem DVs.mono {d : List D} {v : List V} (h : DVs T R d v) : DVs T R' d v := DVs.mono' l.F l.rho l.pn d v h
theorem DVk.mono {d : List (Key × D)} {v : List (Key × V)} (h : DVk T R d v) : DVk T R' d v := DVk.mono' l.F l.rho l.pn d v h
theorem DVt.mono {d : List (List Key × D)} {v : List (List Key × V)} (h : DVt T R d v) : DVt T R' d v := DVt.mono' l.F l.rho l.pn d v h
theorem DVE.mono {d : List D} {v : List (Option V)} (h : DVE T R d v) : DVE T R' d v := DVE.mono' l.F l.rho l.pn d v h
theorem DVf.mono {d : List (Nat × D)} {v : List (Str × V)} (h : DVf T R d v) : DVf T R' d v := DVf.mono' l.F l.rho l.pn h
theorem ObR.mono {ob : Ob} {o : Option HO} (h : ObR T R ob o) : ObR T R' ob o := ObR.mono' l.F l.rho l.pn h
end
/-! ### lists -/
section
variable {T : Tb} {R : Rl}
theorem DVs.length : ∀ {ds : List D} {vs : List V}, DVs T R ds vs → ds.length = vs.length
  | [], [], _ => rfl
  | [], _ :: _, h => by simp only [DVs] at h
  | _ :: _, [], h => by simp only [DVs] at h
  | d :: ds, v :: vs, h => by
    simp only [DVs] at h
    simp only [List.length_cons, DVs.length h.2]
theorem DVs.get : ∀ {ds : List D} {vs : List V} {i : Nat} {d : D}, DVs T R ds vs → ds[i]? = some d → ∃ v, vs[i]? = some v ∧ DV T R d v
  | [], [], i, d, _, e => by simp at e
  | [], _ :: _, _, _, h, _ => by simp only [DVs] at h
  | _ :: _, [], _, _, h, _ => by simp only [DVs] at h
  | d :: ds, v :: vs, 0, x, h, e => by
    simp only [DVs] at h
    simp at e
    subst e
    exact ⟨v, rfl, h.1⟩
  | d :: ds, v :: vs, i + 1, x, h, e => by
    simp only [DVs] at h
    simp at e
    obtain ⟨w, e1, e2⟩ := DVs.get h.2 e
    exact ⟨w, by simpa using e1, e2⟩
theorem DVs.append : ∀ {ds es : List D} {vs ws : List V}, DVs T R ds vs → DVs T R es ws → DVs T R (ds ++ es) (vs ++ ws)
  | [], _, [], _, _, h => h
  | [], _, _ :: _, _, h, _ => by simp only [DVs] at h
  | _ :: _, _, [], _, h, _ => by simp only [DVs] at h
  | d :: ds, es, v :: vs, ws, h, g => by
    simp only [DVs] at h
    simp only [List.cons_append, DVs]
    exact ⟨h.1, DVs.append h.2 g⟩
theorem DVs.set : ∀ {ds : List D} {vs : List V} (i : Nat) {d : D} {v : V}, DVs T R ds vs → DV T R d v → DVs T R (ds.set i d) (vs.set i v)
  | [], [], i, d, v, h, _ => by simpa using h
  | [], _ :: _, _, _, _, h, _ => by simp only [DVs] at h
  | _ :: _, [], _, _, _, h, _ => by simp only [DVs] at h
  | d :: ds, v :: vs, 0, x, w, h, g => by
    simp only [DVs] at h
    simp only [List.set_cons_zero, DVs]
    exact ⟨g, h.2⟩
  | d :: ds, v :: vs, i + 1, x, w, h, g => by
    simp only [DVs] at h
    simp only [List.set_cons_succ, DVs]
    exact ⟨h.1, DVs.set i h.2 g⟩
theorem DVs.take : ∀ {ds : List D} {vs : List V} (n : Nat), DVs T R ds vs → DVs T R (ds.take n) (vs.take n)
  | [], [], _, h => by simpa using h
  | [], _ :: _, _, h => by simp only [DVs] at h
  | _ :: _, [], _, h => by simp only [DVs] at h
  | d :: ds, v :: vs, 0, h => by simp [DVs]
  | d :: ds, v :: vs, n + 1, h => by
    simp only [DVs] at h
    simp only [List.take_succ_cons, DVs]
    exact ⟨h.1, DVs.take n h.2⟩
theorem DVs.drop : ∀ {ds : List D} {vs : List V} (n : Nat), DVs T R ds vs → DVs T R (ds.drop n) (vs.drop n)
  | [], [], _, h => by simpa using h
  | [], _ :: _, _, h => by simp only [DVs] at h
  | _ :: _, [], _, h => by simp only [DVs] at h
  | d :: ds, v :: vs, 0, h => by simpa using h
  | d :: ds, v :: vs, n + 1, h => by
    simp only [DVs] at h
    simp only [List.drop_succ_cons]
    exact DVs.drop n h.2
theorem DVs.erase : ∀ {ds : List D} {vs : List V} (n : Nat), DVs T R ds vs → DVs T R (ds.eraseIdx n) (vs.eraseIdx n)
  | [], [], _, h => by simpa using h
  | [], _ :: _, _, h => by simp only [DVs] at h
  | _ :: _, [], _, h => by simp only [DVs] at h
  | d :: ds, v :: vs, 0, h => by
    simp only [DVs] at h
    simpa using h.2
  | d :: ds, v :: vs, n + 1, h => by
    simp only [DVs] at h
    simp only [List.eraseIdx_cons_succ, DVs]
    exact ⟨h.1, DVs.erase n h.2⟩
theorem DVE.length : ∀ {ds : List D} {vs : List (Option V)}, DVE T R ds vs → ds.length = vs.length
  | [], [], _ => rfl
  | [], _ :: _, h => by simp only [DVE] at h
  | _ :: _, [], h => by simp only [DVE] at h
  | d :: ds, v :: vs, h => by
    simp only [DVE] at h
    simp only [List.length_cons, DVE.length h.2]
theorem DVE.get : ∀ {ds : List D} {vs : List (Option V)} {i : Nat} {d : D}, DVE T R ds vs → ds[i]? = some d → d ≠ .und → ∃ v, vs[i]? = some (some v) ∧ DV T R d v
  | [], [], i, d, _, e, _ => by simp at e
  | [], _ :: _, _, _, h, _, _ => by simp only [DVE] at h
  | _ :: _, [], _, _, h, _, _ => by simp only [DVE] at h
  | d :: ds, v :: vs, 0, x, h, e, n => by
    simp only [DVE] at h
    simp at e
    subst e
    rcases h.1 with z | ⟨w, e, z⟩
    · exact absurd z n
    · exact ⟨w, by simp [e], z⟩
  | d :: ds, v :: vs, i + 1, x, h, e, n => by
    simp only [DVE] at h
    simp at e
    obtain ⟨w, e1, e2⟩ := DVE.get h.2 e n
    exact ⟨w, by simpa using e1, e2⟩
theorem DVE.set : ∀ {ds : List D} {vs : List (Option V)} (i : Nat) {d : D} {v : V}, DVE T R ds vs → DV T R d v → DVE T R (ds.set i d) (vs.set i (some v))
  | [], [], i, d, v, h, _ => by simpa using h
  | [], _ :: _, _, _, _, h, _ => by simp only [DVE] at h
  | _ :: _, [], _, _, _, h, _ => by simp only [DVE] at h
  | d :: ds, v :: vs, 0, x, w, h, g => by
    simp only [DVE] at h
    simp only [List.set_cons_zero, DVE]
    exact ⟨.inr ⟨w, rfl, g⟩, h.2⟩
  | d :: ds, v :: vs, i + 1, x, w, h, g => by
    simp only [DVE] at h
    simp only [List.set_cons_succ, DVE]
    exact ⟨h.1, DVE.set i h.2 g⟩
theorem DVE.forget : ∀ {ds : List D} {vs : List (Option V)} (i : Nat) (o : Option V), DVE T R ds vs → DVE T R (ds.set i .und) (vs.set i o)
  | [], [], i, _, h => by simpa using h
  | [], _ :: _, _, _, h => by simp only [DVE] at h
  | _ :: _, [], _, _, h => by simp only [DVE] at h
  | d :: ds, v :: vs, 0, _, h => by
    simp only [DVE] at h
    simp only [List.set_cons_zero, DVE]
    exact ⟨.inl trivial, h.2⟩
  | d :: ds, v :: vs, i + 1, o, h => by
    simp only [DVE] at h
    simp only [List.set_cons_succ, DVE]
    exact ⟨h.1, DVE.forget i o h.2⟩
theorem set_self_opt {α : Type} : ∀ (l : List α) (i : Nat) (x : α), l[i]? = some x → l.set i x = l
  | [], _, _, _ => by simp
  | a :: l, 0, x, h => by simp at h; simp [h]
  | a :: l, i + 1, x, h => by simp at h; simp [set_self_opt l i x h]
theorem DVE.forget1 {ds : List D} {vs : List (Option V)} (i : Nat) (h : DVE T R ds vs) : DVE T R (ds.set i .und) vs := by
  cases e : vs[i]? with
  | none =>
    have : ds.length ≤ i := by rw [h.length]; exact List.getElem?_eq_none_iff.mp e
    rw [List.set_eq_of_length_le this]
    exact h
  | some o =>
    have z := h.forget i o
    rwa [set_self_opt vs i o e] at z
theorem DVE.wipeD {ds : List D} {vs : List (Option V)} (h : DVE T R ds vs) : ∀ l : List Nat, DVE T R (wipeD ds l) vs
  | [] => h
  | i :: l => by
    unfold Mn.wipeD
    exact DVE.forget1 i (DVE.wipeD h l)
theorem DVE.wipe {ds : List D} {vs : List (Option V)} (h : DVE T R ds vs) : ∀ l : List Nat, DVE T R (Mn.wipeD ds l) (L2.wipe vs l)
  | [] => h
  | i :: l => by
    unfold Mn.wipeD L2.wipe
    exact DVE.forget i none (DVE.wipe h l)
end
end Mn
/-! # How knowledge grows; the lifted readings -/
namespace Mn
open PySem L2
section
variable {T : Tb} {R : Rl} {h : Hh} {H : Hp} {p : Addr} {o : HO}
theorem RelH.addr (r : RelH T R h H) {c : Nat} {a : Addr} (e : R.rho[c]? = some a) : ∃ ob, h[c]? = some ob ∧ R.F a = none ∧ R.P a = none ∧ ObR T R ob (H a) := by
  have hc : c < R.rho.length := (List.getElem?_eq_some_iff.mp e).1
  rw [r.len] at hc
  exact ⟨h[c], by simp [hc], r.live c _ a (by simp [hc]) e⟩
theorem ObR.some {ob : Ob} {o : Option HO} (h : ObR T R ob o) : ∃ x, o = Option.some x := by
  cases ob with
  | lst ds => obtain ⟨vs, e, z⟩ := h; exact ⟨_, e⟩
  | dK ds => obtain ⟨vs, e, z⟩ := h; exact ⟨_, e⟩
  | dT ds => obtain ⟨vs, e, z⟩ := h; exact ⟨_, e⟩
  | ins c fs => obtain ⟨C, dx, gs, e, e1, z⟩ := h; exact ⟨_, e⟩
  | dead => exact absurd h id
theorem RelH.fresh (r : RelH T R h H) (n : H p = none) : R.F p = none ∧ R.P p = none ∧ p ∉ R.rho := by
  refine ⟨?_, ?_, fun hm => ?_⟩
  · cases e : R.F p with
    | none => rfl
    | some u => rw [r.fz _ _ e] at n; cases n
  · cases e : R.P p with
    | none => rfl
    | some u => rw [r.pv _ _ e] at n; cases n
  · obtain ⟨c, hc⟩ := List.getElem?_of_mem hm
    obtain ⟨ob, _, _, _, z⟩ := r.addr hc
    obtain ⟨x, e⟩ := z.some
    rw [e] at n; cases n
/-- a new thing besides -/
theorem RelH.aside (r : RelH T R h H) (n : H p = none) : RelH T R h (upd H p o) := by
  refine ⟨fun a u e => ?_, fun a u e => ?_, r.dj, r.len, fun c ob a e1 e2 => ?_, r.nd, r.px, r.nt, Tabs.keep r.tb fun b u e _ => by rw [upd_ne (ne_of_none e n)]; exact e⟩
  · rw [upd_ne (ne_of_none (r.fz _ _ e) n)]; exact r.fz _ _ e
  · rw [upd_ne (ne_of_none (r.pv _ _ e) n)]; exact r.pv _ _ e
  · obtain ⟨z1, z2, z3⟩ := r.live c ob a e1 e2
    obtain ⟨x, e⟩ := z3.some
    rw [upd_ne (ne_of_none e n)]
    exact ⟨z1, z2, z3⟩
/-- more frozen facts of what stands -/
theorem RelH.know {F' : Hp} (r : RelH T R h H) (e1 : ∀ a o, R.F a = some o → F' a = some o) (e2 : ∀ a o, F' a = some o → H a = some o) (e3 : ∀ a ∈ R.rho, F' a = none) (e4 : ∀ a o, R.P a = some o → F' a = none) (e5 : ∀ a ps, F' a ≠ some (.tbl ps)) :
    RelH T { R with F := F' } h H ∧ Rle R { R with F := F' } := by
  have l : Rle R { R with F := F' } := ⟨e1, fun _ _ h => h, rfl, rfl⟩
  refine ⟨⟨e2, r.pv, e4, r.len, fun c ob a h1 h2 => ?_, r.nd, r.px, e5, r.tb⟩, l⟩
  obtain ⟨z1, z2, z3⟩ := r.live c ob a h1 h2
  exact ⟨e3 a (List.mem_of_getElem? h2), z2, z3.mono l⟩
/-- a new frozen thing -/
theorem RelH.laid (r : RelH T R h H) (n : H p = none) (ho : ∀ ps, o ≠ .tbl ps := by intro _ z; cases z) : RelH T { R with F := upd R.F p o } h (upd H p o) ∧ Rle R { R with F := upd R.F p o } := by
  obtain ⟨f1, f2, f3⟩ := r.fresh n
  refine (r.aside (o := o) n).know (fun a u e => ?_) (fun a u e => ?_) (fun a ha => ?_) (fun a u e => ?_) (fun a ps e => ?_)
  · rw [upd_ne (ne_of_none e f1)]; exact e
  · by_cases ha : a = p
    · subst ha; rw [upd_same] at e ⊢; exact e
    · rw [upd_ne ha] at e ⊢; exact r.fz _ _ e
  · rw [upd_ne (fun z => by rw [z] at ha; exact f3 ha)]
    obtain ⟨c, hc⟩ := List.getElem?_of_mem ha
    exact (r.addr hc).choose_spec.2.1
  · rw [upd_ne (ne_of_none e f2)]
    exact r.dj _ _ e
  · by_cases ha : a = p
    · subst ha; rw [upd_same] at e; exact ho ps (Option.some.inj e)
    · rw [upd_ne ha] at e; exact r.nt a ps e
/-- a new live object -/
theorem RelH.live' {ob : Ob} (r : RelH T R h H) (n : H p = none) (ho : ObR T { R with rho := R.rho ++ [p] } ob (some o)) : RelH T { R with rho := R.rho ++ [p] } (h ++ [ob]) (upd H p o) ∧ Rle R { R with rho := R.rho ++ [p] } ∧ (R.rho ++ [p])[h.length]? = some p := by
  obtain ⟨f1, f2, f3⟩ := r.fresh n
  have l : Rle R { R with rho := R.rho ++ [p] } := ⟨fun _ _ h => h, fun c a e => by
    have hc : c < R.rho.length := (List.getElem?_eq_some_iff.mp e).1
    show (R.rho ++ [p])[c]? = some a
    rw [List.getElem?_append_left hc]; exact e, rfl, rfl⟩
  have ra := r.aside (o := o) n
  refine ⟨⟨ra.fz, ra.pv, ra.dj, by simp [r.len], fun c ob' a h1 h2 => ?_, ?_, ra.px, ra.nt, ra.tb⟩, l, ?_⟩
  · by_cases hc : c < h.length
    · rw [List.getElem?_append_left hc] at h1
      have h2 : (R.rho ++ [p])[c]? = some a := h2
      rw [List.getElem?_append_left (by rw [r.len]; exact hc)] at h2
      obtain ⟨z1, z2, z3⟩ := ra.live c ob' a h1 h2
      exact ⟨z1, z2, z3.mono l⟩
    · have hce : c = h.length := by
        have := (List.getElem?_eq_some_iff.mp h1).1
        simp at this
        omega
      subst hce
      have h2 : (R.rho ++ [p])[h.length]? = some a := h2
      rw [List.getElem?_append_right (Nat.le_refl _)] at h1
      rw [List.getElem?_append_right (by rw [r.len]; exact Nat.le_refl _)] at h2
      simp [r.len] at h1 h2
      subst h1 h2
      rw [upd_same]
      exact ⟨f1, f2, ho⟩
  · rw [List.nodup_append]
    refine ⟨r.nd, by simp, fun a ha b hb z => ?_⟩
    have : b = p := by simpa using hb
    subst this z
    exact f3 ha
  · rw [List.getElem?_append_right (by rw [r.len]; exact Nat.le_refl _)]
    simp [r.len]
/-- a live object changed -/
theorem RelH.write {c : Nat} {a : Addr} {ob : Ob} (r : RelH T R h H) (e : R.rho[c]? = some a) (ho : ObR T R ob (some o)) : RelH T R (h.set c ob) (upd H a o) := by
  obtain ⟨ob0, h0, f1, f2, z0⟩ := r.addr e
  refine ⟨fun b u q => ?_, fun b u q => ?_, r.dj, by simp [r.len], fun c' ob' a' h1 h2 => ?_, r.nd, r.px, r.nt, Tabs.keep r.tb fun b u q k => by
    rw [upd_ne (fun z => by
      subst z
      obtain ⟨n1, n2⟩ := z0.nt q
      rcases k with ⟨ps, k⟩ | ⟨φ, k⟩
      · exact n1 ps k
      · exact n2 φ k)]
    exact q⟩
  · rw [upd_ne (ne_of_none q f1)]; exact r.fz _ _ q
  · rw [upd_ne (ne_of_none q f2)]; exact r.pv _ _ q
  · by_cases hc : c' = c
    · subst hc
      rw [e] at h2
      cases h2
      have hl : c' < h.length := (List.getElem?_eq_some_iff.mp h0).1
      rw [List.getElem?_set_self hl] at h1
      cases h1
      rw [upd_same]
      exact ⟨f1, f2, ho⟩
    · rw [List.getElem?_set_ne (Ne.symm hc)] at h1
      have na : a' ≠ a := by
        rintro rfl
        obtain ⟨h3, e3⟩ := List.getElem?_eq_some_iff.mp h2
        obtain ⟨h4, e4⟩ := List.getElem?_eq_some_iff.mp e
        exact hc ((List.getElem_inj r.nd).mp (e3.trans e4.symm))
      rw [upd_ne na]
      exact r.live c' ob' a' h1 h2
/-- a private thing -/
theorem RelH.priv {vs : List V} (r : RelH T R h H) (e : H p = some (.lst vs)) (f1 : R.F p = none) (f3 : p ∉ R.rho) : RelH T { R with P := upd R.P p (.lst vs) } h H := by
  refine ⟨r.fz, fun a u q => ?_, fun a u q => ?_, r.len, fun c ob a h1 h2 => ?_, r.nd, fun a u q => by
    have q : upd R.P p (.lst vs) a = some u := q
    by_cases ha : a = p
    · subst ha; rw [upd_same] at q; cases q; exact ⟨vs, rfl⟩
    · rw [upd_ne ha] at q; exact r.px _ _ q, r.nt, r.tb⟩
  · by_cases ha : a = p
    · subst ha
      have q : upd R.P a (.lst vs) a = some u := q
      rw [upd_same] at q; cases q; exact e
    · have q : upd R.P p (.lst vs) a = some u := q
      rw [upd_ne ha] at q; exact r.pv _ _ q
  · by_cases ha : a = p
    · subst ha; exact f1
    · have q : upd R.P p (.lst vs) a = some u := q
      rw [upd_ne ha] at q; exact r.dj _ _ q
  · obtain ⟨z1, z2, z3⟩ := r.live c ob a h1 h2
    have na : a ≠ p := fun z => by rw [z] at h2; exact f3 (List.mem_of_getElem? h2)
    refine ⟨z1, ?_, ObR.mono' (R := R) (R' := { R with P := upd R.P p (.lst vs) }) (fun _ _ h => h) (fun _ _ h => h) rfl z3⟩
    show upd R.P p (.lst vs) a = none
    rw [upd_ne na]; exact z2
end
end Mn
/-! # The lifted readings -/
namespace Mn
open PySem L2
def ExcR (T : Tb) (R : Rl) (c : Nat) (p : D) (cls : Value) (d : Option Addr) : Prop :=
  ∃ C, T.cls c = some C ∧ cls = .ref C ∧ ((p = .und ∧ d = none) ∨ ∃ dx pv, d = some dx ∧ R.F dx = some (.xd [(valN, pv)]) ∧ DV T R p pv)
/-- what is left to be shown once a piece has come to r -/
def PostG {α β : Type} (rel : Rl → α → β → Prop) (T : Tb) (W : WX) (R : Rl) (σ : St) (r : Res α) (Q : β → Hp → Prop) : Prop := match r with
  | .ok d h => ∀ R' v H, Rle R R' → RelH T R' h H → rel R' d v → Q v H
  | .exc c p h => ∀ R' cls dx H, Rle R R' → RelH T R' h H → ExcR T R' c p cls dx → W cls dx σ H
  | .stk => False
abbrev Post (T : Tb) := PostG (DV T) T
abbrev PostL (T : Tb) := PostG (DVs T) T
section
variable {α β γ δ : Type} {rel : Rl → α → β → Prop} {rel2 : Rl → γ → δ → Prop} {T : Tb} {W : WX} {R R' : Rl} {σ : St}
theorem PostG.mono {r : Res α} {Q : β → Hp → Prop} (l : Rle R R') (p : PostG rel T W R σ r Q) : PostG rel T W R' σ r Q := by
  cases r with
  | ok d h => exact fun R2 v H l2 => p R2 v H (l.trans l2)
  | exc c x h => exact fun R2 v dx H l2 => p R2 v dx H (l.trans l2)
  | stk => exact p
theorem PostG.bind {r : Res α} {f : α → Hh → Res γ} {Q : δ → Hp → Prop} {Q1 : β → Hp → Prop} (p : PostG rel2 T W R σ (r.bind f) Q)
    (k : ∀ R1 a v h1 H1, Rle R R1 → RelH T R1 h1 H1 → rel R1 a v → PostG rel2 T W R1 σ (f a h1) Q → Q1 v H1) : PostG rel T W R σ r Q1 := by
  cases r with
  | ok d h => exact fun R1 v H l rl dv => k R1 d v h H l rl dv (p.mono l)
  | exc c x h => exact p
  | stk => exact p
theorem PostG.imp {r : Res α} {Q Q' : β → Hp → Prop} (p : PostG rel T W R σ r Q) (k : ∀ v H, Q v H → Q' v H) : PostG rel T W R σ r Q' := by
  cases r with
  | ok d h => exact fun R1 v H l rl dv => k v H (p R1 v H l rl dv)
  | exc c x h => exact p
  | stk => exact p
/-- the value there -/
theorem PostG.val {a : α} {v : β} {h : Hh} {H : Hp} {Q : β → Hp → Prop} (p : PostG rel T W R σ (.ok a h) Q) (r : RelH T R h H) (d : rel R a v) : Q v H := p R v H (Rle.refl R) r d
theorem Post.newF {xs : List D} {vs : List V} {h : Hh} {H : Hp} {Q : VK} {a : Addr} (p : Post T W R σ (.ok (.lst xs) h) Q) (r : RelH T R h H) (d : DVs T R xs vs) (n : H a = none) : Q (.ref a) (upd H a (.lst vs)) := by
  obtain ⟨r1, l⟩ := r.laid (o := .lst vs) n
  refine p _ _ _ l r1 ?_
  simp only [DV]
  exact ⟨a, vs, rfl, upd_same, d.mono l⟩
theorem Post.newT {xs : List D} {vs : List V} {h : Hh} {H : Hp} {Q : VK} {a : Addr} (p : Post T W R σ (.ok (.tup xs) h) Q) (r : RelH T R h H) (d : DVs T R xs vs) (n : H a = none) : Q (.ref a) (upd H a (.tup vs)) := by
  obtain ⟨r1, l⟩ := r.laid (o := .tup vs) n
  refine p _ _ _ l r1 ?_
  simp only [DV]
  exact ⟨a, vs, rfl, upd_same, d.mono l⟩
theorem Post.newLv {ob : Ob} {o : HO} {h : Hh} {H : Hp} {Q : VK} {a : Addr} (p : Post T W R σ (.ok (.cel h.length) (h ++ [ob])) Q) (r : RelH T R h H) (n : H a = none) (d : ∀ R', Rle R R' → ObR T R' ob (some o)) : Q (.ref a) (upd H a o) := by
  have l : Rle R { R with rho := R.rho ++ [a] } := ⟨fun _ _ h => h, fun c b e => by
    have hc : c < R.rho.length := (List.getElem?_eq_some_iff.mp e).1
    show (R.rho ++ [a])[c]? = some b
    rw [List.getElem?_append_left hc]; exact e, rfl, rfl⟩
  obtain ⟨r1, l1, e⟩ := r.live' (o := o) n (d _ l)
  refine p _ _ _ l1 r1 ?_
  simp only [DV]
  exact ⟨a, rfl, e⟩
theorem Post.newL {lv : Bool} {xs : List D} {vs : List V} {h : Hh} {H : Hp} {Q : VK} {a : Addr} (p : Post T W R σ (Mn.newL lv xs h) Q) (r : RelH T R h H) (d : DVs T R xs vs) (n : H a = none) : Q (.ref a) (upd H a (.lst vs)) := by
  unfold Mn.newL at p
  split at p
  · split at p
    · exact Post.newLv (ob := .lst xs) p r n fun R' l => ⟨vs, rfl, d.mono l⟩
    · exact Post.newF p r d n
  · exact absurd p id
theorem Post.newLen {lv : Bool} {xs : List D} {h : Hh} {Q : VK} (p : Post T W R σ (Mn.newL lv xs h) Q) : xs.length ≤ sizeL := by
  unfold Mn.newL at p
  split at p
  · assumption
  · exact absurd p id
end
theorem sizeL_eq : sizeL = sizeLine := by rw [sizeLine_eq]; rfl
theorem PE.weak {X : Cx} {e : PySem.Expr} {t t' : TE} (h : PE X e t) (w : ∀ σ H Q, t' σ H Q → t σ H Q) : PE X e t' := ⟨fun pins s σ H Q I hq => h.run pins s σ H Q I (w σ H Q hq)⟩
theorem PT.weak {X : Cx} {e : PySem.Expr} {t t' : TT} (h : PT X e t) (w : ∀ σ H Q, t' σ H Q → t σ H Q) : PT X e t' := ⟨fun pins s σ H Q I hq => h.run pins s σ H Q I (w σ H Q hq)⟩
theorem PW.weak {X : Cx} {e : PySem.Expr} {t t' : TT} (h : PW X e t) (w : ∀ σ H Q, t' σ H Q → t σ H Q) : PW X e t' := ⟨fun wh pins s σ H Q I hq => h.run wh pins s σ H Q I (w σ H Q hq)⟩
theorem PA.weak {X : Cx} {es : List PySem.Expr} {t t' : TA} (h : PA X es t) (w : ∀ σ H Q, t' σ H Q → t σ H Q) : PA X es t' := ⟨fun pos pins s σ H Q I hq => h.run pos pins s σ H Q I (w σ H Q hq)⟩
theorem PS.weak {X : Cx} {st : Stmt} {t t' : TS} (h : PS X st t) (w : ∀ D σ H, t' D σ H → t D σ H) : PS X st t' := ⟨fun pins s σ H D I hq => h.run pins s σ H D I (w D σ H hq)⟩
theorem PSs.weak {X : Cx} {st : List Stmt} {t t' : TS} (h : PSs X st t) (w : ∀ D σ H, t' D σ H → t D σ H) : PSs X st t' := ⟨fun pins s σ H D I hq => h.run pins s σ H D I (w D σ H hq)⟩
theorem PG.weak {X : Cx} {e : PySem.Expr} {t t' : TG} (h : PG X e t) (w : ∀ v σ H Q, t' v σ H Q → t v σ H Q) : PG X e t' := ⟨fun pins s σ H v u Q I r hq => h.run pins s σ H v u Q I r (w v σ H Q hq)⟩
theorem PI.weak {X : Cx} {tg e : PySem.Expr} {t t' : TI} (h : PI X tg e t) (w : ∀ σ H R, t' σ H R → t σ H R) : PI X tg e t' := ⟨fun pins s σ H R I hq => h.run pins s σ H R I (w σ H R hq)⟩
theorem PE.orr {X : Cx} {e : PySem.Expr} {t t' : TE} (h : PE X e t) (h' : PE X e t') : PE X e (fun σ H Q => t σ H Q ∨ t' σ H Q) := ⟨fun pins s σ H Q I hq => hq.elim (h.run pins s σ H Q I) (h'.run pins s σ H Q I)⟩
theorem OpR.orr {X : Cx} {f : Value → Value → Sem Value} {r r' : R2} (h : OpR X f r) (h' : OpR X f r') : OpR X f (fun x y H Q => r x y H Q ∨ r' x y H Q) := fun pins s σ H x y v u Q I rx ry hq => hq.elim (h pins s σ H x y v u Q I rx ry) (h' pins s σ H x y v u Q I rx ry)
theorem CallR.orr {X : Cx} {f : Value} {r r' : List V → Hp → VK → Prop} (h : CallR X f r) (h' : CallR X f r') : CallR X f (fun x H Q => r x H Q ∨ r' x H Q) := fun pins s σ H xs us Q I rx hq => hq.elim (h pins s σ H xs us Q I rx) (h' pins s σ H xs us Q I rx)
theorem PSet.orr {X : Cx} {r r' : TSet} (h : PSet X r) (h' : PSet X r') : PSet X (fun o i v H Q => r o i v H Q ∨ r' o i v H Q) := fun pins s σ H o i v ov iv u Q I ro ri rv hq => hq.elim (h pins s σ H o i v ov iv u Q I ro ri rv) (h' pins s σ H o i v ov iv u Q I ro ri rv)

/-- the reading of a piece m of Mini -/
def LE (T : Tb) (W : WX) (m : List D → Hh → Res D) : TE := fun σ H Q => ∃ R e h, RelH T R h H ∧ DVE T R e σ ∧ Post T W R σ (m e h) Q
def LA (T : Tb) (W : WX) (m : List D → Hh → Res (List D)) : TA := fun σ H Q => ∃ R e h, RelH T R h H ∧ DVE T R e σ ∧ PostL T W R σ (m e h) Q
/-! ### reading lists -/
section
variable {T : Tb} {R : Rl} {h : Hh} {H : Hp}
theorem lsW_rd (r : RelH T R h H) {d : D} {xs : List D} {v : V} (e : lsW h d = some xs) (dv : DV T R d v) : ∃ a vs, v = .ref a ∧ H a = some (.lst vs) ∧ DVs T R xs vs := by
  cases d with
  | lst ys =>
    simp only [lsW, Option.some.injEq] at e
    subst e
    simp only [DV] at dv
    obtain ⟨a, vs, e1, e2, e3⟩ := dv
    exact ⟨a, vs, e1, r.fz _ _ e2, e3⟩
  | cel c =>
    simp only [DV] at dv
    obtain ⟨a, e1, e2⟩ := dv
    simp only [lsW] at e
    split at e
    · rename_i ys hc
      cases e
      obtain ⟨_, _, vs, z1, z2⟩ := r.live c _ a hc e2
      exact ⟨a, vs, e1, z1, z2⟩
    · cases e
  | _ => simp [lsW] at e
theorem lsOf_rd (r : RelH T R h H) {d : D} {xs : List D} {v : V} (e : lsOf h d = some xs) (dv : DV T R d v) : ∃ a vs, v = .ref a ∧ SqL T.K H a vs ∧ DVs T R xs vs := by
  cases d with
  | lst ys =>
    obtain ⟨a, vs, e1, e2, e3⟩ := lsW_rd r (d := .lst ys) e dv
    exact ⟨a, vs, e1, SqL.of e2, e3⟩
  | cel c =>
    obtain ⟨a, vs, e1, e2, e3⟩ := lsW_rd r (d := .cel c) e dv
    exact ⟨a, vs, e1, SqL.of e2, e3⟩
  | ro ys =>
    simp only [lsOf, Option.some.injEq] at e
    subst e
    simp only [DV] at dv
    obtain ⟨a, vs, e1, e2, e3⟩ := dv
    exact ⟨a, vs, e1, SqL.mn e2 r.fz, e3⟩
  | _ => simp [lsOf] at e
theorem tup_rd (r : RelH T R h H) {xs : List D} {v : V} (dv : DV T R (.tup xs) v) : ∃ a vs, v = .ref a ∧ H a = some (.tup vs) ∧ DVs T R xs vs := by
  simp only [DV] at dv
  obtain ⟨a, vs, e1, e2, e3⟩ := dv
  exact ⟨a, vs, e1, r.fz _ _ e2, e3⟩
theorem DVs.replicate {xs : List D} {vs : List V} (d : DVs T R xs vs) : ∀ n : Nat, DVs T R (List.replicate n xs).flatten (List.replicate n vs).flatten
  | 0 => by simp [DVs]
  | n + 1 => by
    simp only [List.replicate_succ, List.flatten_cons]
    exact DVs.append d (DVs.replicate d n)
end
end Mn
/-! # The operators -/
namespace Mn
open PySem L2 PyProof.Rows
section
variable {X : Cx}
theorem bits_le (i : Int) : Builtin.Int.intBits i ≤ i.natAbs.log2 + 1 := by
  unfold Builtin.Int.intBits
  split <;> omega
def CPowB (i j : Int) : Prop := 0 ≤ j ∧ ((i.natAbs.log2 + 1 : Nat) : Int) * j ≤ 134217728
theorem op_powB : OpR X (binaryOp .Pow) (rI CPowB fun i j => .int (i ^ j.toNat)) := opI fun i j _ _ _ _ _ hc q => pow_int hc.1 (by
  have h1 := bits_le i
  have h2 : (Builtin.Int.intBits i : Int) * j ≤ ((i.natAbs.log2 + 1 : Nat) : Int) * j := Int.mul_le_mul_of_nonneg_right (by omega) hc.1
  have h3 := hc.2
  omega) q
def rIs (neg : Bool) : R2 := fun x y H Q => ∃ b : Bool, y = .bl b ∧ Q (.bl (if neg then !decide (x = .bl b) else decide (x = .bl b))) H
theorem bool_iff {x : V} {v : Value} (b : Bool) (r : RelV x v) : (v == Value.bool b) = decide (x = .bl b) := by
  cases x with
  | non => cases r; rfl
  | bl c => cases r; cases b <;> cases c <;> rfl
  | int _ => obtain ⟨t, rfl⟩ := r; rfl
  | str _ => obtain ⟨t, rfl⟩ := r; rfl
  | byt _ => obtain ⟨t, rfl⟩ := r; rfl
  | flt _ => obtain ⟨t, rfl⟩ := r; rfl
  | ref _ => cases r; rfl
  | ty _ => cases r; rfl
theorem op_isB : OpR X (compareOp .Is) (rIs false) := by
  intro pins s σ H x y v u Q I rx ry h
  obtain ⟨b, rfl, q⟩ := h
  cases (show u = Value.bool b from ry)
  have z : EP X pins σ Q (.bool (v == .bool b)) s := ⟨.bl _, H, I, by rw [bool_iff b rx]; rfl, q⟩
  cases x with
  | non => cases rx; exact wpAny_pure z
  | bl c => cases rx; exact wpAny_pure z
  | int _ => obtain ⟨t, rfl⟩ := rx; exact wpAny_pure z
  | str _ => obtain ⟨t, rfl⟩ := rx; exact wpAny_pure z
  | byt _ => obtain ⟨t, rfl⟩ := rx; exact wpAny_pure z
  | flt _ => obtain ⟨t, rfl⟩ := rx; exact wpAny_pure z
  | ref _ => cases rx; exact wpAny_pure z
  | ty _ => cases rx; exact wpAny_pure z
theorem op_isnotB : OpR X (compareOp .IsNot) (rIs true) := by
  intro pins s σ H x y v u Q I rx ry h
  obtain ⟨b, rfl, q⟩ := h
  cases (show u = Value.bool b from ry)
  have z : EP X pins σ Q (.bool (!(v == .bool b))) s := ⟨.bl _, H, I, by rw [bool_iff b rx]; rfl, q⟩
  cases x with
  | non => cases rx; exact wpAny_pure z
  | bl c => cases rx; exact wpAny_pure z
  | int _ => obtain ⟨t, rfl⟩ := rx; exact wpAny_pure z
  | str _ => obtain ⟨t, rfl⟩ := rx; exact wpAny_pure z
  | byt _ => obtain ⟨t, rfl⟩ := rx; exact wpAny_pure z
  | flt _ => obtain ⟨t, rfl⟩ := rx; exact wpAny_pure z
  | ref _ => cases rx; exact wpAny_pure z
  | ty _ => cases rx; exact wpAny_pure z
end
/-! ### binary operators -/
def bop : BOp → Operator
  | .add => .Add
  | .sub => .Sub
  | .mul => .Mult
  | .fdv => .FloorDiv
  | .mod => .Mod
  | .pow => .Pow
def rBin (K : PySem.W.Frag) : BOp → R2
  | .add => fun x y H Q => ((rI0 fun i j => .int (i + j)) x y H Q ∨ (∃ i j, x = .str i ∧ y = .str j ∧ i.length + j.length ≤ sizeLine ∧ Q (.str (i ++ j)) H)) ∨ (rCatA K x y H Q ∨ rCat x y H Q)
  | .sub => rI0 fun i j => .int (i - j)
  | .mul => fun x y H Q => (rI CMulW fun i j => .int (i * j)) x y H Q ∨ rRep x y H Q
  | .fdv => rI CDivW fun i j => .int (i / j)
  | .mod => rI (fun _ j => 0 < j) fun i j => .int (i % j)
  | .pow => rI CPowB fun i j => .int (i ^ j.toNat)
theorem op_bin {X : Cx} (o : BOp) : OpR X (binaryOp (bop o)) (rBin X.K o) := by
  cases o with
  | add => exact OpR.orr (OpR.orr op_add op_add_str) (OpR.orr op_catA op_cat)
  | sub => exact op_sub
  | mul => exact OpR.orr op_mulW op_rep
  | fdv => exact op_fdivW
  | mod => exact op_mod
  | pow => exact op_powB
section
variable {T : Tb} {W : WX} {R : Rl} {σ : L2.St} {h : Hh} {H : Hp} {Q : VK} {a b : D} {x y : V} {lv : Bool}
theorem int_rd {i : Int} {v : V} (d : DV T R (.int i) v) : v = .int i := by simpa only [DV] using d
theorem str_rd {i : Str} {v : V} (d : DV T R (.str i) v) : v = .str i := by simpa only [DV] using d
theorem bl_rd {i : Bool} {v : V} (d : DV T R (.bl i) v) : v = .bl i := by simpa only [DV] using d
theorem non_rd {v : V} (d : DV T R .non v) : v = .non := by simpa only [DV] using d
theorem int_dv (i : Int) : DV T R (.int i) (.int i) := by simp only [DV]
theorem str_dv (i : Str) : DV T R (.str i) (.str i) := by simp only [DV]
theorem bl_dv (i : Bool) : DV T R (.bl i) (.bl i) := by simp only [DV]
theorem non_dv : DV T R .non .non := by simp only [DV]
theorem cat_snd (r : RelH T R h H) (da : DV T R a x) (db : DV T R b y) (p : Post T W R σ (match lsW h a, lsW h b with
    | some xs, some ys => newL lv (xs ++ ys) h
    | _, _ => .stk) Q) : rCat x y H Q := by
  split at p
  · rename_i xs ys e1 e2
    obtain ⟨l, vs, rfl, h1, h2⟩ := lsW_rd r e1 da
    obtain ⟨m, ws, rfl, g1, g2⟩ := lsW_rd r e2 db
    refine ⟨l, m, vs, ws, rfl, rfl, h1, g1, ?_, fun q n => Post.newL p r (DVs.append h2 g2) n⟩
    have z := Post.newLen p
    rw [List.length_append, h2.length, g2.length, sizeL_eq] at z
    exact z
  · exact absurd p id
theorem bin_snd (o : BOp) (r : RelH T R h H) (da : DV T R a x) (db : DV T R b y) (p : Post T W R σ (binop lv o a b h) Q) : rBin T.K o x y H Q := by
  cases o with
  | add =>
    cases a with
    | int i =>
      cases b with
      | int j => exact .inl (.inl ⟨i, j, int_rd da, int_rd db, p.val r (int_dv _)⟩)
      | _ => exact .inr (.inr (cat_snd (lv := lv) r da db p))
    | str i =>
      cases b with
      | str j =>
        simp only [binop] at p
        split at p
        · rename_i z
          exact .inl (.inr ⟨i, j, str_rd da, str_rd db, by rw [← sizeL_eq]; exact z, p.val r (str_dv _)⟩)
        · exact absurd p id
      | _ => exact .inr (.inr (cat_snd (lv := lv) r da db p))
    | tup xs =>
      cases b with
      | tup ys =>
        simp only [binop] at p
        split at p
        · rename_i z
          obtain ⟨l, vs, rfl, h1, h2⟩ := tup_rd r da
          obtain ⟨m, ws, rfl, g1, g2⟩ := tup_rd r db
          refine .inr (.inl ⟨l, m, vs, ws, rfl, rfl, SqT.of h1, SqT.of g1, by rw [← sizeL_eq, ← h2.length, ← g2.length]; exact z, fun e => ?_, fun _ e => ?_, fun _ _ q n => Post.newT p r (DVs.append h2 g2) n⟩)
          · have e0 : xs = [] := List.eq_nil_of_length_eq_zero (by rw [h2.length, e]; rfl)
            subst e0
            exact p.val r db
          · have e0 : ys = [] := List.eq_nil_of_length_eq_zero (by rw [g2.length, e]; rfl)
            subst e0
            rw [List.append_nil] at p
            exact p.val r da
        · exact absurd p id
      | _ => exact .inr (.inr (cat_snd (lv := lv) r da db p))
    | _ => exact .inr (.inr (cat_snd (lv := lv) r da db p))
  | sub =>
    cases a <;> cases b <;> first | exact absurd p id | exact ⟨_, _, int_rd da, int_rd db, p.val r (int_dv _)⟩
  | mul =>
    have rep : ∀ {k : Int}, b = .int k → Post T W R σ (match lsW h a with
        | some xs => if xs.length * k.toNat ≤ sizeL ∧ -(2 ^ 63) ≤ k ∧ k < 2 ^ 63 then newL lv (List.replicate k.toNat xs).flatten h else .stk
        | none => .stk) Q → rRep x y H Q := by
      intro k e p'
      clear p
      subst e
      split at p'
      · rename_i xs e1
        split at p'
        · rename_i z
          obtain ⟨l, vs, rfl, h1, h2⟩ := lsW_rd r e1 da
          exact ⟨l, k, vs, rfl, int_rd db, h1, z.2.1, z.2.2, by rw [← sizeL_eq, ← h2.length]; exact z.1, fun q n => Post.newL p' r (h2.replicate _) n⟩
        · exact absurd p' id
      · exact absurd p' id
    cases b with
    | int k =>
      cases a with
      | int i =>
        simp only [binop] at p
        split at p
        · rename_i z
          exact .inl ⟨i, k, int_rd da, int_rd db, (by have z2 : i.natAbs.log2 + k.natAbs.log2 < 1000000 := of_decide_eq_true z; exact z2), p.val r (int_dv _)⟩
        · exact absurd p id
      | _ => exact .inr (rep rfl p)
    | _ => cases a <;> exact absurd p id
  | fdv =>
    cases a with
    | int i =>
      cases b with
      | int j =>
        simp only [binop] at p
        split at p
        · rename_i z
          unfold fdvOk at z
          rw [Bool.and_eq_true] at z
          exact ⟨i, j, int_rd da, int_rd db, ⟨of_decide_eq_true z.1, of_decide_eq_true z.2⟩, p.val r (int_dv _)⟩
        · exact absurd p id
      | _ => exact absurd p id
    | _ => exact absurd p id
  | mod =>
    cases a with
    | int i =>
      cases b with
      | int j =>
        simp only [binop] at p
        split at p
        · rename_i z
          exact ⟨i, j, int_rd da, int_rd db, z, p.val r (int_dv _)⟩
        · exact absurd p id
      | _ => exact absurd p id
    | _ => exact absurd p id
  | pow =>
    cases a with
    | int i =>
      cases b with
      | int j =>
        simp only [binop] at p
        split at p
        · rename_i z
          unfold powOk at z
          rw [Bool.and_eq_true] at z
          exact ⟨i, j, int_rd da, int_rd db, ⟨of_decide_eq_true z.1, of_decide_eq_true z.2⟩, p.val r (int_dv _)⟩
        · exact absurd p id
      | _ => exact absurd p id
    | _ => exact absurd p id
end
end Mn
/-! # Comparisons, subscripts -/
namespace Mn
open PySem L2 PyProof.Rows
section
variable {T : Tb} {R : Rl} {h : Hh} {H : Hp}
/-! ### plain data -/
section
variable (r : RelH T R h H)
include r
mutual
theorem py_dp : ∀ (d : D) (v : V) (p : PySem.PyData), d.py = some p → DV T R d v → Dp T.K H v p
  | .und, _, _, e, _ => by simp [D.py] at e
  | .non, v, p, e, dv => by
    simp only [D.py, Option.some.injEq] at e
    rw [non_rd dv, ← e]; exact .non
  | .bl b, v, p, e, dv => by
    simp only [D.py, Option.some.injEq] at e
    rw [bl_rd dv, ← e]; exact .bl b
  | .int b, v, p, e, dv => by
    simp only [D.py, Option.some.injEq] at e
    rw [int_rd dv, ← e]; exact .int b
  | .str b, v, p, e, dv => by
    simp only [D.py, Option.some.injEq] at e
    rw [str_rd dv, ← e]; exact .str b
  | .lst xs, v, p, e, dv => by
    simp only [D.py, Option.map_eq_some_iff] at e
    obtain ⟨ps, e1, e2⟩ := e
    obtain ⟨a, vs, rfl, h1, h2⟩ := lsW_rd r (d := .lst xs) rfl dv
    subst e2
    exact .lst (SqL.of h1) (pyAll_dp xs vs ps e1 h2)
  | .tup xs, v, p, e, dv => by
    simp only [D.py, Option.map_eq_some_iff] at e
    obtain ⟨ps, e1, e2⟩ := e
    obtain ⟨a, vs, rfl, h1, h2⟩ := tup_rd r dv
    subst e2
    exact .tup (SqT.of h1) (pyAll_dp xs vs ps e1 h2)
  | .ro _, _, _, e, _ => by simp [D.py] at e
  | .dK _, _, _, e, _ => by simp [D.py] at e
  | .dT _, _, _, e, _ => by simp [D.py] at e
  | .cel _, _, _, e, _ => by simp [D.py] at e
  | .exc _ _, _, _, e, _ => by simp [D.py] at e
  | .clo _ _, _, _, e, _ => by simp [D.py] at e
theorem pyAll_dp : ∀ (d : List D) (v : List V) (p : List PySem.PyData), D.pyAll d = some p → DVs T R d v → DpAll T.K H v p
  | [], [], p, e, _ => by
    simp only [D.pyAll, Option.some.injEq] at e
    rw [← e]; exact .nil
  | [], _ :: _, _, _, h => by simp only [DVs] at h
  | _ :: _, [], _, _, h => by simp only [DVs] at h
  | d :: ds, v :: vs, p, e, hd => by
    simp only [DVs] at hd
    simp only [D.pyAll] at e
    split at e
    · rename_i y ys e1 e2
      simp only [Option.some.injEq] at e
      subst e
      exact .cons (py_dp d v y e1 hd.1) (pyAll_dp ds vs ys e2 hd.2)
    · cases e
end
theorem pyMap_dp {f : D → D} (ih : ∀ (d : D) (v : V) (p : PySem.PyData), (f d).py = some p → DV T R d v → Dp T.K H v p) :
    ∀ (d : List D) (v : List V) (p : List PySem.PyData), D.pyAll (d.map f) = some p → DVs T R d v → DpAll T.K H v p
  | [], [], p, e, _ => by
    simp only [List.map_nil, D.pyAll, Option.some.injEq] at e
    rw [← e]; exact .nil
  | [], _ :: _, _, _, h => by simp only [DVs] at h
  | _ :: _, [], _, _, h => by simp only [DVs] at h
  | d :: ds, v :: vs, p, e, hd => by
    simp only [DVs] at hd
    simp only [List.map_cons, D.pyAll] at e
    split at e
    · rename_i y ys e1 e2
      simp only [Option.some.injEq] at e
      subst e
      exact .cons (ih d v y e1 hd.1) (pyMap_dp ih ds vs ys e2 hd.2)
    · cases e
theorem thaw_dp (n : Nat) : ∀ (k : Nat) (d : D) (v : V) (p : PySem.PyData), (thaw h n k d).py = some p → DV T R d v → Dp T.K H v p
  | 0, d, v, p, e, dv => py_dp r d v p (by simpa only [thaw] using e) dv
  | k + 1, d, v, p, e, dv => by
    cases d with
    | cel c =>
      simp only [DV] at dv
      obtain ⟨a, rfl, e2⟩ := dv
      simp only [thaw] at e
      split at e
      · simp [D.py] at e
      · split at e
        · rename_i xs hc
          simp only [D.py, Option.map_eq_some_iff] at e
          obtain ⟨ps, e1, e3⟩ := e
          subst e3
          obtain ⟨_, _, vs, z1, z2⟩ := r.live c _ a hc e2
          exact .lst (SqL.of z1) (pyMap_dp r (thaw_dp n k) xs vs ps e1 z2)
        · simp [D.py] at e
        · simp [D.py] at e
        · simp [D.py] at e
    | lst xs =>
      simp only [thaw] at e
      split at e
      · exact py_dp r _ v p e dv
      · simp only [D.py, Option.map_eq_some_iff] at e
        obtain ⟨ps, e1, e3⟩ := e
        subst e3
        obtain ⟨a, vs, rfl, h1, h2⟩ := lsW_rd r (d := .lst xs) rfl dv
        exact .lst (SqL.of h1) (pyMap_dp r (thaw_dp n k) xs vs ps e1 h2)
    | tup xs =>
      simp only [thaw] at e
      split at e
      · exact py_dp r _ v p e dv
      · simp only [D.py, Option.map_eq_some_iff] at e
        obtain ⟨ps, e1, e3⟩ := e
        subst e3
        obtain ⟨a, vs, rfl, h1, h2⟩ := tup_rd r dv
        exact .tup (SqT.of h1) (pyMap_dp r (thaw_dp n k) xs vs ps e1 h2)
    | _ => exact py_dp r _ v p (by simpa only [thaw] using e) dv
end
/-! ### flat values -/
theorem flat_rd {d : D} {v : V} (f : flat d = true) (dv : DV T R d v) : flatV v = true := by
  cases d <;> first | (simp [flat] at f; done) | skip
  · rw [non_rd dv]; rfl
  · rw [bl_rd dv]; rfl
  · rw [int_rd dv]; rfl
  · rw [str_rd dv]; rfl
theorem eqF_rd {a b : D} {x y : V} (f : flat a = true) (g : flat b = true) (da : DV T R a x) (db : DV T R b y) : eqV x y = eqF a b := by
  cases a <;> first | (simp [flat] at f; done) | skip
  all_goals (cases b <;> first | (simp [flat] at g; done) | skip)
  all_goals (first | rw [non_rd da] | rw [bl_rd da] | rw [int_rd da] | rw [str_rd da])
  all_goals (first | rw [non_rd db] | rw [bl_rd db] | rw [int_rd db] | rw [str_rd db])
  all_goals (first | rfl | (simp only [eqV, eqF]; rw [Bool.beq_eq_decide_eq]) | (simp [eqV, eqF]))
theorem flats_rd : ∀ {ds : List D} {vs : List V}, ds.all flat = true → DVs T R ds vs → vs.all flatV = true
  | [], [], _, _ => rfl
  | [], _ :: _, _, h => by simp only [DVs] at h
  | _ :: _, [], _, h => by simp only [DVs] at h
  | d :: ds, v :: vs, f, h => by
    simp only [DVs] at h
    simp only [List.all_cons, Bool.and_eq_true] at f ⊢
    exact ⟨flat_rd f.1 h.1, flats_rd f.2 h.2⟩
theorem any_rd {b : D} {y : V} (g : flat b = true) (db : DV T R b y) : ∀ {ds : List D} {vs : List V}, ds.all flat = true → DVs T R ds vs → (vs.any fun z => eqV z y) = ds.any fun z => eqF z b
  | [], [], _, _ => rfl
  | [], _ :: _, _, h => by simp only [DVs] at h
  | _ :: _, [], _, h => by simp only [DVs] at h
  | d :: ds, v :: vs, f, h => by
    simp only [DVs] at h
    simp only [List.all_cons, Bool.and_eq_true] at f
    simp only [List.any_cons]
    rw [eqF_rd f.1 g h.1 db, any_rd g db f.2 h.2]
/-! ### dicts -/
theorem key_rd {d : D} {v : V} {k : Key} (e : keyOf d = some k) (dv : DV T R d v) : v = kV k := by
  cases d <;> simp [keyOf] at e
  · rw [int_rd dv, ← e]; rfl
  · rw [str_rd dv, ← e]; rfl
theorem keys_rd : ∀ {ds : List D} {vs : List V} {ks : List Key}, ds.mapM keyOf = some ks → DVs T R ds vs → vs = ks.map kV
  | [], [], ks, e, _ => by simp at e; subst e; rfl
  | [], _ :: _, _, _, h => by simp only [DVs] at h
  | _ :: _, [], _, _, h => by simp only [DVs] at h
  | d :: ds, v :: vs, ks, e, h => by
    simp only [DVs] at h
    simp only [List.mapM_cons] at e
    cases e1 : keyOf d with
    | none => rw [e1] at e; simp at e
    | some k =>
      cases e2 : ds.mapM keyOf with
      | none => rw [e1, e2] at e; simp at e
      | some kr =>
        rw [e1, e2] at e
        simp at e
        subst e
        rw [key_rd e1 h.1, keys_rd e2 h.2]; rfl
theorem valO_k {k : Key} : ∀ {ds : List (Key × D)} {vs : List (Key × V)}, DVk T R ds vs → (∀ d, valO ds k = some d → ∃ v, valV vs k = some v ∧ DV T R d v) ∧ (valO ds k = none → valV vs k = none)
  | [], [], _ => ⟨fun d e => by simp [valO] at e, fun _ => rfl⟩
  | [], _ :: _, h => by simp only [DVk] at h
  | _ :: _, [], h => by simp only [DVk] at h
  | (j, d) :: ds, (l, v) :: vs, h => by
    simp only [DVk] at h
    obtain ⟨e, h1, h2⟩ := h
    subst e
    by_cases z : j = k
    · have g1 : valO ((j, d) :: ds) k = some d := by simp [valO, List.find?_cons, z]
      have g2 : valV ((j, v) :: vs) k = some v := valV_pos z
      rw [g1, g2]
      exact ⟨fun x e => ⟨v, rfl, by cases e; exact h1⟩, fun e => by cases e⟩
    · have g1 : valO ((j, d) :: ds) k = valO ds k := by simp [valO, List.find?_cons, z]
      have g2 : valV ((j, v) :: vs) k = valV vs k := valV_neg z
      rw [g1, g2]
      exact valO_k h2
theorem valO_t {k : List Key} : ∀ {ds : List (List Key × D)} {vs : List (List Key × V)}, DVt T R ds vs → (∀ d, valO ds k = some d → ∃ v, valV vs k = some v ∧ DV T R d v) ∧ (valO ds k = none → valV vs k = none)
  | [], [], _ => ⟨fun d e => by simp [valO] at e, fun _ => rfl⟩
  | [], _ :: _, h => by simp only [DVt] at h
  | _ :: _, [], h => by simp only [DVt] at h
  | (j, d) :: ds, (l, v) :: vs, h => by
    simp only [DVt] at h
    obtain ⟨e, h1, h2⟩ := h
    subst e
    by_cases z : j = k
    · have g1 : valO ((j, d) :: ds) k = some d := by simp [valO, List.find?_cons, z]
      have g2 : valV ((j, v) :: vs) k = some v := valV_pos z
      rw [g1, g2]
      exact ⟨fun x e => ⟨v, rfl, by cases e; exact h1⟩, fun e => by cases e⟩
    · have g1 : valO ((j, d) :: ds) k = valO ds k := by simp [valO, List.find?_cons, z]
      have g2 : valV ((j, v) :: vs) k = valV vs k := valV_neg z
      rw [g1, g2]
      exact valO_t h2
/-- what a dict holds -/
theorem dGet_rd (r : RelH T R h H) {d k : D} {x y : V} {o : Option D} (e : dGet h d k = some o) (dd : DV T R d x) (dk : DV T R k y) :
    ∃ a q, x = .ref a ∧ DGet H a y q ∧ (∀ z, o = some z → ∃ v, q = some v ∧ DV T R z v) ∧ (o = none → q = none) ∧ IsD H a := by
  have K : ∀ {a : Addr} {kvs : List (Key × D)} {ps : List (Key × V)}, x = .ref a → H a = some (.dK ps) → DVk T R kvs ps → (keyOf k).map (fun x => valO kvs x) = some o →
      ∃ a q, x = .ref a ∧ DGet H a y q ∧ (∀ z, o = some z → ∃ v, q = some v ∧ DV T R z v) ∧ (o = none → q = none) ∧ IsD H a := by
    intro a kvs ps ex h1 h2 e
    simp only [Option.map_eq_some_iff] at e
    obtain ⟨kk, e1, e2⟩ := e
    subst e2
    obtain ⟨g1, g2⟩ := valO_k (k := kk) h2
    exact ⟨a, valV ps kk, ex, .inl ⟨ps, kk, .inl h1, key_rd e1 dk, rfl⟩, fun z ez => by obtain ⟨v, q1, q2⟩ := g1 z ez; exact ⟨v, q1, q2⟩, g2, .inl ⟨ps, .inl h1⟩⟩
  have KT : ∀ {a : Addr} {kvs : List (List Key × D)} {ps : List (List Key × V)}, x = .ref a → H a = some (.dT ps) → DVt T R kvs ps → (keysOf k).map (fun x => valO kvs x) = some o →
      ∃ a q, x = .ref a ∧ DGet H a y q ∧ (∀ z, o = some z → ∃ v, q = some v ∧ DV T R z v) ∧ (o = none → q = none) ∧ IsD H a := by
    intro a kvs ps ex h1 h2 e
    simp only [Option.map_eq_some_iff] at e
    obtain ⟨kk, e1, e2⟩ := e
    subst e2
    cases k <;> simp [keysOf] at e1
    rename_i xs
    obtain ⟨b, vs, rfl, hb, hv⟩ := tup_rd r dk
    have ev := keys_rd e1 hv
    subst ev
    obtain ⟨g1, g2⟩ := valO_t (k := kk) h2
    exact ⟨a, valV ps kk, ex, .inr ⟨ps, kk, b, .inl h1, rfl, hb, rfl⟩, fun z ez => by obtain ⟨v, q1, q2⟩ := g1 z ez; exact ⟨v, q1, q2⟩, g2, .inr ⟨ps, .inl h1⟩⟩
  cases d with
  | dK kvs =>
    simp only [DV] at dd
    obtain ⟨a, ps, ex, h1, h2⟩ := dd
    exact K ex (r.fz _ _ h1) h2 (by simpa only [dGet] using e)
  | dT kvs =>
    simp only [DV] at dd
    obtain ⟨a, ps, ex, h1, h2⟩ := dd
    exact KT ex (r.fz _ _ h1) h2 (by simpa only [dGet] using e)
  | cel c =>
    simp only [DV] at dd
    obtain ⟨a, ex, e2⟩ := dd
    simp only [dGet] at e
    split at e
    · rename_i kvs hc
      obtain ⟨_, _, ps, z1, z2⟩ := r.live c _ a hc e2
      exact K ex z1 z2 e
    · rename_i kvs hc
      obtain ⟨_, _, ps, z1, z2⟩ := r.live c _ a hc e2
      exact KT ex z1 z2 e
    · cases e
  | _ => simp [dGet] at e
theorem DVk.put {k : Key} {d : D} {v : V} (dv : DV T R d v) {ds : List (Key × D)} {vs : List (Key × V)} (h : DVk T R ds vs) : DVk T R (putO ds k d) (putK vs k v) := by
  have an : ∀ {ds : List (Key × D)} {vs : List (Key × V)}, DVk T R ds vs → (ds.any fun kv => decide (kv.1 = k)) = vs.any fun kv => decide (kv.1 = k) := by
    intro ds
    induction ds with
    | nil => intro vs h; cases vs with | nil => rfl | cons _ _ => simp only [DVk] at h
    | cons p r ih =>
      intro vs h
      cases vs with
      | nil => simp only [DVk] at h
      | cons q t =>
        obtain ⟨pk, pd⟩ := p; obtain ⟨qk, qv⟩ := q
        simp only [DVk] at h
        obtain ⟨rfl, _, h2⟩ := h
        simp only [List.any_cons, ih h2]
  have mp : ∀ {ds : List (Key × D)} {vs : List (Key × V)}, DVk T R ds vs → DVk T R (ds.map fun kv => if kv.1 = k then (kv.1, d) else kv) (vs.map fun kv => if kv.1 = k then (kv.1, v) else kv) := by
    intro ds
    induction ds with
    | nil => intro vs h; cases vs with | nil => simp [DVk] | cons _ _ => simp only [DVk] at h
    | cons p r ih =>
      intro vs h
      cases vs with
      | nil => simp only [DVk] at h
      | cons q t =>
        obtain ⟨pk, pd⟩ := p; obtain ⟨qk, qv⟩ := q
        simp only [DVk] at h
        obtain ⟨rfl, h1, h2⟩ := h
        simp only [List.map_cons]
        by_cases z : pk = k
        · simp only [z, if_true, DVk]; exact ⟨trivial, dv, ih h2⟩
        · simp only [z, if_false, DVk]; exact ⟨trivial, h1, ih h2⟩
  have ap : ∀ {ds : List (Key × D)} {vs : List (Key × V)}, DVk T R ds vs → DVk T R (ds ++ [(k, d)]) (vs ++ [(k, v)]) := by
    intro ds
    induction ds with
    | nil => intro vs h; cases vs with | nil => simp [DVk, dv] | cons _ _ => simp only [DVk] at h
    | cons p r ih =>
      intro vs h
      cases vs with
      | nil => simp only [DVk] at h
      | cons q t =>
        obtain ⟨pk, pd⟩ := p; obtain ⟨qk, qv⟩ := q
        simp only [DVk] at h
        simp only [List.cons_append, DVk]
        exact ⟨h.1, h.2.1, ih h.2.2⟩
  unfold putO putK
  rw [an h]
  split
  · exact mp h
  · exact ap h
theorem DVt.put {k : List Key} {d : D} {v : V} (dv : DV T R d v) {ds : List (List Key × D)} {vs : List (List Key × V)} (h : DVt T R ds vs) : DVt T R (putO ds k d) (putK vs k v) := by
  have an : ∀ {ds : List (List Key × D)} {vs : List (List Key × V)}, DVt T R ds vs → (ds.any fun kv => decide (kv.1 = k)) = vs.any fun kv => decide (kv.1 = k) := by
    intro ds
    induction ds with
    | nil => intro vs h; cases vs with | nil => rfl | cons _ _ => simp only [DVt] at h
    | cons p r ih =>
      intro vs h
      cases vs with
      | nil => simp only [DVt] at h
      | cons q t =>
        obtain ⟨pk, pd⟩ := p; obtain ⟨qk, qv⟩ := q
        simp only [DVt] at h
        obtain ⟨rfl, _, h2⟩ := h
        simp only [List.any_cons, ih h2]
  have mp : ∀ {ds : List (List Key × D)} {vs : List (List Key × V)}, DVt T R ds vs → DVt T R (ds.map fun kv => if kv.1 = k then (kv.1, d) else kv) (vs.map fun kv => if kv.1 = k then (kv.1, v) else kv) := by
    intro ds
    induction ds with
    | nil => intro vs h; cases vs with | nil => simp [DVt] | cons _ _ => simp only [DVt] at h
    | cons p r ih =>
      intro vs h
      cases vs with
      | nil => simp only [DVt] at h
      | cons q t =>
        obtain ⟨pk, pd⟩ := p; obtain ⟨qk, qv⟩ := q
        simp only [DVt] at h
        obtain ⟨rfl, h1, h2⟩ := h
        simp only [List.map_cons]
        by_cases z : pk = k
        · simp only [z, if_true, DVt]; exact ⟨trivial, dv, ih h2⟩
        · simp only [z, if_false, DVt]; exact ⟨trivial, h1, ih h2⟩
  have ap : ∀ {ds : List (List Key × D)} {vs : List (List Key × V)}, DVt T R ds vs → DVt T R (ds ++ [(k, d)]) (vs ++ [(k, v)]) := by
    intro ds
    induction ds with
    | nil => intro vs h; cases vs with | nil => simp [DVt, dv] | cons _ _ => simp only [DVt] at h
    | cons p r ih =>
      intro vs h
      cases vs with
      | nil => simp only [DVt] at h
      | cons q t =>
        obtain ⟨pk, pd⟩ := p; obtain ⟨qk, qv⟩ := q
        simp only [DVt] at h
        simp only [List.cons_append, DVt]
        exact ⟨h.1, h.2.1, ih h.2.2⟩
  unfold putO putK
  rw [an h]
  split
  · exact mp h
  · exact ap h
theorem DVk.length : ∀ {ds : List (Key × D)} {vs : List (Key × V)}, DVk T R ds vs → ds.length = vs.length
  | [], [], _ => rfl
  | [], _ :: _, h => by simp only [DVk] at h
  | _ :: _, [], h => by simp only [DVk] at h
  | (k, d) :: ds, (l, v) :: vs, h => by
    simp only [DVk] at h
    simp only [List.length_cons, DVk.length h.2.2]
theorem DVt.length : ∀ {ds : List (List Key × D)} {vs : List (List Key × V)}, DVt T R ds vs → ds.length = vs.length
  | [], [], _ => rfl
  | [], _ :: _, h => by simp only [DVt] at h
  | _ :: _, [], h => by simp only [DVt] at h
  | (k, d) :: ds, (l, v) :: vs, h => by
    simp only [DVt] at h
    simp only [List.length_cons, DVt.length h.2.2]
/-- a store to a dict -/
theorem dPut_rd (r : RelH T R h H) {d k z : D} {x y v : V} {h' : Hh} (e : dPut h d k z = some h') (dd : DV T R d x) (dk : DV T R k y) (dz : DV T R z v) :
    ∃ a H', x = .ref a ∧ DPut H a y v H' ∧ RelH T R h' H' := by
  cases d with
  | cel c =>
    simp only [DV] at dd
    obtain ⟨a, ex, e2⟩ := dd
    simp only [dPut] at e
    split at e
    · rename_i kvs hc
      obtain ⟨_, _, ps, z1, z2⟩ := r.live c _ a hc e2
      split at e
      · rename_i hl
        simp only [Option.map_eq_some_iff] at e
        obtain ⟨kk, e1, e3⟩ := e
        subst e3
        exact ⟨a, _, ex, .inl ⟨ps, kk, z1, key_rd e1 dk, by rw [← z2.length, ← sizeL_eq]; exact hl, rfl⟩, r.write e2 ⟨_, rfl, DVk.put dz z2⟩⟩
      · cases e
    · rename_i kvs hc
      obtain ⟨_, _, ps, z1, z2⟩ := r.live c _ a hc e2
      split at e
      · rename_i hl
        simp only [Option.map_eq_some_iff] at e
        obtain ⟨kk, e1, e3⟩ := e
        subst e3
        cases k <;> simp [keysOf] at e1
        obtain ⟨b, vs, rfl, hb, hv⟩ := tup_rd r dk
        have ev := keys_rd e1 hv
        subst ev
        exact ⟨a, _, ex, .inr ⟨ps, kk, b, z1, rfl, hb, by rw [← z2.length, ← sizeL_eq]; exact hl, rfl⟩, r.write e2 ⟨_, rfl, DVt.put dz z2⟩⟩
      · cases e
    · cases e
  | _ => simp [dPut] at e
end
end Mn
namespace Mn
open PySem L2 PyProof.Rows
def cop : COp → CmpOp
  | .eq => .Eq
  | .ne => .NotEq
  | .lt => .Lt
  | .le => .LtE
  | .gt => .Gt
  | .ge => .GtE
  | .is => .Is
  | .isnt => .IsNot
  | .inn => .In
  | .notin => .NotIn
def rDin (neg : Bool) : R2 := fun y x H Q => ∃ a o, x = .ref a ∧ DGet H a y o ∧ Q (.bl (if neg then !o.isSome else o.isSome)) H
def rCmp (K : PySem.W.Frag) : COp → R2
  | .eq => fun x y H Q => rEq x y H Q ∨ rEqD K x y H Q
  | .ne => fun x y H Q => rNe x y H Q ∨ rNeD K x y H Q
  | .lt => rI0 fun i j => .bl (decide (i < j))
  | .le => rI0 fun i j => .bl (decide (i ≤ j))
  | .gt => rI0 fun i j => .bl (decide (j < i))
  | .ge => rI0 fun i j => .bl (decide (j ≤ i))
  | .is => fun x y H Q => (y = .non ∧ Q (.bl (decide (x = .non))) H) ∨ rIs false x y H Q
  | .isnt => fun x y H Q => (y = .non ∧ Q (.bl (!decide (x = .non))) H) ∨ rIs true x y H Q
  | .inn => fun x y H Q => rIn K false x y H Q ∨ rDin false x y H Q
  | .notin => fun x y H Q => rIn K true x y H Q ∨ rDin true x y H Q
section
variable {X : Cx}
theorem op_din (hu : X.A.units + 1 < cLine) : OpR X (compareOp .In) (rDin false) := by
  intro pins s σ H x y v u Q I rx ry h
  obtain ⟨a, o, rfl, g, q⟩ := h
  cases ry
  exact d_in hu I g rx fun s' I' => ⟨.bl o.isSome, H, I', rfl, q⟩
theorem op_dnotin (hu : X.A.units + 1 < cLine) : OpR X (compareOp .NotIn) (rDin true) := by
  intro pins s σ H x y v u Q I rx ry h
  obtain ⟨a, o, rfl, g, q⟩ := h
  cases ry
  exact d_notIn hu I g rx fun s' I' => ⟨.bl (!o.isSome), H, I', rfl, q⟩
theorem op_cmp (hu : X.A.units + 65 < cLine) (o : COp) : OpR X (compareOp (cop o)) (rCmp X.K o) := by
  cases o with
  | eq => exact OpR.orr op_eq (op_eqD (by omega))
  | ne => exact OpR.orr op_ne (op_neD (by omega))
  | lt => exact op_lt
  | le => exact op_le
  | gt => exact op_gt
  | ge => exact op_ge
  | is => exact OpR.orr op_isN op_isB
  | isnt => exact OpR.orr op_notN op_isnotB
  | inn => exact OpR.orr op_in_seq (op_din (by omega))
  | notin => exact OpR.orr op_notIn_seq (op_dnotin (by omega))
end
section
variable {T : Tb} {W : WX} {R : Rl} {σ : L2.St} {h : Hh} {H : Hp} {Q : VK} {a b : D} {x y : V}
theorem eq_rd (r : RelH T R h H) (da : DV T R a x) (db : DV T R b y) {c : Bool} (e : eqD h a b = some c) :
    (scal x y = true ∧ decide (x = y) = c) ∨ ∃ d f, Dp T.K H x d ∧ Dp T.K H y f ∧ SeqAt.shaped d = true ∧ SeqAt.shaped f = true ∧ PySem.PyData.eqv d f = c := by
  have gen : eqPy (thaw h 0 3 a) (thaw h 0 3 b) = some c → ∃ d f, Dp T.K H x d ∧ Dp T.K H y f ∧ SeqAt.shaped d = true ∧ SeqAt.shaped f = true ∧ PySem.PyData.eqv d f = c := by
    intro e
    unfold eqPy at e
    split at e
    · rename_i d f e1 e2
      split at e
      · rename_i z
        rw [Bool.and_eq_true] at z
        exact ⟨d, f, thaw_dp r 0 3 a x d e1 da, thaw_dp r 0 3 b y f e2 db, z.1, z.2, Option.some.inj e⟩
      · cases e
    · cases e
  cases a with
  | int i =>
    cases b with
    | int j =>
      simp only [eqD, Option.some.injEq] at e
      rw [int_rd da, int_rd db]
      refine .inl ⟨rfl, ?_⟩
      rw [← e]
      simp
    | _ => exact .inr (gen e)
  | str i =>
    cases b with
    | str j =>
      simp only [eqD, Option.some.injEq] at e
      rw [str_rd da, str_rd db]
      refine .inl ⟨rfl, ?_⟩
      rw [← e]
      simp
    | _ => exact .inr (gen e)
  | _ => exact .inr (gen e)
/-- what is no None, no bool, no number, no text stands at an address -/
theorem ref_rd (da : DV T R a x) : a = .non ∨ (∃ b, a = .bl b) ∨ (∃ i, a = .int i) ∨ (∃ i, a = .str i) ∨ ∃ p, x = .ref p := by
  cases a with
  | und => simp only [DV] at da
  | non => exact .inl rfl
  | bl b => exact .inr (.inl ⟨b, rfl⟩)
  | int b => exact .inr (.inr (.inl ⟨b, rfl⟩))
  | str b => exact .inr (.inr (.inr (.inl ⟨b, rfl⟩)))
  | lst xs => simp only [DV] at da; obtain ⟨p, _, e, _⟩ := da; exact .inr (.inr (.inr (.inr ⟨p, e⟩)))
  | tup xs => simp only [DV] at da; obtain ⟨p, _, e, _⟩ := da; exact .inr (.inr (.inr (.inr ⟨p, e⟩)))
  | ro xs => simp only [DV] at da; obtain ⟨p, _, e, _⟩ := da; exact .inr (.inr (.inr (.inr ⟨p, e⟩)))
  | dK xs => simp only [DV] at da; obtain ⟨p, _, e, _⟩ := da; exact .inr (.inr (.inr (.inr ⟨p, e⟩)))
  | dT xs => simp only [DV] at da; obtain ⟨p, _, e, _⟩ := da; exact .inr (.inr (.inr (.inr ⟨p, e⟩)))
  | cel c => simp only [DV] at da; obtain ⟨p, e, _⟩ := da; exact .inr (.inr (.inr (.inr ⟨p, e⟩)))
  | exc c q => simp only [DV] at da; obtain ⟨p, _, _, e, _⟩ := da; exact .inr (.inr (.inr (.inr ⟨p, e⟩)))
  | clo c q => simp only [DV] at da; obtain ⟨p, _, _, _, _, e, _⟩ := da; exact .inr (.inr (.inr (.inr ⟨p, e⟩)))
def isNonD : D → Bool
  | .non => true
  | _ => false
def isBlD (k : Bool) : D → Bool
  | .bl d => decide (d = k)
  | _ => false
theorem isNon_rd (da : DV T R a x) : decide (x = .non) = isNonD a := by
  rcases ref_rd da with rfl | ⟨b, rfl⟩ | ⟨b, rfl⟩ | ⟨b, rfl⟩ | ⟨p, rfl⟩
  · rw [non_rd da]; rfl
  · rw [bl_rd da]; rfl
  · rw [int_rd da]; rfl
  · rw [str_rd da]; rfl
  · cases a <;> first | rfl | (simp only [DV] at da; done) | (rw [non_rd da]; rfl) | (have := non_rd da; cases this)
theorem isBl_rd (k : Bool) (da : DV T R a x) : decide (x = .bl k) = isBlD k a := by
  rcases ref_rd da with rfl | ⟨b, rfl⟩ | ⟨b, rfl⟩ | ⟨b, rfl⟩ | ⟨p, rfl⟩
  · rw [non_rd da]; rfl
  · rw [bl_rd da]; simp [isBlD]
  · rw [int_rd da]; rfl
  · rw [str_rd da]; rfl
  · cases a <;> first | rfl | (have := bl_rd da; cases this)
theorem isD_non : isD a .non = some (isNonD a) := by cases a <;> rfl
theorem isD_bl (k : Bool) : isD a (.bl k) = some (isBlD k a) := by cases a <;> rfl
theorem is_rd (da : DV T R a x) (db : DV T R b y) {c : Bool} (e : isD a b = some c) : (y = .non ∧ decide (x = .non) = c) ∨ ∃ k, y = .bl k ∧ decide (x = .bl k) = c := by
  cases b with
  | non =>
    rw [isD_non] at e
    exact .inl ⟨non_rd db, by rw [isNon_rd da]; exact Option.some.inj e⟩
  | bl k =>
    rw [isD_bl] at e
    exact .inr ⟨k, bl_rd db, by rw [isBl_rd k da]; exact Option.some.inj e⟩
  | _ => cases e
theorem in_rd (r : RelH T R h H) (da : DV T R a x) (db : DV T R b y) {c : Bool} (e : inD h a b = some c) :
    (∃ p xs, y = .ref p ∧ (SqL T.K H p xs ∨ SqT T.K H p xs) ∧ flatV x = true ∧ xs.all flatV = true ∧ inV x xs = c) ∨ ∃ p o, y = .ref p ∧ DGet H p x o ∧ o.isSome = c := by
  have sq : ∀ {ys : List D} {p : Addr} {vs : List V}, y = .ref p → (SqL T.K H p vs ∨ SqT T.K H p vs) → DVs T R ys vs → (if (flat a && ys.all flat) = true then some (ys.any fun z => eqF z a) else none) = some c →
      ∃ p xs, y = .ref p ∧ (SqL T.K H p xs ∨ SqT T.K H p xs) ∧ flatV x = true ∧ xs.all flatV = true ∧ inV x xs = c := by
    intro ys p vs ey hs hv e
    split at e
    · rename_i z
      rw [Bool.and_eq_true] at z
      exact ⟨p, vs, ey, hs, flat_rd z.1 da, flats_rd z.2 hv, by unfold inV; rw [any_rd z.1 da z.2 hv]; exact Option.some.inj e⟩
    · cases e
  unfold inD at e
  cases b with
  | tup ys =>
    obtain ⟨p, vs, ey, h1, h2⟩ := tup_rd r db
    exact .inl (sq ey (.inr (SqT.of h1)) h2 e)
  | _ =>
    simp only at e
    split at e
    · rename_i ys hl
      obtain ⟨p, vs, ey, h1, h2⟩ := lsOf_rd r hl db
      exact .inl (sq ey (.inl h1) h2 e)
    · simp only [Option.map_eq_some_iff] at e
      obtain ⟨o, e1, e2⟩ := e
      obtain ⟨p, q, ey, g, g1, g2, _⟩ := dGet_rd r e1 db da
      refine .inr ⟨p, q, ey, g, ?_⟩
      rw [← e2]
      cases o with
      | none => rw [g2 rfl]; rfl
      | some z =>
        obtain ⟨v, e3, _⟩ := g1 z rfl
        rw [e3]; rfl
theorem ii_of {f : Int → Int → Bool} {a b : D} {c : Bool} (e : ii f a b = some c) : ∃ i j, a = .int i ∧ b = .int j ∧ f i j = c := by
  cases a with
  | int i =>
    cases b with
    | int j => exact ⟨i, j, rfl, rfl, Option.some.inj e⟩
    | _ => cases e
  | _ => cases e
theorem cmp_snd (o : COp) (r : RelH T R h H) (da : DV T R a x) (db : DV T R b y) {c : Bool} (e : cmpop o a b h = some c) (q : Q (.bl c) H) : rCmp T.K o x y H Q := by
  cases o with
  | eq =>
    rcases eq_rd r da db e with ⟨z, w⟩ | ⟨d, f, h1, h2, h3, h4, w⟩
    · exact .inl ⟨z, by rw [w]; exact q⟩
    · exact .inr ⟨d, f, h1, h2, h3, h4, by rw [w]; exact q⟩
  | ne =>
    simp only [cmpop, Option.map_eq_some_iff] at e
    obtain ⟨c', e, rfl⟩ := e
    rcases eq_rd r da db e with ⟨z, w⟩ | ⟨d, f, h1, h2, h3, h4, w⟩
    · exact .inl ⟨z, by rw [w]; exact q⟩
    · exact .inr ⟨d, f, h1, h2, h3, h4, by rw [w]; exact q⟩
  | lt =>
    obtain ⟨i, j, rfl, rfl, e1⟩ := ii_of e
    exact ⟨i, j, int_rd da, int_rd db, by subst e1; exact q⟩
  | le =>
    obtain ⟨i, j, rfl, rfl, e1⟩ := ii_of e
    exact ⟨i, j, int_rd da, int_rd db, by subst e1; exact q⟩
  | gt =>
    obtain ⟨i, j, rfl, rfl, e1⟩ := ii_of e
    exact ⟨i, j, int_rd da, int_rd db, by subst e1; exact q⟩
  | ge =>
    obtain ⟨i, j, rfl, rfl, e1⟩ := ii_of e
    exact ⟨i, j, int_rd da, int_rd db, by subst e1; exact q⟩
  | is =>
    rcases is_rd da db e with ⟨z, w⟩ | ⟨k, z, w⟩
    · exact .inl ⟨z, by rw [w]; exact q⟩
    · exact .inr ⟨k, z, by simpa [w] using q⟩
  | isnt =>
    simp only [cmpop, Option.map_eq_some_iff] at e
    obtain ⟨c', e, rfl⟩ := e
    rcases is_rd da db e with ⟨z, w⟩ | ⟨k, z, w⟩
    · exact .inl ⟨z, by rw [w]; exact q⟩
    · exact .inr ⟨k, z, by simpa [w] using q⟩
  | inn =>
    rcases in_rd r da db e with ⟨p, xs, e1, e2, e3, e4, w⟩ | ⟨p, o, e1, e2, w⟩
    · exact .inl ⟨p, xs, e1, e2, e3, e4, by simpa [w] using q⟩
    · exact .inr ⟨p, o, e1, e2, by simpa [w] using q⟩
  | notin =>
    simp only [cmpop, Option.map_eq_some_iff] at e
    obtain ⟨c', e, rfl⟩ := e
    rcases in_rd r da db e with ⟨p, xs, e1, e2, e3, e4, w⟩ | ⟨p, o, e1, e2, w⟩
    · exact .inl ⟨p, xs, e1, e2, e3, e4, by simpa [w] using q⟩
    · exact .inr ⟨p, o, e1, e2, by simpa [w] using q⟩
/-! ### subscripts -/
theorem atI_rd {ds : List D} {vs : List V} (hv : DVs T R ds vs) {i : Int} {d : D} (e : atI ds i = some d) : ∃ v, atI vs i = some v ∧ DV T R d v := by
  unfold atI at e ⊢
  rw [← hv.length]
  cases z : ixN ds.length i with
  | none => rw [z] at e; cases e
  | some j =>
    rw [z] at e
    obtain ⟨v, h1, h2⟩ := hv.get e
    exact ⟨v, by simpa using h1, h2⟩
def rIdx (K : PySem.W.Frag) : R2 := fun x y H Q => rIxL K x y H Q ∨ rIxT K x y H Q
def rDg : R2 := fun x y H Q => ∃ a v, x = .ref a ∧ DGet H a y (some v) ∧ Q v H
theorem idx_snd (r : RelH T R h H) (da : DV T R a x) (db : DV T R b y) {d : D} (e : idxop a b h = some d) (q : ∀ v, DV T R d v → Q v H) : rIdx T.K x y H Q ∨ rDg x y H Q := by
  unfold idxop at e
  cases a with
  | tup xs =>
    cases b with
    | int k =>
      obtain ⟨p, vs, ex, h1, h2⟩ := tup_rd r da
      obtain ⟨v, e1, e2⟩ := atI_rd h2 e
      exact .inl (.inr ⟨p, vs, k, v, ex, int_rd db, SqT.of h1, e1, q v e2⟩)
    | _ => cases e
  | _ =>
    simp only at e
    split at e
    · rename_i ys hl
      cases b with
      | int k =>
        obtain ⟨p, vs, ex, h1, h2⟩ := lsOf_rd r hl da
        obtain ⟨v, e1, e2⟩ := atI_rd h2 e
        exact .inl (.inl ⟨p, vs, k, v, ex, int_rd db, h1, e1, q v e2⟩)
      | _ => cases e
    · split at e
      · rename_i v hg
        cases e
        obtain ⟨p, o, ex, g, g1, g2, _⟩ := dGet_rd r hg da db
        obtain ⟨w, e1, e2⟩ := g1 _ rfl
        subst e1
        exact .inr ⟨p, w, ex, g, q w e2⟩
      · cases e
end
end Mn
/-! # The text held against Python's text -/
namespace Mn
open PySem L2 PyProof.Rows
/-! ### parts of an expression -/
def gNm : PySem.Expr → Option Str
  | .Name x _ => some x
  | _ => none
theorem gNm_of {e : PySem.Expr} {x : Str} (h : gNm e = some x) : ∃ p, e = .Name x p := by
  cases e <;> simp [gNm] at h
  exact ⟨_, by rw [h]⟩
def gCon : PySem.Expr → Option Const
  | .Constant c _ _ => some c
  | _ => none
theorem gCon_of {e : PySem.Expr} {x : Const} (h : gCon e = some x) : ∃ j p, e = .Constant x j p := by
  cases e <;> simp [gCon] at h
  exact ⟨_, _, by rw [h]⟩
def gBin : PySem.Expr → Option (PySem.Expr × Operator × PySem.Expr)
  | .BinOp a o b _ => some (a, o, b)
  | _ => none
theorem gBin_of {e : PySem.Expr} {a b : PySem.Expr} {o : Operator} (h : gBin e = some (a, o, b)) : ∃ p, e = .BinOp a o b p := by
  cases e <;> simp [gBin] at h
  obtain ⟨rfl, rfl, rfl⟩ := h
  exact ⟨_, rfl⟩
def gUn : PySem.Expr → Option (UnaryOp × PySem.Expr)
  | .UnaryOp o a _ => some (o, a)
  | _ => none
theorem gUn_of {e a : PySem.Expr} {o : UnaryOp} (h : gUn e = some (o, a)) : ∃ p, e = .UnaryOp o a p := by
  cases e <;> simp [gUn] at h
  obtain ⟨rfl, rfl⟩ := h
  exact ⟨_, rfl⟩
def gC1 : PySem.Expr → Option (PySem.Expr × CmpOp × PySem.Expr)
  | .Compare a [o] [b] _ => some (a, o, b)
  | _ => none
theorem gC1_of {e : PySem.Expr} {a b : PySem.Expr} {o : CmpOp} (h : gC1 e = some (a, o, b)) : ∃ p, e = .Compare a [o] [b] p := by
  unfold gC1 at h
  split at h
  · simp at h
    obtain ⟨rfl, rfl, rfl⟩ := h
    exact ⟨_, rfl⟩
  · cases h
def gC2 : PySem.Expr → Option (PySem.Expr × CmpOp × PySem.Expr × CmpOp × PySem.Expr)
  | .Compare a [o, o'] [b, c] _ => some (a, o, b, o', c)
  | _ => none
theorem gC2_of {e : PySem.Expr} {a b c : PySem.Expr} {o o' : CmpOp} (h : gC2 e = some (a, o, b, o', c)) : ∃ p, e = .Compare a [o, o'] [b, c] p := by
  unfold gC2 at h
  split at h
  · simp at h
    obtain ⟨rfl, rfl, rfl, rfl, rfl⟩ := h
    exact ⟨_, rfl⟩
  · cases h
def gBo : PySem.Expr → Option (BoolOp × List PySem.Expr × Pos)
  | .BoolOp o es p => some (o, es, p)
  | _ => none
theorem gBo_of {e : PySem.Expr} {o : BoolOp} {es : List PySem.Expr} {p : Pos} (h : gBo e = some (o, es, p)) : e = .BoolOp o es p := by
  cases e <;> simp [gBo] at h
  obtain ⟨rfl, rfl, rfl⟩ := h
  rfl
def gIf : PySem.Expr → Option (PySem.Expr × PySem.Expr × PySem.Expr)
  | .IfExp a b c _ => some (a, b, c)
  | _ => none
theorem gIf_of {e : PySem.Expr} {a b c : PySem.Expr} (h : gIf e = some (a, b, c)) : ∃ p, e = .IfExp a b c p := by
  cases e <;> simp [gIf] at h
  obtain ⟨rfl, rfl, rfl⟩ := h
  exact ⟨_, rfl⟩
/-- a subscript that is no slice -/
def noSl : PySem.Expr → Bool
  | .Slice _ _ _ _ => false
  | _ => true
theorem noSl_of {e : PySem.Expr} (h : noSl e = true) : PlainIx e := by
  intro o i
  cases e <;> first | rfl | (simp [noSl] at h)
def gSub : PySem.Expr → Option (PySem.Expr × PySem.Expr)
  | .Subscript a i _ => some (a, i)
  | _ => none
theorem gSub_of {e : PySem.Expr} {a b : PySem.Expr} (h : gSub e = some (a, b)) : ∃ p, e = .Subscript a b p := by
  cases e <;> simp [gSub] at h
  obtain ⟨rfl, rfl⟩ := h
  exact ⟨_, rfl⟩
def gSl : PySem.Expr → Option (PySem.Expr × Option PySem.Expr × Option PySem.Expr)
  | .Subscript a (.Slice lo hi none _) _ => some (a, lo, hi)
  | _ => none
theorem gSl_of {e : PySem.Expr} {a : PySem.Expr} {lo hi : Option PySem.Expr} (h : gSl e = some (a, lo, hi)) : ∃ p q, e = .Subscript a (.Slice lo hi none p) q := by
  unfold gSl at h
  split at h
  · simp at h
    obtain ⟨rfl, rfl, rfl⟩ := h
    exact ⟨_, _, rfl⟩
  · cases h
def gTu : PySem.Expr → Option (List PySem.Expr)
  | .Tuple es _ _ => some es
  | _ => none
theorem gTu_of {e : PySem.Expr} {es : List PySem.Expr} (h : gTu e = some es) : ∃ k p, e = .Tuple es k p := by
  cases e <;> simp [gTu] at h
  exact ⟨_, _, by rw [h]⟩
def gLs : PySem.Expr → Option (List PySem.Expr)
  | .List es _ => some es
  | _ => none
theorem gLs_of {e : PySem.Expr} {es : List PySem.Expr} (h : gLs e = some es) : ∃ p, e = .List es p := by
  cases e <;> simp [gLs] at h
  exact ⟨_, by rw [h]⟩
def isDi : PySem.Expr → Bool
  | .Dict [] [] _ => true
  | _ => false
theorem isDi_of {e : PySem.Expr} (h : isDi e = true) : ∃ p, e = .Dict [] [] p := by
  unfold isDi at h
  split at h
  · exact ⟨_, rfl⟩
  · cases h
/-- f(args), f a name, no keywords -/
def gCa : PySem.Expr → Option (Str × List PySem.Expr)
  | .Call (.Name f _) es [] _ => some (f, es)
  | _ => none
theorem gCa_of {e : PySem.Expr} {f : Str} {es : List PySem.Expr} (h : gCa e = some (f, es)) : ∃ p q, e = .Call (.Name f p) es [] q := by
  unfold gCa at h
  split at h
  · simp at h
    obtain ⟨rfl, rfl⟩ := h
    exact ⟨_, _, rfl⟩
  · cases h
/-- o.m(args), no keywords, on one line -/
def gMe : PySem.Expr → Option (PySem.Expr × Str × List PySem.Expr)
  | .Call (.Attribute o m ap) es [] cp => if (ap.endLine == cp.line) = true then some (o, m, es) else none
  | _ => none
theorem gMe_of {e o : PySem.Expr} {f : Str} {es : List PySem.Expr} (h : gMe e = some (o, f, es)) : ∃ p q, e = .Call (.Attribute o f p) es [] q ∧ (p.endLine == q.line) = true := by
  unfold gMe at h
  split at h
  · split at h
    · rename_i hl
      simp at h
      obtain ⟨rfl, rfl, rfl⟩ := h
      exact ⟨_, _, rfl, hl⟩
    · cases h
  · cases h
def gLc : PySem.Expr → Option (PySem.Expr × PySem.Expr × PySem.Expr × List PySem.Expr × Scope)
  | .ListComp elt [⟨tg, iter, ifs, 0⟩] sc _ => some (elt, tg, iter, ifs, sc)
  | _ => none
theorem gLc_of {e elt tg iter : PySem.Expr} {ifs : List PySem.Expr} {sc : Scope} (h : gLc e = some (elt, tg, iter, ifs, sc)) : ∃ p, e = .ListComp elt [⟨tg, iter, ifs, 0⟩] sc p := by
  unfold gLc at h
  split at h
  · simp at h
    obtain ⟨rfl, rfl, rfl, rfl, rfl⟩ := h
    exact ⟨_, rfl⟩
  · cases h
/-- no star, no set, no comprehension, no super() -/
def tame : PySem.Expr → Bool
  | .Starred _ _ => false
  | .Set _ _ _ => false
  | .SetComp _ _ _ _ => false
  | .DictComp _ _ _ _ _ => false
  | _ => true
def noLc : PySem.Expr → Bool
  | .ListComp _ _ _ _ => false
  | .SetComp _ _ _ _ => false
  | .DictComp _ _ _ _ _ => false
  | _ => true
def noCl : PySem.Expr → Bool
  | .Call (.Name _ _) [] [] _ => false
  | _ => true
theorem star_of {e : PySem.Expr} (h : tame e = true) (es : List PySem.Expr) (env : Env) : starEach (e :: es) env = (false, eval e env) :: starEach es env := by
  cases e <;> first | rfl | (simp [tame] at h)
theorem fold_of {e : PySem.Expr} (h : tame e = true) (env : Env) : ∀ x, foldedSetIterable e env x = pure x := by
  intro x
  cases e <;> first | rfl | (simp [tame] at h)
theorem swap_of {e : PySem.Expr} (h : noLc e = true) (t : Option PySem.Expr) (l : Nat) (env : Env) : swapsWith e t l env = pure false := by
  cases e <;> first | rfl | (simp [noLc] at h)
theorem attr_of {e : PySem.Expr} (h : noCl e = true) (m : Str) (env : Env) (w : Sem Value) : attributeBase e m env w = w := by
  unfold attributeBase
  split
  · simp [noCl] at h
  · rfl
theorem plain_of : ∀ {es : List PySem.Expr} (h : es.all tame = true) (pos : Pos) (env : Env), (backTo pos (starEach es env)).any (·.1) = false
  | [], _, _, _ => rfl
  | e :: es, h, pos, env => by
    simp only [List.all_cons, Bool.and_eq_true] at h
    have ih := plain_of h.2 pos env
    rw [star_of h.1]
    cases es with
    | nil => rfl
    | cons f fs =>
      rw [star_of (by simp only [List.all_cons, Bool.and_eq_true] at h; exact h.2.1)] at ih ⊢
      simpa [backTo] using ih
end Mn
namespace Mn
open PySem L2 PyProof.Rows
/-- where a piece of text stands -/
structure Ck where
  N : List Str
  sc : Scope
  fnl : Option Scope
  fns : List Str
  cons : List (Str × Int)
  blt : List Str
  exs : List (Nat × Str)
  xcl : List (Nat × Str)
  kws : List (Nat × List Str × List Nat)
  mkr : Bool
def biN : Bi → Str
  | .len => "len"
  | .int => "int"
  | .abs => "abs"
  | .min => "min"
  | .max => "max"
  | .sum => "sum"
  | .repr => "repr"
  | .list => "list"
  | .tuple => "tuple"
  | .isinst _ => "isinstance"
  | .isexc _ => "isinstance"
  | .str => "str"
  | .sorted => "sorted"
  | .all => "all"
def mtN : Mt → Str
  | .append => "append"
  | .bitlen => "bit_length"
  | .get => "get"
  | .index => "index"
  | .count => "count"
  | .pop => "pop"
  | .remove => "remove"
def tyN : Nat → Str
  | 0 => "int"
  | 1 => "bool"
  | 2 => "str"
  | 3 => "list"
  | 4 => "tuple"
  | _ => "dict"
def visB (sc : Scope) (x : Str) : Bool := match sc.names.lookup x with
  | some .local => true
  | some .cell => true
  | some .free => true
  | _ => false
def locB (sc : Scope) (x : Str) : Bool := match sc.names.lookup x with
  | some .local => true
  | some .cell => true
  | _ => false
def glB (sc : Scope) (x : Str) : Bool := match sc.names.lookup x with
  | some .globalImplicit => true
  | _ => false
def okN (x : Str) : Bool := !(x == ("__debug__" : Str)) && !(x == ("__classdict__" : Str))
/-- a built-in's name, there -/
def bltB (c : Ck) (x : Str) : Bool := glB c.sc x && c.blt.contains x
def sz1 (n : Nat) : Nat := n
/-- the classes that isinstance is asked for -/
def chkTy (c : Ck) (ts : List Nat) (e : PySem.Expr) : Bool := match ts with
  | [t] => (match gNm e with
    | some x => decide (x = tyN t) && bltB c x
    | none => false)
  | _ => match gTu e with
    | some es => decide (es.length = ts.length) && (decide (ts.length ≤ 10) && (es.zip ts).all fun p => (match gNm p.1 with
      | some x => decide (x = tyN p.2) && bltB c x
      | none => false))
    | none => false
/-- how a block's names stand -/
def Ck.blk (c : Ck) (scope : Scope) : Ck := { c with sc := relS scope c.sc, fnl := some scope, mkr := false }
/-- in a lambda's body -/
def Ck.lam (c : Ck) (scope : Scope) : Ck := { c with sc := scope, fnl := some scope, mkr := false }
def fnB (c : Ck) (x : Str) : Bool := match c.fnl with
  | none => true
  | some s => (s.names.lookup x == some .cell) || (c.sc.names.lookup x == some .local)
def bOk : Bi → Bool
  | .isexc _ => false
  | .isinst _ => false
  | _ => true
def mtOk : Mt → Nat → Bool
  | .append, 1 => true
  | .bitlen, 0 => true
  | .get, 2 => true
  | .index, 1 => true
  | .count, 1 => true
  | .pop, 0 => true
  | .pop, 1 => true
  | _, _ => false
/-- the names and values of keywords -/
def gKw : List Keyword → Option (List Str × List PySem.Expr)
  | [] => some ([], [])
  | ⟨some k, e, _⟩ :: r => match gKw r with
    | some (ks, es) => some (k :: ks, e :: es)
    | none => none
  | ⟨none, _, _⟩ :: _ => none
/-- f(k = v, ..) -/
def gCk : PySem.Expr → Option (Str × List Keyword)
  | .Call (.Name f _) [] kws _ => some (f, kws)
  | _ => none
theorem gCk_of {e : PySem.Expr} {f : Str} {kws : List Keyword} (h : gCk e = some (f, kws)) : ∃ p q, e = .Call (.Name f p) [] kws q := by
  unfold gCk at h
  split at h
  · simp at h
    obtain ⟨rfl, rfl⟩ := h
    exact ⟨_, _, rfl⟩
  · cases h
/-- f() -/
def gC0 : PySem.Expr → Option Str
  | .Call (.Name f _) [] [] _ => some f
  | _ => none
theorem gC0_of {e : PySem.Expr} {f : Str} (h : gC0 e = some f) : ∃ p q, e = .Call (.Name f p) [] [] q := by
  unfold gC0 at h
  split at h
  · simp at h
    obtain rfl := h
    exact ⟨_, _, rfl⟩
  · cases h
def gAt : PySem.Expr → Option (PySem.Expr × Str)
  | .Attribute o n _ => some (o, n)
  | _ => none
theorem gAt_of {e o : PySem.Expr} {n : Str} (h : gAt e = some (o, n)) : ∃ p, e = .Attribute o n p := by
  cases e <;> simp [gAt] at h
  obtain ⟨rfl, rfl⟩ := h
  exact ⟨_, rfl⟩
def gLa : PySem.Expr → Option (Arguments × PySem.Expr × Scope)
  | .Lambda a b s _ => some (a, b, s)
  | _ => none
theorem gLa_of {e b : PySem.Expr} {a : Arguments} {s : Scope} (h : gLa e = some (a, b, s)) : ∃ p, e = .Lambda a b s p := by
  cases e <;> simp [gLa] at h
  obtain ⟨rfl, rfl, rfl⟩ := h
  exact ⟨_, rfl⟩
def noPar : Arguments → Bool
  | ⟨[], [], none, [], [], none, []⟩ => true
  | _ => false
theorem noPar_of {a : Arguments} (h : noPar a = true) : a = ⟨[], [], none, [], [], none, []⟩ := by
  unfold noPar at h
  split at h
  · rfl
  · cases h
def nilEs : Es → Bool
  | .nil => true
  | _ => false
theorem nilEs_of {es : Es} (h : nilEs es = true) : es = .nil := by
  cases es with
  | nil => rfl
  | cons _ _ => cases h
def isNil : E → Bool
  | .nil => true
  | _ => false
mutual
def chkE (c : Ck) : E → PySem.Expr → Bool
  | .var i, e => match gNm e with
    | some x => decide (c.N[i]? = some x) && (visB c.sc x && okN x)
    | none => false
  | .non, e => decide (gCon e = some .none)
  | .bl b, e => decide (gCon e = some (.bool b))
  | .int i, e => decide (gCon e = some (.int i))
  | .str x, e => decide (gCon e = some (.str x))
  | .glo g i, e => match gNm e with
    | some x => decide (c.cons[g]? = some (x, i)) && (glB c.sc x && okN x)
    | none => false
  | .neg a, e => match gUn e with
    | some (.USub, x) => chkE c a x
    | _ => false
  | .not a, e => match gUn e with
    | some (.Not, x) => chkE c a x
    | _ => false
  | .bin _ o a b, e => match gBin e with
    | some (x, p, y) => decide (p = bop o) && (chkE c a x && chkE c b y)
    | none => false
  | .cmp o a b, e => match gC1 e with
    | some (x, p, y) => decide (p = cop o) && (chkE c a x && (chkE c b y && tame y))
    | none => false
  | .chn o o' a b d, e => match gC2 e with
    | some (x, p, y, p', z) => decide (p = cop o) && (decide (p' = cop o') && (chkE c a x && (chkE c b y && (chkE c d z && tame z))))
    | none => false
  | .one a, e => match gBo e with
    | some (_, [x], _) => chkE c a x
    | _ => false
  | .and a b, e => match gBo e with
    | some (.And, x :: y :: r, p) => chkE c a x && chkE c b (.BoolOp .And (y :: r) p)
    | _ => false
  | .or a b, e => match gBo e with
    | some (.Or, x :: y :: r, p) => chkE c a x && chkE c b (.BoolOp .Or (y :: r) p)
    | _ => false
  | .ife t a b, e => match gIf e with
    | some (x, y, z) => chkE c t x && (chkE c a y && chkE c b z)
    | none => false
  | .idx a i, e => match gSub e with
    | some (x, y) => noSl y && (chkE c a x && chkE c i y)
    | none => false
  | .slc a lo hi, e => match gSl e with
    | some (x, l, u) => chkE c a x && ((match l with
      | none => isNil lo
      | some z => !isNil lo && chkE c lo z) && (match u with
      | none => isNil hi
      | some z => !isNil hi && chkE c hi z))
    | none => false
  | .tup es, e => match gTu e with
    | some xs => chkEs c es xs
    | none => false
  | .lst _ es, e => match gLs e with
    | some xs => chkEs c es xs
    | none => false
  | .dK _, e => isDi e
  | .dT _, e => isDi e
  | .call f es, e => match gCa e with
    | some (x, y :: ys) => decide (c.fns[f]? = some x) && (glB c.sc x && (okN x && chkEs c es (y :: ys)))
    | some (x, []) => decide (c.fns[f]? = some x) && (glB c.sc x && (okN x && nilEs es))
    | _ => false
  | .bi _ b es, e => match b with
    | .isinst ts => (match gCa e, es with
      | some (x, [y, z]), .cons a .nil => decide (x = "isinstance") && (bltB c x && (chkE c a y && (tame y && (tame z && chkTy c ts z))))
      | _, _ => false)
    | .isexc ci => (match gCa e, es with
      | some (x, [y, z]), .cons a .nil => decide (x = "isinstance") && (bltB c x && (chkE c a y && (tame y && (tame z && (match gNm z with
        | some n => decide ((ci, n) ∈ c.xcl) && (glB c.sc n && okN n)
        | none => false)))))
      | _, _ => false)
    | b => bOk b && (match gCa e with
      | some (x, y :: ys) => decide (x = biN b) && (bltB c x && chkEs c es (y :: ys))
      | _ => false)
  | .mt m a es, e => match gMe e with
    | some (o, n, ys) => decide (n = mtN m) && (noCl o && (mtOk m ys.length && (chkE c a o && chkEs c es ys)))
    | none => false
  | .lc _ s t fs x, e => match gLc e with
    | some (elt, tg, iter, ifs, sc) => tame iter && (blkC c.N c.sc sc (t.own.map fun i => ((c.N[i]?).getD "", i)) && (chkI c s t tg iter && (chkT (c.blk sc) t tg && (chkEs (c.blk sc) fs ifs && (decide (ifs.length ≤ 1) && (chkE (c.blk sc) x elt && !t.own.isEmpty))))))
    | none => false
  | .frz a, e => chkE c a e
  | .xval a, e => match gAt e with
    | some (o, n) => decide (n = valN) && (noCl o && chkE c a o)
    | none => false
  | .act i, e => match gC0 e with
    | some x => decide (c.N[i]? = some x) && (visB c.sc x && okN x)
    | none => false
  | .callp f pm es, e => match gCk e with
    | some (x, kws) => (match gKw kws with
      | some (ks, ys) => decide (c.fns[f]? = some x) && (glB c.sc x && (okN x && (decide ((f, ks, pm) ∈ c.kws) && (decide (0 < ks.length) && chkEs c es ys))))
      | none => false)
    | none => false
  | .cal1 f ls ks es, e => match gCa e with
    | some (x, y :: ys) => decide (c.fns[f]? = some x) && (glB c.sc x && (okN x && (c.mkr && (c.fnl.isNone && (chkEs c es ys && (if ls then (match gLs y with
      | some zs => decide (zs.length ≤ 1000) && chkLs c ks zs
      | none => false) else chkLs c ks [y]))))))
    | _ => false
  | _, _ => false
def chkLs (c : Ck) : Ls → List PySem.Expr → Bool
  | .nil, es => es.isEmpty
  | .cons b _ r, es => match es with
    | x :: xs => (match gLa x with
      | some (pr, body, sc) => noPar pr && (LamX.lamSB c.sc sc && chkE (c.lam sc) b body)
      | none => false) && chkLs c r xs
    | [] => false
def chkEs (c : Ck) : Es → List PySem.Expr → Bool
  | .nil, es => es.isEmpty
  | .cons a r, es => match es with
    | x :: xs => tame x && (chkE c a x && chkEs c r xs)
    | [] => false
def chkI (c : Ck) : I → Tg → PySem.Expr → PySem.Expr → Bool
  | .seq a, _, _, e => chkE c a e
  | .rng1 a, _, _, e => match gCa e with
    | some (x, [y]) => decide (x = "range") && (bltB c x && (tame y && chkE c a y))
    | _ => false
  | .rng2 a b, _, _, e => match gCa e with
    | some (x, [y, z]) => decide (x = "range") && (bltB c x && (tame y && (tame z && (chkE c a y && chkE c b z))))
    | _ => false
  | .enum a, _, tg, e => match gCa e with
    | some (x, [y]) => decide (x = "enumerate") && (bltB c x && (tame y && (chkE c a y && (gTu tg).isSome)))
    | _ => false
  | .zip a b, _, tg, e => match gCa e with
    | some (x, [y, z]) => decide (x = "zip") && (bltB c x && (tame y && (tame z && (chkE c a y && (chkE c b z && (gTu tg).isSome)))))
    | _ => false
  | .items _, _, _, _ => false
def chkT (c : Ck) : Tg → PySem.Expr → Bool
  | .nm i, e => match gNm e with
    | some x => decide (c.N[i]? = some x) && (locB c.sc x && fnB c x)
    | none => false
  | .sub a i, e => match gSub e with
    | some (x, y) => noSl y && (chkE c a x && chkE c i y)
    | none => false
  | .fld _ _, _ => false
  | .tup ts, e => match gTu e with
    | some es => chkTs c ts es
    | none => false
def chkTs (c : Ck) : Tgs → List PySem.Expr → Bool
  | .nil, es => es.isEmpty
  | .cons t r, es => match es with
    | x :: xs => tame x && (chkT c t x && chkTs c r xs)
    | [] => false
end
/-- a slice's end -/
def chkO (c : Ck) (a : E) (o : Option PySem.Expr) : Bool := match o with
  | none => isNil a
  | some z => !isNil a && chkE c a z
/-! ### what stands around -/
/-- a def's promise -/
def spF (T : Tb) (call : List D → Hh → Res D) (np : Nat) : Sp := fun vs H Q E => vs.length = np ∧ ∃ R ds h, RelH T R h H ∧ DVs T R ds vs ∧ Post T (fun c d _ H => E c d H) R [] (call ds h) Q
/-- a def that keeps its promise wherever no text is being written -/
structure FnG (P : Program) (w : World) (K : PySem.W.Frag) (mg : Str → Option Value) (base : Heap) (CX : CXT) (k : Nat) (f : Addr) (fd : FuncData) (ps : List Str) (sp : Sp) : Prop where
  len : ∀ vs H Q E, sp vs H Q E → vs.length = ps.length
  run : ∀ (A : Around) (outer : List PySem.Env) (s : Shared) (H : Hp) (args : Args) (us : List Value) (vs : List V) (Q : VK) (E : XK), A.guards = some [] → Room k A → Env0 P w K mg base A outer s H → BindsTo s fd args (ps.zip us) → Vals vs us → sp vs H Q E →
    codeAny (model P w) A (.call (.ref f) args) (CR CX outer P w H s Q E) s
/-- a lambda of the text, checked -/
structure LamC (c : Ck) (b : E) (I : LamI) : Prop where
  nd : I.N.Nodup
  par : I.params = ⟨[], [], none, [], [], none, []⟩
  kind : I.sc.kind = .function
  co : I.sc.isCoroutine = false
  gen : I.sc.isGenerator = false
  own : ∀ y ∈ I.sc.names, y.2 ≠ .local ∧ y.2 ≠ .cell
  ck : chkE ({ c with N := I.N }.lam I.sc) b I.body = true
/-- the cells that a lambda took along, in the heap -/
structure CloH (h : Heap) (H : Hp) (I : LamI) (cl : List (Str × Addr)) (ws : List (Option V)) : Prop where
  len : ws.length = I.N.length
  cel : ∀ x c, cl.lookup x = some c → H c = none ∧ ∃ v, h.IsCell c v
  inj : ∀ x y c, cl.lookup x = some c → cl.lookup y = some c → x = y
  has : ∀ x, I.sc.names.lookup x = some .free → ∃ c, cl.lookup x = some c
  val : ∀ (i : Nat) (x : Str) (w : V), I.N[i]? = some x → ws[i]? = some (some w) → I.sc.names.lookup x = some .free → ∃ c u, cl.lookup x = some c ∧ h.IsCell c (some u) ∧ RelV w u
/-- a lambda that computes m -/
structure LamG (T : Tb) (P : Program) (w : World) (K : PySem.W.Frag) (mg : Str → Option Value) (base : Heap) (CX : CXT) (k : Nat) (I : LamI) (m : List D → Hh → Res D) : Prop where
  run : ∀ (A : Around) (outer : List PySem.Env) (s : Shared) (H : Hp) (f c' : Addr) (cl : List (Str × Addr)) (pm ctv : Value) (ws : List (Option V)) (Q : VK) (E : XK), A.guards = some [] → Room k A → Env0 P w K mg base A outer s H →
    s.heap.get? f = some (PySem.W.kla_obj "<lambda>" (I.qual ++ "<lambda>") I.params I.body I.sc cl pm c' ctv) → s.heap.CodeRec (.ref c') (I.qual ++ "<lambda>") → CloH s.heap H I cl ws →
    (∃ R e h, RelH T R h H ∧ DVE T R e ws ∧ Post T (fun c d _ H => E c d H) R [] (m e h) Q) →
    codeAny (model P w) A (.call (.ref f) ⟨[], []⟩) (CR CX outer P w H s Q E) s
structure Good (T : Tb) (G : Glb) (k : Nat) (c : Ck) (X : Cx) : Prop where
  K : X.K = T.K
  N : X.N = c.N
  nd : c.N.Nodup
  sc : X.env.scope = c.sc
  fn0 : c.fnl = none → ∀ x, X.fn x = true
  fn1 : ∀ s, c.fnl = some s → ∀ x, X.fn x = (s.names.lookup x == some .cell)
  calm : X.calm = true
  room : Room k X.A
  grd : X.A.guards = some []
  blt : ∀ x ∈ c.blt, X.mg x = none
  con : ∀ (g : Nat) (x : Str) (i : Int), c.cons[g]? = some (x, i) → ∃ t, X.mg x = some (.int i t)
  k2 : 2 ≤ k
  exs : ∀ (ci : Nat) (x : Str), (ci, x) ∈ c.exs → ∃ C fI fd, T.cls ci = some C ∧ X.mg x = some (.ref C) ∧ OexC X.K C ∧ PySem.W.findIn X.K (.ref C) "__init__" = some (some (.ref fI)) ∧ PySem.W.typeIn X.K (.ref fI) = some (.type "function") ∧
    FnOk X.prog X.w X.K X.mg X.base (L2.CX X.prog X.w) 1 fI fd ["self", valN] (spI C) ∧ Binds X.K fd ["self", valN] []
  fns : ∀ (f : Nat) (x : Str), c.fns[f]? = some x → ∃ a fd ps, X.mg x = some (.ref a) ∧ PySem.W.keepIn X.K (.ref a) = true ∧ Binds X.K fd ps [] ∧ FnG X.prog X.w X.K X.mg X.base (L2.CX X.prog X.w) k a fd ps (spF T (G.call f) ps.length) ∧ (∀ ds h, G.call f ds h ≠ .stk → ds.length = ps.length) ∧
    ∀ ks pm, (f, ks, pm) ∈ c.kws → ∀ ws : List Value, ws.length = ks.length → ∃ us, pm.mapM (fun i => ws[i]?) = some us ∧ ∀ s : Shared, X.K.In s.heap → BindsTo s fd ⟨[], ks.zip ws⟩ (ps.zip us)
  stm : c.fnl = none → X.stack = X.env :: X.outer ∧ X.env.frame = some X.env.locals ∧ X.ex = []
  xm : ∀ (cj : Nat) (y : Str), (cj, y) ∈ c.xcl → ∃ Cj, X.mg y = some (.ref Cj)
  xc : ∀ (ci : Nat) (C : Addr), G.sub ci ci = true → T.cls ci = some C → XfC X.K C ∧ PySem.W.findIn X.K (.ref C) valN = some none ∧ ExcC X.K C ∧
    ∀ (cj : Nat) (y : Str) (Cj : Addr), (cj, y) ∈ c.xcl → X.mg y = some (.ref Cj) → PySem.W.kitOne X.K (.ref C) (.ref Cj) = some (G.sub ci cj) ∧ PySem.W.exmOne X.K (.ref C) (.ref Cj) = some (G.sub ci cj)
  lamI : ∀ b I, LamC c b I → T.lam b I
  lamE : ∀ b I, T.lam b I → LamG T X.prog X.w X.K X.mg X.base (L2.CX X.prog X.w) k I (G.lam b)
  mkr : c.mkr = true → ∃ cd Pt, X.env.code = .ref cd ∧ (Pt, X.env.qual ++ "<lambda>") ∈ T.tabs ∧ (∀ p ∈ T.tabs, p.1 = Pt → p.2 = X.env.qual ++ "<lambda>") ∧ LamX.TabB X.base X.mg cd Pt
section
variable {T : Tb} {G : Glb} {k : Nat} {c : Ck} {X : Cx}
theorem Good.hu (g : Good T G k c X) : X.A.units + 65 < cLine := by have := g.room.un; omega
theorem Good.vis (g : Good T G k c X) {x : Str} (h : visB c.sc x = true) : Vis X.env.scope x := by
  rw [g.sc]
  unfold visB at h
  split at h
  · exact .inl (by assumption)
  · exact .inr (.inl (by assumption))
  · exact .inr (.inr (by assumption))
  · cases h
theorem Good.loc (g : Good T G k c X) {x : Str} (h : locB c.sc x = true) : Loc X.env.scope x := by
  rw [g.sc]
  unfold locB at h
  split at h
  · exact .inl (by assumption)
  · exact .inr (by assumption)
  · cases h
theorem Good.gl (g : Good T G k c X) {x : Str} (h : glB c.sc x = true) : Gl X x := by
  show X.env.scope.names.lookup x = some .globalImplicit
  rw [g.sc]
  unfold glB at h
  split at h
  · assumption
  · cases h
theorem Good.fnl (g : Good T G k c X) {x : Str} (h : fnB c x = true) : X.fn x = true ∨ X.env.scope.names.lookup x = some .local := by
  unfold fnB at h
  cases e : c.fnl with
  | none => exact .inl (g.fn0 e x)
  | some s =>
    rw [e] at h
    simp only [Bool.or_eq_true, beq_iff_eq] at h
    rcases h with h | h
    · exact .inl (by rw [g.fn1 s e x]; simpa using h)
    · exact .inr (by rw [g.sc]; exact h)
theorem okN_of {x : Str} (h : okN x = true) : (x == ("__debug__" : Str)) = false ∧ (x == ("__classdict__" : Str)) = false := by
  unfold okN at h
  simpa using h
theorem Good.blk (g : Good T G k c X) (s : Shared) (H : Hp) (scope : Scope) (C : Addr) (cl : List (Str × Addr)) (fp : List Addr) : Good T G k (c.blk scope) (X.blk s H scope (compEnvC scope cl C X.env) fp) where
  K := g.K
  N := g.N
  nd := g.nd
  sc := by
    show relS scope X.env.scope = relS scope c.sc
    rw [g.sc]
  fn0 := fun e => by cases e
  fn1 := fun t e x => by cases e; rfl
  calm := g.calm
  room := g.room
  grd := g.grd
  blt := g.blt
  con := g.con
  k2 := g.k2
  exs := g.exs
  fns := g.fns
  stm := fun e => by cases e
  xm := g.xm
  xc := g.xc
  lamI := fun b I q => g.lamI b I ⟨q.nd, q.par, q.kind, q.co, q.gen, q.own, q.ck⟩
  lamE := g.lamE
  mkr := fun e => by cases e
end
end Mn
/-! # Built-in functions, methods -/
namespace Mn
open PySem L2 PyProof.Rows
section
variable {T : Tb} {W : WX} {R : Rl} {σ : L2.St} {h : Hh} {H : Hp} {Q : VK}
theorem DVs.one {d : D} {vs : List V} (dv : DVs T R [d] vs) : ∃ v, vs = [v] ∧ DV T R d v := by
  match vs, dv with
  | [v], dv =>
    simp only [DVs] at dv
    exact ⟨v, rfl, dv.1⟩
  | [], dv => simp only [DVs] at dv
  | _ :: _ :: _, dv => simp only [DVs] at dv; exact absurd dv.2 id
theorem DVs.two {d e : D} {vs : List V} (dv : DVs T R [d, e] vs) : ∃ v w, vs = [v, w] ∧ DV T R d v ∧ DV T R e w := by
  match vs, dv with
  | v :: r, dv =>
    simp only [DVs] at dv
    obtain ⟨w, rfl, e2⟩ := DVs.one dv.2
    exact ⟨v, w, rfl, dv.1, e2⟩
  | [], dv => simp only [DVs] at dv
theorem DVs.nil' {vs : List V} (dv : DVs T R [] vs) : vs = [] := by
  cases vs with
  | nil => rfl
  | cons _ _ => simp only [DVs] at dv
theorem ints_rd : ∀ {ds : List D} {vs : List V} {ns : List Int}, intsOf ds = some ns → DVs T R ds vs → vs = ns.map V.int
  | [], [], ns, e, _ => by simp [intsOf] at e; subst e; rfl
  | [], _ :: _, _, _, h => by simp only [DVs] at h
  | _ :: _, [], _, _, h => by simp only [DVs] at h
  | d :: ds, v :: vs, ns, e, h => by
    simp only [DVs] at h
    cases d <;> simp [intsOf] at e
    obtain ⟨r, e1, e2⟩ := e
    subst e2
    rw [int_rd h.1, ints_rd e1 h.2]; rfl
theorem bls_rd : ∀ {ds : List D} {vs : List V} {ns : List Bool}, blsOf ds = some ns → DVs T R ds vs → vs = ns.map V.bl
  | [], [], ns, e, _ => by simp [blsOf] at e; subst e; rfl
  | [], _ :: _, _, _, h => by simp only [DVs] at h
  | _ :: _, [], _, _, h => by simp only [DVs] at h
  | d :: ds, v :: vs, ns, e, h => by
    simp only [DVs] at h
    cases d <;> simp [blsOf] at e
    obtain ⟨r, e1, e2⟩ := e
    subst e2
    rw [bl_rd h.1, bls_rd e1 h.2]; rfl
end
theorem maxL_mem : ∀ (a : Int) (l : List Int), maxL (a :: l) ∈ a :: l ∧ ∀ y ∈ a :: l, y ≤ maxL (a :: l)
  | a, [] => ⟨by simp [maxL], fun y hy => by simp at hy; subst hy; exact Int.le_refl _⟩
  | a, b :: l => by
    obtain ⟨h1, h2⟩ := maxL_mem b l
    have e : maxL (a :: b :: l) = if a < maxL (b :: l) then maxL (b :: l) else a := rfl
    rw [e]
    by_cases c : a < maxL (b :: l)
    · rw [if_pos c]
      refine ⟨List.mem_cons_of_mem _ h1, fun y hy => ?_⟩
      rcases List.mem_cons.mp hy with z | z
      · omega
      · exact h2 y z
    · rw [if_neg c]
      refine ⟨List.mem_cons_self, fun y hy => ?_⟩
      rcases List.mem_cons.mp hy with z | z
      · omega
      · have := h2 y z; omega
theorem minL_mem : ∀ (a : Int) (l : List Int), minL (a :: l) ∈ a :: l ∧ ∀ y ∈ a :: l, minL (a :: l) ≤ y
  | a, [] => ⟨by simp [minL], fun y hy => by simp at hy; subst hy; exact Int.le_refl _⟩
  | a, b :: l => by
    obtain ⟨h1, h2⟩ := minL_mem b l
    have e : minL (a :: b :: l) = if minL (b :: l) < a then minL (b :: l) else a := rfl
    rw [e]
    by_cases c : minL (b :: l) < a
    · rw [if_pos c]
      refine ⟨List.mem_cons_of_mem _ h1, fun y hy => ?_⟩
      rcases List.mem_cons.mp hy with z | z
      · omega
      · exact h2 y z
    · rw [if_neg c]
      refine ⟨List.mem_cons_self, fun y hy => ?_⟩
      rcases List.mem_cons.mp hy with z | z
      · omega
      · have := h2 y z; omega
/-! ### built-in functions -/
def biV : Bi → Value
  | .len => .builtin "len"
  | .int => .type "int"
  | .abs => .builtin "abs"
  | .min => .builtin "min"
  | .max => .builtin "max"
  | .sum => .builtin "sum"
  | .repr => .builtin "repr"
  | .list => .type "list"
  | .tuple => .type "tuple"
  | .isinst _ => .builtin "isinstance"
  | .isexc _ => .builtin "isinstance"
  | .str => .type "str"
  | .sorted => .builtin "sorted"
  | .all => .builtin "all"
def rBi (K : PySem.W.Frag) : Bi → List V → Hp → VK → Prop
  | .len => fun xs H Q => ∃ x n, xs = [x] ∧ LenV K x H n ∧ Q (.int n) H
  | .int => fun xs H Q => (∃ i, xs = [.int i] ∧ Q (.int i) H) ∨ ∃ k, xs = [.bl k] ∧ Q (.int (if k then 1 else 0)) H
  | .abs => fun xs H Q => ∃ i, xs = [.int i] ∧ Q (.int (if i < 0 then -i else i)) H
  | .max => fun xs H Q => (∃ i j, xs = [.int i, .int j] ∧ Q (.int (if j > i then j else i)) H) ∨ rMax K xs H Q
  | .min => fun xs H Q => (∃ i j, xs = [.int i, .int j] ∧ Q (.int (if j < i then j else i)) H) ∨ rMin K xs H Q
  | .sum => rSum K
  | .list => fun xs H Q => ∃ p ys, xs = [.ref p] ∧ (SqL K H p ys ∨ SqT K H p ys) ∧ ∀ l, H l = none → Q (.ref l) (upd H l (.lst ys))
  | .tuple => fun xs H Q => ∃ p ys, xs = [.ref p] ∧ ((SqL K H p ys ∧ ∀ l, H l = none → Q (.ref l) (upd H l (.tup ys))) ∨ (SqT K H p ys ∧ Q (.ref p) H))
  | .all => rAll K
  | _ => fun _ _ _ => False
theorem call_bi {X : Cx} (hc : X.calm = true) (b : Bi) : CallR X (biV b) (rBi X.K b) := by
  cases b with
  | len => exact call_len
  | int => exact call_int1
  | abs => exact call_abs
  | max => exact CallR.orr (call_max2 hc) (cr_max hc)
  | min => exact CallR.orr (call_min2 hc) (cr_min hc)
  | sum => exact cr_sum hc
  | list => exact call_list_of
  | tuple => exact call_tuple_of
  | all => exact cr_all hc
  | _ => exact fun _ _ _ _ _ _ _ _ _ h => h.elim
section
variable {T : Tb} {W : WX} {R : Rl} {σ : L2.St} {h : Hh} {H : Hp} {Q : VK} {sub : Nat → Nat → Bool} {lv : Bool} {ds : List D} {vs : List V}
/-- what list(x), tuple(x) read -/
theorem seq_rd (r : RelH T R h H) {d : D} {xs : List D} {v : V} (e : (match d with | .tup xs => some xs | d => lsOf h d) = some xs) (dv : DV T R d v) : ∃ p ys, v = .ref p ∧ (SqL T.K H p ys ∨ (H p = some (.tup ys) ∧ d = .tup xs)) ∧ DVs T R xs ys := by
  cases d with
  | tup ys =>
    simp only [Option.some.injEq] at e
    subst e
    obtain ⟨a, vs, e1, e2, e3⟩ := tup_rd r dv
    exact ⟨a, vs, e1, .inr ⟨e2, rfl⟩, e3⟩
  | _ =>
    obtain ⟨a, vs, e1, e2, e3⟩ := lsOf_rd r e dv
    exact ⟨a, vs, e1, .inl e2, e3⟩
theorem bi_snd (b : Bi) (r : RelH T R h H) (dv : DVs T R ds vs) (p : Post T W R σ (bfn sub lv b ds h) Q) (n1 : ∀ ts, b ≠ .isinst ts) (n2 : ∀ c, b ≠ .isexc c) (n3 : b ≠ .repr) : rBi T.K b vs H Q := by
  cases b with
  | len =>
    match ds, dv, p with
    | [], _, p => exact absurd p id
    | _ :: _ :: _, _, p => exact absurd p id
    | [d], dv, p =>
      obtain ⟨v, rfl, d1⟩ := dv.one
      cases d with
      | str x =>
        simp only [bfn] at p
        split at p
        · rename_i z
          refine ⟨v, x.length, rfl, ?_, p.val r (int_dv _)⟩
          rw [str_rd d1]
          exact ⟨by rw [← sizeL_eq]; exact z, rfl⟩
        · exact absurd p id
      | tup xs =>
        obtain ⟨a, ws, rfl, h1, h2⟩ := tup_rd r d1
        exact ⟨.ref a, xs.length, rfl, .inr ⟨ws, SqT.of h1, h2.length⟩, p.val r (int_dv _)⟩
      | _ =>
        simp only [bfn] at p
        split at p
        · rename_i xs e
          obtain ⟨a, ws, rfl, h1, h2⟩ := lsOf_rd r e d1
          exact ⟨.ref a, xs.length, rfl, .inl ⟨ws, h1, h2.length⟩, p.val r (int_dv _)⟩
        · exact absurd p id
  | int =>
    match ds, dv, p with
    | [], _, p => exact absurd p id
    | _ :: _ :: _, _, p => exact absurd p id
    | [d], dv, p =>
      obtain ⟨v, rfl, d1⟩ := dv.one
      cases d with
      | int i => exact .inl ⟨i, by rw [int_rd d1], p.val r (int_dv _)⟩
      | bl i => exact .inr ⟨i, by rw [bl_rd d1], p.val r (int_dv _)⟩
      | _ => exact absurd p id
  | sum =>
    match ds, dv, p with
    | [], _, p => exact absurd p id
    | _ :: _ :: _, _, p => exact absurd p id
    | [d], dv, p =>
      obtain ⟨v, rfl, d1⟩ := dv.one
      simp only [bfn] at p
      split at p
      · rename_i l e
        simp only [Option.bind_eq_some_iff] at e
        obtain ⟨xs, e1, e2⟩ := e
        obtain ⟨a, ws, rfl, h1, h2⟩ := lsOf_rd r e1 d1
        rw [ints_rd e2 h2] at h1
        exact ⟨a, l, rfl, h1, p.val r (int_dv _)⟩
      · exact absurd p id
  | all =>
    match ds, dv, p with
    | [], _, p => exact absurd p id
    | _ :: _ :: _, _, p => exact absurd p id
    | [d], dv, p =>
      obtain ⟨v, rfl, d1⟩ := dv.one
      simp only [bfn] at p
      split at p
      · rename_i l e
        simp only [Option.bind_eq_some_iff] at e
        obtain ⟨xs, e1, e2⟩ := e
        obtain ⟨a, ws, rfl, h1, h2⟩ := lsOf_rd r e1 d1
        rw [bls_rd e2 h2] at h1
        exact ⟨a, l, rfl, h1, p.val r (bl_dv _)⟩
      · exact absurd p id
  | list =>
    match ds, dv, p with
    | [], _, p => exact absurd p id
    | _ :: _ :: _, _, p => exact absurd p id
    | [d], dv, p =>
      obtain ⟨v, rfl, d1⟩ := dv.one
      simp only [bfn] at p
      split at p
      · rename_i xs e
        obtain ⟨a, ws, rfl, h1, h2⟩ := seq_rd r e d1
        refine ⟨a, ws, rfl, ?_, fun l hl => Post.newL p r h2 hl⟩
        rcases h1 with h1 | ⟨h1, _⟩
        · exact .inl h1
        · exact .inr (SqT.of h1)
      · exact absurd p id
  | tuple =>
    match ds, dv, p with
    | [], _, p => exact absurd p id
    | _ :: _ :: _, _, p => exact absurd p id
    | [d], dv, p =>
      obtain ⟨v, rfl, d1⟩ := dv.one
      simp only [bfn] at p
      split at p
      · rename_i xs e
        obtain ⟨a, ws, rfl, h1, h2⟩ := seq_rd r e d1
        refine ⟨a, ws, rfl, ?_⟩
        rcases h1 with h1 | ⟨h1, e2⟩
        · exact .inl ⟨h1, fun l hl => Post.newT p r h2 hl⟩
        · subst e2
          exact .inr ⟨SqT.of h1, p.val r d1⟩
      · exact absurd p id
  | abs =>
    match ds, dv, p with
    | [], _, p => exact absurd p id
    | a :: _ :: _, _, p => cases a <;> exact absurd p id
    | [d], dv, p =>
      cases d with
      | int i =>
        obtain ⟨v, rfl, d1⟩ := dv.one
        exact ⟨i, by rw [int_rd d1], p.val r (int_dv _)⟩
      | _ => exact absurd p id
  | max =>
    match ds, dv, p with
    | [], _, p => exact absurd p id
    | a :: b :: _ :: _, _, p => cases a <;> first | exact absurd p id | (cases b <;> exact absurd p id)
    | [a, b], dv, p =>
      cases a with
      | int i =>
        cases b with
        | int j =>
          obtain ⟨v, w, rfl, d1, d2⟩ := dv.two
          exact .inl ⟨i, j, by rw [int_rd d1, int_rd d2], p.val r (int_dv _)⟩
        | _ => exact absurd p id
      | _ => cases b <;> exact absurd p id
    | [d], dv, p =>
      obtain ⟨v, rfl, d1⟩ := dv.one
      simp only [bfn] at p
      split at p
      · rename_i i l e
        simp only [Option.bind_eq_some_iff] at e
        obtain ⟨xs, e1, e2⟩ := e
        obtain ⟨a, ws, rfl, h1, h2⟩ := lsOf_rd r e1 d1
        rw [ints_rd e2 h2] at h1
        obtain ⟨m1, m2⟩ := maxL_mem i l
        refine .inr ⟨a, i :: l, rfl, h1, by simp, fun m hm hle => ?_⟩
        have em : m = maxL (i :: l) := Int.le_antisymm (m2 m hm) (hle _ m1)
        rw [em]
        exact p.val r (int_dv _)
      · exact absurd p id
  | min =>
    match ds, dv, p with
    | [], _, p => exact absurd p id
    | a :: b :: _ :: _, _, p => cases a <;> first | exact absurd p id | (cases b <;> exact absurd p id)
    | [a, b], dv, p =>
      cases a with
      | int i =>
        cases b with
        | int j =>
          obtain ⟨v, w, rfl, d1, d2⟩ := dv.two
          exact .inl ⟨i, j, by rw [int_rd d1, int_rd d2], p.val r (int_dv _)⟩
        | _ => exact absurd p id
      | _ => cases b <;> exact absurd p id
    | [d], dv, p =>
      obtain ⟨v, rfl, d1⟩ := dv.one
      simp only [bfn] at p
      split at p
      · rename_i i l e
        simp only [Option.bind_eq_some_iff] at e
        obtain ⟨xs, e1, e2⟩ := e
        obtain ⟨a, ws, rfl, h1, h2⟩ := lsOf_rd r e1 d1
        rw [ints_rd e2 h2] at h1
        obtain ⟨m1, m2⟩ := minL_mem i l
        refine .inr ⟨a, i :: l, rfl, h1, by simp, fun m hm hle => ?_⟩
        have em : m = minL (i :: l) := Int.le_antisymm (hle _ m1) (m2 m hm)
        rw [em]
        exact p.val r (int_dv _)
      · exact absurd p id
  | isinst ts => exact absurd rfl (n1 ts)
  | isexc c => exact absurd rfl (n2 c)
  | repr => exact absurd rfl n3
  | str => exact absurd p id
  | sorted => exact absurd p id
end
end Mn
namespace Mn
open PySem L2 PyProof.Rows
/-! ### isinstance -/
def tyS : Nat → String
  | 0 => "int"
  | 1 => "bool"
  | 2 => "str"
  | 3 => "list"
  | 4 => "tuple"
  | _ => "dict"
/-- the class of a value: 6: None -/
def tyC : Nat → String
  | 0 => "int"
  | 1 => "bool"
  | 2 => "str"
  | 3 => "list"
  | 4 => "tuple"
  | 5 => "dict"
  | _ => "NoneType"
def tyTab (a t : Nat) : Bool := if t = 0 then (a = 0 || a = 1) else if t < 5 then a = t else a = 5
theorem kit_tab : ∀ a < 7, ∀ t < 6, kitB (tyC a) (tyS t) = some (tyTab a t) := by decide +kernel
theorem tyS_ge (t : Nat) (h : 5 ≤ t) : tyS t = tyS 5 := by
  match t, h with
  | n + 5, _ => cases n <;> rfl
theorem tyN_ge (t : Nat) (h : 5 ≤ t) : tyN t = tyN 5 := by
  match t, h with
  | n + 5, _ => cases n <;> rfl
theorem kit_tab' (a t : Nat) (h : a < 7) : kitB (tyC a) (tyS t) = some (tyTab a t) := by
  by_cases ht : t < 6
  · exact kit_tab a h t ht
  · rw [tyS_ge t (by omega), kit_tab a h 5 (by decide)]
    have e1 : t ≠ 0 := by omega
    have e2 : ¬ t < 5 := by omega
    simp [tyTab, e1, e2]
def codeD (h : Hh) : D → Nat
  | .int _ => 0
  | .bl _ => 1
  | .str _ => 2
  | .non => 6
  | .tup _ => 4
  | .dK _ => 5
  | .dT _ => 5
  | .cel c => match h[c]? with
    | some (.lst _) => 3
    | _ => 5
  | _ => 3
theorem codeD_lt (h : Hh) (d : D) : codeD h d < 7 := by
  cases d <;> simp only [codeD] <;> first | decide | (split <;> decide)
theorem tyIs_code (h : Hh) (d : D) (p : plain h d = true) (t : Nat) : tyIs h d t = tyTab (codeD h d) t := by
  have z : ∀ n, 5 ≤ n → tyIs h d n = tyIs h d 5 := fun n hn => by
    match n, hn with
    | m + 5, _ => cases m <;> rfl
  have w : ∀ n, 5 ≤ n → tyTab (codeD h d) n = tyTab (codeD h d) 5 := fun n hn => by
    have e1 : n ≠ 0 := by omega
    have e2 : ¬ n < 5 := by omega
    simp [tyTab, e1, e2]
  have main : ∀ t, t < 6 → tyIs h d t = tyTab (codeD h d) t := by
    intro t ht
    cases d with
    | cel c =>
      simp only [plain] at p
      simp only [codeD]
      split at p
      · rename_i e
        match t, ht with
        | 0, _ => simp [tyIs, tyTab, e]
        | 1, _ => simp [tyIs, tyTab, e]
        | 2, _ => simp [tyIs, tyTab, e]
        | 3, _ => simp [tyIs, tyTab, e, lsOf]
        | 4, _ => simp [tyIs, tyTab, e]
        | 5, _ => simp [tyIs, tyTab, e]
      · rename_i e
        match t, ht with
        | 0, _ => simp [tyIs, tyTab, e]
        | 1, _ => simp [tyIs, tyTab, e]
        | 2, _ => simp [tyIs, tyTab, e]
        | 3, _ => simp [tyIs, tyTab, e, lsOf]
        | 4, _ => simp [tyIs, tyTab, e]
        | 5, _ => simp [tyIs, tyTab, e]
      · rename_i e
        match t, ht with
        | 0, _ => simp [tyIs, tyTab, e]
        | 1, _ => simp [tyIs, tyTab, e]
        | 2, _ => simp [tyIs, tyTab, e]
        | 3, _ => simp [tyIs, tyTab, e, lsOf]
        | 4, _ => simp [tyIs, tyTab, e]
        | 5, _ => simp [tyIs, tyTab, e]
      · cases p
    | und => cases p
    | exc _ _ => cases p
    | clo _ _ => cases p
    | _ =>
      match t, ht with
      | 0, _ => rfl
      | 1, _ => rfl
      | 2, _ => rfl
      | 3, _ => rfl
      | 4, _ => rfl
      | 5, _ => rfl
  by_cases ht : t < 6
  · exact main t ht
  · rw [z t (by omega), w t (by omega)]
    exact main 5 (by decide)
section
variable {T : Tb} {W : WX} {R : Rl} {σ : L2.St} {h : Hh} {H : Hp} {Q : VK} {lv : Bool}
theorem tyx_rd (r : RelH T R h H) {d : D} {v : V} (p : plain h d = true) (dv : DV T R d v) : TyX T.K H v (.type (tyC (codeD h d))) := by
  cases d with
  | und => cases p
  | non => rw [non_rd dv]; exact .base .non
  | bl b => rw [bl_rd dv]; exact .base (.bl b)
  | int b => rw [int_rd dv]; exact .base (.int b)
  | str b => rw [str_rd dv]; exact .base (.str b)
  | lst xs =>
    obtain ⟨a, vs, rfl, h1, _⟩ := lsW_rd r (d := .lst xs) rfl dv
    exact .base (.lst h1)
  | tup xs =>
    obtain ⟨a, vs, rfl, h1, _⟩ := tup_rd r dv
    exact .base (.tup h1)
  | ro xs =>
    obtain ⟨a, vs, rfl, h1, _⟩ := lsOf_rd r (d := .ro xs) rfl dv
    rcases h1 with (h1 | ⟨o, h1⟩) | ⟨o, its, n, h1, h2, _⟩
    · exact .base (.lst h1)
    · exact .base (.frz h1)
    · exact .kList h1 h2
  | dK xs =>
    simp only [DV] at dv
    obtain ⟨a, ps, rfl, h1, _⟩ := dv
    exact .base (.dK (r.fz _ _ h1))
  | dT xs =>
    simp only [DV] at dv
    obtain ⟨a, ps, rfl, h1, _⟩ := dv
    exact .base (.dT (r.fz _ _ h1))
  | cel c =>
    simp only [DV] at dv
    obtain ⟨a, rfl, e⟩ := dv
    simp only [plain] at p
    simp only [codeD]
    split at p
    · rename_i xs hc
      obtain ⟨_, _, vs, z, _⟩ := r.live c _ a hc e
      rw [hc]
      exact .base (.lst z)
    · rename_i xs hc
      obtain ⟨_, _, vs, z, _⟩ := r.live c _ a hc e
      rw [hc]
      exact .base (.dK z)
    · rename_i xs hc
      obtain ⟨_, _, vs, z, _⟩ := r.live c _ a hc e
      rw [hc]
      exact .base (.dT z)
    · cases p
  | exc _ _ => cases p
  | clo _ _ => cases p
theorem kitAny_tab {K : PySem.W.Frag} (a : Nat) (ha : a < 7) : ∀ ts : List Nat, PySem.W.kitAny K (.type (tyC a)) (ts.map fun t => Value.type (tyS t)) = some (ts.any (tyTab a))
  | [] => kitAny_nil
  | t :: ts => kitAny_cons (kit_ty (kit_tab' a t ha)) (fun e => by rw [kitAny_tab a ha ts, List.any_cons, e]; rfl) (fun e => by rw [List.any_cons, e]; rfl)
theorem isi_snd {d : D} {v : V} {t : Nat} (r : RelH T R h H) (p : plain h d = true) (dv : DV T R d v) (q : Q (.bl (tyIs h d t)) H) : rIsi T.K [v, .ty (tyS t)] H Q :=
  ⟨v, .ty (tyS t), _, _, tyIs h d t, rfl, .ty _, tyx_rd r p dv, by rw [tyIs_code h d p]; exact kit_ty (kit_tab' _ t (codeD_lt h d)), q⟩
theorem paired_cls : ∀ ts : List Nat, Paired ClsV (ts.map fun t => V.ty (tyS t)) (ts.map fun t => Value.type (tyS t))
  | [] => .nil
  | t :: ts => .cons (.ty _) (paired_cls ts)
theorem isiT_snd {d : D} {v : V} {ts : List Nat} {tp : Addr} (r : RelH T R h H) (p : plain h d = true) (dv : DV T R d v) (ht : H tp = some (.tup (ts.map fun t => V.ty (tyS t)))) (q : Q (.bl (ts.any (tyIs h d))) H) : rIsiT T.K [v, .ref tp] H Q :=
  ⟨v, tp, _, _, _, _, rfl, ht, paired_cls ts, tyx_rd r p dv, kitAny_tab _ (codeD_lt h d) ts, by
    have e : tyIs h d = tyTab (codeD h d) := funext fun t => tyIs_code h d p t
    rw [← e]; exact q⟩
theorem boot_ty (t : Nat) : bootBuiltins (tyN t) = some (.type (tyS t)) := by
  have main : ∀ t < 6, bootBuiltins (tyN t) = some (.type (tyS t)) := by decide +kernel
  by_cases ht : t < 6
  · exact main t ht
  · rw [tyN_ge t (by omega), tyS_ge t (by omega)]
    exact main 5 (by decide)
theorem tyN_ne (t : Nat) : tyN t ≠ "__name__" ∧ (tyN t == ("__debug__" : Str)) = false := by
  have main : ∀ t < 6, tyN t ≠ "__name__" ∧ (tyN t == ("__debug__" : Str)) = false := by decide +kernel
  by_cases ht : t < 6
  · exact main t ht
  · rw [tyN_ge t (by omega)]
    exact main 5 (by decide)
/-! ### slices -/
theorem cutO_rd {xs : List D} {vs : List V} (dv : DVs T R xs vs) (lo hi : Option Int) : DVs T R (cutO xs lo hi) (cutV vs lo hi) := by
  unfold cutO cutV
  rw [dv.length]
  exact (dv.drop _).take _
def rSlAll (K : PySem.W.Frag) : V → Option Int → Option Int → Hp → VK → Prop := fun x lo hi H Q => (rSlL K x lo hi H Q ∨ rSlA K x lo hi H Q) ∨ rSlS x lo hi H Q
theorem sl_all {X : Cx} : SlR X (rSlAll X.K) := SlR.or (SlR.or sl_list sl_tupA) sl_str
theorem cutV_whole {xs : List V} {lo hi : Option Int} (h : HT.sIx xs.length 0 lo = 0 ∧ HT.sIx xs.length xs.length hi = xs.length) : cutV xs lo hi = xs := by
  unfold cutV
  rw [h.1, h.2]
  simp
theorem cutO_whole {xs : List D} {lo hi : Option Int} (h : HT.sIx xs.length 0 lo = 0 ∧ HT.sIx xs.length xs.length hi = xs.length) : cutO xs lo hi = xs := by
  unfold cutO
  rw [h.1, h.2]
  simp
theorem slc_snd {d : D} {x : V} {l u : Option Int} (r : RelH T R h H) (dv : DV T R d x)
    (p : Post T W R σ (slcop d l u h) Q) : rSlAll T.K x l u H Q := by
  cases d with
  | str z =>
    simp only [slcop] at p
    split at p
    · rename_i hz
      exact .inr ⟨z, str_rd dv, by rw [← sizeL_eq]; exact hz, p.val r (str_dv _)⟩
    · exact absurd p id
  | tup xs =>
    obtain ⟨a, vs, rfl, h1, h2⟩ := tup_rd r dv
    refine .inl (.inr ⟨a, vs, rfl, SqT.of h1, fun hw => ?_, fun _ q hq => ?_⟩)
    · have e : cutO xs l u = xs := cutO_whole (by rw [h2.length]; exact hw)
      have p : Post T W R σ (.ok (.tup (cutO xs l u)) h) Q := p
      rw [e] at p
      exact p.val r dv
    · exact Post.newT p r (cutO_rd h2 l u) hq
  | _ =>
    simp only [slcop] at p
    split at p
    · rename_i xs e
      obtain ⟨a, vs, rfl, h1, h2⟩ := lsOf_rd r e dv
      exact .inl (.inl ⟨a, vs, rfl, h1, fun q hq => Post.newF p r (cutO_rd h2 l u) hq⟩)
    · exact absurd p id
/-! ### methods -/
theorem findF_rd {y : D} {w : V} (fy : flat y = true) (dy : DV T R y w) : ∀ {xs : List D} {vs : List V} {n j : Nat}, xs.all flat = true → DVs T R xs vs → findF y xs n = some j →
    ∃ i z, j = n + i ∧ vs[i]? = some z ∧ eqV z w = true ∧ ∀ m z', m < i → vs[m]? = some z' → eqV z' w = false
  | [], _, _, _, _, _, e => by simp [findF] at e
  | _ :: _, [], _, _, _, h, _ => by simp only [DVs] at h
  | x :: xs, v :: vs, n, j, f, h, e => by
    simp only [DVs] at h
    simp only [List.all_cons, Bool.and_eq_true] at f
    simp only [findF] at e
    have ev := eqF_rd f.1 fy h.1 dy
    split at e
    · rename_i q
      simp only [Option.some.injEq] at e
      subst e
      exact ⟨0, v, rfl, rfl, by rw [ev]; exact q, fun m z' hm => absurd hm (Nat.not_lt_zero _)⟩
    · rename_i q
      obtain ⟨i, z, e1, e2, e3, e4⟩ := findF_rd fy dy f.2 h.2 e
      refine ⟨i + 1, z, by omega, by simpa using e2, e3, fun m z' hm hz => ?_⟩
      cases m with
      | zero =>
        simp at hz
        subst hz
        rw [ev]
        simpa using q
      | succ m => exact e4 m z' (by omega) (by simpa using hz)
theorem get_snd {d k x : D} {v y z : V} (r : RelH T R h H) (dd : DV T R d v) (dk : DV T R k y) (dx : DV T R x z) (p : Post T W R σ (mtf lv .get d [k, x] h) Q) : ∃ a, v = .ref a ∧ IsD H a ∧ ∃ o, DGet H a y o ∧ Q (o.getD z) H := by
  simp only [mtf] at p
  split at p
  · rename_i o e
    obtain ⟨a, q, e1, g, g1, g2, g3⟩ := dGet_rd r e dd dk
    refine ⟨a, e1, g3, q, g, ?_⟩
    cases o with
    | none =>
      rw [g2 rfl]
      exact p.val r dx
    | some w =>
      obtain ⟨u, e3, e4⟩ := g1 w rfl
      rw [e3]
      exact p.val r e4
  · exact absurd p id
end
end Mn
/-! # The pieces' soundness -/
namespace Mn
open PySem L2 PyProof.Rows
/-! ### adopted objects -/
section
variable {T : Tb} {R : Rl} {h : Hh} {H : Hp} {p : Addr} {o : HO}
/-- what stands outside of the knowledge may change -/
theorem RelH.outside {vs : List V} (r : RelH T R h H) (hl : H p = some (.lst vs)) (f1 : R.F p = none) (f2 : R.P p = none) (f3 : p ∉ R.rho) : RelH T R h (upd H p o) := by
  refine ⟨fun a u e => ?_, fun a u e => ?_, r.dj, r.len, fun c ob a e1 e2 => ?_, r.nd, r.px, r.nt, Tabs.keep r.tb fun b u q k => by
    rw [upd_ne (fun z => by
      subst z
      rw [hl] at q
      cases q
      rcases k with ⟨ps, k⟩ | ⟨φ, k⟩ <;> cases k)]
    exact q⟩
  · rw [upd_ne (ne_of_none e f1)]; exact r.fz _ _ e
  · rw [upd_ne (ne_of_none e f2)]; exact r.pv _ _ e
  · have na : a ≠ p := fun z => by rw [z] at e2; exact f3 (List.mem_of_getElem? e2)
    rw [upd_ne na]
    exact r.live c ob a e1 e2
theorem RelH.adoptF (r : RelH T R h H) (e : H p = some o) (f1 : R.F p = none) (f2 : R.P p = none) (f3 : p ∉ R.rho) (ho : ∀ ps, o ≠ .tbl ps := by intro _ z; cases z) : RelH T { R with F := upd R.F p o } h H ∧ Rle R { R with F := upd R.F p o } := by
  refine r.know (fun a u e => ?_) (fun a u q => ?_) (fun a ha => ?_) (fun a u e => ?_) (fun a ps q => ?_)
  · rw [upd_ne (ne_of_none e f1)]; exact e
  · by_cases ha : a = p
    · subst ha; rw [upd_same] at q; cases q; exact e
    · rw [upd_ne ha] at q; exact r.fz _ _ q
  · rw [upd_ne (fun z => by rw [z] at ha; exact f3 ha)]
    obtain ⟨c, hc⟩ := List.getElem?_of_mem ha
    exact (r.addr hc).choose_spec.2.1
  · rw [upd_ne (ne_of_none e f2)]
    exact r.dj _ _ e
  · by_cases ha : a = p
    · subst ha; rw [upd_same] at q; exact ho ps (Option.some.inj q)
    · rw [upd_ne ha] at q; exact r.nt a ps q
theorem Rle.rho1 (R : Rl) (p : Addr) : Rle R { R with rho := R.rho ++ [p] } := ⟨fun _ _ h => h, fun c b e => by
    have hc : c < R.rho.length := (List.getElem?_eq_some_iff.mp e).1
    show (R.rho ++ [p])[c]? = some b
    rw [List.getElem?_append_left hc]; exact e, rfl, rfl⟩
theorem RelH.adoptL {ob : Ob} (r : RelH T R h H) (e : H p = some o) (f1 : R.F p = none) (f2 : R.P p = none) (f3 : p ∉ R.rho) (ho : ObR T { R with rho := R.rho ++ [p] } ob (some o)) :
    RelH T { R with rho := R.rho ++ [p] } (h ++ [ob]) H ∧ (R.rho ++ [p])[h.length]? = some p := by
  have l := Rle.rho1 R p
  refine ⟨⟨r.fz, r.pv, r.dj, by simp [r.len], fun c ob' a h1 h2 => ?_, ?_, r.px, r.nt, r.tb⟩, ?_⟩
  · by_cases hc : c < h.length
    · rw [List.getElem?_append_left hc] at h1
      have h2 : (R.rho ++ [p])[c]? = some a := h2
      rw [List.getElem?_append_left (by rw [r.len]; exact hc)] at h2
      obtain ⟨z1, z2, z3⟩ := r.live c ob' a h1 h2
      exact ⟨z1, z2, z3.mono l⟩
    · have hce : c = h.length := by
        have := (List.getElem?_eq_some_iff.mp h1).1
        simp at this
        omega
      subst hce
      have h2 : (R.rho ++ [p])[h.length]? = some a := h2
      rw [List.getElem?_append_right (Nat.le_refl _)] at h1
      rw [List.getElem?_append_right (by rw [r.len]; exact Nat.le_refl _)] at h2
      simp [r.len] at h1 h2
      subst h1 h2
      rw [e]
      exact ⟨f1, f2, ho⟩
  · rw [List.nodup_append]
    refine ⟨r.nd, by simp, fun a ha b hb z => ?_⟩
    have : b = p := by simpa using hb
    subst this z
    exact f3 ha
  · rw [List.getElem?_append_right (by rw [r.len]; exact Nat.le_refl _)]
    simp [r.len]
end
theorem Post.oldL {T : Tb} {W : WX} {R : Rl} {σ : L2.St} {lv : Bool} {xs : List D} {vs : List V} {h : Hh} {H : Hp} {Q : VK} {a : Addr} (p : Post T W R σ (Mn.newL lv xs h) Q) (r : RelH T R h H) (d : DVs T R xs vs)
    (e : H a = some (.lst vs)) (f1 : R.F a = none) (f2 : R.P a = none) (f3 : a ∉ R.rho) : Q (.ref a) H := by
  unfold Mn.newL at p
  split at p
  · split at p
    · obtain ⟨r1, e1⟩ := r.adoptL (ob := .lst xs) e f1 f2 f3 ⟨vs, rfl, d.mono (Rle.rho1 R a)⟩
      refine p _ _ _ (Rle.rho1 R a) r1 ?_
      simp only [DV]
      exact ⟨a, rfl, e1⟩
    · obtain ⟨r1, l⟩ := r.adoptF e f1 f2 f3
      refine p _ _ _ l r1 ?_
      simp only [DV]
      exact ⟨a, vs, rfl, upd_same, d.mono l⟩
  · exact absurd p id
/-! ### knowledge, but for private things -/
structure RleF (R R' : Rl) : Prop where
  F : ∀ a o, R.F a = some o → R'.F a = some o
  rho : ∀ (c : Nat) (a : Addr), R.rho[c]? = some a → R'.rho[c]? = some a
  pn : R'.pn = R.pn
theorem Rle.f {R R' : Rl} (l : Rle R R') : RleF R R' := ⟨l.F, l.rho, l.pn⟩
theorem RleF.trans {R R1 R2 : Rl} (a : RleF R R1) (b : RleF R1 R2) : RleF R R2 := ⟨fun x o h => b.F x o (a.F x o h), fun x o h => b.rho x o (a.rho x o h), b.pn.trans a.pn⟩
theorem RleF.anyP (R : Rl) (P : Hp) : RleF R { R with P := P } := ⟨fun _ _ h => h, fun _ _ h => h, rfl⟩
theorem RleF.refl (R : Rl) : RleF R R := ⟨fun _ _ h => h, fun _ _ h => h, rfl⟩
section
variable {T : Tb} {R R' : Rl} (l : RleF R R')
include l
theorem DV.monoF {d : D} {v : V} (h : DV T R d v) : DV T R' d v := DV.mono' l.F l.rho l.pn d v h
theorem DVs.monoF {d : List D} {v : List V} (h : DVs T R d v) : DVs T R' d v := DVs.mono' l.F l.rho l.pn d v h
theorem DVE.monoF {d : List D} {v : List (Option V)} (h : DVE T R d v) : DVE T R' d v := DVE.mono' l.F l.rho l.pn d v h
end
/-! ### what a loop walks -/
/-- a list (a tuple) at a is walked as src -/
def SrcL (T : Tb) (R : Rl) (src : Src) (a : Addr) : Prop := ∀ (i : Nat) (R' : Rl) (h : Hh) (H : Hp) (o : Option D), RleF R R' → RelH T R' h H → src.at i h = some o →
  ∃ vs, SqL T.K H a vs ∧ (o = none → vs.length ≤ i) ∧ ∀ d, o = some d → ∃ v, vs[i]? = some v ∧ DV T R' d v
def SrcJ (T : Tb) (R : Rl) (src : Src) (J : It) : Prop := ∀ (i : Nat) (R' : Rl) (h : Hh) (H : Hp), RleF R R' → RelH T R' h H →
  (src.at i h = some none → J.stop i H) ∧ ∀ d, src.at i h = some (some d) → J.go i H ∧ ∀ x H', J.yld i H x H' → ∃ R2, Rle R' R2 ∧ RelH T R2 h H' ∧ DV T R2 d x
theorem SrcL.mono {T : Tb} {R R1 : Rl} {src : Src} {a : Addr} (s : SrcL T R src a) (l : RleF R R1) : SrcL T R1 src a := fun i R' h H o l1 => s i R' h H o (l.trans l1)
theorem SrcL.itl {T : Tb} {R : Rl} {src : Src} {a : Addr} (s : SrcL T R src a) : SrcJ T R src (Itl T.K a) := by
  intro i R' h H l r
  refine ⟨fun e => ?_, fun d e => ?_⟩
  · obtain ⟨vs, h1, h2, _⟩ := s i R' h H none l r e
    exact ⟨vs, h1, h2 rfl⟩
  · obtain ⟨vs, h1, _, h3⟩ := s i R' h H _ l r e
    obtain ⟨v, e1, e2⟩ := h3 d rfl
    refine ⟨⟨vs, v, h1, e1⟩, fun x H' ⟨q, y⟩ => ?_⟩
    subst q
    have z := y vs h1
    rw [e1] at z
    cases z
    exact ⟨R', Rle.refl R', r, e2⟩
theorem SrcL.ite {T : Tb} {R : Rl} {src : Src} {a : Addr} (s : SrcL T R src a) : SrcJ T R (.en src) (Ite T.K a) := by
  intro i R' h H l r
  refine ⟨fun e => ?_, fun d e => ?_⟩
  · simp only [Src.at] at e
    split at e
    · cases e
    · rename_i e0
      obtain ⟨vs, h1, h2, _⟩ := s i R' h H none l r e0
      exact ⟨vs, h1, h2 rfl⟩
    · cases e
  · simp only [Src.at] at e
    split at e
    · rename_i d0 e0
      obtain ⟨vs, h1, _, h3⟩ := s i R' h H _ l r e0
      obtain ⟨v, e1, e2⟩ := h3 d0 rfl
      refine ⟨⟨vs, v, h1, e1⟩, fun x H' ⟨q, y, ex, eq, eH, z⟩ => ?_⟩
      have z := z vs h1
      rw [e1] at z
      cases z
      subst ex eH
      obtain ⟨r1, l1⟩ := r.laid (o := .tup [.int (i : Nat), v]) eq
      refine ⟨_, l1, r1, ?_⟩
      cases e
      simp only [DV]
      exact ⟨q, _, rfl, upd_same, by simp only [DVs, DV, true_and, and_true]; exact e2.mono l1⟩
    · cases e
    · cases e
theorem SrcL.itz {T : Tb} {R : Rl} {s1 s2 : Src} {a b : Addr} (s : SrcL T R s1 a) (t : SrcL T R s2 b) : SrcJ T R (.zp s1 s2) (Itz T.K a b) := by
  intro i R' h H l r
  refine ⟨fun e => ?_, fun d e => ?_⟩
  · simp only [Src.at] at e
    split at e
    · cases e
    · rename_i o e0 e1
      obtain ⟨vs, h1, h2, _⟩ := s i R' h H none l r e0
      obtain ⟨ws, g1, g2, _⟩ := t i R' h H _ l r e1
      exact ⟨vs, ws, h1, g1, .inl (h2 rfl)⟩
    · rename_i o _ e0 e1
      obtain ⟨vs, h1, h2, _⟩ := s i R' h H _ l r e0
      obtain ⟨ws, g1, g2, _⟩ := t i R' h H none l r e1
      exact ⟨vs, ws, h1, g1, .inr (g2 rfl)⟩
    · cases e
  · simp only [Src.at] at e
    split at e
    · rename_i x0 y0 e0 e1
      obtain ⟨vs, h1, _, h3⟩ := s i R' h H _ l r e0
      obtain ⟨ws, g1, _, g3⟩ := t i R' h H _ l r e1
      obtain ⟨v, q1, q2⟩ := h3 x0 rfl
      obtain ⟨w, k1, k2⟩ := g3 y0 rfl
      refine ⟨⟨vs, ws, v, w, h1, g1, q1, k1⟩, fun x H' ⟨q, x1, y1, ex, eq, eH, z1, z2⟩ => ?_⟩
      have z1 := z1 vs h1
      have z2 := z2 ws g1
      rw [q1] at z1
      rw [k1] at z2
      cases z1
      cases z2
      subst ex eH
      obtain ⟨r1, l1⟩ := r.laid (o := .tup [v, w]) eq
      refine ⟨_, l1, r1, ?_⟩
      cases e
      simp only [DV]
      exact ⟨q, _, rfl, upd_same, by simp only [DVs, and_true]; exact ⟨q2.mono l1, k2.mono l1⟩⟩
    · cases e
    · cases e
    · cases e
theorem srcJ_tup {T : Tb} {R : Rl} {xs : List D} {vs : List V} {a : Addr} (e : R.F a = some (.tup vs)) (dv : DVs T R xs vs) : SrcJ T R (.fz xs) (Itt T.K a) := by
  intro i R' h H l r
  have q : SqT T.K H a vs := SqT.of (r.fz _ _ (l.F _ _ e))
  refine ⟨fun z => ?_, fun d z => ?_⟩
  · simp only [Src.at, Option.some.injEq] at z
    refine ⟨vs, q, ?_⟩
    rw [← dv.length]
    exact List.getElem?_eq_none_iff.mp z
  · simp only [Src.at, Option.some.injEq] at z
    obtain ⟨v, e1, e2⟩ := dv.get z
    refine ⟨⟨vs, v, q, e1⟩, fun x H' ⟨y, w⟩ => ?_⟩
    subst y
    have w := w vs q
    rw [e1] at w
    cases w
    exact ⟨R', Rle.refl R', r, e2.monoF l⟩
theorem srcJ_rng {T : Tb} {R : Rl} (lo : Int) (n : Nat) : SrcJ T R (.rng lo n) (Itr lo n) := by
  intro i R' h H l r
  refine ⟨fun z => ?_, fun d z => ?_⟩
  · simp only [Src.at, Option.some.injEq] at z
    show n ≤ i
    split at z
    · cases z
    · omega
  · simp only [Src.at, Option.some.injEq] at z
    split at z
    · rename_i hi
      cases z
      refine ⟨hi, fun x H' ⟨y, w⟩ => ?_⟩
      subst y w
      exact ⟨R', Rle.refl R', r, int_dv _⟩
    · cases z
/-- a list as a source -/
theorem srcL_of {T : Tb} {R : Rl} {h : Hh} {H : Hp} (r : RelH T R h H) {d : D} {v : V} {s : Src} (e : srcOf h false d = some s) (dv : DV T R d v) : ∃ a, v = .ref a ∧ (∃ xs, SqL T.K H a xs) ∧ SrcL T R s a := by
  have fz : ∀ {xs : List D} {vs : List V} {a : Addr}, (∀ (R' : Rl) (h : Hh) (H : Hp), RleF R R' → RelH T R' h H → SqL T.K H a vs) → DVs T R xs vs → SrcL T R (.fz xs) a := by
    intro xs vs a hs dv i R' h H o l r e
    simp only [Src.at, Option.some.injEq] at e
    refine ⟨vs, hs R' h H l r, fun z => ?_, fun d z => ?_⟩
    · subst z
      rw [← dv.length]
      exact List.getElem?_eq_none_iff.mp e
    · subst z
      obtain ⟨w, e1, e2⟩ := dv.get e
      exact ⟨w, e1, e2.monoF l⟩
  cases d with
  | lst xs =>
    simp only [srcOf, Option.some.injEq] at e
    subst e
    simp only [DV] at dv
    obtain ⟨a, vs, e1, e2, e3⟩ := dv
    exact ⟨a, e1, ⟨vs, SqL.of (r.fz _ _ e2)⟩, fz (fun R' h H l r => SqL.of (r.fz _ _ (l.F _ _ e2))) e3⟩
  | ro xs =>
    simp only [srcOf, Option.some.injEq] at e
    subst e
    simp only [DV] at dv
    obtain ⟨a, vs, e1, e2, e3⟩ := dv
    exact ⟨a, e1, ⟨vs, SqL.mn e2 r.fz⟩, fz (fun R' h H l r => SqL.mn e2 fun a o q => r.fz _ _ (l.F _ _ q)) e3⟩
  | cel c =>
    simp only [DV] at dv
    obtain ⟨a, e1, e2⟩ := dv
    simp only [srcOf] at e
    split at e
    · rename_i xs hc
      cases e
      obtain ⟨_, _, vs, z1, z2⟩ := r.live c _ a hc e2
      refine ⟨a, e1, ⟨vs, SqL.of z1⟩, fun i R' h' H' o l r' e => ?_⟩
      simp only [Src.at] at e
      split at e
      · rename_i ys hy
        obtain ⟨_, _, ws, w1, w2⟩ := r'.live c _ a hy (l.rho _ _ e2)
        simp only [Option.some.injEq] at e
        refine ⟨ws, SqL.of w1, fun z => ?_, fun d z => ?_⟩
        · subst z
          rw [← w2.length]
          exact List.getElem?_eq_none_iff.mp e
        · subst z
          exact w2.get e
      · cases e
    · cases e
  | tup xs => simp [srcOf] at e
  | _ => simp [srcOf] at e
/-! ### the readings -/
def LI (T : Tb) (W : WX) (m : List D → Hh → Res Src) : TI := fun σ H Q => ∃ R e h, RelH T R h H ∧ DVE T R e σ ∧ PostG (SrcJ T) T W R σ (m e h) Q
def LB (T : Tb) (W : WX) (m : List D → Hh → Res Bool) : TT := fun σ H Q => ∃ R e h, RelH T R h H ∧ DVE T R e σ ∧ PostG (fun _ b c => b = c) T W R σ (m e h) Q
/-- behind a target's store: the places but own are as they were -/
def PostT (T : Tb) (W : WX) (own : List Nat) (R : Rl) (σ : L2.St) (r : Res (List D)) (Q : L2.St → Hp → Prop) : Prop := match r with
  | .ok e h => ∀ R' σ' H, Rle R R' → RelH T R' h H → DVE T R' e σ' → (∀ j, j ∉ own → σ'[j]? = σ[j]?) → σ'.length = σ.length → Q σ' H
  | _ => False
def allIx : List Nat := []
def LG (T : Tb) (W : WX) (own : List Nat) (m : D → List D → Hh → Res (List D)) : TG := fun v σ H Q => ∃ R e h d, RelH T R h H ∧ DVE T R e σ ∧ DV T R d v ∧ PostT T W own R σ (m d e h) Q
def PostS (T : Tb) (W : WX) (R : Rl) (r : SRes) (D : Ends) : Prop := match r with
  | .ok .nx e h => ∀ R' σ H, Rle R R' → RelH T R' h H → DVE T R' e σ → D.nx σ H
  | .ok .brk e h => ∀ R' σ H, Rle R R' → RelH T R' h H → DVE T R' e σ → D.bk σ H
  | .ok .cnt e h => ∀ R' σ H, Rle R R' → RelH T R' h H → DVE T R' e σ → D.ct σ H
  | .ok (.ret d) e h => ∀ R' v H, Rle R R' → RelH T R' h H → DV T R' d v → D.rt v H
  | .exc c p e h => ∀ R' cls dx σ H, Rle R R' → RelH T R' h H → ExcR T R' c p cls dx → DVE T R' e σ → W cls dx σ H
  | .stk => False
def LS (T : Tb) (W : WX) (m : List D → Hh → SRes) : TS := fun D σ H => ∃ R e h, RelH T R h H ∧ DVE T R e σ ∧ PostS T W R (m e h) D
theorem PostS.mono {T : Tb} {W : WX} {R R' : Rl} {r : SRes} {D : Ends} (l : Rle R R') (p : PostS T W R r D) : PostS T W R' r D := by
  cases r with
  | ok f e h =>
    cases f with
    | nx => exact fun R2 v H l2 => p R2 v H (l.trans l2)
    | brk => exact fun R2 v H l2 => p R2 v H (l.trans l2)
    | cnt => exact fun R2 v H l2 => p R2 v H (l.trans l2)
    | ret d => exact fun R2 v H l2 => p R2 v H (l.trans l2)
  | exc c x e h => exact fun R2 v dx σ H l2 => p R2 v dx σ H (l.trans l2)
  | stk => exact p
theorem PostT.mono {T : Tb} {W : WX} {own : List Nat} {R R' : Rl} {σ : L2.St} {r : Res (List D)} {Q : L2.St → Hp → Prop} (l : Rle R R') (p : PostT T W own R σ r Q) : PostT T W own R' σ r Q := by
  cases r with
  | ok e h => exact fun R2 v H l2 => p R2 v H (l.trans l2)
  | exc c x h => exact p
  | stk => exact p
theorem PostT.bind {T : Tb} {W : WX} {own : List Nat} {R : Rl} {σ : L2.St} {r : Res D} {f : D → Hh → Res (List D)} {Q : L2.St → Hp → Prop} {Q1 : VK} (p : PostT T W own R σ (r.bind f) Q)
    (k : ∀ R1 a v h1 H1, Rle R R1 → RelH T R1 h1 H1 → DV T R1 a v → PostT T W own R1 σ (f a h1) Q → Q1 v H1) : Post T W R σ r Q1 := by
  cases r with
  | ok d h => exact fun R1 v H l rl dv => k R1 d v h H l rl dv (p.mono l)
  | exc c x h => exact absurd p id
  | stk => exact absurd p id
theorem wipe_get : ∀ (vs : List Nat) (σ : L2.St) (j : Nat), j ∉ vs → (wipe σ vs)[j]? = σ[j]?
  | [], _, _, _ => rfl
  | v :: vs, σ, j, h => by
    simp only [List.mem_cons, not_or] at h
    unfold wipe
    rw [List.getElem?_set_ne (Ne.symm h.1)]
    exact wipe_get vs σ j h.2
theorem wipe_in : ∀ (vs : List Nat) (σ : L2.St) (j : Nat), j ∈ vs → j < σ.length → (wipe σ vs)[j]? = some none
  | [], _, _, h, _ => by simp at h
  | v :: vs, σ, j, h, hl => by
    unfold wipe
    by_cases e : v = j
    · subst e
      rw [List.getElem?_set_self (by rw [wipe_length]; exact hl)]
    · rw [List.getElem?_set_ne e]
      exact wipe_in vs σ j (by simpa [Ne.symm e] using h) hl
theorem wipe_eq {vs : List Nat} {a b : L2.St} (h : ∀ j, j ∉ vs → a[j]? = b[j]?) (hl : a.length = b.length) : wipe a vs = wipe b vs := by
  apply List.ext_getElem?
  intro j
  by_cases hj : j ∈ vs
  · by_cases hlt : j < a.length
    · rw [wipe_in vs a j hj hlt, wipe_in vs b j hj (by omega)]
    · rw [List.getElem?_eq_none (by rw [wipe_length]; omega), List.getElem?_eq_none (by rw [wipe_length]; omega)]
  · rw [wipe_get vs a j hj, wipe_get vs b j hj, h j hj]
theorem wipe_wipe (σ : L2.St) (vs : List Nat) : wipe (wipe σ vs) vs = wipe σ vs := wipe_eq (fun j h => wipe_get vs σ j h) (wipe_length σ vs)
end Mn
namespace Mn
open PySem L2 PyProof.Rows
theorem PI.orr {X : Cx} {tg e : PySem.Expr} {t t' : TI} (h : PI X tg e t) (h' : PI X tg e t') : PI X tg e (fun σ H R => t σ H R ∨ t' σ H R) := ⟨fun pins s σ H R I hq => hq.elim (h.run pins s σ H R I) (h'.run pins s σ H R I)⟩
section
variable {T : Tb} {G : Glb} {k : Nat} {c : Ck} {X : Cx} {W : WX} {a b d : PySem.Expr} {ma mb md : List D → Hh → Res D} {pos : Pos}
theorem s_const {v : V} {dd : D} {e : PySem.Expr} (h : PE X e (tC v)) (q : ∀ R, DV T R dd v) : PE X e (LE T W fun _ h => .ok dd h) := by
  refine PE.weak h fun σ H Q ⟨R, e, h, r, env, p⟩ => ?_
  exact p.val r (q R)
theorem s_var {i : Nat} {x : Str} (h : PE X (.Name x pos) (tVar i)) : PE X (.Name x pos) (LE T W (ev G (.var i))) := by
  refine PE.weak h fun σ H Q ⟨R, e, h, r, env, p⟩ => ?_
  simp only [ev] at p
  split at p
  · exact absurd p id
  · rename_i dd n e1
    obtain ⟨v, e2, e3⟩ := env.get e1 (fun z => n z)
    exact ⟨v, e2, p.val r e3⟩
  · exact absurd p id
theorem s_neg (ha : PE X a (LE T W ma)) : PE X (.UnaryOp .USub a pos) (LE T W fun e h => (ma e h).bind fun x h => match x with | .int i => .ok (.int (-i)) h | _ => .stk) := by
  refine PE.weak (pe_un un_neg ha) fun σ H Q ⟨R, e, h, r, env, p⟩ => ?_
  refine ⟨R, e, h, r, env, p.bind fun R1 x v h1 H1 l1 r1 d1 p1 => ?_⟩
  cases x with
  | int i => exact ⟨i, int_rd d1, p1.val r1 (int_dv _)⟩
  | _ => exact absurd p1 id
theorem s_not (ha : PE X a (LE T W ma)) : PE X (.UnaryOp .Not a pos) (LE T W fun e h => (ma e h).bind fun x h => match x with | .bl b => .ok (.bl (!b)) h | _ => .stk) := by
  refine PE.weak (pe_not ha) fun σ H Q ⟨R, e, h, r, env, p⟩ => ?_
  refine ⟨R, e, h, r, env, p.bind fun R1 x v h1 H1 l1 r1 d1 p1 => ?_⟩
  cases x with
  | bl i => exact ⟨i, bl_rd d1, p1.val r1 (bl_dv _)⟩
  | _ => exact absurd p1 id
theorem s_bin (hK : X.K = T.K) {o : BOp} {lv : Bool} (ha : PE X a (LE T W ma)) (hb : PE X b (LE T W mb)) : PE X (.BinOp a (bop o) b pos) (LE T W fun e h => (ma e h).bind fun x h => (mb e h).bind fun y h => binop lv o x y h) := by
  refine PE.weak (pe_op (op_bin o) ha hb) fun σ H Q ⟨R, e, h, r, env, p⟩ => ?_
  refine ⟨R, e, h, r, env, p.bind fun R1 x v h1 H1 l1 r1 d1 p1 => ?_⟩
  refine ⟨R1, e, h1, r1, env.mono l1, p1.bind fun R2 y w h2 H2 l2 r2 d2 p2 => ?_⟩
  rw [hK]
  exact bin_snd o r2 (d1.mono l2) d2 p2
theorem cmp_end {o : COp} {x y : D} {v w : V} {R : Rl} {h : Hh} {H : Hp} {σ : L2.St} {Q : VK} (r : RelH T R h H) (d1 : DV T R x v) (d2 : DV T R y w)
    (p : Post T W R σ (match cmpop o x y h with | some c => .ok (.bl c) h | none => .stk) Q) : rCmp T.K o v w H Q := by
  split at p
  · rename_i c e
    exact cmp_snd o r d1 d2 e (p.val r (bl_dv _))
  · exact absurd p id
theorem s_cmp (g : Good T G k c X) {o : COp} (ha : PE X a (LE T W ma)) (hb : PE X b (LE T W mb)) (hm : behindInMarks (cop o) b = false) : PE X (.Compare a [cop o] [b] pos) (LE T W fun e h => (ma e h).bind fun x h => (mb e h).bind fun y h => match cmpop o x y h with | some c => .ok (.bl c) h | none => .stk) := by
  refine PE.weak (pe_cmpR (op_cmp g.hu o) ha hb hm) fun σ H Q ⟨R, e, h, r, env, p⟩ => ?_
  refine ⟨R, e, h, r, env, p.bind fun R1 x v h1 H1 l1 r1 d1 p1 => ?_⟩
  refine ⟨R1, e, h1, r1, env.mono l1, p1.bind fun R2 y w h2 H2 l2 r2 d2 p2 => ?_⟩
  rw [g.K]
  exact cmp_end r2 (d1.mono l2) d2 p2
theorem t_cmp (g : Good T G k c X) {o : COp} (ha : PE X a (LE T W ma)) (hb : PE X b (LE T W mb)) (hm : behindInMarks (cop o) b = false) : PT X (.Compare a [cop o] [b] pos) (tTest (LE T W fun e h => (ma e h).bind fun x h => (mb e h).bind fun y h => match cmpop o x y h with | some c => .ok (.bl c) h | none => .stk)) := by
  refine PT.weak (pt_cmpR (op_cmp g.hu o) ha hb hm) fun σ H Q ⟨R, e, h, r, env, p⟩ => ?_
  refine ⟨R, e, h, r, env, p.bind fun R1 x v h1 H1 l1 r1 d1 p1 => ?_⟩
  refine ⟨R1, e, h1, r1, env.mono l1, p1.bind fun R2 y w h2 H2 l2 r2 d2 p2 => ?_⟩
  rw [g.K]
  exact cmp_end r2 (d1.mono l2) d2 p2
def chnM (o o' : COp) (ma mb md : List D → Hh → Res D) : List D → Hh → Res D := fun e h => (ma e h).bind fun x h => (mb e h).bind fun y h => match cmpop o x y h with
    | some true => (md e h).bind fun z h => match cmpop o' y z h with | some c => .ok (.bl c) h | none => .stk
    | some false => .ok (.bl false) h
    | none => .stk
theorem chn_w (hK : X.K = T.K) {o o' : COp} {σ : L2.St} {H : Hp} {Q : VK} (q : LE T W (chnM o o' ma mb md) σ H Q) : tChain (rCmp X.K o) (rCmp X.K o') (LE T W ma) (LE T W mb) (LE T W md) σ H Q := by
  obtain ⟨R, e, h, r, env, p⟩ := q
  refine ⟨R, e, h, r, env, PostG.bind p fun R1 x v h1 H1 l1 r1 d1 p1 => ?_⟩
  refine ⟨R1, e, h1, r1, env.mono l1, p1.bind fun R2 y w h2 H2 l2 r2 d2 p2 => ?_⟩
  rw [hK]
  split at p2
  · rename_i e1
    refine cmp_snd o r2 (d1.mono l2) d2 e1 ⟨true, rfl, ?_⟩
    rw [if_pos rfl]
    refine ⟨R2, e, h2, r2, env.mono (l1.trans l2), p2.bind fun R3 z u h3 H3 l3 r3 d3 p3 => ?_⟩
    exact cmp_end r3 (d2.mono l3) d3 p3
  · rename_i e1
    refine cmp_snd o r2 (d1.mono l2) d2 e1 ⟨false, rfl, ?_⟩
    rw [if_neg (by decide)]
    exact p2.val r2 (bl_dv _)
  · exact absurd p2 id
theorem s_chn (g : Good T G k c X) {o o' : COp} (ha : PE X a (LE T W ma)) (hb : PE X b (LE T W mb)) (hd : PE X d (LE T W md)) (hm : lastMarks [cop o, cop o'] [b, d] = false) : PE X (.Compare a [cop o, cop o'] [b, d] pos) (LE T W (chnM o o' ma mb md)) :=
  PE.weak (pe_chain (op_cmp g.hu o) (op_cmp g.hu o') ha hb hd hm) fun σ H Q q => chn_w g.K q
theorem t_chn (g : Good T G k c X) {o o' : COp} (ha : PE X a (LE T W ma)) (hb : PE X b (LE T W mb)) (hd : PE X d (LE T W md)) (hm : lastMarks [cop o, cop o'] [b, d] = false) : PT X (.Compare a [cop o, cop o'] [b, d] pos) (tTest (LE T W (chnM o o' ma mb md))) :=
  PT.weak (pt_chain (op_cmp g.hu o) (op_cmp g.hu o') ha hb hd hm) fun σ H Q q => chn_w g.K q
def andM (ma mb : List D → Hh → Res D) : List D → Hh → Res D := fun e h => (ma e h).bind fun x h => match x with | .bl true => mb e h | .bl false => .ok (.bl false) h | _ => .stk
def orM (ma mb : List D → Hh → Res D) : List D → Hh → Res D := fun e h => (ma e h).bind fun x h => match x with | .bl false => mb e h | .bl true => .ok (.bl true) h | _ => .stk
def ifM (mt ma mb : List D → Hh → Res D) : List D → Hh → Res D := fun e h => (mt e h).bind fun x h => match x with | .bl true => ma e h | .bl false => mb e h | _ => .stk
variable {rest : List PySem.Expr}
theorem s_and (ha : PE X a (LE T W ma)) (hb : PE X (.BoolOp .And (b :: rest) pos) (LE T W mb)) : PE X (.BoolOp .And (a :: b :: rest) pos) (LE T W (andM ma mb)) := by
  refine PE.weak (pe_and ha hb) fun σ H Q ⟨R, e, h, r, env, p⟩ => ?_
  refine ⟨R, e, h, r, env, PostG.bind p fun R1 x v h1 H1 l1 r1 d1 p1 => ?_⟩
  cases x with
  | bl t =>
    refine ⟨t, bl_rd d1, ?_⟩
    cases t with
    | true => rw [if_pos rfl]; exact ⟨R1, e, h1, r1, env.mono l1, p1⟩
    | false => rw [if_neg (by decide)]; exact p1.val r1 (bl_dv _)
  | _ => exact absurd p1 id
theorem s_or (ha : PE X a (LE T W ma)) (hb : PE X (.BoolOp .Or (b :: rest) pos) (LE T W mb)) : PE X (.BoolOp .Or (a :: b :: rest) pos) (LE T W (orM ma mb)) := by
  refine PE.weak (pe_or ha hb) fun σ H Q ⟨R, e, h, r, env, p⟩ => ?_
  refine ⟨R, e, h, r, env, PostG.bind p fun R1 x v h1 H1 l1 r1 d1 p1 => ?_⟩
  cases x with
  | bl t =>
    refine ⟨t, bl_rd d1, ?_⟩
    cases t with
    | true => rw [if_pos rfl]; exact p1.val r1 (bl_dv _)
    | false => rw [if_neg (by decide)]; exact ⟨R1, e, h1, r1, env.mono l1, p1⟩
  | _ => exact absurd p1 id
theorem w_and (ha : PT X a (tTest (LE T W ma))) (hb : PW X (.BoolOp .And (b :: rest) pos) (tTest (LE T W mb))) : PW X (.BoolOp .And (a :: b :: rest) pos) (tTest (LE T W (andM ma mb))) := by
  refine PW.weak (pw_and ha hb) fun σ H Q ⟨R, e, h, r, env, p⟩ => ?_
  refine ⟨R, e, h, r, env, PostG.bind p fun R1 x v h1 H1 l1 r1 d1 p1 => ?_⟩
  cases x with
  | bl t =>
    refine ⟨t, bl_rd d1, ?_⟩
    cases t with
    | true => rw [if_pos rfl]; exact ⟨R1, e, h1, r1, env.mono l1, p1⟩
    | false =>
      rw [if_neg (by decide)]
      obtain ⟨k, e1, q⟩ := p1.val r1 (bl_dv false)
      cases e1
      exact q
  | _ => exact absurd p1 id
theorem w_or (ha : PT X a (tTest (LE T W ma))) (hb : PW X (.BoolOp .Or (b :: rest) pos) (tTest (LE T W mb))) : PW X (.BoolOp .Or (a :: b :: rest) pos) (tTest (LE T W (orM ma mb))) := by
  refine PW.weak (pw_or ha hb) fun σ H Q ⟨R, e, h, r, env, p⟩ => ?_
  refine ⟨R, e, h, r, env, PostG.bind p fun R1 x v h1 H1 l1 r1 d1 p1 => ?_⟩
  cases x with
  | bl t =>
    refine ⟨t, bl_rd d1, ?_⟩
    cases t with
    | true =>
      rw [if_pos rfl]
      obtain ⟨k, e1, q⟩ := p1.val r1 (bl_dv true)
      cases e1
      exact q
    | false => rw [if_neg (by decide)]; exact ⟨R1, e, h1, r1, env.mono l1, p1⟩
  | _ => exact absurd p1 id
theorem t_not (ha : PT X a (tTest (LE T W ma))) : PT X (.UnaryOp .Not a pos) (tTest (LE T W fun e h => (ma e h).bind fun x h => match x with | .bl b => .ok (.bl (!b)) h | _ => .stk)) := by
  refine PT.weak (pt_not ha) fun σ H Q ⟨R, e, h, r, env, p⟩ => ?_
  refine ⟨R, e, h, r, env, PostG.bind p fun R1 x v h1 H1 l1 r1 d1 p1 => ?_⟩
  cases x with
  | bl t =>
    refine ⟨t, bl_rd d1, ?_⟩
    obtain ⟨k, e1, q⟩ := p1.val r1 (bl_dv (!t))
    cases e1
    exact q
  | _ => exact absurd p1 id
theorem s_if {t : PySem.Expr} {mt : List D → Hh → Res D} (ht : PT X t (tTest (LE T W mt))) (ha : PE X a (LE T W ma)) (hb : PE X b (LE T W mb)) : PE X (.IfExp t a b pos) (LE T W (ifM mt ma mb)) := by
  refine PE.weak (pe_ifExp ht ha hb) fun σ H Q ⟨R, e, h, r, env, p⟩ => ?_
  refine ⟨R, e, h, r, env, PostG.bind p fun R1 x v h1 H1 l1 r1 d1 p1 => ?_⟩
  cases x with
  | bl t =>
    refine ⟨t, bl_rd d1, ?_⟩
    cases t with
    | true => rw [if_pos rfl]; exact ⟨R1, e, h1, r1, env.mono l1, p1⟩
    | false => rw [if_neg (by decide)]; exact ⟨R1, e, h1, r1, env.mono l1, p1⟩
  | _ => exact absurd p1 id
theorem ix_dict (hu : X.A.units + 1 < cLine) : IxR X rDg := by
  intro value slice pins s σ H x y v u Q I rx ry h hs
  obtain ⟨p, z, rfl, g, q⟩ := h
  cases rx
  have hT : s.TypeIs (.ref p) "dict" := dict_typeIs I g
  unfold subscriptTail
  refine wpAny_bind ?_
  rw [getitemInPython_of_ne hT.not_modules]
  refine wpAny_bind (wpAny_specialOf hT PySem.F.slot_dict_getitem.lookup ?_)
  have fin : wpAny (model X.prog X.w) X.A (subscripted slice false (.ref p) u) (fun r s₃ => wpAny (model X.prog X.w) X.A (letTemporaryGo value (.ref p) r >>= fun _ => pure r) (EP X pins σ Q) X.xe s₃) X.xe s := by
    rw [hs]
    refine wpAny_operating (d_getItem hu I g ry fun w' s3 I3 rw' => ?_)
    exact wpAny_bind (wpAny_letTemporaryGo (wpAny_pure ⟨z, H, I3, rw', q⟩))
  first
    | exact wpAny_pure (wpAny_bind fin)
    | exact wpAny_bind (wpAny_pure (wpAny_bind fin))
    | exact wpAny_bind fin
theorem s_idx (g : Good T G k c X) (ha : PE X a (LE T W ma)) (hb : PE X b (LE T W mb)) (hs : PlainIx b) : PE X (.Subscript a b pos) (LE T W fun e h => (ma e h).bind fun x h => (mb e h).bind fun y h => match idxop x y h with | some v => .ok v h | none => .stk) := by
  have hu := g.hu
  refine PE.weak (pe_ix (IxR.or (IxR.or ix_list ix_tup) (ix_dict (by omega))) ha hb hs) fun σ H Q ⟨R, e, h, r, env, p⟩ => ?_
  refine ⟨R, e, h, r, env, p.bind fun R1 x v h1 H1 l1 r1 d1 p1 => ?_⟩
  refine ⟨R1, e, h1, r1, env.mono l1, p1.bind fun R2 y w h2 H2 l2 r2 d2 p2 => ?_⟩
  split at p2
  · rename_i z ez
    rw [g.K]
    exact idx_snd r2 (d1.mono l2) d2 ez fun v dv => p2.val r2 dv
  · exact absurd p2 id
/-! ### slices -/
def slcM (ma ml mh : List D → Hh → Res D) : List D → Hh → Res D := fun e h => (ma e h).bind fun x h => (ml e h).bind fun l h => match endOf l with
    | some l => (mh e h).bind fun u h => match endOf u with
      | some u => slcop x l u h
      | none => .stk
    | none => .stk
def PartS (T : Tb) (W : WX) (tl : TO) (ml : List D → Hh → Res D) : Prop := ∀ (σ : L2.St) (H : Hp) (Q : Option Int → Hp → Prop) (R : Rl) (e : List D) (h : Hh), RelH T R h H → DVE T R e σ →
  (match ml e h with
    | .ok l h1 => ∀ R1 H1, Rle R R1 → RelH T R1 h1 H1 → ∃ o, endOf l = some o ∧ Q o H1
    | .exc c p h1 => ∀ R1 cls dx H, Rle R R1 → RelH T R1 h1 H → ExcR T R1 c p cls dx → W cls dx σ H
    | .stk => False) → tl σ H Q
theorem part_none : PartS T W tNoPart (ev G .nil) := by
  intro σ H Q R e h r env p
  have p : ∀ R1 H1, Rle R R1 → RelH T R1 h H1 → ∃ o, endOf .und = some o ∧ Q o H1 := p
  obtain ⟨o, e1, q⟩ := p R H (Rle.refl R) r
  cases e1
  exact q
theorem part_some : PartS T W (tPart (LE T W ma)) ma := by
  intro σ H Q R e h r env p
  refine ⟨R, e, h, r, env, ?_⟩
  cases q : ma e h with
  | ok x h1 =>
    rw [q] at p
    intro R1 v H1 l1 r1 d1
    obtain ⟨o, eo, z⟩ := p R1 H1 l1 r1
    cases x with
    | und => simp only [DV] at d1
    | int i => cases eo; exact ⟨i, int_rd d1, z⟩
    | _ => cases eo
  | exc c x h1 => rw [q] at p; exact p
  | stk => rw [q] at p; exact p
theorem s_slc (hK : X.K = T.K) {lo hi : Option PySem.Expr} {tl th : TO} {ml mh : List D → Hh → Res D} {p2 : Pos} (ha : PE X a (LE T W ma)) (hl : PO X lo tl) (hh : PO X hi th) (sl : PartS T W tl ml) (sh : PartS T W th mh) :
    PE X (.Subscript a (.Slice lo hi none p2) pos) (LE T W (slcM ma ml mh)) := by
  refine PE.weak (pe_slice sl_all ha hl hh) fun σ H Q ⟨R, e, h, r, env, p⟩ => ?_
  refine ⟨R, e, h, r, env, PostG.bind p fun R1 x v h1 H1 l1 r1 d1 p1 => ?_⟩
  refine sl σ H1 _ R1 e h1 r1 (env.mono l1) ?_
  cases q : ml e h1 with
  | ok l h2 =>
    rw [q] at p1
    intro R2 H2 l2 r2
    have p1 : Post T W R1 σ (match endOf l with
      | some l => (mh e h2).bind fun u h => match endOf u with
        | some u => slcop x l u h
        | none => .stk
      | none => .stk) Q := p1
    cases el : endOf l with
    | none =>
      rw [el] at p1
      exact absurd p1 id
    | some o =>
      refine ⟨o, rfl, ?_⟩
      refine sh σ H2 _ R2 e h2 r2 (env.mono (l1.trans l2)) ?_
      rw [el] at p1
      cases q2 : mh e h2 with
      | ok u h3 =>
        intro R3 H3 l3 r3
        have p2 : Post T W R1 σ (match endOf u with
          | some u => slcop x o u h3
          | none => .stk) Q := by
          simp only [q2, bind_ok] at p1
          exact p1
        cases eu : endOf u with
        | none =>
          rw [eu] at p2
          exact absurd p2 id
        | some o2 =>
          refine ⟨o2, rfl, ?_⟩
          rw [eu] at p2
          rw [hK]
          exact slc_snd r3 (d1.mono (l2.trans l3)) (PostG.mono (l2.trans l3) p2)
      | exc c z h3 =>
        simp only [q2, bind_exc] at p1
        exact fun R3 cls dx H l3 => p1 R3 cls dx H (l2.trans l3)
      | stk =>
        simp only [q2, bind_stk] at p1
        exact absurd p1 id
  | exc c z h2 => rw [q] at p1; exact p1
  | stk => rw [q] at p1; exact p1
end
end Mn
namespace Mn
open PySem L2 PyProof.Rows
section
variable {T : Tb} {G : Glb} {k : Nat} {c : Ck} {X : Cx} {W : WX} {a b d : PySem.Expr} {ma mb md : List D → Hh → Res D} {pos : Pos} {es : List PySem.Expr} {ms : List D → Hh → Res (List D)}
theorem sa_nil : PA X [] (LA T W fun _ h => .ok [] h) := by
  refine PA.weak pa_nil fun σ H Q ⟨R, e, h, r, env, p⟩ => ?_
  exact PostG.val p r (by simp only [DVs])
theorem sa_cons (hs : tame a = true) (ha : PE X a (LE T W ma)) (hr : PA X es (LA T W ms)) : PA X (a :: es) (LA T W fun e h => (ma e h).bind fun d h => (ms e h).bind fun ds h => .ok (d :: ds) h) := by
  refine PA.weak (pa_cons ha hr (star_of hs _ _)) fun σ H Q ⟨R, e, h, r, env, p⟩ => ?_
  refine ⟨R, e, h, r, env, PostG.bind p fun R1 x v h1 H1 l1 r1 d1 p1 => ?_⟩
  refine ⟨R1, e, h1, r1, env.mono l1, PostG.bind p1 fun R2 y w h2 H2 l2 r2 d2 p2 => ?_⟩
  exact PostG.val p2 r2 (by simp only [DVs]; exact ⟨d1.mono l2, d2⟩)
theorem s_tup {kk : Nat} (h : PA X es (LA T W ms)) : PE X (.Tuple es kk pos) (LE T W fun e h => (ms e h).bind fun ds h => if ds.length ≤ sizeL then .ok (.tup ds) h else .stk) := by
  refine PE.weak (pe_tup h) fun σ H Q ⟨R, e, h, r, env, p⟩ => ?_
  refine ⟨R, e, h, r, env, PostG.bind p fun R1 x v h1 H1 l1 r1 d1 p1 => ?_⟩
  split at p1
  · rename_i hz
    exact ⟨by rw [← sizeL_eq, ← d1.length]; exact hz, fun q hq => Post.newT p1 r1 d1 hq⟩
  · exact absurd p1 id
theorem s_lst {lv : Bool} (h : PA X es (LA T W ms)) : PE X (.List es pos) (LE T W fun e h => (ms e h).bind fun ds h => newL lv ds h) := by
  refine PE.weak (pe_lst h) fun σ H Q ⟨R, e, h, r, env, p⟩ => ?_
  refine ⟨R, e, h, r, env, PostG.bind p fun R1 x v h1 H1 l1 r1 d1 p1 => ?_⟩
  have hz := Post.newLen p1
  exact ⟨by rw [← sizeL_eq, ← d1.length]; exact hz, fun q hq => Post.newL p1 r1 d1 hq⟩
theorem s_dK {lv : Bool} : PE X (.Dict [] [] pos) (LE T W (ev G (.dK lv))) := by
  refine PE.weak pe_dnewK fun σ H Q ⟨R, e, h, r, env, p⟩ => ?_
  intro q hq
  cases lv with
  | true => exact Post.newLv (ob := .dK []) p r hq fun R' l => ⟨[], rfl, by simp only [DVk]⟩
  | false =>
    have p : Post T W R σ (.ok (.dK []) h) Q := p
    obtain ⟨r1, l⟩ := r.laid (o := .dK []) hq
    refine p _ _ _ l r1 ?_
    simp only [DV]
    exact ⟨q, [], rfl, upd_same, by simp only [DVk]⟩
theorem s_dT {lv : Bool} : PE X (.Dict [] [] pos) (LE T W (ev G (.dT lv))) := by
  refine PE.weak pe_dnewT fun σ H Q ⟨R, e, h, r, env, p⟩ => ?_
  intro q hq
  cases lv with
  | true => exact Post.newLv (ob := .dT []) p r hq fun R' l => ⟨[], rfl, by simp only [DVt]⟩
  | false =>
    have p : Post T W R σ (.ok (.dT []) h) Q := p
    obtain ⟨r1, l⟩ := r.laid (o := .dT []) hq
    refine p _ _ _ l r1 ?_
    simp only [DV]
    exact ⟨q, [], rfl, upd_same, by simp only [DVt]⟩
/-- a call of a def -/
theorem pe_callG {CX : CXT} {j : Nat} {f : Addr} {fd : FuncData} {ps : List Str} {sp : Sp} {E : L2.St → XK} {x : Str} {p pos : Pos} {e : PySem.Expr} {es : List PySem.Expr} {t : TA} (F : FnG X.prog X.w X.K X.mg X.base CX j f fd ps sp) (gd : X.A.guards = some []) (hr : Room j X.A) (hg : Gl X x) (hm : X.mg x = some (.ref f)) (hk : PySem.W.keepIn X.K (.ref f) = true)
    (hb : Binds X.K fd ps []) (hx : ∀ σ, PassesAt CX X σ (E σ)) (ha : PA X (e :: es) t) (hdb : (x == ("__debug__" : Str)) = false) (he : starEach (e :: es) X.env = (false, eval e X.env) :: starEach es X.env) (hpl : (backTo pos (starEach es X.env)).any (·.1) = false) :
    PE X (.Call (.Name x p) (e :: es) [] pos) (tCallS sp E t) := by
  refine ⟨fun pins s σ H Q I h => wpAny_Call_Name_kw (ld_glob I hg hm ?_ hdb)⟩
  refine PySem.W.callWith_K (h₀ := X.base) I.ok.mod.kin hk (thn (ha.run pos pins s σ H _ I h) fun us s1 ⟨vs, H1, I1, r, q⟩ => ⟨I1.kIn, ?_⟩) he hpl
  have hl : us.length = ps.length := by rw [← r.length]; exact F.len _ _ _ _ q
  have b := hb s1 us I1.kIn (by rw [List.append_nil]; exact hl)
  rw [List.append_nil] at b
  refine wpAny_call (codeAny_mono (F.run X.A X.stack s1 H1 ⟨us, []⟩ us vs Q (E σ) gd hr I1.env0 b r q) fun r s' hq => ?_)
  match r, hq with
  | .error e, hq => exact hx σ pins H1 s1 e s' I1 hq
  | .ok (.ret u), hq => exact I1.after hq
  | .ok .next, hq => exact hq.elim
  | .ok .brk, hq => exact hq.elim
  | .ok .cont, hq => exact hq.elim
theorem s_call (g : Good T G k c X) (tk : Takes X W) {f : Nat} {x : Str} {p : Pos} (hf : c.fns[f]? = some x) (hg : Gl X x) (hn : okN x = true) (ht : tame a = true) (hts : es.all tame = true) (h : PA X (a :: es) (LA T W ms)) :
    PE X (.Call (.Name x p) (a :: es) [] pos) (LE T W fun e h => (ms e h).bind fun ds h => G.call f ds h) := by
  obtain ⟨ad, fd, ps, hm, hk, hb, F, ar, _⟩ := g.fns f x hf
  refine PE.weak (pe_callG (E := fun σ cls d H => W cls d σ H) F g.grd g.room hg hm hk hb (fun σ => passAt tk σ) h (okN_of hn).1 (star_of ht _ _) (plain_of hts _ _)) fun σ H Q ⟨R, e, h, r, env, p⟩ => ?_
  refine ⟨R, e, h, r, env, PostG.bind p fun R1 x v h1 H1 l1 r1 d1 p1 => ?_⟩
  refine ⟨?_, R1, x, h1, r1, d1, p1⟩
  rw [← d1.length]
  exact ar x h1 fun z => by rw [z] at p1; exact p1
/-- f() -/
theorem s_call0 (g : Good T G k c X) (tk : Takes X W) {f : Nat} {x : Str} {p : Pos} (hf : c.fns[f]? = some x) (hg : Gl X x) (hn : okN x = true) : PE X (.Call (.Name x p) [] [] pos) (LE T W fun _ h => G.call f [] h) := by
  obtain ⟨ad, fd, ps, hm, hk, hb, F, ar, _⟩ := g.fns f x hf
  refine ⟨fun pins s σ H Q I ⟨R, e, h, r, env, q⟩ => wpAny_Call_Name_kw (ld_glob I hg hm (PySem.W.callWith_K0 I.kIn hk ?_) (okN_of hn).1)⟩
  have hl : ([] : List V).length = ps.length := ar [] h fun z => by
    have q : Post T W R σ (G.call f [] h) Q := q
    rw [z] at q; exact q
  have b := hb s [] I.kIn (by rw [List.append_nil]; exact hl)
  rw [List.append_nil] at b
  refine wpAny_call (codeAny_mono (F.run X.A X.stack s H ⟨[], []⟩ [] [] Q (fun cls d H => W cls d σ H) g.grd g.room I.env0 b .nil ⟨hl, R, [], h, r, by simp only [DVs], q⟩) fun r s' hq => ?_)
  match r, hq with
  | .error e, hq => exact passAt tk σ pins H s e s' I hq
  | .ok (.ret u), hq => exact I.after hq
  | .ok .next, hq => exact hq.elim
  | .ok .brk, hq => exact hq.elim
  | .ok .cont, hq => exact hq.elim
/-- repr(x) -/
def rRepr (K : PySem.W.Frag) : List V → Hp → VK → Prop := fun xs H Q => ∃ v, xs = [v] ∧ ((∃ p : PySem.PyData, Dp K H v p ∧ p.showable = true ∧ p.hasDict = false ∧ p.shown.length ≤ sizeLine ∧ p.depth ≤ 60 ∧ Q (.str p.shown) H) ∨ ∃ a, v = .ref a ∧ H a = some (.dK []) ∧ Q (.str (PySem.PyData.dict []).shown) H)
theorem call_repr (gd : X.A.guards = some []) (hu : X.A.units + 61 < cLine) : CallR X (.builtin "repr") (rRepr X.K) := by
  intro pins s σ H xs us Q I r h
  obtain ⟨v, rfl, h⟩ := h
  obtain ⟨u, rfl, ru⟩ := vals1 r
  rcases h with ⟨p, hd, h1, h2, h3, h4, q⟩ | ⟨a, rfl, ha, q⟩
  · obtain ⟨as, rd⟩ := Dp.reads I p v u hd ru
    have fin : ∀ h' u tk, (∀ b o, s.heap.get? b = some o → h'.get? b = some o) → EP X pins σ Q (.str p.shown u) { s with heap := h', toks := tk } := fun h' u tk k => ⟨.str p.shown, H, I.kept k, ⟨_, rfl⟩, q⟩
    have big : ∀ a, u = .ref a → wpAny (model X.prog X.w) X.A (call (.builtin "repr") [u]) (EP X pins σ Q) X.xe s := fun a e => by
      subst e
      exact repr_of_reads' rd h1 (fun z => by rw [h2] at z; cases z) gd (by omega) (fun _ _ z => z) fin h3
    cases rd with
    | none => exact PySem.P.repr_of_none (fin s.heap s.toks (s.toks + 1) fun _ _ z => z)
    | bool b => exact PySem.P.repr_of_bool (fin s.heap s.toks (s.toks + 1) fun _ _ z => z)
    | int i t => exact PySem.P.repr_of_int (by simpa [PySem.PyData.showable] using h1) (fin s.heap s.toks (s.toks + 1) fun _ _ z => z)
    | str x t => exact PySem.P.repr_of_str (fin s.heap s.toks (s.toks + 1) fun _ _ z => z) h3
    | list _ _ _ _ => exact big _ rfl
    | tuple _ _ _ _ => exact big _ rfl
    | dict _ _ _ _ _ => exact big _ rfl
  · cases ru
    obtain ⟨_, hS, vs, kv, o, es, ep, ho, hx, hdt, hc⟩ : ([] : List (Key × V)).length ≤ sizeLine ∧ (a == sysModules) = false ∧ ∃ vs, KV [] vs ∧ s.heap.DictOf (mixKind X.prog X.w) a vs := I.hok a _ ha
    cases kv
    have fin : ∀ h' u tk, (∀ b o, s.heap.get? b = some o → h'.get? b = some o) → EP X pins σ Q (.str (PySem.PyData.dict []).shown u) { s with heap := h', toks := tk } := fun h' u tk k => ⟨.str _, H, I.kept k, ⟨_, rfl⟩, q⟩
    have he : es.toList = [] := by
      have z := hc.2.1
      revert z
      generalize es.toList = l
      intro z
      cases l with
      | nil => rfl
      | cons _ _ => first | (cases z; done) | exact absurd z id
    have rd : Reads s.heap (.ref a) (.dict []) (a :: [] ++ []) := .dict ho hx.1 hdt (by rw [he]; exact .nil) (by rw [he]; exact .nil)
    exact repr_of_reads' rd rfl (fun _ z => by
      have z : sysModules ∈ [a] := z
      rw [List.mem_singleton] at z
      rw [z] at hS
      simp at hS) gd (by have : (PySem.PyData.dict []).depth ≤ 60 := by decide
                         omega) (fun _ _ z => z) fin (by rw [sizeLine_eq]; decide +kernel)
theorem repr_rd {sub : Nat → Nat → Bool} {lv : Bool} {R : Rl} {h : Hh} {H : Hp} {ds : List D} {vs : List V} {σ : L2.St} {Q : VK} (r : RelH T R h H) (dv : DVs T R ds vs) (p : Post T W R σ (bfn sub lv .repr ds h) Q) : rRepr T.K vs H Q := by
  match ds, dv, p with
  | [], _, p => exact absurd p id
  | _ :: _ :: _, _, p => exact absurd p id
  | [d], dv, p =>
    obtain ⟨v, rfl, d1⟩ := dv.one
    refine ⟨v, rfl, ?_⟩
    simp only [bfn] at p
    split at p
    · rename_i e
      refine .inr ?_
      have fin : ∀ {a : Addr} {ps : List (Key × V)}, v = .ref a → H a = some (.dK ps) → DVk T R [] ps → ∃ a, v = .ref a ∧ H a = some (.dK []) ∧ Q (.str (PySem.PyData.dict []).shown) H := by
        intro a ps e1 e2 e3
        cases ps with
        | nil => exact ⟨a, e1, e2, p.val r (by simp only [DV])⟩
        | cons _ _ => simp only [DVk] at e3
      cases d with
      | dK kvs =>
        simp only [thaw, D.dK.injEq] at e
        subst e
        simp only [DV] at d1
        obtain ⟨a, ps, e1, e2, e3⟩ := d1
        exact fin e1 (r.fz _ _ e2) e3
      | cel c =>
        simp only [DV] at d1
        obtain ⟨a, e1, e2⟩ := d1
        simp only [thaw, Nat.not_lt_zero, if_false] at e
        split at e
        · cases e
        · rename_i kvs hc
          simp only [D.dK.injEq, List.map_eq_nil_iff] at e
          subst e
          obtain ⟨_, _, ps, z1, z2⟩ := r.live c _ a hc e2
          exact fin e1 z1 z2
        · cases e
        · cases e
      | lst xs => simp only [thaw] at e; split at e <;> cases e
      | tup xs => simp only [thaw] at e; split at e <;> cases e
      | _ => simp [thaw] at e
    · split at p
      · rename_i q e
        split at p
        · rename_i hc
          simp only [Bool.and_eq_true, Bool.not_eq_true', decide_eq_true_eq] at hc
          exact .inl ⟨q, thaw_dp r 0 3 d v q e d1, hc.1.1.1, hc.1.1.2, by rw [← sizeL_eq]; exact hc.1.2, hc.2, p.val r (by simp only [DV])⟩
        · exact absurd p id
      · exact absurd p id
/-- a call of a built-in function -/
theorem s_biB (g : Good T G k c X) {lv : Bool} {bb : Bi} {x : Str} {p : Pos} (hx : x = biN bb) (hb : bltB c x = true) (n1 : ∀ ts, bb ≠ .isinst ts) (n2 : ∀ c, bb ≠ .isexc c) (ht : tame a = true) (hts : es.all tame = true) (h : PA X (a :: es) (LA T W ms)) :
    PE X (.Call (.Name x p) (a :: es) [] pos) (LE T W fun e h => (ms e h).bind fun ds h => bfn G.sub lv bb ds h) := by
  unfold bltB at hb
  rw [Bool.and_eq_true] at hb
  have hg := g.gl hb.1
  have hm := g.blt x (List.contains_iff_mem.mp hb.2)
  have fin : bb ≠ .repr → ∀ σ H Q, LE T W (fun e h => (ms e h).bind fun ds h => bfn G.sub lv bb ds h) σ H Q → tCB (rBi X.K bb) (LA T W ms) σ H Q := by
    intro n3 σ H Q ⟨R, e, h, r, env, p⟩
    refine ⟨R, e, h, r, env, PostG.bind p fun R1 x v h1 H1 l1 r1 d1 p1 => ?_⟩
    rw [g.K]
    exact bi_snd bb r1 d1 p1 n1 n2 n3
  subst hx
  have hc := call_bi (X := X) g.calm bb
  have ty : bb ≠ .repr → ∀ {t : String}, biV bb = .type t → bootBuiltins (biN bb) = some (.type t) → biN bb ≠ "__name__" → (biN bb == ("__debug__" : Str)) = false → PE X (.Call (.Name (biN bb) p) (a :: es) [] pos) (LE T W fun e h => (ms e h).bind fun ds h => bfn G.sub lv bb ds h) := by
    intro n3 t e1 e2 e3 e4
    rw [e1] at hc
    exact PE.weak (pe_callTy hc hg hm e2 h e3 e4 (star_of ht _ _) (plain_of hts _ _)) (fin n3)
  have bu : bb ≠ .repr → ∀ {t : String}, biV bb = .builtin t → bootBuiltins (biN bb) = some (.builtin t) → biN bb ≠ "__name__" → (biN bb == ("__debug__" : Str)) = false → PE X (.Call (.Name (biN bb) p) (a :: es) [] pos) (LE T W fun e h => (ms e h).bind fun ds h => bfn G.sub lv bb ds h) := by
    intro n3 t e1 e2 e3 e4
    rw [e1] at hc
    exact PE.weak (pe_callB hc hg hm e2 h e3 e4 (star_of ht _ _) (plain_of hts _ _)) (fin n3)
  cases bb with
  | len => exact bu (by decide) rfl (by decide +kernel) (by decide) (by decide)
  | int => exact ty (by decide) rfl (by decide +kernel) (by decide) (by decide)
  | abs => exact bu (by decide) rfl (by decide +kernel) (by decide) (by decide)
  | min => exact bu (by decide) rfl (by decide +kernel) (by decide) (by decide)
  | max => exact bu (by decide) rfl (by decide +kernel) (by decide) (by decide)
  | sum => exact bu (by decide) rfl (by decide +kernel) (by decide) (by decide)
  | repr =>
    refine PE.weak (pe_callB (call_repr g.grd (by have := g.hu; omega)) hg hm (by decide +kernel) h (by decide) (by decide) (star_of ht _ _) (plain_of hts _ _)) fun σ H Q ⟨R, e, h, r, env, p⟩ => ?_
    refine ⟨R, e, h, r, env, PostG.bind p fun R1 x v h1 H1 l1 r1 d1 p1 => ?_⟩
    rw [g.K]
    exact repr_rd r1 d1 p1
  | list => exact ty (by decide) rfl (by decide +kernel) (by decide) (by decide)
  | tuple => exact ty (by decide) rfl (by decide +kernel) (by decide) (by decide)
  | isinst ts => exact absurd rfl (n1 ts)
  | isexc c => exact absurd rfl (n2 c)
  | str => exact ty (by decide) rfl (by decide +kernel) (by decide) (by decide)
  | sorted => exact bu (by decide) rfl (by decide +kernel) (by decide) (by decide)
  | all => exact bu (by decide) rfl (by decide +kernel) (by decide) (by decide)
/-- the classes' names in a tuple -/
def tTys (ts : List Nat) : TA := fun _ H Q => Q (ts.map fun t => V.ty (tyS t)) H
theorem pe_ty (g : Good T G k c X) {t : Nat} {x : Str} {p : Pos} (hx : x = tyN t) (hb : bltB c x = true) : PE X (.Name x p) (tC (.ty (tyS t))) := by
  unfold bltB at hb
  rw [Bool.and_eq_true] at hb
  subst hx
  exact pe_bltn (g.gl hb.1) (g.blt _ (List.contains_iff_mem.mp hb.2)) (boot_ty t) rfl (tyN_ne t).1 (tyN_ne t).2
theorem pa_tys (g : Good T G k c X) : ∀ (ts : List Nat) (es : List PySem.Expr), es.length = ts.length → ((es.zip ts).all fun p => (match gNm p.1 with
      | some x => decide (x = tyN p.2) && bltB c x
      | none => false)) = true → PA X es (tTys ts)
  | [], [], _, _ => PA.weak pa_nil fun _ _ _ q => q
  | [], _ :: _, e, _ => by simp at e
  | _ :: _, [], e, _ => by simp at e
  | t :: ts, e :: es, el, h => by
    simp only [List.zip_cons_cons, List.all_cons, Bool.and_eq_true] at h
    cases en : gNm e with
    | none => rw [en] at h; simp at h
    | some x =>
      rw [en] at h
      obtain ⟨p, rfl⟩ := gNm_of en
      have h1 := h.1
      rw [Bool.and_eq_true] at h1
      have z := pa_cons (pe_ty g (of_decide_eq_true h1.1) h1.2) (pa_tys g ts es (by simpa using el) h.2) (star_of (e := .Name x p) rfl _ _)
      exact PA.weak z fun _ _ _ q => q
theorem s_isi (g : Good T G k c X) {ts : List Nat} {lv : Bool} {x : Str} {p : Pos} (hx : x = "isinstance") (hb : bltB c x = true) (ht : tame a = true) (htb : tame b = true) (ha : PE X a (LE T W ma)) (ck : chkTy c ts b = true) :
    PE X (.Call (.Name x p) [a, b] [] pos) (LE T W fun e h => (ma e h).bind fun d h => bfn G.sub lv (.isinst ts) [d] h) := by
  have hb' := hb
  unfold bltB at hb
  rw [Bool.and_eq_true] at hb
  have hg := g.gl hb.1
  have hm := g.blt x (List.contains_iff_mem.mp hb.2)
  subst hx
  have st1 := star_of ht [b] X.env
  have st2 := star_of htb [] X.env
  have pl : (backTo pos (starEach [b] X.env)).any (·.1) = false := plain_of (by simp [htb]) _ _
  have many : ∀ (es : List PySem.Expr) (kk : Nat) (q : Pos), gTu b = some es → b = .Tuple es kk q → es.length = ts.length → ts.length ≤ 10 → ((es.zip ts).all fun p => (match gNm p.1 with
      | some x => decide (x = tyN p.2) && bltB c x
      | none => false)) = true → PE X (.Call (.Name "isinstance" p) [a, b] [] pos) (LE T W fun e h => (ma e h).bind fun d h => bfn G.sub lv (.isinst ts) [d] h) := by
    intro es kk q _ e1 el e10 h
    subst e1
    have tb := pe_tup (x1 := kk) (pos := q) (pa_tys g ts es el h)
    refine PE.weak (pe_callB call_isiT hg hm (by decide +kernel) (pa_cons ha (pa_cons tb pa_nil st2) st1) (by decide) (by decide) st1 pl) fun σ H Q ⟨R, e, h, r, env, p⟩ => ?_
    refine ⟨R, e, h, r, env, PostG.bind p fun R1 x v h1 H1 l1 r1 d1 p1 => ?_⟩
    simp only [bfn] at p1
    split at p1
    · rename_i hp
      refine ⟨?_, fun q hq => ?_⟩
      · rw [List.length_map, sizeLine_eq]; omega
      · rw [g.K]
        exact isiT_snd (r1.aside hq) hp d1 upd_same (PostG.val p1 (r1.aside hq) (bl_dv _))
    · exact absurd p1 id
  unfold chkTy at ck
  split at ck
  · rename_i t
    split at ck
    · rename_i y ey
      rw [Bool.and_eq_true] at ck
      obtain ⟨q, rfl⟩ := gNm_of ey
      have tb := pe_ty (p := q) g (of_decide_eq_true ck.1) ck.2
      refine PE.weak (pe_callB call_isi hg hm (by decide +kernel) (pa_cons ha (pa_cons tb pa_nil st2) st1) (by decide) (by decide) st1 pl) fun σ H Q ⟨R, e, h, r, env, p⟩ => ?_
      refine ⟨R, e, h, r, env, PostG.bind p fun R1 x v h1 H1 l1 r1 d1 p1 => ?_⟩
      simp only [bfn] at p1
      split at p1
      · rename_i hp
        rw [g.K]
        refine isi_snd r1 hp d1 (PostG.val p1 r1 ?_)
        simp only [List.any_cons, List.any_nil, Bool.or_false]
        exact bl_dv _
      · exact absurd p1 id
    · cases ck
  · split at ck
    · rename_i es ees
      rw [Bool.and_eq_true] at ck
      obtain ⟨kk, q, e1⟩ := gTu_of ees
      have ck2 := ck.2
      rw [Bool.and_eq_true] at ck2
      exact many es kk q ees e1 (of_decide_eq_true ck.1) (of_decide_eq_true ck2.1) ck2.2
    · cases ck
/-! ### methods -/
theorem few1 (h : tame a = true) (cp : Pos) (env : Env) : ((backTo cp (starEach [a] env)).all (fun x => !x.1) && (backToKw cp (keywordEach [] env)).all (fun x => x.1.isSome)
      && decide ([a].length + ([] : List Keyword).length + (if ([] : List Keyword).isEmpty then 0 else 1) < 30)) = true := by
  rw [star_of h]; rfl
theorem few2 (h : tame a = true) (h' : tame b = true) (cp : Pos) (env : Env) : ((backTo cp (starEach [a, b] env)).all (fun x => !x.1) && (backToKw cp (keywordEach [] env)).all (fun x => x.1.isSome)
      && decide ([a, b].length + ([] : List Keyword).length + (if ([] : List Keyword).isEmpty then 0 else 1) < 30)) = true := by
  rw [star_of h, star_of h']; rfl
variable {o : PySem.Expr} {mo : List D → Hh → Res D} {p : Pos}
def mtM (m : Mt) (mo : List D → Hh → Res D) (ms : List D → Hh → Res (List D)) : List D → Hh → Res D := fun e h => (mo e h).bind fun x h => if rcv m x h then ((ms e h).bind fun ds h => mtf false m x ds h) else .stk
theorem tyV_ls {R : Rl} {h : Hh} {H : Hp} (r : RelH T R h H) {d : D} {v : V} (e : (lsOf h d).isSome = true) (dv : DV T R d v) : tyV T.K "list" v H := by
  cases q : lsOf h d with
  | none => rw [q] at e; cases e
  | some xs =>
    obtain ⟨a, vs, rfl, h1, h2⟩ := lsOf_rd r q dv
    exact .inl ⟨rfl, vs, h1⟩
theorem LA.one {σ : L2.St} {H : Hp} {Q : List V → Hp → Prop} {R : Rl} {e : List D} {h : Hh} (r : RelH T R h H) (env : DVE T R e σ) (p : PostL T W R σ (ms e h) Q) : LA T W ms σ H Q := ⟨R, e, h, r, env, p⟩
/-- a list's method with one argument -/
theorem s_list1 {m : Mt} {id : String} {rd : V → List V → Hp → VK → Prop} (hK : X.K = T.K) (slot : Slot "list" (mtN m) id) (ty : typeOf (.builtin id) = pure (.type "method_descriptor")) (rule : MtR X id rd)
    (hrc : ∀ x h, rcv m x h = (lsOf h x).isSome)
    (hrd : ∀ (R : Rl) (h : Hh) (H : Hp) (x : D) (ds : List D) (v : V) (vs : List V) (σ : L2.St) (Q : VK), RelH T R h H → DV T R x v → DVs T R ds vs → Post T W R σ (mtf false m x ds h) Q → rd v vs H Q)
    (hc : noCl o = true) (ht : tame a = true) (hl : (p.endLine == pos.line) = true) (ho : PE X o (LE T W mo)) (ha : PA X [a] (LA T W ms)) :
    PE X (.Call (.Attribute o (mtN m) p) [a] [] pos) (LE T W (mtM m mo ms)) := by
  refine PE.weak (pe_bm PySem.F.plainAttrs_list slot ty rule ho ha (attr_of hc _ _ _) (few1 ht _ _) hl (star_of ht _ _) rfl) fun σ H Q ⟨R, e, h, r, env, p⟩ => ?_
  refine ⟨R, e, h, r, env, PostG.bind p fun R1 x v h1 H1 l1 r1 d1 p1 => ?_⟩
  split at p1
  · rename_i hr
    rw [hrc] at hr
    refine ⟨by rw [hK]; exact tyV_ls r1 hr d1, R1, e, h1, r1, env.mono l1, PostG.bind p1 fun R2 y w h2 H2 l2 r2 d2 p2 => ?_⟩
    exact hrd R2 h2 H2 x y v w σ Q r2 (d1.mono l2) d2 p2
  · exact absurd p1 (fun z => z)
theorem s_list0 {m : Mt} {id : String} {rd : V → List V → Hp → VK → Prop} (hK : X.K = T.K) (slot : Slot "list" (mtN m) id) (ty : typeOf (.builtin id) = pure (.type "method_descriptor")) (rule : MtR X id rd)
    (hrc : ∀ x h, rcv m x h = (lsOf h x).isSome)
    (hrd : ∀ (R : Rl) (h : Hh) (H : Hp) (x : D) (v : V) (σ : L2.St) (Q : VK), RelH T R h H → DV T R x v → Post T W R σ (mtf false m x [] h) Q → rd v [] H Q)
    (hc : noCl o = true) (hl : (p.endLine == pos.line) = true) (ho : PE X o (LE T W mo)) :
    PE X (.Call (.Attribute o (mtN m) p) [] [] pos) (LE T W (mtM m mo fun _ h => .ok [] h)) := by
  refine PE.weak (pe_bm0 PySem.F.plainAttrs_list slot ty rule ho (attr_of hc _ _ _) hl) fun σ H Q ⟨R, e, h, r, env, p⟩ => ?_
  refine ⟨R, e, h, r, env, PostG.bind p fun R1 x v h1 H1 l1 r1 d1 p1 => ?_⟩
  split at p1
  · rename_i hr
    rw [hrc] at hr
    exact ⟨by rw [hK]; exact tyV_ls r1 hr d1, hrd R1 h1 H1 x v σ Q r1 d1 p1⟩
  · exact absurd p1 (fun z => z)
theorem append_rd (R : Rl) (h : Hh) (H : Hp) (x : D) (ds : List D) (v : V) (vs : List V) (σ : L2.St) (Q : VK) (r : RelH T R h H) (dx : DV T R x v) (dv : DVs T R ds vs) (p : Post T W R σ (mtf false .append x ds h) Q) : rAppend v vs H Q := by
  match ds, dv, p with
  | [], _, p => exact absurd p id
  | _ :: _ :: _, _, p => exact absurd p id
  | [d], dv, p =>
    obtain ⟨w, rfl, d1⟩ := dv.one
    cases x with
    | cel c =>
      simp only [DV] at dx
      obtain ⟨a, rfl, e⟩ := dx
      simp only [mtf] at p
      split at p
      · rename_i xs hc
        split at p
        · rename_i hl
          obtain ⟨_, _, us, z1, z2⟩ := r.live c _ a hc e
          refine ⟨a, us, w, rfl, rfl, z1, by rw [← z2.length, ← sizeL_eq]; exact hl, ?_⟩
          refine PostG.val p (r.write e ⟨_, rfl, ?_⟩) non_dv
          exact DVs.append z2 (by simp only [DVs, and_true]; exact d1)
        · exact absurd p id
      · exact absurd p id
    | _ => exact absurd p id
theorem index_rd (R : Rl) (h : Hh) (H : Hp) (x : D) (ds : List D) (v : V) (vs : List V) (σ : L2.St) (Q : VK) (r : RelH T R h H) (dx : DV T R x v) (dv : DVs T R ds vs) (p : Post T W R σ (mtf false .index x ds h) Q) : rIndex T.K v vs H Q := by
  match ds, dv, p with
  | [], _, p => exact absurd p id
  | _ :: _ :: _, _, p => exact absurd p id
  | [d], dv, p =>
    obtain ⟨w, rfl, d1⟩ := dv.one
    simp only [mtf] at p
    split at p
    · rename_i xs hx
      split at p
      · rename_i hf
        rw [Bool.and_eq_true] at hf
        split at p
        · rename_i j hj
          obtain ⟨a, us, rfl, h1, h2⟩ := lsOf_rd r hx dx
          obtain ⟨i, z, e1, e2, e3, e4⟩ := findF_rd hf.1 d1 hf.2 h2 hj
          have ej : j = i := by omega
          subst ej
          exact ⟨a, us, w, j, z, rfl, rfl, h1, flat_rd hf.1 d1, flats_rd hf.2 h2, e2, e3, e4, PostG.val p r (int_dv _)⟩
        · exact absurd p id
      · exact absurd p id
    · exact absurd p id
theorem pop_rd (R : Rl) (h : Hh) (H : Hp) (x : D) (v : V) (σ : L2.St) (Q : VK) (r : RelH T R h H) (dx : DV T R x v) (p : Post T W R σ (mtf false .pop x [] h) Q) : rPop v [] H Q := by
  cases x with
  | cel c =>
    simp only [DV] at dx
    obtain ⟨a, rfl, e⟩ := dx
    simp only [mtf] at p
    split at p
    · rename_i xs hc
      split at p
      · rename_i y hy
        obtain ⟨_, _, us, z1, z2⟩ := r.live c _ a hc e
        obtain ⟨w, e1, e2⟩ := z2.get hy
        refine ⟨a, us, w, rfl, rfl, z1, by rw [← z2.length]; exact e1, ?_⟩
        refine PostG.val p (r.write e ⟨_, rfl, ?_⟩) e2
        rw [List.dropLast_eq_take, List.dropLast_eq_take, z2.length]
        exact z2.take _
      · exact absurd p id
    · exact absurd p id
  | _ => exact absurd p id
theorem popAt_rd (R : Rl) (h : Hh) (H : Hp) (x : D) (ds : List D) (v : V) (vs : List V) (σ : L2.St) (Q : VK) (r : RelH T R h H) (dx : DV T R x v) (dv : DVs T R ds vs) (hd : ds.length = 1) (p : Post T W R σ (mtf false .pop x ds h) Q) : rPopAt v vs H Q := by
  match ds, dv, p, hd with
  | [d], dv, p, _ =>
    obtain ⟨w, rfl, d1⟩ := dv.one
    cases d with
    | int i =>
      simp only [mtf] at p
      split at p
      · rename_i hb
        cases x with
        | cel c =>
          simp only [DV] at dx
          obtain ⟨a, rfl, e⟩ := dx
          simp only at p
          split at p
          · rename_i xs hc
            split at p
            · rename_i kk hk
              split at p
              · rename_i y hy
                obtain ⟨_, _, us, z1, z2⟩ := r.live c _ a hc e
                obtain ⟨u, e1, e2⟩ := z2.get hy
                refine ⟨a, us, i, kk, u, rfl, by rw [int_rd d1], z1, hb.1, hb.2, by rw [← z2.length]; exact (ixN_seq hk).1, e1, ?_⟩
                exact PostG.val p (r.write e ⟨_, rfl, z2.erase kk⟩) e2
              · exact absurd p id
            · exact absurd p id
          · exact absurd p id
        | _ => exact absurd p id
      · exact absurd p id
    | _ => exact absurd p id
theorem s_bits (hc : noCl o = true) (hl : (p.endLine == pos.line) = true) (ho : PE X o (LE T W mo)) : PE X (.Call (.Attribute o "bit_length" p) [] [] pos) (LE T W (mtM .bitlen mo fun _ h => .ok [] h)) := by
  refine PE.weak (pe_bits ho (attr_of hc _ _ _) hl) fun σ H Q ⟨R, e, h, r, env, p⟩ => ?_
  refine ⟨R, e, h, r, env, PostG.bind p fun R1 x v h1 H1 l1 r1 d1 p1 => ?_⟩
  cases x with
  | int i => exact ⟨i, int_rd d1, PostG.val p1 r1 (int_dv _)⟩
  | _ => exact absurd p1 id
theorem isD_rd {R : Rl} {h : Hh} {H : Hp} {x : D} {v : V} (r : RelH T R h H) (hr : rcv .get x h = true) (d1 : DV T R x v) : ∃ a, v = .ref a ∧ IsD H a := by
  simp only [rcv] at hr
  split at hr
  · simp only [DV] at d1
    obtain ⟨a, ps, e, h1, _⟩ := d1
    exact ⟨a, e, .inl ⟨ps, .inl (r.fz _ _ h1)⟩⟩
  · simp only [DV] at d1
    obtain ⟨a, ps, e, h1, _⟩ := d1
    exact ⟨a, e, .inr ⟨ps, .inl (r.fz _ _ h1)⟩⟩
  · simp only [DV] at d1
    obtain ⟨a, e, h1⟩ := d1
    split at hr
    · rename_i hc
      obtain ⟨_, _, ps, z, _⟩ := r.live _ _ a hc h1
      exact ⟨a, e, .inl ⟨ps, .inl z⟩⟩
    · rename_i hc
      obtain ⟨_, _, ps, z, _⟩ := r.live _ _ a hc h1
      exact ⟨a, e, .inr ⟨ps, .inl z⟩⟩
    · cases hr
  · cases hr
theorem s_get (g : Good T G k c X) (hc : noCl o = true) (hta : tame a = true) (htb : tame b = true) (hl : (p.endLine == pos.line) = true) (ho : PE X o (LE T W mo)) (ha : PE X a (LE T W ma)) (hb : PE X b (LE T W mb)) :
    PE X (.Call (.Attribute o "get" p) [a, b] [] pos) (LE T W fun e h => (mo e h).bind fun x h => if rcv .get x h then ((ma e h).bind fun y h => (mb e h).bind fun z h => mtf false .get x [y, z] h) else .stk) := by
  have hu := g.hu
  have m2 : M2 X o "get" p a b pos := ⟨attr_of hc _ _ _, few2 hta htb _ _, hl, by rw [star_of hta, star_of htb]; rfl⟩
  refine PE.weak (pe_dget2 (by omega) ho ha hb m2) fun σ H Q ⟨R, e, h, r, env, p⟩ => ?_
  refine ⟨R, e, h, r, env, PostG.bind p fun R1 x v h1 H1 l1 r1 d1 p1 => ?_⟩
  split at p1
  · rename_i hr
    obtain ⟨ad, e1, e2⟩ := isD_rd r1 hr d1
    refine ⟨ad, e1, e2, R1, e, h1, r1, env.mono l1, PostG.bind p1 fun R2 y w h2 H2 l2 r2 d2 p2 => ?_⟩
    refine ⟨R2, e, h2, r2, env.mono (l1.trans l2), PostG.bind p2 fun R3 z u h3 H3 l3 r3 d3 p3 => ?_⟩
    obtain ⟨a3, e3, _, o3, g3, q3⟩ := get_snd r3 (d1.mono (l2.trans l3)) (d2.mono l3) d3 p3
    rw [e1] at e3
    cases e3
    exact ⟨o3, g3, q3⟩
  · exact absurd p1 id
end
end Mn
/-! # Sources, targets, comprehensions -/
namespace Mn
open PySem L2 PyProof.Rows
section
variable {T : Tb} {G : Glb} {k : Nat} {c : Ck} {X : Cx} {W : WX} {a b d tg : PySem.Expr} {ma mb md : List D → Hh → Res D} {pos p : Pos} {es : List PySem.Expr} {ms : List D → Hh → Res (List D)}
/-! ### sources -/
theorem PI.any {tg' e : PySem.Expr} {t t' : TI} (h : PI X tg e t) (w : ∀ σ H R, t' σ H R → t σ H R) : PI X tg e t' := PI.weak h w
theorem i_seq (hK : X.K = T.K) (ha : PE X a (LE T W ma)) : PI X tg a (LI T W fun e h => (ma e h).bind fun d h => match srcOf h true d with | some s => .ok s h | none => .stk) := by
  -- a list or a tuple: the value tells which
  have z : PI X tg a (fun σ H Q => LE T W ma σ H fun x H1 => (∃ ad, x = .ref ad ∧ (∃ xs, SqL X.K H1 ad xs) ∧ Q (Itl X.K ad) H1) ∨ (∃ ad, x = .ref ad ∧ (∃ xs, SqT X.K H1 ad xs) ∧ Q (Itt X.K ad) H1)) := by
    refine ⟨fun pins s σ H Q I h => ?_⟩
    refine thn (ha.run pins s σ H _ I h) fun v s1 ⟨x, H1, I1, r1, q1⟩ => ?_
    rcases q1 with ⟨ad, rfl, ⟨xs, hq⟩, q⟩ | ⟨ad, rfl, ⟨xs, hq⟩, q⟩
    · cases r1
      obtain ⟨its, rv, p, hz⟩ := I1.list hq
      refine wpAny_pyIter_list p.isList ?_
      refine ⟨s1.heap.objs.size, [s1.heap.objs.size], _, _, H1, rfl, I1.kept (t' := s1.toks) fun b o e => Heap.get?_push_of_some _ e, turn_list ad _, ⟨_, Heap.get?_push_size _ rfl, rfl, rfl⟩, fun b hb => ?_, q⟩
      have e : b = s1.heap.objs.size := by simpa using hb
      subst e
      exact I1.fpOk (Nat.le_refl _) (I1.hok.fresh (Nat.le_refl _))
    · cases r1
      obtain ⟨its, rv, p, hz⟩ := I1.tuple hq
      refine wpAny_pyIter_tuple (show s1.heap.IsTuple ad its.toArray from p) ?_
      refine ⟨s1.heap.objs.size, [s1.heap.objs.size], _, _, H1, rfl, I1.kept (t' := s1.toks) fun b o e => Heap.get?_push_of_some _ e, turn_tuple ad _, ⟨_, Heap.get?_push_size _ rfl, rfl, rfl⟩, fun b hb => ?_, q⟩
      have e : b = s1.heap.objs.size := by simpa using hb
      subst e
      exact I1.fpOk (Nat.le_refl _) (I1.hok.fresh (Nat.le_refl _))
  refine PI.weak z fun σ H Q ⟨R, e, h, r, env, p⟩ => ?_
  refine ⟨R, e, h, r, env, PostG.bind p fun R1 x v h1 H1 l1 r1 d1 p1 => ?_⟩
  rw [hK]
  have fin : ∀ {s}, srcOf h1 false x = some s → Post T W R1 σ (.ok (.non) h1) (fun _ _ => True) → PostG (SrcJ T) T W R1 σ (.ok s h1) Q → (∃ ad, v = .ref ad ∧ (∃ xs, SqL T.K H1 ad xs) ∧ Q (Itl T.K ad) H1) ∨ (∃ ad, v = .ref ad ∧ (∃ xs, SqT T.K H1 ad xs) ∧ Q (Itt T.K ad) H1) := by
    intro s es _ p1
    obtain ⟨ad, e1, e2, e3⟩ := srcL_of r1 es d1
    exact .inl ⟨ad, e1, e2, PostG.val p1 r1 e3.itl⟩
  have tr : Post T W R1 σ (.ok (.non) h1) (fun _ _ => True) := fun _ _ _ _ _ _ => trivial
  cases x with
  | tup xs =>
    simp only [srcOf, if_true] at p1
    obtain ⟨ad, vs, e1, e2, e3⟩ := (show ∃ ad vs, v = .ref ad ∧ R1.F ad = some (.tup vs) ∧ DVs T R1 xs vs by simpa only [DV] using d1)
    exact .inr ⟨ad, e1, ⟨vs, SqT.of (r1.fz _ _ e2)⟩, PostG.val p1 r1 (srcJ_tup e2 e3)⟩
  | lst xs =>
    simp only [srcOf] at p1
    exact fin (s := .fz xs) rfl tr p1
  | ro xs =>
    simp only [srcOf] at p1
    exact fin (s := .fz xs) rfl tr p1
  | cel cc =>
    simp only [srcOf] at p1
    split at p1
    · rename_i s es
      exact fin (s := s) (by simpa only [srcOf] using es) tr p1
    · exact absurd p1 id
  | _ => exact absurd p1 id
theorem i_rng1 (g : Good T G k c X) {x : Str} (hx : x = "range") (hb : bltB c x = true) (ht : tame a = true) (ha : PE X a (LE T W ma)) :
    PI X tg (.Call (.Name x p) [a] [] pos) (LI T W fun e h => (ma e h).bind fun d h => match d with
    | .int j => if -(2 ^ 62) ≤ j ∧ j < 2 ^ 62 then .ok (.rng 0 j.toNat) h else .stk
    | _ => .stk) := by
  unfold bltB at hb
  rw [Bool.and_eq_true] at hb
  subst hx
  have st := star_of ht [] X.env
  refine PI.weak (pi_range1 (g.gl hb.1) (g.blt _ (List.contains_iff_mem.mp hb.2)) (pa_cons ha pa_nil st) st) fun σ H Q ⟨R, e, h, r, env, p⟩ => ?_
  refine ⟨R, e, h, r, env, PostG.bind p fun R1 x v h1 H1 l1 r1 d1 p1 => ?_⟩
  cases x with
  | int j =>
    simp only at p1
    split at p1
    · rename_i hj
      exact ⟨j, by rw [int_rd d1], hj.1, hj.2, PostG.val p1 r1 (srcJ_rng 0 _)⟩
    · exact absurd p1 id
  | _ => exact absurd p1 id
theorem i_rng2 (g : Good T G k c X) {x : Str} (hx : x = "range") (hb : bltB c x = true) (ht : tame a = true) (htb : tame b = true) (ha : PE X a (LE T W ma)) (hb' : PE X b (LE T W mb)) :
    PI X tg (.Call (.Name x p) [a, b] [] pos) (LI T W fun e h => (ma e h).bind fun d h => (mb e h).bind fun d' h => match d, d' with
    | .int i, .int j => if -(2 ^ 62) ≤ i ∧ i < 2 ^ 62 ∧ -(2 ^ 62) ≤ j ∧ j < 2 ^ 62 then .ok (.rng i (j - i).toNat) h else .stk
    | _, _ => .stk) := by
  unfold bltB at hb
  rw [Bool.and_eq_true] at hb
  subst hx
  have st := star_of htb [] X.env
  have st2 : starEach [a, b] X.env = [(false, eval a X.env), (false, eval b X.env)] := by rw [star_of ht, st]; rfl
  refine PI.weak (pi_range2 (g.gl hb.1) (g.blt _ (List.contains_iff_mem.mp hb.2)) (pa_cons ha (pa_cons hb' pa_nil st) (star_of ht _ _)) st2 st) fun σ H Q ⟨R, e, h, r, env, p⟩ => ?_
  refine ⟨R, e, h, r, env, PostG.bind p fun R1 x v h1 H1 l1 r1 d1 p1 => ?_⟩
  refine ⟨R1, e, h1, r1, env.mono l1, PostG.bind p1 fun R2 y w h2 H2 l2 r2 d2 p2 => ?_⟩
  cases x with
  | int i =>
    cases y with
    | int j =>
      simp only at p2
      split at p2
      · rename_i hj
        exact ⟨i, j, by rw [int_rd d1, int_rd d2], hj, PostG.val p2 r2 (srcJ_rng i _)⟩
      · exact absurd p2 id
    | _ => exact absurd p2 id
  | _ => exact absurd p2 id
theorem i_enum (g : Good T G k c X) {x : Str} {elts : List PySem.Expr} {kk : Nat} {tp : Pos} (hx : x = "enumerate") (hb : bltB c x = true) (ht : tame a = true) (ha : PE X a (LE T W ma)) :
    PI X (.Tuple elts kk tp) (.Call (.Name x p) [a] [] pos) (LI T W fun e h => (ma e h).bind fun d h => match srcOf h false d with | some s => .ok (.en s) h | none => .stk) := by
  unfold bltB at hb
  rw [Bool.and_eq_true] at hb
  subst hx
  have st := star_of ht [] X.env
  refine PI.weak (pi_enum (g.gl hb.1) (g.blt _ (List.contains_iff_mem.mp hb.2)) (pa_cons ha pa_nil st) st) fun σ H Q ⟨R, e, h, r, env, p⟩ => ?_
  refine ⟨R, e, h, r, env, PostG.bind p fun R1 x v h1 H1 l1 r1 d1 p1 => ?_⟩
  split at p1
  · rename_i s es
    obtain ⟨ad, e1, ⟨xs, e2⟩, e3⟩ := srcL_of r1 es d1
    rw [g.K]
    exact ⟨ad, xs, by rw [e1], e2, PostG.val p1 r1 e3.ite⟩
  · exact absurd p1 id
theorem i_zip (g : Good T G k c X) {x : Str} {elts : List PySem.Expr} {kk : Nat} {tp : Pos} (hx : x = "zip") (hb : bltB c x = true) (ht : tame a = true) (htb : tame b = true) (ha : PE X a (LE T W ma)) (hb' : PE X b (LE T W mb)) :
    PI X (.Tuple elts kk tp) (.Call (.Name x p) [a, b] [] pos) (LI T W fun e h => (ma e h).bind fun d h => (mb e h).bind fun d' h => match srcOf h false d, srcOf h false d' with
    | some s, some t => .ok (.zp s t) h
    | _, _ => .stk) := by
  unfold bltB at hb
  rw [Bool.and_eq_true] at hb
  subst hx
  have st := star_of htb [] X.env
  refine PI.weak (pi_zip (g.gl hb.1) (g.blt _ (List.contains_iff_mem.mp hb.2)) (pa_cons ha (pa_cons hb' pa_nil st) (star_of ht _ _)) (star_of ht _ _) (plain_of (by simp [htb]) _ _)) fun σ H Q ⟨R, e, h, r, env, p⟩ => ?_
  refine ⟨R, e, h, r, env, PostG.bind p fun R1 x v h1 H1 l1 r1 d1 p1 => ?_⟩
  refine ⟨R1, e, h1, r1, env.mono l1, PostG.bind p1 fun R2 y w h2 H2 l2 r2 d2 p2 => ?_⟩
  split at p2
  · rename_i s t es et
    obtain ⟨ad, e1, ⟨xs, e2⟩, e3⟩ := srcL_of r2 es (d1.mono l2)
    obtain ⟨bd, f1, ⟨ys, f2⟩, f3⟩ := srcL_of r2 et d2
    rw [g.K]
    exact ⟨ad, bd, xs, ys, by rw [e1, f1], e2, f2, PostG.val p2 r2 (e3.itz f3)⟩
  · exact absurd p2 id
/-! ### targets -/
theorem g_nm {i : Nat} {x : Str} (g : Good T G k c X) (hi : c.N[i]? = some x) (hl : locB c.sc x = true) (hf : fnB c x = true) : PG X (.Name x pos) (LG T W [i] fun v e h => .ok (e.set i v) h) := by
  refine PG.weak (pg_name (by rw [g.N]; exact g.nd) (by rw [g.N]; exact hi) (g.loc hl) (g.fnl hf)) fun v σ H Q ⟨R, e, h, dd, r, env, dv, p⟩ => ?_
  exact p R (σ.set i (some v)) H (Rle.refl R) r (env.set i dv) (fun j hj => List.getElem?_set_ne (fun z => hj (by simp [z]))) (by simp)
/-- targets, one behind another -/
def LGs (T : Tb) (W : WX) (own : List Nat) (m : List D → List D → Hh → Res (List D)) : TGs := fun vs σ H Q => ∃ R e h ds, RelH T R h H ∧ DVE T R e σ ∧ DVs T R ds vs ∧ PostT T W own R σ (m ds e h) Q
theorem g_nil : PGs X [] (LGs T W [] fun ds e h => match ds with | [] => .ok e h | _ => .stk) := by
  have z : PGs X [] gNil := pgs_nil
  refine ⟨fun pins s σ H vs us Q I rv h => z.run pins s σ H vs us Q I rv ?_⟩
  obtain ⟨R, e, hh, ds, r, env, dv, p⟩ := h
  cases ds with
  | nil => exact ⟨dv.nil', p R σ H (Rle.refl R) r env (fun _ _ => rfl) rfl⟩
  | cons d ds => exact absurd p id
theorem g_cons {o1 o2 : List Nat} {m1 : D → List D → Hh → Res (List D)} {m2 : List D → List D → Hh → Res (List D)} (ht : tame a = true) (h1 : PG X a (LG T W o1 m1)) (h2 : PGs X es (LGs T W o2 m2)) :
    PGs X (a :: es) (LGs T W (o1 ++ o2) fun ds e h => match ds with | x :: xs => (m1 x e h).bind fun e h => m2 xs e h | _ => .stk) := by
  have st : (assignEach (a :: es) X.env).map (·.2) = assign a X.env :: (assignEach es X.env).map (·.2) := by
    cases a <;> first | rfl | (simp [tame] at ht)
  have z := pgs_cons h1 h2 st
  refine ⟨fun pins s σ H vs us Q I rv h => z.run pins s σ H vs us Q I rv ?_⟩
  obtain ⟨R, e, hh, ds, r, env, dv, p⟩ := h
  cases ds with
  | nil => exact absurd p id
  | cons x xs =>
    cases vs with
    | nil => simp only [DVs] at dv
    | cons v vs =>
      simp only [DVs] at dv
      refine ⟨v, vs, rfl, R, e, hh, x, r, env, dv.1, ?_⟩
      simp only at p
      cases q : m1 x e hh with
      | ok e1 h1 =>
        rw [q, bind_ok] at p
        intro R1 σ1 H1 l1 r1 env1 hj hl
        refine ⟨R1, e1, h1, xs, r1, env1, dv.2.mono l1, ?_⟩
        cases q2 : m2 xs e1 h1 with
        | ok e2 h2 =>
          rw [q2] at p
          intro R2 σ2 H2 l2 r2 env2 hj2 hl2
          refine p R2 σ2 H2 (l1.trans l2) r2 env2 (fun j hj3 => ?_) (hl2.trans hl)
          simp only [List.mem_append, not_or] at hj3
          rw [hj2 j hj3.2, hj j hj3.1]
        | exc cc w h2 => rw [q2] at p; exact p
        | stk => rw [q2] at p; exact p
      | exc cc w h1 => rw [q] at p; exact p
      | stk => rw [q] at p; exact p
theorem putI_rd {R : Rl} {h h' : Hh} {H : Hp} {x y z : D} {v w u : V} (r : RelH T R h H) (e : putI h x y z = some h') (dx : DV T R x v) (dy : DV T R y w) (dz : DV T R z u) :
    (∃ p xs kk j, v = .ref p ∧ w = .int kk ∧ H p = some (.lst xs) ∧ ixN xs.length kk = some j ∧ RelH T R h' (upd H p (.lst (xs.set j u)))) ∨ ∃ a H', v = .ref a ∧ DPut H a w u H' ∧ RelH T R h' H' := by
  unfold putI at e
  split at e
  · rename_i c kk
    split at e
    · rename_i xs hc
      split at e
      · rename_i j hj
        cases e
        simp only [DV] at dx
        obtain ⟨a, rfl, e2⟩ := dx
        obtain ⟨_, _, us, z1, z2⟩ := r.live c _ a hc e2
        exact .inl ⟨a, us, kk, j, rfl, int_rd dy, z1, by rw [← z2.length]; exact hj, r.write e2 ⟨_, rfl, DVs.set j z2 dz⟩⟩
      · cases e
    · exact .inr (dPut_rd r e dx dy dz)
    · cases e
  · exact .inr (dPut_rd r e dx dy dz)
def rDSet : TSet := fun o i v H Q => ∃ a H', o = .ref a ∧ DPut H a i v H' ∧ Q H'
theorem set_dict (hu : X.A.units + 1 < cLine) : PSet X rDSet := by
  intro pins s σ H o i v ov iv u Q I ro ri rv h
  obtain ⟨a, H', rfl, g, q⟩ := h
  cases ro
  exact d_setItem hu I g ri rv fun s' I' => ⟨H', I', q⟩
theorem sub_plain {o i : PySem.Expr} (h : noSl i = true) (env : PySem.Env) : ∀ v, assign (.Subscript o i pos) env v = (do
      let ov ← holding [v] (eval o env)
      let iv ← holding [v, ov] (eval i env)
      standAt pos
      holding [v, ov, iv] (setItem ov iv v)
      release [v, ov, iv] []) := by
  intro v
  cases i <;> first | rfl | (simp [noSl] at h)
theorem g_sub (g : Good T G k c X) (hns : noSl b = true) (ha : PE X a (LE T W ma)) (hb : PE X b (LE T W mb)) : PG X (.Subscript a b pos) (LG T W [] fun v e h => (ma e h).bind fun x h => (mb e h).bind fun y h => match putI h x y v with | some h' => .ok e h' | none => .stk) := by
  have hu := g.hu
  have st := sub_plain (o := a) (pos := pos) hns X.env
  refine PG.weak (pg_sub (ha := st) ha hb (PSet.orr set_list (set_dict (by omega)))) fun v σ H Q ⟨R, e, h, dd, r, env, dv, p⟩ => ?_
  refine ⟨R, e, h, r, env, PostT.bind p fun R1 x w h1 H1 l1 r1 d1 p1 => ?_⟩
  refine ⟨R1, e, h1, r1, env.mono l1, PostT.bind p1 fun R2 y u h2 H2 l2 r2 d2 p2 => ?_⟩
  split at p2
  · rename_i h' e2
    rcases putI_rd r2 e2 (d1.mono l2) d2 (dv.mono (l1.trans l2)) with ⟨q, xs, kk, j, e3, e4, e5, e6, r3⟩ | ⟨q, H', e3, e4, r3⟩
    · exact .inl ⟨q, xs, kk, j, e3, e4, e5, e6, p2 R2 σ _ (Rle.refl R2) r3 (env.mono (l1.trans l2)) (fun _ _ => rfl) rfl⟩
    · exact .inr ⟨q, H', e3, e4, p2 R2 σ _ (Rle.refl R2) r3 (env.mono (l1.trans l2)) (fun _ _ => rfl) rfl⟩
  · exact absurd p2 id
theorem g_tup {own : List Nat} {m : List D → List D → Hh → Res (List D)} {kk : Nat} (g : Good T G k c X) (hes : es.all tame = true) (h : PGs X es (LGs T W own m)) (hlen : ∀ ds e h r, m ds e h = r → (∃ e' h', r = .ok e' h') → ds.length = es.length) :
    PG X (.Tuple es kk pos) (LG T W own fun v e h => match v with | .tup xs => m xs e h | _ => .stk) := by
  have st : ∀ (l : List PySem.Expr), l.all tame = true → (assignEach l X.env).length = l.length ∧ (assignEach l X.env).findIdx? (·.1) = none := by
    intro l
    induction l with
    | nil => intro _; exact ⟨rfl, rfl⟩
    | cons a l ih =>
      intro h
      simp only [List.all_cons, Bool.and_eq_true] at h
      have e1 : assignEach (a :: l) X.env = (false, assign a X.env) :: assignEach l X.env := by
        have h1 := h.1
        cases a <;> first | rfl | (simp [tame] at h1)
      obtain ⟨i1, i2⟩ := ih h.2
      rw [e1]
      exact ⟨by simp [i1], by simp [List.findIdx?_cons, i2]⟩
  obtain ⟨s1, s2⟩ := st es hes
  refine PG.weak (pg_tup g.calm h s1 s2) fun v σ H Q ⟨R, e, h, dd, r, env, dv, p⟩ => ?_
  cases dd with
  | tup xs =>
    obtain ⟨a, vs, rfl, h1, h2⟩ := tup_rd r dv
    have hl : xs.length = es.length := by
      refine hlen xs e h _ rfl ?_
      simp only at p
      cases q : m xs e h with
      | ok e' h' => exact ⟨e', h', rfl⟩
      | exc cc w h' => rw [q] at p; exact absurd p id
      | stk => rw [q] at p; exact absurd p id
    rw [g.K]
    exact ⟨a, vs, rfl, SqT.of h1, by rw [← h2.length, hl], R, e, h, xs, r, env, h2, p⟩
  | _ => exact absurd p id
end
end Mn
/-! # Comprehensions -/
namespace Mn
open PySem L2 PyProof.Rows
def W0 : WX := fun _ _ _ _ => False
theorem RelH.unpriv {T : Tb} {R : Rl} {h : Hh} {H : Hp} {P : Hp} (r : RelH T R h H) (e : ∀ a o, P a = some o → R.P a = some o) : RelH T { R with P := P } h H := by
  refine ⟨r.fz, fun a o q => r.pv a o (e a o q), fun a o q => r.dj a o (e a o q), r.len, fun c ob a h1 h2 => ?_, r.nd, fun a o q => r.px a o (e a o q), r.nt, r.tb⟩
  obtain ⟨z1, z2, z3⟩ := r.live c ob a h1 h2
  refine ⟨z1, ?_, ObR.mono' (R := R) (R' := { R with P := P }) (fun _ _ h => h) (fun _ _ h => h) rfl z3⟩
  cases q : P a with
  | none => exact q
  | some o => rw [e a o q] at z2; cases z2
/-- one turn of a comprehension -/
def stepM (own : List Nat) (e : List D) (mT : D → List D → Hh → Res (List D)) (mB : List D → Hh → Res Bool) (mE : List D → Hh → Res D) : D → Hh → Res (Option D) := fun d h => match mT d (wipeD e own) h with
  | .ok e' h' => (mB e' h').bind fun b h => if b then ((mE e' h).bind fun v h => .ok (some v) h) else .ok none h
  | _ => .stk
def lcM (lv : Bool) (own : List Nat) (mI : List D → Hh → Res Src) (mT : D → List D → Hh → Res (List D)) (mB : List D → Hh → Res Bool) (mE : List D → Hh → Res D) : List D → Hh → Res D := fun e h => (mI e h).bind fun src h => (loopL src (stepM own e mT mB mE) (src.len h) 0 [] h).bind fun ds h => newL lv ds h
section
variable {T : Tb} {G : Glb} {k : Nat} {c : Ck} {X : Cx} {W : WX} {own : List Nat} {mI : List D → Hh → Res Src} {mT : D → List D → Hh → Res (List D)} {mB : List D → Hh → Res Bool} {mE : List D → Hh → Res D} {lv : Bool}
theorem lc_w {σ : L2.St} {H : Hp} {Q : VK} (p : LE T W (lcM lv own mI mT mB mE) σ H Q) : tLc (LI T W mI) (LG T W0 own mT) (LB T W0 mB) (LE T W0 mE) own σ H Q := by
  obtain ⟨R, e, h, r, env, p⟩ := p
  refine ⟨R, e, h, r, env, PostG.bind p fun R1 src J h1 H1 l1 r1 dJ p1 => ?_⟩
  intro D hD
  obtain ⟨f1, f2, f3⟩ := r1.fresh hD
  refine ⟨fun i m H' => ∃ (Rm : Rl) (hm : Hh) (acc : List Mn.D) (vs : List V), Rle R1 Rm ∧ RelH T Rm hm H' ∧ H' D = some (.lst vs) ∧ Rm.F D = none ∧ D ∉ Rm.rho ∧ DVs T Rm acc vs ∧
      Post T W Rm σ ((loopL src (stepM own e mT mB mE) m i acc hm).bind fun ds h => newL lv ds h) Q,
    ⟨src.len h1, R1, h1, [], [], Rle.refl R1, r1.aside hD, upd_same, f1, f3, by simp only [DVs], p1⟩, ?_⟩
  rintro i m H' ⟨Rm, hm, acc, vs, lm, rm, hd, g1, g3, da, pm⟩
  have g2 : Rm.P D = none := by rw [lm.P]; exact f2
  -- with the list held apart
  have rP : RelH T { Rm with P := upd Rm.P D (.lst vs) } hm H' := rm.priv hd g1 g3
  obtain ⟨jst, jgo⟩ := dJ i Rm hm H' lm.f rm
  obtain ⟨_, jgo'⟩ := dJ i { Rm with P := upd Rm.P D (.lst vs) } hm H' (lm.f.trans (RleF.anyP Rm _)) rP
  cases m with
  | zero =>
    unfold loopL at pm
    split at pm
    · rename_i es
      exact .inl ⟨jst es, Post.oldL pm rm da hd g1 g2 g3⟩
    · exact absurd pm id
  | succ m =>
    unfold loopL at pm
    split at pm
    · rename_i es
      exact .inl ⟨jst es, Post.oldL pm rm da hd g1 g2 g3⟩
    · rename_i d es
      obtain ⟨go, _⟩ := jgo d es
      obtain ⟨_, yl⟩ := jgo' d es
      refine .inr ⟨go, fun H2 => ∃ (Rm : Rl) (hm : Hh) (acc : List Mn.D) (vs : List V), Rle R1 Rm ∧ RelH T Rm hm H2 ∧ H2 D = some (.lst vs) ∧ Rm.F D = none ∧ D ∉ Rm.rho ∧ DVs T Rm acc vs ∧
        Post T W Rm σ ((loopL src (stepM own e mT mB mE) m (i + 1) acc hm).bind fun ds h => newL lv ds h) Q, fun H2 w => ⟨m, Nat.lt_succ_self m, w⟩, fun x H2 hy => ?_⟩
      obtain ⟨R2, l2, r2, d2⟩ := yl x H2 hy
      -- what a later knowledge says of the list
      have back : ∀ {R3 : Rl} {h3 : Hh} {H3 : Hp}, Rle R2 R3 → RelH T R3 h3 H3 → H3 D = some (.lst vs) ∧ R3.F D = none ∧ D ∉ R3.rho ∧ RelH T { R3 with P := Rm.P } h3 H3 ∧ Rle Rm { R3 with P := Rm.P } := by
        intro R3 h3 H3 l3 r3
        have eP : R3.P = upd Rm.P D (.lst vs) := l3.P.trans l2.P
        have eD : R3.P D = some (.lst vs) := by rw [eP]; exact upd_same
        refine ⟨r3.pv _ _ eD, r3.dj _ _ eD, fun hmem => ?_, r3.unpriv fun a o q => ?_, ?_⟩
        · obtain ⟨cc, hc⟩ := List.getElem?_of_mem hmem
          obtain ⟨ob, _, _, z, _⟩ := r3.addr hc
          rw [eD] at z; cases z
        · rw [eP, upd_ne (ne_of_none q g2)]; exact q
        · exact ⟨fun a o q => l3.F _ _ (l2.F _ _ q), fun a o q => l3.rho _ _ (l2.rho _ _ q), rfl, l3.pn.trans l2.pn⟩
      have l12 : RleF R R2 := (l1.trans lm).f.trans ((RleF.anyP Rm _).trans l2.f)
      cases es2 : stepM own e mT mB mE d hm with
      | ok o h' =>
        rw [es2] at pm
        unfold stepM at es2
        split at es2
        · rename_i e' h2 et
          refine ⟨R2, wipeD e own, hm, d, r2, (env.monoF l12).wipe own, d2, ?_⟩
          rw [et]
          intro R3 σ3 H3 l3 r3 env3 hj hl
          refine ⟨by rw [← wipe_wipe σ own]; exact wipe_eq hj hl, R3, e', h2, r3, env3, ?_⟩
          cases eb : mB e' h2 with
          | ok b h4 =>
            rw [eb] at es2
            intro R4 b' H4 l4 r4 eb'
            subst eb'
            rw [bind_ok] at es2
            cases b with
            | false =>
              simp only [Bool.false_eq_true, if_false] at es2 ⊢
              cases es2
              obtain ⟨q1, q2, q3, q4, q5⟩ := back (l3.trans l4) r4
              exact ⟨{ R4 with P := Rm.P }, _, acc, vs, lm.trans q5, q4, q1, q2, q3, da.mono q5, PostG.mono q5 pm⟩
            | true =>
              simp only [if_true] at es2 ⊢
              refine ⟨R4, e', h4, r4, env3.mono l4, ?_⟩
              cases ee : mE e' h4 with
              | ok v h5 =>
                rw [ee, bind_ok] at es2
                cases es2
                intro R5 w H5 l5 r5 dv
                obtain ⟨q1, q2, q3, q4, q5⟩ := back ((l3.trans l4).trans l5) r5
                simp only at pm
                split at pm
                · rename_i hlt
                  refine ⟨vs, q1, by rw [← da.length, ← sizeL_eq]; exact hlt, { R5 with P := Rm.P }, _, acc ++ [v], vs ++ [w], lm.trans q5, RelH.outside q4 q1 q2 g2 q3, upd_same, q2, q3, DVs.append (da.mono q5) ?_, PostG.mono q5 pm⟩
                  simp only [DVs, and_true]
                  exact dv.monoF (RleF.anyP R5 Rm.P)
                · exact absurd pm id
              | exc cc w h5 => rw [ee] at es2; cases es2
              | stk => rw [ee] at es2; cases es2
          | exc cc w h4 => rw [eb] at es2; cases es2
          | stk => rw [eb] at es2; cases es2
        · cases es2
      | exc cc w h' => rw [es2] at pm; exact absurd pm id
      | stk => rw [es2] at pm; exact absurd pm id
    · exact absurd pm id
theorem s_lc {elt tg iter : PySem.Expr} {ifs : List PySem.Expr} {scope : Scope} {ow : List (Str × Nat)} {pos : Pos} (g : Good T G k c X) (ht : tame iter = true) (ok : blkC c.N c.sc scope ow = true) (ho : ow.map (·.2) = own)
    (hi : PI X tg iter (LI T W mI)) (hg : ∀ X', Good T G k (c.blk scope) X' → PG X' tg (LG T W0 own mT)) (hB : ∀ X', Good T G k (c.blk scope) X' → PTs X' ifs (LB T W0 mB)) (hE : ∀ X', Good T G k (c.blk scope) X' → PE X' elt (LE T W0 mE)) :
    PE X (.ListComp elt [⟨tg, iter, ifs, 0⟩] scope pos) (LE T W (lcM lv own mI mT mB mE)) := by
  subst ho
  refine PE.weak (pe_lc (own := ow) g.calm (by rw [g.N]; exact g.nd) hi (by rw [g.N, g.sc]; exact blkOk_by ok) (fun s H C cl fp => hg _ (g.blk s H scope C cl fp)) (fun s H C cl fp => hB _ (g.blk s H scope C cl fp)) (fun s H C cl fp => hE _ (g.blk s H scope C cl fp)) (fold_of ht X.env)) fun σ H Q p => lc_w p
theorem s_setLc {i : Nat} {y : Str} {py : Pos} {elt tg iter : PySem.Expr} {ifs : List PySem.Expr} {scope : Scope} {ow : List (Str × Nat)} {pos spos : Pos} (g : Good T G k c X) (ht : tame iter = true) (ok : blkC c.N c.sc scope ow = true) (ho : ow.map (·.2) = own)
    (hy : c.N[i]? = some y) (hyl : c.sc.names.lookup y = some .local) (hsw : swapsWith (.ListComp elt [⟨tg, iter, ifs, 0⟩] scope pos) (some (.Name y py)) spos.line X.env = pure true)
    (hi : PI X tg iter (LI T W mI)) (hg : ∀ X', Good T G k (c.blk scope) X' → PG X' tg (LG T W0 own mT)) (hB : ∀ X', Good T G k (c.blk scope) X' → PTs X' ifs (LB T W0 mB)) (hE : ∀ X', Good T G k (c.blk scope) X' → PE X' elt (LE T W0 mE)) :
    PS X (.Assign [.Name y py] (.ListComp elt [⟨tg, iter, ifs, 0⟩] scope pos) spos) (tAsg (LE T W (lcM lv own mI mT mB mE)) (gName i)) := by
  subst ho
  refine PS.weak (ps_setLc (own := ow) g.calm (by rw [g.N]; exact g.nd) (by rw [g.N]; exact hy) (by rw [g.sc]; exact hyl) hsw hi (by rw [g.N, g.sc]; exact blkOk_by ok) (fun s H C cl fp => hg _ (g.blk s H scope C cl fp)) (fun s H C cl fp => hB _ (g.blk s H scope C cl fp)) (fun s H C cl fp => hE _ (g.blk s H scope C cl fp)) (fold_of ht X.env)) fun D σ H p => lc_w p
end
end Mn
/-! # Statements -/
namespace Mn
open PySem L2 PyProof.Rows
section
variable {T : Tb} {W : WX} {R : Rl} {σ : L2.St}
theorem PostS.bind {r : Res D} {f : D → Hh → SRes} {e : List D} {D' : Ends} {Q1 : VK} (p : PostS T W R (r.thenS e f) D') (env : DVE T R e σ)
    (k : ∀ R1 a v h1 H1, Rle R R1 → RelH T R1 h1 H1 → DV T R1 a v → PostS T W R1 (f a h1) D' → Q1 v H1) : Post T W R σ r Q1 := by
  cases r with
  | ok d h => exact fun R1 v H l rl dv => k R1 d v h H l rl dv (p.mono l)
  | exc c x h => exact fun R1 cls dx H l rl ex => p R1 cls dx σ H l rl ex (env.mono l)
  | stk => exact p
theorem PostS.tgt {own : List Nat} {r : Res (List D)} {D' : Ends} (p : PostS T W R r.toS D') : PostT T W own R σ r D'.nx := by
  cases r with
  | ok e h => exact fun R1 σ1 H l rl env _ _ => p R1 σ1 H l rl env
  | exc c x h => exact p
  | stk => exact p
end
section
variable {T : Tb} {G : Glb} {k : Nat} {c : Ck} {X : Cx} {W : WX} {a b tg e : PySem.Expr} {ma mb mt : List D → Hh → Res D} {mT : D → List D → Hh → Res (List D)} {own : List Nat} {pos p : Pos} {st : Stmt} {rest sa sb : List Stmt} {m m1 m2 : List D → Hh → SRes}
theorem s_asg (ha : PE X e (LE T W ma)) (hg : PG X tg (LG T W own mT)) (hs : swapsWithSole [tg] e pos.line X.env = pure false) (hw : swappedStores [tg] e X.env = pure none) (h1 : (assignEach [tg] X.env).map (·.2) = [assign tg X.env]) :
    PS X (.Assign [tg] e pos) (LS T W fun e h => (ma e h).thenS e fun v h => (mT v e h).toS) := by
  refine PS.weak (ps_asg ha hg hs hw h1) fun D' σ H ⟨R, e, h, r, env, q⟩ => ?_
  exact ⟨R, e, h, r, env, q.bind env fun R1 x v h1 H1 l1 r1 d1 p1 => ⟨R1, e, h1, x, r1, env.mono l1, d1, p1.tgt⟩⟩
/-- name = .. with no swap -/
theorem s_set {i : Nat} {y : Str} (h : PS X st (tAsg (LE T W ma) (gName i))) : PS X st (LS T W fun e h => (ma e h).thenS e fun v h => (Res.ok (e.set i v) h).toS) := by
  refine PS.weak h fun D' σ H ⟨R, e, h, r, env, q⟩ => ?_
  exact ⟨R, e, h, r, env, q.bind env fun R1 x v h1 H1 l1 r1 d1 p1 => p1 R1 _ _ (Rle.refl R1) r1 ((env.mono l1).set i d1)⟩
theorem s_ex (ha : PE X e (LE T W ma)) (hn : noLc e = true) : PS X (.Expr e pos) (LS T W fun e h => (ma e h).thenS e fun _ h => .ok .nx e h) := by
  refine PS.weak (ps_expr ha (swap_of hn _ _ _)) fun D' σ H ⟨R, e, h, r, env, q⟩ => ?_
  exact ⟨R, e, h, r, env, q.bind env fun R1 x v h1 H1 l1 r1 d1 p1 => p1 R1 _ _ (Rle.refl R1) r1 (env.mono l1)⟩
theorem s_ret (ha : PE X e (LE T W ma)) : PS X (.Return (some e) pos) (LS T W fun e h => (ma e h).thenS e fun v h => .ok (.ret v) e h) := by
  refine PS.weak (ps_ret ha) fun D' σ H ⟨R, e, h, r, env, q⟩ => ?_
  exact ⟨R, e, h, r, env, q.bind env fun R1 x v h1 H1 l1 r1 d1 p1 => p1 R1 _ _ (Rle.refl R1) r1 d1⟩
theorem s_retN : PS X (.Return none pos) (LS T W fun e h => .ok (.ret .non) e h) := by
  refine PS.weak ps_retN fun D' σ H ⟨R, e, h, r, env, q⟩ => q R _ _ (Rle.refl R) r (by simp only [DV])
theorem s_pas : PS X (.Pass pos) (LS T W fun e h => .ok .nx e h) := PS.weak ps_pass fun D' σ H ⟨R, e, h, r, env, q⟩ => q R _ _ (Rle.refl R) r env
theorem s_doc {x : Str} {j : Nat} {p2 : Pos} : PS X (.Expr (.Constant (.str x) j p2) pos) (LS T W fun e h => .ok .nx e h) := PS.weak ps_doc fun D' σ H ⟨R, e, h, r, env, q⟩ => q R _ _ (Rle.refl R) r env
theorem s_brk : PS X (.Break pos) (LS T W fun e h => .ok .brk e h) := PS.weak ps_break fun D' σ H ⟨R, e, h, r, env, q⟩ => q R _ _ (Rle.refl R) r env
theorem s_cnt : PS X (.Continue pos) (LS T W fun e h => .ok .cnt e h) := PS.weak ps_continue fun D' σ H ⟨R, e, h, r, env, q⟩ => q R _ _ (Rle.refl R) r env
def iteM (mt : List D → Hh → Res D) (m1 m2 : List D → Hh → SRes) : List D → Hh → SRes := fun e h => (mt e h).thenS e fun v h => match v with
    | .bl true => m1 e h
    | .bl false => m2 e h
    | _ => .stk
theorem s_ite (ht : PT X e (tTest (LE T W mt))) (ha : PSs X sa (LS T W m1)) (hb : PSs X sb (LS T W m2)) : PS X (.If e sa sb pos) (LS T W (iteM mt m1 m2)) := by
  refine PS.weak (ps_if ht ha hb) fun D' σ H ⟨R, e, h, r, env, q⟩ => ?_
  refine ⟨R, e, h, r, env, q.bind env fun R1 x v h1 H1 l1 r1 d1 p1 => ?_⟩
  split at p1
  · exact ⟨true, by simpa only [DV] using d1, by show (if true = true then _ else _); rw [if_pos rfl]; exact ⟨R1, e, h1, r1, env.mono l1, p1⟩⟩
  · exact ⟨false, by simpa only [DV] using d1, by show (if false = true then _ else _); rw [if_neg (by decide)]; exact ⟨R1, e, h1, r1, env.mono l1, p1⟩⟩
  · exact absurd p1 id
theorem ss_nil : PSs X [] (LS T W fun e h => .ok .nx e h) := PSs.weak pss_nil fun D' σ H ⟨R, e, h, r, env, q⟩ => q R _ _ (Rle.refl R) r env
def seqM (m1 m2 : List D → Hh → SRes) : List D → Hh → SRes := fun e h => match m1 e h with
    | .ok .nx e h => m2 e h
    | r => r
theorem ss_cons (h1 : PS X st (LS T W m1)) (h2 : PSs X rest (LS T W m2)) : PSs X (st :: rest) (LS T W (seqM m1 m2)) := by
  refine PSs.weak (pss_cons h1 h2) fun D' σ H ⟨R, e, h, r, env, q⟩ => ?_
  refine ⟨R, e, h, r, env, ?_⟩
  unfold seqM at q
  cases z : m1 e h with
  | ok f e1 h1 =>
    rw [z] at q
    cases f with
    | nx => exact fun R1 σ1 H1 l1 r1 env1 => ⟨R1, e1, h1, r1, env1, q.mono l1⟩
    | brk => exact q
    | cnt => exact q
    | ret d => exact q
  | exc c x e1 h1 => rw [z] at q; exact q
  | stk => rw [z] at q; exact q
/-- the docstring left out -/
theorem ss_doc {x : Str} {j : Nat} {p2 : Pos} (h2 : PSs X rest (LS T W m2)) : PSs X (.Expr (.Constant (.str x) j p2) pos :: rest) (LS T W m2) := by
  refine PSs.weak (pss_cons ps_doc h2) fun D' σ H q => q
/-! ### while -/
theorem s_whl (hp : PassesOwn (model X.prog X.w) X.A X.env X.xe) (ht : PT X e (tTest (LE T W mt))) (hb : PSs X sb (LS T W m)) (n : Nat) : PS X (.While e sb [] pos) (LS T W (whF mt m n)) := by
  refine PS.weak (ps_while hp ht hb) fun D' σ H ⟨R, e, h, r, env, q⟩ => ?_
  refine ⟨fun n σ H => ∃ R e h, RelH T R h H ∧ DVE T R e σ ∧ PostS T W R (whF mt m n e h) D', ⟨n, R, e, h, r, env, q⟩, ?_⟩
  rintro n σ H ⟨R, e, h, r, env, q⟩
  cases n with
  | zero => exact absurd q id
  | succ n =>
    unfold whF at q
    refine ⟨R, e, h, r, env, q.bind env fun R1 x v h1 H1 l1 r1 d1 p1 => ?_⟩
    split at p1
    · exact ⟨false, by simpa only [DV] using d1, by show (if false = true then _ else _); rw [if_neg (by decide)]; exact p1 R1 _ _ (Rle.refl R1) r1 (env.mono l1)⟩
    · refine ⟨true, by simpa only [DV] using d1, ?_⟩
      show (if true = true then _ else _)
      rw [if_pos rfl]
      refine ⟨fun σ H => ∃ R e h, RelH T R h H ∧ DVE T R e σ ∧ PostS T W R (whF mt m n e h) D', fun σ2 H2 w => ⟨n, Nat.lt_succ_self n, w⟩, R1, e, h1, r1, env.mono l1, ?_⟩
      cases z : m e h1 with
      | ok f e2 h2 =>
        rw [z] at p1
        cases f with
        | nx => exact fun R2 σ2 H2 l2 r2 env2 => ⟨R2, e2, h2, r2, env2, p1.mono l2⟩
        | cnt => exact fun R2 σ2 H2 l2 r2 env2 => ⟨R2, e2, h2, r2, env2, p1.mono l2⟩
        | brk => exact p1
        | ret d => exact p1
      | exc c x e2 h2 => rw [z] at p1; exact p1
      | stk => rw [z] at p1; exact p1
    · exact absurd p1 id
/-! ### for -/
def forM (fg : List Nat) (mI : List D → Hh → Res Src) (mT : D → List D → Hh → Res (List D)) (m : List D → Hh → SRes) : List D → Hh → SRes := fun e h => match mI e h with
    | .ok src h => loopS src (fun d e h => match mT d e h with
        | .ok e' h' => fgS fg (m e' h')
        | _ => .stk) (src.len h) 0 (wipeD e fg) h
    | .exc c p h => .exc c p e h
    | .stk => .stk
theorem s_fr {fg : List Nat} {mI : List D → Hh → Res Src} (g : Good T G k c X) (hp : PassesOwn (model X.prog X.w) X.A X.env X.xe) (hi : PI X tg e (LI T W mI)) (hg : PG X tg (LG T W own mT)) (hb : PSs X sb (LS T W m)) (ht : tame e = true) :
    PS X (.For tg e sb [] pos) (LS T W (forM fg mI mT m)) := by
  refine PS.weak (ps_for hp g.calm hi hg hb (fold_of ht X.env)) fun D' σ H ⟨R, e, h, r, env, q⟩ => ?_
  refine ⟨R, e, h, r, env, ?_⟩
  unfold forM at q
  cases z : mI e h with
  | stk => rw [z] at q; exact absurd q id
  | exc cc w h1 =>
    rw [z] at q
    exact fun R1 cls dx H l rl ex => q R1 cls dx σ H l rl ex (env.mono l)
  | ok src h1 =>
    rw [z] at q
    intro R1 J H1 l1 r1 dJ
    refine ⟨fun i n σ H => ∃ R2 e2 h2, RleF R1 R2 ∧ RelH T R2 h2 H ∧ DVE T R2 e2 σ ∧ PostS T W R2 (loopS src (fun d e h => match mT d e h with
        | .ok e' h' => fgS fg (m e' h')
        | _ => .stk) n i e2 h2) D', ⟨_, R1, _, h1, RleF.refl R1, r1, (env.mono l1).wipeD fg, PostS.mono l1 q⟩, ?_⟩
    rintro i n σ H ⟨R2, e2, h2, l2, r2, env2, q2⟩
    obtain ⟨jst, jgo⟩ := dJ i R2 h2 H l2 r2
    cases n with
    | zero =>
      unfold loopS at q2
      split at q2
      · rename_i es
        exact .inl ⟨jst es, q2 R2 _ _ (Rle.refl R2) r2 env2⟩
      · exact absurd q2 id
    | succ n =>
      unfold loopS at q2
      split at q2
      · rename_i es
        exact .inl ⟨jst es, q2 R2 _ _ (Rle.refl R2) r2 env2⟩
      · rename_i d es
        obtain ⟨go, yl⟩ := jgo d es
        refine .inr ⟨go, fun σ H => ∃ R2 e2 h2, RleF R1 R2 ∧ RelH T R2 h2 H ∧ DVE T R2 e2 σ ∧ PostS T W R2 (loopS src (fun d e h => match mT d e h with
          | .ok e' h' => fgS fg (m e' h')
          | _ => .stk) n (i + 1) e2 h2) D', fun σ' H' w => ⟨n, Nat.lt_succ_self n, w⟩, fun x H' hy => ?_⟩
        obtain ⟨R3, l3, r3, d3⟩ := yl x H' hy
        refine ⟨R3, e2, h2, d, r3, env2.mono l3, d3, ?_⟩
        cases zt : mT d e2 h2 with
        | exc cc w h3 => rw [zt] at q2; exact absurd q2 id
        | stk => rw [zt] at q2; exact absurd q2 id
        | ok e3 h3 =>
          rw [zt] at q2
          simp only at q2
          intro R4 σ4 H4 l4 r4 env4 _ _
          refine ⟨R4, e3, h3, r4, env4, ?_⟩
          have lf : RleF R1 R4 := l2.trans (l3.trans l4).f
          cases zb : m e3 h3 with
          | stk => rw [zb] at q2; exact absurd q2 id
          | exc cc w e5 h5 => rw [zb] at q2; exact PostS.mono (l3.trans l4) q2
          | ok f e5 h5 =>
            rw [zb] at q2
            cases f with
            | nx =>
              simp only [fgS] at q2
              exact fun R5 σ5 H5 l5 r5 env5 => ⟨R5, _, h5, lf.trans l5.f, r5, env5.wipeD fg, q2.mono ((l3.trans l4).trans l5)⟩
            | cnt =>
              simp only [fgS] at q2
              exact fun R5 σ5 H5 l5 r5 env5 => ⟨R5, _, h5, lf.trans l5.f, r5, env5.wipeD fg, q2.mono ((l3.trans l4).trans l5)⟩
            | brk =>
              simp only [fgS] at q2
              exact fun R5 σ5 H5 l5 r5 env5 => q2 R5 σ5 H5 ((l3.trans l4).trans l5) r5 (env5.wipeD fg)
            | ret d => exact PostS.mono (l3.trans l4) q2
      · exact absurd q2 id
/-! ### raise X(value) -/
theorem s_rai {ci : Nat} {x : Str} {p1 p2 p3 : Pos} (g : Good T G k c X) (tk : Takes X W) (hx : (ci, x) ∈ c.exs) (hg : Gl X x) (hn : okN x = true) (hta : tame a = true) (ha : PE X a (LE T W ma)) :
    PS X (.Raise (some (.Call (.Name x p1) [a] [] p2)) none p3) (LS T W fun e h => (ma e h).thenS e fun v h => .exc ci v e h) := by
  obtain ⟨C, fI, fd, hT, hm, ox, iC, tI, F, hb⟩ := g.exs ci x hx
  have pa := sa_cons hta ha (sa_nil (T := T) (W := W))
  refine PS.weak (ps_raise g.calm tk (pmk_oex ox iC tI F (g.room.mono g.k2) hb .nil (passes_call takes0 (fun _ _ _ _ z => z)) hg hm pa (okN_of hn).1 (star_of hta _ _) rfl)) fun D' σ H ⟨R, e, h, r, env, q⟩ => ?_
  refine ⟨R, e, h, r, env, ?_⟩
  simp only at q ⊢
  cases q1 : ma e h with
  | stk => rw [q1] at q; exact absurd q id
  | exc cc p h1 => rw [q1] at q; exact fun R1 cls dx H l rl ex => q R1 cls dx σ H l rl ex (env.mono l)
  | ok v h1 =>
    rw [q1] at q
    simp only [thenS_ok] at q
    simp only [bind_ok]
    intro R1 vs H1 l1 r1 dv
    obtain ⟨w, rfl, d1⟩ := DVs.one dv
    refine ⟨by simp, fun a ha => ⟨a, w, rfl, upd_same, fun dx hdx hne => ⟨rfl, dx, [(valN, w)], upd_same, by rw [upd_ne hne, upd_same], ?_, ?_⟩⟩⟩
    · rw [upd_ne hne] at hdx; exact hdx
    · rw [upd_ne hne] at hdx
      have eH : upd (del (upd (upd (upd H1 a (exo a C none)) dx (exd dx [(valN, w)])) a (exo a C (some dx))) a) dx (.xd [(valN, w)]) = upd H1 dx (.xd [(valN, w)]) := by
        funext b
        by_cases hb : b = dx
        · subst hb; rw [upd_same, upd_same]
        · rw [upd_ne hb, upd_ne hb]
          by_cases hba : b = a
          · subst hba; rw [del_same, ha]
          · rw [del_ne hba, upd_ne hba, upd_ne hb, upd_ne hba]
      show W _ _ σ _
      rw [eH]
      obtain ⟨r2, l2⟩ := r1.laid (o := .xd [(valN, w)]) hdx
      exact q _ _ _ _ _ (l1.trans l2) r2 ⟨C, hT, rfl, .inr ⟨dx, w, rfl, upd_same, d1.mono l2⟩⟩ (env.mono (l1.trans l2))
end
end Mn
set_option maxHeartbeats 4000000
/-! # An error caught and kept -/
namespace Mn
open PySem L2 PyProof.Rows
section
variable {X : Cx} {pins : List (Addr × Obj)} {σ : L2.St} {H : Hp} {s : Shared} {a : Addr} {cls : Value} {d : Option Addr} {oe : Obj} {vs : Array Value}
theorem exT_ok {P : Program} {w : World} {H : Hp} {h : Heap} (e : h.get? a = some oe) (z : Zc cls d oe) (dd : oe.data = .fields vs) : ObjOk P w H h a (ExT cls d a) :=
  ⟨⟨oe, vs, e, z, dd⟩, ⟨oe, e⟩, fun h1 h2 ⟨o, v, e1, e2, e3⟩ k => ⟨o, v, k _ e1, e2, e3⟩⟩
/-- an error that is new is tracked from now on -/
theorem track (I : Inv X pins σ H s) (hx : X.ex = []) (h0 : X.s_0.heap.get? a = none) (e : s.heap.get? a = some oe) (z : Zc cls d oe) (dd : oe.data = .fields vs) (na : H a = none) (nL : a ≠ X.env.locals) (hp : ∀ p ∈ X.pn ++ pins, p.1 ≠ a) :
    Inv X pins σ (upd H a (ExT cls d a)) s := by
  have ne0 : ∀ {b : Addr} {o : Obj}, X.s_0.heap.get? b = some o → b ≠ a := fun {b o} q z => by rw [z, h0] at q; cases q
  have nc : ∀ {x : Str} {c : Addr}, X.env.cells.lookup x = some c → c ≠ a := fun {x c} q z => by
    obtain ⟨v, o, e1, e2⟩ := I.cell x c q
    rw [z, e] at e1
    cases e1
    rw [dd] at e2
    cases e2
  refine ⟨I.ok, I.os, I.bare, ⟨I.base.keep, I.base.slot, fun b o q n hb => ?_, I.base.there, fun b xs q => ?_, fun b o u q => ?_, fun b ps q => ?_⟩, I.loc, I.cell, ?_, fun x c q => ?_, fun p q => ?_, fun b u q => ?_, I.len⟩
  · rw [upd_ne (ne0 q)]; exact I.base.free b o q n hb
  · have t := I.base.tups b xs q
    rw [upd_ne (ne_of_none t na)]; exact t
  · have t := I.base.frzs b o u q
    rw [upd_ne (ne_of_none t na)]; exact t
  · obtain ⟨m, t⟩ := I.base.tbls b ps q
    exact ⟨m, by rw [upd_ne (ne_of_none t na)]; exact t⟩
  · rw [upd_ne (Ne.symm nL)]; exact I.free
  · rw [upd_ne (nc q)]; exact I.freeC x c q
  · obtain ⟨e1, e2, e3⟩ := I.pin p q
    exact ⟨e1, by rw [upd_ne (hp p q)]; exact e2, e3⟩
  · by_cases hb : b = a
    · subst hb
      rw [upd_same] at q
      cases q
      exact exT_ok e z dd
    · rw [upd_ne hb] at q
      exact (I.hok b u q).stay (fun c o _ r => r) (fun c r => by rw [upd_ne (ne_of_none r na)]; exact r) fun c xs r => by rw [upd_ne (ne_of_none r na)]; exact r
theorem suite0 (I : Inv X pins σ H s) (a : Addr) : Inv (X.suite a (X.pn ++ pins)) [] σ H s :=
  ⟨I.ok.suite _ _, I.os, I.bare, I.base, I.loc, I.cell, I.free, I.freeC, fun p hp => I.pin p (by rw [List.append_nil] at hp; exact hp), I.hok, I.len⟩
theorem unsuite0 (I : Inv (X.suite a (X.pn ++ pins)) [] σ H s) (ok : X.Ok) : Inv X pins σ H s :=
  ⟨ok, I.os, I.bare, I.base, I.loc, I.cell, I.free, I.freeC, fun p hp => I.pin p (by rw [List.append_nil]; exact hp), I.hok, I.len⟩
/-- what the clause wishes -/
def wKp (K : PySem.W.Frag) (c : Value) (i j : Nat) (D : Ends) : WX := fun cls d σ H => PySem.W.exmOne K cls c = some true ∧ ∀ a, H a = none → D.nx (((σ.set i (some (.ref a))).set j (some (.ref a))).set i none) (upd H a (ExT cls d a))
end
section
variable {X : Cx} {x n y : Str} {c : Value} {i j : Nat} {body : List Stmt} {np p1 p2 p3 pos pos' : Pos} {tb : WX → TS}
/-- try: body / except x as n: y = n -/
theorem ps_try_keep (hs : X.stack = X.env :: X.outer) (hf : X.env.frame = some X.env.locals) (hex : X.ex = []) (hN : X.N.Nodup) (hi : X.N[i]? = some n) (hln : X.env.kindOf n = some .local) (hj : X.N[j]? = some y) (hlj : X.env.kindOf y = some .local) (hij : i ≠ j) (hnd : (n == ("__debug__" : Str)) = false) (hnc : (n == ("__classdict__" : Str)) = false) (hc : Names X x c)
    (hb : ∀ (W : WX) (pn : List (Addr × Obj)) (xe : Value → Shared → Prop), Takes (X.tr pn xe) W → PassesOwn (model X.prog X.w) X.A X.env xe → PSs (X.tr pn xe) body (tb W)) :
    PS X (.Try body [.ExceptHandler (some (.Name x np)) (some n) [.Assign [.Name y p1] (.Name n p2) p3] pos'] [] [] pos) (fun D σ H => tb (wKp X.K c i j D) D σ H) := by
  refine ⟨fun pins s σ H D I h => ?_⟩
  have ok := I.ok
  have frames : X.A.frames = some (X.env :: X.outer) := by rw [ok.frames, hs]
  refine wpAny_Try_except ?_
  have run := hb (wKp X.K c i j D) (X.pn ++ pins) (fun e s₁ => wpAny (model X.prog X.w) X.A (noteFrame e X.env) (fun _ s₂ => wpAny (model X.prog X.w) X.A (setFlight e none) (fun _ s₃ =>
    wpAny (model X.prog X.w) X.A (handleBy e X.env [.ExceptHandler (some (.Name x np)) (some n) [.Assign [.Name y p1] (.Name n p2) p3] pos']) (SP X pins D) X.xe s₃) X.xe s₂) X.xe s₁) (fun u s' xx => ?_) PassesOwn.looking
  · refine wpAny_mono (run.run [] s σ H D (I.toTry _) h) (fun f s1 q => ?_) fun e s1 q => q
    have back : ∀ {xe σ' H'}, Inv (X.tr (X.pn ++ pins) xe) [] σ' H' s1 → Inv X pins σ' H' s1 := fun J => J.ofTry ok
    cases f with
    | next => obtain ⟨σ', H', J, q⟩ := q; exact wpAny_execs_nil ⟨σ', H', back J, q⟩
    | brk => obtain ⟨σ', H', J, q⟩ := q; exact ⟨σ', H', back J, q⟩
    | cont => obtain ⟨σ', H', J, q⟩ := q; exact ⟨σ', H', back J, q⟩
    | ret u => obtain ⟨v, σ', H', J, r, q⟩ := q; exact ⟨v, σ', H', back J, r, q⟩
  · obtain ⟨a, B, sI, pins', σ', H', cls, d, rfl, J', nb, up, sky, na, os, ag, hm, hyes⟩ := xx
    have J : Inv X pins σ' H' sI := J'.ofTry ok
    rw [hs] at sky
    refine Sky.land Zc.steady frames hf sky fun h3 fl3 up3 => ?_
    have J3 : Inv X pins σ' H' { s' with heap := h3 } := J.landed nb fl3.1 (up.trans up3) os ag
    obtain ⟨oe3, vs3, he3, hz3, hd3⟩ := fl3.there
    have nfr : a ∉ frs (X.env :: X.outer) := fun hmem => by
      obtain ⟨_, o', e', hnf⟩ := fl3.2.2.1.mem hmem
      rw [he3] at e'
      cases e'
      exact hnf _ hd3
    have nL : a ≠ X.env.locals := fun z => nfr (List.mem_filterMap.mpr ⟨X.env, List.mem_cons_self, by rw [hf, z]⟩)
    have nF : a ∉ X.fs := fun hmem => by
      obtain ⟨e, he, q⟩ := List.mem_filterMap.mp hmem
      exact nfr (List.mem_filterMap.mpr ⟨e, List.mem_cons_of_mem _ he, q⟩)
    have new : sI.heap.get? a = none := by
      cases z : sI.heap.get? a with
      | none => rfl
      | some o =>
        have q := nb a o z (by rw [hs]; exact nfr)
        rw [fl3.2.1] at q
        cases q
    have new0 : X.s_0.heap.get? a = none := by
      cases z : X.s_0.heap.get? a with
      | none => rfl
      | some o =>
        obtain ⟨o', e'⟩ := J.base.there a o z (by rw [hex]; simp)
        rw [new] at e'
        cases e'
    have npin : ∀ p ∈ X.pn ++ pins, p.1 ≠ a := fun p hp z => by
      have q := (J.pin p hp).1
      rw [z, new] at q
      cases q
    refine wpAny_handleBy_cons (codeAny_handlers_test ?_) (by intro q; cases q)
    have LT : PySem.W.Looks (model X.prog X.w) h3 (typeOf (.ref a)) cls := fun A Q E s k q => wpAny_typeOf_ref (k _ _ he3) (by rw [hz3.1]; exact q)
    have LM := PySem.W.exm_one (M := model X.prog X.w) J3.kIn LT hm
    have S3 := J3.suite he3 hd3 na nL nF
    have test : ∀ {Q : Value → Shared → Prop} {E : Value → Shared → Prop}, Q c { s' with heap := h3 } → wpAny (model X.prog X.w) (X.A.mark (some (.ref a))) (eval (.Name x np) X.env) Q E { s' with heap := h3 } := fun {Q E} q => by
      obtain ⟨hg, hdbg, h1 | ⟨h1, h2, h4⟩⟩ := hc
      · exact ld_glob (X := X.suite a ((a, oe3) :: (X.pn ++ pins))) S3 hg h1 q hdbg
      · exact ld_blt (X := X.suite a ((a, oe3) :: (X.pn ++ pins))) S3 hg h1 h2 q h4 hdbg
    refine test (LM.here ?_)
    refine codeAny_handlers_suite_as ?_
    refine HandSPX.lands_againZ fl3 fun h4 fl4 up4 => ?_
    have J4 : Inv X pins σ' H' { s' with heap := h4 } := J.landed nb fl4.1 ((up.trans up3).trans up4) os ag
    obtain ⟨oe4, vs4, he4, hz4, hd4⟩ := fl4.there
    have T4 := suite0 (track J4 hex new0 he4 hz4 hd4 na nL npin) a
    refine store_ok (X := X.suite a (X.pn ++ pins)) (v := .ref a) T4 hN hi (.inl hln) rfl (fun s5 T5 => ?_) (.inr hln)
    have lt : i < (σ'.set i (some (V.ref a))).length := by
      rw [List.length_set, J.len]
      exact (List.getElem?_eq_some_iff.mp hi).1
    have gi : (σ'.set i (some (V.ref a)))[i]? = some (some (.ref a)) := by
      rw [List.getElem?_set_self (by simpa using lt)]
    have sub : wpAny (model X.prog X.w) (X.A.mark (some (.ref a))) (execs [.Assign [.Name y p1] (.Name n p2) p3] X.env)
        (fun f s7 => f = .next ∧ Inv (X.suite a (X.pn ++ pins)) [] ((σ'.set i (some (V.ref a))).set j (some (V.ref a))) (upd H' a (ExT cls d a)) s7) (fun _ _ => False) s5 := by
      refine wpAny_execs_cons (wpAny_Assign_Name (thn ((pe_var (X := X.suite a (X.pn ++ pins)) (pos := p2) hi (.inl hln) hnd hnc).run [] s5 _ _ (fun v H1 => v = .ref a ∧ H1 = upd H' a (ExT cls d a)) T5 ⟨.ref a, gi, rfl, rfl⟩) fun v s6 hv => ?_) rfl)
      obtain ⟨w, H6, T6, rw6, rfl, rfl⟩ := hv
      exact store_ok (X := X.suite a (X.pn ++ pins)) T6 hN hj (.inl hlj) rw6 (fun s7 T7 => wpAny_execs_nil ⟨rfl, T7⟩) (.inr hlj)
    refine wpAny_mono sub (fun f s6 hq => ?_) (fun _ _ z => False.elim z)
    obtain ⟨rfl, T7⟩ := hq
    exact gone_ok (unsuite0 T7 ok) hN hi hln fun s8 T8 => ⟨_, _, T8, hyes a na⟩
end
end Mn
/-! # A kept error's value and class -/
namespace Mn
open PySem L2 PyProof.Rows
section
variable {X : Cx} {a : PySem.Expr} {e : PySem.Expr} {te : TE} {pos : Pos} {n : Str}
/-- e.n, e a kept error -/
def tKx (K : PySem.W.Frag) (n : Str) (te : TE) : TE := fun σ H Q => te σ H fun x H1 => ∃ (a C dd : Addr) (fs : List (Str × V)) (v : V), x = .ref a ∧ XfC K C ∧ PySem.W.findIn K (.ref C) n = some none ∧ H1 a = some (ExT (.ref C) (some dd) a) ∧ H1 dd = some (.xd fs) ∧ fs.lookup n = some v ∧ Q v H1
theorem pe_kx (he : PE X e te) (hb : attributeBase e n X.env (eval e X.env) = eval e X.env) : PE X (.Attribute e n pos) (tKx X.K n te) := by
  refine ⟨fun pins s σ H Q I h => ?_⟩
  refine L2.attr_of hb (thn (he.run pins s σ H _ I h) fun u s1 hh => ?_)
  obtain ⟨x, H1, I1, rx, a, C, dd, fs, v, ex, T, hno, ea, ed, l, q⟩ := hh
  subst ex
  obtain rfl : u = Value.ref a := rx
  obtain ⟨⟨oe, vs, ha, hz, hd⟩, _, _⟩ := I1.hok a _ ea
  have hx : ObjOk X.prog X.w H1 s1.heap dd (.xd fs) := I1.hok dd _ ed
  obtain ⟨mA, hns, hr⟩ := hx
  obtain ⟨od, ho, hl⟩ := lookIn_ns hns
  obtain ⟨u, hu, ru⟩ := RelO.some_of (v := v) (o := mA n) (by rw [← l]; exact hr n)
  have J : PySem.W.InstAt s1.heap a oe C (some od) := ⟨ha, hz.1, by unfold PySem.W.notCls; rw [hd] <;> rfl, by rw [hz.2]; exact ho⟩
  exact HandSPX.exc_get I1.kIn J T.ga T.gg T.exC (PySem.W.findObj_own T.hdC hno rfl (by rw [hl, hu])) (handed_of ru) ⟨v, H1, I1.tok _, ru, q⟩
/-- isinstance(e, c), e a kept error -/
def rIsX (K : PySem.W.Frag) : List V → Hp → VK → Prop := fun xs H Q => ∃ (a D dx : Addr) (fs : List (Str × V)) (c : V) (cv : Value) (b : Bool), xs = [.ref a, c] ∧ (∀ u, RelV c u → u = cv) ∧ ExcC K D ∧ H a = some (ExT (.ref D) (some dx) a) ∧ H dx = some (.xd fs) ∧ PySem.W.kitOne K (.ref D) cv = some b ∧ Q (.bl b) H
theorem call_isX : CallR X (.builtin "isinstance") (rIsX X.K) := by
  intro pins s σ H xs us Q I r h
  obtain ⟨a, D, dx, fs, c, cv, b, rfl, hcv, C, ea, ed, e, q⟩ := h
  cases r with
  | cons rx rr =>
    cases rr with
    | cons rt rr =>
      cases rr
      cases rx
      have ec := hcv _ rt
      subst ec
      obtain ⟨⟨oe, vs, ha, hz, hd⟩, _, _⟩ := I.hok a _ ea
      obtain ⟨mA, hns, hr⟩ : ObjOk X.prog X.w H s.heap dx (.xd fs) := I.hok dx _ ed
      obtain ⟨od, ho, hl⟩ := lookIn_ns hns
      have J : PySem.W.InstAt s.heap a oe D (some od) := ⟨ha, hz.1, by unfold PySem.W.notCls; rw [hd] <;> rfl, by rw [hz.2]; exact ho⟩
      have hcl : (PySem.W.clsIn X.K D).isSome = true := by
        obtain ⟨cd, hc, _⟩ := PySem.W.any_some C.hd
        rw [hc]; rfl
      exact PySem.W.kia_one (PySem.W.kitx_exc (od := some od) hcl C.hg C.hk C.hs C.ha C.hn C.ht C.hm) I.kIn J e (fun z => nomatch z) fun tk => ⟨.bl b, H, I.kept (t' := tk) fun _ _ z => z, rfl, q⟩
end
end Mn
/-! # Cells and lambdas: known while they are handed on, unknown where they are one's own -/
namespace Mn
open PySem L2 PyProof.Rows
def cutL (L : List Addr) (H : Hp) : Hp := fun b => if b ∈ L then none else H b
def putL (L : List Addr) (G H : Hp) : Hp := fun b => if b ∈ L then G b else H b
section
variable {L : List Addr} {G H : Hp} {b : Addr} {o : HO}
theorem cut_in (h : b ∈ L) : cutL L H b = none := by unfold cutL; rw [if_pos h]
theorem cut_out (h : b ∉ L) : cutL L H b = H b := by unfold cutL; rw [if_neg h]
theorem put_in (h : b ∈ L) : putL L G H b = G b := by unfold putL; rw [if_pos h]
theorem put_out (h : b ∉ L) : putL L G H b = H b := by unfold putL; rw [if_neg h]
theorem cut_some (h : cutL L H b = some o) : b ∉ L ∧ H b = some o := by
  by_cases hb : b ∈ L
  · rw [cut_in hb] at h; cases h
  · rw [cut_out hb] at h; exact ⟨hb, h⟩
theorem cut_none (h : H b = none) : cutL L H b = none := by
  by_cases hb : b ∈ L
  · exact cut_in hb
  · rw [cut_out hb]; exact h
end
theorem cellT_ok {P : Program} {w : World} {H : Hp} {h : Heap} {a : Addr} {o : Obj} (e : h.get? a = some o) : ObjOk P w H h a (CellT a o) := ⟨e, ⟨o, e⟩, fun _ _ q k => k _ q⟩
theorem ext_of {P : Program} {w : World} {H : Hp} {h : Heap} {a : Addr} {o : Obj} (hok : HOk P w H h) (e : H a = some (CellT a o)) : h.get? a = some o := (hok a _ e).1
theorem cell_ext {a : Addr} {o : Obj} {x : HO} (e : some x = some (CellT a o)) : ∃ φ, x = .ext φ := ⟨_, Option.some.inj e⟩
/-- known by their very objects, that are no records -/
def Kn (hp : Heap) (L : List Addr) (F : Hp) : Prop := ∀ b ∈ L, ∃ o, F b = some (CellT b o) ∧ hp.get? b = some o ∧ ∀ vs, o.data ≠ .fields vs
theorem Kn.ne {hp : Heap} {L : List Addr} {F : Hp} (k : Kn hp L F) {b : Addr} {o : HO} (e : F b = some o) (n : ∀ φ, o ≠ .ext φ) : b ∉ L := fun hb => by
  obtain ⟨u, q, _⟩ := k b hb
  rw [e] at q
  obtain ⟨φ, z⟩ := cell_ext q
  exact n φ z
theorem Kn.code {hp : Heap} {L : List Addr} {F : Hp} (k : Kn hp L F) {b : Addr} {q : Str} (e : F b = some (LamX.CodeO b q)) : b ∉ L := fun hb => by
  obtain ⟨u, q1, q2, q3⟩ := k b hb
  rw [e] at q1
  have z : (fun h : Heap => ∃ (oc : Obj) (vs : Array Value) (t : Tok), h.get? b = some oc ∧ oc.data = .fields vs ∧ vs[1]? = some (.str q t)) = fun h : Heap => h.get? b = some u := HO.ext.inj (Option.some.inj q1)
  have z2 : ∃ (oc : Obj) (vs : Array Value) (t : Tok), hp.get? b = some oc ∧ oc.data = .fields vs ∧ vs[1]? = some (.str q t) := by
    have := congrFun z hp
    rw [this]; exact q2
  obtain ⟨oc, vs, t, e1, e2, _⟩ := z2
  rw [q2] at e1
  cases e1
  exact q3 vs e2
section
variable {P : Program} {w : World} {L : List Addr} {G H : Hp} {h : Heap}
theorem hok_cut (x : HOk P w H h) (n : ∀ b ∈ L, ∀ o, H b = some o → ∃ φ, o = .ext φ) : HOk P w (cutL L H) h := fun a o e => by
  obtain ⟨_, e⟩ := cut_some e
  refine (x a o e).stay (fun _ _ _ q => q) (fun b q => ?_) fun b xs q => ?_
  · rw [cut_out fun hb => by obtain ⟨φ, z⟩ := n b hb _ q; cases z]; exact q
  · rw [cut_out fun hb => by obtain ⟨φ, z⟩ := n b hb _ q; cases z]; exact q
theorem hok_put (x : HOk P w H h) (n : ∀ b ∈ L, H b = none) (g : ∀ b ∈ L, ∃ o, G b = some (CellT b o) ∧ h.get? b = some o) : HOk P w (putL L G H) h := fun a o e => by
  by_cases ha : a ∈ L
  · rw [put_in ha] at e
    obtain ⟨u, q1, q2⟩ := g a ha
    rw [q1] at e
    cases e
    exact cellT_ok q2
  · rw [put_out ha] at e
    refine (x a o e).stay (fun _ _ _ q => q) (fun b q => ?_) fun b xs q => ?_
    · rw [put_out fun hb => by rw [n b hb] at q; cases q]; exact q
    · rw [put_out fun hb => by rw [n b hb] at q; cases q]; exact q
end
section
variable {P : Program} {w : World} {L : List Addr} {G H : Hp} {outer : List PySem.Env} {s s' : Shared} {Q : VK} {E : XK} {u : Value} {r : Result}
/-- behind a call to which more was known -/
theorem ce_less (n : ∀ b ∈ L, H b = none) (g : ∀ b ∈ L, ∃ o, G b = some (CellT b o) ∧ s.heap.get? b = some o)
    (h : CE outer P w (putL L G H) s (fun v H' => (∀ b ∈ L, H' b = G b) ∧ Q v (cutL L H')) u s') : CE outer P w H s Q u s' := by
  obtain ⟨v, H', os, bare, U, hok, rv, hL, q⟩ := h
  have ne : ∀ {b o}, H b = some o → b ∉ L := fun {b o} e hb => by rw [n b hb] at e; cases e
  have kept : ∀ b ∈ L, ∀ o, s.heap.get? b = some o → s'.heap.get? b = some o := fun b hb o e => by
    obtain ⟨o', g1, g2⟩ := g b hb
    rw [g2] at e
    cases e
    exact ext_of hok (by rw [hL b hb]; exact g1)
  refine ⟨v, cutL L H', os, bare, ⟨fun b o e hn nf nx => ?_, fun b o e hn hf nx => ?_, fun b o e hn nx => ?_, U.there, fun b xs e => ?_, fun b o xs e => ?_, fun b ps e => ?_⟩, hok_cut hok fun b hb o e => ?_, rv, q⟩
  · by_cases hb : b ∈ L
    · exact kept b hb o e
    · exact U.keep b o e (by rw [put_out hb]; exact hn) nf nx
  · by_cases hb : b ∈ L
    · exact ⟨o.slots, kept b hb o e⟩
    · exact U.slot b o e (by rw [put_out hb]; exact hn) hf nx
  · by_cases hb : b ∈ L
    · exact cut_in hb
    · rw [cut_out hb]; exact U.free b o e (by rw [put_out hb]; exact hn) nx
  · rw [cut_out (ne e)]; exact U.tups b xs (by rw [put_out (ne e)]; exact e)
  · rw [cut_out (ne e)]; exact U.frzs b o xs (by rw [put_out (ne e)]; exact e)
  · rw [cut_out (ne e)]; exact U.tbls b ps (by rw [put_out (ne e)]; exact e)
  · rw [hL b hb] at e
    obtain ⟨o', g1, g2⟩ := g b hb
    rw [g1] at e
    exact ⟨_, (Option.some.inj e).symm⟩
theorem cr_less (n : ∀ b ∈ L, H b = none) (g : ∀ b ∈ L, ∃ o, G b = some (CellT b o) ∧ s.heap.get? b = some o)
    (h : CR (L2.CX P w) outer P w (putL L G H) s (fun v H' => (∀ b ∈ L, H' b = G b) ∧ Q v (cutL L H')) (fun _ _ _ => False) r s') : CR (L2.CX P w) outer P w H s Q E r s' := by
  match r, h with
  | .ok (.ret u), h => exact ce_less n g h
  | .error e, h =>
    obtain ⟨_, _, _, _, _, _, _, _, _, _, _, _, z⟩ := h
    exact z.elim
/-- behind a call to which less was known -/
theorem cr_more (hok0 : HOk P w H s.heap) (nf : ∀ b ∈ frs outer, H b = none) (g : ∀ b ∈ L, ∃ o, H b = some (CellT b o))
    (h : CR (L2.CX P w) outer P w (cutL L H) s (fun v H' => (∀ b ∈ L, H' b = none) → Q v (putL L H H')) (fun cls d H' => (∀ b ∈ L, H' b = none) → E cls d (putL L H H')) r s') : CR (L2.CX P w) outer P w H s Q E r s' := by
  have ne : ∀ {b o}, H b = some o → (∀ φ, o ≠ .ext φ) → b ∉ L := fun {b o} e hn hb => by
    obtain ⟨u, q⟩ := g b hb
    rw [e] at q
    obtain ⟨φ, z⟩ := cell_ext q
    exact hn φ z
  have nfr : ∀ b ∈ L, b ∉ frs outer := fun b hb hf => by
    obtain ⟨u, q⟩ := g b hb
    rw [nf b hf] at q
    cases q
  have out : ∀ {b}, H b = none → b ∉ L := fun {b} e hb => by
    obtain ⟨u, q⟩ := g b hb
    rw [e] at q
    cases q
  have at0 : ∀ b ∈ L, ∃ o, H b = some (CellT b o) ∧ s.heap.get? b = some o := fun b hb => by
    obtain ⟨u, q⟩ := g b hb
    exact ⟨u, q, ext_of hok0 q⟩
  match r, h with
  | .ok (.ret u), h =>
    obtain ⟨v, H', os, bare, U, hok, rv, q⟩ := h
    have hn : ∀ b ∈ L, H' b = none := fun b hb => by
      obtain ⟨o, _, e⟩ := at0 b hb
      exact U.free b o e (cut_in hb) (by simp)
    refine ⟨v, putL L H H', os, bare, ⟨fun b o e n nf nx => U.keep b o e (cut_none n) nf nx, fun b o e n hf nx => U.slot b o e (cut_none n) hf nx, fun b o e n nx => ?_, U.there, fun b xs e => ?_, fun b o xs e => ?_, fun b ps e => ?_⟩, hok_put hok hn fun b hb => ?_, rv, q hn⟩
    · rw [put_out (out n)]; exact U.free b o e (cut_none n) nx
    · have z := ne e (fun φ q => by cases q)
      rw [put_out z]; exact U.tups b xs (by rw [cut_out z]; exact e)
    · have z := ne e (fun φ q => by cases q)
      rw [put_out z]; exact U.frzs b o xs (by rw [cut_out z]; exact e)
    · have z := ne e (fun φ q => by cases q)
      rw [put_out z]; exact U.tbls b ps (by rw [cut_out z]; exact e)
    · obtain ⟨o, e1, e2⟩ := at0 b hb
      exact ⟨o, e1, U.keep b o e2 (cut_in hb) (nfr b hb) (by simp)⟩
  | .error e, h =>
    obtain ⟨a, B, H', cls, d, e1, fly, hok, U, na, os, ag, hE⟩ := h
    have hn : ∀ b ∈ L, H' b = none := fun b hb => by
      obtain ⟨o, _, e⟩ := at0 b hb
      exact U.free b o e (cut_in hb)
    have hB : ∀ b ∈ L, ∃ o, H b = some (CellT b o) ∧ B.get? b = some o := fun b hb => by
      obtain ⟨o, e1, e2⟩ := at0 b hb
      exact ⟨o, e1, U.keep b o e2 (cut_in hb) (nfr b hb)⟩
    refine ⟨a, B, putL L H H', cls, d, e1, fly, hok_put hok hn hB, ⟨fun b o e n nf => U.keep b o e (cut_none n) nf, U.slot, fun b o e n => ?_, U.there, fun b xs e => ?_, fun b o xs e => ?_, fun b ps e => ?_⟩, ?_, os, ag, hE hn⟩
    · rw [put_out (out n)]; exact U.free b o e (cut_none n)
    · have z := ne e (fun φ q => by cases q)
      rw [put_out z]; exact U.tups b xs (by rw [cut_out z]; exact e)
    · have z := ne e (fun φ q => by cases q)
      rw [put_out z]; exact U.frzs b o xs (by rw [cut_out z]; exact e)
    · have z := ne e (fun φ q => by cases q)
      rw [put_out z]; exact U.tbls b ps (by rw [cut_out z]; exact e)
    · rw [put_out fun hb => by
        obtain ⟨o, _, e2⟩ := hB a hb
        rw [fly.2.1] at e2
        cases e2]
      exact na
end
/-! ### tidy things don't lean on closures and errors -/
section
variable {T : Tb} {R R' : Rl} (hF : ∀ (a : Addr) (o : HO), R.F a = Option.some o → (∀ φ, o ≠ .ext φ) → R'.F a = Option.some o) (hr : R'.rho = R.rho)
include hF hr
mutual
theorem DV.tidy : ∀ (d : D) (v : V), Mn.tidy d = true → DV T R d v → DV T R' d v
  | .und, _, _, h => by simp only [DV] at h
  | .non, _, _, h => by simpa only [DV] using h
  | .bl _, _, _, h => by simpa only [DV] using h
  | .int _, _, _, h => by simpa only [DV] using h
  | .str _, _, _, h => by simpa only [DV] using h
  | .lst xs, v, c, h => by
    simp only [DV] at h ⊢
    simp only [Mn.tidy] at c
    obtain ⟨a, vs, e, s, z⟩ := h
    exact ⟨a, vs, e, hF _ _ s (fun φ q => by cases q), DVs.tidy xs vs c z⟩
  | .ro xs, v, c, h => by
    simp only [DV] at h ⊢
    simp only [Mn.tidy] at c
    obtain ⟨a, vs, e, s, z⟩ := h
    refine ⟨a, vs, e, ?_, DVs.tidy xs vs c z⟩
    rcases s with (h | ⟨o, h⟩) | h
    · exact .inl (.inl (hF _ _ h (fun φ q => by cases q)))
    · exact .inl (.inr ⟨o, hF _ _ h (fun φ q => by cases q)⟩)
    · exact .inr h
  | .tup xs, v, c, h => by
    simp only [DV] at h ⊢
    simp only [Mn.tidy] at c
    obtain ⟨a, vs, e, s, z⟩ := h
    exact ⟨a, vs, e, hF _ _ s (fun φ q => by cases q), DVs.tidy xs vs c z⟩
  | .dK xs, v, c, h => by
    simp only [DV] at h ⊢
    simp only [Mn.tidy] at c
    obtain ⟨a, vs, e, s, z⟩ := h
    exact ⟨a, vs, e, hF _ _ s (fun φ q => by cases q), DVk.tidy xs vs c z⟩
  | .dT xs, v, c, h => by
    simp only [DV] at h ⊢
    simp only [Mn.tidy] at c
    obtain ⟨a, vs, e, s, z⟩ := h
    exact ⟨a, vs, e, hF _ _ s (fun φ q => by cases q), DVt.tidy xs vs c z⟩
  | .cel _, v, _, h => by
    simp only [DV] at h ⊢
    rw [hr]; exact h
  | .exc _ _, v, c, h => by simp only [Mn.tidy] at c; cases c
  | .clo _ _, v, c, h => by simp only [Mn.tidy] at c; cases c
theorem DVs.tidy : ∀ (d : List D) (v : List V), tidyL d = true → DVs T R d v → DVs T R' d v
  | [], [], _, _ => by simp only [DVs]
  | [], _ :: _, _, h => by simp only [DVs] at h
  | _ :: _, [], _, h => by simp only [DVs] at h
  | d :: ds, v :: vs, c, h => by
    simp only [DVs] at h ⊢
    simp only [tidyL, Bool.and_eq_true] at c
    exact ⟨DV.tidy d v c.1 h.1, DVs.tidy ds vs c.2 h.2⟩
theorem DVk.tidy : ∀ (d : List (Key × D)) (v : List (Key × V)), tidyK d = true → DVk T R d v → DVk T R' d v
  | [], [], _, _ => by simp only [DVk]
  | [], _ :: _, _, h => by simp only [DVk] at h
  | _ :: _, [], _, h => by simp only [DVk] at h
  | (k, d) :: ds, (l, v) :: vs, c, h => by
    simp only [DVk] at h ⊢
    simp only [tidyK, Bool.and_eq_true] at c
    exact ⟨h.1, DV.tidy d v c.1 h.2.1, DVk.tidy ds vs c.2 h.2.2⟩
theorem DVt.tidy : ∀ (d : List (List Key × D)) (v : List (List Key × V)), tidyT d = true → DVt T R d v → DVt T R' d v
  | [], [], _, _ => by simp only [DVt]
  | [], _ :: _, _, h => by simp only [DVt] at h
  | _ :: _, [], _, h => by simp only [DVt] at h
  | (k, d) :: ds, (l, v) :: vs, c, h => by
    simp only [DVt] at h ⊢
    simp only [tidyT, Bool.and_eq_true] at c
    exact ⟨h.1, DV.tidy d v c.1 h.2.1, DVt.tidy ds vs c.2 h.2.2⟩
end
theorem DVE.tidy : ∀ {d : List D} {v : List (Option V)}, tidyL d = true → DVE T R d v → DVE T R' d v
  | [], [], _, _ => by simp only [DVE]
  | [], _ :: _, _, h => by simp only [DVE] at h
  | _ :: _, [], _, h => by simp only [DVE] at h
  | d :: ds, v :: vs, c, h => by
    simp only [DVE] at h ⊢
    simp only [tidyL, Bool.and_eq_true] at c
    refine ⟨?_, DVE.tidy c.2 h.2⟩
    rcases h.1 with z | ⟨w, e, z⟩
    · exact .inl z
    · exact .inr ⟨w, e, DV.tidy hF hr d w c.1 z⟩
theorem DVf.tidy : ∀ {d : List (Nat × D)} {v : List (Str × V)}, tidyL (d.map (·.2)) = true → DVf T R d v → DVf T R' d v
  | [], [], _, _ => trivial
  | [], _ :: _, _, h => h
  | _ :: _, [], _, h => h
  | (k, d) :: ds, (j, v) :: vs, c, h => by
    simp only [List.map_cons, tidyL, Bool.and_eq_true] at c
    exact ⟨h.1, DV.tidy hF hr d v c.1 h.2.1, DVf.tidy c.2 h.2.2⟩
theorem ObR.tidy {ob : Ob} {o : Option HO} (c : ob.tidy = true) (h : ObR T R ob o) : ObR T R' ob o := by
  cases ob with
  | lst ds => obtain ⟨vs, e, z⟩ := h; exact ⟨vs, e, DVs.tidy hF hr _ _ c z⟩
  | dK ds => obtain ⟨vs, e, z⟩ := h; exact ⟨vs, e, DVk.tidy hF hr _ _ c z⟩
  | dT ds => obtain ⟨vs, e, z⟩ := h; exact ⟨vs, e, DVt.tidy hF hr _ _ c z⟩
  | ins k fs => obtain ⟨C, dx, gs, e, e1, z⟩ := h; exact ⟨C, dx, gs, e, e1, DVf.tidy hF hr c z⟩
  | dead => exact h
end
section
variable {T : Tb} {R : Rl} {h : Hh} {H : Hp} {hp : Heap} {L : List Addr}
/-- less known -/
theorem RelH.cut (r : RelH T R h H) (k : Kn hp L R.F) (t : h.all Ob.tidy = true) : RelH T { R with F := cutL L R.F } h (cutL L H) := by
  have hF : ∀ a o, R.F a = some o → (∀ φ, o ≠ .ext φ) → cutL L R.F a = some o := fun a o e n => by rw [cut_out (k.ne e n)]; exact e
  have kH : Kn hp L H := fun b hb => by
    obtain ⟨o, e1, e2⟩ := k b hb
    exact ⟨o, r.fz _ _ e1, e2⟩
  refine ⟨fun a o e => ?_, fun a o e => ?_, fun a o e => cut_none (r.dj a o e), r.len, fun c ob a h1 h2 => ?_, r.nd, r.px, fun a ps e => r.nt a ps (cut_some e).2, fun p hp => ?_⟩
  · obtain ⟨n, e⟩ := cut_some e
    rw [cut_out n]; exact r.fz _ _ e
  · have e : R.P a = some o := e
    rw [cut_out fun ha => by
      obtain ⟨u, q, _⟩ := k a ha
      rw [r.dj a o e] at q
      cases q]
    exact r.pv _ _ e
  · obtain ⟨f1, f2, z⟩ := r.live c ob a h1 h2
    have na : a ∉ L := fun ha => by
      obtain ⟨u, q, _⟩ := k a ha
      rw [f1] at q
      cases q
    refine ⟨cut_none f1, f2, ?_⟩
    rw [cut_out na]
    exact ObR.tidy (R' := { R with F := cutL L R.F }) hF rfl (List.all_eq_true.mp t ob (List.mem_of_getElem? h1)) z
  · obtain ⟨ps, h1, h2, h3⟩ := r.tb p hp
    refine ⟨ps, ?_, h2, fun pos cv hc => ?_⟩
    · rw [cut_out (kH.ne h1 fun φ q => by cases q)]; exact h1
    · obtain ⟨c, e1, e2⟩ := h3 pos cv hc
      exact ⟨c, e1, by rw [cut_out (kH.code e2)]; exact e2⟩
theorem Rle.cutL (R : Rl) {R2 : Rl} (l : Rle R R2) (n : ∀ b ∈ L, R.F b = none) : Rle R { R2 with F := Mn.cutL L R2.F } := ⟨fun a o e => by
  show Mn.cutL L R2.F a = some o
  rw [cut_out fun ha => by rw [n a ha] at e; cases e]
  exact l.F a o e, l.rho, l.P, l.pn⟩
/-- what was known before is known again -/
theorem RelH.put {R' : Rl} {h' : Hh} {H' : Hp} (r : RelH T R h H) (k : Kn hp L R.F) (l : Rle { R with F := cutL L R.F } R') (r' : RelH T R' h' H') (n : ∀ b ∈ L, H' b = none) :
    RelH T { R' with F := putL L R.F R'.F } h' (putL L H H') ∧ Rle R { R' with F := putL L R.F R'.F } ∧ Rle R' { R' with F := putL L R.F R'.F } := by
  have out : ∀ {a o}, H' a = some o → a ∉ L := fun {a o} e ha => by rw [n a ha] at e; cases e
  have l2 : Rle R' { R' with F := putL L R.F R'.F } := ⟨fun a o e => by
    show putL L R.F R'.F a = some o
    rw [put_out (out (r'.fz _ _ e))]; exact e, fun _ _ q => q, rfl, rfl⟩
  refine ⟨⟨fun a o e => ?_, fun a o e => ?_, fun a o e => ?_, r'.len, fun c ob a h1 h2 => ?_, r'.nd, r'.px, fun a ps e => ?_, fun p hp => ?_⟩, ⟨fun a o e => ?_, l.rho, l.P, l.pn⟩, l2⟩
  · have e : putL L R.F R'.F a = some o := e
    by_cases ha : a ∈ L
    · rw [put_in ha] at e ⊢; exact r.fz _ _ e
    · rw [put_out ha] at e ⊢; exact r'.fz _ _ e
  · rw [put_out (out (r'.pv _ _ e))]; exact r'.pv _ _ e
  · show putL L R.F R'.F a = none
    rw [put_out (out (r'.pv _ _ e))]; exact r'.dj _ _ e
  · obtain ⟨f1, f2, z⟩ := r'.live c ob a h1 h2
    obtain ⟨x, ex⟩ := z.some
    have na := out ex
    refine ⟨?_, f2, ?_⟩
    · show putL L R.F R'.F a = none
      rw [put_out na]; exact f1
    · rw [put_out na]; exact z.mono l2
  · have e : putL L R.F R'.F a = some (.tbl ps) := e
    by_cases ha : a ∈ L
    · rw [put_in ha] at e; exact r.nt a ps e
    · rw [put_out ha] at e; exact r'.nt a ps e
  · exact (r'.tb p hp).ext fun b o e => by rw [put_out (out e)]; exact e
  · show putL L R.F R'.F a = some o
    by_cases ha : a ∈ L
    · rw [put_in ha]; exact e
    · rw [put_out ha]; exact l.F a o (by show cutL L R.F a = some o; rw [cut_out ha]; exact e)
theorem ExcR.mono {R' : Rl} {c : Nat} {p : D} {cls : Value} {d : Option Addr} (l : Rle R R') (x : ExcR T R c p cls d) : ExcR T R' c p cls d := by
  obtain ⟨C, e1, e2, z⟩ := x
  refine ⟨C, e1, e2, ?_⟩
  rcases z with z | ⟨dx, pv, q1, q2, q3⟩
  · exact .inl z
  · exact .inr ⟨dx, pv, q1, l.F _ _ q2, q3.mono l⟩
end
/-! ### cells' addresses -/
def cellsOf (cl : List (Str × Addr)) : List Addr := cl.filterMap fun p => cl.lookup p.1
theorem cellsOf_in {cl : List (Str × Addr)} {x : Str} {c : Addr} (h : cl.lookup x = some c) : c ∈ cellsOf cl := List.mem_filterMap.mpr ⟨(x, c), PySem.mem_of_lookup h, h⟩
theorem cellsOf_of {cl : List (Str × Addr)} {c : Addr} (h : c ∈ cellsOf cl) : ∃ x, cl.lookup x = some c := by
  obtain ⟨p, _, e⟩ := List.mem_filterMap.mp h
  exact ⟨p.1, e⟩
section
variable {T : Tb} {G : Glb} {k : Nat} {c : Ck} {X : Cx} {W : WX} {i : Nat} {x : Str} {p pos : Pos}
/-- x() -/
theorem s_act (g : Good T G k c X) (tk : Takes X W) (hi : c.N[i]? = some x) (hv : Vis X.env.scope x) (hn : okN x = true) : PE X (.Call (.Name x p) [] [] pos) (LE T W (ev G (.act i))) := by
  refine ⟨fun pins s σ H Q I ⟨R, e, h, r, env, q⟩ => ?_⟩
  rw [ev] at q
  cases ei : e[i]? with
  | none => rw [ei] at q; exact absurd q id
  | some d =>
  rw [ei] at q
  cases d with
  | clo b cs =>
    simp only at q
    split at q
    · rename_i ht
      rw [Bool.and_eq_true] at ht
      obtain ⟨v, ev, dv⟩ := env.get ei (fun z => by cases z)
      simp only [DV] at dv
      obtain ⟨f, J, c', cl, ws, rfl, hJ, ⟨pm, ctv, ef⟩, ec, dE, ck⟩ := dv
      refine wpAny_Call_Name_kw (thn ((pe_var (pos := p) (i := i) (by rw [g.N]; exact hi) hv (okN_of hn).1 (okN_of hn).2).run pins s σ H (fun v H1 => v = .ref f ∧ H1 = H) I ⟨.ref f, ev, rfl, rfl⟩) fun u s1 ⟨v, H1, I1, r1, q1⟩ => ?_)
      obtain ⟨rfl, rfl⟩ := q1
      obtain rfl : u = Value.ref f := r1
      have of1 : s1.heap.get? f = some (lamO J c' cl pm ctv) := ext_of I1.hok (r.fz _ _ ef)
      refine PySem.W.callWith_F0 ⟨_, _, _, _, of1⟩ ?_
      obtain ⟨⟨oc, vs, t, hoc, hdc, hvc⟩, _, _⟩ := I1.hok c' _ (r.fz _ _ ec)
      have kn : Kn s1.heap (cellsOf cl) R.F := fun b hb => by
        obtain ⟨y, hy⟩ := cellsOf_of hb
        obtain ⟨o, w, e1, e2⟩ := ck.cel y b hy
        exact ⟨o, e1, ext_of I1.hok (r.fz _ _ e1), fun vs z => by rw [e2] at z; cases z⟩
      have gL : ∀ b ∈ cellsOf cl, ∃ o, H1 b = some (CellT b o) := fun b hb => by
        obtain ⟨o, e1, _⟩ := kn b hb
        exact ⟨o, r.fz _ _ e1⟩
      have e0 := I1.env0
      have e1 : Env0 X.prog X.w X.K X.mg X.base X.A X.stack s1 (cutL (cellsOf cl) H1) := ⟨e0.frames, e0.mod, fun b o e => ⟨(e0.bs b o e).1, cut_none (e0.bs b o e).2⟩, e0.bsz, e0.funs, fun b hb => cut_none (e0.frf b hb), hok_cut e0.hok fun b hb o e => by
        obtain ⟨u, z⟩ := gL b hb
        rw [e] at z
        exact cell_ext z, e0.bare⟩
      have clh : CloH s1.heap (cutL (cellsOf cl) H1) J cl ws := ⟨ck.len, fun y b hy => ⟨cut_in (cellsOf_in hy), by
          obtain ⟨o, w, e1, e2⟩ := ck.cel y b hy
          exact ⟨w, o, ext_of I1.hok (r.fz _ _ e1), e2⟩⟩, ck.inj, ck.has, fun j y w h1 h2 h3 => by
          obtain ⟨b, o, u, q1, q2, q3, q4⟩ := ck.val j y w h1 h2 h3
          exact ⟨b, u, q1, ⟨o, ext_of I1.hok (r.fz _ _ q2), q3⟩, q4⟩⟩
      have hF : ∀ a o, R.F a = some o → (∀ φ, o ≠ .ext φ) → cutL (cellsOf cl) R.F a = some o := fun a o e n => by rw [cut_out (kn.ne e n)]; exact e
      have run := (g.lamE b J hJ).run X.A X.stack s1 (cutL (cellsOf cl) H1) f c' cl pm ctv ws
        (fun v H' => (∀ b ∈ cellsOf cl, H' b = none) → Q v (putL (cellsOf cl) H1 H')) (fun cls d H' => (∀ b ∈ cellsOf cl, H' b = none) → W cls d σ (putL (cellsOf cl) H1 H')) g.grd g.room e1 of1 ⟨c', oc, vs, t, rfl, hoc, hdc, hvc⟩ clh
        ⟨{ R with F := cutL (cellsOf cl) R.F }, cs, h, r.cut kn ht.2, DVE.tidy (R' := { R with F := cutL (cellsOf cl) R.F }) hF rfl ht.1 dE, by
          cases z : G.lam b cs h with
          | ok d h' =>
            rw [z] at q
            intro R' v H' l r' dv hn
            obtain ⟨z1, z2, z3⟩ := r.put kn l r' hn
            exact q _ _ _ z2 z1 (dv.mono z3)
          | exc cc w h' =>
            rw [z] at q
            intro R' cls dx H' l r' ex hn
            obtain ⟨z1, z2, z3⟩ := r.put kn l r' hn
            exact q _ _ _ _ z2 z1 (ex.mono z3)
          | stk => rw [z] at q; exact absurd q id⟩
      refine wpAny_call (codeAny_mono run fun r0 s' hq => ?_)
      have hq := cr_more (Q := Q) (E := fun cls d H => W cls d σ H) e0.hok e0.frf gL hq
      match r0, hq with
      | .error e, hq => exact passAt tk σ pins H1 s1 e s' I1 hq
      | .ok (.ret u), hq => exact I1.after hq
      | .ok .next, hq => exact hq.elim
      | .ok .brk, hq => exact hq.elim
      | .ok .cont, hq => exact hq.elim
    · exact absurd q id
  | _ => exact absurd q id
end
end Mn
/-! # Rules for errors kept, keywords, try, lambdas handed on -/
namespace Mn
open PySem L2 PyProof.Rows
section
variable {T : Tb} {G : Glb} {k : Nat} {c : Ck} {X : Cx} {W : WX} {a b : PySem.Expr} {ma : List D → Hh → Res D} {pos p : Pos}
theorem exc_rd {R : Rl} {ci : Nat} {q : D} {v : V} (dv : DV T R (.exc ci q) v) (hq : q ≠ .und) : ∃ a C dx pv, v = .ref a ∧ T.cls ci = some C ∧ R.F a = some (ExT (.ref C) (some dx) a) ∧ R.F dx = some (.xd [(valN, pv)]) ∧ DV T R q pv := by
  simp only [DV] at dv
  obtain ⟨a, C, d, e, ec, ea, z⟩ := dv
  rcases z with ⟨z, _⟩ | ⟨dx, pv, e1, e2, e3⟩
  · exact absurd z hq
  · subst e1
    exact ⟨a, C, dx, pv, e, ec, ea, e2, e3⟩
/-- e.value -/
def xvalM (sub : Nat → Nat → Bool) (ma : List D → Hh → Res D) : List D → Hh → Res D := fun e h => (ma e h).bind fun d h => match d with | .exc c p => (if sub c c then (match p with | .und => .stk | p => .ok p h) else .stk) | _ => .stk
theorem s_xval (g : Good T G k c X) (hc : noCl a = true) (ha : PE X a (LE T W ma)) : PE X (.Attribute a valN pos) (LE T W (xvalM G.sub ma)) := by
  refine PE.weak (pe_kx ha (attr_of hc _ _ _)) fun σ H Q ⟨R, e, h, r, env, p⟩ => ?_
  refine ⟨R, e, h, r, env, PostG.bind p fun R1 x v h1 H1 l1 r1 d1 p1 => ?_⟩
  cases x with
  | exc ci q =>
    simp only at p1
    split at p1
    · rename_i hs
      have nq : q ≠ .und := fun z => by subst z; exact absurd p1 id
      obtain ⟨ad, C, dx, pv, rfl, hT, e1, e2, e3⟩ := exc_rd d1 nq
      obtain ⟨x1, x2, _⟩ := g.xc ci C hs hT
      have p2 : Post T W R1 σ (.ok q h1) Q := by
        cases q <;> first | exact absurd rfl nq | exact p1
      exact ⟨ad, C, dx, _, pv, rfl, x1, x2, r1.fz _ _ e1, r1.fz _ _ e2, rfl, p2.val r1 e3⟩
    · exact absurd p1 id
  | _ => exact absurd p1 id
/-- isinstance(e, X) -/
theorem s_isx (g : Good T G k c X) {ci : Nat} {lv : Bool} {x y : Str} {q : Pos} (hx : x = "isinstance") (hb : bltB c x = true) (ht : tame a = true) (ha : PE X a (LE T W ma)) (hy : (ci, y) ∈ c.xcl) (hg2 : glB c.sc y = true) (hn2 : okN y = true) :
    PE X (.Call (.Name x p) [a, .Name y q] [] pos) (LE T W fun e h => (ma e h).bind fun d h => bfn G.sub lv (.isexc ci) [d] h) := by
  unfold bltB at hb
  rw [Bool.and_eq_true] at hb
  have hg := g.gl hb.1
  have hm := g.blt x (List.contains_iff_mem.mp hb.2)
  subst hx
  obtain ⟨Cj, hj⟩ := g.xm ci y hy
  have tb := pe_glob (X := X) (pos := q) (v := .ref Cj) (g.gl hg2) hj rfl (okN_of hn2).1
  refine PE.weak (pe_callB call_isX hg hm (by decide +kernel) (pa_cons ha (pa_cons tb pa_nil (star_of (e := .Name y q) rfl _ _)) (star_of ht _ _)) (by decide) (by decide) (star_of ht _ _) (plain_of (es := [.Name y q]) (by rfl) _ _)) fun σ H Q ⟨R, e, h, r, env, p⟩ => ?_
  refine ⟨R, e, h, r, env, PostG.bind p fun R1 x v h1 H1 l1 r1 d1 p1 => ?_⟩
  cases x with
  | exc ck q =>
    have nq : q ≠ .und := fun z => by subst z; exact absurd p1 id
    obtain ⟨ad, C, dx, pv, rfl, hT, e1, e2, e3⟩ := exc_rd d1 nq
    have p2 : Post T W R1 σ (if G.sub ck ck then .ok (.bl (G.sub ck ci)) h1 else .stk) Q := by
      cases q <;> first | exact absurd rfl nq | exact p1
    split at p2
    · rename_i hs
      obtain ⟨_, _, x3, x4⟩ := g.xc ck C hs hT
      exact ⟨ad, C, dx, _, .ref Cj, .ref Cj, G.sub ck ci, rfl, fun u hu => hu, x3, r1.fz _ _ e1, r1.fz _ _ e2, (x4 ci y Cj hy hj).1, p2.val r1 (bl_dv _)⟩
    · exact absurd p2 id
  | _ => exact absurd p1 id
end
/-! ### keywords -/
section
variable {T : Tb} {G : Glb} {k : Nat} {c : Ck} {X : Cx} {W : WX} {pos p kp : Pos} {a : PySem.Expr} {ma : List D → Hh → Res D} {ms : List D → Hh → Res (List D)} {kws : List Keyword} {nm : Option Str}
theorem PK.weak {t t' : TA} (h : PK X kws t) (w : ∀ σ H Q, t' σ H Q → t σ H Q) : PK X kws t' := ⟨fun pos pins s σ H Q I hq => h.run pos pins s σ H Q I (w σ H Q hq)⟩
theorem sk_nil : PK X [] (LA T W fun _ h => .ok [] h) := by
  refine PK.weak pk_nil fun σ H Q ⟨R, e, h, r, env, p⟩ => ?_
  exact PostG.val p r (by simp only [DVs])
theorem sk_cons (ha : PE X a (LE T W ma)) (hr : PK X kws (LA T W ms)) : PK X (⟨nm, a, kp⟩ :: kws) (LA T W fun e h => (ma e h).bind fun d h => (ms e h).bind fun ds h => .ok (d :: ds) h) := by
  refine PK.weak (pk_cons ha hr) fun σ H Q ⟨R, e, h, r, env, p⟩ => ?_
  refine ⟨R, e, h, r, env, PostG.bind p fun R1 x v h1 H1 l1 r1 d1 p1 => ?_⟩
  refine ⟨R1, e, h1, r1, env.mono l1, PostG.bind p1 fun R2 y w h2 H2 l2 r2 d2 p2 => ?_⟩
  exact PostG.val p2 r2 (by simp only [DVs]; exact ⟨d1.mono l2, d2⟩)
theorem kw_names (pos : Pos) (env : PySem.Env) : ∀ {kws : List Keyword} {ks : List Str} {ys : List PySem.Expr}, gKw kws = some (ks, ys) →
    (backToKw pos (keywordEach kws env)).all (·.1.isSome) = true ∧ (backToKw pos (keywordEach kws env)).filterMap (·.1) = ks ∧ (backToKw pos (keywordEach kws env)).any (·.1.isNone) = false ∧ ks.length = ys.length
  | [], _, _, h => by cases h; exact ⟨rfl, rfl, rfl, rfl⟩
  | ⟨none, _, _⟩ :: _, _, _, h => by cases h
  | ⟨some n, e, q⟩ :: r, ks, ys, h => by
    unfold gKw at h
    split at h
    · rename_i ks' es' hr
      cases h
      obtain ⟨h1, h2, h3, h4⟩ := kw_names pos env hr
      unfold backToKw at h1 h2 h3
      unfold backToKw
      simp only [keywordEach, List.map_cons, List.all_cons, List.any_cons, List.filterMap_cons, Option.isSome_some, Option.isNone_some, Bool.true_and, Bool.false_or, List.length_cons, h4, and_true]
      exact ⟨h1, by rw [h2], h3⟩
    · cases h
theorem vals_get : ∀ {zs : List V} {ws : List Value} {i : Nat} {v : V} {u : Value}, Vals zs ws → zs[i]? = some v → ws[i]? = some u → RelV v u
  | _, _, i, v, u, .nil, h, _ => by simp at h
  | _, _, 0, v, u, .cons r t, h, g => by simp at h g; subst h g; exact r
  | _, _, i + 1, v, u, .cons r t, h, g => vals_get t (by simpa using h) (by simpa using g)
theorem perm_rel {R : Rl} {ds : List D} {zs : List V} {ws : List Value} (dv : DVs T R ds zs) (rv : Vals zs ws) : ∀ {pm : List Nat} {ds' : List D} {us : List Value}, pm.mapM (fun i => ds[i]?) = some ds' → pm.mapM (fun i => ws[i]?) = some us → ∃ vs, DVs T R ds' vs ∧ Vals vs us
  | [], _, _, h1, h2 => by
    simp at h1 h2
    subst h1 h2
    exact ⟨[], by simp only [DVs], .nil⟩
  | i :: pm, ds', us, h1, h2 => by
    simp only [List.mapM_cons, Option.bind_eq_bind, Option.bind_eq_some_iff] at h1 h2
    obtain ⟨d, e1, dr, e2, e3⟩ := h1
    obtain ⟨u, f1, ur, f2, f3⟩ := h2
    cases e3
    cases f3
    obtain ⟨vs, i1, i2⟩ := perm_rel dv rv e2 f2
    obtain ⟨v, g1, g2⟩ := dv.get e1
    have : RelV v u := vals_get rv g1 f1
    exact ⟨v :: vs, by simp only [DVs]; exact ⟨g2, i1⟩, .cons this i2⟩
theorem s_callp (g : Good T G k c X) (tk : Takes X W) {f : Nat} {pm : List Nat} {x : Str} {ks : List Str} {ys : List PySem.Expr} (hf : c.fns[f]? = some x) (hg : Gl X x) (hn : okN x = true) (hk : gKw kws = some (ks, ys)) (hp : (f, ks, pm) ∈ c.kws) (h : PK X kws (LA T W ms))
    (hlen : ∀ ds e h h', ms e h = .ok ds h' → ds.length = ys.length) :
    PE X (.Call (.Name x p) [] kws pos) (LE T W fun e h => (ms e h).bind fun ds h => match permD pm ds with | some ds => G.call f ds h | none => .stk) := by
  obtain ⟨ad, fd, ps, hm, hkp, hb, F, ar, kb⟩ := g.fns f x hf
  refine ⟨fun pins s σ H Q I ⟨R, e, h0, r, env, q⟩ => ?_⟩
  simp only at q
  refine wpAny_Call_Name_kw (ld_glob I hg hm ?_ (okN_of hn).1)
  obtain ⟨n1, n2, n3, n4⟩ := kw_names pos X.env hk
  refine PySem.W.callWith_KW0 (h₀ := X.base) I.ok.mod.kin hkp n1 ?_ (by rw [n3]; rfl)
  cases q1 : ms e h0 with
  | stk => rw [q1] at q; exact absurd q id
  | exc cc w h1 =>
    rw [q1] at q
    refine wpAny_mono (h.run pos pins s σ H (fun _ _ => False) I ⟨R, e, h0, r, env, by rw [q1]; exact q⟩) (fun us s1 ⟨_, _, _, _, z⟩ => z.elim) fun _ _ z => z
  | ok ds h1 =>
    rw [q1, bind_ok] at q
    have hl := hlen _ _ _ _ q1
    refine thn (h.run pos pins s σ H (fun zs H1 => ∃ R1, Rle R R1 ∧ RelH T R1 h1 H1 ∧ DVs T R1 ds zs) I ⟨R, e, h0, r, env, by rw [q1]; exact fun R1 zs H1 l1 r1 d1 => ⟨R1, l1, r1, d1⟩⟩) fun ws s1 ⟨zs, H1, I1, rv, R1, l1, r1, d1⟩ => ⟨I1.kIn, ?_⟩
    rw [n2]
    have hwl : ws.length = ks.length := by rw [n4, ← hl, d1.length, rv.length]
    obtain ⟨us, m1, m2⟩ := kb ks pm hp ws hwl
    unfold permD at q
    split at q
    · rename_i dd e1
      split at e1
      · obtain ⟨vs, g1, g2⟩ := perm_rel d1 rv e1 m1
        have hv : vs.length = ps.length := by
          rw [← g1.length]
          exact ar dd h1 fun z => by rw [z] at q; exact q
        refine wpAny_call (codeAny_mono (F.run X.A X.stack s1 H1 ⟨[], ks.zip ws⟩ us vs Q (fun cls d H => W cls d σ H) g.grd g.room I1.env0 (m2 s1 I1.kIn) g2 ⟨hv, R1, dd, h1, r1, g1, PostG.mono l1 q⟩) fun r s' hq => ?_)
        match r, hq with
        | .error e, hq => exact passAt tk σ pins H1 s1 e s' I1 hq
        | .ok (.ret u), hq => exact I1.after hq
        | .ok .next, hq => exact hq.elim
        | .ok .brk, hq => exact hq.elim
        | .ok .cont, hq => exact hq.elim
      · cases e1
    · exact absurd q id
end
/-! ### try -/
section
variable {T : Tb} {G : Glb} {k : Nat} {c : Ck} {X : Cx} {W : WX}
theorem Good.tr (g : Good T G k c X) (pn : List (Addr × Obj)) (xe : Value → Shared → Prop) : Good T G k c (X.tr pn xe) :=
  ⟨g.K, g.N, g.nd, g.sc, g.fn0, g.fn1, g.calm, g.room, g.grd, g.blt, g.con, g.k2, g.exs, g.fns, g.stm, g.xm, g.xc, g.lamI, g.lamE, g.mkr⟩
def triM (sub : Nat → Nat → Bool) (ci i j : Nat) (m : List D → Hh → SRes) : List D → Hh → SRes := fun e h => match m e h with
  | .exc c' p e' h' => if sub c' c' && sub c' ci then (if i < e'.length then .ok .nx (((e'.set i (.exc c' p)).set j (.exc c' p)).set i .und) h' else .stk) else .stk
  | r => r
theorem exT_nt {cls : Value} {d : Option Addr} {a : Addr} : ∀ ps, ExT cls d a ≠ .tbl ps := fun _ z => by unfold ExT at z; cases z
theorem s_tri {ci i j : Nat} {x n y : Str} {np p1 p2 p3 pos pos' : Pos} {body : List Stmt} {m : List D → Hh → SRes} (g : Good T G k c X) (hc : c.fnl = none) (hx : (ci, x) ∈ c.xcl) (hgx : Gl X x) (hnx : okN x = true) (hi : c.N[i]? = some n) (hli : c.sc.names.lookup n = some .local) (hj : c.N[j]? = some y) (hlj : c.sc.names.lookup y = some .local) (hij : i ≠ j) (hnn : okN n = true)
    (hb : ∀ (W : WX) (pn : List (Addr × Obj)) (xe : Value → Shared → Prop), Takes (X.tr pn xe) W → PassesOwn (model X.prog X.w) X.A X.env xe → PSs (X.tr pn xe) body (LS T W m)) :
    PS X (.Try body [.ExceptHandler (some (.Name x np)) (some n) [.Assign [.Name y p1] (.Name n p2) p3] pos'] [] [] pos) (LS T W (triM G.sub ci i j m)) := by
  obtain ⟨st1, st2, st3⟩ := g.stm hc
  obtain ⟨Cj, hCj⟩ := g.xm ci x hx
  refine PS.weak (ps_try_keep st1 st2 st3 (by rw [g.N]; exact g.nd) (by rw [g.N]; exact hi) (by show X.env.scope.names.lookup n = _; rw [g.sc]; exact hli) (by rw [g.N]; exact hj) (by show X.env.scope.names.lookup y = _; rw [g.sc]; exact hlj) hij (okN_of hnn).1 (okN_of hnn).2 ⟨hgx, (okN_of hnx).1, .inl hCj⟩ hb) fun D' σ H ⟨R, e, h, r, env, q⟩ => ?_
  refine ⟨R, e, h, r, env, ?_⟩
  unfold triM at q
  cases z : m e h with
  | stk => rw [z] at q; exact absurd q id
  | ok f e1 h1 =>
    rw [z] at q
    cases f <;> exact q
  | exc c' pd e1 h1 =>
    rw [z] at q
    simp only at q
    split at q
    · rename_i hs
      rw [Bool.and_eq_true] at hs
      split at q
      · rename_i hlt
        intro R1 cls dx σ1 H1 l1 r1 ex env1
        obtain ⟨C, hT, rfl, hz⟩ := ex
        obtain ⟨_, _, _, x4⟩ := g.xc c' C hs.1 hT
        have e4 := (x4 ci x Cj hx hCj).2
        rw [hs.2] at e4
        refine ⟨e4, fun a ha => ?_⟩
        obtain ⟨r2, l2⟩ := r1.laid (o := ExT (.ref C) dx a) ha exT_nt
        have dv : DV T { R1 with F := upd R1.F a (ExT (.ref C) dx a) } (.exc c' pd) (.ref a) := by
          simp only [DV]
          refine ⟨a, C, dx, rfl, hT, ?_, ?_⟩
          · show upd R1.F a _ a = _
            rw [upd_same]
          · rcases hz with hz | ⟨dx', pv, q1, q2, q3⟩
            · exact .inl hz
            · exact .inr ⟨dx', pv, q1, l2.F _ _ q2, q3.mono l2⟩
        exact q _ _ _ (l1.trans l2) r2 ((((env1.mono l2).set i dv).set j dv).forget i none)
      · exact absurd q id
    · exact absurd q id
end
end Mn
/-! # Lambdas made and handed on -/
namespace Mn
open PySem L2 PyProof.Rows
section
variable {X : Cx} {pins : List (Addr × Obj)} {σ : L2.St} {H : Hp} {s : Shared}
/-- the function object is new -/
theorem lam_new {tabs : List (Addr × Str)} {cd Pt : Addr} {pr : Arguments} {bd : PySem.Expr} {sc : Scope} {lp : Pos} {E : Value → Shared → Prop} {Q : Value → Shared → Prop} (I : Inv X pins σ H s) (B : LamX.TabB X.base X.mg cd Pt) (hc : X.env.code = .ref cd)
    (mem : (Pt, X.env.qual ++ "<lambda>") ∈ tabs) (only : ∀ p ∈ tabs, p.1 = Pt → p.2 = X.env.qual ++ "<lambda>") (tb : LamX.Tabs tabs H) (dfl : defaultsOf pr X.env = ([], [])) (fr : ∀ y ∈ sc.names, y.2 = .free → ∃ c, X.env.cells.lookup y.1 = some c)
    (k : ∀ (f c' : Addr) (pm ctv : Value) (H1 : Hp) (s1 : Shared), Inv X pins σ H1 s1 → LamX.ExtN H H1 → LamX.Tabs tabs H1 →
      s1.heap.get? f = some (PySem.W.kla_obj "<lambda>" (X.env.qual ++ "<lambda>") pr bd sc (cloFrom X.env.cells sc.names []) pm c' ctv) → s.heap.objs.size ≤ f → H1 f = none → H1 c' = some (LamX.CodeO c' (X.env.qual ++ "<lambda>")) → Q (.ref f) s1) :
    wpAny (model X.prog X.w) X.A (eval (.Lambda pr bd sc lp) X.env) Q E s := by
  obtain ⟨rows, eP, tr, among⟩ := tb _ mem
  have gP : s.heap.get? Pt = some (PySem.W.tabObj rows) := I.hok Pt _ eP
  have bP := B.bm.keeps I.bk
  have glo := I.mod.glob.keeps I.bk
  have cH := B.code.keeps I.bk
  apply PySem.W.kla_eval dfl
  cases hq : codeAmong lp rows.toList with
  | some cv =>
    obtain ⟨c', rfl, hco⟩ := among lp cv hq
    refine PySem.W.kla_makeFunctionHit (closure_ok fr) I.ok.glob glo hc cH gP tr hq bP fun ctv h' tk kp sz => ?_
    exact k h'.objs.size c' _ ctv H _ (I.kept fun b o e => Heap.get?_push_of_some _ (kp b o e)) (LamX.ExtN.refl H) tb (Heap.get?_push_size _ rfl) sz (I.hok.fresh sz) hco
  | none =>
    refine PySem.W.kla_makeFunction (closure_ok fr) I.ok.glob glo hc cH gP tr hq B.gP bP fun c' ctv h' tk kp ge lt rec tb' => ?_
    obtain ⟨c2, oc, vs, t, e2, hoc, hd, hv⟩ := rec
    cases e2
    have sz : s.heap.objs.size ≤ h'.objs.size := Nat.le_trans ge (Nat.le_of_lt lt)
    have nw : H c' = none := I.hok.fresh ge
    have J := LamX.inv_table (t' := tk) (more := #[rawInt lp.line, rawInt lp.col, .ref c']) (h' := h'.push (PySem.W.kla_obj "<lambda>" (X.env.qual ++ "<lambda>") pr bd sc (cloFrom X.env.cells sc.names []) ((X.mg "__name__").getD .none) c' ctv)) I eP
      (fun b o n e => Heap.get?_push_of_some _ (kp b o n e)) (Heap.get?_push_of_some _ tb') ge ⟨oc, vs, t, Heap.get?_push_of_some _ hoc, hd, hv⟩
    generalize hH1 : upd (upd H Pt (.tbl (rows ++ #[rawInt lp.line, rawInt lp.col, .ref c']))) c' (LamX.CodeO c' (X.env.qual ++ "<lambda>")) = H1 at J
    have at1 : ∀ b o, H b = some o → b ≠ Pt → H1 b = some o := fun b o e n => by
      subst hH1; rw [upd_ne (ne_of_none e nw), upd_ne n]; exact e
    have atP : H1 Pt = some (.tbl (rows ++ #[rawInt lp.line, rawInt lp.col, .ref c'])) := by
      subst hH1; rw [upd_ne (ne_of_none eP nw), upd_same]
    have atc : H1 c' = some (LamX.CodeO c' (X.env.qual ++ "<lambda>")) := by subst hH1; rw [upd_same]
    have ex : LamX.ExtN H H1 := fun b o e n => at1 b o e fun z => n rows (Option.some.inj (e.symm.trans (by rw [z]; exact eP)))
    refine k h'.objs.size c' _ ctv H1 _ J ex (fun p hp => ?_) (Heap.get?_push_size _ rfl) sz ?_ atc
    · by_cases hb : p.1 = Pt
      · rw [only p hp hb, hb]
        have eL : (rows ++ #[rawInt lp.line, rawInt lp.col, .ref c']).toList = rows.toList ++ [rawInt lp.line, rawInt lp.col, .ref c'] := by simp
        refine ⟨_, atP, by rw [eL]; exact PySem.TriplesOk_snoc _ _ _ _ tr, fun p' cv e => ?_⟩
        rw [eL] at e
        rcases LamX.among_app _ tr e with z | z
        · obtain ⟨c0, e1, e2⟩ := among p' cv z
          exact ⟨c0, e1, ex _ _ e2 LamX.codeO_ne⟩
        · exact ⟨c', z, atc⟩
      · obtain ⟨rs, a1, a2, a3⟩ := tb p hp
        refine ⟨rs, at1 _ _ a1 hb, a2, fun p' cv e => ?_⟩
        obtain ⟨c0, e1, e2⟩ := a3 p' cv e
        exact ⟨c0, e1, ex _ _ e2 LamX.codeO_ne⟩
    · subst hH1
      rw [upd_ne (Nat.ne_of_gt lt), upd_ne (Nat.ne_of_gt (Nat.lt_of_lt_of_le (Heap.lt_size gP) sz))]
      exact I.hok.fresh sz
theorem inv_pins {pins' : List (Addr × Obj)} (I : Inv X pins σ H s) (h : ∀ p ∈ pins', p ∈ pins) : Inv X pins' σ H s := I.pins_of fun p hp => I.pin p (List.mem_append_right _ (h p hp))
end
/-- the tables may have grown -/
theorem RelH.grown {T : Tb} {R : Rl} {h : Hh} {H H1 : Hp} (r : RelH T R h H) (x : LamX.ExtN H H1) (t : LamX.Tabs T.tabs H1) : RelH T R h H1 := by
  refine ⟨fun a o e => x a o (r.fz a o e) fun ps z => by subst z; exact r.nt a ps e, fun a o e => x a o (r.pv a o e) fun ps z => ?_, r.dj, r.len, fun c ob a h1 h2 => ?_, r.nd, r.px, r.nt, t⟩
  · obtain ⟨vs, q⟩ := r.px a o e
    rw [q] at z; cases z
  · obtain ⟨f1, f2, z⟩ := r.live c ob a h1 h2
    obtain ⟨o, e⟩ := z.some
    rw [x a o e (z.nt e).1, ← e]
    exact ⟨f1, f2, z⟩
/-- a record of the library's own is known -/
theorem RelH.knowExt {T : Tb} {R : Rl} {h : Hh} {H : Hp} {a : Addr} {φ : Heap → Prop} (r : RelH T R h H) (e : H a = some (.ext φ)) : ∃ R1, Rle R R1 ∧ RelH T R1 h H ∧ R1.F a = some (.ext φ) := by
  obtain ⟨r1, l⟩ := r.know (F' := fun b => if b = a then H a else R.F b) (fun b o q => by
    by_cases hb : b = a
    · subst hb; simp only [if_true]; exact r.fz _ _ q
    · simp only [if_neg hb]; exact q) (fun b o q => by
    by_cases hb : b = a
    · subst hb; simpa using q
    · simp only [if_neg hb] at q; exact r.fz _ _ q) (fun b hb => by
    obtain ⟨c, hc⟩ := List.getElem?_of_mem hb
    obtain ⟨ob, _, f1, _, z⟩ := r.addr hc
    by_cases hba : b = a
    · subst hba; exact absurd rfl ((z.nt e).2 φ)
    · simp only [if_neg hba]; exact f1) (fun b o q => by
    by_cases hba : b = a
    · subst hba
      obtain ⟨vs, z⟩ := r.px _ _ q
      have := r.pv _ _ q
      rw [e, z] at this; cases this
    · simp only [if_neg hba]; exact r.dj _ _ q) (fun b ps q => by
    by_cases hba : b = a
    · subst hba
      simp only [if_true] at q
      rw [e] at q; cases q
    · simp only [if_neg hba] at q; exact r.nt _ _ q)
  exact ⟨_, l, r1, by simpa using e⟩
/-- lambdas that were made, by their objects -/
def LamsR (T : Tb) (X : Cx) (R : Rl) : Ls → List (Addr × Obj) → Prop
  | .nil, [] => True
  | .cons b _ r, p :: fs => (∃ (I : LamI) (c' : Addr) (pm ctv : Value), p.2 = lamO I c' (cloFrom X.env.cells I.sc.names []) pm ctv ∧ T.lam b I ∧ I.N = X.N ∧ LamX.LamS X.env.scope I.sc ∧ R.F c' = some (LamX.CodeO c' (I.qual ++ "<lambda>")) ∧ X.s_0.heap.objs.size ≤ p.1) ∧ LamsR T X R r fs
  | _, _ => False
theorem LamsR.mono {T : Tb} {X : Cx} {R R' : Rl} (l : Rle R R') : ∀ {ks : Ls} {fs : List (Addr × Obj)}, LamsR T X R ks fs → LamsR T X R' ks fs
  | .nil, [], _ => trivial
  | .nil, _ :: _, h => h
  | .cons _ _ _, [], h => h
  | .cons b cap r, p :: fs, h => by
    obtain ⟨⟨I, c', pm, ctv, h1, h2, h3, h4, h5, h6⟩, h7⟩ := h
    exact ⟨⟨I, c', pm, ctv, h1, h2, h3, h4, l.F _ _ h5, h6⟩, h7.mono l⟩
theorem LamsR.new {T : Tb} {X : Cx} {R : Rl} : ∀ {ks : Ls} {fs : List (Addr × Obj)}, LamsR T X R ks fs → ∀ p ∈ fs, X.s_0.heap.objs.size ≤ p.1 ∧ (∀ vs, p.2.data ≠ .fields vs)
  | .nil, [], _, _, hp => by simp at hp
  | .nil, _ :: _, h, _, _ => h.elim
  | .cons _ _ _, [], h, _, _ => h.elim
  | .cons b cap r, q :: fs, h, p, hp => by
    obtain ⟨⟨I, c', pm, ctv, h1, h2, h3, h4, h5, h6⟩, h7⟩ := h
    rcases List.mem_cons.mp hp with rfl | hp
    · exact ⟨h6, fun vs z => by rw [h1] at z; cases z⟩
    · exact h7.new p hp
section
variable {T : Tb} {G : Glb} {k : Nat} {c : Ck} {X : Cx}
/-- one lambda -/
theorem lam_one (g : Good T G k c X) (hc : c.fnl = none) (hk : c.mkr = true) {b : E} {y : PySem.Expr} (ck : (match gLa y with
      | some (pr, body, sc) => noPar pr && (LamX.lamSB c.sc sc && chkE (c.lam sc) b body)
      | none => false) = true) {pins : List (Addr × Obj)} {σ : L2.St} {H : Hp} {s : Shared} {R : Rl} {h : Hh} {Q E : Value → Shared → Prop} (I : Inv X pins σ H s) (r : RelH T R h H)
    (go : ∀ (f : Addr) (o : Obj) (R1 : Rl) (H1 : Hp) (s1 : Shared), Inv X ((f, o) :: pins) σ H1 s1 → Rle R R1 → RelH T R1 h H1 → LamsR T X R1 (.cons b [] .nil) [(f, o)] → Q (.ref f) s1) :
    wpAny (model X.prog X.w) X.A (eval y X.env) Q E s := by
  obtain ⟨st1, st2, st3⟩ := g.stm hc
  obtain ⟨cd, Pt, m1, m2, m3, m4⟩ := g.mkr hk
  cases ey : gLa y with
  | none => rw [ey] at ck; cases ck
  | some q =>
    obtain ⟨pr, bd, sc⟩ := q
    rw [ey] at ck
    simp only [Bool.and_eq_true] at ck
    obtain ⟨lp, rfl⟩ := gLa_of ey
    obtain ⟨c1, c2, c3⟩ := ck
    have ep := noPar_of c1
    subst ep
    have L : LamX.LamS X.env.scope sc := by rw [g.sc]; exact LamX.lamS_by c2
    refine lam_new I m4 m1 m2 m3 r.tb rfl (L.has I.ok) fun f c' pm ctv H1 s1 I1 ex T1 ef hsz nf hco => ?_
    obtain ⟨R1, l1, r1, e1⟩ := (r.grown ex T1).knowExt hco
    have nL : f ≠ X.env.locals := Nat.ne_of_gt (Nat.lt_of_lt_of_le I.lt hsz)
    refine go f _ R1 H1 s1 (I1.pins_of fun p hp => ?_) l1 r1 ⟨⟨⟨X.N, sc, ⟨[], [], none, [], [], none, []⟩, bd, X.env.qual⟩, c', pm, ctv, rfl, g.lamI b _ ⟨by rw [g.N]; exact g.nd, rfl, L.kind, L.co, L.gen, L.own, by
        show chkE ({ c with N := X.N }.lam sc) b bd = true
        have : ({ c with N := X.N } : Ck) = c := by rw [g.N]
        rw [this]; exact c3⟩, rfl, L, e1, Nat.le_trans I.sz hsz⟩, trivial⟩
    rcases List.mem_cons.mp hp with rfl | hp
    · refine ⟨ef, nf, nL, ?_, fun v z => by cases z⟩
      intro hm
      obtain ⟨_, o, ho, _⟩ := I.ok.funs.mem hm
      exact absurd (Nat.lt_of_lt_of_le (Heap.lt_size ho) (Nat.le_trans I.sz hsz)) (Nat.lt_irrefl _)
    · exact I1.pin p (List.mem_append_right _ hp)
/-- several lambdas, one behind another -/
theorem lam_many (g : Good T G k c X) (hc : c.fnl = none) (hk : c.mkr = true) : ∀ (ks : Ls) (zs : List PySem.Expr), chkLs c ks zs = true → ∀ (pos : Pos) {pins : List (Addr × Obj)} {σ : L2.St} {H : Hp} {s : Shared} {R : Rl} {h : Hh} {Q : List Value → Shared → Prop} {E : Value → Shared → Prop}, Inv X pins σ H s → RelH T R h H →
    (∀ (fs : List (Addr × Obj)) (R1 : Rl) (H1 : Hp) (s1 : Shared), Inv X (fs ++ pins) σ H1 s1 → Rle R R1 → RelH T R1 h H1 → LamsR T X R1 ks fs → Q (fs.map fun p => Value.ref p.1) s1) →
    wpAny (model X.prog X.w) X.A (spliced (backTo pos (starEach zs X.env))) Q E s
  | .nil, [], _, pos, pins, σ, H, s, R, h, Q, E, I, r, go => Calls.spliced_nil (go [] R H s I (Rle.refl R) r trivial)
  | .nil, _ :: _, ck, _, _, _, _, _, _, _, _, _, _, _, _ => by simp [chkLs] at ck
  | .cons _ _ _, [], ck, _, _, _, _, _, _, _, _, _, _, _, _ => by simp [chkLs] at ck
  | .cons b cap ks, y :: zs, ck, pos, pins, σ, H, s, R, h, Q, E, I, r, go => by
    simp only [chkLs, Bool.and_eq_true] at ck
    have ht : tame y = true := by
      cases ey : gLa y with
      | none => rw [ey] at ck; exact absurd ck.1 (by simp)
      | some q => obtain ⟨pr, bd, sc⟩ := q; obtain ⟨lp, rfl⟩ := gLa_of ey; rfl
    rw [star_of ht]
    show wpAny _ _ (spliced ((false, eval y X.env) :: backTo pos (starEach zs X.env))) _ _ _
    refine Calls.spliced_cons (lam_one g hc hk ck.1 I r fun f o R1 H1 s1 I1 l1 r1 m1 => ?_)
    refine lam_many g hc hk ks zs ck.2 pos I1 r1 fun fs R2 H2 s2 I2 l2 r2 m2 => ?_
    exact go ((f, o) :: fs) R2 H2 s2 (inv_pins I2 fun p hp => by
      simp only [List.cons_append, List.mem_cons, List.mem_append] at hp ⊢
      rcases hp with z | z | z
      · exact .inr (.inl z)
      · exact .inl z
      · exact .inr (.inr z)) (l1.trans l2) r2 ⟨(m1.mono l2).1, m2⟩
theorem DVE.mask {R : Rl} : ∀ {e : List D} {ws : List (Option V)} (i : Nat) (cap : List Nat), DVE T R e ws → DVE T R (maskD e i cap) ws
  | [], [], _, _, _ => by simp only [maskD, DVE]
  | [], _ :: _, _, _, h => by simp only [DVE] at h
  | _ :: _, [], _, _, h => by simp only [DVE] at h
  | d :: ds, v :: vs, i, cap, h => by
    simp only [DVE] at h
    simp only [maskD, DVE]
    refine ⟨?_, DVE.mask (i + 1) cap h.2⟩
    split
    · exact h.1
    · exact .inl rfl
/-- a captured name's cell is the maker's -/
theorem clo_cell {X : Cx} {sc : Scope} (L : LamX.LamS X.env.scope sc) (ok : X.Ok) {y : Str} {a : Addr} (e : (cloFrom X.env.cells sc.names []).lookup y = some a) : X.env.cells.lookup y = some a := by
  rcases cloFrom_mem (PySem.mem_of_lookup e) with z | ⟨z1, z2⟩
  · cases z
  · obtain ⟨a2, h2⟩ := L.has ok _ z1 rfl
    have h2 : X.env.cells.lookup y = some a2 := h2
    rw [h2] at z2
    rw [h2]
    exact congrArg some z2.symm
theorem clo_has {cells : List (Str × Addr)} {sc : Scope} {y : Str} (h : sc.names.lookup y = some .free) : ∃ a, (cloFrom cells sc.names []).lookup y = some a := mem_lookup (cloFrom_has (PySem.mem_of_lookup h))
theorem clo_k {X : Cx} {pins : List (Addr × Obj)} {σ : L2.St} {H : Hp} {s : Shared} {F : Hp} {J : LamI} (I : Inv X pins σ H s) (hN : J.N = X.N) (L : LamX.LamS X.env.scope J.sc) (hc : ∀ y a, X.env.cells.lookup y = some a → ∃ o, F a = some (CellT a o) ∧ s.heap.get? a = some o) : CloK F J (cloFrom X.env.cells J.sc.names []) σ := by
  refine ⟨by rw [hN]; exact I.len, fun y a e => ?_, fun y z a e1 e2 => I.ok.inj y z a (clo_cell L I.ok e1) (clo_cell L I.ok e2), fun y h => clo_has h, fun i y w h1 h2 h3 => ?_⟩
  · have e := clo_cell L I.ok e
    obtain ⟨o, f1, f2⟩ := hc y a e
    obtain ⟨v, o', g1, g2⟩ := I.cell y a e
    rw [f2] at g1
    cases g1
    exact ⟨o, v, f1, g2⟩
  · rw [hN] at h1
    obtain ⟨m, _, hl⟩ := I.loc
    have hm := PySem.mem_of_lookup h3
    have two := L.free _ hm rfl
    have vis : Vis X.env.scope y := two.elim (fun z => .inr (.inl z)) (fun z => .inr (.inr z))
    obtain ⟨u, ru, lk⟩ := hl i y w h1 h2 vis
    obtain ⟨a, ea⟩ := clo_has (cells := X.env.cells) h3
    have eb := clo_cell L I.ok ea
    rcases lk with ⟨z, _⟩ | ⟨_, a2, e2, o, g1, g2⟩
    · have z : X.env.scope.names.lookup y = some .local := z
      rcases two with t | t
      · rw [show X.env.scope.names.lookup y = some .cell from t] at z; cases z
      · rw [show X.env.scope.names.lookup y = some .free from t] at z; cases z
    · rw [eb] at e2
      cases e2
      obtain ⟨o', f1, f2⟩ := hc y a eb
      rw [g1] at f2
      cases f2
      exact ⟨a, o, u, ea, f1, g2, ru⟩
theorem clos_dv {T : Tb} {X : Cx} {pins : List (Addr × Obj)} {σ : L2.St} {H : Hp} {s : Shared} {R2 R' : Rl} {e : List D} (I : Inv X pins σ H s) (l : Rle R2 R') (env : DVE T R2 e σ) (hc : ∀ y a, X.env.cells.lookup y = some a → ∃ o, R'.F a = some (CellT a o) ∧ s.heap.get? a = some o) :
    ∀ {ks : Ls} {fs : List (Addr × Obj)}, LamsR T X R2 ks fs → (∀ p ∈ fs, R'.F p.1 = some (CellT p.1 p.2)) → DVs T R' (clos e ks) (fs.map fun p => V.ref p.1)
  | .nil, [], _, _ => by simp only [clos, List.map_nil, DVs]
  | .nil, _ :: _, h, _ => h.elim
  | .cons _ _ _, [], h, _ => h.elim
  | .cons b cap r, p :: fs, h, hf => by
    obtain ⟨⟨J, c', pm, ctv, h1, h2, h3, h4, h5, h6⟩, h7⟩ := h
    simp only [clos, List.map_cons, DVs]
    refine ⟨?_, clos_dv I l env hc h7 fun q hq => hf q (List.mem_cons_of_mem _ hq)⟩
    simp only [DV]
    exact ⟨p.1, J, c', _, σ, rfl, h2, ⟨pm, ctv, by rw [← h1]; exact hf p List.mem_cons_self⟩, l.F _ _ h5, (env.mono l).mask 0 cap, clo_k I h3 h4 hc⟩
end
section
variable {T : Tb} {G : Glb} {k : Nat} {c : Ck} {X : Cx} {W : WX} {ms : List D → Hh → Res (List D)}
def cal1M (G : Glb) (f : Nat) (ls : Bool) (ks : Ls) (ms : List D → Hh → Res (List D)) : List D → Hh → Res D := fun e h => (ms e h).bind fun ds h => tidyR (G.call f (cloA ls ks e :: ds) h)
/-- behind the arguments: the call -/
theorem cal_run (g : Good T G k c X) (hc0 : c.fnl = none) {f : Nat} {x : Str} (hf : c.fns[f]? = some x) {ks : Ls} {cd : D} {cv : V} {cu : Value} {pins fs : List (Addr × Obj)} {σ : L2.St} {H : Hp} {s : Shared} {Q : VK} {R : Rl} {ds : List D} {vs : List V} {us : List Value} {h : Hh} {e : List D}
    (I : Inv X (fs ++ pins) σ H s) (r : RelH T R h H) (env : DVE T R e σ) (lr : LamsR T X R ks fs) (rc : RelV cv cu) (hcd : ∀ R', Rle R R' → (∀ q ∈ fs, R'.F q.1 = some (CellT q.1 q.2)) → DVs T R' (clos e ks) (fs.map fun p => V.ref p.1) → DV T R' cd cv) (dv : DVs T R ds vs) (rv : Vals vs us)
    (q : Post T W R σ (tidyR (G.call f (cd :: ds) h)) Q)  : ∃ a, X.mg x = some (.ref a) ∧ PySem.W.keepIn X.K (.ref a) = true ∧ wpAny (model X.prog X.w) X.A (call (.ref a) (cu :: us)) (EP X pins σ Q) X.xe s := by
  obtain ⟨ad, fd, ps, hm, hk, hb, F, ar, _⟩ := g.fns f x hf
  refine ⟨ad, hm, hk, ?_⟩
  have nc := lr.new
  generalize hL : cellsOf X.env.cells ++ fs.map (·.1) = L
  have inL : ∀ b, b ∈ L ↔ ((∃ y, X.env.cells.lookup y = some b) ∨ ∃ p ∈ fs, p.1 = b) := fun b => by
    rw [← hL, List.mem_append]
    constructor
    · rintro (z | z)
      · exact .inl (cellsOf_of z)
      · obtain ⟨p, hp, e⟩ := List.mem_map.mp z
        exact .inr ⟨p, hp, e⟩
    · rintro (⟨y, z⟩ | ⟨p, hp, e⟩)
      · exact .inl (cellsOf_in z)
      · exact .inr (List.mem_map.mpr ⟨p, hp, e⟩)
  clear hL
  have pinf : ∀ p ∈ fs, s.heap.get? p.1 = some p.2 ∧ H p.1 = none := fun p hp => by
    obtain ⟨e1, e2, _⟩ := I.pin p (List.mem_append_right _ (List.mem_append_left _ hp))
    exact ⟨e1, e2⟩
  have hN : ∀ b ∈ L, H b = none := fun b hb => by
    rcases (inL b).mp hb with ⟨y, z⟩ | ⟨p, hp, rfl⟩
    · exact I.freeC y b z
    · exact (pinf p hp).2
  have at0 : ∀ b ∈ L, ∃ o, s.heap.get? b = some o ∧ ∀ vs, o.data ≠ .fields vs := fun b hb => by
    rcases (inL b).mp hb with ⟨y, z⟩ | ⟨p, hp, rfl⟩
    · obtain ⟨v, o, e1, e2⟩ := I.cell y b z
      exact ⟨o, e1, fun vs q => by rw [e2] at q; cases q⟩
    · exact ⟨p.2, (pinf p hp).1, (nc p hp).2⟩
  have big : ∀ b ∈ L, X.s_0.heap.objs.size ≤ b := fun b hb => by
    rcases (inL b).mp hb with ⟨y, z⟩ | ⟨p, hp, rfl⟩
    · exact I.ok.cab y b (g.fn0 hc0 y) z
    · exact (nc p hp).1
  generalize hG : (fun b => (s.heap.get? b).map (CellT b)) = Gf
  have gG : ∀ b ∈ L, ∃ o, Gf b = some (CellT b o) ∧ s.heap.get? b = some o ∧ ∀ vs, o.data ≠ .fields vs := fun b hb => by
    obtain ⟨o, e1, e2⟩ := at0 b hb
    exact ⟨o, by rw [← hG]; show (s.heap.get? b).map (CellT b) = _; rw [e1]; rfl, e1, e2⟩
  clear hG
  have gG2 : ∀ b ∈ L, ∃ o, Gf b = some (CellT b o) ∧ s.heap.get? b = some o := fun b hb => let ⟨o, e1, e2, _⟩ := gG b hb; ⟨o, e1, e2⟩
  have out : ∀ {b o}, H b = some o → b ∉ L := fun {b o} e hb => by rw [hN b hb] at e; cases e
  have e0 := I.env0
  have e1 : Env0 X.prog X.w X.K X.mg X.base X.A X.stack s (putL L Gf H) := by
    refine ⟨e0.frames, e0.mod, fun b o e => ⟨(e0.bs b o e).1, ?_⟩, e0.bsz, e0.funs, fun b hb => ?_, hok_put e0.hok hN gG2, e0.bare⟩
    · rw [put_out fun hb => ?_]
      · exact (e0.bs b o e).2
      · exact absurd (Nat.lt_of_lt_of_le (Heap.lt_size e) (Nat.le_trans I.ok.bsz (big b hb))) (Nat.lt_irrefl _)
    · rw [put_out fun hL => ?_]
      · exact e0.frf b hb
      · rcases (inL b).mp hL with ⟨y, z⟩ | ⟨p, hp, rfl⟩
        · rcases List.mem_cons.mp (I.stkSub b hb) with q | q
          · exact I.cne y b z q
          · obtain ⟨_, o, ho, _⟩ := I.ok.funs.mem q
            exact absurd (Nat.lt_of_lt_of_le (Heap.lt_size ho) (big b hL)) (Nat.lt_irrefl _)
        · obtain ⟨_, _, n1, n2, _⟩ := I.pin p (List.mem_append_right _ (List.mem_append_left _ hp))
          rcases List.mem_cons.mp (I.stkSub p.1 hb) with q | q
          · exact n1 q
          · exact n2 q
  have l1 : Rle R { R with F := putL L Gf R.F } := ⟨fun a o e => by
    show putL L Gf R.F a = some o
    rw [put_out (out (r.fz _ _ e))]; exact e, fun _ _ z => z, rfl, rfl⟩
  have rp : RelH T { R with F := putL L Gf R.F } h (putL L Gf H) := by
    refine ⟨fun a o e => ?_, fun a o e => ?_, fun a o e => ?_, r.len, fun ci ob a h1 h2 => ?_, r.nd, r.px, fun a ps e => ?_, fun p hp => ?_⟩
    · have e : putL L Gf R.F a = some o := e
      by_cases ha : a ∈ L
      · rw [put_in ha] at e ⊢; exact e
      · rw [put_out ha] at e ⊢; exact r.fz _ _ e
    · rw [put_out (out (r.pv _ _ e))]; exact r.pv _ _ e
    · show putL L Gf R.F a = none
      rw [put_out (out (r.pv _ _ e))]; exact r.dj _ _ e
    · obtain ⟨f1, f2, z⟩ := r.live ci ob a h1 h2
      obtain ⟨o, eo⟩ := z.some
      refine ⟨?_, f2, ?_⟩
      · show putL L Gf R.F a = none
        rw [put_out (out eo)]; exact f1
      · rw [put_out (out eo)]; exact z.mono l1
    · have e : putL L Gf R.F a = some (.tbl ps) := e
      by_cases ha : a ∈ L
      · rw [put_in ha] at e
        obtain ⟨o, z, _⟩ := gG a ha
        rw [z] at e
        cases e
      · rw [put_out ha] at e; exact r.nt _ _ e
    · exact (r.tb p hp).ext fun b o e => by rw [put_out (out e)]; exact e
  have cls : DVs T { R with F := putL L Gf R.F } (clos e ks) (fs.map fun p => V.ref p.1) := clos_dv I l1 env (fun y a ha => by
      have hL := (inL a).mpr (.inl ⟨y, ha⟩)
      obtain ⟨o, z1, z2⟩ := gG2 a hL
      exact ⟨o, by show putL L Gf R.F a = _; rw [put_in hL]; exact z1, z2⟩) lr fun p hp => by
      have hL := (inL p.1).mpr (.inr ⟨p, hp, rfl⟩)
      obtain ⟨o, z1, z2⟩ := gG2 p.1 hL
      rw [(pinf p hp).1] at z2
      cases z2
      show putL L Gf R.F p.1 = _
      rw [put_in hL]; exact z1
  have dcl : DV T { R with F := putL L Gf R.F } cd cv := hcd _ l1 (fun p hp => by
      have hL := (inL p.1).mpr (.inr ⟨p, hp, rfl⟩)
      obtain ⟨o, z1, z2⟩ := gG2 p.1 hL
      rw [(pinf p hp).1] at z2
      cases z2
      show putL L Gf R.F p.1 = _
      rw [put_in hL]; exact z1) cls
  cases z : G.call f (cd :: ds) h with
  | stk => rw [z] at q; exact absurd q id
  | exc _ _ _ => rw [z] at q; exact absurd q id
  | ok d h' =>
    rw [z] at q
    unfold tidyR at q
    simp only at q
    split at q
    · rename_i ht
      rw [Bool.and_eq_true] at ht
      have hl : (cv :: vs).length = ps.length := by
        have := ar (cd :: ds) h (by rw [z]; exact fun q => by cases q)
        rw [← this, List.length_cons, List.length_cons, dv.length]
      have hu : (cu :: us).length = ps.length := by rw [← hl, List.length_cons, List.length_cons, rv.length]
      have b := hb s (cu :: us) I.kIn (by rw [List.append_nil]; exact hu)
      rw [List.append_nil] at b
      refine wpAny_call (codeAny_mono (F.run X.A X.stack s (putL L Gf H) ⟨cu :: us, []⟩ (cu :: us) (cv :: vs) (fun v H' => (∀ b ∈ L, H' b = Gf b) ∧ Q v (cutL L H')) (fun _ _ _ => False) g.grd g.room e1 b (.cons rc rv)
        ⟨hl, _, cd :: ds, h, rp, by simp only [DVs]; exact ⟨dcl, dv.mono l1⟩, by
          rw [z]
          intro R' v H' l r' dv'
          have kn : Kn s.heap L R'.F := fun b hb => by
            obtain ⟨o, z1, z2, z3⟩ := gG b hb
            exact ⟨o, l.F _ _ (by show putL L Gf R.F b = _; rw [put_in hb]; exact z1), z2, z3⟩
          refine ⟨fun b hb => ?_, ?_⟩
          · obtain ⟨o, z1, z2, z3⟩ := gG b hb
            rw [z1]
            exact r'.fz _ _ (l.F _ _ (by show putL L Gf R.F b = _; rw [put_in hb]; exact z1))
          · refine q { R' with F := cutL L R'.F } v (cutL L H') (Rle.cutL R (l1.trans l) fun b hb => ?_) (r'.cut kn ht.2) (DV.tidy (R := R') (R' := { R' with F := cutL L R'.F }) (fun a o e n => by
              show cutL L R'.F a = some o
              rw [cut_out (kn.ne e n)]; exact e) rfl d v ht.1 dv')
            cases y : R.F b with
            | none => rfl
            | some o => exact absurd hb (out (r.fz _ _ y))⟩) fun r0 s' hq => ?_)
      have hq := cr_less (E := fun _ _ _ => False) hN gG2 hq
      have I' : Inv X pins σ H s := inv_pins I fun p hp => List.mem_append_right _ hp
      match r0, hq with
      | .error e, hq =>
        obtain ⟨_, _, _, _, _, _, _, _, _, _, _, _, y⟩ := hq
        exact y.elim
      | .ok (.ret u), hq => exact I'.after hq
      | .ok .next, hq => exact hq.elim
      | .ok .brk, hq => exact hq.elim
      | .ok .cont, hq => exact hq.elim
    · exact absurd q id
theorem lams_len {R : Rl} : ∀ {ks : Ls} {zs : List PySem.Expr} {fs : List (Addr × Obj)}, chkLs c ks zs = true → LamsR T X R ks fs → fs.length = zs.length
  | .nil, [], [], _, _ => rfl
  | .nil, _ :: _, _, h, _ => by simp [chkLs] at h
  | .nil, [], _ :: _, _, h => h.elim
  | .cons _ _ _, [], _, h, _ => by simp [chkLs] at h
  | .cons _ _ _, _ :: _, [], _, h => h.elim
  | .cons b cap r, z :: zs, p :: fs, h, m => by
    simp only [chkLs, Bool.and_eq_true] at h
    rw [List.length_cons, List.length_cons, lams_len h.2 m.2]
/-- f(lambda: .., ..), f([lambda: .., ..], ..) -/
theorem s_cal1 (g : Good T G k c X) (hc0 : c.fnl = none) (hk : c.mkr = true) {f : Nat} {x : Str} {p pos : Pos} (hf : c.fns[f]? = some x) (hg : Gl X x) (hn : okN x = true) {ls : Bool} {ks : Ls} {y : PySem.Expr} {ys : List PySem.Expr}
    (hy : (if ls then (match gLs y with
      | some zs => decide (zs.length ≤ 1000) && chkLs c ks zs
      | none => false) else chkLs c ks [y]) = true) (hts : ys.all tame = true) (ha : PA X ys (LA T W ms)) : PE X (.Call (.Name x p) (y :: ys) [] pos) (LE T W (cal1M G f ls ks ms)) := by
  obtain ⟨ad, fd, ps, hm, hkp, _⟩ := g.fns f x hf
  refine ⟨fun pins s σ H Q I ⟨R, e, h, r, env, q⟩ => ?_⟩
  unfold cal1M at q
  refine wpAny_Call_Name_kw (ld_glob I hg hm ?_ (okN_of hn).1)
  have rest : ∀ (fs : List (Addr × Obj)) (R1 : Rl) (H1 : Hp) (s1 : Shared) (cv : V) (cu : Value), Inv X (fs ++ pins) σ H1 s1 → Rle R R1 → RelH T R1 h H1 → LamsR T X R1 ks fs → RelV cv cu →
      (∀ R', Rle R1 R' → (∀ q ∈ fs, R'.F q.1 = some (CellT q.1 q.2)) → DVs T R' (clos e ks) (fs.map fun p => V.ref p.1) → DV T R' (cloA ls ks e) cv) →
      wpAny (model X.prog X.w) X.A (spliced (backTo pos (starEach ys X.env))) (fun vs s2 => X.K.In s2.heap ∧ wpAny (model X.prog X.w) X.A (call (.ref ad) ([] ++ cu :: vs)) (EP X pins σ Q) X.xe s2) X.xe s1 := by
    intro fs R1 H1 s1 cv cu I1 l1 r1 lr rc hcd
    refine thn (ha.run pos (fs ++ pins) s1 σ H1 (fun vs H2 => ∃ R2 ds h2, Rle R1 R2 ∧ RelH T R2 h2 H2 ∧ DVs T R2 ds vs ∧ Post T W R2 σ (tidyR (G.call f (cloA ls ks e :: ds) h2)) Q) I1 ⟨R1, e, h, r1, env.mono l1, PostG.bind (PostG.mono l1 q) fun R2 ds vs h2 H2 l2 r2 d2 q2 => ⟨R2, ds, h2, l2, r2, d2, q2⟩⟩) fun us s2 ⟨vs, H2, I2, rv, R2, ds, h2, l2, r2, d2, q2⟩ => ⟨I2.kIn, ?_⟩
    obtain ⟨a, ea, _, run⟩ := cal_run g hc0 hf I2 r2 (env.mono (l1.trans l2)) (lr.mono l2) rc (fun R' l => hcd R' (l2.trans l)) d2 rv q2
    rw [hm] at ea
    cases ea
    exact run
  have hty : tame y = true := by
    cases ls with
    | true =>
      simp only [if_true] at hy
      cases ey : gLs y with
      | none => rw [ey] at hy; cases hy
      | some zs => obtain ⟨q, rfl⟩ := gLs_of ey; rfl
    | false =>
      simp only [Bool.false_eq_true, if_false] at hy
      cases ks with
      | nil => simp [chkLs] at hy
      | cons b cap rr =>
        simp only [chkLs, Bool.and_eq_true] at hy
        cases ey : gLa y with
        | none => rw [ey] at hy; exact absurd hy.1 (by simp)
        | some q => obtain ⟨pr, bd, sc⟩ := q; obtain ⟨lp, rfl⟩ := gLa_of ey; rfl
  refine PySem.W.callWith_K (h₀ := X.base) I.ok.mod.kin hkp ?_ (star_of hty _ _) (plain_of hts _ _)
  rw [star_of hty]
  show wpAny _ _ (spliced ((false, eval y X.env) :: backTo pos (starEach ys X.env))) _ _ _
  refine Calls.spliced_cons ?_
  cases ls with
  | false =>
    simp only [Bool.false_eq_true, if_false] at hy
    cases ks with
    | nil => simp [chkLs] at hy
    | cons b cap rr =>
      simp only [chkLs, Bool.and_eq_true] at hy
      obtain ⟨h1, h2⟩ := hy
      cases rr with
      | cons _ _ _ => simp [chkLs] at h2
      | nil =>
        refine lam_one g hc0 hk h1 I r fun fa o R1 H1 s1 I1 l1 r1 m1 => ?_
        refine rest [(fa, o)] R1 H1 s1 (.ref fa) (.ref fa) I1 l1 r1 ⟨m1.1, trivial⟩ rfl fun R' _ _ d => ?_
        simp only [clos, List.map_cons, List.map_nil, DVs] at d
        exact d.1
  | true =>
    simp only [if_true] at hy
    cases ey : gLs y with
    | none => rw [ey] at hy; cases hy
    | some zs =>
      rw [ey] at hy
      simp only [Bool.and_eq_true, decide_eq_true_eq] at hy
      obtain ⟨hz, hy⟩ := hy
      obtain ⟨q5, rfl⟩ := gLs_of ey
      refine wpAny_List_spliced (lam_many g hc0 hk ks zs hy q5 I r fun fs R1 H1 s1 I1 l1 r1 m1 => ?_)
      have hlen : fs.length ≤ sizeLine := by
        rw [lams_len hy m1, sizeLine_eq]; omega
      have hf1 : H1 s1.heap.objs.size = none := I1.hok.fresh (Nat.le_refl _)
      obtain ⟨r2, l2⟩ := r1.laid (o := .lst (fs.map fun p => V.ref p.1)) hf1
      have vl : ∀ fs : List (Addr × Obj), Vals (fs.map fun p => V.ref p.1) (fs.map fun p => Value.ref p.1) := fun fs => by
        induction fs with
        | nil => exact .nil
        | cons p fs ih => exact .cons rfl ih
      refine ⟨by rw [List.length_map]; exact hlen, ?_⟩
      refine rest fs _ _ _ (.ref s1.heap.objs.size) (.ref s1.heap.objs.size) (I1.laid (o := .lst (fs.map fun p => V.ref p.1)) (t' := s1.toks) (fun b u e => Heap.get?_push_of_some _ e) (Nat.le_refl _) ⟨by rw [List.length_map]; exact hlen, _, 0, vl fs, Heap.get?_push_size _ rfl⟩) (l1.trans l2) r2 (m1.mono l2) rfl fun R' l3 _ d => ?_
      simp only [cloA, if_true, DV]
      exact ⟨_, _, rfl, l3.F _ _ upd_same, d⟩
end
end Mn
/-! # What Mini reads, Python computes: expressions -/
namespace Mn
open PySem L2 PyProof.Rows
theorem cgE {T : Tb} {W : WX} {X : Cx} {e : PySem.Expr} {m m' : List D → Hh → Res D} (h : PE X e (LE T W m)) (q : ∀ e h, m' e h = m e h) : PE X e (LE T W m') := by
  have : m' = m := by funext e h; exact q e h
  rw [this]; exact h
theorem cgT {T : Tb} {W : WX} {X : Cx} {e : PySem.Expr} {m m' : List D → Hh → Res D} (h : PT X e (tTest (LE T W m))) (q : ∀ e h, m' e h = m e h) : PT X e (tTest (LE T W m')) := by
  have : m' = m := by funext e h; exact q e h
  rw [this]; exact h
theorem cgW {T : Tb} {W : WX} {X : Cx} {e : PySem.Expr} {m m' : List D → Hh → Res D} (h : PW X e (tTest (LE T W m))) (q : ∀ e h, m' e h = m e h) : PW X e (tTest (LE T W m')) := by
  have : m' = m := by funext e h; exact q e h
  rw [this]; exact h
theorem cgA {T : Tb} {W : WX} {X : Cx} {e : List PySem.Expr} {m m' : List D → Hh → Res (List D)} (h : PA X e (LA T W m)) (q : ∀ e h, m' e h = m e h) : PA X e (LA T W m') := by
  have : m' = m := by funext e h; exact q e h
  rw [this]; exact h
theorem cgI {T : Tb} {W : WX} {X : Cx} {tg e : PySem.Expr} {m m' : List D → Hh → Res Src} (h : PI X tg e (LI T W m)) (q : ∀ e h, m' e h = m e h) : PI X tg e (LI T W m') := by
  have : m' = m := by funext e h; exact q e h
  rw [this]; exact h
theorem cgG {T : Tb} {W : WX} {X : Cx} {e : PySem.Expr} {own : List Nat} {m m' : D → List D → Hh → Res (List D)} (h : PG X e (LG T W own m)) (q : ∀ v e h, m' v e h = m v e h) : PG X e (LG T W own m') := by
  have : m' = m := by funext v e h; exact q v e h
  rw [this]; exact h
theorem cgGs {T : Tb} {W : WX} {X : Cx} {e : List PySem.Expr} {own : List Nat} {m m' : List D → List D → Hh → Res (List D)} (h : PGs X e (LGs T W own m)) (q : ∀ v e h, m' v e h = m v e h) : PGs X e (LGs T W own m') := by
  have : m' = m := by funext v e h; exact q v e h
  rw [this]; exact h
/-- a test whose value is read -/
theorem pt_of {T : Tb} {W : WX} {X : Cx} {e : PySem.Expr} {m : List D → Hh → Res D} (h : PE X e (LE T W m)) (he : ∀ whole, isTrue e X.env whole = (do let v ← whole; standAt e.pos; holding [v] (truthy v))) : PT X e (tTest (LE T W m)) :=
  PT.weak (pt_val h he) fun σ H Q q => q
/-- no test of its own kind -/
def plainE : PySem.Expr → Bool
  | .UnaryOp .Not _ _ => false
  | .BoolOp _ _ _ => false
  | .IfExp _ _ _ _ => false
  | .Compare _ _ _ _ => false
  | _ => true
theorem plainE_of {e : PySem.Expr} (h : plainE e = true) (env : Env) : ∀ whole, isTrue e env whole = (do let v ← whole; standAt e.pos; holding [v] (truthy v)) := by
  intro whole
  cases e with
  | UnaryOp o a p => cases o <;> first | rfl | (simp [plainE] at h)
  | BoolOp o a p => simp [plainE] at h
  | IfExp a b c p => simp [plainE] at h
  | Compare a b c p => simp [plainE] at h
  | _ => rfl
theorem chkEs_tame (c : Ck) : ∀ (es : Es) (xs : List PySem.Expr), chkEs c es xs = true → xs.all tame = true
  | .nil, xs, h => by
    unfold chkEs at h
    cases xs with
    | nil => rfl
    | cons x xs => cases h
  | .cons a r, xs, h => by
    unfold chkEs at h
    cases xs with
    | nil => cases h
    | cons x xs =>
      simp only [Bool.and_eq_true] at h
      rw [List.all_cons, h.1, chkEs_tame c r xs h.2.2]
      rfl

theorem tame_marks {o : COp} {b : PySem.Expr} (h : tame b = true) : behindInMarks (cop o) b = false := by
  cases b <;> first | rfl | (simp [tame] at h)
theorem tame_last {o o' : COp} {b d : PySem.Expr} (h : tame d = true) : lastMarks [cop o, cop o'] [b, d] = false := tame_marks (o := o') h
theorem bls_vals : ∀ {ns : List Bool} {us : List Value}, Vals (ns.map V.bl) us → us = ns.map Value.bool
  | [], _, h => by cases h; rfl
  | b :: ns, _, h => by
    cases h with
    | cons r t =>
      have r : _ = Value.bool b := r
      rw [r, bls_vals t]
      rfl
def rCntB (K : PySem.W.Frag) : V → List V → Hp → VK → Prop := fun x xs H Q => ∃ (p : Addr) (ns : List Bool) (k : Bool), x = .ref p ∧ xs = [.bl k] ∧ SqL K H p (ns.map V.bl) ∧ Q (.int (ns.count k : Nat)) H
theorem bool_eqAt (k : Bool) (ns : List Bool) (y : Value) (hy : y ∈ ns.map Value.bool) (A : Around) (s : Shared) : SeqAt.EqAt A s y (.bool k) (isBoolOf k y) := by
  obtain ⟨b, _, rfl⟩ := List.mem_map.mp hy
  exact SeqAt.EqAt.bool_bool b k
theorem bool_cnt (k : Bool) : ∀ ns : List Bool, (ns.map Value.bool).countP (isBoolOf k) = ns.count k
  | [] => rfl
  | b :: ns => by
    rw [List.map_cons, List.countP_cons, List.count_cons, bool_cnt k ns]
    rfl
theorem mt_countB {X : Cx} : MtR X "list.count" (rCntB X.K) := by
  intro pins s σ H x xs v us Q I rx rxs h
  obtain ⟨p, ns, k, rfl, rfl, hs, q⟩ := h
  cases rx
  obtain ⟨u, rfl, ru⟩ := rxs.one
  have ru : u = Value.bool k := ru
  subst ru
  obtain ⟨its, rv, ⟨⟨cls, dd, data, sl⟩, n, ho, hc, hdn, hd⟩, hlen⟩ := I.list hs
  simp only at hc hd
  subst hc hd
  have hi := bls_vals rv
  subst hi
  refine call_meets PySem.F.slot_list_count ⟨_, ho, rfl⟩ PySem.F.entry_list_count (PySem.F.args_list_count_2 _ _)
    (SeqAt.list_countAt p (ns.map Value.bool).toArray n dd sl (.bool k) (isBoolOf k)) ⟨ho, fun y hy => bool_eqAt k ns y (by simpa using hy) _ _, ?_⟩
  refine ⟨.int (ns.count k : Nat), H, I.tok _, ⟨s.toks, ?_⟩, q⟩
  show Value.int (((ns.map Value.bool).countP (isBoolOf k) : Nat) : Int) s.toks = Value.int ((ns.count k : Nat) : Int) s.toks
  rw [bool_cnt]
section
variable {T : Tb} {W : WX}
theorem count_rd (R : Rl) (h : Hh) (H : Hp) (x : D) (ds : List D) (v : V) (vs : List V) (σ : L2.St) (Q : VK) (r : RelH T R h H) (dx : DV T R x v) (dv : DVs T R ds vs) (p : Post T W R σ (mtf false .count x ds h) Q) : rCntB T.K v vs H Q := by
  unfold mtf at p
  split at p
  · rename_i e; cases e
  · rename_i e; cases e
  · rename_i e; cases e
  · rename_i e; cases e
  · rename_i e; cases e
  · rename_i e; cases e
  · rename_i b _
    split at p
    · rename_i rr er
      obtain ⟨xs, e1, e2⟩ := Option.bind_eq_some_iff.mp er
      obtain ⟨a, ws, rfl, q1, q2⟩ := lsOf_rd r e1 dx
      obtain ⟨w, rfl, dw⟩ := DVs.one dv
      refine ⟨a, rr, b, rfl, by rw [show w = .bl b by simpa only [DV] using dw], ?_, p.val r (int_dv _)⟩
      rw [← bls_rd e2 q2]
      exact q1
    · exact absurd p id
  · exact absurd p id
end

/-- tests of their own kind -/
def tstX : E → Bool
  | .not _ => true
  | .one _ => true
  | .and _ _ => true
  | .or _ _ => true
  | .ife _ _ _ => true
  | .cmp _ _ _ => true
  | .chn _ _ _ _ _ => true
  | .frz _ => true
  | _ => false
theorem chk_plain {c : Ck} {x : E} {e : PySem.Expr} (h : chkE c x e = true) (ht : tstX x = false) : plainE e = true := by
  cases x with
  | not _ => cases ht
  | one _ => cases ht
  | and _ _ => cases ht
  | or _ _ => cases ht
  | ife _ _ _ => cases ht
  | cmp _ _ _ => cases ht
  | chn _ _ _ _ _ => cases ht
  | frz _ => cases ht
  | var i =>
    simp only [chkE] at h
    split at h
    · rename_i hx; obtain ⟨p, rfl⟩ := gNm_of hx; rfl
    · cases h
  | glo i j =>
    simp only [chkE] at h
    split at h
    · rename_i hx; obtain ⟨p, rfl⟩ := gNm_of hx; rfl
    · cases h
  | non => simp only [chkE, decide_eq_true_eq] at h; obtain ⟨j, p, rfl⟩ := gCon_of h; rfl
  | bl b => simp only [chkE, decide_eq_true_eq] at h; obtain ⟨j, p, rfl⟩ := gCon_of h; rfl
  | int b => simp only [chkE, decide_eq_true_eq] at h; obtain ⟨j, p, rfl⟩ := gCon_of h; rfl
  | str b => simp only [chkE, decide_eq_true_eq] at h; obtain ⟨j, p, rfl⟩ := gCon_of h; rfl
  | neg a =>
    simp only [chkE] at h
    split at h
    · rename_i hx; obtain ⟨p, rfl⟩ := gUn_of hx; rfl
    · cases h
  | bin _ _ _ _ =>
    simp only [chkE] at h
    split at h
    · rename_i hx; obtain ⟨p, rfl⟩ := gBin_of hx; rfl
    · cases h
  | idx _ _ =>
    simp only [chkE] at h
    split at h
    · rename_i hx; obtain ⟨p, rfl⟩ := gSub_of hx; rfl
    · cases h
  | slc _ _ _ =>
    simp only [chkE] at h
    split at h
    · rename_i hx; obtain ⟨p, q, rfl⟩ := gSl_of hx; rfl
    · cases h
  | tup _ =>
    simp only [chkE] at h
    split at h
    · rename_i hx; obtain ⟨p, q, rfl⟩ := gTu_of hx; rfl
    · cases h
  | lst _ _ =>
    simp only [chkE] at h
    split at h
    · rename_i hx; obtain ⟨q, rfl⟩ := gLs_of hx; rfl
    · cases h
  | dK _ => simp only [chkE] at h; obtain ⟨q, rfl⟩ := isDi_of h; rfl
  | dT _ => simp only [chkE] at h; obtain ⟨q, rfl⟩ := isDi_of h; rfl
  | call _ _ =>
    simp only [chkE] at h
    split at h
    · rename_i hx; obtain ⟨p, q, rfl⟩ := gCa_of hx; rfl
    · rename_i hx; obtain ⟨p, q, rfl⟩ := gCa_of hx; rfl
    · cases h
  | bi _ b _ =>
    unfold chkE at h
    split at h
    · split at h
      · rename_i hx; obtain ⟨p, q, rfl⟩ := gCa_of hx; rfl
      · cases h
    · split at h
      · rename_i hx; obtain ⟨p, q, rfl⟩ := gCa_of hx; rfl
      · cases h
    · rw [Bool.and_eq_true] at h
      replace h := h.2
      split at h
      · rename_i hx; obtain ⟨p, q, rfl⟩ := gCa_of hx; rfl
      · cases h
  | xval _ =>
    simp only [chkE] at h
    split at h
    · rename_i hx; obtain ⟨p, rfl⟩ := gAt_of hx; rfl
    · cases h
  | act _ =>
    simp only [chkE] at h
    split at h
    · rename_i hx; obtain ⟨p, q, rfl⟩ := gC0_of hx; rfl
    · cases h
  | callp _ _ _ =>
    simp only [chkE] at h
    split at h
    · rename_i hx; obtain ⟨p, q, rfl⟩ := gCk_of hx; rfl
    · cases h
  | cal1 _ _ _ _ =>
    simp only [chkE] at h
    split at h
    · rename_i hx; obtain ⟨p, q, rfl⟩ := gCa_of hx; rfl
    · cases h
  | mt _ _ _ =>
    simp only [chkE] at h
    split at h
    · rename_i hx; obtain ⟨p, q, rfl, _⟩ := gMe_of hx; rfl
    · cases h
  | lc _ _ _ _ _ =>
    simp only [chkE] at h
    split at h
    · rename_i hx; obtain ⟨p, rfl⟩ := gLc_of hx; rfl
    · cases h
  | _ => simp [chkE] at h
theorem t_if {T : Tb} {W : WX} {X : Cx} {t a b : PySem.Expr} {mt ma mb : List D → Hh → Res D} {pos : Pos} (ht : PT X t (tTest (LE T W mt))) (ha : PT X a (tTest (LE T W ma))) (hb : PT X b (tTest (LE T W mb))) : PT X (.IfExp t a b pos) (tTest (LE T W (ifM mt ma mb))) := by
  refine ⟨fun pins s σ H Q I h => ?_⟩
  show wpAny (model X.prog X.w) X.A (isTrue t X.env (eval t X.env) >>= fun c => if c then isTrue a X.env (eval a X.env) else isTrue b X.env (eval b X.env)) _ _ _
  obtain ⟨R, e, h, r, env, p⟩ := h
  refine wpAny_bind (thn (ht.run pins s σ H (fun c H1 => if c = true then tTest (LE T W ma) σ H1 Q else tTest (LE T W mb) σ H1 Q) I ⟨R, e, h, r, env, PostG.bind p fun R1 x v h1 H1 l1 r1 d1 p1 => ?_⟩) fun c s1 ⟨H1, I1, q1⟩ => ?_)
  · cases x with
    | bl t =>
      refine ⟨t, bl_rd d1, ?_⟩
      cases t with
      | true => rw [if_pos rfl]; exact ⟨R1, e, h1, r1, env.mono l1, p1⟩
      | false => rw [if_neg (by decide)]; exact ⟨R1, e, h1, r1, env.mono l1, p1⟩
    | _ => exact absurd p1 id
  · cases c with
    | true => exact ha.run pins s1 σ H1 Q I1 q1
    | false => exact hb.run pins s1 σ H1 Q I1 q1

theorem chkTs_tame (c : Ck) : ∀ (es : Tgs) (xs : List PySem.Expr), chkTs c es xs = true → xs.all tame = true
  | .nil, xs, h => by
    unfold chkTs at h
    cases xs with
    | nil => rfl
    | cons x xs => cases h
  | .cons a r, xs, h => by
    unfold chkTs at h
    cases xs with
    | nil => cases h
    | cons x xs =>
      simp only [Bool.and_eq_true] at h
      rw [List.all_cons, h.1, chkTs_tame c r xs h.2.2]
      rfl
theorem chkTs_len (c : Ck) (G : Glb) : ∀ (ts : Tgs) (xs : List PySem.Expr), chkTs c ts xs = true → ∀ ds e h r, evTs G ts ds e h = r → (∃ e' h', r = .ok e' h') → ds.length = xs.length
  | .nil, xs, h => by
    unfold chkTs at h
    intro ds e h' r hr ⟨e', h'', er⟩
    cases xs with
    | nil =>
      cases ds with
      | nil => rfl
      | cons d ds => simp only [evTs] at hr; subst hr; cases er
    | cons x xs => cases h
  | .cons t ts, xs, h => by
    unfold chkTs at h
    intro ds e h' r hr ⟨e', h'', er⟩
    cases xs with
    | nil => cases h
    | cons x xs =>
      simp only [Bool.and_eq_true] at h
      cases ds with
      | nil => simp only [evTs] at hr; subst hr; cases er
      | cons d ds =>
        simp only [evTs] at hr
        cases q : evT G t d e h' with
        | ok e1 h1 =>
          rw [q, bind_ok] at hr
          rw [List.length_cons, List.length_cons, chkTs_len c G ts xs h.2.2 ds e1 h1 r hr ⟨e', h'', er⟩]
        | exc cc w h1 => rw [q, bind_exc] at hr; subst hr; cases er
        | stk => rw [q, bind_stk] at hr; subst hr; cases er

theorem evs_len (c : Ck) (G : Glb) : ∀ (es : Es) (xs : List PySem.Expr), chkEs c es xs = true → ∀ ds e h h', evs G es e h = .ok ds h' → ds.length = xs.length
  | .nil, xs, hc, ds, e, h, h', q => by
    unfold chkEs at hc
    cases xs with
    | nil => rw [evs] at q; cases q; rfl
    | cons x xs => cases hc
  | .cons a r, xs, hc, ds, e, h, h', q => by
    unfold chkEs at hc
    cases xs with
    | nil => cases hc
    | cons x xs =>
      simp only [Bool.and_eq_true] at hc
      rw [evs] at q
      cases q1 : ev G a e h with
      | ok d h1 =>
        rw [q1, bind_ok] at q
        cases q2 : evs G r e h1 with
        | ok dr h2 =>
          rw [q2, bind_ok] at q
          cases q
          rw [List.length_cons, List.length_cons, evs_len c G r xs hc.2.2 dr e h1 _ q2]
        | exc _ _ _ => rw [q2] at q; cases q
        | stk => rw [q2] at q; cases q
      | exc _ _ _ => rw [q1] at q; cases q
      | stk => rw [q1] at q; cases q
theorem s_pop1 {T : Tb} {G : Glb} {k : Nat} {c : Ck} {X : Cx} {W : WX} {o a : PySem.Expr} {p pos : Pos} {mo : List D → Hh → Res D} {ms : List D → Hh → Res (List D)} (g : Good T G k c X) (hc : noCl o = true) (ht : tame a = true) (hl : (p.endLine == pos.line) = true) (ho : PE X o (LE T W mo)) (ha : PA X [a] (LA T W ms))
    (hlen : ∀ ds e h h', ms e h = .ok ds h' → ds.length = 1) :
    PE X (.Call (.Attribute o "pop" p) [a] [] pos) (LE T W (mtM .pop mo ms)) := by
  refine PE.weak (pe_bm PySem.F.plainAttrs_list PySem.F.slot_list_pop PySem.F.type_list_pop mt_popAt ho ha (attr_of hc _ _ _) (few1 ht _ _) hl (star_of ht _ _) rfl) fun σ H Q ⟨R, e, h, r, env, p⟩ => ?_
  refine ⟨R, e, h, r, env, PostG.bind p fun R1 x v h1 H1 l1 r1 d1 p1 => ?_⟩
  split at p1
  · rename_i hr
    refine ⟨by rw [g.K]; exact tyV_ls r1 hr d1, R1, e, h1, r1, env.mono l1, ?_⟩
    cases q : ms e h1 with
    | ok y h2 =>
      rw [q] at p1
      exact fun R2 w H2 l2 r2 d2 => popAt_rd R2 h2 H2 x y v w σ Q r2 (d1.mono l2) d2 (hlen _ _ _ _ q) (PostG.mono l2 p1)
    | exc cc w h2 => rw [q] at p1; exact p1
    | stk => rw [q] at p1; exact p1
  · exact absurd p1 (fun z => z)
section
variable {T : Tb} {G : Glb} {k : Nat}
theorem s_one {X : Cx} {W : WX} {a : PySem.Expr} {o : BoolOp} {pos : Pos} {t : TE} (h : PE X a t) : PE X (.BoolOp o [a] pos) t := ⟨h.run⟩
mutual
theorem sE : ∀ (x : E) (c : Ck) (X : Cx) (W : WX) (e : PySem.Expr), Good T G k c X → Takes X W → chkE c x e = true → PE X e (LE T W (ev G x))
  | .var i, c, X, W, e, g, tk, h => by
    simp only [chkE] at h
    split at h
    · rename_i x hx
      obtain ⟨p, rfl⟩ := gNm_of hx
      simp only [Bool.and_eq_true, decide_eq_true_eq] at h
      exact s_var (pe_var (by rw [g.N]; exact h.1) (g.vis h.2.1) (okN_of h.2.2).1 (okN_of h.2.2).2)
    · cases h
  | .non, c, X, W, e, g, tk, h => by
    simp only [chkE, decide_eq_true_eq] at h
    obtain ⟨j, p, rfl⟩ := gCon_of h
    exact cgE (s_const (T := T) (W := W) pe_non (dd := .non) fun R => by simp only [DV]) fun e h => by rw [ev] <;> rfl
  | .bl b, c, X, W, e, g, tk, h => by
    simp only [chkE, decide_eq_true_eq] at h
    obtain ⟨j, p, rfl⟩ := gCon_of h
    exact cgE (s_const (T := T) (W := W) pe_bl (dd := .bl b) fun R => by simp only [DV]) fun e h => by rw [ev] <;> rfl
  | .int i, c, X, W, e, g, tk, h => by
    simp only [chkE, decide_eq_true_eq] at h
    obtain ⟨j, p, rfl⟩ := gCon_of h
    exact cgE (s_const (T := T) (W := W) pe_int (dd := .int i) fun R => by simp only [DV]) fun e h => by rw [ev] <;> rfl
  | .str x, c, X, W, e, g, tk, h => by
    simp only [chkE, decide_eq_true_eq] at h
    obtain ⟨j, p, rfl⟩ := gCon_of h
    exact cgE (s_const (T := T) (W := W) pe_str (dd := .str x) fun R => by simp only [DV]) fun e h => by rw [ev] <;> rfl
  | .glo gi i, c, X, W, e, g, tk, h => by
    simp only [chkE] at h
    split at h
    · rename_i x hx
      obtain ⟨p, rfl⟩ := gNm_of hx
      simp only [Bool.and_eq_true, decide_eq_true_eq] at h
      obtain ⟨t, ht⟩ := g.con gi x i h.1
      exact cgE (s_const (T := T) (W := W) (pe_glob (v := .int i) (g.gl h.2.1) ht ⟨t, rfl⟩ (okN_of h.2.2).1) (dd := .int i) fun R => by simp only [DV]) fun e h => by rw [ev] <;> rfl
    · cases h
  | .neg a, c, X, W, e, g, tk, h => by
    simp only [chkE] at h
    split at h
    · rename_i x hx
      obtain ⟨p, rfl⟩ := gUn_of hx
      exact cgE (s_neg (sE a c X W x g tk h)) fun e h => by rw [ev] <;> rfl
    · cases h
  | .not a, c, X, W, e, g, tk, h => by
    simp only [chkE] at h
    split at h
    · rename_i x hx
      obtain ⟨p, rfl⟩ := gUn_of hx
      exact cgE (s_not (sE a c X W x g tk h)) fun e h => by rw [ev] <;> rfl
    · cases h
  | .bin lv o a b, c, X, W, e, g, tk, h => by
    simp only [chkE] at h
    split at h
    · rename_i x p y hx
      obtain ⟨q, rfl⟩ := gBin_of hx
      simp only [Bool.and_eq_true, decide_eq_true_eq] at h
      obtain ⟨rfl, h1, h2⟩ := h
      exact cgE (s_bin (lv := lv) g.K (sE a c X W x g tk h1) (sE b c X W y g tk h2)) fun e h => by rw [ev] <;> rfl
    · cases h
  | .cmp o a b, c, X, W, e, g, tk, h => by
    simp only [chkE] at h
    split at h
    · rename_i x p y hx
      obtain ⟨q, rfl⟩ := gC1_of hx
      simp only [Bool.and_eq_true, decide_eq_true_eq] at h
      obtain ⟨rfl, h1, h2, h3⟩ := h
      exact cgE (s_cmp g (sE a c X W x g tk h1) (sE b c X W y g tk h2) (tame_marks h3)) fun e h => by rw [ev] <;> rfl
    · cases h
  | .chn o o' a b d, c, X, W, e, g, tk, h => by
    simp only [chkE] at h
    split at h
    · rename_i x p y p' z hx
      obtain ⟨q, rfl⟩ := gC2_of hx
      simp only [Bool.and_eq_true, decide_eq_true_eq] at h
      obtain ⟨rfl, rfl, h1, h2, h3, h4⟩ := h
      exact cgE (s_chn g (sE a c X W x g tk h1) (sE b c X W y g tk h2) (sE d c X W z g tk h3) (tame_last h4)) fun e h => by rw [ev] <;> rfl
    · cases h
  | .one a, c, X, W, e, g, tk, h => by
    simp only [chkE] at h
    split at h
    · rename_i o x p hx
      have := gBo_of hx
      subst this
      exact cgE (s_one (W := W) (sE a c X W x g tk h)) fun e h => by rw [ev] <;> rfl
    · cases h
  | .and a b, c, X, W, e, g, tk, h => by
    simp only [chkE] at h
    split at h
    · rename_i x y r p hx
      have := gBo_of hx
      subst this
      simp only [Bool.and_eq_true] at h
      exact cgE (s_and (sE a c X W x g tk h.1) (sE b c X W _ g tk h.2)) fun e h => by rw [ev] <;> rfl
    · cases h
  | .or a b, c, X, W, e, g, tk, h => by
    simp only [chkE] at h
    split at h
    · rename_i x y r p hx
      have := gBo_of hx
      subst this
      simp only [Bool.and_eq_true] at h
      exact cgE (s_or (sE a c X W x g tk h.1) (sE b c X W _ g tk h.2)) fun e h => by rw [ev] <;> rfl
    · cases h
  | .ife t a b, c, X, W, e, g, tk, h => by
    simp only [chkE] at h
    split at h
    · rename_i x y z hx
      obtain ⟨p, rfl⟩ := gIf_of hx
      simp only [Bool.and_eq_true] at h
      exact cgE (s_if (sPT t c X W x g tk h.1) (sE a c X W y g tk h.2.1) (sE b c X W z g tk h.2.2)) fun e h => by rw [ev] <;> rfl
    · cases h
  | .idx a i, c, X, W, e, g, tk, h => by
    simp only [chkE] at h
    split at h
    · rename_i x y hx
      obtain ⟨p, rfl⟩ := gSub_of hx
      simp only [Bool.and_eq_true] at h
      exact cgE (s_idx g (sE a c X W x g tk h.2.1) (sE i c X W y g tk h.2.2) (noSl_of h.1)) fun e h => by rw [ev] <;> rfl
    · cases h
  | .slc a lo hi, c, X, W, e, g, tk, h => by
    simp only [chkE] at h
    split at h
    · rename_i x l u hx
      obtain ⟨p, q, rfl⟩ := gSl_of hx
      simp only [Bool.and_eq_true] at h
      obtain ⟨tl, l1, l2⟩ := sO lo c X W l g tk h.2.1
      obtain ⟨th, u1, u2⟩ := sO hi c X W u g tk h.2.2
      exact cgE (s_slc g.K (sE a c X W x g tk h.1) l1 u1 l2 u2) fun e h => by rw [ev] <;> rfl
    · cases h
  | .nil, c, X, W, e, g, tk, h => by simp [chkE] at h
  | .tup es, c, X, W, e, g, tk, h => by
    simp only [chkE] at h
    split at h
    · rename_i xs hx
      obtain ⟨j, p, rfl⟩ := gTu_of hx
      exact cgE (s_tup (sEs es c X W xs g tk h)) fun e h => by rw [ev] <;> rfl
    · cases h
  | .lst lv es, c, X, W, e, g, tk, h => by
    simp only [chkE] at h
    split at h
    · rename_i xs hx
      obtain ⟨p, rfl⟩ := gLs_of hx
      exact cgE (s_lst (lv := lv) (sEs es c X W xs g tk h)) fun e h => by rw [ev] <;> rfl
    · cases h
  | .dK lv, c, X, W, e, g, tk, h => by
    simp only [chkE] at h
    obtain ⟨p, rfl⟩ := isDi_of h
    exact s_dK
  | .dT lv, c, X, W, e, g, tk, h => by
    simp only [chkE] at h
    obtain ⟨p, rfl⟩ := isDi_of h
    exact s_dT
  | .call f es, c, X, W, e, g, tk, h => by
    simp only [chkE] at h
    split at h
    · rename_i x y ys hx
      obtain ⟨p, q, rfl⟩ := gCa_of hx
      simp only [Bool.and_eq_true, decide_eq_true_eq] at h
      have ht := chkEs_tame c es _ h.2.2.2
      simp only [List.all_cons, Bool.and_eq_true] at ht
      exact cgE (s_call g tk h.1 (g.gl h.2.1) h.2.2.1 ht.1 ht.2 (sEs es c X W _ g tk h.2.2.2)) fun e h => by rw [ev] <;> rfl
    · rename_i x hx
      obtain ⟨p, q, rfl⟩ := gCa_of hx
      simp only [Bool.and_eq_true, decide_eq_true_eq] at h
      have en := nilEs_of h.2.2.2
      subst en
      exact cgE (s_call0 g tk h.1 (g.gl h.2.1) h.2.2.1) fun e h => by rw [ev, evs] <;> rfl
    · cases h
  | .bi lv b es, c, X, W, e, g, tk, h => by
    unfold chkE at h
    split at h
    · rename_i ts
      split at h
      · rename_i x y z a hx
        obtain ⟨p, q, rfl⟩ := gCa_of hx
        simp only [Bool.and_eq_true, decide_eq_true_eq] at h
        obtain ⟨h1, h2, h3, h4, h5, h6⟩ := h
        refine cgE (s_isi (lv := lv) g h1 h2 h4 h5 (sE a c X W y g tk h3) h6) fun e h => ?_
        rw [ev]
        simp only [evs]
        cases ev G a e h <;> rfl
      · cases h
    · rename_i ci
      split at h
      · rename_i x y z a hx
        obtain ⟨p, q, rfl⟩ := gCa_of hx
        simp only [Bool.and_eq_true, decide_eq_true_eq] at h
        obtain ⟨h1, h2, h3, h4, h5, h6⟩ := h
        cases ez : gNm z with
        | none => rw [ez] at h6; cases h6
        | some n =>
          rw [ez] at h6
          obtain ⟨q2, rfl⟩ := gNm_of ez
          simp only [Bool.and_eq_true, decide_eq_true_eq] at h6
          refine cgE (s_isx (lv := lv) g h1 h2 h4 (sE a c X W y g tk h3) h6.1 h6.2.1 h6.2.2) fun e h => ?_
          rw [ev]
          simp only [evs]
          cases ev G a e h <;> rfl
      · cases h
    · rw [Bool.and_eq_true] at h
      obtain ⟨hb, h⟩ := h
      have n1 : ∀ ts, b ≠ .isinst ts := fun ts z => by rw [z] at hb; cases hb
      have n2 : ∀ ts, b ≠ .isexc ts := fun ts z => by rw [z] at hb; cases hb
      split at h
      · rename_i x y ys hx
        obtain ⟨p, q, rfl⟩ := gCa_of hx
        simp only [Bool.and_eq_true, decide_eq_true_eq] at h
        have ht := chkEs_tame c es _ h.2.2
        simp only [List.all_cons, Bool.and_eq_true] at ht
        exact cgE (s_biB (lv := lv) g h.1 h.2.1 n1 n2 ht.1 ht.2 (sEs es c X W _ g tk h.2.2)) fun e h => by rw [ev] <;> rfl
      · cases h
  | .mt m a es, c, X, W, e, g, tk, h => by
    simp only [chkE] at h
    split at h
    · rename_i o n ys hx
      obtain ⟨p, q, rfl, hl⟩ := gMe_of hx
      simp only [Bool.and_eq_true, decide_eq_true_eq] at h
      obtain ⟨rfl, hc, hm, h1, h2⟩ := h
      have ht := chkEs_tame c es _ h2
      have po := sE a c X W o g tk h1
      have pa := sEs es c X W ys g tk h2
      clear hx
      match m, ys, hm, ht, h2, pa with
      | .append, [y], _, ht, _, pa =>
        simp only [List.all_cons, List.all_nil, Bool.and_true] at ht
        exact cgE (s_list1 (m := .append) g.K PySem.F.slot_list_append PySem.F.type_list_append mt_append (fun _ _ => rfl) append_rd hc ht hl po pa) fun e h => by rw [ev] <;> rfl
      | .index, [y], _, ht, _, pa =>
        simp only [List.all_cons, List.all_nil, Bool.and_true] at ht
        exact cgE (s_list1 (m := .index) g.K PySem.F.slot_list_index PySem.F.type_list_index (by rw [← g.K]; exact mt_index) (fun _ _ => rfl) index_rd hc ht hl po pa) fun e h => by rw [ev] <;> rfl
      | .count, [y], _, ht, _, pa =>
        simp only [List.all_cons, List.all_nil, Bool.and_true] at ht
        exact cgE (s_list1 (m := .count) g.K PySem.F.slot_list_count PySem.F.type_list_count (by rw [← g.K]; exact mt_countB) (fun _ _ => rfl) count_rd hc ht hl po pa) fun e h => by rw [ev] <;> rfl
      | .pop, [y], _, ht, h2, pa =>
        simp only [List.all_cons, List.all_nil, Bool.and_true] at ht
        exact cgE (s_pop1 g hc ht hl po pa (fun ds e h h' q => evs_len c G es _ h2 ds e h h' q)) fun e h => by rw [ev] <;> rfl
      | .pop, [], _, _, h2, pa =>
        have en : es = .nil := by
          cases es with
          | nil => rfl
          | cons _ _ => simp [chkEs] at h2
        subst en
        exact cgE (s_list0 (m := .pop) g.K PySem.F.slot_list_pop PySem.F.type_list_pop mt_pop (fun _ _ => rfl) pop_rd hc hl po) fun e h => by
          rw [ev]
          simp only [evs]
          rfl
      | .bitlen, [], _, _, h2, pa =>
        have en : es = .nil := by
          cases es with
          | nil => rfl
          | cons _ _ => simp [chkEs] at h2
        subst en
        exact cgE (s_bits hc hl po) fun e h => by
          rw [ev]
          simp only [evs]
          rfl
      | .get, [y, z], _, ht, h2, pa =>
        obtain ⟨b, d, rfl⟩ : ∃ b d, es = .cons b (.cons d .nil) := by
          clear pa po
          match es, h2 with
          | .nil, h2 => simp [chkEs] at h2
          | .cons _ .nil, h2 => simp [chkEs] at h2
          | .cons _ (.cons _ (.cons _ _)), h2 => simp [chkEs] at h2
          | .cons b (.cons d .nil), h2 => exact ⟨b, d, rfl⟩
        · simp only [chkEs, Bool.and_eq_true] at h2
          obtain ⟨t1, h3, t2, h4, _⟩ := h2
          refine cgE (s_get g hc t1 t2 hl po (sE b c X W y g tk h3) (sE d c X W z g tk h4)) fun e h => ?_
          rw [ev]
          simp only [evs]
          congr 1
          funext x h
          split
          · cases ev G b e h with
            | ok v h =>
              simp only [bind_ok]
              cases ev G d e h <;> rfl
            | exc _ _ _ => rfl
            | stk => rfl
          · rfl
    · cases h
  | .lc lv s t fs x, c, X, W, e, g, tk, h => by
    simp only [chkE] at h
    split at h
    · rename_i elt tg iter ifs sc hx
      obtain ⟨p, rfl⟩ := gLc_of hx
      simp only [Bool.and_eq_true, decide_eq_true_eq] at h
      obtain ⟨h1, h2, h3, h4, h5, h6, h7, h8⟩ := h
      refine cgE (s_lc (lv := lv) (own := t.own) g h1 h2 (by rw [List.map_map]; exact List.map_id' _) (sI s c X W t tg iter g tk h3) (fun X' g' => ?_) (fun X' g' => sB fs (c.blk sc) X' W0 ifs g' takes0 h5 h6) (fun X' g' => sE x (c.blk sc) X' W0 elt g' takes0 h7)) fun e h => by rw [ev] <;> rfl
      exact sT t (c.blk sc) X' W0 tg g' takes0 h4
    · cases h
  | .frz a, c, X, W, e, g, tk, h => by
    simp only [chkE] at h
    exact cgE (sE a c X W e g tk h) fun e h => by rw [ev] <;> rfl
  | .cal1 f ls ks es, c, X, W, e, g, tk, h => by
    simp only [chkE] at h
    split at h
    · rename_i x y ys hx
      obtain ⟨p, q, rfl⟩ := gCa_of hx
      simp only [Bool.and_eq_true, decide_eq_true_eq] at h
      obtain ⟨h1, h2, h3, h4, h5, h6, h7⟩ := h
      exact cgE (s_cal1 (ls := ls) (ks := ks) g (by simpa using h5) h4 h1 (g.gl h2) h3 h7 (chkEs_tame c es _ h6) (sEs es c X W ys g tk h6)) fun e h => by rw [ev] <;> rfl
    · cases h
  | .callp f pm es, c, X, W, e, g, tk, h => by
    simp only [chkE] at h
    split at h
    · rename_i x kws hx
      obtain ⟨p, q, rfl⟩ := gCk_of hx
      split at h
      · rename_i ks ys hk
        simp only [Bool.and_eq_true, decide_eq_true_eq] at h
        obtain ⟨h1, h2, h3, h4, h5, h6⟩ := h
        exact cgE (s_callp g tk h1 (g.gl h2) h3 hk h4 (sKs es c X W kws ks ys g tk hk h6) fun ds e h h' q => evs_len c G es ys h6 ds e h h' q) fun e h => by rw [ev] <;> rfl
      · cases h
    · cases h
  | .fld _ _, c, X, W, e, g, tk, h => by simp [chkE] at h
  | .om _ _ _ _ _, c, X, W, e, g, tk, h => by simp [chkE] at h
  | .mk _ _ _, c, X, W, e, g, tk, h => by simp [chkE] at h
  | .xval a, c, X, W, e, g, tk, h => by
    simp only [chkE] at h
    split at h
    · rename_i o n hx
      obtain ⟨p, rfl⟩ := gAt_of hx
      simp only [Bool.and_eq_true, decide_eq_true_eq] at h
      obtain ⟨rfl, h2, h3⟩ := h
      exact cgE (s_xval g h2 (sE a c X W o g tk h3)) fun e h => by rw [ev] <;> rfl
    · cases h
  | .act i, c, X, W, e, g, tk, h => by
    simp only [chkE] at h
    split at h
    · rename_i x hx
      obtain ⟨p, q, rfl⟩ := gC0_of hx
      simp only [Bool.and_eq_true, decide_eq_true_eq] at h
      exact s_act g tk h.1 (g.vis h.2.1) h.2.2
    · cases h

termination_by x _ _ _ _ _ _ _ => (sizeOf x, 0)
theorem sPT : ∀ (x : E) (c : Ck) (X : Cx) (W : WX) (e : PySem.Expr), Good T G k c X → Takes X W → chkE c x e = true → PT X e (tTest (LE T W (ev G x)))
  | .not a, c, X, W, e, g, tk, h => by
    simp only [chkE] at h
    split at h
    · rename_i x hx
      obtain ⟨p, rfl⟩ := gUn_of hx
      exact cgT (t_not (sPT a c X W x g tk h)) fun e h => by rw [ev] <;> rfl
    · cases h
  | .cmp o a b, c, X, W, e, g, tk, h => by
    simp only [chkE] at h
    split at h
    · rename_i x p y hx
      obtain ⟨q, rfl⟩ := gC1_of hx
      simp only [Bool.and_eq_true, decide_eq_true_eq] at h
      obtain ⟨rfl, h1, h2, h3⟩ := h
      exact cgT (t_cmp g (sE a c X W x g tk h1) (sE b c X W y g tk h2) (tame_marks h3)) fun e h => by rw [ev] <;> rfl
    · cases h
  | .chn o o' a b d, c, X, W, e, g, tk, h => by
    simp only [chkE] at h
    split at h
    · rename_i x p y p' z hx
      obtain ⟨q, rfl⟩ := gC2_of hx
      simp only [Bool.and_eq_true, decide_eq_true_eq] at h
      obtain ⟨rfl, rfl, h1, h2, h3, h4⟩ := h
      exact cgT (t_chn g (sE a c X W x g tk h1) (sE b c X W y g tk h2) (sE d c X W z g tk h3) (tame_last h4)) fun e h => by rw [ev] <;> rfl
    · cases h
  | .ife t a b, c, X, W, e, g, tk, h => by
    simp only [chkE] at h
    split at h
    · rename_i x y z hx
      obtain ⟨p, rfl⟩ := gIf_of hx
      simp only [Bool.and_eq_true] at h
      exact cgT (t_if (sPT t c X W x g tk h.1) (sPT a c X W y g tk h.2.1) (sPT b c X W z g tk h.2.2)) fun e h => by rw [ev] <;> rfl
    · cases h
  | .one a, c, X, W, e, g, tk, h => by
    simp only [chkE] at h
    split at h
    · rename_i o x p hx
      have := gBo_of hx
      subst this
      cases o with
      | And => exact cgT (pw_and1 (sPT a c X W x g tk h)).pt fun e h => by rw [ev] <;> rfl
      | Or => exact cgT (pw_or1 (sPT a c X W x g tk h)).pt fun e h => by rw [ev] <;> rfl
    · cases h
  | .and a b, c, X, W, e, g, tk, h => by
    simp only [chkE] at h
    split at h
    · rename_i x y r p hx
      have := gBo_of hx
      subst this
      simp only [Bool.and_eq_true] at h
      exact cgT (w_and (sPT a c X W x g tk h.1) (sPW b c X W .And (y :: r) p g tk h.2)).pt fun e h => by rw [ev] <;> rfl
    · cases h
  | .or a b, c, X, W, e, g, tk, h => by
    simp only [chkE] at h
    split at h
    · rename_i x y r p hx
      have := gBo_of hx
      subst this
      simp only [Bool.and_eq_true] at h
      exact cgT (w_or (sPT a c X W x g tk h.1) (sPW b c X W .Or (y :: r) p g tk h.2)).pt fun e h => by rw [ev] <;> rfl
    · cases h
  | .frz a, c, X, W, e, g, tk, h => by
    simp only [chkE] at h
    exact cgT (sPT a c X W e g tk h) fun e h => by rw [ev] <;> rfl
  | .var i, c, X, W, ex, g, tk, h => pt_of (sE (.var i) c X W ex g tk h) (plainE_of (chk_plain h rfl) _)
  | .non, c, X, W, ex, g, tk, h => pt_of (sE (.non) c X W ex g tk h) (plainE_of (chk_plain h rfl) _)
  | .bl b, c, X, W, ex, g, tk, h => pt_of (sE (.bl b) c X W ex g tk h) (plainE_of (chk_plain h rfl) _)
  | .int i, c, X, W, ex, g, tk, h => pt_of (sE (.int i) c X W ex g tk h) (plainE_of (chk_plain h rfl) _)
  | .str i, c, X, W, ex, g, tk, h => pt_of (sE (.str i) c X W ex g tk h) (plainE_of (chk_plain h rfl) _)
  | .glo i j, c, X, W, ex, g, tk, h => pt_of (sE (.glo i j) c X W ex g tk h) (plainE_of (chk_plain h rfl) _)
  | .neg a, c, X, W, ex, g, tk, h => pt_of (sE (.neg a) c X W ex g tk h) (plainE_of (chk_plain h rfl) _)
  | .bin a b d e, c, X, W, ex, g, tk, h => pt_of (sE (.bin a b d e) c X W ex g tk h) (plainE_of (chk_plain h rfl) _)
  | .idx a b, c, X, W, ex, g, tk, h => pt_of (sE (.idx a b) c X W ex g tk h) (plainE_of (chk_plain h rfl) _)
  | .slc a b d, c, X, W, ex, g, tk, h => pt_of (sE (.slc a b d) c X W ex g tk h) (plainE_of (chk_plain h rfl) _)
  | .nil, c, X, W, ex, g, tk, h => pt_of (sE (.nil) c X W ex g tk h) (plainE_of (chk_plain h rfl) _)
  | .tup a, c, X, W, ex, g, tk, h => pt_of (sE (.tup a) c X W ex g tk h) (plainE_of (chk_plain h rfl) _)
  | .lst a b, c, X, W, ex, g, tk, h => pt_of (sE (.lst a b) c X W ex g tk h) (plainE_of (chk_plain h rfl) _)
  | .dK a, c, X, W, ex, g, tk, h => pt_of (sE (.dK a) c X W ex g tk h) (plainE_of (chk_plain h rfl) _)
  | .dT a, c, X, W, ex, g, tk, h => pt_of (sE (.dT a) c X W ex g tk h) (plainE_of (chk_plain h rfl) _)
  | .call a b, c, X, W, ex, g, tk, h => pt_of (sE (.call a b) c X W ex g tk h) (plainE_of (chk_plain h rfl) _)
  | .cal1 a b d e, c, X, W, ex, g, tk, h => pt_of (sE (.cal1 a b d e) c X W ex g tk h) (plainE_of (chk_plain h rfl) _)
  | .bi a b d, c, X, W, ex, g, tk, h => pt_of (sE (.bi a b d) c X W ex g tk h) (plainE_of (chk_plain h rfl) _)
  | .mt a b d, c, X, W, ex, g, tk, h => pt_of (sE (.mt a b d) c X W ex g tk h) (plainE_of (chk_plain h rfl) _)
  | .fld a b, c, X, W, ex, g, tk, h => pt_of (sE (.fld a b) c X W ex g tk h) (plainE_of (chk_plain h rfl) _)
  | .om a b d e f, c, X, W, ex, g, tk, h => pt_of (sE (.om a b d e f) c X W ex g tk h) (plainE_of (chk_plain h rfl) _)
  | .mk a b d, c, X, W, ex, g, tk, h => pt_of (sE (.mk a b d) c X W ex g tk h) (plainE_of (chk_plain h rfl) _)
  | .xval a, c, X, W, ex, g, tk, h => pt_of (sE (.xval a) c X W ex g tk h) (plainE_of (chk_plain h rfl) _)
  | .lc a b d e f, c, X, W, ex, g, tk, h => pt_of (sE (.lc a b d e f) c X W ex g tk h) (plainE_of (chk_plain h rfl) _)
  | .act a, c, X, W, ex, g, tk, h => pt_of (sE (.act a) c X W ex g tk h) (plainE_of (chk_plain h rfl) _)
  | .callp a b d, c, X, W, ex, g, tk, h => pt_of (sE (.callp a b d) c X W ex g tk h) (plainE_of (chk_plain h rfl) _)
termination_by x _ _ _ _ _ _ _ => (sizeOf x, 1)
theorem sPW : ∀ (x : E) (c : Ck) (X : Cx) (W : WX) (o : BoolOp) (es : List PySem.Expr) (p : Pos), Good T G k c X → Takes X W → chkE c x (.BoolOp o es p) = true → PW X (.BoolOp o es p) (tTest (LE T W (ev G x)))
  | .one a, c, X, W, o, es, p, g, tk, h => by
    simp only [chkE] at h
    split at h
    · rename_i o x p hx
      have := gBo_of hx
      cases this
      cases o with
      | And => exact cgW (pw_and1 (sPT a c X W x g tk h)) fun e h => by rw [ev] <;> rfl
      | Or => exact cgW (pw_or1 (sPT a c X W x g tk h)) fun e h => by rw [ev] <;> rfl
    · cases h
  | .and a b, c, X, W, o, es, p, g, tk, h => by
    simp only [chkE] at h
    split at h
    · rename_i x y r p hx
      have := gBo_of hx
      cases this
      simp only [Bool.and_eq_true] at h
      exact cgW (w_and (sPT a c X W x g tk h.1) (sPW b c X W .And (y :: r) p g tk h.2)) fun e h => by rw [ev] <;> rfl
    · cases h
  | .or a b, c, X, W, o, es, p, g, tk, h => by
    simp only [chkE] at h
    split at h
    · rename_i x y r p hx
      have := gBo_of hx
      cases this
      simp only [Bool.and_eq_true] at h
      exact cgW (w_or (sPT a c X W x g tk h.1) (sPW b c X W .Or (y :: r) p g tk h.2)) fun e h => by rw [ev] <;> rfl
    · cases h
  | .frz a, c, X, W, o, es, p, g, tk, h => by
    simp only [chkE] at h
    exact cgW (sPW a c X W o es p g tk h) fun e h => by rw [ev] <;> rfl
  | .not a, c, X, W, o, es, p, g, tk, h => by simp [chkE, gUn] at h
  | .cmp _ _ _, c, X, W, o, es, p, g, tk, h => by simp [chkE, gC1] at h
  | .chn _ _ _ _ _, c, X, W, o, es, p, g, tk, h => by simp [chkE, gC2] at h
  | .ife _ _ _, c, X, W, o, es, p, g, tk, h => by simp [chkE, gIf] at h
  | .var i, c, X, W, o, es, p, g, tk, h => absurd (chk_plain h rfl) (by simp [plainE])
  | .non, c, X, W, o, es, p, g, tk, h => absurd (chk_plain h rfl) (by simp [plainE])
  | .bl b, c, X, W, o, es, p, g, tk, h => absurd (chk_plain h rfl) (by simp [plainE])
  | .int i, c, X, W, o, es, p, g, tk, h => absurd (chk_plain h rfl) (by simp [plainE])
  | .str i, c, X, W, o, es, p, g, tk, h => absurd (chk_plain h rfl) (by simp [plainE])
  | .glo i j, c, X, W, o, es, p, g, tk, h => absurd (chk_plain h rfl) (by simp [plainE])
  | .neg a, c, X, W, o, es, p, g, tk, h => absurd (chk_plain h rfl) (by simp [plainE])
  | .bin a b d e, c, X, W, o, es, p, g, tk, h => absurd (chk_plain h rfl) (by simp [plainE])
  | .idx a b, c, X, W, o, es, p, g, tk, h => absurd (chk_plain h rfl) (by simp [plainE])
  | .slc a b d, c, X, W, o, es, p, g, tk, h => absurd (chk_plain h rfl) (by simp [plainE])
  | .nil, c, X, W, o, es, p, g, tk, h => absurd (chk_plain h rfl) (by simp [plainE])
  | .tup a, c, X, W, o, es, p, g, tk, h => absurd (chk_plain h rfl) (by simp [plainE])
  | .lst a b, c, X, W, o, es, p, g, tk, h => absurd (chk_plain h rfl) (by simp [plainE])
  | .dK a, c, X, W, o, es, p, g, tk, h => absurd (chk_plain h rfl) (by simp [plainE])
  | .dT a, c, X, W, o, es, p, g, tk, h => absurd (chk_plain h rfl) (by simp [plainE])
  | .call a b, c, X, W, o, es, p, g, tk, h => absurd (chk_plain h rfl) (by simp [plainE])
  | .cal1 a b d e, c, X, W, o, es, p, g, tk, h => absurd (chk_plain h rfl) (by simp [plainE])
  | .bi a b d, c, X, W, o, es, p, g, tk, h => absurd (chk_plain h rfl) (by simp [plainE])
  | .mt a b d, c, X, W, o, es, p, g, tk, h => absurd (chk_plain h rfl) (by simp [plainE])
  | .fld a b, c, X, W, o, es, p, g, tk, h => absurd (chk_plain h rfl) (by simp [plainE])
  | .om a b d e f, c, X, W, o, es, p, g, tk, h => absurd (chk_plain h rfl) (by simp [plainE])
  | .mk a b d, c, X, W, o, es, p, g, tk, h => absurd (chk_plain h rfl) (by simp [plainE])
  | .xval a, c, X, W, o, es, p, g, tk, h => absurd (chk_plain h rfl) (by simp [plainE])
  | .lc a b d e f, c, X, W, o, es, p, g, tk, h => absurd (chk_plain h rfl) (by simp [plainE])
  | .act a, c, X, W, o, es, p, g, tk, h => absurd (chk_plain h rfl) (by simp [plainE])
  | .callp a b d, c, X, W, o, es, p, g, tk, h => absurd (chk_plain h rfl) (by simp [plainE])
termination_by x _ _ _ _ _ _ _ _ _ => (sizeOf x, 1)
theorem sO : ∀ (x : E) (c : Ck) (X : Cx) (W : WX) (e : Option PySem.Expr), Good T G k c X → Takes X W → chkO c x e = true → ∃ tl, PO X e tl ∧ PartS T W tl (ev G x)
  | x, c, X, W, none, g, tk, h => by
    unfold chkO at h
    cases x with
    | nil => exact ⟨_, po_none, part_none⟩
    | _ => cases h
  | x, c, X, W, some e, g, tk, h => by
    unfold chkO at h
    rw [Bool.and_eq_true] at h
    exact ⟨_, po_some (sE x c X W e g tk h.2), part_some⟩
termination_by x _ _ _ _ _ _ _ => (sizeOf x, 1)
theorem sEs : ∀ (x : Es) (c : Ck) (X : Cx) (W : WX) (es : List PySem.Expr), Good T G k c X → Takes X W → chkEs c x es = true → PA X es (LA T W (evs G x))
  | .nil, c, X, W, es, g, tk, h => by
    unfold chkEs at h
    cases es with
    | nil => exact cgA sa_nil fun e h => by rw [evs]
    | cons a l => cases h
  | .cons a r, c, X, W, es, g, tk, h => by
    unfold chkEs at h
    cases es with
    | nil => cases h
    | cons y l =>
      simp only [Bool.and_eq_true] at h
      exact cgA (sa_cons h.1 (sE a c X W y g tk h.2.1) (sEs r c X W l g tk h.2.2)) fun e h => by rw [evs]
termination_by x _ _ _ _ _ _ _ => (sizeOf x, 0)
theorem sKs : ∀ (x : Es) (c : Ck) (X : Cx) (W : WX) (kws : List Keyword) (ks : List Str) (ys : List PySem.Expr), Good T G k c X → Takes X W → gKw kws = some (ks, ys) → chkEs c x ys = true → PK X kws (LA T W (evs G x))
  | .nil, c, X, W, kws, ks, ys, g, tk, hk, h => by
    unfold chkEs at h
    cases kws with
    | nil =>
      have : evs G .nil = fun _ h => .ok [] h := by funext e h; rw [evs]
      rw [this]
      exact sk_nil
    | cons a l =>
      exfalso
      obtain ⟨n, v, p⟩ := a
      cases n with
      | none => cases hk
      | some n =>
        unfold gKw at hk
        split at hk
        · cases hk; cases h
        · cases hk
  | .cons a r, c, X, W, kws, ks, ys, g, tk, hk, h => by
    unfold chkEs at h
    cases kws with
    | nil => cases hk; cases h
    | cons q l =>
      obtain ⟨n, v, p⟩ := q
      cases n with
      | none => cases hk
      | some n =>
        unfold gKw at hk
        split at hk
        · rename_i ks' es' hr
          cases hk
          simp only [Bool.and_eq_true] at h
          have z := sk_cons (nm := some n) (kp := p) (sE a c X W v g tk h.2.1) (sKs r c X W l ks' es' g tk hr h.2.2)
          have e2 : evs G (.cons a r) = fun e h => (ev G a e h).bind fun d h => (evs G r e h).bind fun ds h => .ok (d :: ds) h := by funext e h; rw [evs]
          rw [e2]
          exact z
        · cases hk
termination_by x _ _ _ _ _ _ _ _ _ _ => (sizeOf x, 0)
theorem sB : ∀ (x : Es) (c : Ck) (X : Cx) (W : WX) (es : List PySem.Expr), Good T G k c X → Takes X W → chkEs c x es = true → es.length ≤ 1 → PTs X es (LB T W (evB G x))
  | .nil, c, X, W, es, g, tk, h, hl => by
    unfold chkEs at h
    cases es with
    | nil =>
      refine ⟨fun pins s σ H Q I ⟨R, e, h, r, env, q⟩ => pts_nil.run pins s σ H Q I ?_⟩
      rw [evB] at q
      exact q.val r rfl
    | cons a l => cases h
  | .cons a r, c, X, W, es, g, tk, h, hl => by
    unfold chkEs at h
    cases es with
    | nil => cases h
    | cons y l =>
      simp only [Bool.and_eq_true] at h
      have hl0 : l = [] := by
        cases l with
        | nil => rfl
        | cons _ _ => simp at hl
      subst hl0
      have hr : r = .nil := by
        have h2 := h.2.2
        cases r with
        | nil => rfl
        | cons _ _ => simp [chkEs] at h2
      subst hr
      refine ⟨fun pins s σ H Q I ⟨R, e, h', r, env, q⟩ => (pts_one (sPT a c X W y g tk h.2.1)).run pins s σ H Q I ⟨R, e, h', r, env, ?_⟩⟩
      rw [evB] at q
      refine PostG.bind q fun R1 x v h1 H1 l1 r1 d1 p1 => ?_
      split at p1
      · rw [evB] at p1
        exact ⟨true, by simpa only [DV] using d1, p1.val r1 rfl⟩
      · exact ⟨false, by simpa only [DV] using d1, p1.val r1 rfl⟩
      · exact absurd p1 id
termination_by x _ _ _ _ _ _ _ _ => (sizeOf x, 0)
theorem sI : ∀ (x : I) (c : Ck) (X : Cx) (W : WX) (t : Tg) (tg e : PySem.Expr), Good T G k c X → Takes X W → chkI c x t tg e = true → PI X tg e (LI T W (evI G x))
  | .seq a, c, X, W, t, tg, e, g, tk, h => by
    simp only [chkI] at h
    exact cgI (i_seq g.K (sE a c X W e g tk h)) fun e h => by rw [evI] <;> rfl
  | .rng1 a, c, X, W, t, tg, e, g, tk, h => by
    simp only [chkI] at h
    split at h
    · rename_i x y hx
      obtain ⟨p, q, rfl⟩ := gCa_of hx
      simp only [Bool.and_eq_true, decide_eq_true_eq] at h
      exact cgI (i_rng1 g h.1 h.2.1 h.2.2.1 (sE a c X W y g tk h.2.2.2)) fun e h => by rw [evI] <;> rfl
    · cases h
  | .rng2 a b, c, X, W, t, tg, e, g, tk, h => by
    simp only [chkI] at h
    split at h
    · rename_i x y z hx
      obtain ⟨p, q, rfl⟩ := gCa_of hx
      simp only [Bool.and_eq_true, decide_eq_true_eq] at h
      obtain ⟨h1, h2, h3, h4, h5, h6⟩ := h
      exact cgI (i_rng2 g h1 h2 h3 h4 (sE a c X W y g tk h5) (sE b c X W z g tk h6)) fun e h => by rw [evI] <;> rfl
    · cases h
  | .enum a, c, X, W, t, tg, e, g, tk, h => by
    simp only [chkI] at h
    split at h
    · rename_i x y hx
      obtain ⟨p, q, rfl⟩ := gCa_of hx
      simp only [Bool.and_eq_true, decide_eq_true_eq] at h
      obtain ⟨h1, h2, h3, h4, h5⟩ := h
      obtain ⟨es, he⟩ := Option.isSome_iff_exists.mp h5
      obtain ⟨j, p', rfl⟩ := gTu_of he
      exact cgI (i_enum g h1 h2 h3 (sE a c X W y g tk h4)) fun e h => by rw [evI] <;> rfl
    · cases h
  | .zip a b, c, X, W, t, tg, e, g, tk, h => by
    simp only [chkI] at h
    split at h
    · rename_i x y z hx
      obtain ⟨p, q, rfl⟩ := gCa_of hx
      simp only [Bool.and_eq_true, decide_eq_true_eq] at h
      obtain ⟨h1, h2, h3, h4, h5, h6, h7⟩ := h
      obtain ⟨es, he⟩ := Option.isSome_iff_exists.mp h7
      obtain ⟨j, p', rfl⟩ := gTu_of he
      exact cgI (i_zip g h1 h2 h3 h4 (sE a c X W y g tk h5) (sE b c X W z g tk h6)) fun e h => by rw [evI] <;> rfl
    · cases h
  | .items _, c, X, W, t, tg, e, g, tk, h => by simp [chkI] at h
termination_by x _ _ _ _ _ _ _ _ _ => (sizeOf x, 0)
theorem sT : ∀ (x : Tg) (c : Ck) (X : Cx) (W : WX) (e : PySem.Expr), Good T G k c X → Takes X W → chkT c x e = true → PG X e (LG T W x.own (evT G x))
  | .nm i, c, X, W, e, g, tk, h => by
    simp only [chkT] at h
    split at h
    · rename_i x hx
      obtain ⟨p, rfl⟩ := gNm_of hx
      simp only [Bool.and_eq_true, decide_eq_true_eq] at h
      exact cgG (g_nm g h.1 h.2.1 h.2.2) fun v e h => by rw [evT] <;> rfl
    · cases h
  | .sub a i, c, X, W, e, g, tk, h => by
    simp only [chkT] at h
    split at h
    · rename_i x y hx
      obtain ⟨p, rfl⟩ := gSub_of hx
      simp only [Bool.and_eq_true] at h
      exact cgG (g_sub g h.1 (sE a c X W x g tk h.2.1) (sE i c X W y g tk h.2.2)) fun v e h => by rw [evT] <;> rfl
    · cases h
  | .fld _ _, c, X, W, e, g, tk, h => by simp [chkT] at h
  | .tup ts, c, X, W, e, g, tk, h => by
    simp only [chkT] at h
    split at h
    · rename_i es hx
      obtain ⟨j, p, rfl⟩ := gTu_of hx
      have w := g_tup (pos := p) (kk := j) g (chkTs_tame c ts es h) (sTs ts c X W es g tk h) fun ds e h' r hr => ?_
      · exact cgG w fun v e h => by cases v <;> simp only [evT]
      · exact chkTs_len c G ts es h ds e h' r hr
    · cases h
termination_by x _ _ _ _ _ _ _ => (sizeOf x, 0)
theorem sTs : ∀ (x : Tgs) (c : Ck) (X : Cx) (W : WX) (es : List PySem.Expr), Good T G k c X → Takes X W → chkTs c x es = true → PGs X es (LGs T W x.own (evTs G x))
  | .nil, c, X, W, es, g, tk, h => by
    unfold chkTs at h
    cases es with
    | nil => exact cgGs (own := []) (m := fun ds e h => match ds with | [] => .ok e h | _ => .stk) g_nil fun v e h => by cases v <;> simp only [evTs]
    | cons _ _ => cases h
  | .cons t r, c, X, W, es, g, tk, h => by
    unfold chkTs at h
    cases es with
    | nil => cases h
    | cons y l =>
      simp only [Bool.and_eq_true] at h
      exact cgGs (m := fun ds e h => match ds with | x :: xs => (evT G t x e h).bind fun e h => evTs G r xs e h | _ => .stk) (g_cons h.1 (sT t c X W y g tk h.2.1) (sTs r c X W l g tk h.2.2)) fun v e h => by cases v <;> simp only [evTs]
termination_by x _ _ _ _ _ _ _ => (sizeOf x, 0)
end
end
end Mn
/-! # What Mini reads, Python computes: statements -/
namespace Mn
open PySem L2 PyProof.Rows
/-! ### swaps -/
def plainT (sc : Scope) : PySem.Expr → Bool
  | .Name x _ => sc.names.lookup x == some .local
  | _ => false
def noSw (sc : Scope) (tg v : PySem.Expr) : Bool := match tg, v with
  | .Tuple ts _ _, .Tuple _ _ _ => ts.any fun t => !plainT sc t
  | .List _ _, _ => false
  | .Starred _ _, _ => false
  | _, _ => true
theorem sw_len {env : PySem.Env} {line : Nat} : ∀ {ts : List PySem.Expr}, (ts.any fun t => !plainT env.scope t) = true →
    (ts.filterMap fun | .Name id pos => if env.kindOf id == some .local && pos.line == line then some id else none | _ => none).length < ts.length
  | [], h => by simp at h
  | t :: ts, h => by
    have le : (ts.filterMap fun | .Name id pos => if env.kindOf id == some .local && pos.line == line then some id else none | _ => none).length ≤ ts.length := List.length_filterMap_le _ _
    rw [List.any_cons, Bool.or_eq_true] at h
    rcases h with h | h
    · cases t with
      | Name x p =>
        have h : (!(env.kindOf x == some .local)) = true := h
        have h2 : (env.kindOf x == some .local) = false := by simpa using h
        rw [List.filterMap_cons]
        simp only [h2, Bool.false_and, Bool.false_eq_true, if_false, List.length_cons]
        omega
      | _ => rw [List.filterMap_cons]; simp only [List.length_cons]; omega
    · have ih := sw_len (line := line) h
      rw [List.filterMap_cons, List.length_cons]
      split
      · omega
      · rw [List.length_cons]; omega
theorem noSw_of {env : PySem.Env} {tg v : PySem.Expr} (h : noSw env.scope tg v = true) : swappedStores [tg] v env = pure none := by
  cases tg with
  | List ts p => cases v <;> simp [noSw] at h
  | Tuple ts k p =>
    cases v with
    | Tuple vs k2 p2 =>
      have h : (ts.any fun t => !plainT env.scope t) = true := h
      have hl := sw_len (line := (ts.head?.map (·.pos.line)).getD 0) h
      unfold swappedStores
      simp only
      split
      · rfl
      · split
        · rfl
        · split
          · rfl
          · rename_i hn
            exfalso
            apply hn
            rw [Bool.or_eq_true]
            left
            rw [bne_iff_ne]
            exact Nat.ne_of_lt hl
    | _ => rfl
  | _ => rfl
/-- a comprehension that is kept by a name of one's own, on one line -/
def swB (sc : Scope) (tg v : PySem.Expr) : Bool := match tg, v with
  | .Name t pos, .ListComp _ _ s vp => (if sc.kind.isAnnotationScope then ScopeKind.function else sc.kind) == .function && (sc.names.lookup t == some .local) && (pos.line == vp.line) && !(s.names.any fun (n, k) => n == t && (k == .local || k == .cell))
  | _, _ => false
theorem sw_is {env : PySem.Env} {tg v : PySem.Expr} {l : Nat} (ht : tame v = true) : swapsWithSole [tg] v l env = pure (swB env.scope tg v) := by
  show swapsWith v (some tg) l env = _
  cases v with
  | ListComp a b s p => cases tg <;> rfl
  | SetComp _ _ _ _ => simp [tame] at ht
  | DictComp _ _ _ _ _ => simp [tame] at ht
  | _ => cases tg <;> rfl

/-! ### a, b = x, y -/
theorem par_sw {env : PySem.Env} {x y : Str} {px py pt pt2 : Pos} {kt k2 : Nat} {a b : PySem.Expr} (hk : env.scope.kind = .function) (hx : env.scope.names.lookup x = some .local) (hy : env.scope.names.lookup y = some .local) (hn : x ≠ y) (hl : (py.line == px.line) = true)
    (ha : tame a = true) (hb : tame b = true) (hf : (foldedForSure 8 a && foldedForSure 8 b) = false) (hc : (constantsAlone 8 a && constantsAlone 8 b) = false) :
    swappedStores [.Tuple [.Name x px, .Name y py] kt pt] (.Tuple [a, b] k2 pt2) env = pure (some [x, y]) := by
  have bk : env.blockKind = .function := by
    unfold Env.blockKind
    rw [hk]
    rfl
  have ex : (env.kindOf x == some .local) = true := by
    show (env.scope.names.lookup x == some .local) = true
    rw [hx]; rfl
  have ey : (env.kindOf y == some .local) = true := by
    show (env.scope.names.lookup y == some .local) = true
    rw [hy]; rfl
  have fl : [a, b].all (foldedForSure 8) = false := by simpa using hf
  have cl : [a, b].all (constantsAlone 8) = false := by simpa using hc
  have ed : [x, y].eraseDups.length = 2 := by
    have : (y == x) = false := by simpa using Ne.symm hn
    simp [List.eraseDups, List.eraseDupsBy, List.eraseDupsBy.loop, this]
  have l1 : (Expr.Name x px).pos.line = px.line := rfl
  unfold swappedStores
  simp only
  split
  · rename_i h
    rw [bk] at h
    exact absurd h (by simp)
  · split
    · rename_i h
      exfalso
      rw [List.any_cons, List.any_cons, List.any_nil, Bool.or_false, Bool.or_eq_true] at h
      rcases h with h | h
      · clear hf hc fl cl
        cases a <;> first | (cases h; done) | (simp [tame] at ha; done)
      · clear hf hc fl cl
        cases b <;> first | (cases h; done) | (simp [tame] at hb; done)
    · simp only [List.head?_cons, Option.map_some, Option.getD_some, l1, List.filterMap_cons, List.filterMap_nil, ex, ey, hl, Bool.true_and, beq_self_eq_true, if_true]
      split
      · rename_i h
        rw [ed] at h
        exact absurd h (by simp)
      · rw [if_neg (by rw [fl]; decide), if_neg (by rw [cl]; decide)]
        try rfl
section
variable {T : Tb} {G : Glb} {k : Nat} {c : Ck} {X : Cx} {W : WX} {a b : PySem.Expr} {ma mb : List D → Hh → Res D} {pos : Pos}
theorem s_par {i j : Nat} {x y : Str} {px py pt pt2 : Pos} {kt k2 : Nat} (g : Good T G k c X) (hi : c.N[i]? = some x) (hj : c.N[j]? = some y) (hij : i ≠ j) (hx : c.sc.names.lookup x = some .local) (hy : c.sc.names.lookup y = some .local)
    (hta : tame a = true) (htb : tame b = true) (ha : PE X a (LE T W ma)) (hb : PE X b (LE T W mb))
    (hw : swappedStores [.Tuple [.Name x px, .Name y py] kt pt] (.Tuple [a, b] k2 pt2) X.env = pure (some [x, y])) :
    PS X (.Assign [.Tuple [.Name x px, .Name y py] kt pt] (.Tuple [a, b] k2 pt2) pos) (LS T W fun e h => (ma e h).thenS e fun v h => (mb e h).thenS e fun w h => .ok .nx ((e.set i v).set j w) h) := by
  have pa := sa_cons hta ha (sa_cons htb hb (sa_nil (T := T) (W := W)))
  refine PS.weak (ps_par g.calm (by rw [g.N]; exact g.nd) (by rw [g.N]; exact hi) (by rw [g.N]; exact hj) hij (by rw [g.sc]; exact hx) (by rw [g.sc]; exact hy) pa hw) fun D' σ H ⟨R, e, h, r, env, q⟩ => ?_
  refine ⟨R, e, h, r, env, ?_⟩
  simp only at q ⊢
  cases q1 : ma e h with
  | stk => rw [q1] at q; exact absurd q id
  | exc cc p h1 => rw [q1] at q; exact fun R1 cls dx H l rl ex => q R1 cls dx σ H l rl ex (env.mono l)
  | ok v h1 =>
    rw [q1] at q
    simp only [thenS_ok] at q
    simp only [bind_ok]
    cases q2 : mb e h1 with
    | stk => rw [q2] at q; exact absurd q id
    | exc cc p h2 => rw [q2] at q; exact fun R1 cls dx H l rl ex => q R1 cls dx σ H l rl ex (env.mono l)
    | ok w h2 =>
      rw [q2] at q
      simp only [bind_ok]
      intro R1 vs H1 l1 r1 dv
      obtain ⟨v1, w1, rfl, d1, d2⟩ := DVs.two dv
      exact ⟨v1, w1, rfl, q R1 _ _ l1 r1 (((env.mono l1).set i d1).set j d2)⟩
end
/-! ### parts of a statement -/
def gAsg : Stmt → Option (PySem.Expr × PySem.Expr)
  | .Assign [t] e _ => some (t, e)
  | _ => none
theorem gAsg_of {s : Stmt} {t e : PySem.Expr} (h : gAsg s = some (t, e)) : ∃ p, s = .Assign [t] e p := by
  unfold gAsg at h
  split at h
  · cases h; exact ⟨_, rfl⟩
  · cases h
def gPar : PySem.Expr → PySem.Expr → Option (Str × Str × Pos × Pos × PySem.Expr × PySem.Expr)
  | .Tuple [.Name x px, .Name y py] _ _, .Tuple [a, b] _ _ => some (x, y, px, py, a, b)
  | _, _ => none
theorem gPar_of {s t : PySem.Expr} {x y : Str} {px py : Pos} {a b : PySem.Expr} (h : gPar s t = some (x, y, px, py, a, b)) : ∃ kt pt k2 p2, s = .Tuple [.Name x px, .Name y py] kt pt ∧ t = .Tuple [a, b] k2 p2 := by
  unfold gPar at h
  split at h
  · cases h; exact ⟨_, _, _, _, rfl, rfl⟩
  · cases h
def gEx : Stmt → Option PySem.Expr
  | .Expr e _ => some e
  | _ => none
theorem gEx_of {s : Stmt} {e : PySem.Expr} (h : gEx s = some e) : ∃ p, s = .Expr e p := by
  unfold gEx at h
  split at h
  · cases h; exact ⟨_, rfl⟩
  · cases h
def gRt : Stmt → Option (Option PySem.Expr)
  | .Return e _ => some e
  | _ => none
theorem gRt_of {s : Stmt} {e : Option PySem.Expr} (h : gRt s = some e) : ∃ p, s = .Return e p := by
  unfold gRt at h
  split at h
  · cases h; exact ⟨_, rfl⟩
  · cases h
def isPas : Stmt → Bool
  | .Pass _ => true
  | _ => false
theorem isPas_of {s : Stmt} (h : isPas s = true) : ∃ p, s = .Pass p := by
  unfold isPas at h
  split at h
  · exact ⟨_, rfl⟩
  · cases h
def isBrk : Stmt → Bool
  | .Break _ => true
  | _ => false
theorem isBrk_of {s : Stmt} (h : isBrk s = true) : ∃ p, s = .Break p := by
  unfold isBrk at h
  split at h
  · exact ⟨_, rfl⟩
  · cases h
def isCnt : Stmt → Bool
  | .Continue _ => true
  | _ => false
theorem isCnt_of {s : Stmt} (h : isCnt s = true) : ∃ p, s = .Continue p := by
  unfold isCnt at h
  split at h
  · exact ⟨_, rfl⟩
  · cases h
def gIfS : Stmt → Option (PySem.Expr × List Stmt × List Stmt)
  | .If c a b _ => some (c, a, b)
  | _ => none
theorem gIfS_of {s : Stmt} {c : PySem.Expr} {a b : List Stmt} (h : gIfS s = some (c, a, b)) : ∃ p, s = .If c a b p := by
  unfold gIfS at h
  split at h
  · cases h; exact ⟨_, rfl⟩
  · cases h
def gWhl : Stmt → Option (PySem.Expr × List Stmt)
  | .While c a [] _ => some (c, a)
  | _ => none
theorem gWhl_of {s : Stmt} {c : PySem.Expr} {a : List Stmt} (h : gWhl s = some (c, a)) : ∃ p, s = .While c a [] p := by
  unfold gWhl at h
  split at h
  · cases h; exact ⟨_, rfl⟩
  · cases h
def gFr : Stmt → Option (PySem.Expr × PySem.Expr × List Stmt)
  | .For t i b [] _ => some (t, i, b)
  | _ => none
theorem gFr_of {s : Stmt} {t i : PySem.Expr} {b : List Stmt} (h : gFr s = some (t, i, b)) : ∃ p, s = .For t i b [] p := by
  unfold gFr at h
  split at h
  · cases h; exact ⟨_, rfl⟩
  · cases h
/-- raise X(e) -/
def gRa : Stmt → Option (Str × PySem.Expr)
  | .Raise (some (.Call (.Name x _) [a] [] _)) none _ => some (x, a)
  | _ => none
theorem gRa_of {s : Stmt} {x : Str} {a : PySem.Expr} (h : gRa s = some (x, a)) : ∃ p q r, s = .Raise (some (.Call (.Name x p) [a] [] q)) none r := by
  unfold gRa at h
  split at h
  · cases h; exact ⟨_, _, _, rfl⟩
  · cases h
/-- try: .. except x as n: y = n -/
def gTr : Stmt → Option (List Stmt × Str × Str × Str)
  | .Try body [.ExceptHandler (some (.Name x _)) (some n) [.Assign [.Name y _] (.Name m _) _] _] [] [] _ => if m = n then some (body, x, n, y) else none
  | _ => none
theorem gTr_of {s : Stmt} {body : List Stmt} {x n y : Str} (h : gTr s = some (body, x, n, y)) : ∃ np p1 p2 p3 pos' pos, s = .Try body [.ExceptHandler (some (.Name x np)) (some n) [.Assign [.Name y p1] (.Name n p2) p3] pos'] [] [] pos := by
  unfold gTr at h
  split at h
  · split at h
    · rename_i e
      subst e
      cases h; exact ⟨_, _, _, _, _, _, rfl⟩
    · cases h
  · cases h
theorem tri_eq (G : Glb) (b : Ss) (ci i j : Nat) (e : List D) (h : Hh) : exe G (.tri b ci i (.cons (.asg (.nm j) (.var i)) .nil)) e h = triM G.sub ci i j (exes G b) e h := by
  rw [exe]
  unfold triM
  cases exes G b e h with
  | ok f e1 h1 => rfl
  | stk => rfl
  | exc c' p e1 h1 =>
    simp only
    split
    · by_cases hl : i < e1.length
      · rw [if_pos hl]
        simp only [exes, exe, ev, List.getElem?_set_self hl, thenS_ok, evT, Res.toS]
      · rw [if_neg hl]
        have : (e1.set i (.exc c' p))[i]? = none := by rw [List.getElem?_eq_none]; simp; omega
        simp only [exes, exe, ev, this, thenS_stk]
    · rfl
/-- name = [..] -/
def chkLc (c : Ck) (t : Tg) (x : E) (tg e : PySem.Expr) : Bool := match t, x, gNm tg with
  | .nm i, .lc _ _ _ _ _, some y => decide (c.N[i]? = some y) && chkE c x e
  | _, _, _ => false
mutual
def chkS (c : Ck) : S → Stmt → Bool
  | .asg t x, s => match gAsg s with
    | some (tg, e) => tame e && (if swB c.sc tg e then chkLc c t x tg e else (tame tg && (noSw c.sc tg e && (chkE c x e && chkT c t tg))))
    | none => false
  | .par i j a b, s => match gAsg s with
    | some (tg, e) => (match gPar tg e with
      | some (x, y, px, py, ea, eb) => decide (c.N[i]? = some x) && (decide (c.N[j]? = some y) && (decide (i ≠ j) && (decide (c.sc.names.lookup x = some .local) && (decide (c.sc.names.lookup y = some .local) && (decide (x ≠ y) && ((py.line == px.line) &&
        (tame ea && (tame eb && (!(foldedForSure 8 ea && foldedForSure 8 eb) && (!(constantsAlone 8 ea && constantsAlone 8 eb) && (decide (c.sc.kind = .function) && (chkE c a ea && chkE c b eb))))))))))))
      | none => false)
    | none => false
  | .ex x, s => match gEx s with
    | some e => noLc e && chkE c x e
    | none => false
  | .ret x, s => match gRt s with
    | some (some e) => chkE c x e
    | _ => false
  | .retN, s => match gRt s with
    | some none => true
    | _ => false
  | .pas, s => isPas s
  | .brk, s => isBrk s
  | .cnt, s => isCnt s
  | .ite x a b, s => match gIfS s with
    | some (e, p, q) => chkE c x e && (chkSs c a p && chkSs c b q)
    | none => false
  | .whl x a, s => match gWhl s with
    | some (e, p) => chkE c x e && chkSs c a p
    | none => false
  | .fr i t b _, s => match gFr s with
    | some (tg, it, p) => tame it && (chkI c i t tg it && (chkT c t tg && chkSs c b p))
    | none => false
  | .rai ci x, s => match gRa s with
    | some (n, e) => decide ((ci, n) ∈ c.exs) && (glB c.sc n && (okN n && (tame e && chkE c x e)))
    | none => false
  | .tri b ci i hd, s => match gTr s, hd with
    | some (ss, x, n, y), .cons (.asg (.nm j) (.var i')) .nil => decide (i' = i) && (c.fnl.isNone && (decide ((ci, x) ∈ c.xcl) && (glB c.sc x && (okN x && (decide (c.N[i]? = some n) && (decide (c.sc.names.lookup n = some .local) && (decide (c.N[j]? = some y) && (decide (c.sc.names.lookup y = some .local) && (decide (i ≠ j) && (okN n && chkSs c b ss))))))))))
    | _, _ => false
  | _, _ => false
def chkSs (c : Ck) : Ss → List Stmt → Bool
  | .nil, ss => ss.isEmpty
  | .cons s r, ss => match ss with
    | y :: ys => chkS c s y && chkSs c r ys
    | [] => false
end
theorem cgS {T : Tb} {W : WX} {X : Cx} {s : Stmt} {m m' : List D → Hh → SRes} (h : PS X s (LS T W m)) (q : ∀ e h, m' e h = m e h) : PS X s (LS T W m') := by
  have : m' = m := by funext e h; exact q e h
  rw [this]; exact h
theorem cgSs {T : Tb} {W : WX} {X : Cx} {s : List Stmt} {m m' : List D → Hh → SRes} (h : PSs X s (LS T W m)) (q : ∀ e h, m' e h = m e h) : PSs X s (LS T W m') := by
  have : m' = m := by funext e h; exact q e h
  rw [this]; exact h
/-- a while loop's turns are counted somehow -/
def WhOk (G : Glb) : Prop := ∀ c b e h, G.wh c b e h = .stk ∨ ∃ n, G.wh c b e h = whF c b n e h
theorem assign1 {tg : PySem.Expr} (env : PySem.Env) (h : tame tg = true) : (assignEach [tg] env).map (·.2) = [assign tg env] := by
  cases tg <;> first | rfl | (simp [tame] at h)
section
variable {T : Tb} {G : Glb} {k : Nat}
mutual
theorem sS : ∀ (x : S) (c : Ck) (X : Cx) (W : WX) (s : Stmt), Good T G k c X → WhOk G → PassesOwn (model X.prog X.w) X.A X.env X.xe → Takes X W → chkS c x s = true → PS X s (LS T W (exe G x))
  | .asg t x, c, X, W, s, g, gw, hp, tk, h => by
    simp only [chkS] at h
    split at h
    · rename_i tg e hx
      obtain ⟨p, rfl⟩ := gAsg_of hx
      rw [Bool.and_eq_true] at h
      obtain ⟨hte, h⟩ := h
      split at h
      · rename_i hs
        unfold chkLc at h
        split at h
        · rename_i i lv s t' fs y z hz
          obtain ⟨pz, rfl⟩ := gNm_of hz
          rw [Bool.and_eq_true, decide_eq_true_eq] at h
          obtain ⟨hN, h⟩ := h
          have hs' := hs
          simp only [chkE] at h
          split at h
          · rename_i elt tg' iter ifs sc hx'
            obtain ⟨p', rfl⟩ := gLc_of hx'
            simp only [Bool.and_eq_true, decide_eq_true_eq] at h
            obtain ⟨h1, h2, h3, h4, h5, h6, h7, h8⟩ := h
            have hl : c.sc.names.lookup z = some .local := by
              unfold swB at hs
              simp only [Bool.and_eq_true, beq_iff_eq] at hs
              exact hs.1.1.2
            have sw := sw_is (env := X.env) (tg := .Name z pz) (v := .ListComp elt [⟨tg', iter, ifs, 0⟩] sc p') (l := p.line) rfl
            rw [g.sc, hs'] at sw
            have q := s_setLc (spos := p) (lv := lv) (own := t'.own) (mT := evT G t') g h1 h2 (by rw [List.map_map]; exact List.map_id' _) hN hl sw (sI s c X W t' tg' iter g tk h3) (fun X' g' => sT t' (c.blk sc) X' W0 tg' g' takes0 h4) (fun X' g' => sB fs (c.blk sc) X' W0 ifs g' takes0 h5 h6) (fun X' g' => sE y (c.blk sc) X' W0 elt g' takes0 h7)
            refine cgS (s_set (y := z) q) fun e h => ?_
            simp only [exe, evT]
            rw [ev] <;> rfl
          · cases h
        · cases h
      · rename_i hs
        simp only [Bool.and_eq_true] at h
        have sw := sw_is (env := X.env) (tg := tg) (l := p.line) hte
        rw [g.sc] at sw
        rw [show swB c.sc tg e = false by simpa using hs] at sw
        exact cgS (s_asg (sE x c X W e g tk h.2.2.1) (sT t c X W tg g tk h.2.2.2) sw (noSw_of (by rw [g.sc]; exact h.2.1)) (assign1 _ h.1)) fun e h => by simp only [exe]
    · cases h
  | .par i j a b, c, X, W, s, g, gw, hp, tk, h => by
    simp only [chkS] at h
    split at h
    · rename_i tg e hx
      obtain ⟨p, rfl⟩ := gAsg_of hx
      split at h
      · rename_i x y px py ea eb hy
        obtain ⟨kt, pt, k2, p2, rfl, rfl⟩ := gPar_of hy
        simp only [Bool.and_eq_true, decide_eq_true_eq, Bool.not_eq_true'] at h
        obtain ⟨h1, h2, h3, h4, h5, h6, h7, h8, h9, h10, h11, h12, h13, h14⟩ := h
        exact cgS (s_par g h1 h2 h3 h4 h5 h8 h9 (sE a c X W ea g tk h13) (sE b c X W eb g tk h14) (par_sw (by rw [g.sc]; exact h12) (by rw [g.sc]; exact h4) (by rw [g.sc]; exact h5) h6 h7 h8 h9 h10 h11)) fun e h => by simp only [exe]
      · cases h
    · cases h
  | .ex x, c, X, W, s, g, gw, hp, tk, h => by
    simp only [chkS] at h
    split at h
    · rename_i e hx
      obtain ⟨p, rfl⟩ := gEx_of hx
      rw [Bool.and_eq_true] at h
      exact cgS (s_ex (sE x c X W e g tk h.2) h.1) fun e h => by simp only [exe]
    · cases h
  | .ret x, c, X, W, s, g, gw, hp, tk, h => by
    simp only [chkS] at h
    split at h
    · rename_i e hx
      obtain ⟨p, rfl⟩ := gRt_of hx
      exact cgS (s_ret (sE x c X W e g tk h)) fun e h => by simp only [exe]
    · cases h
  | .retN, c, X, W, s, g, gw, hp, tk, h => by
    simp only [chkS] at h
    split at h
    · rename_i hx
      obtain ⟨p, rfl⟩ := gRt_of hx
      exact cgS s_retN fun e h => by simp only [exe]
    · cases h
  | .pas, c, X, W, s, g, gw, hp, tk, h => by
    simp only [chkS] at h
    obtain ⟨p, rfl⟩ := isPas_of h
    exact cgS s_pas fun e h => by simp only [exe]
  | .brk, c, X, W, s, g, gw, hp, tk, h => by
    simp only [chkS] at h
    obtain ⟨p, rfl⟩ := isBrk_of h
    exact cgS s_brk fun e h => by simp only [exe]
  | .cnt, c, X, W, s, g, gw, hp, tk, h => by
    simp only [chkS] at h
    obtain ⟨p, rfl⟩ := isCnt_of h
    exact cgS s_cnt fun e h => by simp only [exe]
  | .ite x a b, c, X, W, s, g, gw, hp, tk, h => by
    simp only [chkS] at h
    split at h
    · rename_i e p q hx
      obtain ⟨p', rfl⟩ := gIfS_of hx
      simp only [Bool.and_eq_true] at h
      exact cgS (s_ite (sPT x c X W e g tk h.1) (sSs a c X W p g gw hp tk h.2.1) (sSs b c X W q g gw hp tk h.2.2)) fun e h => by simp only [exe, iteM] <;> rfl
    · cases h
  | .whl x a, c, X, W, s, g, gw, hp, tk, h => by
    simp only [chkS] at h
    split at h
    · rename_i e p hx
      obtain ⟨p', rfl⟩ := gWhl_of hx
      simp only [Bool.and_eq_true] at h
      have z := fun n => s_whl (pos := p') hp (sPT x c X W e g tk h.1) (sSs a c X W p g gw hp tk h.2) n
      refine ⟨fun pins s' σ H D I ⟨R, e', h', r, env, q⟩ => ?_⟩
      simp only [exe] at q
      rcases gw (fun e h => ev G x e h) (fun e h => exes G a e h) e' h' with w | ⟨n, w⟩
      · rw [w] at q; exact absurd q id
      · rw [w] at q
        exact (z n).run pins s' σ H D I ⟨R, e', h', r, env, q⟩
    · cases h
  | .fr i t b fg, c, X, W, s, g, gw, hp, tk, h => by
    simp only [chkS] at h
    split at h
    · rename_i tg it p hx
      obtain ⟨p', rfl⟩ := gFr_of hx
      simp only [Bool.and_eq_true] at h
      exact cgS (s_fr (fg := fg) g hp (sI i c X W t tg it g tk h.2.1) (sT t c X W tg g tk h.2.2.1) (sSs b c X W p g gw hp tk h.2.2.2) h.1) fun e h => by simp only [exe, forM] <;> rfl
    · cases h
  | .rai ci x, c, X, W, s, g, gw, hp, tk, h => by
    simp only [chkS] at h
    split at h
    · rename_i n e hx
      obtain ⟨p1, p2, p3, rfl⟩ := gRa_of hx
      simp only [Bool.and_eq_true, decide_eq_true_eq] at h
      exact cgS (s_rai g tk h.1 (g.gl h.2.1) h.2.2.1 h.2.2.2.1 (sE x c X W e g tk h.2.2.2.2)) fun e h => by simp only [exe]
    · cases h
  | .rai0 _, c, X, W, s, g, gw, hp, tk, h => by simp [chkS] at h
  | .tri b ci i hd, c, X, W, s, g, gw, hp, tk, h => by
    simp only [chkS] at h
    split at h
    · rename_i ss x n y j i' hx
      obtain ⟨np, p1, p2, p3, pos', pos, rfl⟩ := gTr_of hx
      simp only [Bool.and_eq_true, decide_eq_true_eq] at h
      obtain ⟨rfl, h2, h3, h4, h5, h6, h7, h8, h9, h10, h11, h12⟩ := h
      exact cgS (s_tri g (by simpa using h2) h3 (g.gl h4) h5 h6 h7 h8 h9 h10 h11 fun W pn xe tk' hp' => sSs b c (X.tr pn xe) W ss (g.tr pn xe) gw hp' tk' h12) fun e h => tri_eq G b ci i' j e h
    · cases h
theorem sSs : ∀ (x : Ss) (c : Ck) (X : Cx) (W : WX) (s : List Stmt), Good T G k c X → WhOk G → PassesOwn (model X.prog X.w) X.A X.env X.xe → Takes X W → chkSs c x s = true → PSs X s (LS T W (exes G x))
  | .nil, c, X, W, s, g, gw, hp, tk, h => by
    unfold chkSs at h
    cases s with
    | nil => exact cgSs ss_nil fun e h => by simp only [exes]
    | cons _ _ => cases h
  | .cons x r, c, X, W, s, g, gw, hp, tk, h => by
    unfold chkSs at h
    cases s with
    | nil => cases h
    | cons y l =>
      simp only [Bool.and_eq_true] at h
      exact cgSs (ss_cons (sS x c X W y g gw hp tk h.1) (sSs r c X W l g gw hp tk h.2)) fun e h => by simp only [exes, seqM] <;> rfl
end
end
end Mn
/-! # The end of a def: what it made is frozen -/
namespace Mn
open PySem L2 PyProof.Rows
mutual
theorem same_eq : ∀ (a b : D), same a b = true → a = b
  | .und, b, h => by cases b <;> simp [same] at h; rfl
  | .non, b, h => by cases b <;> simp [same] at h; rfl
  | .bl x, b, h => by cases b <;> simp [same] at h; rw [h]
  | .int x, b, h => by cases b <;> simp [same] at h; rw [h]
  | .str x, b, h => by cases b <;> simp [same] at h; rw [h]
  | .lst x, b, h => by cases b <;> simp [same] at h; rw [sameL_eq _ _ h]
  | .tup x, b, h => by cases b <;> simp [same] at h; rw [sameL_eq _ _ h]
  | .ro x, b, h => by cases b <;> simp [same] at h; rw [sameL_eq _ _ h]
  | .dK x, b, h => by cases b <;> simp [same] at h; rw [sameK_eq _ _ h]
  | .dT x, b, h => by cases b <;> simp [same] at h; rw [sameT_eq _ _ h]
  | .cel x, b, h => by cases b <;> simp [same] at h; rw [h]
  | .exc c p, b, h => by cases b <;> simp [same] at h; rw [h.1, same_eq _ _ h.2]
  | .clo c p, b, h => by cases b <;> simp [same] at h
theorem sameL_eq : ∀ (a b : List D), sameL a b = true → a = b
  | [], b, h => by cases b <;> simp [sameL] at h; rfl
  | x :: xs, b, h => by
    cases b <;> simp [sameL] at h
    rw [same_eq _ _ h.1, sameL_eq _ _ h.2]
theorem sameK_eq : ∀ (a b : List (L2.Key × D)), sameK a b = true → a = b
  | [], b, h => by cases b <;> simp [sameK] at h; rfl
  | (k, x) :: xs, b, h => by
    cases b with
    | nil => simp [sameK] at h
    | cons y ys =>
    obtain ⟨l, y⟩ := y
    simp [sameK] at h
    rw [h.1, same_eq _ _ h.2.1, sameK_eq _ _ h.2.2]
theorem sameT_eq : ∀ (a b : List (List L2.Key × D)), sameT a b = true → a = b
  | [], b, h => by cases b <;> simp [sameT] at h; rfl
  | (k, x) :: xs, b, h => by
    cases b with
    | nil => simp [sameT] at h
    | cons y ys =>
    obtain ⟨l, y⟩ := y
    simp [sameT] at h
    rw [h.1, same_eq _ _ h.2.1, sameT_eq _ _ h.2.2]
end
section
variable {T : Tb} {R R' : Rl} {n : Nat} (hF : ∀ a o, R.F a = some o → R'.F a = some o) (hr : ∀ (c : Nat) (a : Addr), c < n → R.rho[c]? = some a → R'.rho[c]? = some a) (hp : R'.pn = R.pn)
include hF hr hp
mutual
theorem DV.close : ∀ (d : D) (v : V), clsd n d = true → DV T R d v → DV T R' d v
  | .und, _, _, h => by simp only [DV] at h
  | .non, _, _, h => by simpa only [DV] using h
  | .bl _, _, _, h => by simpa only [DV] using h
  | .int _, _, _, h => by simpa only [DV] using h
  | .str _, _, _, h => by simpa only [DV] using h
  | .lst xs, v, c, h => by
    simp only [DV] at h ⊢
    simp only [clsd] at c
    obtain ⟨a, vs, e, s, z⟩ := h
    exact ⟨a, vs, e, hF _ _ s, DVs.close xs vs c z⟩
  | .ro xs, v, c, h => by
    simp only [DV] at h ⊢
    simp only [clsd] at c
    obtain ⟨a, vs, e, s, z⟩ := h
    exact ⟨a, vs, e, SqL.mn s hF, DVs.close xs vs c z⟩
  | .tup xs, v, c, h => by
    simp only [DV] at h ⊢
    simp only [clsd] at c
    obtain ⟨a, vs, e, s, z⟩ := h
    exact ⟨a, vs, e, hF _ _ s, DVs.close xs vs c z⟩
  | .dK xs, v, c, h => by
    simp only [DV] at h ⊢
    simp only [clsd] at c
    obtain ⟨a, vs, e, s, z⟩ := h
    exact ⟨a, vs, e, hF _ _ s, DVk.close xs vs c z⟩
  | .dT xs, v, c, h => by
    simp only [DV] at h ⊢
    simp only [clsd] at c
    obtain ⟨a, vs, e, s, z⟩ := h
    exact ⟨a, vs, e, hF _ _ s, DVt.close xs vs c z⟩
  | .cel c, v, cl, h => by
    simp only [DV] at h ⊢
    simp only [clsd, decide_eq_true_eq] at cl
    obtain ⟨a, e, z⟩ := h
    exact ⟨a, e, hr _ _ cl z⟩
  | .exc c p, v, cl, h => by
    simp only [DV] at h ⊢
    simp only [clsd] at cl
    obtain ⟨a, C, d, e, ec, ea, z⟩ := h
    refine ⟨a, C, d, e, ec, ea.mono hF hp, ?_⟩
    rcases z with z | ⟨dx, pv, e1, e2, e3⟩
    · exact .inl z
    · exact .inr ⟨dx, pv, e1, hF _ _ e2, DV.close p pv cl e3⟩
  | .clo k cs, v, cl, h => by
    simp only [DV] at h ⊢
    simp only [clsd] at cl
    obtain ⟨f, I, c', clo, ws, e, e1, e2, e3, e4, e5⟩ := h
    obtain ⟨pm, ctv, e2⟩ := e2
    exact ⟨f, I, c', clo, ws, e, e1, ⟨pm, ctv, hF _ _ e2⟩, hF _ _ e3, DVE.close cs ws cl e4, e5.mono hF⟩
theorem DVs.close : ∀ (d : List D) (v : List V), clsdL n d = true → DVs T R d v → DVs T R' d v
  | [], [], _, _ => by simp only [DVs]
  | [], _ :: _, _, h => by simp only [DVs] at h
  | _ :: _, [], _, h => by simp only [DVs] at h
  | d :: ds, v :: vs, c, h => by
    simp only [DVs] at h ⊢
    simp only [clsdL, Bool.and_eq_true] at c
    exact ⟨DV.close d v c.1 h.1, DVs.close ds vs c.2 h.2⟩
theorem DVk.close : ∀ (d : List (Key × D)) (v : List (Key × V)), clsdK n d = true → DVk T R d v → DVk T R' d v
  | [], [], _, _ => by simp only [DVk]
  | [], _ :: _, _, h => by simp only [DVk] at h
  | _ :: _, [], _, h => by simp only [DVk] at h
  | (k, d) :: ds, (l, v) :: vs, c, h => by
    simp only [DVk] at h ⊢
    simp only [clsdK, Bool.and_eq_true] at c
    exact ⟨h.1, DV.close d v c.1 h.2.1, DVk.close ds vs c.2 h.2.2⟩
theorem DVt.close : ∀ (d : List (List Key × D)) (v : List (List Key × V)), clsdT n d = true → DVt T R d v → DVt T R' d v
  | [], [], _, _ => by simp only [DVt]
  | [], _ :: _, _, h => by simp only [DVt] at h
  | _ :: _, [], _, h => by simp only [DVt] at h
  | (k, d) :: ds, (l, v) :: vs, c, h => by
    simp only [DVt] at h ⊢
    simp only [clsdT, Bool.and_eq_true] at c
    exact ⟨h.1, DV.close d v c.1 h.2.1, DVt.close ds vs c.2 h.2.2⟩
theorem DVE.close : ∀ (d : List D) (v : List (Option V)), clsdL n d = true → DVE T R d v → DVE T R' d v
  | [], [], _, _ => by simp only [DVE]
  | [], _ :: _, _, h => by simp only [DVE] at h
  | _ :: _, [], _, h => by simp only [DVE] at h
  | d :: ds, v :: vs, c, h => by
    simp only [DVE] at h ⊢
    simp only [clsdL, Bool.and_eq_true] at c
    refine ⟨?_, DVE.close ds vs c.2 h.2⟩
    rcases h.1 with z | ⟨w, e, z⟩
    · exact .inl z
    · exact .inr ⟨w, e, DV.close d w c.1 z⟩
end
end
section
variable {T : Tb} {R : Rl} {n : Nat} (hn : R.rho.length ≤ n)
include hn
mutual
theorem DV.clsd' : ∀ (d : D) (v : V), DV T R d v → clsd n d = true
  | .und, _, h => by simp only [DV] at h
  | .non, _, h => rfl
  | .bl _, _, h => rfl
  | .int _, _, h => rfl
  | .str _, _, h => rfl
  | .lst xs, v, h => by
    simp only [DV] at h
    obtain ⟨a, vs, e, s, z⟩ := h
    simpa only [clsd] using DVs.clsd' xs vs z
  | .ro xs, v, h => by
    simp only [DV] at h
    obtain ⟨a, vs, e, s, z⟩ := h
    simpa only [clsd] using DVs.clsd' xs vs z
  | .tup xs, v, h => by
    simp only [DV] at h
    obtain ⟨a, vs, e, s, z⟩ := h
    simpa only [clsd] using DVs.clsd' xs vs z
  | .dK xs, v, h => by
    simp only [DV] at h
    obtain ⟨a, vs, e, s, z⟩ := h
    simpa only [clsd] using DVk.clsd' xs vs z
  | .dT xs, v, h => by
    simp only [DV] at h
    obtain ⟨a, vs, e, s, z⟩ := h
    simpa only [clsd] using DVt.clsd' xs vs z
  | .cel c, v, h => by
    simp only [DV] at h
    obtain ⟨a, e, z⟩ := h
    have := (List.getElem?_eq_some_iff.mp z).1
    simp only [clsd, decide_eq_true_eq]
    omega
  | .exc c p, v, h => by
    simp only [DV] at h
    obtain ⟨a, C, d, e, ec, ea, z⟩ := h
    simp only [clsd]
    rcases z with z | ⟨dx, pv, e1, e2, e3⟩
    · rw [z.1]; rfl
    · exact DV.clsd' p pv e3
  | .clo k cs, v, h => by
    simp only [DV] at h
    obtain ⟨f, I, c', clo, ws, e, e1, e2, e3, e4, e5⟩ := h
    simpa only [clsd] using DVE.clsd' cs ws e4
theorem DVs.clsd' : ∀ (d : List D) (v : List V), DVs T R d v → clsdL n d = true
  | [], [], _ => rfl
  | [], _ :: _, h => rfl
  | _ :: _, [], h => by simp only [DVs] at h
  | d :: ds, v :: vs, h => by
    simp only [DVs] at h
    simp only [clsdL, Bool.and_eq_true]
    exact ⟨DV.clsd' d v h.1, DVs.clsd' ds vs h.2⟩
theorem DVk.clsd' : ∀ (d : List (Key × D)) (v : List (Key × V)), DVk T R d v → clsdK n d = true
  | [], _, _ => rfl
  | _ :: _, [], h => by simp only [DVk] at h
  | (k, d) :: ds, (l, v) :: vs, h => by
    simp only [DVk] at h
    simp only [clsdK, Bool.and_eq_true]
    exact ⟨DV.clsd' d v h.2.1, DVk.clsd' ds vs h.2.2⟩
theorem DVt.clsd' : ∀ (d : List (List Key × D)) (v : List (List Key × V)), DVt T R d v → clsdT n d = true
  | [], _, _ => rfl
  | _ :: _, [], h => by simp only [DVt] at h
  | (k, d) :: ds, (l, v) :: vs, h => by
    simp only [DVt] at h
    simp only [clsdT, Bool.and_eq_true]
    exact ⟨DV.clsd' d v h.2.1, DVt.clsd' ds vs h.2.2⟩
theorem DVE.clsd' : ∀ (d : List D) (v : List (Option V)), DVE T R d v → clsdL n d = true
  | [], _, _ => rfl
  | _ :: _, [], h => by simp only [DVE] at h
  | d :: ds, v :: vs, h => by
    simp only [DVE] at h
    simp only [clsdL, Bool.and_eq_true]
    refine ⟨?_, DVE.clsd' ds vs h.2⟩
    rcases h.1 with z | ⟨w, e, z⟩
    · rw [z]; rfl
    · exact DV.clsd' d w z
end
end
theorem clsdL_all (n : Nat) : ∀ l : List D, clsdL n l = l.all (clsd n)
  | [] => rfl
  | x :: xs => by rw [clsdL, List.all_cons, clsdL_all n xs]
theorem clsdK_all (n : Nat) : ∀ l : List (L2.Key × D), clsdK n l = l.all fun p => clsd n p.2
  | [] => rfl
  | (k, x) :: xs => by rw [clsdK, List.all_cons, clsdK_all n xs]
theorem clsdT_all (n : Nat) : ∀ l : List (List L2.Key × D), clsdT n l = l.all fun p => clsd n p.2
  | [] => rfl
  | (k, x) :: xs => by rw [clsdT, List.all_cons, clsdT_all n xs]
/-- what is known once the live objects at n and above are frozen -/
def popR (R : Rl) (n : Nat) (H : Hp) : Rl := { R with F := fun a => if a ∈ R.rho.drop n then H a else R.F a, rho := R.rho.take n }
section
variable {T : Tb} {R : Rl} {h : Hh} {H : Hp} {n : Nat}
theorem RelH.outF (r : RelH T R h H) {a : Addr} {o : HO} (e : R.F a = some o) : a ∉ R.rho := fun hm => by
  obtain ⟨c, hc⟩ := List.getElem?_of_mem hm
  obtain ⟨ob, _, f, _, _⟩ := r.addr hc
  rw [e] at f; cases f
theorem popR_F (r : RelH T R h H) {a : Addr} {o : HO} (e : R.F a = some o) : (popR R n H).F a = some o := by
  show (if a ∈ R.rho.drop n then H a else R.F a) = some o
  rw [if_neg fun z => r.outF e (List.mem_of_mem_drop z)]
  exact e
theorem popR_new (r : RelH T R h H) {c : Nat} {a : Addr} (e : R.rho[c]? = some a) (hc : n ≤ c) : (popR R n H).F a = H a := by
  show (if a ∈ R.rho.drop n then H a else R.F a) = H a
  rw [if_pos]
  refine List.mem_of_getElem? (i := c - n) ?_
  rw [List.getElem?_drop, show n + (c - n) = c by omega]
  exact e
theorem popR_old (r : RelH T R h H) {c : Nat} {a : Addr} (e : R.rho[c]? = some a) (hc : c < n) : (popR R n H).F a = none := by
  show (if a ∈ R.rho.drop n then H a else R.F a) = none
  rw [if_neg]
  · exact (r.addr e).choose_spec.2.1
  · intro hm
    obtain ⟨j, hj⟩ := List.getElem?_of_mem hm
    rw [List.getElem?_drop] at hj
    obtain ⟨h3, e3⟩ := List.getElem?_eq_some_iff.mp hj
    obtain ⟨h4, e4⟩ := List.getElem?_eq_some_iff.mp e
    have := (List.getElem_inj r.nd).mp (e3.trans e4.symm)
    omega
theorem popR_rho {c : Nat} {a : Addr} (hc : c < n) (e : R.rho[c]? = some a) : (popR R n H).rho[c]? = some a := by
  show (R.rho.take n)[c]? = some a
  rw [List.getElem?_take, if_pos hc]
  exact e
theorem popR_close (r : RelH T R h H) {d : D} {v : V} (c : clsd n d = true) (dv : DV T R d v) : DV T (popR R n H) d v := DV.close (n := n) (fun _ _ => popR_F r) (fun _ _ => popR_rho) rfl d v c dv
theorem popR_closeL (r : RelH T R h H) {d : List D} {v : List V} (c : clsdL n d = true) (dv : DVs T R d v) : DVs T (popR R n H) d v := DVs.close (n := n) (fun _ _ => popR_F r) (fun _ _ => popR_rho) rfl d v c dv
theorem thaw_pop (r : RelH T R h H) : ∀ (k : Nat) (d : D) (v : V), clsd n (thaw h n k d) = true → DV T R d v → DV T (popR R n H) (thaw h n k d) v
  | 0, d, v, c, dv => popR_close r (by simpa only [thaw] using c) (by simpa only [thaw] using dv)
  | k + 1, d, v, c, dv => by
    have mp : ∀ (xs : List D) (vs : List V), clsdL n (xs.map (thaw h n k)) = true → DVs T R xs vs → DVs T (popR R n H) (xs.map (thaw h n k)) vs := by
      intro xs
      induction xs with
      | nil => intro vs _ z; cases vs with
        | nil => simp only [List.map_nil, DVs]
        | cons _ _ => simp only [DVs] at z
      | cons x xs ih =>
        intro vs c z
        cases vs with
        | nil => simp only [DVs] at z
        | cons w vs =>
          simp only [DVs] at z
          simp only [List.map_cons, clsdL, Bool.and_eq_true] at c
          simp only [List.map_cons, DVs]
          exact ⟨thaw_pop r k x w c.1 z.1, ih vs c.2 z.2⟩
    have mpK : ∀ (xs : List (Key × D)) (vs : List (Key × V)), clsdK n (xs.map fun p => (p.1, thaw h n k p.2)) = true → DVk T R xs vs → DVk T (popR R n H) (xs.map fun p => (p.1, thaw h n k p.2)) vs := by
      intro xs
      induction xs with
      | nil => intro vs _ z; cases vs with
        | nil => simp only [List.map_nil, DVk]
        | cons _ _ => simp only [DVk] at z
      | cons x xs ih =>
        intro vs c z
        obtain ⟨q, x⟩ := x
        cases vs with
        | nil => simp only [DVk] at z
        | cons w vs =>
          obtain ⟨q', w⟩ := w
          simp only [DVk] at z
          simp only [List.map_cons, clsdK, Bool.and_eq_true] at c
          simp only [List.map_cons, DVk]
          exact ⟨z.1, thaw_pop r k x w c.1 z.2.1, ih vs c.2 z.2.2⟩
    have mpT : ∀ (xs : List (List Key × D)) (vs : List (List Key × V)), clsdT n (xs.map fun p => (p.1, thaw h n k p.2)) = true → DVt T R xs vs → DVt T (popR R n H) (xs.map fun p => (p.1, thaw h n k p.2)) vs := by
      intro xs
      induction xs with
      | nil => intro vs _ z; cases vs with
        | nil => simp only [List.map_nil, DVt]
        | cons _ _ => simp only [DVt] at z
      | cons x xs ih =>
        intro vs c z
        obtain ⟨q, x⟩ := x
        cases vs with
        | nil => simp only [DVt] at z
        | cons w vs =>
          obtain ⟨q', w⟩ := w
          simp only [DVt] at z
          simp only [List.map_cons, clsdT, Bool.and_eq_true] at c
          simp only [List.map_cons, DVt]
          exact ⟨z.1, thaw_pop r k x w c.1 z.2.1, ih vs c.2 z.2.2⟩
    cases d with
    | cel cc =>
      simp only [DV] at dv
      obtain ⟨a, rfl, e⟩ := dv
      simp only [thaw] at c ⊢
      split
      · rename_i hc
        simp only [DV]
        exact ⟨a, rfl, popR_rho hc e⟩
      · rename_i hc
        rw [if_neg hc] at c
        have hc : n ≤ cc := Nat.le_of_not_lt hc
        cases q : h[cc]? with
        | none => rw [q] at c; simp only [clsd, decide_eq_true_eq] at c; omega
        | some ob =>
          obtain ⟨f1, f2, z⟩ := r.live cc ob a q e
          have fn := popR_new (n := n) r e hc
          rw [q] at c
          cases ob with
          | lst xs =>
            obtain ⟨vs, e1, e2⟩ := z
            simp only [clsd] at c
            simp only [DV]
            exact ⟨a, vs, rfl, by rw [fn, e1], mp xs vs c e2⟩
          | dK xs =>
            obtain ⟨vs, e1, e2⟩ := z
            simp only [clsd] at c
            simp only [DV]
            exact ⟨a, vs, rfl, by rw [fn, e1], mpK xs vs c e2⟩
          | dT xs =>
            obtain ⟨vs, e1, e2⟩ := z
            simp only [clsd] at c
            simp only [DV]
            exact ⟨a, vs, rfl, by rw [fn, e1], mpT xs vs c e2⟩
          | ins _ _ => simp only [clsd, decide_eq_true_eq] at c; omega
          | dead => simp only [clsd, decide_eq_true_eq] at c; omega
    | lst xs =>
      simp only [thaw] at c ⊢
      split
      · rename_i hc; exact popR_close r (by simpa only [clsd] using hc) dv
      · rename_i hc
        rw [if_neg hc] at c
        simp only [DV] at dv ⊢
        obtain ⟨a, vs, e, s, z⟩ := dv
        exact ⟨a, vs, e, popR_F r s, mp xs vs (by simpa only [clsd] using c) z⟩
    | tup xs =>
      simp only [thaw] at c ⊢
      split
      · rename_i hc; exact popR_close r (by simpa only [clsd] using hc) dv
      · rename_i hc
        rw [if_neg hc] at c
        simp only [DV] at dv ⊢
        obtain ⟨a, vs, e, s, z⟩ := dv
        exact ⟨a, vs, e, popR_F r s, mp xs vs (by simpa only [clsd] using c) z⟩
    | _ => exact popR_close r c dv
theorem ObR.close {ob : Ob} {o : Option HO} (r : RelH T R h H) (c : ob.clsd n = true) (z : ObR T R ob o) : ObR T (popR R n H) ob o := by
  cases ob with
  | lst xs =>
    obtain ⟨vs, e1, e2⟩ := z
    exact ⟨vs, e1, popR_closeL r c e2⟩
  | dK xs =>
    obtain ⟨vs, e1, e2⟩ := z
    exact ⟨vs, e1, DVk.close (n := n) (fun _ _ => popR_F r) (fun _ _ => popR_rho) rfl xs vs c e2⟩
  | dT xs =>
    obtain ⟨vs, e1, e2⟩ := z
    exact ⟨vs, e1, DVt.close (n := n) (fun _ _ => popR_F r) (fun _ _ => popR_rho) rfl xs vs c e2⟩
  | ins k fs =>
    obtain ⟨C, dx, gs, e, e1, e2⟩ := z
    refine ⟨C, dx, gs, e, e1, ?_⟩
    have c : clsdL n (fs.map (·.2)) = true := c
    clear e
    induction fs generalizing gs with
    | nil => cases gs <;> exact e2
    | cons f fs ih =>
      cases gs with
      | nil => exact e2
      | cons g gs =>
        simp only [List.map_cons, clsdL, Bool.and_eq_true] at c
        exact ⟨e2.1, popR_close r c.1 e2.2.1, ih c.2 gs e2.2.2 c.2⟩
  | dead => exact absurd z id
theorem ObR.clsd' {ob : Ob} {o : Option HO} (hn : R.rho.length ≤ n) (z : ObR T R ob o) : ob.clsd n = true := by
  cases ob with
  | lst xs =>
    obtain ⟨vs, e1, e2⟩ := z
    exact DVs.clsd' hn xs vs e2
  | dK xs =>
    obtain ⟨vs, e1, e2⟩ := z
    exact DVk.clsd' hn xs vs e2
  | dT xs =>
    obtain ⟨vs, e1, e2⟩ := z
    exact DVt.clsd' hn xs vs e2
  | ins k fs =>
    obtain ⟨C, dx, gs, e, e1, e2⟩ := z
    show clsdL n (fs.map (·.2)) = true
    clear e
    induction fs generalizing gs with
    | nil => rfl
    | cons f fs ih =>
      cases gs with
      | nil => exact e2.elim
      | cons g gs =>
        simp only [List.map_cons, clsdL, Bool.and_eq_true]
        exact ⟨DV.clsd' hn f.2 g.2 e2.2.1, ih gs e2.2.2⟩
  | dead => exact absurd z id
end

theorem Ob.same_cl {T : Tb} {R : Rl} {n : Nat} {a b : Ob} {o : Option HO} (hn : R.rho.length ≤ n) (e : a.same b = true) (z : ObR T R a o) : b.clsd n = true := by
  have z := ObR.clsd' hn z
  cases a <;> cases b <;> simp only [Ob.same, Bool.false_eq_true, Bool.and_eq_true] at e
  · rename_i x y; rw [← sameL_eq _ _ e]; exact z
  · rename_i x y; rw [← sameK_eq _ _ e]; exact z
  · rename_i x y; rw [← sameT_eq _ _ e]; exact z
  · rename_i x y
    show clsdL n _ = true
    rw [← sameL_eq _ _ e.2.2]; exact z
  · rfl
theorem leave_rel {T : Tb} {R R' : Rl} {h h' h2 : Hh} {H H' : Hp} {pop : Bool} {d d' : D} (r : RelH T R h H) (l : Rle R R') (r' : RelH T R' h' H') (e : leave pop h d h' = .ok d' h2) :
    ∃ R2, Rle R R2 ∧ RelH T R2 h2 H' ∧ (∀ a o, R'.F a = some o → R2.F a = some o) ∧ (∀ v, DV T R' d v → DV T R2 d' v) ∧ (d = .und → d' = .und) := by
  unfold leave at e
  split at e
  · simp only at e
    split at e
    · rename_i hc
      rw [Bool.and_eq_true] at hc
      cases e
      obtain ⟨hc, ho⟩ := hc
      have hlen : h.length ≤ h'.length := by
        rw [← r.len, ← r'.len]
        by_cases h0 : R.rho.length = 0
        · omega
        · obtain ⟨a, ha⟩ : ∃ a, R.rho[R.rho.length - 1]? = some a := ⟨_, List.getElem?_eq_getElem (by omega)⟩
          have := (List.getElem?_eq_some_iff.mp (l.rho _ _ ha)).1
          omega
      have old : ∀ (c : Nat) (a : Addr), c < h.length → R.rho[c]? = some a → (popR R' h.length H').rho[c]? = some a := fun c a hlt e => popR_rho hlt (l.rho c a e)
      refine ⟨popR R' h.length H', ⟨fun a o q => popR_F r' (l.F a o q), fun c a q => old c a (by rw [← r.len]; exact (List.getElem?_eq_some_iff.mp q).1) q, l.P, l.pn⟩, ?_, fun a o q => popR_F r' q, fun v dv => thaw_pop r' 4 d v hc dv, fun q => by rw [q]; rfl⟩
      refine ⟨fun a o q => ?_, r'.pv, fun a o q => ?_, ?_, fun c ob a h1 h2 => ?_, r'.nd.sublist (List.take_sublist _ _), r'.px, fun a ps q => ?_, r'.tb⟩
      rotate_right
      · have q : (if a ∈ R'.rho.drop h.length then H' a else R'.F a) = some (.tbl ps) := q
        split at q
        · rename_i hm
          obtain ⟨c, hc⟩ := List.getElem?_of_mem (List.mem_of_mem_drop hm)
          obtain ⟨ob, _, _, _, z⟩ := r'.addr hc
          exact (z.nt q).1 ps rfl
        · exact r'.nt a ps q
      · have q : (if a ∈ R'.rho.drop h.length then H' a else R'.F a) = some o := q
        split at q
        · exact q
        · exact r'.fz a o q
      · show (if a ∈ R'.rho.drop h.length then H' a else R'.F a) = none
        rw [if_neg]
        · exact r'.dj a o q
        · intro hm
          obtain ⟨c, hc⟩ := List.getElem?_of_mem (List.mem_of_mem_drop hm)
          obtain ⟨ob, _, _, z, _⟩ := r'.addr hc
          have q : R'.P a = some o := q
          rw [q] at z; cases z
      · show (R'.rho.take h.length).length = (h'.take h.length).length
        rw [List.length_take, List.length_take, r'.len]
      · have h2 : (R'.rho.take h.length)[c]? = some a := h2
        rw [List.getElem?_take] at h1 h2
        split at h1
        · rename_i hlt
          rw [if_pos hlt] at h2
          obtain ⟨f1, f2, z⟩ := r'.live c ob a h1 h2
          refine ⟨popR_old r' h2 hlt, f2, ObR.close r' ?_ z⟩
          have q := List.all_eq_true.mp ho c (by simpa using hlt)
          have e0 : h[c]? = some h[c] := List.getElem?_eq_getElem hlt
          rw [e0, h1] at q
          simp only [Bool.or_eq_true] at q
          rcases q.symm with q | q
          · obtain ⟨a0, ha0⟩ : ∃ a0, R.rho[c]? = some a0 := ⟨_, List.getElem?_eq_getElem (by rw [r.len]; exact hlt)⟩
            exact Ob.same_cl (by rw [r.len]; exact Nat.le_refl _) q (r.live c _ a0 e0 ha0).2.2
          · exact q
        · cases h1
    · cases e
  · cases e
    exact ⟨R', l, r', fun _ _ q => q, fun _ q => q, fun q => q⟩
section
variable {T : Tb}
theorem DVE.ofs {R : Rl} : ∀ {ds : List D} {vs : List V}, DVs T R ds vs → DVE T R ds (vs.map some)
  | [], [], _ => by simp only [List.map_nil, DVE]
  | [], _ :: _, h => by simp only [DVs] at h
  | _ :: _, [], h => by simp only [DVs] at h
  | d :: ds, v :: vs, h => by
    simp only [DVs] at h
    simp only [List.map_cons, DVE]
    exact ⟨.inr ⟨v, rfl, h.1⟩, DVE.ofs h.2⟩
theorem DVE.app {R : Rl} : ∀ {ds es : List D} {vs ws : List (Option V)}, DVE T R ds vs → DVE T R es ws → DVE T R (ds ++ es) (vs ++ ws)
  | [], _, [], _, _, h => h
  | [], _, _ :: _, _, h, _ => by simp only [DVE] at h
  | _ :: _, _, [], _, h, _ => by simp only [DVE] at h
  | d :: ds, _, v :: vs, _, h, h2 => by
    simp only [DVE] at h
    simp only [List.cons_append, DVE]
    exact ⟨h.1, DVE.app h.2 h2⟩
theorem DVE.unds {R : Rl} : ∀ n : Nat, DVE T R (List.replicate n .und) (List.replicate n none)
  | 0 => by simp only [List.replicate_zero, DVE]
  | n + 1 => by
    simp only [List.replicate_succ, DVE]
    exact ⟨.inl trivial, DVE.unds n⟩
/-- a def's body against the def's promise -/
theorem body_ends {G : Glb} {F : Fn} {R : Rl} {ds : List D} {h : Hh} {H : Hp} {vs : List V} {N : List Str} {Q : VK} {E : XK} (hN : F.nl = N.length) (hp : F.np = vs.length) (r : RelH T R h H) (d : DVs T R ds vs)
    (p : Post T (fun c d _ H => E c d H) R [] (callFn G F ds h) Q) : LS T (fun c d _ H => E c d H) (exes G F.body) { nx := fun _ H' => Q .non H', rt := Q } (L2.start N vs) H := by
  unfold callFn at p
  split at p
  · rename_i hl
    refine ⟨R, ds ++ List.replicate (F.nl - F.np) .und, h, r, ?_, ?_⟩
    · unfold L2.start
      rw [hN, hp]
      exact DVE.app (DVE.ofs d) (DVE.unds _)
    · cases q : exes G F.body (ds ++ List.replicate (F.nl - F.np) .und) h with
      | stk => rw [q] at p; exact absurd p id
      | exc c x e h' =>
        rw [q] at p
        intro R' cls dx σ' H' l' r' ex env
        simp only at p
        unfold leaveX at p
        split at p
        · rename_i d' h2 e2
          obtain ⟨R2, l2, r2, f2, dv2, un2⟩ := leave_rel r l' r' e2
          refine p R2 cls dx H' l2 r2 ?_
          obtain ⟨C, e1, e3, z⟩ := ex
          refine ⟨C, e1, e3, ?_⟩
          rcases z with ⟨z1, z2⟩ | ⟨dx', pv, z1, z2, z3⟩
          · exact .inl ⟨un2 z1, z2⟩
          · exact .inr ⟨dx', pv, z1, f2 _ _ z2, dv2 _ z3⟩
        · exact absurd p id
      | ok f e h' =>
        rw [q] at p
        cases f with
        | ret x =>
          intro R' v H' l' r' dv
          simp only at p
          cases e2 : leave F.pop h x h' with
          | ok d' h2 =>
            rw [e2] at p
            obtain ⟨R2, l2, r2, f2, dv2, un2⟩ := leave_rel r l' r' e2
            exact p R2 v H' l2 r2 (dv2 v dv)
          | exc _ _ _ =>
            unfold leave at e2
            split at e2
            · simp only at e2
              split at e2 <;> cases e2
            · cases e2
          | stk => rw [e2] at p; exact absurd p id
        | nx =>
          intro R' σ' H' l' r' env
          simp only at p
          cases e2 : leave F.pop h .non h' with
          | ok d' h2 =>
            rw [e2] at p
            obtain ⟨R2, l2, r2, f2, dv2, un2⟩ := leave_rel r l' r' e2
            exact p R2 .non H' l2 r2 (dv2 .non (by simp only [DV]))
          | exc _ _ _ =>
            unfold leave at e2
            split at e2
            · simp only at e2
              split at e2 <;> cases e2
            · cases e2
          | stk => rw [e2] at p; exact absurd p id
        | brk => exact absurd p id
        | cnt => exact absurd p id
  · exact absurd p id
end
end Mn
/-! # A program's defs, to any depth -/
namespace Mn
open PySem L2 PyProof.Rows
/-- what a def of the text must be: c0 tells what all defs share -/
structure DefOk (T : Tb) (mg : Str → Option Value) (base : Heap) (c0 : Ck) (F : Fn) (f : Nat) (x : Str) (a : Addr) (fd : FuncData) (ps N : List Str) (params : Arguments) (body : List Stmt) (scope : Scope) (mk : Bool) : Prop where
  mgf : mg x = some (.ref a)
  fn : FunD T.K x x params body scope [] [] a fd
  binds : Binds T.K fd ps []
  kw : ∀ ks pm, (f, ks, pm) ∈ c0.kws → ∀ ws : List Value, ws.length = ks.length → ∃ us, pm.mapM (fun i => ws[i]?) = some us ∧ ∀ s : Shared, T.K.In s.heap → BindsTo s fd ⟨[], ks.zip ws⟩ (ps.zip us)
  scp : FnScope N ps scope
  nl : F.nl = N.length
  np : F.np = ps.length
  mkr : mk = true → ∃ cd Pt, fd.code = .ref cd ∧ (Pt, x ++ ".<locals>." ++ "<lambda>") ∈ T.tabs ∧ (∀ p ∈ T.tabs, p.1 = Pt → p.2 = x ++ ".<locals>." ++ "<lambda>") ∧ LamX.TabB base mg cd Pt
  ck : chkSs { c0 with N := N, sc := scope, fnl := none, mkr := mk } F.body body = true
section
variable {T : Tb} {P : Program} {w : World} {mg : Str → Option Value} {base : Heap} {c0 : Ck} {prg : Prg} {wh : (List D → Hh → Res D) → (List D → Hh → SRes) → List D → Hh → SRes}
theorem fng {K : PySem.W.Frag} {CX : CXT} {x qual : Str} {params : Arguments} {body : List Stmt} {scope : Scope} {f : Addr} {fd : FuncData} {N ps : List Str} {k : Nat} {sp : Sp} {dvs : List V} {kws : List (Str × V)} (F : FunD K x qual params body scope dvs kws f fd) (S : FnScope N ps scope) (len : ∀ vs H Q E, sp vs H Q E → vs.length = ps.length)
    (hbody : ∀ (A : Around) (outer : List PySem.Env) (s : Shared) (H : Hp) (vs : List V) (Q : VK) (E : XK), (A.deeper (envOfC qual scope s.heap.objs.size f fd.code)).guards = some [] → Room k (A.deeper (envOfC qual scope s.heap.objs.size f fd.code)) → sp vs H Q E →
      ∃ t, PSs (cxOf CX P w K mg base N qual scope f fd.code A outer s H E) body t ∧ t { nx := fun _ H' => Q .non H', rt := Q } (L2.start N vs) H) : FnG P w K mg base CX (k + 1) f fd ps sp := by
  obtain ⟨oc, od, dV, kV, doc, pm, an, cdv, ct, osl, rfl, lk, hcd, _, _⟩ := F.ex
  exact ⟨len, fun A outer s H args us vs Q E gd hr e0 hb r hsp => LamX.run_ofS lk hcd S hr e0 hb r (len _ _ _ _ hsp) fun hr' => hbody A outer s H vs Q E (by simpa [Around.deeper] using gd) hr' hsp⟩
theorem callFn_len {G : Glb} {F : Fn} {ds : List D} {h : Hh} (e : callFn G F ds h ≠ .stk) : ds.length = F.np := by
  unfold callFn at e
  split at e
  · assumption
  · exact absurd rfl e
/-- the context of a lambda's body -/
def lamX (CX : CXT) (P : Program) (w : World) (K : PySem.W.Frag) (mg : Str → Option Value) (base : Heap) (J : LamI) (cl : List (Str × Addr)) (f c' : Addr) (A : Around) (out : List PySem.Env) (s : Shared) (H : Hp) (E : XK) : Cx :=
  let en : PySem.Env := PySem.W.envX (J.qual ++ "<lambda>") J.sc s.heap.objs.size f (.ref c') cl
  { prog := P, w := w, K := K, mg := mg, base := base, A := A.deeper en, N := J.N, s_0 := s, H_0 := H, env := en, outer := out, stack := en :: out, ex := [], fn := fun _ => false, calm := true, pn := [],
    xe := fun e s' => wpAny (model P w) (A.deeper en) (leaving en e) (fun _ s2 => CX out H s E e s2) (fun e2 s2 => CX out H s E e2 s2) s' }
section
variable {K : PySem.W.Frag} {CX : CXT} {J : LamI} {cl : List (Str × Addr)} {f c' : Addr} {A : Around} {out : List PySem.Env} {s : Shared} {H : Hp} {E : XK} {ws : List (Option V)}
theorem lam_inv (e0 : Env0 P w K mg base A out s H) (hd : A.handled = none) (hk : J.sc.kind = .function) (own : ∀ y ∈ J.sc.names, y.2 ≠ .local ∧ y.2 ≠ .cell) (C : CloH s.heap H J cl ws) {h1 : Heap} {tk : Nat} (ns : h1.Ns s.heap.objs.size fun y => ([] : List (Str × Value)).reverse.lookup y) (kp : ∀ b o, s.heap.get? b = some o → h1.get? b = some o) :
    Inv (lamX CX P w K mg base J cl f c' A out s H E) [] ws H { s with heap := h1, toks := tk } := by
  have noE : ∀ b : Addr, b ∉ (lamX CX P w K mg base J cl f c' A out s H E).ex := fun b z => absurd (show b ∈ ([] : List Addr) from z) (by simp)
  have cellK : ∀ {c : Addr} {v : Option Value}, s.heap.IsCell c v → h1.IsCell c v := fun {c v} ⟨o, e1, e2⟩ => ⟨o, kp _ _ e1, e2⟩
  refine ⟨⟨e0.mod, hk, rfl, rfl, Nat.le_refl _, C.inj, fun y hy => ?_, fun y c z _ => (nomatch (show false = true from z)), fun _ => hd, Around.frames_deeper e0.frames, .inr ⟨rfl, rfl⟩, fun b z => absurd z (noE b), e0.bs, e0.bsz, fun b _ _ => noE b, fun b z => absurd z (noE b), e0.funs, e0.frf⟩,
    rfl, e0.bare, Un.kept kp, ⟨_, ns, fun i y v e1 e2 e3 => ?_⟩, fun y c e => ?_, e0.hok.fresh (Nat.le_refl _), fun y c e => (C.cel y c e).1, fun q hq => absurd (show q ∈ ([] : List (Addr × Obj)) ++ [] from hq) (by simp), e0.hok.kept kp, C.len⟩
  · rcases hy with hy | hy
    · exact absurd rfl (own _ (PySem.mem_of_lookup (show J.sc.names.lookup y = some .cell from hy))).2
    · exact C.has y hy
  · rcases (show Vis J.sc y from e3) with z | z | z
    · exact absurd rfl (own _ (PySem.mem_of_lookup z)).1
    · exact absurd rfl (own _ (PySem.mem_of_lookup z)).2
    · obtain ⟨c, u, h2, h3, h4⟩ := C.val i y v e1 e2 z
      exact ⟨u, h4, .inr ⟨.inr z, c, h2, cellK h3⟩⟩
  · obtain ⟨_, v, z⟩ := C.cel y c e
    exact ⟨v, cellK z⟩
/-- a lambda keeps its promise -/
theorem lam_ok {k : Nat} {m : List D → Hh → Res D} (hp : J.params = ⟨[], [], none, [], [], none, []⟩) (hk : J.sc.kind = .function) (hco : J.sc.isCoroutine = false) (hgn : J.sc.isGenerator = false) (own : ∀ y ∈ J.sc.names, y.2 ≠ .local ∧ y.2 ≠ .cell)
    (hb : ∀ (cl : List (Str × Addr)) (f c' : Addr) (A : Around) (out : List PySem.Env) (s : Shared) (H : Hp) (E : XK), (lamX (L2.CX P w) P w K mg base J cl f c' A out s H E).A.guards = some [] → Room k (lamX (L2.CX P w) P w K mg base J cl f c' A out s H E).A → PE (lamX (L2.CX P w) P w K mg base J cl f c' A out s H E) J.body (LE T (fun c d _ H => E c d H) m)) :
    LamG T P w K mg base (L2.CX P w) (k + 1) J m := by
  refine ⟨fun A out s H f c' cl pm ctv ws Q E gd hr e0 of cr C ⟨R, e, h, r, env, q⟩ => ?_⟩
  have lim : s.heap.NoLimit := e0.mod.nolimit.keeps fun b o e => (e0.bs b o e).1
  refine PySem.W.kla_callFunE hr.depth of rfl hco hgn rfl cr ?_
  have hbind : bindArgs (PySem.W.kla_fn "<lambda>" (J.qual ++ "<lambda>") J.params J.body J.sc cl pm (.ref c') ctv) ⟨[], []⟩ = pure [] := by rw [hp]; rfl
  rw [hbind]
  refine wpAny_pure (wpAny_newFunctionEnv (fun y hy => (own y hy).2) (fun y hy => absurd hy (by simp)) (fun h1 ns sb => ⟨lim.fresh _ sb, ?_⟩) hk)
  have kp : ∀ b o, s.heap.get? b = some o → h1.get? b = some o := fun b o e => sb.extBut b o (Nat.ne_of_lt (Heap.lt_size e)) (Heap.get?_push_of_some _ e)
  have I := lam_inv (CX := L2.CX P w) (E := E) (f := f) (c' := c') (tk := s.toks + ([] : List (Str × Value)).length) e0 hr.hd hk own C ns kp
  refine PySem.W.kla_codeExpr (wpAny_mono ((hb cl f c' A out s H E (by simpa [Around.deeper, lamX] using gd) (hr.deeper _)).run [] _ ws H Q I ⟨R, e, h, r, env, ?_⟩) (fun v s' hq => ?_) fun _ _ z => z)
  · cases z : m e h with
    | ok d h' => rw [z] at q; exact q
    | exc cc d h' => rw [z] at q; exact q
    | stk => rw [z] at q; exact q
  · obtain ⟨w', H', J', rv, q⟩ := hq
    exact ⟨w', H', J'.os, J'.bare, J'.base, J'.hok, rv, q⟩
end
def fdAt (K : PySem.W.Frag) (a : Addr) : Option FuncData := match K.lookup a with
  | some ⟨_, _, .func fd, _⟩ => some fd
  | _ => none
theorem fdAt_of {K : PySem.W.Frag} {x qual : Str} {params : Arguments} {body : List Stmt} {scope : Scope} {f : Addr} {fd : FuncData} {dvs : List V} {kws : List (Str × V)} (F : FunD K x qual params body scope dvs kws f fd) : fdAt K f = some fd := by
  obtain ⟨oc, od, dV, kV, doc, pm, an, cdv, ct, osl, rfl, lk, hcd, _, _⟩ := F.ex
  unfold fdAt
  rw [lk]
theorem glb_ok {pars : Nat → List Str} (hw : ∀ c b e h, wh c b e h = .stk ∨ ∃ n, wh c b e h = whF c b n e h) (hblt : ∀ x ∈ c0.blt, mg x = none) (hcon : ∀ (g : Nat) (x : Str) (i : Int), c0.cons[g]? = some (x, i) → ∃ t, mg x = some (.int i t))
    (hex : ∀ (ci : Nat) (x : Str), (ci, x) ∈ c0.exs → ∃ C fI fd, T.cls ci = some C ∧ mg x = some (.ref C) ∧ OexC T.K C ∧ PySem.W.findIn T.K (.ref C) "__init__" = some (some (.ref fI)) ∧ PySem.W.typeIn T.K (.ref fI) = some (.type "function") ∧
      FnOk P w T.K mg base (L2.CX P w) 1 fI fd ["self", valN] (spI C) ∧ Binds T.K fd ["self", valN] [])
    (hxm : ∀ (cj : Nat) (y : Str), (cj, y) ∈ c0.xcl → ∃ Cj, mg y = some (.ref Cj))
    (hxc : ∀ (ci : Nat) (C : Addr), prg.sub ci ci = true → T.cls ci = some C → XfC T.K C ∧ PySem.W.findIn T.K (.ref C) valN = some none ∧ ExcC T.K C ∧
      ∀ (cj : Nat) (y : Str) (Cj : Addr), (cj, y) ∈ c0.xcl → mg y = some (.ref Cj) → PySem.W.kitOne T.K (.ref C) (.ref Cj) = some (prg.sub ci cj) ∧ PySem.W.exmOne T.K (.ref C) (.ref Cj) = some (prg.sub ci cj))
    (hl : ∀ b I, T.lam b I ↔ LamC c0 b I)
    (hd : ∀ (f : Nat) (x : Str), c0.fns[f]? = some x → ∃ F a fd N params body scope mk, prg.fns[f]? = some F ∧ DefOk T mg base c0 F f x a fd (pars f) N params body scope mk) :
    ∀ (n : Nat), (∀ (f : Nat) (x : Str), c0.fns[f]? = some x → ∃ a fd, fdAt T.K a = some fd ∧ mg x = some (.ref a) ∧ PySem.W.keepIn T.K (.ref a) = true ∧ Binds T.K fd (pars f) [] ∧ FnG P w T.K mg base (L2.CX P w) (n + 2) a fd (pars f) (spF T ((glb prg wh n).call f) (pars f).length) ∧
      (∀ ds h, (glb prg wh n).call f ds h ≠ .stk → ds.length = (pars f).length) ∧ ∀ ks pm, (f, ks, pm) ∈ c0.kws → ∀ ws : List Value, ws.length = ks.length → ∃ us, pm.mapM (fun i => ws[i]?) = some us ∧ ∀ s : Shared, T.K.In s.heap → BindsTo s fd ⟨[], ks.zip ws⟩ ((pars f).zip us)) ∧
      ∀ b I, T.lam b I → LamG T P w T.K mg base (L2.CX P w) (n + 2) I ((glb prg wh n).lam b)
  | 0 => by
    refine ⟨fun f x hx => ?_, fun b I _ => ⟨fun A outer s H f c' cl pm ctv ws Q E _ _ _ _ _ _ q => ?_⟩⟩
    · obtain ⟨F, a, fd, N, params, body, scope, mk, e, d⟩ := hd f x hx
      refine ⟨a, fd, fdAt_of d.fn, d.mgf, d.fn.kp, d.binds, ⟨fun vs H Q E q => q.1, fun A outer s H args us vs Q E _ _ _ _ _ q => ?_⟩, fun ds h q => absurd rfl q, d.kw⟩
      obtain ⟨_, R, ds, h, _, _, q⟩ := q
      exact absurd q id
    · obtain ⟨R, e, h, _, _, q⟩ := q
      exact absurd q id
  | n + 1 => by
    obtain ⟨ih1', ih2⟩ := glb_ok hw hblt hcon hex hxm hxc hl hd n
    have ih1 : ∀ (f : Nat) (x : Str), c0.fns[f]? = some x → ∃ a fd ps, mg x = some (.ref a) ∧ PySem.W.keepIn T.K (.ref a) = true ∧ Binds T.K fd ps [] ∧ FnG P w T.K mg base (L2.CX P w) (n + 2) a fd ps (spF T ((glb prg wh n).call f) ps.length) ∧
        (∀ ds h, (glb prg wh n).call f ds h ≠ .stk → ds.length = ps.length) ∧ ∀ ks pm, (f, ks, pm) ∈ c0.kws → ∀ ws : List Value, ws.length = ks.length → ∃ us, pm.mapM (fun i => ws[i]?) = some us ∧ ∀ s : Shared, T.K.In s.heap → BindsTo s fd ⟨[], ks.zip ws⟩ (ps.zip us) := fun f x hx => by
      obtain ⟨a, fd, _, q⟩ := ih1' f x hx
      exact ⟨a, fd, pars f, q⟩
    have hsub : (glb prg wh n).sub = prg.sub := by cases n <;> rfl
    have gw : WhOk (glb prg wh n) := by
      intro c b e h
      cases n with
      | zero => exact hw c b e h
      | succ n => exact hw c b e h
    refine ⟨fun f x hx => ?_, fun b I hI => ?_⟩
    · obtain ⟨F, a, fd, N, params, body, scope, mk, e, d⟩ := hd f x hx
      have ec : ∀ ds h, (glb prg wh (n + 1)).call f ds h = callFn (glb prg wh n) F ds h := by
        intro ds h
        show (match prg.fns[f]? with
          | some F => callFn (glb prg wh n) F ds h
          | none => .stk) = _
        rw [e]
      refine ⟨a, fd, fdAt_of d.fn, d.mgf, d.fn.kp, d.binds, fng d.fn d.scp (fun vs H Q E q => q.1) fun A outer s H vs Q E gd hr q => ?_, fun ds h q => ?_, d.kw⟩
      · obtain ⟨hlen, R, ds, h, r, dv, q⟩ := q
        rw [ec] at q
        have g : Good T (glb prg wh n) (n + 2) { c0 with N := N, sc := scope, fnl := none, mkr := mk } (cxOf (L2.CX P w) P w T.K mg base N x scope a fd.code A outer s H E) :=
          ⟨rfl, rfl, d.scp.nd, rfl, fun _ _ => rfl, (fun _ z => by cases z), rfl, hr, gd, hblt, hcon, by omega, hex, ih1, fun _ => ⟨rfl, rfl, rfl⟩, hxm, (by rw [hsub]; exact hxc), fun b I q => (hl b I).mpr ⟨q.nd, q.par, q.kind, q.co, q.gen, q.own, q.ck⟩, ih2, d.mkr⟩
        exact ⟨_, sSs F.body _ _ _ body g gw (passes_of rfl) (takes_of rfl rfl rfl rfl) d.ck, body_ends d.nl (by rw [d.np, hlen]) r dv q⟩
      · rw [ec] at q
        rw [callFn_len q, d.np]
    · have C := (hl b I).mp hI
      refine lam_ok C.par C.kind C.co C.gen C.own fun cl f c' A out s H E gd hr => ?_
      have g : Good T (glb prg wh n) (n + 2) ({ c0 with N := I.N }.lam I.sc) (lamX (L2.CX P w) P w T.K mg base I cl f c' A out s H E) :=
        ⟨rfl, rfl, C.nd, rfl, (fun z => by cases z), (fun sc z x => by
          cases z
          show false = (I.sc.names.lookup x == some .cell)
          cases y : I.sc.names.lookup x with
          | none => rfl
          | some k =>
            have := (C.own _ (PySem.mem_of_lookup y)).2
            cases k <;> first | rfl | exact absurd rfl this), rfl, hr, gd, hblt, hcon, by omega, hex, ih1, (fun z => by cases z), hxm, (by rw [hsub]; exact hxc), fun b I q => (hl b I).mpr ⟨q.nd, q.par, q.kind, q.co, q.gen, q.own, q.ck⟩, ih2, (fun z => by cases z)⟩
      exact sE b _ _ _ I.body g (takes_of rfl rfl rfl rfl) C.ck
end
end Mn
/-! # An own error with a value: its __init__ -/
namespace Mn
open PySem L2 PyProof.Rows
def sc0 (q : Scope) : Scope := { q with names := [] }
section
variable {P : Program} {w : World} {K : PySem.W.Frag} {mg : Str → Option Value} {base : Heap} {A : Around} {outer : List PySem.Env} {s : Shared} {H : Hp} {CX : CXT} {E : XK} {qual : Str} {scope : Scope} {f : Addr} {cd : Value}
/-- at a call's entry, in a context without names -/
theorem inv_bare (e0 : Env0 P w K mg base A outer s H) (hd : A.handled = none) (hk : scope.kind = .function) {h₁ : Heap} {tk : Nat} {m : Str → Option Value} (hns : h₁.Ns s.heap.objs.size m) (kp : ∀ b o, s.heap.get? b = some o → h₁.get? b = some o) :
    Inv (cxOf CX P w K mg base [] qual (sc0 scope) f cd A outer s H E) [] [] H { s with heap := h₁, toks := tk } := by
  have noA : ∀ b : Addr, b ∉ (cxOf CX P w K mg base [] qual (sc0 scope) f cd A outer s H E).ex := fun b z => absurd (show b ∈ ([] : List Addr) from z) (by simp)
  have noc : ∀ {y c}, (cxOf CX P w K mg base [] qual (sc0 scope) f cd A outer s H E).env.cells.lookup y = some c → False := fun {y c} z => by
    have z : (([] : List (Str × Addr))).lookup y = some c := z
    cases z
  refine ⟨⟨e0.mod, hk, rfl, rfl, Nat.le_refl _, fun y z c h1 h2 => (noc h1).elim, fun y hy => ?_, fun y c _ h => (noc h).elim, fun _ => hd, Around.frames_deeper e0.frames, .inr ⟨rfl, rfl⟩, fun b z => absurd z (noA b), e0.bs, e0.bsz, fun b _ _ => noA b, fun b z => absurd z (noA b), e0.funs, e0.frf⟩,
    rfl, e0.bare, Un.kept kp, ⟨_, hns, fun i y v h1 h2 h3 => ?_⟩, fun y c h => (noc h).elim, e0.hok.fresh (Nat.le_refl _), fun y c h => (noc h).elim, fun p hp => absurd (show p ∈ ([] : List (Addr × Obj)) from hp) (by simp), e0.hok.kept kp, rfl⟩
  · have hy : ([] : List (Str × NameKind)).lookup y = some .cell ∨ ([] : List (Str × NameKind)).lookup y = some .free := hy
    rcases hy with hy | hy <;> cases hy
  · cases h1
end
/-- what must be known of an error's class and its __init__ -/
structure XcOk (P : Program) (K : PySem.W.Frag) (mg : Str → Option Value) (C fI : Addr) (fd : FuncData) : Prop where
  oex : OexC K C
  ex : ∃ (oc cl ccl : Value) (od cld cdd : Option Addr) (osl csl ccs : Array (Option Value)) (qual : Str) (params : Arguments) (scope : Scope) (dV kV doc pm ct : Value) (an : Option Addr) (cda cc : Addr) (p0 p1 p2 p3 p4 p5 q1 q2 q3 q4 : Pos) (ar : Arg) (vsC : Array Value) (file : Str) (tf : Tok) (body : List Stmt),
    fd = PySem.W.ksFn "__init__" qual params body scope dV kV doc pm an (.ref cda) ct cc ∧
    body = [.Expr (.Call (.Attribute (.Call (.Name "super" p0) [] [] p1) "__init__" p2) [.Name valN p3] [] p4) p5, .Assign [.Attribute (.Name "self" q1) valN q2] (.Name valN q3) q4] ∧
    K.lookup fI = some ⟨oc, od, .func fd, osl⟩ ∧ PySem.W.codeIn K (.ref cda) qual = true ∧ K.lookup cda = some ⟨ccl, cdd, .fields vsC, ccs⟩ ∧ vsC[2]? = some (.str file tf) ∧ ((P.main.file : Str) == file) = true ∧
    K.lookup cc = some ⟨cl, cld, .cell (some (.ref C)), csl⟩ ∧ (params.posonlyargs ++ params.args).head? = some ar ∧ ar.arg = "self" ∧
    scope.kind = .function ∧ scope.isCoroutine = false ∧ scope.isGenerator = false ∧ (∀ y ∈ scope.names, y.2 ≠ .cell) ∧ scope.names.lookup ("self" : Str) = some .local ∧ scope.names.lookup valN = some .local ∧ scope.names.lookup ("super" : Str) = some .globalImplicit ∧ scope.names.lookup ("__class__" : Str) = some .free ∧ (p2.endLine == p4.line) = true
  main : (P.main.scope.names.lookup ("super" : Str)).isSome = false
  sup : mg "super" = none
  sub : PySem.W.mroIn K C (.ref C) = some true
  opq : PySem.W.nsIn K cStatics "thirdparty.any" = some none
  ini : PySem.W.ks_superIn K C C "__init__" = some (some (.builtin "ValueError.__init__"))
  isV : PySem.W.subIn K (.ref C) (.type "ValueError") = some true
  noV : PySem.W.findIn K (.ref C) valN = some none
theorem sup_eval {o : PySem.Expr} {x name : Str} {p3 apos pos : Pos} {env : PySem.Env} (hl : (apos.endLine == pos.line) = true) : eval (.Call (.Attribute o name apos) [.Name x p3] [] pos) env = (do
      let ov ← attributeBase o name env (eval o env)
      standAt apos.atName
      let (f, first) ← holding [ov] (getMethod ov name (do return (← importBound o env).getD true))
      callWith pos f first (backTo pos (starEach [.Name x p3] env)) []) := by
  have e1 : methodCallForm (([PySem.Expr.Name x p3] : List PySem.Expr).length + ([] : List Keyword).length) (backTo pos (starEach [.Name x p3] env)) (backToKw pos (keywordEach [] env)) = true := rfl
  show (do
    let ov ← attributeBase o name env (eval o env)
    standAt apos.atName
    methodCall o name apos pos env ov (([PySem.Expr.Name x p3] : List PySem.Expr).length + ([] : List Keyword).length) (backTo pos (starEach [.Name x p3] env)) (backToKw pos (keywordEach [] env))) = _
  unfold methodCall calleeOf methodCallPos
  rw [e1]
  simp only [hl, Bool.or_true, if_true, Bool.not_true, Bool.false_or, pure_bind]
  rfl
theorem init_ok {P : Program} {w : World} {K : PySem.W.Frag} {mg : Str → Option Value} {base : Heap} {k : Nat} {C fI : Addr} {fd : FuncData} (X : XcOk P K mg C fI fd) : FnOk P w K mg base (L2.CX P w) (k + 1) fI fd ["self", valN] (spI C) := by
  refine ⟨fun vs H Q E ⟨a, v, e, _⟩ => by rw [e]; rfl, fun A outer s H args us vs Q E hr e0 hb r hsp => ?_⟩
  obtain ⟨a, v, rfl, ea, q⟩ := hsp
  obtain ⟨oc, cl, ccl, od, cld, cdd, osl, csl, ccs, qual, params, scope, dV, kV, doc, pm, ct, an, cda, cc, p0, p1, p2, p3, p4, p5, q1, q2, q3, q4, ar, vsC, file, tf, body, rfl, rfl, lk, hcd, lkc, hvs, hfile, lcell, hp, har, hk, hco, hgen, hcell, hself, hval, hks, hkc, hln⟩ := X.ex
  cases r with
  | cons ra r' =>
  cases r' with
  | cons rv r'' =>
  cases r''
  rename_i u0 u1
  have ra : u0 = .ref a := ra
  subst ra
  have KX : K.In s.heap := e0.mod.kin.keeps fun b o e => (e0.bs b o e).1
  have lim : s.heap.NoLimit := e0.mod.nolimit.keeps fun b o e => (e0.bs b o e).1
  refine PySem.ks_codeAny_call_defAt hr.depth (KX _ _ lk) rfl lim (PySem.W.codeRec_of KX hcd) rfl hb hcell ?_ (fun h₁ hns kp => ?_) hco hgen hk
  · intro y hy
    have hy : y ∈ [(("self" : Str), Value.ref a), (valN, u1)] := hy
    rcases List.mem_cons.mp hy with rfl | hy
    · exact hself
    · rcases List.mem_cons.mp hy with rfl | hy
      · exact hval
      · cases hy
  · generalize hs1 : s.toks + ([("self" : Str), valN].zip [Value.ref a, u1]).length = tk1
    have I : Inv (cxOf (L2.CX P w) P w K mg base [] qual (sc0 scope) fI (.ref cda) A outer s H E) [] [] H { s with heap := h₁, toks := tk1 } := inv_bare e0 hr.hd hk hns kp
    have K1 : K.In h₁ := I.kIn
    obtain ⟨t1, ho⟩ := exo_at I.hok ea
    -- the class
    obtain ⟨nm, qn, Nn, bs, bm, sn, sub, ab, col, dd, k0, k1, k2, k3, k5, hC, hbm⟩ := X.oex.cls
    have hcl : PySem.W.clsIn K C = some { name := nm, bases := bs, mro := .ref C :: bm, ns := Nn, qualname := qn, hasDict := true, slotNames := sn, subclasses := sub, abstract := ab, collection := col, hasDel := false } := by unfold PySem.W.clsIn; rw [hC] <;> rfl
    have hm1 : ∀ (hp : Heap) (m : Str → Option Value), hp.Ns s.heap.objs.size m → True := fun _ _ _ => trivial
    have lV : (fun x => ([("self" : Str), valN].zip [Value.ref a, u1]).reverse.lookup x) valN = some u1 := by rfl
    have lS : (fun x => ([("self" : Str), valN].zip [Value.ref a, u1]).reverse.lookup x) ("self" : Str) = some (.ref a) := by rfl
    generalize hm : (fun x => ([("self" : Str), valN].zip [Value.ref a, u1]).reverse.lookup x) = m at hns lV lS
    refine PySem.ks_wpAt_execs_cons (PySem.ks_wpAt_Expr_any (PySem.ks_wpAt_MethodCall ?_ (sup_eval hln)) (by show interactive _ = false; simp [interactive, callEnv, newEnv, hk]))
    refine PySem.ks_wpAt_super_base hks hkc rfl rfl (K1 _ _ lk) rfl hp rfl (K1 _ _ lkc) rfl hvs hfile X.main ?_
    obtain ⟨mb, b1, b2⟩ := I.mod.blt
    refine PySem.W.ks_loadName_global hk hks (Calls.loadGlobal_builtin (I.mod.glob.keeps I.bk) X.sup (b1.keeps I.bk) ((b2 _ (by decide)).trans (by decide +kernel : bootBuiltins "super" = some (.type "super"))) ⟨rfl, ?_⟩)
    refine wpAny_loadName_free hk hkc rfl ⟨_, K1 _ _ lcell, rfl⟩ ?_
    rw [har]
    refine wpAny_loadName_local hk hself hns lS ?_
    refine PySem.ks_wpAny_isType_cls (K1 _ _ hC) rfl ⟨rfl, ?_⟩
    refine PySem.ks_wpAny_call_super (K1 _ _ hC) rfl ho rfl (fun c z => by cases z) (PySem.W.looks_mroIn K1 X.sub) (fun h' e k => ?_)
    have K2 : K.In h' := K1.keeps k
    have In : PySem.W.InstAt h' a (PySem.HandSPX.excO C t1) C none := ⟨k _ _ ho, rfl, rfl, trivial⟩
    have hini := X.ini
    unfold PySem.W.ks_superIn at hini
    rw [hcl] at hini
    refine PySem.W.kxs_getMethod PySem.W.kxs_ValueError (l₀ := .ref C :: bm) e (PySem.W.looks_opaque K2 X.opq) ((PySem.W.looks_clsIn K2 hcl).andThen .now) rfl K2 hini (In.type.andThen (PySem.W.looks_subIn K2 X.isV)) (PySem.W.ks_ne K2 In hcl) rfl ?_
    have kk : ∀ b o, h₁.get? b = some o → (h'.push (PySem.W.kxs_mw "ValueError.__init__" a)).get? b = some o := fun b o z => Heap.get?_push_of_some _ (k b o z)
    have hmw : (h'.push (PySem.W.kxs_mw "ValueError.__init__" a)).get? h'.objs.size = some (PySem.W.kxs_mw "ValueError.__init__" a) := Heap.get?_push_size _ rfl
    have ho2 : (h'.push (PySem.W.kxs_mw "ValueError.__init__" a)).get? a = some (PySem.HandSPX.excO C t1) := kk _ _ ho
    generalize hh2 : h'.push (PySem.W.kxs_mw "ValueError.__init__" a) = h2 at kk hmw ho2 ⊢
    have nsk : ∀ {h3 : Heap}, (∀ b o, b ≠ a → h₁.get? b = some o → h3.get? b = some o) → h3.Ns s.heap.objs.size m := fun {h3} z => by
      obtain ⟨ob, es, ep, hob, r⟩ := hns
      have na : s.heap.objs.size ≠ a := by
        exact Nat.ne_of_gt (e0.hok.lt ea)
      exact ⟨ob, es, ep, z _ _ na hob, r⟩
    show wpAny _ _ (callWith p4 (.ref h'.objs.size) [] ((false, eval (.Name valN p3) _) :: backTo p4 (starEach [] _)) []) _ _ _
    refine PySem.W.kxs_callWith (i := "ValueError.__init__") (x := a) rfl (PySem.Calls.evalArgs_plain (Calls.spliced_cons (wpAny_Name (wpAny_loadName_local hk hval (nsk fun b o _ z => kk b o z) lV ?_) rfl)))
    refine Calls.spliced_nil ⟨hmw, ?_⟩
    have hC2 : h2.get? C = some _ := kk _ _ (K1 _ _ hC)
    refine wpAny_call (codeAny_of_tree ?_)
    show wpAny _ _ (callAny (.ref h'.objs.size) ⟨[u1], []⟩) _ _ _
    simp only [callAny]
    refine wpAny_bind (wpAny_load hmw ?_)
    simp only [PySem.W.kxs_mw, show (Value.type "method-wrapper" == Value.type "method" || Value.type "method-wrapper" == Value.type "builtin_function_or_method" || Value.type "method-wrapper" == Value.type "method-wrapper") = true by decide, if_true]
    refine PySem.W.KFB.if_so (by decide) ?_
    refine wpAny_bind (PySem.W.check_bound_init F.excBase_ValueError.toExcCallFacts hC2 ho2 rfl ?_)
    refine wpAny_bind (wpAny_pure (wpAny_pure ?_))
    refine ⟨plainId_quiet F.excBase_ValueError.init.plain _, codeAny_builtin F.excBase_ValueError.initEntry ?_⟩
    refine PySem.W.exc_init_tree (cls := .ref C) (t0 := t1) (dv := none) (c2 := .none) (c3 := .none) (b4 := .bool false) ho2 (by rw [sizeLine_eq]; simp) fun h3 k3 e3 _ => ?_
    -- self.value = value
    have kk3 : ∀ b o, b ≠ a → h₁.get? b = some o → h3.get? b = some o := fun b o n z => k3 b o n (kk b o z)
    refine PySem.ks_wpAt_execs_cons (wpAt_of_wpAny (plainObj_wpAny_Assign_Attribute (wpAny_Name (wpAny_loadName_local hk hval (nsk kk3) lV ?_) rfl) rfl))
    refine wpAny_Name (wpAny_loadName_local hk hself (nsk kk3) lS ?_) rfl
    have I2 := I.write (t' := tk1 + 1) (h' := h3) (x := a) (e := a) (o := exo a C none) (by rw [ea]; exact True.intro) (.inl rfl) kk3 ⟨_, e3⟩ (exo_ok e3)
    rw [show upd H a (exo a C none) = H from by
      funext b
      by_cases hb : b = a
      · rw [hb, upd_same, ea]
      · rw [upd_ne hb]] at I2
    refine ost_new (X := cxOf (L2.CX P w) P w K mg base [] qual (sc0 scope) fI (.ref cda) A outer s H E) X.oex I2 ea X.noV rv fun dx s' hd ne J => ?_
    refine wpAt_of_wpAny (wpAny_execs_nil ?_)
    exact ⟨.non, _, J.os, J.bare, J.base, J.hok, rfl, q dx hd ne⟩
end Mn
/-! # The law's call, for a promise that asks that nothing is being written -/
namespace Mn
open PySem PySem.Spec L2 PyProof.Rows
section
variable {P : Program} {w : World} {K : PySem.W.Frag} {mg mb : Str → Option Value} {CX : CXT} {k : Nat} {fa a : Addr} {cs : List (Addr × Addr)} {fd : FuncData} {x : Str} {sp : Sp} {s : Shared} {vs : List Value} {ns : List Int}
def oScr (vs : List Value) : Obj := { cls := .type "list", data := .seq vs.toArray }
/-- what is tracked at the law's call: the tables; the script, where K does not tell it -/
def enH (K : PySem.W.Frag) (cs : List (Addr × Addr)) (a : Addr) (vs : List Value) (ns : List Int) : Hp := fun b =>
  if b ∈ cs.map (·.2) then some (.tbl #[]) else if b = a ∧ K.lookup a = none then some (.frz (oScr vs) (.lst (ns.map V.int))) else none
theorem enH_cases {b : Addr} {u : HO} (h : enH K cs a vs ns b = some u) : (b ∈ cs.map (·.2) ∧ u = .tbl #[]) ∨ (b = a ∧ K.lookup a = none ∧ u = .frz (oScr vs) (.lst (ns.map V.int))) := by
  unfold enH at h
  split at h
  · rename_i hb; cases h; exact .inl ⟨hb, rfl⟩
  · split at h
    · rename_i hb; cases h; exact .inr ⟨hb.1, hb.2, rfl⟩
    · cases h
theorem enter (KX : K.In s.heap) (glo : s.heap.Ns mainGlobals mg) (bl : s.heap.Ns builtinsNs mb) (bb : ∀ x : Str, x ≠ "__name__" → mb x = bootBuiltins x) (lim : s.heap.NoLimit) (gens : s.gens = #[])
    (tabE : ∀ p ∈ cs, s.heap.get? p.2 = some { cls := .none, data := .fields #[] }) (tabK : ∀ p ∈ cs, K.lookup p.2 = none) (hd : ∀ p ∈ cs, PySem.W.CodeHd s.heap p.1 p.2)
    (bmod : ∃ (bm : Addr) (ob : Obj), mg "__builtins__" = some (.ref bm) ∧ bm ≠ builtinsNs ∧ s.heap.get? bm = some ob ∧ ob.cls = .type "module" ∧ ob.dict = some builtinsNs ∧ ob.data = .plain)
    (scr : s.heap.get? a = some (oScr vs)) (nts : IntsAre vs ns) (len : ns.length ≤ sizeLine) (room : Room k callerA)
    (F : ∀ base : Heap, K.In base → base.Ns mainGlobals mg → (∀ p ∈ cs, LamX.TabB base mg p.1 p.2) → FnG P w K mg base CX k fa fd [x] sp) (bind : ∀ (s : Shared) (u : Value), BindsTo s fd ⟨[u], []⟩ [(x, u)])
    (told : ∀ H : Hp, (∀ p ∈ cs, H p.2 = some (.tbl #[])) → SqL K H a (ns.map V.int) → sp [.ref a] H (fun v _ => v = .bl true) fun _ _ _ => False) (noX : ∀ H e s', CX [] H s (fun _ _ _ => False) e s' → False) :
    codeAny (model P w) callerA (.call (.ref fa) ⟨[.ref a], []⟩) (fun r s' => r = .ok (.ret (.bool true)) ∧ OldK s.heap s'.heap ∧ s'.os = s.os ∧ AllBare s'.gens) s := by
  have atT : ∀ {b}, b ∈ cs.map (·.2) → s.heap.get? b = some { cls := .none, data := .fields #[] } := fun {b} hb => by
    obtain ⟨p, hp, rfl⟩ := List.mem_map.mp hb
    exact tabE p hp
  have inT : ∀ {p}, p ∈ cs → p.2 ∈ cs.map (·.2) := fun {p} hp => List.mem_map.mpr ⟨p, hp, rfl⟩
  have aT : a ∉ cs.map (·.2) := fun z => by
    have q := (atT z).symm.trans scr
    have := congrArg Obj.data (Option.some.inj q)
    cases this
  generalize hH : enH K cs a vs ns = H
  have cases_ : ∀ {b u}, H b = some u → (b ∈ cs.map (·.2) ∧ u = .tbl #[]) ∨ (b = a ∧ K.lookup a = none ∧ u = .frz (oScr vs) (.lst (ns.map V.int))) := fun {b u} h => by subst hH; exact enH_cases h
  have tabH : ∀ p ∈ cs, H p.2 = some (.tbl #[]) := fun p hp => by subst hH; unfold enH; rw [if_pos (inT hp)]
  have rv : Vals (ns.map V.int) vs := vals_ints nts
  have seqH : SqL K H a (ns.map V.int) := by
    cases q : K.lookup a with
    | none => exact .inl (.inr ⟨oScr vs, by subst hH; unfold enH; rw [if_neg aT, if_pos ⟨rfl, q⟩]⟩)
    | some o =>
      have e := KX a o q
      rw [scr] at e
      cases e
      exact .inr ⟨_, vs.toArray, _, q, rfl, rfl, rfl, by rw [List.size_toArray, nts.length]; exact len, by simpa using rv⟩
  have hok : HOk P w H s.heap := fun b u h => by
    rcases cases_ h with ⟨hb, rfl⟩ | ⟨rfl, _, rfl⟩
    · exact atT hb
    · exact ⟨scr, by rw [List.length_map]; exact len, vs, _, rv, scr⟩
  -- what stands aside of the script and the tables is seen
  have sees : ∀ {b : Addr} {o : Obj}, s.heap.get? b = some o → (∀ v n, o.data ≠ .seq v n) → o.data ≠ .fields #[] → (hidT s.heap H).get? b = some o := fun {b o} e h1 h2 => hidT_get e (by
    cases q : H b with
    | none => rfl
    | some u =>
      exfalso
      rcases cases_ q with ⟨hb, _⟩ | ⟨rfl, _, _⟩
      · rw [atT hb] at e; cases e; exact h2 rfl
      · rw [scr] at e; cases e; exact h1 _ _ rfl)
  have seesN : ∀ {b : Addr} {m : Str → Option Value}, s.heap.Ns b m → (hidT s.heap H).Ns b m := fun {b m} ⟨o, es, ep, e, d, r⟩ => ⟨o, es, ep, sees e (fun v n z => by rw [d] at z; cases z) (fun z => by rw [d] at z; cases z), d, r⟩
  have kin : K.In (hidT s.heap H) := fun b o e => hidT_get (KX b o e) (by
    cases q : H b with
    | none => rfl
    | some u =>
      exfalso
      rcases cases_ q with ⟨hb, _⟩ | ⟨rfl, z, _⟩
      · obtain ⟨p, hp, rfl⟩ := List.mem_map.mp hb
        rw [tabK p hp] at e; cases e
      · rw [z] at e; cases e)
  have gloTab : ∀ {b}, b ∈ cs.map (·.2) → mainGlobals ≠ b := fun {b} hb z => by
    obtain ⟨o, es, ep, e, d, _⟩ := glo
    rw [z, atT hb] at e
    cases e
    cases d
  have tabB : ∀ p ∈ cs, LamX.TabB (hidT s.heap H) mg p.1 p.2 := fun p hp => by
    constructor
    · obtain ⟨o, us, fl, tf, flg, tg, inf, tx, tt, e1, r1, r2, r3, rest⟩ := hd p hp
      exact ⟨o, us, fl, tf, flg, tg, inf, tx, tt, sees e1 (fun v n z => by rw [r2] at z; cases z) (fun z => by rw [r2] at z; cases z; simp at r3), r1, r2, r3, rest⟩
    · obtain ⟨bm, ob, m1, m2, m3, m4, m5, m6⟩ := bmod
      refine ⟨bm, ob, m1, m2, fun z => ?_, fun z => ?_, sees m3 (fun v n z => by rw [m6] at z; cases z) (fun z => by rw [m6] at z; cases z), m4, m5, m6⟩
      · obtain ⟨o, es, ep, e, d, _⟩ := glo
        rw [← z, m3] at e
        cases e
        rw [m6] at d
        cases d
      · rw [z, tabE p hp] at m3
        cases m3
        cases m6
    · exact gloTab (inT hp)
  have modu : L2.Mod K mg (hidT s.heap H) := ⟨kin, seesN glo, ⟨mb, seesN bl, bb⟩, let ⟨mc, q1, q2⟩ := lim; ⟨mc, seesN q1, q2⟩⟩
  have env : Env0 P w K mg (hidT s.heap H) callerA [] s H := ⟨rfl, modu, fun b o e => of_hidT e, Nat.le_of_eq (hidT_size _ _), trivial, fun b z => absurd (show b ∈ ([] : List Addr) from z) (by simp), hok, .of_eq gens⟩
  have run := (F _ kin (seesN glo) tabB).run callerA [] s H ⟨[.ref a], []⟩ [.ref a] [.ref a] _ _ rfl room env (bind s (.ref a)) (.cons rfl .nil) (told H tabH seqH)
  refine codeAny_mono run fun r s' hr => ?_
  match r, hr with
  | .error e, hr => exact (noX H e s' hr).elim
  | .ok .next, hr => exact hr.elim
  | .ok .brk, hr => exact hr.elim
  | .ok .cont, hr => exact hr.elim
  | .ok (.ret u), hr =>
    obtain ⟨v, H', os, bare, U, hok', ru, rfl⟩ := hr
    obtain rfl : u = Value.bool true := ru
    have same_ : ∀ {b o}, b ∉ cs.map (·.2) → s.heap.get? b = some o → s'.heap.get? b = some o := fun {b o} nb e => by
      cases q : H b with
      | none => exact U.keep b o e q (fun z => absurd (show b ∈ ([] : List Addr) from z) (by simp)) (by simp)
      | some t =>
        rcases cases_ q with ⟨hb, _⟩ | ⟨rfl, _, rfl⟩
        · exact absurd hb nb
        · rw [scr] at e
          cases e
          exact (hok' _ _ (U.frzs _ _ _ q)).1
    have more_ : ∀ p ∈ cs, ∃ more : Array Value, s'.heap.get? p.2 = some { cls := .none, data := .fields more } := fun p hp => by
      obtain ⟨more, z⟩ := U.tbls p.2 #[] (tabH p hp)
      exact ⟨_, hok' p.2 _ z⟩
    refine ⟨rfl, ⟨fun b o e => ?_, fun b o e => ?_⟩, os, bare⟩ <;> by_cases hb : b ∈ cs.map (·.2)
    · obtain ⟨p, hp, rfl⟩ := List.mem_map.mp hb
      obtain ⟨more, hm⟩ := more_ p hp
      rw [tabE p hp] at e
      cases e
      exact .inr (.inl ⟨((hd p hp).tab (tabE p hp)).isCodeTable, rfl, #[], more, rfl, by rw [Array.empty_append]; exact hm⟩)
    · exact .inl (same_ hb e)
    · obtain ⟨p, hp, rfl⟩ := List.mem_map.mp hb
      obtain ⟨more, hm⟩ := more_ p hp
      exact ⟨_, hm⟩
    · exact ⟨o, same_ hb e⟩
end
/-- the row's end: F gives all that is asked of the law's def -/
theorem walk_G {l : PySem.W.OpenLaw} {n k : Nat} {q : Program} {loose : List Str} {XP : (Str → Option Value) → Heap → Prop} {YP : World → Heap → Prop} {d : DefRec} {x : Str}
    (hn : l.most = some n) (hn2 : n ≤ sizeLine) (hdf : d.params.defaults = []) (room : Room k callerA)
    (F : ∀ (w : World) (mg : Str → Option Value) (fa : Addr) (h : Heap), YP w h → h.Ns mainGlobals mg → mg d.name = some (.ref fa) → ∃ (K : PySem.W.Frag) (fd : FuncData) (cs : List (Addr × Addr)) (sp : Sp), K.In h ∧ (∀ p ∈ cs, h.get? p.2 = some { cls := .none, data := .fields #[] }) ∧ (∀ p ∈ cs, K.lookup p.2 = none) ∧ (∀ p ∈ cs, PySem.W.CodeHd h p.1 p.2) ∧
      (∀ (s : Shared) (u : Value), BindsTo s fd ⟨[u], []⟩ [(x, u)]) ∧
      (∀ (H : Hp) (a : Addr) (ns : List Int), ns.length ≤ n → (∀ z ∈ ns, Builtin.Int.intBits z ≤ 1048576) → (∀ p ∈ cs, H p.2 = some (.tbl #[])) → SqL K H a (ns.map V.int) → sp [.ref a] H (fun v _ => v = .bl true) fun _ _ _ => False) ∧
      ∀ base : Heap, K.In base → base.Ns mainGlobals mg → (∀ p ∈ cs, LamX.TabB base mg p.1 p.2) → FnG l.prog w K mg base (L2.CX l.prog w) k fa fd [x] sp) :
    PySem.W.WalkO q loose XP YP l.row.toRowW d [] (fun f vs => PySem.call f vs) := by
  refine Att.attach_callB hn hdf fun w s0 s1 mg mb fa o pm cd doc a vs ns G Y _ _ _ hmg hobj hints hlen hbits hg => ?_
  obtain ⟨K, fd, cs, sp, KX, c1, c2, c3, hb, hs, hF⟩ := F w mg fa _ Y G.T.g hmg
  refine enter KX G.T.g G.T.b G.T.builtins G.T.nolimit hg c1 c2 c3 G.T.bmain hobj hints (Nat.le_trans hlen hn2) room hF hb (fun H hT hS => hs H a ns hlen hbits hT hS) fun H e s' hq => ?_
  obtain ⟨_, _, _, _, _, _, _, _, _, _, _, _, z⟩ := hq
  exact z
end Mn
/-! # Facts of the errors' classes, by one Bool -/
namespace Mn
open PySem L2 PyProof.Rows He
def oexB (K : PySem.W.Frag) (C : Addr) : Bool := (match K.lookup C with
    | some ⟨.type t, _, .cls cd, sl⟩ => decide (t = "type") && (match cd.mro, sl.toList with
      | .ref C' :: bm, [_, _, _, _, some (.builtin n), _] => decide (C' = C) && (decide (n = "ValueError.__new__") && (!cd.hasDel && (cd.hasDict && PySem.HandSPX.refsVE bm)))
      | _, _ => false)
    | _ => false) && (eqO (PySem.W.findIn K (.ref C) "__setattr__") (some (some (.builtin "object.__setattr__"))) && (decide (PySem.W.subIn K (.ref C) (.type "BaseException") = some true) &&
    (decide (PySem.W.typeIn K (.ref C) = some (.type "type")) && PySem.W.keepIn K (.ref C))))
theorem oexB_ok {K : PySem.W.Frag} {C : Addr} (h : oexB K C = true) : OexC K C := by
  unfold oexB at h
  simp only [Bool.and_eq_true, decide_eq_true_eq] at h
  obtain ⟨h1, h2, h3, h4, h5⟩ := h
  refine ⟨?_, eqO_ok h2, h3, h4, h5⟩
  split at h1
  · rename_i t dd cd sl e
    rw [Bool.and_eq_true, decide_eq_true_eq] at h1
    obtain ⟨rfl, h1⟩ := h1
    split at h1
    · rename_i C' bm k0 k1 k2 k3 n k5 e1 e2
      simp only [Bool.and_eq_true, decide_eq_true_eq, Bool.not_eq_true'] at h1
      obtain ⟨rfl, rfl, q1, q2, q3⟩ := h1
      obtain ⟨nm, bs, mro, N, qn, hdct, sn, sub, ab, col, hdel⟩ := cd
      simp only at e1 q1 q2
      subst e1 q1 q2
      have es : sl = #[k0, k1, k2, k3, some (.builtin "ValueError.__new__"), k5] := by
        rw [← Array.toArray_toList (xs := sl), e2]
      subst es
      exact ⟨_, _, _, _, _, _, _, _, _, _, _, _, _, _, _, e, q3⟩
    · cases h1
  · cases h1
def excCB (K : PySem.W.Frag) (D : Addr) : Bool := eqO (PySem.W.findIn K (.ref D) "__getattribute__") (some (some (.builtin "BaseException.__getattribute__"))) && (eqO (PySem.W.findIn K (.ref D) "__getattr__") (some none) && (decide (PySem.W.subIn K (.ref D) (.type "BaseException") = some true) &&
  (PySem.W.hasDictIn K D && (eqO (PySem.W.findIn K (.ref D) "__class__") (some (some (.builtin "object.__class__"))) && (eqO (PySem.W.specialIn K (.builtin "object.__class__") "__get__") (some (some (.builtin "getset_descriptor.__get__"))) &&
  (decide (PySem.W.takesIn K (.builtin "object.__class__") = some true) && decide (PySem.W.mroIn K D (.type "object") = some true)))))))
theorem excCB_ok {K : PySem.W.Frag} {D : Addr} (h : excCB K D = true) : ExcC K D := by
  unfold excCB at h
  simp only [Bool.and_eq_true, decide_eq_true_eq] at h
  obtain ⟨h1, h2, h3, h4, h5, h6, h7, h8⟩ := h
  exact ⟨eqO_ok h1, eqO_ok h2, h3, h4, eqO_ok h5, eqO_ok h6, h7, h8⟩
/-- super().__init__(value); self.value = value -/
def initB (b : List Stmt) : Bool := match b with
  | [.Expr (.Call (.Attribute (.Call (.Name n1 _) [] [] _) n2 p2) [.Name n3 _] [] p4) _, .Assign [.Attribute (.Name n4 _) n5 _] (.Name n6 _) _] =>
    decide (n1 = "super") && (decide (n2 = "__init__") && (decide (n3 = valN) && (decide (n4 = "self") && (decide (n5 = valN) && (decide (n6 = valN) && (p2.endLine == p4.line))))))
  | _ => false
theorem initB_ok {b : List Stmt} (h : initB b = true) : ∃ p0 p1 p2 p3 p4 p5 q1 q2 q3 q4, b = [.Expr (.Call (.Attribute (.Call (.Name "super" p0) [] [] p1) "__init__" p2) [.Name valN p3] [] p4) p5, .Assign [.Attribute (.Name "self" q1) valN q2] (.Name valN q3) q4] ∧ (p2.endLine == p4.line) = true := by
  unfold initB at h
  split at h
  · simp only [Bool.and_eq_true, decide_eq_true_eq] at h
    obtain ⟨rfl, rfl, rfl, rfl, rfl, rfl, h⟩ := h
    exact ⟨_, _, _, _, _, _, _, _, _, _, rfl, h⟩
  · cases h
def parB : Arguments → Bool
  | ⟨[], [a, b], none, [], [], none, _⟩ => decide (a.arg = "self") && decide (b.arg = valN)
  | _ => false
def scB (sc : Scope) : Bool := decide (sc.kind = .function) && (!sc.isCoroutine && (!sc.isGenerator && (sc.names.all (fun y => !decide (y.2 = .cell)) && (decide (sc.names.lookup ("self" : Str) = some .local) && (decide (sc.names.lookup valN = some .local) &&
  (decide (sc.names.lookup ("super" : Str) = some .globalImplicit) && decide (sc.names.lookup ("__class__" : Str) = some .free)))))))
def fdB (P : Program) (K : PySem.W.Frag) (C : Addr) (fd : FuncData) : Bool := match fd with
  | ⟨name, qual, params, .stmts body, scope, gl, [(cn, cc)], .ref T, _, _, _, _, .ref cda, _, bl⟩ =>
    decide (name = "__init__") && (decide (cn = "__class__") && (decide (gl = mainGlobals) && (decide (bl = builtinsNs) && (parB params && (scB scope && (initB body && (PySem.W.codeIn K (.ref cda) qual &&
      ((match K.lookup cda with
        | some ⟨_, _, .fields vs, _⟩ => (match (vs[2]? : Option Value) with
          | some (.str file _) => (P.main.file : Str) == file
          | _ => false)
        | _ => false) &&
      ((match K.lookup cc with
        | some ⟨_, _, .cell (some (.ref C')), _⟩ => decide (C' = C)
        | _ => false) &&
      (match K.lookup T with
        | some ⟨_, _, .seq its _, _⟩ => decide (its.size = 1)
        | _ => false))))))))))
  | _ => false
def xcB (P : Program) (K : PySem.W.Frag) (C : Addr) : Bool := oexB K C && ((match K.lookup (ma K C "__init__") with
    | some ⟨_, _, .func fd, _⟩ => fdB P K C fd
    | _ => false) && (eqO (PySem.W.findIn K (.ref C) "__init__") (some (some (.ref (ma K C "__init__")))) && (decide (PySem.W.typeIn K (.ref (ma K C "__init__")) = some (.type "function")) &&
  (decide (PySem.W.mroIn K C (.ref C) = some true) && (eqO (PySem.W.nsIn K cStatics "thirdparty.any") (some none) && (eqO (PySem.W.ks_superIn K C C "__init__") (some (some (.builtin "ValueError.__init__"))) && (decide (PySem.W.subIn K (.ref C) (.type "ValueError") = some true) &&
  eqO (PySem.W.findIn K (.ref C) valN) (some none))))))))
theorem bind2 {K : PySem.W.Frag} {params : Arguments} {name qual : Str} {body : FuncBody} {scope : Scope} {gl bl : Addr} {cl : List (Str × Addr)} {T : Addr} {kV doc pm cdv ct : Value} {an : Option Addr} {o : Obj} {its : Array Value} {n : Nat} (hp : parB params = true) (lT : K.lookup T = some o) (oT : o.data = .seq its n) (h1 : its.size = 1) :
    Binds K ⟨name, qual, params, body, scope, gl, cl, .ref T, kV, doc, pm, an, cdv, ct, bl⟩ ["self", valN] [] := by
  intro s us X hl
  rw [List.append_nil] at hl ⊢
  match us, hl with
  | [u, v], _ =>
    unfold parB at hp
    split at hp
    · rename_i a b ds
      rw [Bool.and_eq_true, decide_eq_true_eq, decide_eq_true_eq] at hp
      obtain ⟨a1, a2, a3⟩ := a
      obtain ⟨b1, b2, b3⟩ := b
      simp only at hp
      obtain ⟨rfl, rfl⟩ := hp
      obtain ⟨d, rfl⟩ : ∃ d, its = #[d] := by
        obtain ⟨l⟩ := its
        match l, h1 with
        | [d], _ => exact ⟨d, rfl⟩
      exact BindsTo.of_defaults rfl (X _ _ lT) oT rfl rfl
    · cases hp
theorem xcB_ok {P : Program} {K : PySem.W.Frag} {mg : Str → Option Value} {C : Addr} (h : xcB P K C = true) (hm : (P.main.scope.names.lookup ("super" : Str)).isSome = false) (hs : mg "super" = none) :
    ∃ fd, XcOk P K mg C (ma K C "__init__") fd ∧ Binds K fd ["self", valN] [] ∧ PySem.W.findIn K (.ref C) "__init__" = some (some (.ref (ma K C "__init__"))) ∧ PySem.W.typeIn K (.ref (ma K C "__init__")) = some (.type "function") := by
  unfold xcB at h
  simp only [Bool.and_eq_true, decide_eq_true_eq] at h
  obtain ⟨h1, h2, h3, h4, h5, h6, h7, h8, h9⟩ := h
  split at h2
  · rename_i oc od fd osl lk
    unfold fdB at h2
    split at h2
    · rename_i name qual params body scope gl cn cc T kV doc pm an cda ct bl
      simp only [Bool.and_eq_true, decide_eq_true_eq] at h2
      obtain ⟨rfl, rfl, rfl, rfl, p1, p2, p3, p4, p5, p6, p7⟩ := h2
      unfold scB at p2
      simp only [Bool.and_eq_true, decide_eq_true_eq, Bool.not_eq_true', List.all_eq_true, decide_eq_false_iff_not] at p2
      obtain ⟨s1, s2, s3, s4, s5, s6, s7, s8⟩ := p2
      obtain ⟨q0, q1, q2, q3, q4, q5, r1, r2, r3, r4, rfl, hln⟩ := initB_ok p3
      split at p5
      · rename_i ccl cdd vsC ccs lkc
        split at p5
        · rename_i file tf hv
          split at p6
          · rename_i cl cld C' csl lcc
            have e := of_decide_eq_true p6
            subst e
            split at p7
            · rename_i tc td its tn tsl lT
              have b2 := bind2 (name := "__init__") (qual := qual) (body := .stmts [.Expr (.Call (.Attribute (.Call (.Name "super" q0) [] [] q1) "__init__" q2) [.Name valN q3] [] q4) q5, .Assign [.Attribute (.Name "self" r1) valN r2] (.Name valN r3) r4]) (scope := scope) (gl := mainGlobals) (bl := builtinsNs) (cl := [("__class__", cc)]) (kV := kV) (doc := doc) (pm := pm) (cdv := .ref cda) (ct := ct) (an := an) p1 lT rfl (of_decide_eq_true p7)
              obtain ⟨ar, har, hself⟩ : ∃ ar : Arg, (params.posonlyargs ++ params.args).head? = some ar ∧ ar.arg = "self" := by
                unfold parB at p1
                split at p1
                · rename_i a b ds
                  rw [Bool.and_eq_true, decide_eq_true_eq] at p1
                  exact ⟨a, rfl, p1.1⟩
                · cases p1
              exact ⟨_, ⟨oexB_ok h1, ⟨oc, cl, ccl, od, cld, cdd, osl, csl, ccs, qual, params, scope, .ref T, kV, doc, pm, ct, an, cda, cc, q0, q1, q2, q3, q4, q5, r1, r2, r3, r4, ar, vsC, file, tf, _, rfl, rfl, lk, p4, lkc, hv, p5, lcc, har, hself, s1, s2, s3, s4, s5, s6, s7, s8, hln⟩, hm, hs, h5, eqO_ok h6, eqO_ok h7, h8, eqO_ok h9⟩, b2, eqO_ok h3, h4⟩
            · cases p7
          · cases p6
        · cases p5
      · cases p5
    · cases h2
  · cases h2
/-- all that is asked of K about errors -/
def errB (P : Program) (exs xcl : List (Nat × Str)) (sub : Nat → Nat → Bool) (K : PySem.W.Frag) : Bool := exs.all fun p => decide (exs.lookup p.1 = some p.2) && (xcB P K (ga K p.2) && (xfB K (ga K p.2) && (excCB K (ga K p.2) &&
  xcl.all fun q => decide (PySem.W.kitOne K (.ref (ga K p.2)) (.ref (ga K q.2)) = some (sub p.1 q.1)) && decide (PySem.W.exmOne K (.ref (ga K p.2)) (.ref (ga K q.2)) = some (sub p.1 q.1)))))
def clsT (exs : List (Nat × Str)) (K : PySem.W.Frag) (ci : Nat) : Option Addr := (exs.lookup ci).map (ga K)
section
variable {P : Program} {w : World} {K : PySem.W.Frag} {mg : Str → Option Value} {base : Heap} {exs xcl : List (Nat × Str)} {sub : Nat → Nat → Bool}
theorem hex_of (h : errB P exs xcl sub K = true) (hm : (P.main.scope.names.lookup ("super" : Str)).isSome = false) (hs : mg "super" = none) (hg : ∀ p ∈ exs, mg p.2 = some (.ref (ga K p.2))) (ci : Nat) (x : Str) (hx : (ci, x) ∈ exs) :
    ∃ C fI fd, clsT exs K ci = some C ∧ mg x = some (.ref C) ∧ OexC K C ∧ PySem.W.findIn K (.ref C) "__init__" = some (some (.ref fI)) ∧ PySem.W.typeIn K (.ref fI) = some (.type "function") ∧ FnOk P w K mg base (L2.CX P w) 1 fI fd ["self", valN] (spI C) ∧ Binds K fd ["self", valN] [] := by
  have z := List.all_eq_true.mp h _ hx
  simp only [Bool.and_eq_true, decide_eq_true_eq] at z
  obtain ⟨fd, xo, b, f1, f2⟩ := xcB_ok (mg := mg) z.2.1 hm hs
  exact ⟨ga K x, _, fd, by unfold clsT; rw [z.1]; rfl, hg _ hx, xo.oex, f1, f2, init_ok (k := 0) xo, b⟩
theorem lookup_in {α : Type} : ∀ {l : List (Nat × α)} {i : Nat} {x : α}, l.lookup i = some x → (i, x) ∈ l
  | [], _, _, h => by cases h
  | (j, y) :: r, i, x, h => by
    rw [List.lookup_cons] at h
    split at h
    · rename_i e
      cases h
      rw [beq_iff_eq] at e
      subst e
      exact List.mem_cons_self
    · exact List.mem_cons_of_mem _ (lookup_in h)
theorem hxc_of (h : errB P exs xcl sub K = true) (ci : Nat) (C : Addr) (hC : clsT exs K ci = some C) (hgl : ∀ q ∈ xcl, mg q.2 = some (.ref (ga K q.2))) : XfC K C ∧ PySem.W.findIn K (.ref C) valN = some none ∧ ExcC K C ∧
    ∀ (cj : Nat) (y : Str) (Cj : Addr), (cj, y) ∈ xcl → mg y = some (.ref Cj) → PySem.W.kitOne K (.ref C) (.ref Cj) = some (sub ci cj) ∧ PySem.W.exmOne K (.ref C) (.ref Cj) = some (sub ci cj) := by
  unfold clsT at hC
  cases e : exs.lookup ci with
  | none => rw [e] at hC; cases hC
  | some x =>
    rw [e] at hC
    cases hC
    have z := List.all_eq_true.mp h _ (lookup_in e)
    simp only [Bool.and_eq_true, decide_eq_true_eq] at z
    obtain ⟨_, z2, z3, z4, z5⟩ := z
    refine ⟨xfB_ok z3, ?_, excCB_ok z4, fun cj y Cj hy hm => ?_⟩
    · unfold xcB at z2
      simp only [Bool.and_eq_true, decide_eq_true_eq] at z2
      obtain ⟨_, _, _, _, _, _, _, _, h9⟩ := z2
      exact eqO_ok h9
    · have q := List.all_eq_true.mp z5 _ hy
      rw [Bool.and_eq_true, decide_eq_true_eq, decide_eq_true_eq] at q
      have e2 := hgl _ hy
      rw [hm] at e2
      cases e2
      exact q
end
end Mn
/-! # The head's facts, the law's end -/
namespace Mn
open PySem PySem.Spec L2 PyProof.Rows He
/-- what is looked at behind the top: what the module's names reach, and the statics -/
def asY (n : Nat) (g : Addr → Option Obj) : List Addr := cStatics :: asD g n
def obsY (n : Nat) (fa : List Fa) (fn : List DefD) (tf : List Defn) (ex : PySem.W.Frag → Bool) (g : Addr → Option Obj) : AlX := (obsT fa fn [] (frT g (asY n g)), ex (frT g (asY n g)) && tabsB g tf (frT g (asY n g)))
theorem saysY {n : Nat} {fa : List Fa} {fn : List DefD} {tf : List Defn} {ex : PySem.W.Frag → Bool} {w : World} {h : Heap} (e : obsY n fa fn tf ex h.get? = valX fn [] w) : SaysX fa fn [] tf ex w h (frT h.get? (asY n h.get?)) := by
  generalize hK : frT h.get? (asY n h.get?) = K
  have two : obsT fa fn [] K = valT fn [] w ∧ (ex K && tabsB h.get? tf K) = true := by
    rw [← hK]
    exact ⟨congrArg Prod.fst e, congrArg Prod.snd e⟩
  obtain ⟨t1, t2⟩ := two
  rw [Bool.and_eq_true] at t2
  have tabs : ∀ p ∈ tf, PySem.W.codeHdIn K (cT K p).1 (cT K p).2 = true ∧ ∃ o, h.get? (cT K p).2 = some o ∧ emptyTab o = true := fun p hp => by
    have z := List.all_eq_true.mp t2.2 p hp
    rw [Bool.and_eq_true] at z
    refine ⟨z.1, ?_⟩
    have z2 := z.2
    split at z2
    · rename_i o q; exact ⟨o, q, z2⟩
    · cases z2
  refine ⟨t1, t2.1, fun p hp => (tabs p hp).1, fun p hp => ?_, fun p hp => ?_⟩
  · obtain ⟨_, o, q1, q2⟩ := tabs p hp
    subst hK
    exact frT_none q1 q2
  · obtain ⟨_, o, q1, q2⟩ := tabs p hp
    rw [q1, emptyTab_eq q2]
def hookY (n : Nat) (fa : List Fa) (fn : List DefD) (tf : List Defn) (ex : PySem.W.Frag → Bool) : PySem.W.Hook where
  α := AlX
  obs := fun s => obsY n fa fn tf ex s.heap.get?
  val := fun w => valX fn [] w
  says := fun w h => ∃ K : PySem.W.Frag, K.In h ∧ SaysX fa fn [] tf ex w h K
  of := fun _ _ e => ⟨_, frT_in, saysY e⟩
  keeps := fun _ _ _ ⟨K, hK, c⟩ k => ⟨K, hK.keeps k, ⟨c.t, c.more, c.hd, c.out, fun p hp => k _ _ (c.empty p hp)⟩⟩
theorem obsY_eq {n : Nat} {fa : List Fa} {fn : List DefD} {tf : List Defn} {ex : PySem.W.Frag → Bool} {g : Addr → Option Obj} {s : Shared} (h : ∀ a, g a = s.heap.get? a) : obsY n fa fn tf ex g = (hookY n fa fn tf ex).obs s := by
  have e : g = s.heap.get? := funext h
  subst e
  rfl
/-- the tables of the makers' code objects -/
def tabsT (K : PySem.W.Frag) (tf : List Defn) : List (Addr × Str) := tf.map fun p => ((cT K p).2, p.1 ++ ".<locals>." ++ "<lambda>")
def tbT (K : PySem.W.Frag) (exs : List (Nat × Str)) (fld : Nat → Str) (c0 : Ck) (tf : List Defn) : Tb := ⟨K, clsT exs K, fld, fun b I => LamC c0 b I, tabsT K tf⟩
theorem ints_dv {T : Tb} {R : Rl} : ∀ ns : List Int, DVs T R (ns.map D.int) (ns.map V.int)
  | [] => by simp only [List.map_nil, DVs]
  | i :: r => by simp only [List.map_cons, DVs, DV, true_and]; exact ints_dv r
theorem mk_code {K : PySem.W.Frag} {p : Defn} {x qual : Str} {params : Arguments} {body : List Stmt} {scope : Scope} {fd : FuncData} {dvs : List V} {kws : List (Str × V)} (F : FunD K x qual params body scope dvs kws (fAd K p) fd) : fd.code = .ref (codeOf K p) := by
  obtain ⟨oc, od, dV, kV, doc, pm, an, cdv, ct, osl, rfl, lk, hcd, _, _⟩ := F.ex
  obtain ⟨c, e⟩ := codeIn_ref hcd
  subst e
  rw [codeOf_eq lk rfl]
theorem kw_of {K : PySem.W.Frag} {x qual : Str} {params : Arguments} {body : List Stmt} {scope : Scope} {f : Addr} {fd : FuncData} {args : Args} {r : List (Str × Value)} (F : FunD K x qual params body scope [] [] f fd)
    (h : ∀ (kV doc pm : Value) (an : Option Addr) (cdv ct : Value), bindArgs (PySem.W.fnOf x qual params body scope .none kV doc pm an cdv ct) args = pure r) (s : Shared) : BindsTo s fd args r := by
  obtain ⟨oc, od, dV, kV, doc, pm, an, cdv, ct, osl, rfl, lk, hcd, hD, _⟩ := F.ex
  rcases hD with ⟨_, rfl⟩ | ⟨e, _⟩
  · exact .of_eq (h kV doc pm an cdv ct)
  · exact absurd rfl e
/-- the law's promise from its run in Mini -/
theorem law_sp {T : Tb} {call : List D → Hh → Res D} {H : Hp} {a : Addr} {ns : List Int} (hS : SqL T.K H a (ns.map V.int)) (ht : ∀ p ∈ T.tabs, H p.1 = some (.tbl #[])) (run : ∃ h', call [.ro (ns.map D.int)] [] = .ok (.bl true) h') :
    spF T call 1 [.ref a] H (fun v _ => v = .bl true) fun _ _ _ => False := by
  obtain ⟨h', run⟩ := run
  refine ⟨rfl, ⟨fun b => (match H b with
    | some (.tbl _) => none
    | o => o), [], fun _ => none, []⟩, [.ro (ns.map D.int)], [], ?_, ?_, ?_⟩
  · refine ⟨fun b o e => ?_, (fun b o e => by cases e), (fun b o e => by cases e), rfl, (fun c ob b e => by simp at e), List.nodup_nil, (fun b o e => by cases e), fun b ps e => ?_, fun p hp => LamX.TabS.nil (ht p hp)⟩
    · simp only at e
      split at e
      · cases e
      · exact e
    · simp only at e
      split at e
      · cases e
      · rename_i h1
        exact h1 ps e
  · simp only [DVs, DV, and_true]
    refine ⟨a, ns.map V.int, rfl, ?_, ?_⟩
    · rcases hS with (h | ⟨o, h⟩) | h
      · exact .inl (.inl (by simp only [h]))
      · exact .inl (.inr ⟨o, by simp only [h]⟩)
      · exact .inr h
    · exact ints_dv ns
  · rw [run]
    intro R' v H' _ _ dv
    simpa only [DV] using dv
end Mn
set_option maxHeartbeats 200000
namespace Mn
namespace Tx
open PySem L2
/-- is_whole: 0:value -/
def b0 : Ss := (.cons (.ret (.and (.bi false (.isinst [0]) (.cons (.var 0) .nil)) (.one (.not (.bi false (.isinst [1]) (.cons (.var 0) .nil)))))) .nil)
def f0 : Fn := ⟨1, 1, b0, true⟩
/-- is_count: 0:value -/
def b1 : Ss := (.cons (.ret (.and (.call 0 (.cons (.var 0) .nil)) (.one (.cmp .ge (.var 0) (.int 0))))) .nil)
def f1 : Fn := ⟨1, 1, b1, true⟩
/-- check_number: 0:number -/
def b2 : Ss := (.cons (.ite (.or (.not (.call 1 (.cons (.var 0) .nil))) (.one (.not (.chn .le .le (.int 1) (.var 0) (.glo 0 12))))) (.cons (.rai 8 (.var 0)) .nil) .nil) .nil)
def f2 : Fn := ⟨1, 1, b2, true⟩
/-- is_entry: 0:number 1:value 2:part -/
def b3 : Ss := (.cons (.ite (.or (.not (.bi false (.isinst [4]) (.cons (.var 1) .nil))) (.or (.cmp .ne (.bi false .len (.cons (.var 1) .nil)) (.int 3)) (.one (.cmp .ne (.lc false (.seq (.var 1)) (.nm 2) (.cons (.not (.call 1 (.cons (.var 2) .nil))) .nil) (.var 2)) (.lst false .nil))))) (.cons (.ret (.bl false)) .nil) .nil) (.cons (.ret (.and (.cmp .lt (.idx (.var 1) (.int 0)) (.var 0)) (.and (.cmp .lt (.idx (.var 1) (.int 1)) (.var 0)) (.one (.cmp .ne (.idx (.var 1) (.int 0)) (.idx (.var 1) (.int 1))))))) .nil))
def f3 : Fn := ⟨2, 3, b3, true⟩
/-- is_log_of: 0:number 1:value 2:entry -/
def b4 : Ss := (.cons (.ret (.and (.bi false (.isinst [3]) (.cons (.var 1) .nil)) (.one (.cmp .eq (.lc false (.seq (.var 1)) (.nm 2) (.cons (.not (.call 3 (.cons (.var 0) (.cons (.var 2) .nil)))) .nil) (.var 2)) (.lst false .nil))))) .nil)
def f4 : Fn := ⟨2, 3, b4, true⟩
/-- is_log: 0:number 1:value -/
def b5 : Ss := (.cons (.ex (.call 2 (.cons (.var 0) .nil))) (.cons (.ret (.call 4 (.cons (.var 0) (.cons (.var 1) .nil)))) .nil))
def f5 : Fn := ⟨2, 2, b5, true⟩
/-- check_log: 0:number 1:log -/
def b6 : Ss := (.cons (.ex (.call 2 (.cons (.var 0) .nil))) (.cons (.ite (.not (.call 4 (.cons (.var 0) (.cons (.var 1) .nil)))) (.cons (.rai 13 (.var 1)) .nil) .nil) .nil))
def f6 : Fn := ⟨2, 2, b6, true⟩
/-- told_by: 0:number 1:log 2:known 3:rows 4:one 5:at 6:entry 7:other 8:stake -/
def b7 : Ss := (.cons (.ex (.call 6 (.cons (.var 0) (.cons (.var 1) .nil)))) (.cons (.asg (.nm 2) (.dT true)) (.cons (.fr (.enum (.var 1)) (.tup (.cons (.nm 5) (.cons (.nm 6) .nil))) (.cons (.asg (.tup (.cons (.nm 4) (.cons (.nm 7) (.cons (.nm 8) .nil)))) (.var 6)) (.cons (.ite (.cmp .notin (.tup (.cons (.var 4) (.cons (.var 7) .nil))) (.var 2)) (.cons (.asg (.sub (.var 2) (.tup (.cons (.var 4) (.cons (.var 7) .nil)))) (.tup (.cons (.var 8) (.cons (.var 5) .nil)))) (.cons (.asg (.sub (.var 2) (.tup (.cons (.var 7) (.cons (.var 4) .nil)))) (.tup (.cons (.neg (.var 8)) (.cons (.var 5) .nil)))) .nil)) (.cons (.ite (.cmp .ne (.idx (.idx (.var 2) (.tup (.cons (.var 4) (.cons (.var 7) .nil)))) (.int 0)) (.var 8)) (.cons (.ret (.tup (.cons (.str "clash") (.cons (.tup (.cons (.idx (.idx (.var 2) (.tup (.cons (.var 4) (.cons (.var 7) .nil)))) (.int 1)) (.cons (.var 5) .nil))) .nil)))) .nil) .nil) .nil)) .nil)) [5, 6, 8]) (.cons (.asg (.nm 3) (.lst true .nil)) (.cons (.fr (.rng1 (.var 0)) (.nm 4) (.cons (.ex (.mt .append (.var 3) (.cons (.lc true (.rng1 (.var 0)) (.nm 7) .nil (.ife (.cmp .eq (.var 4) (.var 7)) (.int 0) (.idx (.mt .get (.var 2) (.cons (.tup (.cons (.var 4) (.cons (.var 7) .nil))) (.cons (.tup (.cons .non (.cons .non .nil))) .nil))) (.int 0)))) .nil))) .nil) [4]) (.cons (.ret (.tup (.cons (.str "told") (.cons (.var 3) .nil)))) .nil))))))
def f7 : Fn := ⟨2, 9, b7, false⟩
/-- _law_hash: 0:seed 1:index 2:mixed -/
def b8 : Ss := (.cons (.asg (.nm 2) (.bin false .mod (.bi false .int (.cons (.bin false .add (.bin false .add (.bin false .add (.bin false .mul (.var 0) (.int 1140671)) (.bin false .mul (.bin false .mul (.int 27644437) (.var 1)) (.var 1))) (.bin false .mul (.int 131) (.var 1))) (.int 19)) .nil)) (.int 2147483629))) (.cons (.asg (.nm 2) (.bin false .mod (.bi false .int (.cons (.bin false .add (.bin false .add (.bin false .mul (.var 2) (.var 2)) (.bin false .mul (.int 62089) (.var 1))) (.int 32416187)) .nil)) (.int 2147483587))) (.cons (.ret (.bin false .mod (.bi false .int (.cons (.bin false .mul (.var 2) (.int 48271)) .nil)) (.int 2147483647))) .nil)))
def f8 : Fn := ⟨2, 3, b8, true⟩
/-- _law_random: 0:generator 1:bound 2:drawn 3:turn -/
def b9 : Ss := (.cons (.ite (.cmp .gt (.idx (.var 0) (.int 0)) (.int 0)) (.cons (.asg (.nm 2) (.bin false .mod (.bi false .int (.cons (.idx (.var 0) (.int 0)) .nil)) (.var 1))) (.cons (.asg (.sub (.var 0) (.int 0)) (.bin false .fdv (.idx (.var 0) (.int 0)) (.var 1))) (.cons (.ret (.var 2)) .nil))) .nil) (.cons (.asg (.nm 2) (.int 0)) (.cons (.fr (.rng1 (.bin false .add (.int 1) (.bin false .fdv (.mt .bitlen (.var 1) .nil) (.int 30)))) (.nm 3) (.cons (.asg (.sub (.var 0) (.int 2)) (.bin false .add (.idx (.var 0) (.int 2)) (.int 1))) (.cons (.asg (.nm 2) (.bin false .add (.bin false .mul (.var 2) (.int 2147483587)) (.call 8 (.cons (.idx (.var 0) (.int 1)) (.cons (.idx (.var 0) (.int 2)) .nil))))) .nil)) [3]) (.cons (.ret (.bin false .mod (.bi false .int (.cons (.var 2) .nil)) (.var 1))) .nil))))
def f9 : Fn := ⟨2, 4, b9, true⟩
/-- _law_cell: 0:script 1:index -/
def b10 : Ss := (.cons (.ite (.cmp .lt (.var 1) (.bi false .len (.cons (.var 0) .nil))) (.cons (.ret (.idx (.var 0) (.var 1))) .nil) .nil) (.cons (.ret (.bin false .mod (.bi false .sum (.cons (.slc (.var 0) .nil (.int 1)) .nil)) (.int 1000003))) .nil))
def f10 : Fn := ⟨2, 2, b10, true⟩
/-- _law_generator: 0:script 1:index 2:seed -/
def b11 : Ss := (.cons (.asg (.nm 2) (.call 10 (.cons (.var 0) (.cons (.var 1) .nil)))) (.cons (.ret (.lst true (.cons (.bin false .mod (.bi false .int (.cons (.bi false .max (.cons (.bin false .sub (.var 2) (.bin false .pow (.int 10) (.int 18))) (.cons (.int 0) .nil))) .nil)) (.bin false .pow (.bin false .pow (.int 10) (.int 60)) (.int 10))) (.cons (.bin false .mod (.bi false .int (.cons (.var 2) .nil)) (.int 2147483647)) (.cons (.bin false .mul (.int 1000) (.var 1)) .nil))))) .nil))
def f11 : Fn := ⟨2, 3, b11, false⟩
/-- _law_pick: 0:generator 1:things -/
def b12 : Ss := (.cons (.ret (.idx (.var 1) (.call 9 (.cons (.var 0) (.cons (.bi false .len (.cons (.var 1) .nil)) .nil))))) .nil)
def f12 : Fn := ⟨2, 2, b12, true⟩
/-- _law_same: 0:told 1:due 2:at -/
def b13 : Ss := (.cons (.ite (.or (.cmp .is (.var 1) .non) (.or (.cmp .is (.var 1) (.bl true)) (.one (.cmp .is (.var 1) (.bl false))))) (.cons (.ret (.ife (.cmp .is (.var 1) .non) (.cmp .is (.var 0) .non) (.ife (.cmp .is (.var 1) (.bl true)) (.cmp .is (.var 0) (.bl true)) (.cmp .is (.var 0) (.bl false))))) .nil) .nil) (.cons (.ite (.bi false (.isinst [3, 4]) (.cons (.var 1) .nil)) (.cons (.ite (.or (.and (.not (.bi false (.isinst [3]) (.cons (.var 0) .nil))) (.one (.bi false (.isinst [3]) (.cons (.var 1) .nil)))) (.one (.and (.not (.bi false (.isinst [4]) (.cons (.var 0) .nil))) (.one (.bi false (.isinst [4]) (.cons (.var 1) .nil)))))) (.cons (.ret (.bl false)) .nil) .nil) (.cons (.ret (.and (.cmp .eq (.bi false .len (.cons (.var 0) .nil)) (.bi false .len (.cons (.var 1) .nil))) (.one (.cmp .eq (.lc false (.rng1 (.bi false .len (.cons (.var 1) .nil))) (.nm 2) (.cons (.not (.call 13 (.cons (.idx (.var 0) (.var 2)) (.cons (.idx (.var 1) (.var 2)) .nil)))) .nil) (.var 2)) (.lst false .nil))))) .nil)) .nil) (.cons (.ite (.bi false (.isinst [0]) (.cons (.var 1) .nil)) (.cons (.ret (.and (.bi false (.isinst [0]) (.cons (.var 0) .nil)) (.and (.not (.bi false (.isinst [1]) (.cons (.var 0) .nil))) (.one (.cmp .eq (.var 0) (.var 1)))))) .nil) .nil) (.cons (.ret (.and (.bi false (.isinst [2]) (.cons (.var 0) .nil)) (.one (.cmp .eq (.var 0) (.var 1))))) .nil))))
def f13 : Fn := ⟨2, 3, b13, true⟩
/-- _law_caught: 0:call 1:caught 2:e 3:kinds 4:words -/
def b14 : Ss := (.cons (.asg (.nm 1) .non) (.cons (.tri (.cons (.ex (.act 0)) .nil) 0 2 (.cons (.asg (.nm 1) (.var 2)) .nil)) (.cons (.ite (.cmp .is (.var 1) .non) (.cons (.ret (.tup (.cons (.str "let") (.cons .non .nil)))) .nil) .nil) (.cons (.asg (.nm 3) (.lst false (.cons (.bi false (.isexc 1) (.cons (.var 1) .nil)) (.cons (.bi false (.isexc 2) (.cons (.var 1) .nil)) (.cons (.bi false (.isexc 3) (.cons (.var 1) .nil)) (.cons (.bi false (.isexc 4) (.cons (.var 1) .nil)) (.cons (.bi false (.isexc 5) (.cons (.var 1) .nil)) .nil))))))) (.cons (.asg (.nm 3) (.bin false .add (.var 3) (.lst false (.cons (.bi false (.isexc 6) (.cons (.var 1) .nil)) (.cons (.bi false (.isexc 7) (.cons (.var 1) .nil)) (.cons (.bi false (.isexc 8) (.cons (.var 1) .nil)) (.cons (.bi false (.isexc 9) (.cons (.var 1) .nil)) (.cons (.bi false (.isexc 10) (.cons (.var 1) .nil)) .nil)))))))) (.cons (.asg (.nm 3) (.bin false .add (.var 3) (.lst false (.cons (.bi false (.isexc 11) (.cons (.var 1) .nil)) (.cons (.bi false (.isexc 12) (.cons (.var 1) .nil)) (.cons (.bi false (.isexc 13) (.cons (.var 1) .nil)) .nil)))))) (.cons (.asg (.nm 3) (.bin false .add (.var 3) (.lst false (.cons (.bi false (.isexc 14) (.cons (.var 1) .nil)) (.cons (.bi false (.isexc 15) (.cons (.var 1) .nil)) (.cons (.bi false (.isexc 16) (.cons (.var 1) .nil)) .nil)))))) (.cons (.asg (.nm 4) (.lst false (.cons (.str "table") (.cons (.str "mixture") (.cons (.str "sign") (.cons (.str "signs") (.cons (.str "pattern") (.cons (.str "weights") (.cons (.str "bounds") (.cons (.str "number") (.cons (.str "text") (.cons (.str "block") (.cons (.str "matrix") (.cons (.str "row") (.cons (.str "log") (.cons (.str "names") (.cons (.str "barred") (.cons (.str "many") .nil)))))))))))))))))) (.cons (.ret (.ife (.cmp .eq (.mt .count (.var 3) (.cons (.bl true) .nil)) (.int 1)) (.tup (.cons (.idx (.var 4) (.mt .index (.var 3) (.cons (.bl true) .nil))) (.cons (.xval (.var 1)) .nil))) (.tup (.cons (.str "odd") (.cons .non .nil))))) .nil)))))))))
def f14 : Fn := ⟨1, 5, b14, true⟩
/-- _law_refused: 0:call 1:word 2:value 3:told -/
def b15 : Ss := (.cons (.asg (.nm 3) (.call 14 (.cons (.var 0) .nil))) (.cons (.ret (.and (.cmp .eq (.idx (.var 3) (.int 0)) (.var 1)) (.one (.call 16 (.cons (.idx (.var 3) (.int 1)) (.cons (.var 2) .nil)))))) .nil))
def f15 : Fn := ⟨3, 4, b15, true⟩
/-- _law_alike: 0:told 1:due -/
def b16 : Ss := (.cons (.ret (.cmp .eq (.bi false .repr (.cons (.var 0) .nil)) (.bi false .repr (.cons (.var 1) .nil)))) .nil)
def f16 : Fn := ⟨2, 2, b16, true⟩
/-- _law_all_refused: 0:calls 1:word 2:value 3:call -/
def b17 : Ss := (.cons (.ret (.cmp .eq (.lc false (.seq (.var 0)) (.nm 3) (.cons (.not (.call 15 (.cons (.var 3) (.cons (.var 1) (.cons (.var 2) .nil))))) .nil) (.var 3)) (.lst false .nil))) .nil)
def f17 : Fn := ⟨3, 4, b17, true⟩
/-- _law_table: 0:generator 1:size 2:one 3:way 4:table 5:other 6:stake 7:sign -/
def b18 : Ss := (.cons (.par 3 4 (.call 9 (.cons (.var 0) (.cons (.int 5) .nil))) (.lc true (.rng1 (.var 1)) (.nm 7) .nil (.bin true .mul (.lst false (.cons (.int 0) .nil)) (.var 1)))) (.cons (.fr (.rng1 (.var 1)) (.nm 2) (.cons (.fr (.rng2 (.bin false .add (.var 2) (.int 1)) (.var 1)) (.nm 5) (.cons (.asg (.nm 6) (.idx (.lst false (.cons (.bin false .sub (.call 9 (.cons (.var 0) (.cons (.int 3) .nil))) (.int 1)) (.cons (.bin false .sub (.int 1) (.bin false .mul (.int 2) (.call 9 (.cons (.var 0) (.cons (.int 2) .nil))))) (.cons (.bin false .sub (.call 9 (.cons (.var 0) (.cons (.int 9) .nil))) (.int 4)) (.cons (.bin false .sub (.bin false .mul (.int 2) (.call 9 (.cons (.var 0) (.cons (.int 5) .nil)))) (.int 5)) (.cons (.bin false .sub (.call 9 (.cons (.var 0) (.cons (.int 2001) .nil))) (.int 1000)) .nil)))))) (.var 3))) (.cons (.asg (.tup (.cons (.sub (.idx (.var 4) (.var 2)) (.var 5)) (.cons (.sub (.idx (.var 4) (.var 5)) (.var 2)) .nil))) (.tup (.cons (.var 6) (.cons (.bin false .sub (.int 0) (.var 6)) .nil)))) .nil)) []) .nil) [2, 5, 6]) (.cons (.ret (.var 4)) .nil)))
def f18 : Fn := ⟨2, 8, b18, true⟩
/-- _law_log: 0:generator 1:size 2:many 3:most 4:log 5:turn 6:one 7:other -/
def b19 : Ss := (.cons (.asg (.nm 4) (.lst true .nil)) (.cons (.fr (.rng1 (.ife (.cmp .gt (.var 1) (.int 1)) (.var 2) (.int 0))) (.nm 5) (.cons (.asg (.nm 6) (.call 9 (.cons (.var 0) (.cons (.var 1) .nil)))) (.cons (.asg (.nm 7) (.bin false .mod (.bi false .int (.cons (.bin false .add (.bin false .add (.var 6) (.int 1)) (.call 9 (.cons (.var 0) (.cons (.bin false .sub (.var 1) (.int 1)) .nil)))) .nil)) (.var 1))) (.cons (.ex (.mt .append (.var 4) (.cons (.tup (.cons (.var 6) (.cons (.var 7) (.cons (.call 9 (.cons (.var 0) (.cons (.bin false .add (.var 3) (.int 1)) .nil))) .nil)))) .nil))) .nil))) [5, 6, 7]) (.cons (.ret (.var 4)) .nil)))
def f19 : Fn := ⟨4, 8, b19, true⟩
/-- _law_wrong_logs: 0:size 1:found -/
def b20 : Ss := (.cons (.asg (.nm 1) (.lst false (.cons .non (.cons (.int 7) (.cons (.tup .nil) (.cons (.dK false) (.cons (.str "log") (.cons (.lst false (.cons .non .nil)) (.cons (.lst false (.cons (.tup (.cons (.int 0) (.cons (.int 1) .nil))) .nil)) (.cons (.lst false (.cons (.lst false (.cons (.int 0) (.cons (.int 1) (.cons (.int 1) .nil)))) .nil)) (.cons (.lst false (.cons (.tup (.cons (.int 0) (.cons (.int 0) (.cons (.int 1) .nil)))) .nil)) (.cons (.lst false (.cons (.tup (.cons (.int 0) (.cons (.var 0) (.cons (.int 1) .nil)))) .nil)) (.cons (.lst false (.cons (.tup (.cons (.var 0) (.cons (.int 0) (.cons (.int 1) .nil)))) .nil)) (.cons (.lst false (.cons (.tup (.cons (.bin false .sub (.int 0) (.int 1)) (.cons (.int 0) (.cons (.int 1) .nil)))) .nil)) (.cons (.lst false (.cons (.tup (.cons (.int 0) (.cons (.int 1) (.cons (.bin false .sub (.int 0) (.int 1)) .nil)))) .nil)) (.cons (.lst false (.cons (.tup (.cons (.int 0) (.cons (.int 1) (.cons (.bl true) .nil)))) .nil)) (.cons (.lst false (.cons (.tup (.cons (.bl false) (.cons (.int 1) (.cons (.int 1) .nil)))) .nil)) (.cons (.lst false (.cons (.tup (.cons (.int 0) (.cons (.int 1) (.cons .non .nil)))) .nil)) .nil)))))))))))))))))) (.cons (.ret (.bin false .add (.var 1) (.lst false (.cons (.lst false (.cons (.tup (.cons (.int 0) (.cons (.int 1) (.cons (.int 1) (.cons (.int 1) .nil))))) .nil)) (.cons (.lst false (.cons (.tup (.cons (.int 0) (.cons (.str "1") (.cons (.int 1) .nil)))) .nil)) (.cons (.lst false (.cons (.int 0) .nil)) (.cons (.lst false (.cons (.tup .nil) .nil)) .nil))))))) .nil))
def f20 : Fn := ⟨1, 2, b20, true⟩
/-- _law_wrong_numbers:  -/
def b21 : Ss := (.cons (.ret (.lst false (.cons .non (.cons (.int 0) (.cons (.int 13) (.cons (.bin false .sub (.int 0) (.int 1)) (.cons (.bl true) (.cons (.str "3") (.cons (.lst false (.cons (.int 3) .nil)) (.cons (.bin false .pow (.int 10) (.int 20)) .nil)))))))))) .nil)
def f21 : Fn := ⟨0, 0, b21, true⟩
/-- _law_due: 0:size 1:log 2:rows 3:places 4:at 5:entry 6:one 7:other 8:stake -/
def b22 : Ss := (.cons (.par 2 3 (.lc true (.rng1 (.var 0)) (.nm 6) .nil (.lc true (.rng1 (.var 0)) (.nm 7) .nil (.ife (.cmp .eq (.var 6) (.var 7)) (.int 0) .non))) (.dT true)) (.cons (.fr (.enum (.var 1)) (.tup (.cons (.nm 4) (.cons (.nm 5) .nil))) (.cons (.asg (.tup (.cons (.nm 6) (.cons (.nm 7) (.cons (.nm 8) .nil)))) (.var 5)) (.cons (.ite (.and (.cmp .isnt (.idx (.idx (.var 2) (.var 6)) (.var 7)) .non) (.one (.cmp .ne (.idx (.idx (.var 2) (.var 6)) (.var 7)) (.var 8)))) (.cons (.ret (.tup (.cons (.str "clash") (.cons (.tup (.cons (.idx (.var 3) (.tup (.cons (.bi false .min (.cons (.var 6) (.cons (.var 7) .nil))) (.cons (.bi false .max (.cons (.var 6) (.cons (.var 7) .nil))) .nil)))) (.cons (.var 4) .nil))) .nil)))) .nil) .nil) (.cons (.asg (.sub (.var 3) (.tup (.cons (.bi false .min (.cons (.var 6) (.cons (.var 7) .nil))) (.cons (.bi false .max (.cons (.var 6) (.cons (.var 7) .nil))) .nil)))) (.mt .get (.var 3) (.cons (.tup (.cons (.bi false .min (.cons (.var 6) (.cons (.var 7) .nil))) (.cons (.bi false .max (.cons (.var 6) (.cons (.var 7) .nil))) .nil))) (.cons (.var 4) .nil)))) (.cons (.asg (.tup (.cons (.sub (.idx (.var 2) (.var 6)) (.var 7)) (.cons (.sub (.idx (.var 2) (.var 7)) (.var 6)) .nil))) (.tup (.cons (.var 8) (.cons (.bin false .sub (.int 0) (.var 8)) .nil)))) .nil)))) [4, 5, 6, 7, 8]) (.cons (.ret (.tup (.cons (.str "told") (.cons (.var 2) .nil)))) .nil)))
def f22 : Fn := ⟨2, 9, b22, true⟩
/-- _law_by_table: 0:generator 1:size 2:many 3:table 4:log 5:one 6:other 7:stake -/
def b23 : Ss := (.cons (.par 3 4 (.call 18 (.cons (.var 0) (.cons (.var 1) .nil))) (.lst true .nil)) (.cons (.fr (.seq (.call 19 (.cons (.var 0) (.cons (.var 1) (.cons (.var 2) (.cons (.int 0) .nil)))))) (.tup (.cons (.nm 5) (.cons (.nm 6) (.cons (.nm 7) .nil)))) (.cons (.ex (.mt .append (.var 4) (.cons (.ife (.cmp .ge (.idx (.idx (.var 3) (.var 5)) (.var 6)) (.int 0)) (.tup (.cons (.var 5) (.cons (.var 6) (.cons (.idx (.idx (.var 3) (.var 5)) (.var 6)) .nil)))) (.tup (.cons (.var 6) (.cons (.var 5) (.cons (.idx (.idx (.var 3) (.var 6)) (.var 5)) .nil))))) .nil))) .nil) [5, 6, 7]) (.cons (.ret (.var 4)) .nil)))
def f23 : Fn := ⟨3, 8, b23, true⟩
/-- law: 0:script 1:generator 2:size 3:logs 4:log 5:bad 6:told 7:due 8:kept 9:entry -/
def b24 : Ss := (.cons (.asg (.nm 1) (.call 11 (.cons (.var 0) (.cons (.int 0) .nil)))) (.cons (.asg (.nm 2) (.bin false .add (.int 1) (.call 9 (.cons (.var 1) (.cons (.int 8) .nil))))) (.cons (.asg (.nm 3) (.lst true (.cons (.call 23 (.cons (.var 1) (.cons (.var 2) (.cons (.call 9 (.cons (.var 1) (.cons (.int 15) .nil))) .nil)))) (.cons (.call 19 (.cons (.var 1) (.cons (.var 2) (.cons (.call 9 (.cons (.var 1) (.cons (.int 9) .nil))) (.cons (.call 12 (.cons (.var 1) (.cons (.lst false (.cons (.int 1) (.cons (.int 3) (.cons (.bin false .pow (.int 10) (.int 20)) .nil)))) .nil))) .nil))))) (.cons (.lst false .nil) .nil))))) (.cons (.ex (.mt .append (.var 3) (.cons (.bin false .add (.idx (.var 3) (.int 0)) (.lc false (.seq (.slc (.idx (.var 3) (.int 0)) .nil (.int 1))) (.nm 9) .nil (.tup (.cons (.idx (.var 9) (.int 1)) (.cons (.idx (.var 9) (.int 0)) (.cons (.idx (.var 9) (.int 2)) .nil)))))) .nil))) (.cons (.fr (.seq (.var 3)) (.nm 4) (.cons (.par 7 8 (.call 22 (.cons (.var 2) (.cons (.var 4) .nil))) (.bi false .repr (.cons (.var 4) .nil))) (.cons (.asg (.nm 6) (.call 7 (.cons (.var 2) (.cons (.var 4) .nil)))) (.cons (.ite (.or (.not (.call 13 (.cons (.var 6) (.cons (.var 7) .nil)))) (.or (.cmp .isnt (.call 5 (.cons (.var 2) (.cons (.var 4) .nil))) (.bl true)) (.one (.cmp .ne (.bi false .repr (.cons (.var 4) .nil)) (.var 8))))) (.cons (.ret (.bl false)) .nil) .nil) (.cons (.ite (.cmp .eq (.idx (.var 7) (.int 0)) (.str "told")) (.cons (.ex (.mt .append (.idx (.idx (.var 6) (.int 1)) (.int 0)) (.cons (.int 7) .nil))) (.cons (.ex (.mt .append (.idx (.var 6) (.int 1)) (.cons (.int 7) .nil))) .nil)) .nil) (.cons (.ite (.not (.call 13 (.cons (.lst false (.cons (.callp 7 [1, 0] (.cons (.var 4) (.cons (.var 2) .nil))) (.cons (.callp 5 [1, 0] (.cons (.var 4) (.cons (.var 2) .nil))) .nil))) (.cons (.lst false (.cons (.var 7) (.cons (.bl true) .nil))) .nil)))) (.cons (.ret (.bl false)) .nil) .nil) .nil))))) [4, 7, 8]) (.cons (.fr (.seq (.call 20 (.cons (.var 2) .nil))) (.nm 5) (.cons (.ite (.or (.cmp .isnt (.call 5 (.cons (.var 2) (.cons (.var 5) .nil))) (.bl false)) (.one (.not (.cal1 15 false (.cons (.call 7 (.cons (.var 2) (.cons (.var 5) .nil))) [2, 5] .nil) (.cons (.str "log") (.cons (.var 5) .nil)))))) (.cons (.ret (.bl false)) .nil) .nil) .nil) []) (.cons (.fr (.seq (.call 21 .nil)) (.nm 5) (.cons (.ite (.not (.cal1 17 true (.cons (.call 5 (.cons (.var 5) (.cons .non .nil))) [5] (.cons (.call 7 (.cons (.var 5) (.cons .non .nil))) [5] .nil)) (.cons (.str "number") (.cons (.var 5) .nil)))) (.cons (.ret (.bl false)) .nil) .nil) .nil) [5]) (.cons (.asg (.nm 6) (.lst true (.cons (.call 7 (.cons (.int 3) (.cons (.lst false (.cons (.tup (.cons (.int 0) (.cons (.int 1) (.cons (.int 2) .nil)))) (.cons (.tup (.cons (.int 1) (.cons (.int 2) (.cons (.int 3) .nil)))) (.cons (.tup (.cons (.int 0) (.cons (.int 2) (.cons (.int 5) .nil)))) .nil)))) .nil))) (.cons (.call 7 (.cons (.int 2) (.cons (.lst false (.cons (.tup (.cons (.int 0) (.cons (.int 1) (.cons (.int 2) .nil)))) (.cons (.tup (.cons (.int 0) (.cons (.int 1) (.cons (.int 2) .nil)))) (.cons (.tup (.cons (.int 1) (.cons (.int 0) (.cons (.int 2) .nil)))) .nil)))) .nil))) (.cons (.idx (.call 7 (.cons (.int 12) (.cons (.lst false .nil) .nil))) (.int 0)) (.cons (.call 5 (.cons (.int 2) (.cons (.lst false (.cons (.tup (.cons (.int 0) (.cons (.int 1) (.cons (.int 2) .nil)))) (.cons (.tup (.cons (.int 1) (.cons (.int 2) (.cons (.int 3) .nil)))) .nil))) .nil))) (.cons (.call 7 (.cons (.int 2) (.cons (.lst false (.cons (.tup (.cons (.int 0) (.cons (.int 1) (.cons (.int 0) .nil)))) (.cons (.tup (.cons (.int 1) (.cons (.int 0) (.cons (.int 0) .nil)))) .nil))) .nil))) .nil))))))) (.cons (.ret (.call 13 (.cons (.var 6) (.cons (.lst false (.cons (.tup (.cons (.str "told") (.cons (.lst false (.cons (.lst false (.cons (.int 0) (.cons (.int 2) (.cons (.int 5) .nil)))) (.cons (.lst false (.cons (.bin false .sub (.int 0) (.int 2)) (.cons (.int 0) (.cons (.int 3) .nil)))) (.cons (.lst false (.cons (.bin false .sub (.int 0) (.int 5)) (.cons (.bin false .sub (.int 0) (.int 3)) (.cons (.int 0) .nil)))) .nil)))) .nil))) (.cons (.tup (.cons (.str "clash") (.cons (.tup (.cons (.int 0) (.cons (.int 2) .nil))) .nil))) (.cons (.str "told") (.cons (.bl false) (.cons (.tup (.cons (.str "told") (.cons (.lst false (.cons (.lst false (.cons (.int 0) (.cons (.int 0) .nil))) (.cons (.lst false (.cons (.int 0) (.cons (.int 0) .nil))) .nil))) .nil))) .nil)))))) .nil)))) .nil)))))))))
def f24 : Fn := ⟨1, 10, b24, true⟩
def fns : List Fn := [f0, f1, f2, f3, f4, f5, f6, f7, f8, f9, f10, f11, f12, f13, f14, f15, f16, f17, f18, f19, f20, f21, f22, f23, f24]
def subs : List (Nat × Nat) := [(0, 0), (1, 0), (1, 1), (2, 0), (2, 2), (3, 0), (3, 3), (4, 0), (4, 4), (5, 0), (5, 5), (6, 0), (6, 6), (7, 0), (7, 7), (8, 0), (8, 8), (9, 0), (9, 9), (10, 0), (10, 10), (11, 0), (11, 11), (12, 0), (12, 12), (13, 0), (13, 13), (14, 0), (14, 14), (15, 0), (15, 15), (16, 0), (16, 16)]
def prg : Prg := ⟨fns, fun a b => subs.contains (a, b)⟩
def nmF : List Str := ["is_whole", "is_count", "check_number", "is_entry", "is_log_of", "is_log", "check_log", "told_by", "_law_hash", "_law_random", "_law_cell", "_law_generator", "_law_pick", "_law_same", "_law_caught", "_law_refused", "_law_alike", "_law_all_refused", "_law_table", "_law_log", "_law_wrong_logs", "_law_wrong_numbers", "_law_due", "_law_by_table", "law"]
def conF : List (Str × Int) := [("MOST_SIGNS", 12)]
def bltF : List Str := ["ValueError", "bool", "enumerate", "int", "isinstance", "len", "list", "max", "min", "range", "repr", "str", "sum", "super", "tuple"]
def exsF : List (Nat × Str) := [(8, "InvalidNumber"), (13, "InvalidLog")]
def xclF : List (Nat × Str) := [(0, "BeatError"), (1, "InvalidTable"), (2, "InvalidMixture"), (3, "InvalidSign"), (4, "InvalidSigns"), (5, "InvalidPattern"), (6, "InvalidWeights"), (7, "InvalidBounds"), (8, "InvalidNumber"), (9, "InvalidText"), (10, "InvalidBlock"), (11, "InvalidMatrix"), (12, "InvalidRow"), (13, "InvalidLog"), (14, "InvalidNames"), (15, "Barred"), (16, "TooMany")]
def kwsF : List (Nat × List Str × List Nat) := [(5, ["value", "number"], [1, 0]), (7, ["log", "number"], [1, 0])]
def ck0 : Ck := ⟨[], ⟨.function, [], false, false, []⟩, none, nmF, conF, bltF, exsF, xclF, kwsF, false⟩
end Tx
end Mn
set_option maxHeartbeats 0
namespace Mn
namespace Tx
open PySem L2
def top (i : Nat) : Stmt := PySem.Challenge.pw_beatsigns_k76_whole_tables_told_by_match.main.body.getD i (.Pass ⟨0, 0, 0, 0⟩)
def n0 : List Str := ["value"]
def p0 : List Str := ["value"]
theorem kk0 : chkSs { ck0 with N := n0, sc := defScope (top 19), fnl := none, mkr := false } b0 (defBody (top 19)) = true := by decide +kernel
theorem sc0 : FnScope n0 p0 (defScope (top 19)) := ⟨rfl, rfl, rfl, by decide +kernel, rfl, by decide +kernel, by decide +kernel⟩
def n1 : List Str := ["value"]
def p1 : List Str := ["value"]
theorem kk1 : chkSs { ck0 with N := n1, sc := defScope (top 20), fnl := none, mkr := false } b1 (defBody (top 20)) = true := by decide +kernel
theorem sc1 : FnScope n1 p1 (defScope (top 20)) := ⟨rfl, rfl, rfl, by decide +kernel, rfl, by decide +kernel, by decide +kernel⟩
def n2 : List Str := ["number"]
def p2 : List Str := ["number"]
theorem kk2 : chkSs { ck0 with N := n2, sc := defScope (top 23), fnl := none, mkr := false } b2 (defBody (top 23)) = true := by decide +kernel
theorem sc2 : FnScope n2 p2 (defScope (top 23)) := ⟨rfl, rfl, rfl, by decide +kernel, rfl, by decide +kernel, by decide +kernel⟩
def n3 : List Str := ["number", "value", "part"]
def p3 : List Str := ["number", "value"]
theorem kk3 : chkSs { ck0 with N := n3, sc := defScope (top 24), fnl := none, mkr := false } b3 (defBody (top 24)) = true := by decide +kernel
theorem sc3 : FnScope n3 p3 (defScope (top 24)) := ⟨rfl, rfl, rfl, by decide +kernel, rfl, by decide +kernel, by decide +kernel⟩
def n4 : List Str := ["number", "value", "entry"]
def p4 : List Str := ["number", "value"]
theorem kk4 : chkSs { ck0 with N := n4, sc := defScope (top 25), fnl := none, mkr := false } b4 (defBody (top 25)) = true := by decide +kernel
theorem sc4 : FnScope n4 p4 (defScope (top 25)) := ⟨rfl, rfl, rfl, by decide +kernel, rfl, by decide +kernel, by decide +kernel⟩
def n5 : List Str := ["number", "value"]
def p5 : List Str := ["number", "value"]
theorem kk5 : chkSs { ck0 with N := n5, sc := defScope (top 26), fnl := none, mkr := false } b5 (defBody (top 26)) = true := by decide +kernel
theorem sc5 : FnScope n5 p5 (defScope (top 26)) := ⟨rfl, rfl, rfl, by decide +kernel, rfl, by decide +kernel, by decide +kernel⟩
def n6 : List Str := ["number", "log"]
def p6 : List Str := ["number", "log"]
theorem kk6 : chkSs { ck0 with N := n6, sc := defScope (top 27), fnl := none, mkr := false } b6 (defBody (top 27)) = true := by decide +kernel
theorem sc6 : FnScope n6 p6 (defScope (top 27)) := ⟨rfl, rfl, rfl, by decide +kernel, rfl, by decide +kernel, by decide +kernel⟩
def n7 : List Str := ["number", "log", "known", "rows", "one", "at", "entry", "other", "stake"]
def p7 : List Str := ["number", "log"]
theorem kk7 : chkSs { ck0 with N := n7, sc := defScope (top 28), fnl := none, mkr := false } b7 (defBody (top 28)) = true := by decide +kernel
theorem sc7 : FnScope n7 p7 (defScope (top 28)) := ⟨rfl, rfl, rfl, by decide +kernel, rfl, by decide +kernel, by decide +kernel⟩
def n8 : List Str := ["seed", "index", "mixed"]
def p8 : List Str := ["seed", "index"]
theorem kk8 : chkSs { ck0 with N := n8, sc := defScope (top 30), fnl := none, mkr := false } b8 (defBody (top 30)) = true := by decide +kernel
theorem sc8 : FnScope n8 p8 (defScope (top 30)) := ⟨rfl, rfl, rfl, by decide +kernel, rfl, by decide +kernel, by decide +kernel⟩
def n9 : List Str := ["generator", "bound", "drawn", "turn"]
def p9 : List Str := ["generator", "bound"]
theorem kk9 : chkSs { ck0 with N := n9, sc := defScope (top 31), fnl := none, mkr := false } b9 (defBody (top 31)) = true := by decide +kernel
theorem sc9 : FnScope n9 p9 (defScope (top 31)) := ⟨rfl, rfl, rfl, by decide +kernel, rfl, by decide +kernel, by decide +kernel⟩
def n10 : List Str := ["script", "index"]
def p10 : List Str := ["script", "index"]
theorem kk10 : chkSs { ck0 with N := n10, sc := defScope (top 32), fnl := none, mkr := false } b10 (defBody (top 32)) = true := by decide +kernel
theorem sc10 : FnScope n10 p10 (defScope (top 32)) := ⟨rfl, rfl, rfl, by decide +kernel, rfl, by decide +kernel, by decide +kernel⟩
def n11 : List Str := ["script", "index", "seed"]
def p11 : List Str := ["script", "index"]
theorem kk11 : chkSs { ck0 with N := n11, sc := defScope (top 33), fnl := none, mkr := false } b11 (defBody (top 33)) = true := by decide +kernel
theorem sc11 : FnScope n11 p11 (defScope (top 33)) := ⟨rfl, rfl, rfl, by decide +kernel, rfl, by decide +kernel, by decide +kernel⟩
def n12 : List Str := ["generator", "things"]
def p12 : List Str := ["generator", "things"]
theorem kk12 : chkSs { ck0 with N := n12, sc := defScope (top 34), fnl := none, mkr := false } b12 (defBody (top 34)) = true := by decide +kernel
theorem sc12 : FnScope n12 p12 (defScope (top 34)) := ⟨rfl, rfl, rfl, by decide +kernel, rfl, by decide +kernel, by decide +kernel⟩
def n13 : List Str := ["told", "due", "at"]
def p13 : List Str := ["told", "due"]
theorem kk13 : chkSs { ck0 with N := n13, sc := defScope (top 35), fnl := none, mkr := false } b13 (defBody (top 35)) = true := by decide +kernel
theorem sc13 : FnScope n13 p13 (defScope (top 35)) := ⟨rfl, rfl, rfl, by decide +kernel, rfl, by decide +kernel, by decide +kernel⟩
def n14 : List Str := ["call", "caught", "e", "kinds", "words"]
def p14 : List Str := ["call"]
theorem kk14 : chkSs { ck0 with N := n14, sc := defScope (top 36), fnl := none, mkr := false } b14 (defBody (top 36)) = true := by decide +kernel
theorem sc14 : FnScope n14 p14 (defScope (top 36)) := ⟨rfl, rfl, rfl, by decide +kernel, rfl, by decide +kernel, by decide +kernel⟩
def n15 : List Str := ["call", "word", "value", "told"]
def p15 : List Str := ["call", "word", "value"]
theorem kk15 : chkSs { ck0 with N := n15, sc := defScope (top 37), fnl := none, mkr := false } b15 (defBody (top 37)) = true := by decide +kernel
theorem sc15 : FnScope n15 p15 (defScope (top 37)) := ⟨rfl, rfl, rfl, by decide +kernel, rfl, by decide +kernel, by decide +kernel⟩
def n16 : List Str := ["told", "due"]
def p16 : List Str := ["told", "due"]
theorem kk16 : chkSs { ck0 with N := n16, sc := defScope (top 38), fnl := none, mkr := false } b16 (defBody (top 38)) = true := by decide +kernel
theorem sc16 : FnScope n16 p16 (defScope (top 38)) := ⟨rfl, rfl, rfl, by decide +kernel, rfl, by decide +kernel, by decide +kernel⟩
def n17 : List Str := ["calls", "word", "value", "call"]
def p17 : List Str := ["calls", "word", "value"]
theorem kk17 : chkSs { ck0 with N := n17, sc := defScope (top 39), fnl := none, mkr := false } b17 (defBody (top 39)) = true := by decide +kernel
theorem sc17 : FnScope n17 p17 (defScope (top 39)) := ⟨rfl, rfl, rfl, by decide +kernel, rfl, by decide +kernel, by decide +kernel⟩
def n18 : List Str := ["generator", "size", "one", "way", "table", "other", "stake", "sign"]
def p18 : List Str := ["generator", "size"]
theorem kk18 : chkSs { ck0 with N := n18, sc := defScope (top 40), fnl := none, mkr := false } b18 (defBody (top 40)) = true := by decide +kernel
theorem sc18 : FnScope n18 p18 (defScope (top 40)) := ⟨rfl, rfl, rfl, by decide +kernel, rfl, by decide +kernel, by decide +kernel⟩
def n19 : List Str := ["generator", "size", "many", "most", "log", "turn", "one", "other"]
def p19 : List Str := ["generator", "size", "many", "most"]
theorem kk19 : chkSs { ck0 with N := n19, sc := defScope (top 41), fnl := none, mkr := false } b19 (defBody (top 41)) = true := by decide +kernel
theorem sc19 : FnScope n19 p19 (defScope (top 41)) := ⟨rfl, rfl, rfl, by decide +kernel, rfl, by decide +kernel, by decide +kernel⟩
def n20 : List Str := ["size", "found"]
def p20 : List Str := ["size"]
theorem kk20 : chkSs { ck0 with N := n20, sc := defScope (top 42), fnl := none, mkr := false } b20 (defBody (top 42)) = true := by decide +kernel
theorem sc20 : FnScope n20 p20 (defScope (top 42)) := ⟨rfl, rfl, rfl, by decide +kernel, rfl, by decide +kernel, by decide +kernel⟩
def n21 : List Str := []
def p21 : List Str := []
theorem kk21 : chkSs { ck0 with N := n21, sc := defScope (top 43), fnl := none, mkr := false } b21 (defBody (top 43)) = true := by decide +kernel
theorem sc21 : FnScope n21 p21 (defScope (top 43)) := ⟨rfl, rfl, rfl, by decide +kernel, rfl, by decide +kernel, by decide +kernel⟩
def n22 : List Str := ["size", "log", "rows", "places", "at", "entry", "one", "other", "stake"]
def p22 : List Str := ["size", "log"]
theorem kk22 : chkSs { ck0 with N := n22, sc := defScope (top 44), fnl := none, mkr := false } b22 (defBody (top 44)) = true := by decide +kernel
theorem sc22 : FnScope n22 p22 (defScope (top 44)) := ⟨rfl, rfl, rfl, by decide +kernel, rfl, by decide +kernel, by decide +kernel⟩
def n23 : List Str := ["generator", "size", "many", "table", "log", "one", "other", "stake"]
def p23 : List Str := ["generator", "size", "many"]
theorem kk23 : chkSs { ck0 with N := n23, sc := defScope (top 45), fnl := none, mkr := false } b23 (defBody (top 45)) = true := by decide +kernel
theorem sc23 : FnScope n23 p23 (defScope (top 45)) := ⟨rfl, rfl, rfl, by decide +kernel, rfl, by decide +kernel, by decide +kernel⟩
def n24 : List Str := ["script", "generator", "size", "logs", "log", "bad", "told", "due", "kept", "entry"]
def p24 : List Str := ["script"]
theorem kk24 : chkSs { ck0 with N := n24, sc := defScope (top 46), fnl := none, mkr := true } b24 (defBody (top 46)) = true := by decide +kernel
theorem sc24 : FnScope n24 p24 (defScope (top 46)) := ⟨rfl, rfl, rfl, by decide +kernel, rfl, by decide +kernel, by decide +kernel⟩
end Tx
end Mn
namespace Mn
namespace Tx
open PySem PySem.Spec PyProof.Rows L2
def dF (x : Str) (i : Nat) : He.DefD := ⟨(x, none), x, x, defArgs (top i), defBody (top i), defScope (top i), [], []⟩
def fn : List He.DefD := [dF "is_whole" 19,
  dF "is_count" 20,
  dF "check_number" 23,
  dF "is_entry" 24,
  dF "is_log_of" 25,
  dF "is_log" 26,
  dF "check_log" 27,
  dF "told_by" 28,
  dF "_law_hash" 30,
  dF "_law_random" 31,
  dF "_law_cell" 32,
  dF "_law_generator" 33,
  dF "_law_pick" 34,
  dF "_law_same" 35,
  dF "_law_caught" 36,
  dF "_law_refused" 37,
  dF "_law_alike" 38,
  dF "_law_all_refused" 39,
  dF "_law_table" 40,
  dF "_law_log" 41,
  dF "_law_wrong_logs" 42,
  dF "_law_wrong_numbers" 43,
  dF "_law_due" 44,
  dF "_law_by_table" 45,
  dF "law" 46]
def fa : List He.Fa := [.glo "is_whole", .glo "is_count", .glo "check_number", .glo "is_entry", .glo "is_log_of", .glo "is_log", .glo "check_log", .glo "told_by", .glo "_law_hash", .glo "_law_random", .glo "_law_cell", .glo "_law_generator", .glo "_law_pick", .glo "_law_same", .glo "_law_caught", .glo "_law_refused", .glo "_law_alike", .glo "_law_all_refused", .glo "_law_table", .glo "_law_log", .glo "_law_wrong_logs", .glo "_law_wrong_numbers", .glo "_law_due", .glo "_law_by_table", .glo "law", .glo "BeatError", .glo "InvalidTable", .glo "InvalidMixture", .glo "InvalidSign", .glo "InvalidSigns", .glo "InvalidPattern", .glo "InvalidWeights", .glo "InvalidBounds", .glo "InvalidNumber", .glo "InvalidText", .glo "InvalidBlock", .glo "InvalidMatrix", .glo "InvalidRow", .glo "InvalidLog", .glo "InvalidNames", .glo "Barred", .glo "TooMany", .free "ValueError", .free "bool", .free "enumerate", .free "int", .free "isinstance", .free "len", .free "list", .free "max", .free "min", .free "range", .free "repr", .free "str", .free "sum", .free "super", .free "tuple", .int "MOST_SIGNS" 12]
def tf : List He.Defn := [("law", none)]
def loose_0 : List Str := ["is_whole", "is_count", "check_number", "is_entry", "is_log_of", "is_log", "check_log", "told_by"]
def loose_1 : List Str := ["_law_hash", "_law_random", "_law_cell", "_law_generator", "_law_pick", "_law_same", "_law_caught", "_law_refused"]
def loose_2 : List Str := ["_law_alike", "_law_all_refused", "_law_table", "_law_log", "_law_wrong_logs", "_law_wrong_numbers", "_law_due", "_law_by_table"]
def loose_3 : List Str := ["BeatError", "InvalidTable", "InvalidMixture", "InvalidSign", "InvalidSigns", "InvalidPattern", "InvalidWeights", "InvalidBounds"]
def loose_4 : List Str := ["InvalidNumber", "InvalidText", "InvalidBlock", "InvalidMatrix", "InvalidRow", "InvalidLog", "InvalidNames", "Barred"]
def loose_5 : List Str := ["TooMany", "MOST_SIGNS"]
def loose : List Str := loose_0 ++ (loose_1 ++ (loose_2 ++ (loose_3 ++ (loose_4 ++ (loose_5)))))
def ex (K : PySem.W.Frag) : Bool := errB (PySem.Challenge.rw_beatsigns_k76_whole_tables_told_by_match).prog exsF xclF prg.sub K
abbrev R : PySem.W.OpenRow := PySem.W.OpenLaw.row PySem.Challenge.rw_beatsigns_k76_whole_tables_told_by_match
abbrev hk : PySem.W.Hook := hookY 5 fa fn tf ex
def ob (s : PySem.W.SharedT) : He.AlX := obsY 5 fa fn tf ex (HandSHeadRun.getT s)
theorem ob_eq (s : PySem.W.SharedT) : ob s = hk.obs s.abs := obsY_eq (HandSHeadRun.getT_eq s)
theorem run (w : World) : HandSHeadRun.RunEq R (PySem.W.view R.prog [46]) hk ob 6000 loose w := by
  intro os
  kernel_rfl
end Tx
end Mn
namespace Mn
namespace Tx
open PySem PySem.Spec PyProof.Rows L2
def parsL : List (List Str) := [p0, p1, p2, p3, p4, p5, p6, p7, p8, p9, p10, p11, p12, p13, p14, p15, p16, p17, p18, p19, p20, p21, p22, p23, p24]
def pars (f : Nat) : List Str := (parsL[f]?).getD []
abbrev TT (K : PySem.W.Frag) : Tb := tbT K exsF (fun _ => "") ck0 tf
section
variable {w : World} {K : PySem.W.Frag} {mg : Str → Option Value} {h base : Heap}
theorem hd_of (KX : K.In h) (G : h.Ns mainGlobals mg) (c : He.SaysX fa fn [] tf ex w h K) (hT : ∀ p ∈ tf.map (He.cT K), LamX.TabB base mg p.1 p.2) : ∀ (f : Nat) (x : Str), ck0.fns[f]? = some x → ∃ F a fd N params body scope mk, prg.fns[f]? = some F ∧ DefOk (TT K) mg base ck0 F f x a fd (pars f) N params body scope mk := by
  have D := c.t.d
  intro f x hx
  match f, hx with
  | 0, hx =>
    cases (show some ("is_whole" : Str) = some x from hx)
    obtain ⟨fd, F⟩ := D.def_ 0 (d := dF "is_whole" 19) rfl
    refine ⟨f0, _, fd, n0, _, _, _, false, rfl, ⟨He.glo_ok KX G (D.fact 0 (f := .glo "is_whole") rfl), F, F.bindsN (fun _ _ _ _ _ _ us hl => match us, hl with | [_], _ => rfl), ?_, sc0, rfl, rfl, (fun z => by cases z), kk0⟩⟩
    · intro ks pm hm
      simp [ck0, kwsF] at hm
  | 1, hx =>
    cases (show some ("is_count" : Str) = some x from hx)
    obtain ⟨fd, F⟩ := D.def_ 1 (d := dF "is_count" 20) rfl
    refine ⟨f1, _, fd, n1, _, _, _, false, rfl, ⟨He.glo_ok KX G (D.fact 1 (f := .glo "is_count") rfl), F, F.bindsN (fun _ _ _ _ _ _ us hl => match us, hl with | [_], _ => rfl), ?_, sc1, rfl, rfl, (fun z => by cases z), kk1⟩⟩
    · intro ks pm hm
      simp [ck0, kwsF] at hm
  | 2, hx =>
    cases (show some ("check_number" : Str) = some x from hx)
    obtain ⟨fd, F⟩ := D.def_ 2 (d := dF "check_number" 23) rfl
    refine ⟨f2, _, fd, n2, _, _, _, false, rfl, ⟨He.glo_ok KX G (D.fact 2 (f := .glo "check_number") rfl), F, F.bindsN (fun _ _ _ _ _ _ us hl => match us, hl with | [_], _ => rfl), ?_, sc2, rfl, rfl, (fun z => by cases z), kk2⟩⟩
    · intro ks pm hm
      simp [ck0, kwsF] at hm
  | 3, hx =>
    cases (show some ("is_entry" : Str) = some x from hx)
    obtain ⟨fd, F⟩ := D.def_ 3 (d := dF "is_entry" 24) rfl
    refine ⟨f3, _, fd, n3, _, _, _, false, rfl, ⟨He.glo_ok KX G (D.fact 3 (f := .glo "is_entry") rfl), F, F.bindsN (fun _ _ _ _ _ _ us hl => match us, hl with | [_, _], _ => rfl), ?_, sc3, rfl, rfl, (fun z => by cases z), kk3⟩⟩
    · intro ks pm hm
      simp [ck0, kwsF] at hm
  | 4, hx =>
    cases (show some ("is_log_of" : Str) = some x from hx)
    obtain ⟨fd, F⟩ := D.def_ 4 (d := dF "is_log_of" 25) rfl
    refine ⟨f4, _, fd, n4, _, _, _, false, rfl, ⟨He.glo_ok KX G (D.fact 4 (f := .glo "is_log_of") rfl), F, F.bindsN (fun _ _ _ _ _ _ us hl => match us, hl with | [_, _], _ => rfl), ?_, sc4, rfl, rfl, (fun z => by cases z), kk4⟩⟩
    · intro ks pm hm
      simp [ck0, kwsF] at hm
  | 5, hx =>
    cases (show some ("is_log" : Str) = some x from hx)
    obtain ⟨fd, F⟩ := D.def_ 5 (d := dF "is_log" 26) rfl
    refine ⟨f5, _, fd, n5, _, _, _, false, rfl, ⟨He.glo_ok KX G (D.fact 5 (f := .glo "is_log") rfl), F, F.bindsN (fun _ _ _ _ _ _ us hl => match us, hl with | [_, _], _ => rfl), ?_, sc5, rfl, rfl, (fun z => by cases z), kk5⟩⟩
    · intro ks pm hm ws hl
      simp only [ck0, kwsF, List.mem_cons, Prod.mk.injEq, List.not_mem_nil, or_false, Nat.reduceEqDiff, false_and, true_and, false_or] at hm
      obtain ⟨rfl, rfl⟩ := hm
      · match ws, hl with
        | [w0, w1], _ => exact ⟨[w1, w0], rfl, fun s _ => kw_of F (fun _ _ _ _ _ _ => rfl) s⟩
  | 6, hx =>
    cases (show some ("check_log" : Str) = some x from hx)
    obtain ⟨fd, F⟩ := D.def_ 6 (d := dF "check_log" 27) rfl
    refine ⟨f6, _, fd, n6, _, _, _, false, rfl, ⟨He.glo_ok KX G (D.fact 6 (f := .glo "check_log") rfl), F, F.bindsN (fun _ _ _ _ _ _ us hl => match us, hl with | [_, _], _ => rfl), ?_, sc6, rfl, rfl, (fun z => by cases z), kk6⟩⟩
    · intro ks pm hm
      simp [ck0, kwsF] at hm
  | 7, hx =>
    cases (show some ("told_by" : Str) = some x from hx)
    obtain ⟨fd, F⟩ := D.def_ 7 (d := dF "told_by" 28) rfl
    refine ⟨f7, _, fd, n7, _, _, _, false, rfl, ⟨He.glo_ok KX G (D.fact 7 (f := .glo "told_by") rfl), F, F.bindsN (fun _ _ _ _ _ _ us hl => match us, hl with | [_, _], _ => rfl), ?_, sc7, rfl, rfl, (fun z => by cases z), kk7⟩⟩
    · intro ks pm hm ws hl
      simp only [ck0, kwsF, List.mem_cons, Prod.mk.injEq, List.not_mem_nil, or_false, Nat.reduceEqDiff, false_and, true_and, false_or] at hm
      obtain ⟨rfl, rfl⟩ := hm
      · match ws, hl with
        | [w0, w1], _ => exact ⟨[w1, w0], rfl, fun s _ => kw_of F (fun _ _ _ _ _ _ => rfl) s⟩
  | 8, hx =>
    cases (show some ("_law_hash" : Str) = some x from hx)
    obtain ⟨fd, F⟩ := D.def_ 8 (d := dF "_law_hash" 30) rfl
    refine ⟨f8, _, fd, n8, _, _, _, false, rfl, ⟨He.glo_ok KX G (D.fact 8 (f := .glo "_law_hash") rfl), F, F.bindsN (fun _ _ _ _ _ _ us hl => match us, hl with | [_, _], _ => rfl), ?_, sc8, rfl, rfl, (fun z => by cases z), kk8⟩⟩
    · intro ks pm hm
      simp [ck0, kwsF] at hm
  | 9, hx =>
    cases (show some ("_law_random" : Str) = some x from hx)
    obtain ⟨fd, F⟩ := D.def_ 9 (d := dF "_law_random" 31) rfl
    refine ⟨f9, _, fd, n9, _, _, _, false, rfl, ⟨He.glo_ok KX G (D.fact 9 (f := .glo "_law_random") rfl), F, F.bindsN (fun _ _ _ _ _ _ us hl => match us, hl with | [_, _], _ => rfl), ?_, sc9, rfl, rfl, (fun z => by cases z), kk9⟩⟩
    · intro ks pm hm
      simp [ck0, kwsF] at hm
  | 10, hx =>
    cases (show some ("_law_cell" : Str) = some x from hx)
    obtain ⟨fd, F⟩ := D.def_ 10 (d := dF "_law_cell" 32) rfl
    refine ⟨f10, _, fd, n10, _, _, _, false, rfl, ⟨He.glo_ok KX G (D.fact 10 (f := .glo "_law_cell") rfl), F, F.bindsN (fun _ _ _ _ _ _ us hl => match us, hl with | [_, _], _ => rfl), ?_, sc10, rfl, rfl, (fun z => by cases z), kk10⟩⟩
    · intro ks pm hm
      simp [ck0, kwsF] at hm
  | 11, hx =>
    cases (show some ("_law_generator" : Str) = some x from hx)
    obtain ⟨fd, F⟩ := D.def_ 11 (d := dF "_law_generator" 33) rfl
    refine ⟨f11, _, fd, n11, _, _, _, false, rfl, ⟨He.glo_ok KX G (D.fact 11 (f := .glo "_law_generator") rfl), F, F.bindsN (fun _ _ _ _ _ _ us hl => match us, hl with | [_, _], _ => rfl), ?_, sc11, rfl, rfl, (fun z => by cases z), kk11⟩⟩
    · intro ks pm hm
      simp [ck0, kwsF] at hm
  | 12, hx =>
    cases (show some ("_law_pick" : Str) = some x from hx)
    obtain ⟨fd, F⟩ := D.def_ 12 (d := dF "_law_pick" 34) rfl
    refine ⟨f12, _, fd, n12, _, _, _, false, rfl, ⟨He.glo_ok KX G (D.fact 12 (f := .glo "_law_pick") rfl), F, F.bindsN (fun _ _ _ _ _ _ us hl => match us, hl with | [_, _], _ => rfl), ?_, sc12, rfl, rfl, (fun z => by cases z), kk12⟩⟩
    · intro ks pm hm
      simp [ck0, kwsF] at hm
  | 13, hx =>
    cases (show some ("_law_same" : Str) = some x from hx)
    obtain ⟨fd, F⟩ := D.def_ 13 (d := dF "_law_same" 35) rfl
    refine ⟨f13, _, fd, n13, _, _, _, false, rfl, ⟨He.glo_ok KX G (D.fact 13 (f := .glo "_law_same") rfl), F, F.bindsN (fun _ _ _ _ _ _ us hl => match us, hl with | [_, _], _ => rfl), ?_, sc13, rfl, rfl, (fun z => by cases z), kk13⟩⟩
    · intro ks pm hm
      simp [ck0, kwsF] at hm
  | 14, hx =>
    cases (show some ("_law_caught" : Str) = some x from hx)
    obtain ⟨fd, F⟩ := D.def_ 14 (d := dF "_law_caught" 36) rfl
    refine ⟨f14, _, fd, n14, _, _, _, false, rfl, ⟨He.glo_ok KX G (D.fact 14 (f := .glo "_law_caught") rfl), F, F.bindsN (fun _ _ _ _ _ _ us hl => match us, hl with | [_], _ => rfl), ?_, sc14, rfl, rfl, (fun z => by cases z), kk14⟩⟩
    · intro ks pm hm
      simp [ck0, kwsF] at hm
  | 15, hx =>
    cases (show some ("_law_refused" : Str) = some x from hx)
    obtain ⟨fd, F⟩ := D.def_ 15 (d := dF "_law_refused" 37) rfl
    refine ⟨f15, _, fd, n15, _, _, _, false, rfl, ⟨He.glo_ok KX G (D.fact 15 (f := .glo "_law_refused") rfl), F, F.bindsN (fun _ _ _ _ _ _ us hl => match us, hl with | [_, _, _], _ => rfl), ?_, sc15, rfl, rfl, (fun z => by cases z), kk15⟩⟩
    · intro ks pm hm
      simp [ck0, kwsF] at hm
  | 16, hx =>
    cases (show some ("_law_alike" : Str) = some x from hx)
    obtain ⟨fd, F⟩ := D.def_ 16 (d := dF "_law_alike" 38) rfl
    refine ⟨f16, _, fd, n16, _, _, _, false, rfl, ⟨He.glo_ok KX G (D.fact 16 (f := .glo "_law_alike") rfl), F, F.bindsN (fun _ _ _ _ _ _ us hl => match us, hl with | [_, _], _ => rfl), ?_, sc16, rfl, rfl, (fun z => by cases z), kk16⟩⟩
    · intro ks pm hm
      simp [ck0, kwsF] at hm
  | 17, hx =>
    cases (show some ("_law_all_refused" : Str) = some x from hx)
    obtain ⟨fd, F⟩ := D.def_ 17 (d := dF "_law_all_refused" 39) rfl
    refine ⟨f17, _, fd, n17, _, _, _, false, rfl, ⟨He.glo_ok KX G (D.fact 17 (f := .glo "_law_all_refused") rfl), F, F.bindsN (fun _ _ _ _ _ _ us hl => match us, hl with | [_, _, _], _ => rfl), ?_, sc17, rfl, rfl, (fun z => by cases z), kk17⟩⟩
    · intro ks pm hm
      simp [ck0, kwsF] at hm
  | 18, hx =>
    cases (show some ("_law_table" : Str) = some x from hx)
    obtain ⟨fd, F⟩ := D.def_ 18 (d := dF "_law_table" 40) rfl
    refine ⟨f18, _, fd, n18, _, _, _, false, rfl, ⟨He.glo_ok KX G (D.fact 18 (f := .glo "_law_table") rfl), F, F.bindsN (fun _ _ _ _ _ _ us hl => match us, hl with | [_, _], _ => rfl), ?_, sc18, rfl, rfl, (fun z => by cases z), kk18⟩⟩
    · intro ks pm hm
      simp [ck0, kwsF] at hm
  | 19, hx =>
    cases (show some ("_law_log" : Str) = some x from hx)
    obtain ⟨fd, F⟩ := D.def_ 19 (d := dF "_law_log" 41) rfl
    refine ⟨f19, _, fd, n19, _, _, _, false, rfl, ⟨He.glo_ok KX G (D.fact 19 (f := .glo "_law_log") rfl), F, F.bindsN (fun _ _ _ _ _ _ us hl => match us, hl with | [_, _, _, _], _ => rfl), ?_, sc19, rfl, rfl, (fun z => by cases z), kk19⟩⟩
    · intro ks pm hm
      simp [ck0, kwsF] at hm
  | 20, hx =>
    cases (show some ("_law_wrong_logs" : Str) = some x from hx)
    obtain ⟨fd, F⟩ := D.def_ 20 (d := dF "_law_wrong_logs" 42) rfl
    refine ⟨f20, _, fd, n20, _, _, _, false, rfl, ⟨He.glo_ok KX G (D.fact 20 (f := .glo "_law_wrong_logs") rfl), F, F.bindsN (fun _ _ _ _ _ _ us hl => match us, hl with | [_], _ => rfl), ?_, sc20, rfl, rfl, (fun z => by cases z), kk20⟩⟩
    · intro ks pm hm
      simp [ck0, kwsF] at hm
  | 21, hx =>
    cases (show some ("_law_wrong_numbers" : Str) = some x from hx)
    obtain ⟨fd, F⟩ := D.def_ 21 (d := dF "_law_wrong_numbers" 43) rfl
    refine ⟨f21, _, fd, n21, _, _, _, false, rfl, ⟨He.glo_ok KX G (D.fact 21 (f := .glo "_law_wrong_numbers") rfl), F, F.bindsN (fun _ _ _ _ _ _ us hl => match us, hl with | [], _ => rfl), ?_, sc21, rfl, rfl, (fun z => by cases z), kk21⟩⟩
    · intro ks pm hm
      simp [ck0, kwsF] at hm
  | 22, hx =>
    cases (show some ("_law_due" : Str) = some x from hx)
    obtain ⟨fd, F⟩ := D.def_ 22 (d := dF "_law_due" 44) rfl
    refine ⟨f22, _, fd, n22, _, _, _, false, rfl, ⟨He.glo_ok KX G (D.fact 22 (f := .glo "_law_due") rfl), F, F.bindsN (fun _ _ _ _ _ _ us hl => match us, hl with | [_, _], _ => rfl), ?_, sc22, rfl, rfl, (fun z => by cases z), kk22⟩⟩
    · intro ks pm hm
      simp [ck0, kwsF] at hm
  | 23, hx =>
    cases (show some ("_law_by_table" : Str) = some x from hx)
    obtain ⟨fd, F⟩ := D.def_ 23 (d := dF "_law_by_table" 45) rfl
    refine ⟨f23, _, fd, n23, _, _, _, false, rfl, ⟨He.glo_ok KX G (D.fact 23 (f := .glo "_law_by_table") rfl), F, F.bindsN (fun _ _ _ _ _ _ us hl => match us, hl with | [_, _, _], _ => rfl), ?_, sc23, rfl, rfl, (fun z => by cases z), kk23⟩⟩
    · intro ks pm hm
      simp [ck0, kwsF] at hm
  | 24, hx =>
    cases (show some ("law" : Str) = some x from hx)
    obtain ⟨fd, F⟩ := D.def_ 24 (d := dF "law" 46) rfl
    refine ⟨f24, _, fd, n24, _, _, _, true, rfl, ⟨He.glo_ok KX G (D.fact 24 (f := .glo "law") rfl), F, F.bindsN (fun _ _ _ _ _ _ us hl => match us, hl with | [_], _ => rfl), ?_, sc24, rfl, rfl, ?_, kk24⟩⟩
    · intro ks pm hm
      simp [ck0, kwsF] at hm
    · intro _
      refine ⟨He.codeOf K ("law", none), (He.cT K ("law", none)).2, mk_code F, List.mem_cons_self, fun p hp _ => ?_, hT _ (List.mem_map.mpr ⟨("law", none), List.mem_cons_self, rfl⟩)⟩
      have hp : p ∈ [((He.cT K ("law", none)).2, ("law" : Str) ++ ".<locals>." ++ "<lambda>")] := hp
      rw [List.mem_singleton] at hp
      rw [hp]
  | n + 25, hx => exact absurd hx (by simp [ck0, nmF])
theorem blt_of (KX : K.In h) (G : h.Ns mainGlobals mg) (c : He.SaysX fa fn [] tf ex w h K) : ∀ x ∈ ck0.blt, mg x = none := by
  have D := c.t.d
  intro x hx
  simp only [ck0, bltF, List.mem_cons, List.not_mem_nil, or_false] at hx
  rcases hx with rfl | rfl | rfl | rfl | rfl | rfl | rfl | rfl | rfl | rfl | rfl | rfl | rfl | rfl | rfl
  · exact He.free_ok KX G (D.fact 42 (f := .free "ValueError") rfl)
  · exact He.free_ok KX G (D.fact 43 (f := .free "bool") rfl)
  · exact He.free_ok KX G (D.fact 44 (f := .free "enumerate") rfl)
  · exact He.free_ok KX G (D.fact 45 (f := .free "int") rfl)
  · exact He.free_ok KX G (D.fact 46 (f := .free "isinstance") rfl)
  · exact He.free_ok KX G (D.fact 47 (f := .free "len") rfl)
  · exact He.free_ok KX G (D.fact 48 (f := .free "list") rfl)
  · exact He.free_ok KX G (D.fact 49 (f := .free "max") rfl)
  · exact He.free_ok KX G (D.fact 50 (f := .free "min") rfl)
  · exact He.free_ok KX G (D.fact 51 (f := .free "range") rfl)
  · exact He.free_ok KX G (D.fact 52 (f := .free "repr") rfl)
  · exact He.free_ok KX G (D.fact 53 (f := .free "str") rfl)
  · exact He.free_ok KX G (D.fact 54 (f := .free "sum") rfl)
  · exact He.free_ok KX G (D.fact 55 (f := .free "super") rfl)
  · exact He.free_ok KX G (D.fact 56 (f := .free "tuple") rfl)
theorem con_of (KX : K.In h) (G : h.Ns mainGlobals mg) (c : He.SaysX fa fn [] tf ex w h K) : ∀ (g : Nat) (x : Str) (i : Int), ck0.cons[g]? = some (x, i) → ∃ t, mg x = some (.int i t) := by
  have D := c.t.d
  intro g x i hx
  match g, hx with
  | 0, hx =>
    cases (show some (("MOST_SIGNS" : Str), (12 : Int)) = some (x, i) from hx)
    exact He.int_ok KX G (D.fact 57 (f := .int "MOST_SIGNS" 12) rfl)
  | n + 1, hx => exact absurd hx (by simp [ck0, conF])
theorem xcl_of (KX : K.In h) (G : h.Ns mainGlobals mg) (c : He.SaysX fa fn [] tf ex w h K) : ∀ q ∈ ck0.xcl, mg q.2 = some (.ref (He.ga K q.2)) := by
  have D := c.t.d
  intro x hx
  simp only [ck0, xclF, List.mem_cons, List.not_mem_nil, or_false] at hx
  rcases hx with rfl | rfl | rfl | rfl | rfl | rfl | rfl | rfl | rfl | rfl | rfl | rfl | rfl | rfl | rfl | rfl | rfl
  · exact He.glo_ok KX G (D.fact 25 (f := .glo "BeatError") rfl)
  · exact He.glo_ok KX G (D.fact 26 (f := .glo "InvalidTable") rfl)
  · exact He.glo_ok KX G (D.fact 27 (f := .glo "InvalidMixture") rfl)
  · exact He.glo_ok KX G (D.fact 28 (f := .glo "InvalidSign") rfl)
  · exact He.glo_ok KX G (D.fact 29 (f := .glo "InvalidSigns") rfl)
  · exact He.glo_ok KX G (D.fact 30 (f := .glo "InvalidPattern") rfl)
  · exact He.glo_ok KX G (D.fact 31 (f := .glo "InvalidWeights") rfl)
  · exact He.glo_ok KX G (D.fact 32 (f := .glo "InvalidBounds") rfl)
  · exact He.glo_ok KX G (D.fact 33 (f := .glo "InvalidNumber") rfl)
  · exact He.glo_ok KX G (D.fact 34 (f := .glo "InvalidText") rfl)
  · exact He.glo_ok KX G (D.fact 35 (f := .glo "InvalidBlock") rfl)
  · exact He.glo_ok KX G (D.fact 36 (f := .glo "InvalidMatrix") rfl)
  · exact He.glo_ok KX G (D.fact 37 (f := .glo "InvalidRow") rfl)
  · exact He.glo_ok KX G (D.fact 38 (f := .glo "InvalidLog") rfl)
  · exact He.glo_ok KX G (D.fact 39 (f := .glo "InvalidNames") rfl)
  · exact He.glo_ok KX G (D.fact 40 (f := .glo "Barred") rfl)
  · exact He.glo_ok KX G (D.fact 41 (f := .glo "TooMany") rfl)
theorem exs_of (KX : K.In h) (G : h.Ns mainGlobals mg) (c : He.SaysX fa fn [] tf ex w h K) : ∀ p ∈ ck0.exs, mg p.2 = some (.ref (He.ga K p.2)) := by
  intro p hp
  refine xcl_of KX G c p ?_
  simp only [ck0, exsF, List.mem_cons, List.not_mem_nil, or_false] at hp
  rcases hp with rfl | rfl <;> simp [ck0, xclF]
theorem law_fn {N : Nat} {wh : (List D → Hh → Res D) → (List D → Hh → SRes) → List D → Hh → SRes} (hw : ∀ c b e h, wh c b e h = .stk ∨ ∃ n, wh c b e h = whF c b n e h) {fa_ : Addr} (KX : K.In h) (G : h.Ns mainGlobals mg) (hmg : mg "law" = some (.ref fa_)) (c : He.SaysX fa fn [] tf ex w h K) :
    ∃ fd : FuncData, (∀ (s : Shared) (u : Value), BindsTo s fd ⟨[u], []⟩ [("script", u)]) ∧ ∀ base : Heap, K.In base → base.Ns mainGlobals mg → (∀ p ∈ tf.map (He.cT K), LamX.TabB base mg p.1 p.2) →
      FnG (PySem.Challenge.rw_beatsigns_k76_whole_tables_told_by_match).prog w K mg base (L2.CX (PySem.Challenge.rw_beatsigns_k76_whole_tables_told_by_match).prog w) (N + 2) fa_ fd ["script"] (spF (TT K) ((glb prg wh N).call 24) 1) := by
  have D := c.t.d
  obtain ⟨fd, F⟩ := D.def_ 24 (d := dF "law" 46) rfl
  have e := hmg.symm.trans (He.glo_ok KX G (D.fact 24 (f := .glo "law") rfl))
  cases e
  have b := FunD.bindsA (ps := ["script"]) F fun _ _ _ _ _ _ us hl => match us, hl with | [_], _ => rfl
  refine ⟨fd, fun s u => b s [u] rfl, fun base _ _ hT => ?_⟩
  have hex := fun ci x hx => hex_of (w := w) (base := base) c.more (by decide +kernel) (He.free_ok KX G (D.fact 55 (f := .free "super") rfl)) (exs_of KX G c) ci x hx
  have ok := (glb_ok (T := TT K) (base := base) (c0 := ck0) (prg := prg) (pars := pars) (wh := wh) (P := (PySem.Challenge.rw_beatsigns_k76_whole_tables_told_by_match).prog) (w := w) (mg := mg) hw (blt_of KX G c) (con_of KX G c) hex (fun cj y hy => ⟨_, xcl_of KX G c _ hy⟩) (fun ci C _ hC => hxc_of c.more ci C hC (xcl_of KX G c)) (fun b I => Iff.rfl) (hd_of KX G c hT) N).1 24 "law" rfl
  obtain ⟨a, fd2, e1, e2, _, _, H, _⟩ := ok
  rw [hmg] at e2
  cases e2
  have e1 : some fd = some fd2 := (fdAt_of F).symm.trans e1
  cases e1
  exact H
end
theorem holds_of {N : Nat} (hN : N ≤ 20) {wh : (List D → Hh → Res D) → (List D → Hh → SRes) → List D → Hh → SRes} (hw : ∀ c b e h, wh c b e h = .stk ∨ ∃ n, wh c b e h = whF c b n e h)
    (law : ∀ ns : List Int, ns.length ≤ 63 → (∀ z ∈ ns, Builtin.Int.intBits z ≤ 1048576) → ∃ h', (glb prg wh N).call 24 [.ro (ns.map D.int)] [] = .ok (.bl true) h') : PySem.Challenge.rw_beatsigns_k76_whole_tables_told_by_match.Holds := by
  open PySem PySem.W PySem.Calls PyProof.Rows in
  w_on; o_law
  refine HandSHeadRun.head_any (r := PySem.W.OpenLaw.row PySem.Challenge.rw_beatsigns_k76_whole_tables_told_by_match) (q := PySem.W.view (PySem.W.OpenLaw.row PySem.Challenge.rw_beatsigns_k76_whole_tables_told_by_match).prog [46]) (H := hk) (ob := ob) (M := 6000) (loose := loose) (d := HandSHeadRun.topDef (PySem.W.OpenLaw.row PySem.Challenge.rw_beatsigns_k76_whole_tables_told_by_match).prog 46) (kwd := []) ob_eq
    (by kernel_rfl) (fun s => by kernel_rfl) run (by kernel_rfl) (by kernel_rfl) (by kernel_rfl) (by rfl) (by first | assumption | decide +kernel) (by decide +kernel) ⟨rfl, rfl, rfl, rfl, rfl, by decide +kernel⟩ ?hw ?hc
  case hw => w_witness2
  case hc =>
    refine walk_G (l := PySem.Challenge.rw_beatsigns_k76_whole_tables_told_by_match) (n := 63) (k := N + 2) (x := "script") rfl (by decide) (by kernel_rfl) ((show L2.Room 22 callerA from ⟨rfl, by decide, by decide⟩).mono (by omega)) ?F
    intro w mg fa_ h Y G hmg0
    obtain ⟨K, KX, c⟩ := Y
    have hmg : mg ("law" : PySem.Str) = some (.ref fa_) := by
      have e : (HandSHeadRun.topDef (PySem.W.OpenLaw.row PySem.Challenge.rw_beatsigns_k76_whole_tables_told_by_match).prog 46).name = ("law" : PySem.Str) := by kernel_rfl
      rw [← e]
      exact hmg0
    obtain ⟨fd, hb, hF⟩ := law_fn (N := N) hw KX G hmg c
    refine ⟨K, fd, tf.map (He.cT K), _, KX, fun p hp => ?_, fun p hp => ?_, fun p hp => ?_, hb, fun H a ns hl hbits hT hS => law_sp (T := TT K) hS (fun p hp => ?_) (law ns hl hbits), hF⟩
    · obtain ⟨q, hq, rfl⟩ := List.mem_map.mp hp
      exact c.empty q hq
    · obtain ⟨q, hq, rfl⟩ := List.mem_map.mp hp
      exact c.out q hq
    · obtain ⟨q, hq, rfl⟩ := List.mem_map.mp hp
      exact PySem.W.codeHd_of_K KX (c.hd q hq)
    · obtain ⟨q, hq, rfl⟩ := List.mem_map.mp hp
      exact hT _ (List.mem_map.mpr ⟨q, hq, rfl⟩)
end Tx
end Mn
set_option maxHeartbeats 4000000
/-! # Plain reasoning over Mini -/
namespace Mn
open PySem L2
/-- every object names only objects that stand -/
def Cl (n : Nat) (h : Hh) : Prop := ∀ ob ∈ h, ob.clsd n = true
theorem thaw_c {h : Hh} {n : Nat} : ∀ {k : Nat} {d : D}, clsd n d = true → thaw h n k d = d
  | 0, d, _ => rfl
  | k + 1, .cel c, hc => by
    simp only [clsd, decide_eq_true_eq] at hc
    simp only [thaw, if_pos hc]
  | k + 1, .lst xs, hc => by
    simp only [clsd] at hc
    simp only [thaw, hc, if_true]
  | k + 1, .tup xs, hc => by
    simp only [clsd] at hc
    simp only [thaw, hc, if_true]
  | k + 1, .und, _ => rfl
  | k + 1, .non, _ => rfl
  | k + 1, .bl _, _ => rfl
  | k + 1, .int _, _ => rfl
  | k + 1, .str _, _ => rfl
  | k + 1, .ro _, _ => rfl
  | k + 1, .dK _, _ => rfl
  | k + 1, .dT _, _ => rfl
  | k + 1, .exc _ _, _ => rfl
  | k + 1, .clo _ _, _ => rfl
theorem oldOk_c {n : Nat} {h0 h : Hh} (l0 : n ≤ h0.length) (l1 : n ≤ h.length) (hc : ∀ ob ∈ h.take n, ob.clsd n = true) : oldOk n h0 h = true := by
  unfold oldOk
  rw [List.all_eq_true]
  intro i hi
  have hi : i < n := by simpa using hi
  rw [List.getElem?_eq_getElem (by omega : i < h0.length), List.getElem?_eq_getElem (by omega : i < h.length)]
  simp only [Bool.or_eq_true]
  left
  refine hc _ ?_
  rw [List.mem_take_iff_getElem]
  exact ⟨i, by omega, rfl⟩
theorem leave_c {h0 h : Hh} {d : D} (hc : clsd h0.length d = true) (l : h0.length ≤ h.length) (ho : Cl h0.length (h.take h0.length)) : leave true h0 d h = .ok d (h.take h0.length) := by
  unfold leave
  rw [if_pos rfl]
  simp only [thaw_c hc, hc, oldOk_c (Nat.le_refl _) l ho, Bool.and_self, if_true]
/-- a call whose body hands back d -/
theorem call_ret {G : Glb} {F : Fn} {ds : List D} {h h' : Hh} {d : D} {e : List D} (hp : F.pop = true) (hl : ds.length = F.np) (he : exes G F.body (ds ++ List.replicate (F.nl - F.np) .und) h = .ok (.ret d) e h') (hc : clsd h.length d = true) (l : h.length ≤ h'.length) (ho : Cl h.length (h'.take h.length)) :
    callFn G F ds h = .ok d (h'.take h.length) := by
  unfold callFn
  rw [if_pos hl, he]
  simp only
  rw [hp, leave_c hc l ho]
/-- a call that leaves the heap -/
theorem call_pure {G : Glb} {F : Fn} {ds : List D} {h : Hh} {d : D} {e : List D} (hp : F.pop = true) (hl : ds.length = F.np) (he : exes G F.body (ds ++ List.replicate (F.nl - F.np) .und) h = .ok (.ret d) e h) (hc : clsd h.length d = true) (ho : Cl h.length h) :
    callFn G F ds h = .ok d h := by
  have := call_ret hp hl he hc (Nat.le_refl _) (by rw [List.take_length]; exact ho)
  rw [List.take_length] at this
  exact this
theorem call_none {G : Glb} {F : Fn} {ds : List D} {h : Hh} {e : List D} (hp : F.pop = true) (hl : ds.length = F.np) (he : exes G F.body (ds ++ List.replicate (F.nl - F.np) .und) h = .ok .nx e h) (ho : Cl h.length h) :
    callFn G F ds h = .ok .non h := by
  unfold callFn
  rw [if_pos hl, he]
  simp only
  rw [hp, leave_c (by rfl) (Nat.le_refl _) (by rw [List.take_length]; exact ho), List.take_length]
theorem call_exc {G : Glb} {F : Fn} {ds : List D} {h : Hh} {c : Nat} {d : D} {e : List D} (hp : F.pop = true) (hl : ds.length = F.np) (he : exes G F.body (ds ++ List.replicate (F.nl - F.np) .und) h = .exc c d e h) (hc : clsd h.length d = true) (ho : Cl h.length h) :
    callFn G F ds h = .exc c d h := by
  unfold callFn
  rw [if_pos hl, he]
  simp only [leaveX]
  rw [hp, leave_c hc (Nat.le_refl _) (by rw [List.take_length]; exact ho), List.take_length]
theorem call_keep {G : Glb} {F : Fn} {ds : List D} {h h' : Hh} {d : D} {e : List D} (hp : F.pop = false) (hl : ds.length = F.np) (he : exes G F.body (ds ++ List.replicate (F.nl - F.np) .und) h = .ok (.ret d) e h') : callFn G F ds h = .ok d h' := by
  unfold callFn
  rw [if_pos hl, he]
  simp only
  rw [hp]
  rfl
/-- what is handed back is read as a tree -/
theorem call_thaw {G : Glb} {F : Fn} {ds : List D} {h h' : Hh} {d d' : D} {e : List D} (hp : F.pop = true) (hl : ds.length = F.np) (he : exes G F.body (ds ++ List.replicate (F.nl - F.np) .und) h = .ok (.ret d) e h') (ht : thaw h' h.length 4 d = d') (hc : clsd h.length d' = true) (l : h.length ≤ h'.length) (ho : Cl h.length (h'.take h.length)) :
    callFn G F ds h = .ok d' (h'.take h.length) := by
  unfold callFn
  rw [if_pos hl, he]
  simp only
  rw [hp]
  unfold leave
  rw [if_pos rfl]
  simp only [ht, hc, oldOk_c (Nat.le_refl _) l ho, Bool.and_self, if_true]
/-! ### arithmetic -/
theorem log2_lt' {n k : Nat} (h : n < 2 ^ k) (hk : 0 < k) : n.log2 < k := by
  by_cases e : n = 0
  · subst e; simpa using hk
  · exact (Nat.log2_lt e).mpr h
theorem mulOk_of {i j : Int} {p q : Nat} (hi : i.natAbs < 2 ^ p) (hj : j.natAbs < 2 ^ q) (hp : 0 < p) (hq : 0 < q) (h : p + q ≤ 1000000) : mulOk i j = true := by
  unfold mulOk
  rw [decide_eq_true_eq]
  have := log2_lt' hi hp
  have := log2_lt' hj hq
  omega
/-- loops that go on -/
theorem loopS_rng {lo : Int} {N : Nat} {body : D → List D → Hh → SRes} (I : Nat → List D → Hh → Prop) (step : ∀ i e h, i < N → I i e h → ∃ e' h', body (.int (lo + i)) e h = .ok .nx e' h' ∧ I (i + 1) e' h') :
    ∀ (n i : Nat) (e : List D) (h : Hh), i + n = N → I i e h → ∃ e' h', loopS (.rng lo N) body n i e h = .ok .nx e' h' ∧ I N e' h'
  | 0, i, e, h, hn, hI => by
    refine ⟨e, h, ?_, by rw [show N = i by omega]; exact hI⟩
    simp only [loopS, Src.at]
    rw [if_neg (by omega)]
  | n + 1, i, e, h, hn, hI => by
    obtain ⟨e1, h1, q1, I1⟩ := step i e h (by omega) hI
    obtain ⟨e2, h2, q2, I2⟩ := loopS_rng I step n (i + 1) e1 h1 (by omega) I1
    refine ⟨e2, h2, ?_, I2⟩
    simp only [loopS, Src.at]
    rw [if_pos (by omega : i < N)]
    simp only [q1, q2]
theorem loopS_fz {xs : List D} {body : D → List D → Hh → SRes} (I : Nat → List D → Hh → Prop) (step : ∀ i x e h, xs[i]? = some x → I i e h → ∃ e' h', body x e h = .ok .nx e' h' ∧ I (i + 1) e' h') :
    ∀ (n i : Nat) (e : List D) (h : Hh), i + n = xs.length → I i e h → ∃ e' h', loopS (.fz xs) body n i e h = .ok .nx e' h' ∧ I xs.length e' h'
  | 0, i, e, h, hn, hI => by
    refine ⟨e, h, ?_, by rw [show xs.length = i by omega]; exact hI⟩
    simp only [loopS, Src.at]
    rw [List.getElem?_eq_none (by omega)]
  | n + 1, i, e, h, hn, hI => by
    have hx : xs[i]? = some (xs[i]'(by omega)) := List.getElem?_eq_getElem (by omega)
    obtain ⟨e1, h1, q1, I1⟩ := step i _ e h hx hI
    obtain ⟨e2, h2, q2, I2⟩ := loopS_fz I step n (i + 1) e1 h1 (by omega) I1
    refine ⟨e2, h2, ?_, I2⟩
    simp only [loopS, Src.at]
    rw [hx]
    simp only [q1, q2]
/-- a comprehension without effects: f tells what each item gives -/
theorem loopL_pure {s : Src} {step : D → Hh → Res (Option D)} {h : Hh} {xs : List D} (f : D → Option D) (hs : ∀ i, s.at i h = some xs[i]?) (hf : ∀ x ∈ xs, step x h = .ok (f x) h) : ∀ (n i : Nat) (acc : List D), i + n = xs.length → acc.length + n ≤ sizeL → loopL s step n i acc h = .ok (acc ++ (xs.drop i).filterMap f) h
  | 0, i, acc, hn, _ => by
    have : xs.drop i = [] := List.drop_eq_nil_of_le (by omega)
    simp only [loopL, hs, List.getElem?_eq_none (by omega : xs.length ≤ i), this, List.filterMap_nil, List.append_nil]
  | n + 1, i, acc, hn, hl => by
    have hi : i < xs.length := by omega
    have hx : xs[i]? = some xs[i] := List.getElem?_eq_getElem hi
    have hd : xs.drop i = xs[i] :: xs.drop (i + 1) := (List.drop_eq_getElem_cons hi)
    have hst := hf xs[i] (List.getElem_mem hi)
    simp only [loopL, hs, hx, hst]
    cases hfx : f xs[i] with
    | none =>
      simp only
      rw [loopL_pure f hs hf n (i + 1) acc (by omega) (by omega), hd, List.filterMap_cons, hfx]
    | some y =>
      simp only
      rw [if_pos (by omega), loopL_pure f hs hf n (i + 1) (acc ++ [y]) (by omega) (by simp; omega), hd, List.filterMap_cons, hfx]
      simp
/-! ### operators on known kinds -/
section
variable {lv : Bool} {h : Hh} {i j : Int} {x y : Str} {xs ys : List D} {sub : Nat → Nat → Bool} {d a b : D}
theorem bo_add : binop lv .add (.int i) (.int j) h = .ok (.int (i + j)) h := rfl
theorem bo_sub : binop lv .sub (.int i) (.int j) h = .ok (.int (i - j)) h := rfl
theorem bo_mul : binop lv .mul (.int i) (.int j) h = if mulOk i j then .ok (.int (i * j)) h else .stk := rfl
theorem bo_mod : binop lv .mod (.int i) (.int j) h = if 0 < j then .ok (.int (i % j)) h else .stk := rfl
theorem bo_fdv : binop lv .fdv (.int i) (.int j) h = if fdvOk j then .ok (.int (i / j)) h else .stk := rfl
theorem bo_pow : binop lv .pow (.int i) (.int j) h = if powOk i j then .ok (.int (i ^ j.toNat)) h else .stk := rfl
theorem bo_cat : binop lv .add (.lst xs) (.lst ys) h = newL lv (xs ++ ys) h := rfl
theorem bo_rep : binop lv .mul (.lst xs) (.int i) h = if xs.length * i.toNat ≤ sizeL ∧ -(2 ^ 63) ≤ i ∧ i < 2 ^ 63 then newL lv (List.replicate i.toNat xs).flatten h else .stk := rfl
theorem bf_int : bfn sub lv .int [.int i] h = .ok (.int i) h := rfl
theorem bf_max : bfn sub lv .max [.int i, .int j] h = .ok (.int (if j > i then j else i)) h := rfl
theorem bf_min : bfn sub lv .min [.int i, .int j] h = .ok (.int (if j < i then j else i)) h := rfl
theorem bf_lenL : bfn sub lv .len [.lst xs] h = .ok (.int xs.length) h := rfl
theorem bf_lenR : bfn sub lv .len [.ro xs] h = .ok (.int xs.length) h := rfl
theorem bf_lenT : bfn sub lv .len [.tup xs] h = .ok (.int xs.length) h := rfl
theorem bf_isi {ts : List Nat} : bfn sub lv (.isinst ts) [d] h = if plain h d then .ok (.bl (ts.any (tyIs h d))) h else .stk := rfl
theorem newF : newL false xs h = if xs.length ≤ sizeL then .ok (.lst xs) h else .stk := rfl
theorem newT : newL true xs h = if xs.length ≤ sizeL then .ok (.cel h.length) (h ++ [.lst xs]) else .stk := rfl
theorem mt_bit : mtf lv .bitlen (.int i) [] h = .ok (.int (Builtin.Int.intBits i : Nat)) h := rfl
theorem rc_bit : rcv .bitlen (.int i) h = true := rfl
theorem f30 : fdvOk 30 = true := by
  unfold fdvOk
  decide +kernel
theorem rng1_ok {G : Glb} {x : E} {e : List D} {h h1 : Hh} {j : Int} (q : ev G x e h = .ok (.int j) h1) (hj : -1000000000 ≤ j ∧ j ≤ 1000000000) : evI G (.rng1 x) e h = .ok (.rng 0 j.toNat) h1 := by
  rw [evI, q, bind_ok]
  simp only
  rw [if_pos (by constructor <;> omega)]
theorem rng2_ok {G : Glb} {x y : E} {e : List D} {h h1 h2 : Hh} {i j : Int} (q : ev G x e h = .ok (.int i) h1) (q2 : ev G y e h1 = .ok (.int j) h2) (hi : -1000000000 ≤ i ∧ i ≤ 1000000000) (hj : -1000000000 ≤ j ∧ j ≤ 1000000000) : evI G (.rng2 x y) e h = .ok (.rng i (j - i).toNat) h2 := by
  rw [evI, q, bind_ok, q2, bind_ok]
  simp only
  rw [if_pos (by refine ⟨?_, ?_, ?_, ?_⟩ <;> omega)]
theorem co_lt : cmpop .lt (.int i) (.int j) h = some (decide (i < j)) := rfl
theorem co_le : cmpop .le (.int i) (.int j) h = some (decide (i ≤ j)) := rfl
theorem co_gt : cmpop .gt (.int i) (.int j) h = some (decide (j < i)) := rfl
theorem co_ge : cmpop .ge (.int i) (.int j) h = some (decide (j ≤ i)) := rfl
theorem co_eqI : cmpop .eq (.int i) (.int j) h = some (decide (i = j)) := rfl
theorem co_neI : cmpop .ne (.int i) (.int j) h = some (!decide (i = j)) := rfl
theorem co_eqS : cmpop .eq (.str x) (.str y) h = some (decide (x = y)) := rfl
theorem co_neS : cmpop .ne (.str x) (.str y) h = some (!decide (x = y)) := rfl
theorem co_is {a b : D} : cmpop .is a b h = isD a b := rfl
theorem co_isnt {a b : D} : cmpop .isnt a b h = (isD a b).map (!·) := rfl
theorem ix_tup {k : Int} : idxop (.tup xs) (.int k) h = L2.atI xs k := rfl
theorem ix_lst {k : Int} : idxop (.lst xs) (.int k) h = L2.atI xs k := rfl
theorem ix_ro {k : Int} : idxop (.ro xs) (.int k) h = L2.atI xs k := rfl
theorem ix_cel {c : Nat} {k : Int} (e : h[c]? = some (.lst xs)) : idxop (.cel c) (.int k) h = L2.atI xs k := by
  simp only [idxop, lsOf, e]
theorem ixN_of {n : Nat} {k : Int} (h0 : 0 ≤ k) (h1 : k < n) : L2.ixN n k = some k.toNat := by
  unfold L2.ixN
  rw [if_pos h0, if_pos h1]
theorem atI_of {α : Type} {xs : List α} {k : Int} (h0 : 0 ≤ k) (h1 : k < xs.length) : L2.atI xs k = xs[k.toNat]? := by
  unfold L2.atI
  rw [ixN_of h0 h1]; rfl
theorem atI_0 {α : Type} {a : α} {xs : List α} : L2.atI (a :: xs) 0 = some a := by
  rw [atI_of (by decide) (by simp only [List.length_cons]; omega)]; rfl
theorem atI_1 {α : Type} {a b : α} {xs : List α} : L2.atI (a :: b :: xs) 1 = some b := by
  rw [atI_of (by decide) (by simp only [List.length_cons]; omega)]; rfl
theorem atI_2 {α : Type} {a b c : α} {xs : List α} : L2.atI (a :: b :: c :: xs) 2 = some c := by
  rw [atI_of (by decide) (by simp only [List.length_cons]; omega)]; rfl
end
/-! ### statement by statement -/
/-- a loop's turn -/
def lpB (G : Glb) (t : Tg) (fg : List Nat) (b : Ss) : D → List D → Hh → SRes := fun d e h => match evT G t d e h with
  | .ok e' h' => fgS fg (exes G b e' h')
  | _ => .stk
section
variable {G : Glb} {s : S} {r a b : Ss} {e e1 e2 : List D} {h h1 h2 : Hh} {Q : SRes} {d v w : D} {x c y : E} {t : Tg} {cc : Nat} {fg : List Nat} {src : Src} {ii : I}
theorem xs_nx (q : exe G s e h = .ok .nx e1 h1) (k : exes G r e1 h1 = Q) : exes G (.cons s r) e h = Q := by
  rw [exes, q]; exact k
theorem xs_ret (q : exe G s e h = .ok (.ret d) e1 h1) : exes G (.cons s r) e h = .ok (.ret d) e1 h1 := by rw [exes, q]
theorem xs_exc (q : exe G s e h = .exc cc d e1 h1) : exes G (.cons s r) e h = .exc cc d e1 h1 := by rw [exes, q]
theorem xs_nil : exes G .nil e h = .ok .nx e h := by rw [exes]
theorem x_t (q : ev G c e h = .ok (.bl true) h1) (k : exes G a e h1 = Q) : exe G (.ite c a b) e h = Q := by
  rw [exe, q]; exact k
theorem x_f (q : ev G c e h = .ok (.bl false) h1) (k : exes G b e h1 = Q) : exe G (.ite c a b) e h = Q := by
  rw [exe, q]; exact k
theorem x_asg (q : ev G x e h = .ok v h1) (k : evT G t v e h1 = .ok e2 h2) : exe G (.asg t x) e h = .ok .nx e2 h2 := by
  rw [exe, q, thenS_ok, k]; rfl
theorem x_nm {i : Nat} (q : ev G x e h = .ok v h1) : exe G (.asg (.nm i) x) e h = .ok .nx (e.set i v) h1 := x_asg q (by rw [evT])
theorem x_par {i j : Nat} (q : ev G x e h = .ok v h1) (k : ev G y e h1 = .ok w h2) : exe G (.par i j x y) e h = .ok .nx ((e.set i v).set j w) h2 := by
  rw [exe, q, thenS_ok, k, thenS_ok]
theorem x_ex (q : ev G x e h = .ok v h1) : exe G (.ex x) e h = .ok .nx e h1 := by rw [exe, q, thenS_ok]
theorem x_exX (q : ev G x e h = .exc cc v h1) : exe G (.ex x) e h = .exc cc v e h1 := by rw [exe, q, thenS_exc]
theorem x_rt (q : ev G x e h = .ok v h1) : exe G (.ret x) e h = .ok (.ret v) e h1 := by rw [exe, q, thenS_ok]
theorem x_rai (q : ev G x e h = .ok v h1) : exe G (.rai cc x) e h = .exc cc v e h1 := by rw [exe, q, thenS_ok]
theorem x_fr (q : evI G ii e h = .ok src h1) (k : loopS src (lpB G t fg b) (src.len h1) 0 (wipeD e fg) h1 = Q) : exe G (.fr ii t b fg) e h = Q := by rw [exe, q]; exact k
theorem lp_ok (q : evT G t d e h = .ok e1 h1) (k : exes G b e1 h1 = .ok .nx e2 h2) : lpB G t fg b d e h = .ok .nx (wipeD e2 fg) h2 := by unfold lpB; rw [q]; simp only [k, fgS]
theorem lp_ret (q : evT G t d e h = .ok e1 h1) (k : exes G b e1 h1 = .ok (.ret v) e2 h2) : lpB G t fg b d e h = .ok (.ret v) e2 h2 := by unfold lpB; rw [q]; simp only [k, fgS]
theorem v_call {f : Nat} {es : Es} {ds : List D} {R : Res D} (q : evs G es e h = .ok ds h1) (k : G.call f ds h1 = R) : ev G (.call f es) e h = R := by rw [ev, q]; exact k
end
/-- a comprehension's turn -/
def lcB (G : Glb) (t : Tg) (fs : Es) (x : E) (e : List D) : D → Hh → Res (Option D) := fun d h => match evT G t d (wipeD e t.own) h with
  | .ok e' h => (evB G fs e' h).bind fun b h => if b then ((ev G x e' h).bind fun v h => .ok (some v) h) else .ok none h
  | _ => .stk
theorem v_lc {G : Glb} {lv : Bool} {s : I} {t : Tg} {fs : Es} {x : E} {e : List D} {h h1 h2 : Hh} {src : Src} {ds : List D} {R : Res D} (q : evI G s e h = .ok src h1) (k : loopL src (lcB G t fs x e) (src.len h1) 0 [] h1 = .ok ds h2) (k2 : newL lv ds h2 = R) : ev G (.lc lv s t fs x) e h = R := by
  rw [ev, q, bind_ok]
  show (loopL src (lcB G t fs x e) (src.len h1) 0 [] h1).bind _ = _
  rw [k, bind_ok, k2]
theorem loopL_rng {lo : Int} {N : Nat} {st : D → Hh → Res (Option D)} (I : Nat → List D → Hh → Prop) (hN : N ≤ sizeL) (step : ∀ i acc h, i < N → I i acc h → ∃ x h', st (.int (lo + i)) h = .ok (some x) h' ∧ I (i + 1) (acc ++ [x]) h') :
    ∀ (n i : Nat) (acc : List D) (h : Hh), i + n = N → acc.length = i → I i acc h → ∃ acc' h', loopL (.rng lo N) st n i acc h = .ok acc' h' ∧ I N acc' h'
  | 0, i, acc, h, hn, hl, hI => by
    refine ⟨acc, h, ?_, by rw [show N = i by omega]; exact hI⟩
    simp only [loopL, Src.at]
    rw [if_neg (by omega)]
  | n + 1, i, acc, h, hn, hl, hI => by
    obtain ⟨x, h1, q1, I1⟩ := step i acc h (by omega) hI
    obtain ⟨a2, h2, q2, I2⟩ := loopL_rng I hN step n (i + 1) (acc ++ [x]) h1 (by omega) (by simp [hl]) I1
    refine ⟨a2, h2, ?_, I2⟩
    simp only [loopL, Src.at]
    rw [if_pos (by omega : i < N)]
    simp only [q1]
    rw [if_pos (by omega), q2]
theorem lc_one {G : Glb} {i : Nat} {x : E} {e : List D} {d v : D} {h h1 : Hh} (q : ev G x ((wipeD e [i]).set i d) h = .ok v h1) : lcB G (.nm i) .nil x e d h = .ok (some v) h1 := by
  unfold lcB
  simp only [Tg.own, evT, evB, bind_ok, if_true, q]
/-! ### expressions, by their parts -/
section
variable {G : Glb} {a b c : E} {e : List D} {h h1 h2 : Hh} {x y v : D} {t : Bool} {o : COp} {R : Res D} {es : Es} {ds : List D}
theorem v_orT (q : ev G a e h = .ok (.bl true) h1) : ev G (.or a b) e h = .ok (.bl true) h1 := by rw [ev, q]; rfl
theorem v_orF (q : ev G a e h = .ok (.bl false) h1) (k : ev G b e h1 = R) : ev G (.or a b) e h = R := by rw [ev, q]; exact k
theorem v_andF (q : ev G a e h = .ok (.bl false) h1) : ev G (.and a b) e h = .ok (.bl false) h1 := by rw [ev, q]; rfl
theorem v_andT (q : ev G a e h = .ok (.bl true) h1) (k : ev G b e h1 = R) : ev G (.and a b) e h = R := by rw [ev, q]; exact k
theorem v_one (k : ev G a e h = R) : ev G (.one a) e h = R := by rw [ev]; exact k
theorem v_not (q : ev G a e h = .ok (.bl t) h1) : ev G (.not a) e h = .ok (.bl (!t)) h1 := by rw [ev, q]; rfl
theorem v_cmp (q : ev G a e h = .ok x h1) (k : ev G b e h1 = .ok y h2) (z : cmpop o x y h2 = some t) : ev G (.cmp o a b) e h = .ok (.bl t) h2 := by rw [ev, q, bind_ok, k, bind_ok, z]
theorem v_idx (q : ev G a e h = .ok x h1) (k : ev G b e h1 = .ok y h2) (z : idxop x y h2 = some v) : ev G (.idx a b) e h = .ok v h2 := by rw [ev, q, bind_ok, k, bind_ok, z]
theorem v_ifT (q : ev G c e h = .ok (.bl true) h1) (k : ev G a e h1 = R) : ev G (.ife c a b) e h = R := by rw [ev, q]; exact k
theorem v_ifF (q : ev G c e h = .ok (.bl false) h1) (k : ev G b e h1 = R) : ev G (.ife c a b) e h = R := by rw [ev, q]; exact k
theorem v_bi {lv : Bool} {bb : Bi} (q : evs G es e h = .ok ds h1) (k : bfn G.sub lv bb ds h1 = R) : ev G (.bi lv bb es) e h = R := by rw [ev, q]; exact k
theorem v_nil0 : ev G (.lst false .nil) e h = .ok (.lst []) h := by rw [ev, evs, bind_ok, newF, if_pos (by simp)]
theorem v_lst (q : evs G es e h = .ok ds h1) (hl : ds.length ≤ 1000) : ev G (.lst false es) e h = .ok (.lst ds) h1 := by
  rw [ev, q, bind_ok, newF, if_pos (by unfold sizeL; omega)]
theorem v_tup (q : evs G es e h = .ok ds h1) (hl : ds.length ≤ 1000) : ev G (.tup es) e h = .ok (.tup ds) h1 := by
  rw [ev, q, bind_ok, if_pos (by unfold sizeL; omega)]
theorem vs_nil : evs G .nil e h = .ok [] h := by rw [evs]
theorem vs_cons (q : ev G a e h = .ok x h1) (k : evs G es e h1 = .ok ds h2) : evs G (.cons a es) e h = .ok (x :: ds) h2 := by rw [evs, q, bind_ok, k]; rfl
theorem v_bin {lv : Bool} {p : BOp} (q : ev G a e h = .ok x h1) (k : ev G b e h1 = .ok y h2) (z : binop lv p x y h2 = R) : ev G (.bin lv p a b) e h = R := by rw [ev, q, bind_ok, k, bind_ok, z]
theorem v_mt {m : Mt} (q : ev G a e h = .ok x h1) (r : rcv m x h1 = true) (k : evs G es e h1 = .ok ds h2) (z : mtf false m x ds h2 = R) : ev G (.mt m a es) e h = R := by rw [ev, q, bind_ok, r, if_pos rfl, k, bind_ok, z]
theorem v_int {i : Int} : ev G (.int i) e h = .ok (.int i) h := by rw [ev]
theorem v_str {i : Str} : ev G (.str i) e h = .ok (.str i) h := by rw [ev]
theorem v_non : ev G .non e h = .ok .non h := by rw [ev]
theorem v_bl : ev G (.bl t) e h = .ok (.bl t) h := by rw [ev]
theorem v_var {i : Nat} {d : D} (q : e[i]? = some d) (n : d ≠ .und) : ev G (.var i) e h = .ok d h := by
  rw [ev, q]
  cases d <;> first | exact absurd rfl n | rfl
end
mutual
theorem clsd_up {m k : Nat} (hk : m ≤ k) : ∀ (d : D), clsd m d = true → clsd k d = true
  | .und, _ => rfl
  | .non, _ => rfl
  | .bl _, _ => rfl
  | .int _, _ => rfl
  | .str _, _ => rfl
  | .lst xs, h => by simp only [clsd] at h ⊢; exact clsdL_up hk xs h
  | .tup xs, h => by simp only [clsd] at h ⊢; exact clsdL_up hk xs h
  | .ro xs, h => by simp only [clsd] at h ⊢; exact clsdL_up hk xs h
  | .dK xs, h => by simp only [clsd] at h ⊢; exact clsdK_up hk xs h
  | .dT xs, h => by simp only [clsd] at h ⊢; exact clsdT_up hk xs h
  | .cel c, h => by simp only [clsd, decide_eq_true_eq] at h ⊢; omega
  | .exc _ p, h => by simp only [clsd] at h ⊢; exact clsd_up hk p h
  | .clo _ xs, h => by simp only [clsd] at h ⊢; exact clsdL_up hk xs h
theorem clsdL_up {m k : Nat} (hk : m ≤ k) : ∀ (d : List D), clsdL m d = true → clsdL k d = true
  | [], _ => rfl
  | x :: xs, h => by
    simp only [clsdL, Bool.and_eq_true] at h ⊢
    exact ⟨clsd_up hk x h.1, clsdL_up hk xs h.2⟩
theorem clsdK_up {m k : Nat} (hk : m ≤ k) : ∀ (d : List (L2.Key × D)), clsdK m d = true → clsdK k d = true
  | [], _ => rfl
  | (_, x) :: xs, h => by
    simp only [clsdK, Bool.and_eq_true] at h ⊢
    exact ⟨clsd_up hk x h.1, clsdK_up hk xs h.2⟩
theorem clsdT_up {m k : Nat} (hk : m ≤ k) : ∀ (d : List (List L2.Key × D)), clsdT m d = true → clsdT k d = true
  | [], _ => rfl
  | (_, x) :: xs, h => by
    simp only [clsdT, Bool.and_eq_true] at h ⊢
    exact ⟨clsd_up hk x h.1, clsdT_up hk xs h.2⟩
end
theorem Ob.clsd_up {m k : Nat} (hk : m ≤ k) {ob : Ob} (h : ob.clsd m = true) : ob.clsd k = true := by
  cases ob with
  | lst xs => exact clsdL_up hk xs h
  | dK xs => exact clsdK_up hk xs h
  | dT xs => exact clsdT_up hk xs h
  | ins c fs => exact clsdL_up hk _ h
  | dead => rfl
theorem Cl.up {m k : Nat} (hk : m ≤ k) {h : Hh} (c : Cl m h) : Cl k h := fun ob hob => Ob.clsd_up hk (c ob hob)
end Mn
namespace Mn
namespace Tx
open PySem L2
local macro_rules | `(tactic| walk_at "mn") => `(tactic| simp only [exes, exe, ev, evs, evB, evI, evT, evTs, bind_ok, bind_exc, thenS_ok, thenS_exc, Res.toS, List.cons_append, List.nil_append, List.append_nil, List.length_cons, List.length_nil, List.replicate, List.getElem?_cons_zero, List.getElem?_cons_succ, List.set_cons_zero, List.set_cons_succ, List.set, Nat.zero_add, Nat.add_zero, Nat.reduceAdd, Nat.reduceSub, Nat.sub_self, fgS, wipeD, List.lookup,
  bo_add, bo_sub, bo_mul, bo_mod, bo_fdv, bo_pow, bo_cat, bo_rep, bf_int, bf_max, bf_min, bf_lenL, bf_lenR, bf_lenT, bf_isi, newF, newT, co_lt, co_le, co_gt, co_ge, co_eqI, co_neI, co_eqS, co_neS, co_is, co_isnt, ix_tup, ix_lst, ix_ro, atI_0, atI_1, atI_2, if_true, Bool.false_eq_true, if_false, decide_true, decide_false, Option.map_some, Bool.not_true, Bool.not_false, *])
variable {wh : (List D → Hh → Res D) → (List D → Hh → SRes) → List D → Hh → SRes}
abbrev gl (wh : (List D → Hh → Res D) → (List D → Hh → SRes) → List D → Hh → SRes) (n : Nat) : Glb := glb prg wh n
theorem hash_ok {n : Nat} {h : Hh} (hc : Cl h.length h) {s i : Int} (hs : 0 ≤ s ∧ s < 2147483648) (hi : 0 ≤ i ∧ i < 1099511627776) : ∃ r, (gl wh (n + 1)).call 8 [.int s, .int i] h = .ok (.int r) h ∧ 0 ≤ r ∧ r < 2147483647 := by
  have e : (gl wh (n + 1)).call 8 [.int s, .int i] h = callFn (gl wh n) f8 [.int s, .int i] h := rfl
  rw [e]
  have q1 : mulOk s 1140671 = true := mulOk_of (p := 32) (q := 22) (by omega) (by decide) (by decide) (by decide) (by decide)
  have q2 : mulOk 27644437 i = true := mulOk_of (p := 26) (q := 42) (by decide) (by omega) (by decide) (by decide) (by decide)
  have q3 : mulOk (27644437 * i) i = true := mulOk_of (p := 70) (q := 42) (by omega) (by omega) (by decide) (by decide) (by decide)
  have q4 : mulOk 131 i = true := mulOk_of (p := 8) (q := 42) (by decide) (by omega) (by decide) (by decide) (by decide)
  generalize hm : (s * 1140671 + 27644437 * i * i + 131 * i + 19) % 2147483629 = m
  have bm : 0 ≤ m ∧ m < 2147483629 := by
    constructor
    · rw [← hm]; exact Int.emod_nonneg _ (by decide)
    · rw [← hm]; exact Int.emod_lt_of_pos _ (by decide)
  have q5 : mulOk m m = true := mulOk_of (p := 32) (q := 32) (by omega) (by omega) (by decide) (by decide) (by decide)
  have q6 : mulOk 62089 i = true := mulOk_of (p := 17) (q := 42) (by decide) (by omega) (by decide) (by decide) (by decide)
  generalize hk : (m * m + 62089 * i + 32416187) % 2147483587 = k
  have bk : 0 ≤ k ∧ k < 2147483587 := by
    constructor
    · rw [← hk]; exact Int.emod_nonneg _ (by decide)
    · rw [← hk]; exact Int.emod_lt_of_pos _ (by decide)
  have q7 : mulOk k 48271 = true := mulOk_of (p := 32) (q := 17) (by omega) (by decide) (by decide) (by decide) (by decide)
  refine ⟨(k * 48271) % 2147483647, call_pure (e := [.int s, .int i, .int k]) rfl rfl ?_ rfl hc, Int.emod_nonneg _ (by decide), Int.emod_lt_of_pos _ (by decide)⟩
  show exes _ b8 [.int s, .int i, .und] _ = _
  unfold b8
  have z1 : (0 : Int) < 2147483629 := by decide
  have z2 : (0 : Int) < 2147483587 := by decide
  have z3 : (0 : Int) < 2147483647 := by decide
  clear bm bk hs hi e hc
  walk_at "mn"
/-- the generator's object -/
def gn (a b c : Int) : Ob := .lst [.int a, .int b, .int c]
def GenOk (B a b c : Int) : Prop := 0 ≤ a ∧ 0 ≤ b ∧ b < 2147483648 ∧ 0 ≤ c ∧ c ≤ B
theorem random_ok {n : Nat} {t : Hh} (ht : Cl (t.length + 1) t) {B a b c m : Int} (hB : B ≤ 1000000000) (g : GenOk B a b c) (hm : 0 < m ∧ m ≤ 1000000000000000000000000) :
    ∃ r a' c', (gl wh (n + 2)).call 9 [.cel 0, .int m] (gn a b c :: t) = .ok (.int r) (gn a' b c' :: t) ∧ 0 ≤ r ∧ r < m ∧ GenOk (B + 4) a' b c' := by
  have e : (gl wh (n + 2)).call 9 [.cel 0, .int m] (gn a b c :: t) = callFn (gl wh (n + 1)) f9 [.cel 0, .int m] (gn a b c :: t) := rfl
  rw [e]
  obtain ⟨g1, g2, g3, g4, g5⟩ := g
  have hc' : ∀ a' c', Cl (gn a b c :: t).length ((gn a' b c' :: t).take (gn a b c :: t).length) := fun a' c' => by
    rw [List.length_cons, List.take_succ_cons, List.take_length]
    intro ob hob
    rcases List.mem_cons.mp hob with rfl | hob
    · rfl
    · exact ht ob hob
  have tk : ∀ a' c', (gn a' b c' :: t).take (gn a b c :: t).length = gn a' b c' :: t := fun a' c' => by
    rw [List.length_cons, List.take_succ_cons, List.take_length]
  by_cases ha : 0 < a
  · have f1 : fdvOk m = true := by
      unfold fdvOk
      rw [Bool.and_eq_true, decide_eq_true_eq, decide_eq_true_eq]
      exact ⟨hm.1, Nat.lt_of_lt_of_le (log2_lt' (n := m.natAbs) (k := 100) (by omega) (by decide)) (by decide)⟩
    refine ⟨a % m, a / m, c, ?_, Int.emod_nonneg _ (by omega), Int.emod_lt_of_pos _ hm.1, Int.ediv_nonneg g1 (by omega), g2, g3, g4, by omega⟩
    have r := call_ret (G := gl wh (n + 1)) (F := f9) (ds := [.cel 0, .int m]) (h := gn a b c :: t) (h' := gn (a / m) b c :: t) (d := .int (a % m)) (e := [.cel 0, .int m, .int (a % m), .und]) rfl rfl ?_ rfl (by simp) (hc' _ _)
    · rw [tk] at r; exact r
    · show exes _ b9 [.cel 0, .int m, .und, .und] _ = _
      unfold b9
      have hm1 := hm.1
      clear e hc' tk
      have i0 : ∀ {t : Hh}, idxop (.cel 0) (.int 0) (gn a b c :: t) = some (.int a) := rfl
      have p0 : ∀ {t : Hh}, putI (gn a b c :: t) (.cel 0) (.int 0) (.int (a / m)) = some (gn (a / m) b c :: t) := rfl
      have dt : decide (0 < a) = true := by simpa using ha
      refine xs_ret (x_t (h1 := gn a b c :: t) (by walk_at "mn") ?_)
      refine xs_nx (x_nm (v := .int (a % m)) (h1 := gn a b c :: t) (by walk_at "mn")) ?_
      refine xs_nx (x_asg (e2 := [.cel 0, .int m, .int (a % m), .und]) (v := .int (a / m)) (h1 := gn a b c :: t) (h2 := gn (a / m) b c :: t) (by walk_at "mn") (by walk_at "mn")) ?_
      exact xs_ret (x_rt (by walk_at "mn"))
  · have hK : 0 ≤ (1 + ((Builtin.Int.intBits m : Nat) : Int) / 30) ∧ (1 + ((Builtin.Int.intBits m : Nat) : Int) / 30) ≤ 4 := by
      have : Builtin.Int.intBits m ≤ 80 := by
        unfold Builtin.Int.intBits
        split
        · omega
        · have := log2_lt' (n := m.natAbs) (k := 80) (by omega) (by decide)
          omega
      omega
    generalize hk : (1 + ((Builtin.Int.intBits m : Nat) : Int) / 30) = K at hK
    -- the loop
    have loop : ∀ (body : D → List D → Hh → SRes), (∀ (i : Nat) (dr c1 : Int), i < K.toNat → 0 ≤ dr → dr.natAbs < 2 ^ (33 * (i + 1)) → 0 ≤ c1 → c1 ≤ B + i → ∃ r, 0 ≤ r ∧ r < 2147483647 ∧ body (.int (0 + (i : Nat))) [.cel 0, .int m, .int dr, .und] (gn a b c1 :: t) = .ok .nx [.cel 0, .int m, .int (dr * 2147483587 + r), .und] (gn a b (c1 + 1) :: t)) →
        ∃ e' h', loopS (.rng 0 K.toNat) body K.toNat 0 [.cel 0, .int m, .int 0, .und] (gn a b c :: t) = .ok .nx e' h' ∧ ∃ dr c1 : Int, e' = [.cel 0, .int m, .int dr, .und] ∧ h' = gn a b c1 :: t ∧ 0 ≤ dr ∧ 0 ≤ c1 ∧ c1 ≤ B + K.toNat := by
      intro body hb
      obtain ⟨e', h', q, I⟩ := loopS_rng (lo := 0) (N := K.toNat) (body := body) (fun i e h => ∃ dr c1 : Int, e = [.cel 0, .int m, .int dr, .und] ∧ h = gn a b c1 :: t ∧ 0 ≤ dr ∧ dr.natAbs < 2 ^ (33 * (i + 1)) ∧ 0 ≤ c1 ∧ c1 ≤ B + i) (by
        rintro i e h hi ⟨dr, c1, rfl, rfl, d1, d2, c2, c3⟩
        obtain ⟨r, r1, r2, q⟩ := hb i dr c1 hi d1 d2 c2 c3
        refine ⟨_, _, q, dr * 2147483587 + r, c1 + 1, rfl, rfl, ?_, ?_, by omega, by omega⟩
        · have : 0 ≤ dr * 2147483587 := Int.mul_nonneg d1 (by decide)
          omega
        · have e33 : 2 ^ (33 * (i + 1 + 1)) = 2 ^ (33 * (i + 1)) * 8589934592 := by rw [show 33 * (i + 1 + 1) = 33 * (i + 1) + 33 by omega, Nat.pow_add]
          rw [e33]
          have p1 : 0 < 2 ^ (33 * (i + 1)) := Nat.pow_pos (by decide)
          omega) K.toNat 0 _ _ (by omega) ⟨0, c, rfl, rfl, by decide, by simp, g4, by omega⟩
      obtain ⟨dr, c1, rfl, rfl, d1, _, c2, c3⟩ := I
      exact ⟨_, _, q, dr, c1, rfl, rfl, d1, c2, c3⟩
    have hb := loop (lpB (gl wh (n + 1)) (.nm 3) [3] (.cons (.asg (.sub (.var 0) (.int 2)) (.bin false .add (.idx (.var 0) (.int 2)) (.int 1))) (.cons (.asg (.nm 2) (.bin false .add (.bin false .mul (.var 2) (.int 2147483587)) (.call 8 (.cons (.idx (.var 0) (.int 1)) (.cons (.idx (.var 0) (.int 2)) .nil))))) .nil))) (by
      intro i dr c1 hi d1 d2 c2 c3
      have hcl : Cl (gn a b (c1 + 1) :: t).length (gn a b (c1 + 1) :: t) := by
        have := hc' a (c1 + 1)
        rw [tk] at this
        simpa using this
      obtain ⟨r, hr, r1, r2⟩ := hash_ok (wh := wh) (n := n) (h := gn a b (c1 + 1) :: t) hcl (s := b) (i := c1 + 1) ⟨g2, g3⟩ ⟨by omega, by omega⟩
      refine ⟨r, r1, r2, ?_⟩
      have e2 : exes (gl wh (n + 1)) (.cons (.asg (.sub (.var 0) (.int 2)) (.bin false .add (.idx (.var 0) (.int 2)) (.int 1))) (.cons (.asg (.nm 2) (.bin false .add (.bin false .mul (.var 2) (.int 2147483587)) (.call 8 (.cons (.idx (.var 0) (.int 1)) (.cons (.idx (.var 0) (.int 2)) .nil))))) .nil)) [.cel 0, .int m, .int dr, .int (0 + (i : Nat))] (gn a b c1 :: t) = .ok .nx [.cel 0, .int m, .int (dr * 2147483587 + r), .int (0 + (i : Nat))] (gn a b (c1 + 1) :: t) := by
        have q1 : mulOk dr 2147483587 = true := mulOk_of (p := 33 * (i + 1)) (q := 32) d2 (by decide) (by omega) (by decide) (by omega)
        have i2 : ∀ {c : Int} {t : Hh}, idxop (.cel 0) (.int 2) (gn a b c :: t) = some (.int c) := rfl
        have i1 : ∀ {c : Int} {t : Hh}, idxop (.cel 0) (.int 1) (gn a b c :: t) = some (.int b) := rfl
        have p0 : ∀ {t : Hh}, putI (gn a b c1 :: t) (.cel 0) (.int 2) (.int (c1 + 1)) = some (gn a b (c1 + 1) :: t) := rfl
        refine xs_nx (x_asg (e2 := [.cel 0, .int m, .int dr, .int (0 + (i : Nat))]) (v := .int (c1 + 1)) (h1 := gn a b c1 :: t) (h2 := gn a b (c1 + 1) :: t) ?_ ?_) (xs_nx (x_nm (v := .int (dr * 2147483587 + r)) (h1 := gn a b (c1 + 1) :: t) ?_) xs_nil)
        · simp only [ev, evs, bind_ok, List.getElem?_cons_zero, i2, bo_add]
        · simp only [evT, ev, bind_ok, List.getElem?_cons_zero, p0]
        · simp only [ev, evs, bind_ok, List.getElem?_cons_zero, List.getElem?_cons_succ, i2, i1, bo_mul, q1, if_true, hr, bo_add]
      exact lp_ok (fg := [3]) (e1 := [.cel 0, .int m, .int dr, .int (0 + (i : Nat))]) (h1 := gn a b c1 :: t) (by simp only [evT, List.set_cons_succ, List.set_cons_zero]) e2)
    obtain ⟨e', h', q, dr, c1, rfl, rfl, d1, c2, c3⟩ := hb
    refine ⟨dr % m, a, c1, ?_, Int.emod_nonneg _ (by omega), Int.emod_lt_of_pos _ hm.1, g1, g2, g3, c2, by omega⟩
    have r := call_ret (G := gl wh (n + 1)) (F := f9) (ds := [.cel 0, .int m]) (h := gn a b c :: t) (h' := gn a b c1 :: t) (d := .int (dr % m)) (e := [.cel 0, .int m, .int dr, .und]) rfl rfl ?_ rfl (by simp) (hc' _ _)
    · rw [tk] at r; exact r
    · show exes _ b9 [.cel 0, .int m, .und, .und] _ = _
      unfold b9
      have hm1 := hm.1
      have i0 : ∀ {t : Hh}, idxop (.cel 0) (.int 0) (gn a b c :: t) = some (.int a) := rfl
      refine xs_nx (x_f (h1 := gn a b c :: t) ?_ xs_nil) (xs_nx (x_nm (v := .int 0) (h1 := gn a b c :: t) (by simp only [ev])) (xs_nx (x_fr (src := .rng 0 K.toNat) (h1 := gn a b c :: t) ?_ q) (xs_ret (x_rt ?_))))
      · simp only [ev, bind_ok, List.getElem?_cons_zero, i0, co_gt, ha, decide_false]
      · refine rng1_ok ?_ (by omega)
        rw [← hk]
        simp only [ev, evs, bind_ok, List.set_cons_succ, List.set_cons_zero, List.getElem?_cons_zero, List.getElem?_cons_succ, rc_bit, mt_bit, if_true, bo_fdv, f30, bo_add]
      · simp only [ev, evs, bind_ok, List.getElem?_cons_zero, List.getElem?_cons_succ, bf_int, bo_mod, hm1, if_true]
end Tx
end Mn
namespace Mn
namespace Tx
open PySem L2
variable {wh : (List D → Hh → Res D) → (List D → Hh → SRes) → List D → Hh → SRes}
theorem cell_ok {n : Nat} {h : Hh} (hc : Cl h.length h) (ns : List Int) : ∃ s, (gl wh (n + 1)).call 10 [.ro (ns.map D.int), .int 0] h = .ok (.int s) h := by
  cases ns with
  | nil =>
    refine ⟨0, ?_⟩
    have e : (gl wh (n + 1)).call 10 [.ro (([] : List Int).map D.int), .int 0] h = callFn (gl wh n) f10 [.ro [], .int 0] h := rfl
    rw [e]
    refine call_pure (e := [.ro [], .int 0]) rfl rfl ?_ rfl hc
    show exes _ b10 [.ro [], .int 0] _ = _
    unfold b10
    refine xs_nx (x_f (h1 := h) ?_ xs_nil) (xs_ret (x_rt ?_))
    · simp only [ev, evs, bind_ok, List.getElem?_cons_zero, List.getElem?_cons_succ, bf_lenR, List.length_nil, co_lt]; rfl
    · simp only [ev, evs, bind_ok, List.getElem?_cons_zero, List.getElem?_cons_succ]; rfl
  | cons s r =>
    refine ⟨s, ?_⟩
    have e : (gl wh (n + 1)).call 10 [.ro ((s :: r).map D.int), .int 0] h = callFn (gl wh n) f10 [.ro (.int s :: r.map D.int), .int 0] h := rfl
    rw [e]
    refine call_pure (e := [.ro (.int s :: r.map D.int), .int 0]) rfl rfl ?_ rfl hc
    show exes _ b10 [.ro (.int s :: r.map D.int), .int 0] _ = _
    unfold b10
    refine xs_ret (x_t (h1 := h) ?_ (xs_ret (x_rt ?_)))
    · simp only [ev, evs, bind_ok, List.getElem?_cons_zero, List.getElem?_cons_succ, bf_lenR, List.length_cons, List.length_map, co_lt]
      congr 2
      rw [decide_eq_true_eq]
      omega
    · simp only [ev, evs, bind_ok, List.getElem?_cons_zero, List.getElem?_cons_succ, ix_ro, atI_0]
theorem generator_ok {n : Nat} (ns : List Int) : ∃ a b, (gl wh (n + 2)).call 11 [.ro (ns.map D.int), .int 0] [] = .ok (.cel 0) [gn a b 0] ∧ GenOk 0 a b 0 := by
  obtain ⟨s, hs⟩ := cell_ok (wh := wh) (n := n) (h := []) (fun _ z => by simp at z) ns
  have p1 : powOk 10 18 = true := by decide +kernel
  have p2 : powOk 10 60 = true := by decide +kernel
  have p3 : powOk ((10 : Int) ^ (60 : Int).toNat) 10 = true := by decide +kernel
  have z1 : (0 : Int) < ((10 : Int) ^ (60 : Int).toNat) ^ (10 : Int).toNat := by decide +kernel
  generalize ha : (if (0 : Int) > s - (10 : Int) ^ (18 : Int).toNat then (0 : Int) else s - (10 : Int) ^ (18 : Int).toNat) % ((10 : Int) ^ (60 : Int).toNat) ^ (10 : Int).toNat = a
  have a0 : 0 ≤ a := by rw [← ha]; exact Int.emod_nonneg _ (by intro z; rw [z] at z1; exact absurd z1 (by decide))
  refine ⟨a, s % 2147483647, ?_, a0, Int.emod_nonneg _ (by decide), by have := Int.emod_lt_of_pos s (show (0 : Int) < 2147483647 by decide); omega, by decide, by decide⟩
  have e : (gl wh (n + 2)).call 11 [.ro (ns.map D.int), .int 0] [] = callFn (gl wh (n + 1)) f11 [.ro (ns.map D.int), .int 0] [] := rfl
  rw [e]
  have body : exes (gl wh (n + 1)) f11.body ([.ro (ns.map D.int), .int 0] ++ List.replicate (f11.nl - f11.np) .und) [] = .ok (.ret (.cel 0)) [.ro (ns.map D.int), .int 0, .int s] [gn a (s % 2147483647) 0] := by
    show exes _ b11 [.ro (ns.map D.int), .int 0, .und] _ = _
    unfold b11
    refine xs_nx (x_nm (v := .int s) (h1 := []) (v_call (ds := [.ro (ns.map D.int), .int 0]) (by simp only [evs, ev, bind_ok, List.getElem?_cons_zero, List.getElem?_cons_succ]) hs)) (xs_ret (x_rt ?_))
    have z3 : (0 : Int) < 2147483647 := by decide
    have m0 : mulOk 1000 0 = true := by decide +kernel
    simp only [ev, evs, bind_ok, List.set_cons_succ, List.set_cons_zero, List.getElem?_cons_zero, List.getElem?_cons_succ, bo_sub, bo_pow, p1, p2, p3, if_true, bf_max, bf_int, bo_mod, z1, z3, bo_mul, m0, ha, newT, List.length_cons, List.length_nil]
    rfl
  exact call_keep rfl rfl body
theorem pick_ok {n : Nat} {B a b c : Int} (hB : B ≤ 1000000000) (g : GenOk B a b c) : ∃ r a' c', (gl wh (n + 3)).call 12 [.cel 0, .lst [.int 1, .int 3, .int 100000000000000000000]] [gn a b c] = .ok (.int r) [gn a' b c'] ∧ 0 ≤ r ∧ r ≤ 100000000000000000000 ∧ GenOk (B + 4) a' b c' := by
  obtain ⟨r, a', c', q, r0, r1, g'⟩ := random_ok (wh := wh) (n := n) (t := []) (fun _ z => by simp at z) hB g (m := 3) (by decide)
  obtain ⟨v, hv, v0, v1⟩ : ∃ v, L2.atI [D.int 1, .int 3, .int 100000000000000000000] r = some (.int v) ∧ 0 ≤ v ∧ v ≤ 100000000000000000000 := by
    rcases (show r = 0 ∨ r = 1 ∨ r = 2 by omega) with rfl | rfl | rfl
    · exact ⟨1, rfl, by decide, by decide⟩
    · exact ⟨3, rfl, by decide, by decide⟩
    · exact ⟨100000000000000000000, rfl, by decide, by decide⟩
  refine ⟨v, a', c', ?_, v0, v1, g'⟩
  have e : (gl wh (n + 3)).call 12 [.cel 0, .lst [.int 1, .int 3, .int 100000000000000000000]] [gn a b c] = callFn (gl wh (n + 2)) f12 [.cel 0, .lst [.int 1, .int 3, .int 100000000000000000000]] [gn a b c] := rfl
  rw [e]
  refine call_ret (h' := [gn a' b c']) (e := [.cel 0, .lst [.int 1, .int 3, .int 100000000000000000000]]) rfl rfl ?_ rfl (by simp) (fun ob hob => by simp at hob; subst hob; rfl)
  show exes _ b12 [.cel 0, .lst [.int 1, .int 3, .int 100000000000000000000]] _ = _
  unfold b12
  refine xs_ret (x_rt ?_)
  rw [ev, v_var (d := .lst [.int 1, .int 3, .int 100000000000000000000]) rfl (fun z => by cases z), bind_ok, v_call (ds := [.cel 0, .int 3]) (h1 := [gn a b c]) (R := .ok (.int r) [gn a' b c']) ?_ q, bind_ok]
  · simp only [ix_lst, hv]
  · simp only [evs, ev, bind_ok, List.getElem?_cons_zero, List.getElem?_cons_succ, bf_lenL, List.length_cons, List.length_nil]
    rfl
/-- an entry of a log of so many signs -/
structure EntOk (size : Int) (x : Int × Int × Int) : Prop where
  a : 0 ≤ x.1 ∧ x.1 < size
  b : 0 ≤ x.2.1 ∧ x.2.1 < size
  ne : x.1 ≠ x.2.1
  c : 0 ≤ x.2.2 ∧ x.2.2 ≤ 100000000000000000000
def entD (x : Int × Int × Int) : D := .tup [.int x.1, .int x.2.1, .int x.2.2]
def logD (xs : List (Int × Int × Int)) : D := .lst (xs.map entD)
theorem logD_c (k : Nat) (xs : List (Int × Int × Int)) : clsdL k (xs.map entD) = true := by
  induction xs with
  | nil => rfl
  | cons x xs ih => rw [List.map_cons, clsdL, ih]; rfl
theorem lstOb_c {k : Nat} (xs : List (Int × Int × Int)) : (Ob.lst (xs.map entD)).clsd k = true := logD_c k xs
theorem cl_gl {k : Nat} {a b c : Int} {t : Hh} (ht : Cl k t) : Cl k (gn a b c :: t) := by
  intro ob hob
  rcases List.mem_cons.mp hob with rfl | hob
  · rfl
  · exact ht ob hob
theorem log_ok {n : Nat} {B a b c size many most : Int} {t : Hh} (ht : ∀ k, Cl k t) (g : GenOk B a b c) (hB : B ≤ 900000000) (hs : 1 ≤ size ∧ size ≤ 8) (hm : 0 ≤ many ∧ many ≤ 15) (ho : 0 ≤ most ∧ most ≤ 100000000000000000000) :
    ∃ xs a' c', (gl wh (n + 3)).call 19 [.cel 0, .int size, .int many, .int most] (gn a b c :: t) = .ok (logD xs) (gn a' b c' :: t) ∧ (∀ x ∈ xs, EntOk size x) ∧ xs.length ≤ 15 ∧ GenOk (B + 1000) a' b c' := by
  have e : (gl wh (n + 3)).call 19 [.cel 0, .int size, .int many, .int most] (gn a b c :: t) = callFn (gl wh (n + 2)) f19 [.cel 0, .int size, .int many, .int most] (gn a b c :: t) := rfl
  rw [e]
  generalize hK : (if 1 < size then many else 0) = K
  have kb : 0 ≤ K ∧ K ≤ 15 ∧ (0 < K → 1 < size) := by
    rw [← hK]
    split <;> omega
  have loop := loopS_rng (lo := 0) (N := K.toNat) (body := lpB (gl wh (n + 2)) (.nm 5) [5, 6, 7] (.cons (.asg (.nm 6) (.call 9 (.cons (.var 0) (.cons (.var 1) .nil)))) (.cons (.asg (.nm 7) (.bin false .mod (.bi false .int (.cons (.bin false .add (.bin false .add (.var 6) (.int 1)) (.call 9 (.cons (.var 0) (.cons (.bin false .sub (.var 1) (.int 1)) .nil)))) .nil)) (.var 1))) (.cons (.ex (.mt .append (.var 4) (.cons (.tup (.cons (.var 6) (.cons (.var 7) (.cons (.call 9 (.cons (.var 0) (.cons (.bin false .add (.var 3) (.int 1)) .nil))) .nil)))) .nil))) .nil))))
    (fun i e h => ∃ (xs : List (Int × Int × Int)) (a' c' : Int), e = [.cel 0, .int size, .int many, .int most, .cel (t.length + 1), .und, .und, .und] ∧ h = (gn a' b c' :: (t ++ [Ob.lst (xs.map entD)])) ∧ (∀ x ∈ xs, EntOk size x) ∧ xs.length = i ∧ GenOk (B + 12 * i) a' b c') (by
    rintro i e h hi ⟨xs, a1, c1, rfl, rfl, hx, hl, g1⟩
    have hs1 : 1 < size := kb.2.2 (by omega)
    have ct : Cl ((t ++ [Ob.lst (xs.map entD)]).length + 1) (t ++ [Ob.lst (xs.map entD)]) := fun ob hob => by
      rcases List.mem_append.mp hob with hob | hob
      · exact ht _ ob hob
      · simp at hob; subst hob; exact lstOb_c xs
    obtain ⟨r1, a2, c2, q1, x1, y1, g2⟩ := random_ok (wh := wh) (n := n) (t := t ++ [Ob.lst (xs.map entD)]) ct (by omega) g1 (m := size) ⟨by omega, by omega⟩
    obtain ⟨r2, a3, c3, q2, x2, y2, g3⟩ := random_ok (wh := wh) (n := n) (t := t ++ [Ob.lst (xs.map entD)]) ct (by omega) g2 (m := size - 1) ⟨by omega, by omega⟩
    obtain ⟨r3, a4, c4, q3, x3, y3, g4⟩ := random_ok (wh := wh) (n := n) (t := t ++ [Ob.lst (xs.map entD)]) ct (by omega) g3 (m := most + 1) ⟨by omega, by omega⟩
    generalize htt : (r1 + 1 + r2) % size = tt
    have t0 : 0 ≤ tt ∧ tt < size := by
      rw [← htt]
      exact ⟨Int.emod_nonneg _ (by omega), Int.emod_lt_of_pos _ (by omega)⟩
    have tne : r1 ≠ tt := by
      rw [← htt]
      by_cases hlt : r1 + 1 + r2 < size
      · rw [Int.emod_eq_of_lt (by omega) hlt]; omega
      · have : (r1 + 1 + r2) % size = r1 + 1 + r2 - size := by
          rw [← Int.sub_emod_right, Int.emod_eq_of_lt (by omega) (by omega)]
        omega
    refine ⟨_, gn a4 b c4 :: (t ++ [Ob.lst ((xs ++ [(r1, tt, r3)]).map entD)]), lp_ok (e1 := [.cel 0, .int size, .int many, .int most, .cel (t.length + 1), .int (0 + (i : Nat)), .und, .und]) (h1 := (gn a1 b c1 :: (t ++ [Ob.lst (xs.map entD)]))) (e2 := [.cel 0, .int size, .int many, .int most, .cel (t.length + 1), .int (0 + (i : Nat)), .int r1, .int tt]) (by simp only [evT, List.set_cons_succ, List.set_cons_zero]) ?_, xs ++ [(r1, tt, r3)], a4, c4, rfl, rfl, ?_, by rw [List.length_append, hl]; rfl, ⟨g4.1, g4.2.1, g4.2.2.1, g4.2.2.2.1, by have := g4.2.2.2.2; omega⟩⟩
    · refine xs_nx (x_nm (v := .int r1) (h1 := (gn a2 b c2 :: (t ++ [Ob.lst (xs.map entD)]))) (v_call (ds := [.cel 0, .int size]) (h1 := (gn a1 b c1 :: (t ++ [Ob.lst (xs.map entD)]))) (by simp only [evs, ev, bind_ok, List.getElem?_cons_zero, List.getElem?_cons_succ]) q1)) ?_
      refine xs_nx (x_nm (v := .int tt) (h1 := (gn a3 b c3 :: (t ++ [Ob.lst (xs.map entD)]))) ?_) ?_
      · have z : (0 : Int) < size := by omega
        simp only [ev, evs, bind_ok, List.set_cons_succ, List.set_cons_zero, List.getElem?_cons_zero, List.getElem?_cons_succ, bo_sub, bo_add, q2, bf_int, bo_mod, z, if_true, htt]
      · refine xs_nx (x_ex (v := .non) ?_) xs_nil
        have ap : ∀ d, mtf false .append (.cel (t.length + 1)) [d] (gn a4 b c4 :: (t ++ [Ob.lst (xs.map entD)])) = .ok .non (gn a4 b c4 :: (t ++ [Ob.lst (xs.map entD ++ [d])])) := fun d => by
          have hz : (xs.map entD).length < sizeL := by rw [List.length_map, hl]; unfold sizeL; omega
          have gx : (gn a4 b c4 :: (t ++ [Ob.lst (xs.map entD)]))[t.length + 1]? = some (.lst (xs.map entD)) := by simp
          have sx : (gn a4 b c4 :: (t ++ [Ob.lst (xs.map entD)])).set (t.length + 1) (.lst (xs.map entD ++ [d])) = gn a4 b c4 :: (t ++ [Ob.lst (xs.map entD ++ [d])]) := by simp
          simp only [mtf, gx, hz, if_true, sx]
        have rc : ∀ {a c : Int}, rcv .append (.cel (t.length + 1)) (gn a b c :: (t ++ [Ob.lst (xs.map entD)])) = true := by
          simp [rcv, lsOf]
        have three : (3 : Nat) ≤ sizeL := by decide
        simp only [ev, evs, bind_ok, List.set_cons_succ, List.set_cons_zero, List.getElem?_cons_zero, List.getElem?_cons_succ, bo_add, q3, List.length_cons, List.length_nil, Nat.zero_add, Nat.reduceAdd, three, if_true, rc, ap, List.map_append, List.map_cons, List.map_nil, entD]
    · intro x hxx
      rcases List.mem_append.mp hxx with hxx | hxx
      · exact hx x hxx
      · have : x = (r1, tt, r3) := by simpa using hxx
        subst this
        exact ⟨⟨x1, y1⟩, t0, tne, ⟨x3, by show r3 ≤ _; omega⟩⟩) K.toNat 0 [.cel 0, .int size, .int many, .int most, .cel (t.length + 1), .und, .und, .und] (gn a b c :: (t ++ [Ob.lst []])) (by omega) ⟨[], a, c, rfl, rfl, by simp, rfl, ⟨g.1, g.2.1, g.2.2.1, g.2.2.2.1, by have := g.2.2.2.2; omega⟩⟩
  obtain ⟨e', h', q, xs, a', c', rfl, rfl, hx, hl, g'⟩ := loop
  refine ⟨xs, a', c', ?_, hx, by omega, ⟨g'.1, g'.2.1, g'.2.2.1, g'.2.2.2.1, by have := g'.2.2.2.2; omega⟩⟩
  have th : thaw (gn a' b c' :: (t ++ [Ob.lst (xs.map entD)])) (t.length + 1) 4 (.cel (t.length + 1)) = logD xs := by
    have hx : (gn a' b c' :: (t ++ [Ob.lst (xs.map entD)]))[t.length + 1]? = some (.lst (xs.map entD)) := by simp
    have : ∀ x ∈ xs.map entD, thaw (gn a' b c' :: (t ++ [Ob.lst (xs.map entD)])) (t.length + 1) 3 x = x := fun x hxx => by
      obtain ⟨y, _, rfl⟩ := List.mem_map.mp hxx
      exact thaw_c rfl
    simp only [thaw, Nat.lt_irrefl, if_false, hx]
    rw [List.map_congr_left this, List.map_id']
    rfl
  have r := call_thaw (G := gl wh (n + 2)) (F := f19) (ds := [.cel 0, .int size, .int many, .int most]) (h := gn a b c :: t) (h' := (gn a' b c' :: (t ++ [Ob.lst (xs.map entD)]))) (d := .cel (t.length + 1)) (d' := logD xs) (e := [.cel 0, .int size, .int many, .int most, .cel (t.length + 1), .und, .und, .und]) rfl rfl ?_ th (logD_c _ xs) (by simp) (by
    have : (gn a' b c' :: (t ++ [Ob.lst (xs.map entD)])).take (gn a b c :: t).length = gn a' b c' :: t := by simp
    rw [this]
    exact cl_gl (ht _))
  · have : (gn a' b c' :: (t ++ [Ob.lst (xs.map entD)])).take (gn a b c :: t).length = gn a' b c' :: t := by simp
    rw [this] at r
    exact r
  · show exes _ b19 [.cel 0, .int size, .int many, .int most, .und, .und, .und, .und] _ = _
    unfold b19
    refine xs_nx (x_nm (v := .cel (t.length + 1)) (h1 := (gn a b c :: (t ++ [Ob.lst []]))) ?_) (xs_nx (x_fr (src := .rng 0 K.toNat) (h1 := (gn a b c :: (t ++ [Ob.lst []]))) ?_ q) (xs_ret (x_rt ?_)))
    · simp only [ev, evs, bind_ok, newT, List.length_nil]; rfl
    · refine rng1_ok ?_ (by omega)
      rw [← hK]
      by_cases h1 : 1 < size
      · have d1 : decide (1 < size) = true := by simpa using h1
        simp only [ev, bind_ok, List.set_cons_succ, List.set_cons_zero, List.getElem?_cons_zero, List.getElem?_cons_succ, co_gt, d1, if_pos h1]
      · have d1 : decide (1 < size) = false := by simpa using h1
        simp only [ev, bind_ok, List.set_cons_succ, List.set_cons_zero, List.getElem?_cons_zero, List.getElem?_cons_succ, co_gt, d1, if_neg h1]
    · simp only [ev, List.getElem?_cons_zero, List.getElem?_cons_succ]
end Tx
end Mn
namespace Mn
namespace Tx
open PySem L2
variable {wh : (List D → Hh → Res D) → (List D → Hh → SRes) → List D → Hh → SRes}
def rowD (s : Nat) (f : Nat → Nat → Int) (i : Nat) : List D := (List.range s).map fun j => .int (f i j)
def rowO (s : Nat) (f : Nat → Nat → Int) (i : Nat) : Ob := .lst (rowD s f i)
def tblO (s : Nat) : Ob := .lst ((List.range s).map fun i => .cel (i + 1))
def tT (s : Nat) (f : Nat → Nat → Int) : Hh := (List.range s).map (rowO s f) ++ [tblO s]
def tabD (s : Nat) (f : Nat → Nat → Int) : D := .lst ((List.range s).map fun i => .lst (rowD s f i))
def up2 (f : Nat → Nat → Int) (o t : Nat) (v : Int) : Nat → Nat → Int := fun i j => if i = o ∧ j = t then v else f i j
structure Anti (s : Nat) (f : Nat → Nat → Int) : Prop where
  anti : ∀ i j, i < s → j < s → f i j = - f j i
  small : ∀ i j, i < s → j < s → -1000 ≤ f i j ∧ f i j ≤ 1000
theorem rowD_c (k s : Nat) (f : Nat → Nat → Int) (i : Nat) : clsdL k (rowD s f i) = true := by
  unfold rowD
  generalize List.range s = l
  induction l with
  | nil => rfl
  | cons x l ih => rw [List.map_cons, clsdL, ih]; rfl
theorem clsdL_cels : ∀ (k m : Nat) (l : List Nat), (∀ i ∈ l, i + 1 < k) → clsdL k (l.map fun i => D.cel (i + 1)) = true
  | _, _, [], _ => rfl
  | k, m, x :: l, h => by
    rw [List.map_cons, clsdL, clsdL_cels k m l fun i hi => h i (List.mem_cons_of_mem _ hi)]
    simp only [clsd, Bool.and_true, decide_eq_true_eq]
    exact h x List.mem_cons_self
theorem tT_cl (s : Nat) (f : Nat → Nat → Int) : Cl ((tT s f).length + 1) (tT s f) := by
  intro ob hob
  unfold tT at hob
  rcases List.mem_append.mp hob with h | h
  · obtain ⟨i, _, rfl⟩ := List.mem_map.mp h
    exact rowD_c _ s f i
  · have : ob = tblO s := by simpa using h
    subst this
    refine clsdL_cels _ 0 _ fun i hi => ?_
    have : i < s := by simpa using hi
    simp [tT]
    omega
theorem tT_row {s : Nat} {f : Nat → Nat → Int} {i : Nat} (hi : i < s) : (tT s f)[i]? = some (rowO s f i) := by
  unfold tT
  rw [List.getElem?_append_left (by simpa using hi), List.getElem?_map, List.getElem?_range hi]
  rfl
theorem tT_tbl {s : Nat} {f : Nat → Nat → Int} : (tT s f)[s]? = some (tblO s) := by
  unfold tT
  rw [List.getElem?_append_right (by simp)]
  simp
theorem up_row {s : Nat} {f : Nat → Nat → Int} {o t : Nat} {v : Int} (ht : t < s) : (rowD s f o).set t (.int v) = rowD s (up2 f o t v) o := by
  apply List.ext_getElem?
  intro j
  unfold rowD
  by_cases hj : j < s
  · by_cases h : t = j
    · subst h
      rw [List.getElem?_set_self (by simpa using ht), List.getElem?_map, List.getElem?_range ht]
      simp [up2]
    · rw [List.getElem?_set_ne h, List.getElem?_map, List.getElem?_map, List.getElem?_range hj]
      simp only [Option.map_some, up2]
      rw [if_neg (fun z => h z.2.symm)]
  · rw [List.getElem?_eq_none (by simp; omega), List.getElem?_eq_none (by simp; omega)]
theorem tT_set {s : Nat} {f : Nat → Nat → Int} {o t : Nat} {v : Int} (ho : o < s) (ht : t < s) : (tT s f).set o (.lst ((rowD s f o).set t (.int v))) = tT s (up2 f o t v) := by
  unfold tT
  rw [List.set_append_left _ _ (by simpa using ho), up_row ht]
  congr 1
  apply List.ext_getElem?
  intro i
  by_cases hi : i < s
  · by_cases h : o = i
    · subst h
      rw [List.getElem?_set_self (by simpa using hi), List.getElem?_map, List.getElem?_range hi]
      rfl
    · rw [List.getElem?_set_ne h, List.getElem?_map, List.getElem?_map, List.getElem?_range hi]
      simp only [Option.map_some, rowO, rowD]
      congr 2
      apply List.map_congr_left
      intro j _
      simp only [up2]
      rw [if_neg (fun z => h z.1.symm)]
  · rw [List.getElem?_eq_none (by simp; omega), List.getElem?_eq_none (by simp; omega)]
theorem put_tT {s : Nat} {f : Nat → Nat → Int} {a b c : Int} {o t : Nat} {v : Int} (ho : o < s) (ht : t < s) : putI (gn a b c :: tT s f) (.cel (o + 1)) (.int (t : Int)) (.int v) = some (gn a b c :: tT s (up2 f o t v)) := by
  have hx : (gn a b c :: tT s f)[o + 1]? = some (.lst (rowD s f o)) := by rw [List.getElem?_cons_succ]; exact tT_row ho
  have hl : (rowD s f o).length = s := by simp [rowD]
  simp only [putI, hx, hl]
  rw [ixN_of (by omega) (by omega)]
  simp only [Int.toNat_natCast, List.set_cons_succ]
  rw [tT_set ho ht]
theorem ix_tT {s : Nat} {f : Nat → Nat → Int} {a b c : Int} {o : Nat} (ho : o < s) : idxop (.cel (s + 1)) (.int (o : Int)) (gn a b c :: tT s f) = some (.cel (o + 1)) := by
  have hx : (gn a b c :: tT s f)[s + 1]? = some (.lst ((List.range s).map fun i => .cel (i + 1))) := by rw [List.getElem?_cons_succ]; exact tT_tbl
  rw [ix_cel hx, atI_of (by omega) (by simp; omega)]
  simp [List.getElem?_range ho]
theorem zero_row (s i : Nat) : (List.replicate s [D.int 0]).flatten = rowD s (fun _ _ => 0) i := by
  unfold rowD
  apply List.ext_getElem?
  intro j
  have e : (List.replicate s [D.int 0]).flatten = List.replicate s (D.int 0) := by
    induction s with
    | zero => rfl
    | succ s ih => rw [List.replicate_succ, List.flatten_cons, ih]; rfl
  rw [e]
  by_cases hj : j < s
  · rw [List.getElem?_replicate, if_pos hj, List.getElem?_map, List.getElem?_range hj]; rfl
  · rw [List.getElem?_eq_none (by simp; omega), List.getElem?_eq_none (by simp; omega)]
theorem rows_new {n : Nat} {a b c w : Int} {s : Nat} (hs : 1 ≤ s ∧ s ≤ 8) : ev (gl wh n) (.lc true (.rng1 (.var 1)) (.nm 7) .nil (.bin true .mul (.lst false (.cons (.int 0) .nil)) (.var 1))) [.cel 0, .int s, .und, .und, .und, .und, .und, .und] [gn a b c] = .ok (.cel (s + 1)) (gn a b c :: tT s fun _ _ => 0) := by
  have sz : ∀ k : Nat, k ≤ 100 → k ≤ sizeL := fun k hk => by unfold sizeL; omega
  obtain ⟨acc, h', q, rfl, rfl⟩ := loopL_rng (lo := 0) (N := s) (st := lcB (gl wh n) (.nm 7) .nil (.bin true .mul (.lst false (.cons (.int 0) .nil)) (.var 1)) [.cel 0, .int s, .und, .und, .und, .und, .und, .und])
    (fun i acc h => acc = (List.range i).map (fun k => D.cel (k + 1)) ∧ h = gn a b c :: (List.range i).map (rowO s fun _ _ => 0)) (sz s (by omega)) (by
    rintro i acc h hi ⟨rfl, rfl⟩
    refine ⟨.cel (i + 1), gn a b c :: (List.range (i + 1)).map (rowO s fun _ _ => 0), lc_one ?_, by rw [List.range_succ, List.map_append]; rfl, rfl⟩
    have one : (1 : Nat) ≤ sizeL := by decide
    have cnd : (1 : Nat) * ((s : Int)).toNat ≤ sizeL ∧ -(2 ^ 63 : Int) ≤ (s : Int) ∧ (s : Int) < 2 ^ 63 := by
      refine ⟨?_, ?_, ?_⟩
      · rw [Int.toNat_natCast, Nat.one_mul]; exact sz s (by omega)
      · omega
      · omega
    have lz : (rowD s (fun _ _ => 0) i).length ≤ sizeL := by simp only [rowD, List.length_map, List.length_range]; exact sz s (by omega)
    simp only [wipeD, ev, evs, bind_ok, newF, List.length_cons, List.length_nil, Nat.zero_add, one, if_true, List.set_cons_succ, List.set_cons_zero, List.getElem?_cons_succ, List.getElem?_cons_zero, bo_rep]
    rw [if_pos cnd, Int.toNat_natCast, zero_row s i, newT, if_pos lz]
    simp only [List.length_cons, List.length_map, List.length_range, List.range_succ, List.map_append, List.map_cons, List.map_nil, List.cons_append, rowO]) s 0 [] [gn a b c] (by omega) rfl ⟨rfl, rfl⟩
  refine v_lc (src := .rng 0 s) (h1 := [gn a b c]) ?_ q ?_
  · have := rng1_ok (G := gl wh n) (x := .var 1) (e := [.cel 0, .int s, .und, .und, .und, .und, .und, .und]) (h := [gn a b c]) (h1 := [gn a b c]) (j := s) (by simp only [ev, List.getElem?_cons_succ, List.getElem?_cons_zero]) (by omega)
    rw [Int.toNat_natCast] at this
    exact this
  · rw [newT, if_pos (by simp only [List.length_map, List.length_range]; exact sz s (by omega))]
    simp only [List.length_cons, List.length_map, List.length_range]
    rfl
theorem Anti.up {s : Nat} {f : Nat → Nat → Int} (A : Anti s f) {o t : Nat} {v : Int} (ho : o < s) (ht : t < s) (hn : o ≠ t) (hv : -1000 ≤ v ∧ v ≤ 1000) : Anti s (up2 (up2 f o t v) t o (0 - v)) := by
  constructor
  · intro i j hi hj
    have := A.anti i j hi hj
    simp only [up2]
    split
    · rename_i h
      rw [if_neg (by omega), if_pos (by omega)]; omega
    · rename_i h
      split
      · rename_i h2
        rw [if_pos (by omega)]; omega
      · rename_i h2
        rw [if_neg (by omega), if_neg (by omega)]; exact this
  · intro i j hi hj
    have := A.small i j hi hj
    simp only [up2]
    split
    · omega
    · split
      · omega
      · exact this
theorem pair_ok {n : Nat} {B a b c w : Int} {s o t : Nat} {f : Nat → Nat → Int} {d5 d6 : D} (g : GenOk B a b c) (hB : B ≤ 900000000) (hs : s ≤ 8) (ho : o < t) (ht : t < s) (hw : 0 ≤ w ∧ w < 5) (A : Anti s f) :
    ∃ f' a' c' d, exes (gl wh (n + 2)) (.cons (.asg (.nm 6) (.idx (.lst false (.cons (.bin false .sub (.call 9 (.cons (.var 0) (.cons (.int 3) .nil))) (.int 1)) (.cons (.bin false .sub (.int 1) (.bin false .mul (.int 2) (.call 9 (.cons (.var 0) (.cons (.int 2) .nil))))) (.cons (.bin false .sub (.call 9 (.cons (.var 0) (.cons (.int 9) .nil))) (.int 4)) (.cons (.bin false .sub (.bin false .mul (.int 2) (.call 9 (.cons (.var 0) (.cons (.int 5) .nil)))) (.int 5)) (.cons (.bin false .sub (.call 9 (.cons (.var 0) (.cons (.int 2001) .nil))) (.int 1000)) .nil)))))) (.var 3))) (.cons (.asg (.tup (.cons (.sub (.idx (.var 4) (.var 2)) (.var 5)) (.cons (.sub (.idx (.var 4) (.var 5)) (.var 2)) .nil))) (.tup (.cons (.var 6) (.cons (.bin false .sub (.int 0) (.var 6)) .nil)))) .nil))
      [.cel 0, .int s, .int o, .int w, .cel (s + 1), .int t, d6, .und] (gn a b c :: tT s f) = .ok .nx [.cel 0, .int s, .int o, .int w, .cel (s + 1), .int t, d, .und] (gn a' b c' :: tT s f') ∧ Anti s f' ∧ GenOk (B + 20) a' b c' := by
  obtain ⟨r1, a1, c1, q1, x1, y1, g1⟩ := random_ok (wh := wh) (n := n) (tT_cl s f) (by omega) g (m := 3) (by decide)
  obtain ⟨r2, a2, c2, q2, x2, y2, g2⟩ := random_ok (wh := wh) (n := n) (tT_cl s f) (by omega) g1 (m := 2) (by decide)
  obtain ⟨r3, a3, c3, q3, x3, y3, g3⟩ := random_ok (wh := wh) (n := n) (tT_cl s f) (by omega) g2 (m := 9) (by decide)
  obtain ⟨r4, a4, c4, q4, x4, y4, g4⟩ := random_ok (wh := wh) (n := n) (tT_cl s f) (by omega) g3 (m := 5) (by decide)
  obtain ⟨r5, a5, c5, q5, x5, y5, g5⟩ := random_ok (wh := wh) (n := n) (tT_cl s f) (by omega) g4 (m := 2001) (by decide)
  obtain ⟨v, hv, hb⟩ : ∃ v, L2.atI [D.int (r1 - 1), .int (1 - 2 * r2), .int (r3 - 4), .int (2 * r4 - 5), .int (r5 - 1000)] w = some (.int v) ∧ -1000 ≤ v ∧ v ≤ 1000 := by
    rcases (show w = 0 ∨ w = 1 ∨ w = 2 ∨ w = 3 ∨ w = 4 by omega) with rfl | rfl | rfl | rfl | rfl
    · exact ⟨_, rfl, by omega, by omega⟩
    · exact ⟨_, rfl, by omega, by omega⟩
    · exact ⟨_, rfl, by omega, by omega⟩
    · exact ⟨_, rfl, by omega, by omega⟩
    · exact ⟨_, rfl, by omega, by omega⟩
  refine ⟨_, a5, c5, .int v, ?_, A.up (o := o) (t := t) (v := v) (by omega) ht (by omega) hb, ⟨g5.1, g5.2.1, g5.2.2.1, g5.2.2.2.1, by have := g5.2.2.2.2; omega⟩⟩
  have m2 : mulOk 2 r2 = true := mulOk_of (p := 2) (q := 2) (by decide) (by omega) (by decide) (by decide) (by decide)
  have m4 : mulOk 2 r4 = true := mulOk_of (p := 2) (q := 3) (by decide) (by omega) (by decide) (by decide) (by decide)
  have five : (5 : Nat) ≤ sizeL := by decide
  refine xs_nx (x_nm (v := .int v) (h1 := gn a5 b c5 :: tT s f) ?_) (xs_nx (x_asg (v := .tup [.int v, .int (0 - v)]) (h1 := gn a5 b c5 :: tT s f) (e2 := [.cel 0, .int s, .int o, .int w, .cel (s + 1), .int t, .int v, .und]) (h2 := gn a5 b c5 :: tT s (up2 (up2 f o t v) t o (0 - v))) ?_ ?_) xs_nil)
  · simp only [ev, evs, bind_ok, List.getElem?_cons_zero, List.getElem?_cons_succ, q1, q2, q3, q4, q5, bo_sub, bo_mul, m2, m4, if_true, newF, List.length_cons, List.length_nil, Nat.zero_add, Nat.reduceAdd, five, ix_lst, hv]
  · have two : (2 : Nat) ≤ sizeL := by decide
    simp only [ev, evs, bind_ok, List.set_cons_succ, List.set_cons_zero, List.getElem?_cons_zero, List.getElem?_cons_succ, bo_sub, List.length_cons, List.length_nil, Nat.zero_add, Nat.reduceAdd, two, if_true]
  · have i1 := ix_tT (s := s) (f := f) (a := a5) (b := b) (c := c5) (o := o) (by omega)
    have i2 := ix_tT (s := s) (f := up2 f o t v) (a := a5) (b := b) (c := c5) (o := t) ht
    have p1 := put_tT (s := s) (f := f) (a := a5) (b := b) (c := c5) (o := o) (t := t) (v := v) (by omega) ht
    have p2 := put_tT (s := s) (f := up2 f o t v) (a := a5) (b := b) (c := c5) (o := t) (t := o) (v := 0 - v) ht (by omega)
    simp only [evT, evTs, ev, bind_ok, List.set_cons_succ, List.set_cons_zero, List.getElem?_cons_zero, List.getElem?_cons_succ, i1, p1, i2, p2]
theorem thaw_tab {s : Nat} {f : Nat → Nat → Int} {a b c : Int} : thaw (gn a b c :: tT s f) 1 4 (.cel (s + 1)) = tabD s f := by
  have hx : (gn a b c :: tT s f)[s + 1]? = some (.lst ((List.range s).map fun i => .cel (i + 1))) := by rw [List.getElem?_cons_succ]; exact tT_tbl
  show (if s + 1 < 1 then D.cel (s + 1) else match (gn a b c :: tT s f)[s + 1]? with
    | some (.lst xs) => D.lst (xs.map (thaw (gn a b c :: tT s f) 1 3))
    | some (.dK kvs) => .dK (kvs.map fun p => (p.1, thaw (gn a b c :: tT s f) 1 3 p.2))
    | some (.dT kvs) => .dT (kvs.map fun p => (p.1, thaw (gn a b c :: tT s f) 1 3 p.2))
    | _ => .cel (s + 1)) = _
  rw [if_neg (by omega), hx]
  simp only [tabD, List.map_map]
  congr 1
  apply List.map_congr_left
  intro i hi
  have hi : i < s := by simpa using hi
  have hr : (gn a b c :: tT s f)[i + 1]? = some (.lst (rowD s f i)) := by rw [List.getElem?_cons_succ]; exact tT_row hi
  show (if i + 1 < 1 then D.cel (i + 1) else match (gn a b c :: tT s f)[i + 1]? with
    | some (.lst xs) => D.lst (xs.map (thaw (gn a b c :: tT s f) 1 2))
    | some (.dK kvs) => .dK (kvs.map fun p => (p.1, thaw (gn a b c :: tT s f) 1 2 p.2))
    | some (.dT kvs) => .dT (kvs.map fun p => (p.1, thaw (gn a b c :: tT s f) 1 2 p.2))
    | _ => .cel (i + 1)) = _
  rw [if_neg (by omega), hr]
  simp only [rowD, List.map_map]
  congr 1
theorem tabD_c (k s : Nat) (f : Nat → Nat → Int) : clsd k (tabD s f) = true := by
  unfold tabD
  simp only [clsd]
  generalize List.range s = l
  induction l with
  | nil => rfl
  | cons x l ih => rw [List.map_cons, clsdL, ih]; simp only [clsd, rowD_c, Bool.and_self]
theorem table_ok {n : Nat} {B a b c : Int} (g : GenOk B a b c) (hB : B ≤ 800000000) {s : Nat} (hs : 1 ≤ s ∧ s ≤ 8) : ∃ f a' c', (gl wh (n + 3)).call 18 [.cel 0, .int s] [gn a b c] = .ok (tabD s f) [gn a' b c'] ∧ Anti s f ∧ GenOk (B + 10000) a' b c' := by
  have e : (gl wh (n + 3)).call 18 [.cel 0, .int s] [gn a b c] = callFn (gl wh (n + 2)) f18 [.cel 0, .int s] [gn a b c] := rfl
  rw [e]
  obtain ⟨w, a1, c1, q1, w0, w1, g1⟩ := random_ok (wh := wh) (n := n) (t := []) (fun _ z => by simp at z) (by omega) g (m := 5) (by decide)
  have loop := loopS_rng (lo := 0) (N := s) (body := lpB (gl wh (n + 2)) (.nm 2) [2, 5, 6] (.cons (.fr (.rng2 (.bin false .add (.var 2) (.int 1)) (.var 1)) (.nm 5) (.cons (.asg (.nm 6) (.idx (.lst false (.cons (.bin false .sub (.call 9 (.cons (.var 0) (.cons (.int 3) .nil))) (.int 1)) (.cons (.bin false .sub (.int 1) (.bin false .mul (.int 2) (.call 9 (.cons (.var 0) (.cons (.int 2) .nil))))) (.cons (.bin false .sub (.call 9 (.cons (.var 0) (.cons (.int 9) .nil))) (.int 4)) (.cons (.bin false .sub (.bin false .mul (.int 2) (.call 9 (.cons (.var 0) (.cons (.int 5) .nil)))) (.int 5)) (.cons (.bin false .sub (.call 9 (.cons (.var 0) (.cons (.int 2001) .nil))) (.int 1000)) .nil)))))) (.var 3))) (.cons (.asg (.tup (.cons (.sub (.idx (.var 4) (.var 2)) (.var 5)) (.cons (.sub (.idx (.var 4) (.var 5)) (.var 2)) .nil))) (.tup (.cons (.var 6) (.cons (.bin false .sub (.int 0) (.var 6)) .nil)))) .nil)) []) .nil))
    (fun i e h => ∃ f a' c', e = [.cel 0, .int s, .und, .int w, .cel (s + 1), .und, .und, .und] ∧ h = gn a' b c' :: tT s f ∧ Anti s f ∧ GenOk (B + 4 + 200 * i) a' b c') (by
    rintro i e h hi ⟨f, a2, c2, rfl, rfl, A, g2⟩
    obtain ⟨e', h', q, f3, a3, c3, d5, d6, rfl, rfl, A3, g3⟩ := loopS_rng (lo := (i : Int) + 1) (N := ((s : Int) - ((i : Int) + 1)).toNat) (body := lpB (gl wh (n + 2)) (.nm 5) [] (.cons (.asg (.nm 6) (.idx (.lst false (.cons (.bin false .sub (.call 9 (.cons (.var 0) (.cons (.int 3) .nil))) (.int 1)) (.cons (.bin false .sub (.int 1) (.bin false .mul (.int 2) (.call 9 (.cons (.var 0) (.cons (.int 2) .nil))))) (.cons (.bin false .sub (.call 9 (.cons (.var 0) (.cons (.int 9) .nil))) (.int 4)) (.cons (.bin false .sub (.bin false .mul (.int 2) (.call 9 (.cons (.var 0) (.cons (.int 5) .nil)))) (.int 5)) (.cons (.bin false .sub (.call 9 (.cons (.var 0) (.cons (.int 2001) .nil))) (.int 1000)) .nil)))))) (.var 3))) (.cons (.asg (.tup (.cons (.sub (.idx (.var 4) (.var 2)) (.var 5)) (.cons (.sub (.idx (.var 4) (.var 5)) (.var 2)) .nil))) (.tup (.cons (.var 6) (.cons (.bin false .sub (.int 0) (.var 6)) .nil)))) .nil)))
      (fun k e h => ∃ f a' c' d5 d6, e = [.cel 0, .int s, .int i, .int w, .cel (s + 1), d5, d6, .und] ∧ h = gn a' b c' :: tT s f ∧ Anti s f ∧ GenOk (B + 4 + 200 * i + 20 * k) a' b c') (by
      rintro k e h hk ⟨f, a4, c4, d5, d6, rfl, rfl, A, g4⟩
      have ht : i + 1 + k < s := by omega
      obtain ⟨f5, a5, c5, d, q5, A5, g5⟩ := pair_ok (wh := wh) (n := n) (w := w) (d5 := d5) (d6 := d6) g4 (by omega) hs.2 (show i < i + 1 + k by omega) ht ⟨w0, w1⟩ A
      refine ⟨_, _, lp_ok (e1 := [.cel 0, .int s, .int i, .int w, .cel (s + 1), .int ((i + 1 + k : Nat) : Int), d6, .und]) (h1 := gn a4 b c4 :: tT s f) ?_ q5, f5, a5, c5, _, d, rfl, rfl, A5, ⟨g5.1, g5.2.1, g5.2.2.1, g5.2.2.2.1, by have := g5.2.2.2.2; omega⟩⟩
      simp only [evT, List.set_cons_succ, List.set_cons_zero]
      congr 7) (((s : Int) - ((i : Int) + 1)).toNat) 0 [.cel 0, .int s, .int i, .int w, .cel (s + 1), .und, .und, .und] (gn a2 b c2 :: tT s f) (by omega) ⟨f, a2, c2, _, _, rfl, rfl, A, ⟨g2.1, g2.2.1, g2.2.2.1, g2.2.2.2.1, by have := g2.2.2.2.2; omega⟩⟩
    refine ⟨_, _, lp_ok (e1 := [.cel 0, .int s, .int (0 + (i : Nat)), .int w, .cel (s + 1), .und, .und, .und]) (h1 := gn a2 b c2 :: tT s f) (by simp only [evT, List.set_cons_succ, List.set_cons_zero]) (xs_nx (x_fr (src := .rng ((i : Int) + 1) ((s : Int) - ((i : Int) + 1)).toNat) (h1 := gn a2 b c2 :: tT s f) ?_ (by rw [Int.zero_add]; exact q)) xs_nil), f3, a3, c3, rfl, rfl, A3, ⟨g3.1, g3.2.1, g3.2.2.1, g3.2.2.2.1, by have := g3.2.2.2.2; omega⟩⟩
    refine rng2_ok (h1 := gn a2 b c2 :: tT s f) ?_ ?_ (by omega) (by omega)
    · simp only [ev, bind_ok, List.getElem?_cons_zero, List.getElem?_cons_succ, bo_add, Int.zero_add]
    · simp only [ev, bind_ok, List.getElem?_cons_zero, List.getElem?_cons_succ]) s 0 [.cel 0, .int s, .und, .int w, .cel (s + 1), .und, .und, .und] (gn a1 b c1 :: tT s fun _ _ => 0) (by omega) ⟨_, a1, c1, rfl, rfl, ⟨fun _ _ _ _ => by decide, fun _ _ _ _ => by decide⟩, ⟨g1.1, g1.2.1, g1.2.2.1, g1.2.2.2.1, by have := g1.2.2.2.2; omega⟩⟩
  obtain ⟨e', h', q, f, a', c', rfl, rfl, A, g'⟩ := loop
  refine ⟨f, a', c', ?_, A, ⟨g'.1, g'.2.1, g'.2.2.1, g'.2.2.2.1, by have := g'.2.2.2.2; omega⟩⟩
  have r := call_thaw (G := gl wh (n + 2)) (F := f18) (ds := [.cel 0, .int s]) (h := [gn a b c]) (h' := gn a' b c' :: tT s f) (d := .cel (s + 1)) (d' := tabD s f) (e := [.cel 0, .int s, .und, .int w, .cel (s + 1), .und, .und, .und]) rfl rfl ?_ thaw_tab (tabD_c _ s f) (by simp) (by
    show Cl 1 [gn a' b c']
    exact cl_gl (fun _ z => by simp at z))
  · exact r
  · show exes _ b18 [.cel 0, .int s, .und, .und, .und, .und, .und, .und] _ = _
    unfold b18
    refine xs_nx (x_par (v := .int w) (h1 := [gn a1 b c1]) (w := .cel (s + 1)) (h2 := gn a1 b c1 :: tT s fun _ _ => 0) (v_call (ds := [.cel 0, .int 5]) (h1 := [gn a b c]) (by simp only [evs, ev, bind_ok, List.getElem?_cons_zero]) q1) (rows_new (w := w) hs)) ?_
    refine xs_nx (x_fr (src := .rng 0 s) (h1 := gn a1 b c1 :: tT s fun _ _ => 0) ?_ q) (xs_ret (x_rt ?_))
    · have := rng1_ok (G := gl wh (n + 2)) (x := .var 1) (e := [.cel 0, .int s, .und, .int w, .cel (s + 1), .und, .und, .und]) (h := gn a1 b c1 :: tT s fun _ _ => 0) (h1 := gn a1 b c1 :: tT s fun _ _ => 0) (j := s) (by simp only [ev, List.getElem?_cons_succ, List.getElem?_cons_zero]) (by omega)
      rw [Int.toNat_natCast] at this
      exact this
    · simp only [ev, List.getElem?_cons_zero, List.getElem?_cons_succ]
end Tx
end Mn
namespace Mn
namespace Tx
open PySem L2
variable {wh : (List D → Hh → Res D) → (List D → Hh → SRes) → List D → Hh → SRes}
theorem ix_tab {s i j : Nat} {f : Nat → Nat → Int} {h : Hh} (hi : i < s) (hj : j < s) : ∃ r, idxop (tabD s f) (.int (i : Int)) h = some (.lst r) ∧ idxop (.lst r) (.int (j : Int)) h = some (.int (f i j)) := by
  refine ⟨rowD s f i, ?_, ?_⟩
  · unfold tabD
    rw [ix_lst, atI_of (by omega) (by simp; omega)]
    simp [List.getElem?_range hi]
  · unfold rowD
    rw [ix_lst, atI_of (by omega) (by simp; omega)]
    simp [List.getElem?_range hj]
theorem by_table_ok {n : Nat} {B a b c many : Int} (g : GenOk B a b c) (hB : B ≤ 700000000) {s : Nat} (hs : 1 ≤ s ∧ s ≤ 8) (hm : 0 ≤ many ∧ many ≤ 15) :
    ∃ xs a' c', (gl wh (n + 4)).call 23 [.cel 0, .int s, .int many] [gn a b c] = .ok (logD xs) [gn a' b c'] ∧ (∀ x ∈ xs, EntOk s x) ∧ xs.length ≤ 15 ∧ GenOk (B + 20000) a' b c' := by
  have e : (gl wh (n + 4)).call 23 [.cel 0, .int s, .int many] [gn a b c] = callFn (gl wh (n + 3)) f23 [.cel 0, .int s, .int many] [gn a b c] := rfl
  rw [e]
  obtain ⟨f, a1, c1, q1, A, g1⟩ := table_ok (wh := wh) (n := n) g (by omega) hs
  obtain ⟨ys, a2, c2, q2, hy, ly, g2⟩ := log_ok (wh := wh) (n := n) (t := [.lst []]) (size := s) (many := many) (most := 0) (fun k ob hob => by simp at hob; subst hob; rfl) g1 (by omega) ⟨by omega, by omega⟩ hm ⟨by omega, by omega⟩
  obtain ⟨e', h', q, xs, rfl, rfl, hx, lx⟩ := loopS_fz (xs := ys.map entD) (body := lpB (gl wh (n + 3)) (.tup (.cons (.nm 5) (.cons (.nm 6) (.cons (.nm 7) .nil)))) [5, 6, 7] (.cons (.ex (.mt .append (.var 4) (.cons (.ife (.cmp .ge (.idx (.idx (.var 3) (.var 5)) (.var 6)) (.int 0)) (.tup (.cons (.var 5) (.cons (.var 6) (.cons (.idx (.idx (.var 3) (.var 5)) (.var 6)) .nil)))) (.tup (.cons (.var 6) (.cons (.var 5) (.cons (.idx (.idx (.var 3) (.var 6)) (.var 5)) .nil))))) .nil))) .nil))
    (fun i e h => ∃ xs, e = [.cel 0, .int s, .int many, tabD s f, .cel 1, .und, .und, .und] ∧ h = [gn a2 b c2, .lst (xs.map entD)] ∧ (∀ x ∈ xs, EntOk s x) ∧ xs.length = i) (by
    rintro i x e h hxi ⟨xs, rfl, rfl, hx, lx⟩
    rw [List.getElem?_map] at hxi
    cases hyi : ys[i]? with
    | none => rw [hyi] at hxi; cases hxi
    | some y =>
      rw [hyi] at hxi
      cases hxi
      have E := hy y (List.mem_of_getElem? hyi)
      obtain ⟨o, t, z⟩ := y
      obtain ⟨o, rfl⟩ := Int.eq_ofNat_of_zero_le E.a.1
      obtain ⟨t, rfl⟩ := Int.eq_ofNat_of_zero_le E.b.1
      have ho : o < s := by have := E.a.2; simp only at this; omega
      have ht : t < s := by have := E.b.2; simp only at this; omega
      have hn : o ≠ t := fun z => E.ne (by rw [z])
      have hil : i < 15 := by have := (List.getElem?_eq_some_iff.mp hyi).1; omega
      have sm := A.small o t ho ht
      have sm2 := A.small t o ht ho
      have an := A.anti o t ho ht
      obtain ⟨r1, i1, i2⟩ := ix_tab (h := [gn a2 b c2, .lst (xs.map entD)]) (f := f) ho ht
      obtain ⟨r2, i3, i4⟩ := ix_tab (h := [gn a2 b c2, .lst (xs.map entD)]) (f := f) ht ho
      obtain ⟨w, hw, ew⟩ : ∃ w, EntOk s w ∧ ev (gl wh (n + 3)) (.ife (.cmp .ge (.idx (.idx (.var 3) (.var 5)) (.var 6)) (.int 0)) (.tup (.cons (.var 5) (.cons (.var 6) (.cons (.idx (.idx (.var 3) (.var 5)) (.var 6)) .nil)))) (.tup (.cons (.var 6) (.cons (.var 5) (.cons (.idx (.idx (.var 3) (.var 6)) (.var 5)) .nil))))) [.cel 0, .int s, .int many, tabD s f, .cel 1, .int o, .int t, .int z] [gn a2 b c2, .lst (xs.map entD)] = .ok (entD w) [gn a2 b c2, .lst (xs.map entD)] := by
        have three : (3 : Nat) ≤ sizeL := by decide
        obtain ⟨rows, hr⟩ : ∃ rows, tabD s f = .lst rows := ⟨_, rfl⟩
        rw [hr] at i1 i3 ⊢
        by_cases hf : 0 ≤ f o t
        · refine ⟨(o, t, f o t), ⟨E.a, E.b, E.ne, ⟨hf, by show f o t ≤ _; omega⟩⟩, ?_⟩
          have d1 : decide (0 ≤ f o t) = true := by simpa using hf
          simp only [ev, evs, bind_ok, List.getElem?_cons_zero, List.getElem?_cons_succ, i1, i2, co_ge, d1, List.length_cons, List.length_nil, Nat.zero_add, Nat.reduceAdd, three, if_true, entD]
        · refine ⟨(t, o, f t o), ⟨E.b, E.a, fun z => E.ne z.symm, ⟨by show 0 ≤ f t o; omega, by show f t o ≤ _; omega⟩⟩, ?_⟩
          have d1 : decide (0 ≤ f o t) = false := by simpa using hf
          simp only [ev, evs, bind_ok, List.getElem?_cons_zero, List.getElem?_cons_succ, i1, i2, i3, i4, co_ge, d1, List.length_cons, List.length_nil, Nat.zero_add, Nat.reduceAdd, three, if_true, entD]
      have ap : mtf false .append (.cel 1) [entD w] [gn a2 b c2, .lst (xs.map entD)] = .ok .non [gn a2 b c2, .lst ((xs ++ [w]).map entD)] := by
        have hz : (xs.map entD).length < sizeL := by rw [List.length_map, lx]; unfold sizeL; omega
        simp only [mtf, List.getElem?_cons_succ, List.getElem?_cons_zero, hz, if_true, List.set_cons_succ, List.set_cons_zero, List.map_append, List.map_cons, List.map_nil]
      have rc : rcv .append (.cel 1) [gn a2 b c2, .lst (xs.map entD)] = true := rfl
      refine ⟨_, _, lp_ok (e1 := [.cel 0, .int s, .int many, tabD s f, .cel 1, .int o, .int t, .int z]) (h1 := [gn a2 b c2, .lst (xs.map entD)]) (by simp only [entD, evT, evTs, bind_ok, List.set_cons_succ, List.set_cons_zero]) (xs_nx (x_ex (v := .non) (h1 := [gn a2 b c2, .lst ((xs ++ [w]).map entD)]) ?_) xs_nil), xs ++ [w], rfl, rfl, ?_, by rw [List.length_append, lx]; rfl⟩
      · rw [ev, v_var (d := .cel 1) rfl (fun z => by cases z), bind_ok, rc, if_pos rfl, evs, ew, bind_ok, evs, bind_ok, bind_ok, ap]
      · intro x hxx
        rcases List.mem_append.mp hxx with hxx | hxx
        · exact hx x hxx
        · have : x = w := by simpa using hxx
          subst this
          exact hw) (ys.map entD).length 0 [.cel 0, .int s, .int many, tabD s f, .cel 1, .und, .und, .und] [gn a2 b c2, .lst []] (by omega) ⟨[], rfl, rfl, by simp, rfl⟩
  refine ⟨xs, a2, c2, ?_, hx, by rw [lx, List.length_map]; exact ly, ⟨g2.1, g2.2.1, g2.2.2.1, g2.2.2.2.1, by have := g2.2.2.2.2; omega⟩⟩
  have th : thaw [gn a2 b c2, .lst (xs.map entD)] 1 4 (.cel 1) = logD xs := by
    have hx : [gn a2 b c2, .lst (xs.map entD)][1]? = some (.lst (xs.map entD)) := rfl
    have : ∀ x ∈ xs.map entD, thaw [gn a2 b c2, .lst (xs.map entD)] 1 3 x = x := fun x hxx => by
      obtain ⟨y, _, rfl⟩ := List.mem_map.mp hxx
      exact thaw_c rfl
    simp only [thaw, Nat.lt_irrefl, if_false, hx]
    rw [List.map_congr_left this, List.map_id']
    rfl
  have r := call_thaw (G := gl wh (n + 3)) (F := f23) (ds := [.cel 0, .int s, .int many]) (h := [gn a b c]) (h' := [gn a2 b c2, .lst (xs.map entD)]) (d := .cel 1) (d' := logD xs) (e := [.cel 0, .int s, .int many, tabD s f, .cel 1, .und, .und, .und]) rfl rfl ?_ th (logD_c 1 xs) (by simp) (by
    show Cl 1 [gn a2 b c2]
    exact cl_gl (fun _ z => by simp at z))
  · exact r
  · show exes _ b23 [.cel 0, .int s, .int many, .und, .und, .und, .und, .und] _ = _
    unfold b23
    refine xs_nx (x_par (v := tabD s f) (h1 := [gn a1 b c1]) (w := .cel 1) (h2 := [gn a1 b c1, .lst []]) (v_call (ds := [.cel 0, .int s]) (h1 := [gn a b c]) (by simp only [evs, ev, bind_ok, List.getElem?_cons_zero, List.getElem?_cons_succ]) q1) ?_) ?_
    · have z : ([] : List D).length ≤ sizeL := by decide
      simp only [ev, evs, bind_ok, newT, z, if_true]
      rfl
    · refine xs_nx (x_fr (src := .fz (ys.map entD)) (h1 := [gn a2 b c2, .lst []]) ?_ q) (xs_ret (x_rt ?_))
      · rw [evI, v_call (ds := [.cel 0, .int s, .int many, .int 0]) (h1 := [gn a1 b c1, .lst []]) ?_ q2, bind_ok]
        · rfl
        · simp only [evs, ev, bind_ok, List.set_cons_succ, List.set_cons_zero, List.getElem?_cons_zero, List.getElem?_cons_succ]
      · simp only [ev, List.getElem?_cons_zero, List.getElem?_cons_succ]
end Tx
end Mn
namespace Mn
namespace Tx
open PySem L2
variable {wh : (List D → Hh → Res D) → (List D → Hh → SRes) → List D → Hh → SRes}
/-- a tree, not under way -/
def frz : D → Bool
  | .non => true
  | .bl _ => true
  | .int _ => true
  | .str _ => true
  | .lst _ => true
  | .tup _ => true
  | .dK _ => true
  | _ => false
def isW : D → Bool
  | .int _ => true
  | _ => false
def isC : D → Bool
  | .int i => decide (0 ≤ i)
  | _ => false
def numB : D → Bool
  | .int i => decide (1 ≤ i) && decide (i ≤ 12)
  | _ => false
theorem whole_ok {n : Nat} {h : Hh} (hc : Cl h.length h) {d : D} (hd : frz d = true) : (gl wh (n + 1)).call 0 [d] h = .ok (.bl (isW d)) h := by
  have e : (gl wh (n + 1)).call 0 [d] h = callFn (gl wh n) f0 [d] h := rfl
  rw [e]
  refine call_pure (e := [d]) rfl rfl ?_ rfl hc
  show exes _ b0 [d] _ = _
  unfold b0
  refine xs_ret (x_rt ?_)
  cases d <;> first | (simp only [frz] at hd; exact absurd hd (by decide)) | (simp only [ev, evs, bind_ok, List.getElem?_cons_zero, bf_isi, plain, if_true, List.any_cons, List.any_nil, tyIs, isW, Bool.or_false] <;> rfl)
theorem count_ok {n : Nat} {h : Hh} (hc : Cl h.length h) {d : D} (hd : frz d = true) : (gl wh (n + 2)).call 1 [d] h = .ok (.bl (isC d)) h := by
  have e : (gl wh (n + 2)).call 1 [d] h = callFn (gl wh (n + 1)) f1 [d] h := rfl
  rw [e]
  refine call_pure (e := [d]) rfl rfl ?_ rfl hc
  show exes _ b1 [d] _ = _
  unfold b1
  refine xs_ret (x_rt ?_)
  have q := whole_ok (wh := wh) (n := n) hc hd
  cases d <;> first | (simp only [frz] at hd; exact absurd hd (by decide)) | (simp only [ev, evs, bind_ok, List.getElem?_cons_zero, q, isW, isC, co_ge])
theorem number_ok {n : Nat} {h : Hh} (hc : Cl h.length h) {d : D} (hd : frz d = true) (hn : numB d = true) : (gl wh (n + 3)).call 2 [d] h = .ok .non h := by
  have e : (gl wh (n + 3)).call 2 [d] h = callFn (gl wh (n + 2)) f2 [d] h := rfl
  rw [e]
  refine call_none (e := [d]) rfl rfl ?_ hc
  show exes _ b2 [d] _ = _
  unfold b2
  have q := count_ok (wh := wh) (n := n) hc hd
  cases d with
  | int i =>
    simp only [numB, Bool.and_eq_true, decide_eq_true_eq] at hn
    have h0 : decide (0 ≤ i) = true := by rw [decide_eq_true_eq]; omega
    have h1 : decide (1 ≤ i) = true := by rw [decide_eq_true_eq]; omega
    have h2 : decide (i ≤ 12) = true := by rw [decide_eq_true_eq]; omega
    refine xs_nx (x_f (h1 := h) ?_ xs_nil) xs_nil
    simp only [isC, h0] at q
    simp only [ev, evs, bind_ok, List.getElem?_cons_zero, q, co_le, h1, h2, Bool.not_true]
  | _ => simp only [numB] at hn; exact absurd hn (by decide)
theorem number_bad {n : Nat} {h : Hh} (hc : Cl h.length h) {d : D} (hd : frz d = true) (hcl : clsd h.length d = true) (hn : numB d = false) : (gl wh (n + 3)).call 2 [d] h = .exc 8 d h := by
  have e : (gl wh (n + 3)).call 2 [d] h = callFn (gl wh (n + 2)) f2 [d] h := rfl
  rw [e]
  refine call_exc (e := [d]) rfl rfl ?_ hcl hc
  show exes _ b2 [d] _ = _
  unfold b2
  have q := count_ok (wh := wh) (n := n) hc hd
  have rai : exes (gl wh (n + 2)) (.cons (.rai 8 (.var 0)) .nil) [d] h = .exc 8 d [d] h := xs_exc (x_rai (v_var rfl (fun z => by subst z; cases hd)))
  refine xs_exc ?_
  refine x_t (h1 := h) ?_ rai
  have vv : ev (gl wh (n + 2)) (.var 0) [d] h = .ok d h := v_var rfl (fun z => by subst z; cases hd)
  cases d with
  | int i =>
    simp only [numB, Bool.and_eq_false_iff, decide_eq_false_iff_not] at hn
    by_cases h0 : 0 ≤ i
    · have d0 : decide (0 ≤ i) = true := by rw [decide_eq_true_eq]; omega
      simp only [isC, d0] at q
      by_cases h1 : 1 ≤ i
      · have d1 : decide (1 ≤ i) = true := by rw [decide_eq_true_eq]; omega
        have d2 : decide (i ≤ 12) = false := by rw [decide_eq_false_iff_not]; omega
        simp only [ev, evs, bind_ok, List.getElem?_cons_zero, q, co_le, d1, d2, Bool.not_true, Bool.not_false]
      · have d1 : decide (1 ≤ i) = false := by rw [decide_eq_false_iff_not]; omega
        simp only [ev, evs, bind_ok, List.getElem?_cons_zero, q, co_le, d1, Bool.not_true, Bool.not_false]
    · have d0 : decide (0 ≤ i) = false := by rw [decide_eq_false_iff_not]; omega
      simp only [isC, d0] at q
      simp only [ev, evs, bind_ok, List.getElem?_cons_zero, q, Bool.not_false]
  | und => cases hd
  | _ =>
    simp only [isC] at q
    simp only [ev, evs, bind_ok, List.getElem?_cons_zero, q, Bool.not_false]
/-! ### lists against the empty list -/
theorem eq_nil0 {h : Hh} : eqD h (.lst []) (.lst []) = some true := rfl
theorem eq_nil1 {h : Hh} {ys : List D} (hc : clsdL 0 ys = true) (he : eqPy (.lst ys) (.lst []) = some false) : eqD h (.lst ys) (.lst []) = some false := by
  show eqPy (thaw h 0 3 (.lst ys)) (thaw h 0 3 (.lst [])) = some false
  rw [thaw_c (show clsd 0 (.lst ys) = true from hc), thaw_c (show clsd 0 (.lst []) = true from rfl), he]
def flat1 : D → Bool
  | .non => true
  | .bl _ => true
  | .int _ => true
  | .str x => decide (x = "1")
  | _ => false
theorem flat1_frz {d : D} (h : flat1 d = true) : frz d = true := by cases d <;> first | rfl | cases h
theorem flat1_c {k : Nat} : ∀ {ys : List D}, (∀ d ∈ ys, flat1 d = true) → clsdL k ys = true
  | [], _ => rfl
  | d :: ys, h => by
    rw [clsdL, flat1_c fun x hx => h x (List.mem_cons_of_mem _ hx)]
    have := h d List.mem_cons_self
    cases d <;> first | rfl | cases this
theorem flat1_py : ∀ {ys : List D}, (∀ d ∈ ys, flat1 d = true) → ∃ ps, D.pyAll ys = some ps ∧ PyData.canLayAll0 ps = true ∧ ps.length = ys.length ∧ PyData.depthAll ps ≤ 10
  | [], _ => ⟨[], rfl, rfl, rfl, by decide⟩
  | d :: ys, h => by
    obtain ⟨ps, h1, h2, h3, h4⟩ := flat1_py fun x hx => h x (List.mem_cons_of_mem _ hx)
    have hd := h d List.mem_cons_self
    have one : ∃ p, d.py = some p ∧ PyData.canLay0 p = true ∧ PyData.depth p ≤ 10 := by
      cases d with
      | non => exact ⟨.none, rfl, rfl, by decide⟩
      | bl b => exact ⟨.bool b, rfl, rfl, by simp [PyData.depth]⟩
      | int i => exact ⟨.int i, rfl, rfl, by simp [PyData.depth]⟩
      | str x =>
        simp only [flat1, decide_eq_true_eq] at hd
        subst hd
        exact ⟨.str "1", rfl, by decide +kernel, by decide⟩
      | _ => cases hd
    obtain ⟨p, p1, p2, p3⟩ := one
    refine ⟨p :: ps, by simp only [D.pyAll, p1, h1], by simp only [PyData.canLayAll0, p2, h2, Bool.and_self], by simp [h3], ?_⟩
    simp only [PyData.depthAll]
    omega
theorem flat1_ne {h : Hh} {ys : List D} (hf : ∀ d ∈ ys, flat1 d = true) : cmpop .ne (.lst ys) (.lst []) h = some (!ys.isEmpty) := by
  show (eqD h (.lst ys) (.lst [])).map (!·) = _
  cases ys with
  | nil => rw [eq_nil0]; rfl
  | cons d r =>
    obtain ⟨ps, h1, h2, h3, h4⟩ := flat1_py hf
    rw [eq_nil1 (flat1_c hf)]
    · rfl
    · unfold eqPy
      have e1 : (D.lst (d :: r)).py = some (.list ps) := by simp only [D.py, h1, Option.map_some]
      have e2 : (D.lst []).py = some (.list []) := rfl
      rw [e1, e2]
      simp only
      have s1 : SeqAt.shaped (.list ps) = true := by
        have dd : (PyData.list ps).depth ≤ 64 := by
          simp only [PyData.depth]
          omega
        unfold SeqAt.shaped
        simp only [PyData.canLay0, h2, Bool.true_and, decide_eq_true dd]
      have s2 : SeqAt.shaped (.list []) = true := by decide +kernel
      rw [s1, s2]
      cases ps with
      | nil => simp at h3
      | cons p ps => rfl
end Tx
end Mn
namespace Mn
namespace Tx
open PySem L2
variable {wh : (List D → Hh → Res D) → (List D → Hh → SRes) → List D → Hh → SRes}
/-- [x for x in .. if not P(x)] -/
def ngt (P : D → Bool) (d : D) : Option D := if P d then none else some d
theorem lc_filt {G : Glb} {P : D → Bool} {i : Nat} {t : E} {e : List D} {d : D} {h : Hh} (hi : i < e.length) (hd : d ≠ .und) (q : ev G t ((wipeD e [i]).set i d) h = .ok (.bl (!P d)) h) : lcB G (.nm i) (.cons t .nil) (.var i) e d h = .ok (ngt P d) h := by
  unfold lcB ngt
  simp only [Tg.own, evT, evB, q, bind_ok]
  have vv : ev G (.var i) ((wipeD e [i]).set i d) h = .ok d h := v_var (by rw [List.getElem?_set_self (by simp [wipeD]; exact hi)]) hd
  cases P d with
  | true => simp only [Bool.not_true, bind_ok, Bool.false_eq_true, if_false, if_true]
  | false => simp only [Bool.not_false, bind_ok, if_true, vv, Bool.false_eq_true, if_false]
theorem comp_filt {G : Glb} {P : D → Bool} {i : Nat} {t a : E} {e : List D} {xs : List D} {h : Hh} {ls : D} (hs : ev G a e h = .ok ls h) (hsrc : srcOf h true ls = some (.fz xs)) (hi : i < e.length) (hx : ∀ d ∈ xs, d ≠ .und) (q : ∀ d ∈ xs, ev G t ((wipeD e [i]).set i d) h = .ok (.bl (!P d)) h) (hl : xs.length ≤ 1000) :
    ev G (.lc false (.seq a) (.nm i) (.cons t .nil) (.var i)) e h = .ok (.lst (xs.filterMap (ngt P))) h := by
  refine v_lc (src := .fz xs) (h1 := h) (h2 := h) (ds := xs.filterMap (ngt P)) (by rw [evI, hs, bind_ok]; simp only [hsrc]) ?_ ?_
  · have := loopL_pure (s := .fz xs) (h := h) (xs := xs) (step := lcB G (.nm i) (.cons t .nil) (.var i) e) (ngt P) (fun _ => rfl) (fun d hd => lc_filt hi (hx d hd) (q d hd)) xs.length 0 [] (by omega) (by unfold sizeL; simp; omega)
    rw [List.drop_zero, List.nil_append] at this
    exact this
  · rw [newF, if_pos]
    have := List.length_filterMap_le (ngt P) xs
    unfold sizeL
    omega
theorem ngt_all {P : D → Bool} : ∀ {xs : List D}, (∀ d ∈ xs, P d = true) → xs.filterMap (ngt P) = []
  | [], _ => rfl
  | d :: xs, h => by
    rw [List.filterMap_cons]
    simp only [ngt, h d List.mem_cons_self, if_true]
    exact ngt_all fun x hx => h x (List.mem_cons_of_mem _ hx)
def entB (s : Int) : D → Bool
  | .tup [.int a, .int b, .int c] => decide (0 ≤ a) && decide (0 ≤ b) && decide (0 ≤ c) && decide (a < s) && decide (b < s) && !decide (a = b)
  | _ => false
theorem entry_ok {n : Nat} {h : Hh} (hc : Cl h.length h) {s : Int} {x : Int × Int × Int} (E : EntOk s x) : (gl wh (n + 3)).call 3 [.int s, entD x] h = .ok (.bl true) h := by
  obtain ⟨a, b, c⟩ := x
  obtain ⟨⟨a0, a1⟩, ⟨b0, b1⟩, hne, ⟨c0, c1⟩⟩ := E
  simp only at a0 a1 b0 b1 hne c0 c1
  have e : (gl wh (n + 3)).call 3 [.int s, entD (a, b, c)] h = callFn (gl wh (n + 2)) f3 [.int s, .tup [.int a, .int b, .int c]] h := rfl
  rw [e]
  refine call_pure (e := [.int s, .tup [.int a, .int b, .int c], .und]) rfl rfl ?_ rfl hc
  show exes _ b3 [.int s, .tup [.int a, .int b, .int c], .und] _ = _
  unfold b3
  have cnt : ∀ d ∈ [D.int a, .int b, .int c], ev (gl wh (n + 2)) (.not (.call 1 (.cons (.var 2) .nil))) ((wipeD [.int s, .tup [.int a, .int b, .int c], .und] [2]).set 2 d) h = .ok (.bl (!isC d)) h := fun d hd => by
    have hf : frz d = true := by
      rcases List.mem_cons.mp hd with rfl | hd
      · rfl
      rcases List.mem_cons.mp hd with rfl | hd
      · rfl
      rcases List.mem_cons.mp hd with rfl | hd
      · rfl
      cases hd
    have vv : ev (gl wh (n + 2)) (.var 2) ((wipeD [.int s, .tup [.int a, .int b, .int c], .und] [2]).set 2 d) h = .ok d h := v_var rfl (fun z => by subst z; cases hf)
    rw [ev, v_call (ds := [d]) (h1 := h) (by simp only [evs, vv, bind_ok]) (count_ok (wh := wh) (n := n) hc hf), bind_ok]
  have lc := comp_filt (G := gl wh (n + 2)) (P := isC) (i := 2) (a := .var 1) (e := [.int s, .tup [.int a, .int b, .int c], .und]) (xs := [.int a, .int b, .int c]) (h := h) (ls := .tup [.int a, .int b, .int c]) rfl rfl (by simp) (fun d hd z => by subst z; simp at hd) cnt (by simp)
  rw [ngt_all (fun d hd => by
    simp only [List.mem_cons, List.not_mem_nil, or_false] at hd
    rcases hd with rfl | rfl | rfl <;> simpa [isC])] at lc
  refine xs_nx (x_f (h1 := h) ?_ xs_nil) (xs_ret (x_rt ?_))
  · have d3 : (!decide (((3 : Nat) : Int) = 3)) = false := by decide
    refine v_orF (h1 := h) (v_not (t := true) (v_bi (vs_cons (v_var rfl (fun z => by cases z)) vs_nil) rfl)) ?_
    refine v_orF (h1 := h) (v_cmp (x := .int ((3 : Nat) : Int)) (y := .int 3) (h1 := h) (v_bi (vs_cons (v_var rfl (fun z => by cases z)) vs_nil) rfl) v_int (by rw [co_neI, d3])) ?_
    exact v_one (v_cmp lc v_nil0 rfl)
  · have q1 : decide (a < s) = true := by simpa using a1
    have q2 : decide (b < s) = true := by simpa using b1
    have q3 : (!decide (a = b)) = true := by simpa using hne
    simp only [ev, bind_ok, List.getElem?_cons_zero, List.getElem?_cons_succ, ix_tup, atI_0, atI_1, co_lt, q1, q2, co_neI, q3]
theorem entry_bad {n : Nat} {h : Hh} (hc : Cl h.length h) {s : Int} {v : D} (hv : frz v = true) (hf : ∀ xs, v = .tup xs → (∀ d ∈ xs, flat1 d = true) ∧ xs.length ≤ 10) (hb : entB s v = false) : (gl wh (n + 3)).call 3 [.int s, v] h = .ok (.bl false) h := by
  have e : (gl wh (n + 3)).call 3 [.int s, v] h = callFn (gl wh (n + 2)) f3 [.int s, v] h := rfl
  rw [e]
  refine call_pure (e := [.int s, v, .und]) rfl rfl ?_ rfl hc
  show exes _ b3 [.int s, v, .und] _ = _
  unfold b3
  have vn : v ≠ .und := fun z => by subst z; cases hv
  have v1 : ev (gl wh (n + 2)) (.var 1) [.int s, v, .und] h = .ok v h := v_var rfl vn
  have fin : exes (gl wh (n + 2)) (.cons (.ret (.bl false)) .nil) [.int s, v, .und] h = .ok (.ret (.bl false)) [.int s, v, .und] h := xs_ret (x_rt v_bl)
  by_cases ht : ∃ xs, v = .tup xs
  · obtain ⟨xs, rfl⟩ := ht
    obtain ⟨hf, hlen⟩ := hf xs rfl
    have isT : ev (gl wh (n + 2)) (.not (.bi false (.isinst [4]) (.cons (.var 1) .nil))) [.int s, .tup xs, .und] h = .ok (.bl false) h := v_not (t := true) (v_bi (vs_cons v1 vs_nil) rfl)
    have ln : ev (gl wh (n + 2)) (.cmp .ne (.bi false .len (.cons (.var 1) .nil)) (.int 3)) [.int s, .tup xs, .und] h = .ok (.bl (!decide ((xs.length : Int) = 3))) h := v_cmp (x := .int xs.length) (y := .int 3) (v_bi (vs_cons v1 vs_nil) rfl) v_int rfl
    by_cases h3 : xs.length = 3
    · have d3 : (!decide ((xs.length : Int) = 3)) = false := by rw [h3]; decide
      rw [d3] at ln
      have cnt : ∀ d ∈ xs, ev (gl wh (n + 2)) (.not (.call 1 (.cons (.var 2) .nil))) ((wipeD [.int s, .tup xs, .und] [2]).set 2 d) h = .ok (.bl (!isC d)) h := fun d hd => by
        have hfr := flat1_frz (hf d hd)
        have vv : ev (gl wh (n + 2)) (.var 2) ((wipeD [.int s, .tup xs, .und] [2]).set 2 d) h = .ok d h := v_var rfl (fun z => by subst z; cases hfr)
        exact v_not (v_call (vs_cons vv vs_nil) (count_ok (wh := wh) (n := n) hc hfr))
      have lc := comp_filt (G := gl wh (n + 2)) (P := isC) (i := 2) (a := .var 1) (e := [.int s, .tup xs, .und]) (xs := xs) (h := h) (ls := .tup xs) v1 rfl (by simp) (fun d hd z => by subst z; exact absurd (hf _ hd) (by decide)) cnt (by omega)
      have sub : ∀ d ∈ xs.filterMap (ngt isC), flat1 d = true := fun d hd => by
        obtain ⟨y, hy, z⟩ := List.mem_filterMap.mp hd
        unfold ngt at z
        split at z
        · cases z
        · cases z; exact hf _ hy
      have cn := v_one (v_cmp lc v_nil0 (flat1_ne (h := h) sub))
      by_cases he : (xs.filterMap (ngt isC)).isEmpty = true
      · rw [he] at cn
        -- three counts
        have allC : ∀ d ∈ xs, isC d = true := fun d hd => by
          cases q : isC d with
          | true => rfl
          | false =>
            have : d ∈ xs.filterMap (ngt isC) := List.mem_filterMap.mpr ⟨d, hd, by unfold ngt; rw [q]; rfl⟩
            rw [List.isEmpty_iff] at he
            rw [he] at this
            cases this
        obtain ⟨x, y, z, rfl⟩ : ∃ x y z, xs = [x, y, z] := by
          match xs, h3 with
          | [x, y, z], _ => exact ⟨x, y, z, rfl⟩
        have anInt : ∀ d, isC d = true → ∃ i, d = .int i ∧ 0 ≤ i := fun d hd => by
          cases d with
          | int i => exact ⟨i, rfl, by simpa [isC] using hd⟩
          | _ => cases hd
        obtain ⟨a, rfl, a0⟩ := anInt x (allC _ (by simp))
        obtain ⟨b, rfl, b0⟩ := anInt y (allC _ (by simp))
        obtain ⟨c, rfl, c0⟩ := anInt z (allC _ (by simp))
        refine xs_nx (x_f (v_orF isT (v_orF ln cn)) xs_nil) (xs_ret (x_rt ?_))
        have v0 : ev (gl wh (n + 2)) (.var 0) [.int s, .tup [.int a, .int b, .int c], .und] h = .ok (.int s) h := v_var rfl (fun z => by cases z)
        have i0 : ev (gl wh (n + 2)) (.idx (.var 1) (.int 0)) [.int s, .tup [.int a, .int b, .int c], .und] h = .ok (.int a) h := v_idx v1 v_int rfl
        have i1 : ev (gl wh (n + 2)) (.idx (.var 1) (.int 1)) [.int s, .tup [.int a, .int b, .int c], .und] h = .ok (.int b) h := v_idx v1 v_int rfl
        have c1 := v_cmp (o := .lt) i0 v0 co_lt
        have c2 := v_cmp (o := .lt) i1 v0 co_lt
        have c3 := v_cmp (o := .ne) i0 i1 co_neI
        have q1 : decide (0 ≤ a) = true := by simpa using a0
        have q2 : decide (0 ≤ b) = true := by simpa using b0
        have q3 : decide (0 ≤ c) = true := by simpa using c0
        simp only [entB, q1, q2, q3, Bool.true_and] at hb
        cases hA : decide (a < s) with
        | false => rw [hA] at c1; exact v_andF c1
        | true =>
          rw [hA] at c1
          cases hB : decide (b < s) with
          | false => rw [hB] at c2; exact v_andT c1 (v_andF c2)
          | true =>
            rw [hB] at c2
            rw [hA, hB] at hb
            simp only [Bool.true_and] at hb
            rw [hb] at c3
            exact v_andT c1 (v_andT c2 (v_one c3))
      · have he' : (xs.filterMap (ngt isC)).isEmpty = false := by simpa using he
        rw [he'] at cn
        exact xs_ret (x_t (v_orF isT (v_orF ln cn)) fin)
    · have d3 : (!decide ((xs.length : Int) = 3)) = true := by
        rw [Bool.not_eq_true', decide_eq_false_iff_not]; omega
      rw [d3] at ln
      exact xs_ret (x_t (v_orF isT (v_orT ln)) fin)
  · have isT : ev (gl wh (n + 2)) (.not (.bi false (.isinst [4]) (.cons (.var 1) .nil))) [.int s, v, .und] h = .ok (.bl true) h := v_not (t := false) (v_bi (vs_cons v1 vs_nil) (by
      cases v <;> first | (cases hv; done) | rfl | exact absurd ⟨_, rfl⟩ ht))
    exact xs_ret (x_t (v_orT isT) fin)
/-- a log, judged -/
theorem logof_ok {n : Nat} {h : Hh} (hc : Cl h.length h) {s : Int} {xs : List (Int × Int × Int)} (E : ∀ x ∈ xs, EntOk s x) (hl : xs.length ≤ 100) : (gl wh (n + 4)).call 4 [.int s, logD xs] h = .ok (.bl true) h := by
  have e : (gl wh (n + 4)).call 4 [.int s, logD xs] h = callFn (gl wh (n + 3)) f4 [.int s, logD xs] h := rfl
  rw [e]
  refine call_pure (e := [.int s, logD xs, .und]) rfl rfl ?_ rfl hc
  show exes _ b4 [.int s, logD xs, .und] _ = _
  unfold b4
  have v1 : ev (gl wh (n + 3)) (.var 1) [.int s, logD xs, .und] h = .ok (logD xs) h := v_var rfl (fun z => by cases z)
  have cnt : ∀ d ∈ xs.map entD, ev (gl wh (n + 3)) (.not (.call 3 (.cons (.var 0) (.cons (.var 2) .nil)))) ((wipeD [.int s, logD xs, .und] [2]).set 2 d) h = .ok (.bl (!(fun _ => true) d)) h := fun d hd => by
    obtain ⟨x, hx, rfl⟩ := List.mem_map.mp hd
    exact v_not (v_call (vs_cons (v_var rfl (fun z => by cases z)) (vs_cons (v_var rfl (fun z => by cases z)) vs_nil)) (entry_ok (wh := wh) (n := n) hc (E x hx)))
  have lc := comp_filt (G := gl wh (n + 3)) (P := fun _ => true) (i := 2) (a := .var 1) (e := [.int s, logD xs, .und]) (xs := xs.map entD) (h := h) (ls := logD xs) v1 rfl (by simp) (fun d hd z => by
    obtain ⟨x, _, q⟩ := List.mem_map.mp hd
    rw [z] at q; cases q) cnt (by simp; omega)
  rw [ngt_all (fun _ _ => rfl)] at lc
  exact xs_ret (x_rt (v_andT (v_bi (vs_cons v1 vs_nil) rfl) (v_one (v_cmp lc v_nil0 rfl))))
/-- values that are no logs -/
def BadLog (s : Int) (v : D) : Prop := frz v = true ∧ clsd 0 v = true ∧ ((∀ xs, v ≠ .lst xs) ∨ ∃ x, v = .lst [x] ∧ frz x = true ∧ (∀ xs, x = .tup xs → (∀ d ∈ xs, flat1 d = true) ∧ xs.length ≤ 10) ∧ entB s x = false ∧ eqPy (.lst [x]) (.lst []) = some false)
theorem logof_bad {n : Nat} {h : Hh} (hc : Cl h.length h) {s : Int} {v : D} (hb : BadLog s v) : (gl wh (n + 4)).call 4 [.int s, v] h = .ok (.bl false) h := by
  have e : (gl wh (n + 4)).call 4 [.int s, v] h = callFn (gl wh (n + 3)) f4 [.int s, v] h := rfl
  rw [e]
  obtain ⟨hv, hcl, hb⟩ := hb
  refine call_pure (e := [.int s, v, .und]) rfl rfl ?_ rfl hc
  show exes _ b4 [.int s, v, .und] _ = _
  unfold b4
  have v1 : ev (gl wh (n + 3)) (.var 1) [.int s, v, .und] h = .ok v h := v_var rfl (fun z => by subst z; cases hv)
  rcases hb with hb | ⟨x, rfl, hx, hf, hE, hp⟩
  · exact xs_ret (x_rt (v_andF (v_bi (vs_cons v1 vs_nil) (by
      cases v <;> first | (cases hv; done) | rfl | exact absurd rfl (hb _)))))
  · have cnt : ∀ d ∈ [x], ev (gl wh (n + 3)) (.not (.call 3 (.cons (.var 0) (.cons (.var 2) .nil)))) ((wipeD [.int s, .lst [x], .und] [2]).set 2 d) h = .ok (.bl (!(fun _ => false) d)) h := fun d hd => by
      have : d = x := by simpa using hd
      subst this
      exact v_not (v_call (vs_cons (v_var rfl (fun z => by cases z)) (vs_cons (v_var rfl (fun z => by subst z; cases hx)) vs_nil)) (entry_bad (wh := wh) (n := n) hc hx hf hE))
    have lc := comp_filt (G := gl wh (n + 3)) (P := fun _ => false) (i := 2) (a := .var 1) (e := [.int s, .lst [x], .und]) (xs := [x]) (h := h) (ls := .lst [x]) v1 rfl (by simp) (fun d hd z => by
      have : d = x := by simpa using hd
      subst this z
      cases hx) cnt (by simp)
    have hcx : clsdL 0 [x] = true := hcl
    exact xs_ret (x_rt (v_andT (v_bi (vs_cons v1 vs_nil) rfl) (v_one (v_cmp lc v_nil0 (eq_nil1 hcx hp)))))
theorem islog_ok {n : Nat} {h : Hh} (hc : Cl h.length h) {s : Int} (hs : numB (.int s) = true) {v : D} (hv : v ≠ .und) {t : Bool} (q : (gl wh (n + 4)).call 4 [.int s, v] h = .ok (.bl t) h) : (gl wh (n + 5)).call 5 [.int s, v] h = .ok (.bl t) h := by
  have e : (gl wh (n + 5)).call 5 [.int s, v] h = callFn (gl wh (n + 4)) f5 [.int s, v] h := rfl
  rw [e]
  refine call_pure (e := [.int s, v]) rfl rfl ?_ rfl hc
  show exes _ b5 [.int s, v] _ = _
  unfold b5
  have v0 : ev (gl wh (n + 4)) (.var 0) [.int s, v] h = .ok (.int s) h := v_var rfl (fun z => by cases z)
  have v1 : ev (gl wh (n + 4)) (.var 1) [.int s, v] h = .ok v h := v_var rfl hv
  exact xs_nx (x_ex (v_call (vs_cons v0 vs_nil) (number_ok (wh := wh) (n := n + 1) hc rfl hs))) (xs_ret (x_rt (v_call (vs_cons v0 (vs_cons v1 vs_nil)) q)))
theorem chklog_ok {n : Nat} {h : Hh} (hc : Cl h.length h) {s : Int} (hs : numB (.int s) = true) {xs : List (Int × Int × Int)} (E : ∀ x ∈ xs, EntOk s x) (hl : xs.length ≤ 100) : (gl wh (n + 5)).call 6 [.int s, logD xs] h = .ok .non h := by
  have e : (gl wh (n + 5)).call 6 [.int s, logD xs] h = callFn (gl wh (n + 4)) f6 [.int s, logD xs] h := rfl
  rw [e]
  refine call_none (e := [.int s, logD xs]) rfl rfl ?_ hc
  show exes _ b6 [.int s, logD xs] _ = _
  unfold b6
  have v0 : ev (gl wh (n + 4)) (.var 0) [.int s, logD xs] h = .ok (.int s) h := v_var rfl (fun z => by cases z)
  have v1 : ev (gl wh (n + 4)) (.var 1) [.int s, logD xs] h = .ok (logD xs) h := v_var rfl (fun z => by cases z)
  exact xs_nx (x_ex (v_call (vs_cons v0 vs_nil) (number_ok (wh := wh) (n := n + 1) hc rfl hs))) (xs_nx (x_f (v_not (t := true) (v_call (vs_cons v0 (vs_cons v1 vs_nil)) (logof_ok (wh := wh) (n := n) hc E hl))) xs_nil) xs_nil)
theorem chklog_bad {n : Nat} {h : Hh} (hc : Cl h.length h) {s : Int} (hs : numB (.int s) = true) {v : D} (hb : BadLog s v) (hk : clsd h.length v = true) : (gl wh (n + 5)).call 6 [.int s, v] h = .exc 13 v h := by
  have e : (gl wh (n + 5)).call 6 [.int s, v] h = callFn (gl wh (n + 4)) f6 [.int s, v] h := rfl
  rw [e]
  have hv : v ≠ .und := fun z => by subst z; exact absurd hb.1 (by decide)
  refine call_exc (e := [.int s, v]) rfl rfl ?_ hk hc
  show exes _ b6 [.int s, v] _ = _
  unfold b6
  have v0 : ev (gl wh (n + 4)) (.var 0) [.int s, v] h = .ok (.int s) h := v_var rfl (fun z => by cases z)
  have v1 : ev (gl wh (n + 4)) (.var 1) [.int s, v] h = .ok v h := v_var rfl hv
  exact xs_nx (x_ex (v_call (vs_cons v0 vs_nil) (number_ok (wh := wh) (n := n + 1) hc rfl hs))) (xs_exc (x_t (v_not (t := false) (v_call (vs_cons v0 (vs_cons v1 vs_nil)) (logof_bad (wh := wh) (n := n) hc hb))) (xs_exc (x_rai v1))))
end Tx
end Mn
namespace Mn
namespace Tx
open PySem L2
variable {wh : (List D → Hh → Res D) → (List D → Hh → SRes) → List D → Hh → SRes}
/-! ### dicts -/
theorem valO_map {κ : Type} [DecidableEq κ] (k k' : κ) (v : D) : ∀ (l : List (κ × D)), valO (l.map fun kv => if kv.1 = k then (kv.1, v) else kv) k' = if k' = k then (if (l.any fun kv => decide (kv.1 = k)) = true then some v else none) else valO l k'
  | [] => by simp [valO]
  | (a, b) :: l => by
    have ih := valO_map k k' v l
    unfold valO at ih ⊢
    simp only [List.map_cons, List.find?_cons, List.any_cons]
    by_cases h1 : a = k
    · subst h1
      simp only [if_true, decide_true, Bool.true_or]
      by_cases h2 : k' = a
      · subst h2; simp
      · have h3 : ¬ a = k' := fun z => h2 z.symm
        simp only [h3, decide_false, if_neg h2]
        rw [ih, if_neg h2]
    · simp only [if_neg h1, decide_eq_false h1, Bool.false_or]
      by_cases h2 : a = k'
      · subst h2
        simp [h1]
      · simp only [decide_eq_false h2]
        exact ih
theorem valO_app {κ : Type} [DecidableEq κ] (k k' : κ) (v : D) (l : List (κ × D)) (hn : (l.any fun kv => decide (kv.1 = k)) = false) : valO (l ++ [(k, v)]) k' = if k' = k then some v else valO l k' := by
  unfold valO
  rw [List.find?_append]
  by_cases h : k' = k
  · subst h
    have : l.find? (fun kv => decide (kv.1 = k')) = none := by
      rw [List.find?_eq_none]
      intro x hx
      rw [List.any_eq_false] at hn
      exact hn x hx
    rw [this]
    simp
  · have h3 : ¬ k = k' := fun z => h z.symm
    rw [if_neg h]
    simp [h3]
theorem valO_put {κ : Type} [DecidableEq κ] (l : List (κ × D)) (k k' : κ) (v : D) : valO (putO l k v) k' = if k' = k then some v else valO l k' := by
  unfold putO
  split
  · rename_i h
    rw [valO_map, h]; simp
  · rename_i h
    exact valO_app k k' v l (Bool.eq_false_iff.mpr h)
theorem putO_len {κ : Type} [DecidableEq κ] (l : List (κ × D)) (k : κ) (v : D) : (putO l k v).length ≤ l.length + 1 := by
  unfold putO
  split <;> simp
theorem putO_all {κ : Type} [DecidableEq κ] {P : D → Prop} {l : List (κ × D)} {k : κ} {v : D} (h : ∀ p ∈ l, P p.2) (hv : P v) : ∀ p ∈ putO l k v, P p.2 := by
  intro p hp
  unfold putO at hp
  split at hp
  · obtain ⟨q, hq, rfl⟩ := List.mem_map.mp hp
    split
    · exact hv
    · exact h q hq
  · rcases List.mem_append.mp hp with hp | hp
    · exact h p hp
    · have : p = (k, v) := by simpa using hp
      subst this
      exact hv
/-! ### what a log tells -/
abbrev KS := Int → Int → Option (Int × Nat)
def kUp (K : KS) (o t z : Int) (i : Nat) : KS := fun a b => if a = t ∧ b = o then some (-z, i) else if a = o ∧ b = t then some (z, i) else K a b
def runK : KS → Nat → List (Int × Int × Int) → (Nat × Nat) ⊕ KS
  | K, _, [] => .inr K
  | K, i, x :: xs => match K x.1 x.2.1 with
    | none => runK (kUp K x.1 x.2.1 x.2.2 i) (i + 1) xs
    | some p => if p.1 = x.2.2 then runK K (i + 1) xs else .inl (p.2, i)
def k2 (o t : Int) : List Key := [.inl o, .inl t]
def pairD (p : Int × Nat) : D := .tup [.int p.1, .int (p.2 : Nat)]
structure DK (kvs : List (List Key × D)) (K : KS) : Prop where
  val : ∀ o t, valO kvs (k2 o t) = (K o t).map pairD
  all : ∀ p ∈ kvs, ∃ q, p.2 = pairD q
theorem k2_ne {a b o t : Int} : k2 a b = k2 o t ↔ a = o ∧ b = t := by
  unfold k2
  constructor
  · intro h
    simp at h
    exact h
  · rintro ⟨rfl, rfl⟩; rfl
theorem DK.up {kvs : List (List Key × D)} {K : KS} (d : DK kvs K) (o t z : Int) (i : Nat) : DK (putO (putO kvs (k2 o t) (pairD (z, i))) (k2 t o) (pairD (-z, i))) (kUp K o t z i) := by
  constructor
  · intro a b
    rw [valO_put, valO_put, d.val]
    unfold kUp
    by_cases h1 : a = t ∧ b = o
    · rw [if_pos (k2_ne.mpr h1), if_pos h1]; rfl
    · rw [if_neg (fun z => h1 (k2_ne.mp z)), if_neg h1]
      by_cases h2 : a = o ∧ b = t
      · rw [if_pos (k2_ne.mpr h2), if_pos h2]; rfl
      · rw [if_neg (fun z => h2 (k2_ne.mp z)), if_neg h2]
  · exact putO_all (P := fun d => ∃ q, d = pairD q) (putO_all (P := fun d => ∃ q, d = pairD q) d.all ⟨_, rfl⟩) ⟨_, rfl⟩
theorem get_k {h : Hh} {m : Nat} {kvs : List (List Key × D)} (e : h[m]? = some (.dT kvs)) (o t : Int) : dGet h (.cel m) (.tup [.int o, .int t]) = some (valO kvs (k2 o t)) := by
  simp only [dGet, e]
  rfl
theorem put_k {h : Hh} {m : Nat} {kvs : List (List Key × D)} (e : h[m]? = some (.dT kvs)) (hl : kvs.length < 1000) (o t : Int) (v : D) : putI h (.cel m) (.tup [.int o, .int t]) v = some (h.set m (.dT (putO kvs (k2 o t) v))) := by
  show dPut h (.cel m) (.tup [.int o, .int t]) v = _
  simp only [dPut, e]
  rw [if_pos (by unfold sizeL; omega)]
  rfl
theorem in_k {h : Hh} {m : Nat} {kvs : List (List Key × D)} (e : h[m]? = some (.dT kvs)) (o t : Int) : cmpop .notin (.tup [.int o, .int t]) (.cel m) h = some (!(valO kvs (k2 o t)).isSome) := by
  show (inD h (.tup [.int o, .int t]) (.cel m)).map (!·) = _
  have : inD h (.tup [.int o, .int t]) (.cel m) = some (valO kvs (k2 o t)).isSome := by
    unfold inD
    simp only [lsOf, e, get_k e]
    rfl
  rw [this]; rfl
theorem ix_k {h : Hh} {m : Nat} {kvs : List (List Key × D)} (e : h[m]? = some (.dT kvs)) {o t : Int} {v : D} (hv : valO kvs (k2 o t) = some v) : idxop (.cel m) (.tup [.int o, .int t]) h = some v := by
  simp only [idxop, lsOf, e, get_k e, hv]
theorem loopS_nx {s : Src} {body : D → List D → Hh → SRes} {n i : Nat} {e e1 : List D} {h h1 : Hh} {d : D} (hat : s.at i h = some (some d)) (q : body d e h = .ok .nx e1 h1) : loopS s body (n + 1) i e h = loopS s body n (i + 1) e1 h1 := by
  simp only [loopS, hat, q]
theorem loopS_ret {s : Src} {body : D → List D → Hh → SRes} {n i : Nat} {e e1 : List D} {h h1 : Hh} {d v : D} (hat : s.at i h = some (some d)) (q : body d e h = .ok (.ret v) e1 h1) : loopS s body (n + 1) i e h = .ok (.ret v) e1 h1 := by
  simp only [loopS, hat, q]
/-- the loop of told_by -/
abbrev tbBody : Ss := (.cons (.asg (.tup (.cons (.nm 4) (.cons (.nm 7) (.cons (.nm 8) .nil)))) (.var 6)) (.cons (.ite (.cmp .notin (.tup (.cons (.var 4) (.cons (.var 7) .nil))) (.var 2)) (.cons (.asg (.sub (.var 2) (.tup (.cons (.var 4) (.cons (.var 7) .nil)))) (.tup (.cons (.var 8) (.cons (.var 5) .nil)))) (.cons (.asg (.sub (.var 2) (.tup (.cons (.var 7) (.cons (.var 4) .nil)))) (.tup (.cons (.neg (.var 8)) (.cons (.var 5) .nil)))) .nil)) (.cons (.ite (.cmp .ne (.idx (.idx (.var 2) (.tup (.cons (.var 4) (.cons (.var 7) .nil)))) (.int 0)) (.var 8)) (.cons (.ret (.tup (.cons (.str "clash") (.cons (.tup (.cons (.idx (.idx (.var 2) (.tup (.cons (.var 4) (.cons (.var 7) .nil)))) (.int 1)) (.cons (.var 5) .nil))) .nil)))) .nil) .nil) .nil)) .nil))
def clD (p q : Nat) : D := .tup [.str "clash", .tup [.int (p : Nat), .int (q : Nat)]]
theorem tb_loop {G : Glb} {s : Int} {L : D} {h0 : Hh} (hL : L ≠ .und) {xs : List (Int × Int × Int)} (hlen : xs.length ≤ 100) : ∀ (n i : Nat) (d4 d7 : D) (K : KS) (kvs : List (List Key × D)), i + n = xs.length → DK kvs K → kvs.length ≤ 2 * i →
    (∃ p q kvs' e', runK K i (xs.drop i) = .inl (p, q) ∧ (∀ r ∈ kvs', ∃ z, r.2 = pairD z) ∧ loopS (.en (.fz (xs.map entD))) (lpB G (.tup (.cons (.nm 5) (.cons (.nm 6) .nil))) [5, 6, 8] tbBody) n i [.int s, L, .cel h0.length, .und, d4, .und, .und, d7, .und] (h0 ++ [.dT kvs]) = .ok (.ret (clD p q)) e' (h0 ++ [.dT kvs'])) ∨
    (∃ K' kvs' d4' d7', runK K i (xs.drop i) = .inr K' ∧ DK kvs' K' ∧ loopS (.en (.fz (xs.map entD))) (lpB G (.tup (.cons (.nm 5) (.cons (.nm 6) .nil))) [5, 6, 8] tbBody) n i [.int s, L, .cel h0.length, .und, d4, .und, .und, d7, .und] (h0 ++ [.dT kvs]) = .ok .nx [.int s, L, .cel h0.length, .und, d4', .und, .und, d7', .und] (h0 ++ [.dT kvs']))
  | 0, i, d4, d7, K, kvs, hn, dk, _ => by
    right
    have : xs.drop i = [] := List.drop_eq_nil_of_le (by omega)
    refine ⟨K, kvs, d4, d7, by rw [this]; rfl, dk, ?_⟩
    simp only [loopS, Src.at]
    rw [List.getElem?_eq_none (by simp; omega)]
  | n + 1, i, d4, d7, K, kvs, hn, dk, hk => by
    have hi : i < xs.length := by omega
    have hat : (Src.en (.fz (xs.map entD))).at i (h0 ++ [.dT kvs]) = some (some (.tup [.int (i : Nat), entD xs[i]])) := by
      simp only [Src.at, List.getElem?_map, List.getElem?_eq_getElem hi, Option.map_some]
    have hdr : xs.drop i = xs[i] :: xs.drop (i + 1) := List.drop_eq_getElem_cons hi
    generalize hx : xs[i] = x at hat hdr
    obtain ⟨o, t, z⟩ := x
    have gm : ∀ kv : List (List Key × D), (h0 ++ [Ob.dT kv])[h0.length]? = some (.dT kv) := fun kv => by simp
    have sm : ∀ (kv kv' : List (List Key × D)), (h0 ++ [Ob.dT kv]).set h0.length (.dT kv') = h0 ++ [.dT kv'] := fun kv kv' => by simp
    have e1 : evT G (.tup (.cons (.nm 5) (.cons (.nm 6) .nil))) (.tup [.int (i : Nat), entD (o, t, z)]) [.int s, L, .cel h0.length, .und, d4, .und, .und, d7, .und] (h0 ++ [.dT kvs]) = .ok [.int s, L, .cel h0.length, .und, d4, .int (i : Nat), entD (o, t, z), d7, .und] (h0 ++ [.dT kvs]) := by
      simp only [evT, evTs, bind_ok, List.set_cons_succ, List.set_cons_zero]
    have st1 : ∀ {r : Ss} {Q : SRes}, exes G r [.int s, L, .cel h0.length, .und, .int o, .int (i : Nat), entD (o, t, z), .int t, .int z] (h0 ++ [.dT kvs]) = Q → exes G (.cons (.asg (.tup (.cons (.nm 4) (.cons (.nm 7) (.cons (.nm 8) .nil)))) (.var 6)) r) [.int s, L, .cel h0.length, .und, d4, .int (i : Nat), entD (o, t, z), d7, .und] (h0 ++ [.dT kvs]) = Q := fun k =>
      xs_nx (x_asg (v := entD (o, t, z)) (v_var rfl (fun z => by cases z)) (by simp only [entD, evT, evTs, bind_ok, List.set_cons_succ, List.set_cons_zero])) k
    have v4 : ∀ {hh : Hh}, ev G (.var 4) [.int s, L, .cel h0.length, .und, .int o, .int (i : Nat), entD (o, t, z), .int t, .int z] hh = .ok (.int o) hh := v_var rfl (fun z => by cases z)
    have v7 : ∀ {hh : Hh}, ev G (.var 7) [.int s, L, .cel h0.length, .und, .int o, .int (i : Nat), entD (o, t, z), .int t, .int z] hh = .ok (.int t) hh := v_var rfl (fun z => by cases z)
    have v8 : ∀ {hh : Hh}, ev G (.var 8) [.int s, L, .cel h0.length, .und, .int o, .int (i : Nat), entD (o, t, z), .int t, .int z] hh = .ok (.int z) hh := v_var rfl (fun z => by cases z)
    have v5 : ∀ {hh : Hh}, ev G (.var 5) [.int s, L, .cel h0.length, .und, .int o, .int (i : Nat), entD (o, t, z), .int t, .int z] hh = .ok (.int (i : Nat)) hh := v_var rfl (fun z => by cases z)
    have v2 : ∀ {hh : Hh}, ev G (.var 2) [.int s, L, .cel h0.length, .und, .int o, .int (i : Nat), entD (o, t, z), .int t, .int z] hh = .ok (.cel h0.length) hh := v_var rfl (fun z => by cases z)
    have t47 : ∀ {hh : Hh}, ev G (.tup (.cons (.var 4) (.cons (.var 7) .nil))) [.int s, L, .cel h0.length, .und, .int o, .int (i : Nat), entD (o, t, z), .int t, .int z] hh = .ok (.tup [.int o, .int t]) hh := v_tup (vs_cons v4 (vs_cons v7 vs_nil)) (by simp)
    have t74 : ∀ {hh : Hh}, ev G (.tup (.cons (.var 7) (.cons (.var 4) .nil))) [.int s, L, .cel h0.length, .und, .int o, .int (i : Nat), entD (o, t, z), .int t, .int z] hh = .ok (.tup [.int t, .int o]) hh := v_tup (vs_cons v7 (vs_cons v4 vs_nil)) (by simp)
    have tin := v_cmp (o := .notin) t47 v2 (in_k (gm kvs) o t)
    have hv := dk.val o t
    cases hK : K o t with
    | none =>
      rw [hK] at hv
      rw [hv] at tin
      have stp : runK K i (xs.drop i) = runK (kUp K o t z i) (i + 1) (xs.drop (i + 1)) := by
        rw [hdr]
        simp only [runK, hK]
      have body : exes G tbBody [.int s, L, .cel h0.length, .und, d4, .int (i : Nat), entD (o, t, z), d7, .und] (h0 ++ [.dT kvs]) = .ok .nx [.int s, L, .cel h0.length, .und, .int o, .int (i : Nat), entD (o, t, z), .int t, .int z] (h0 ++ [.dT (putO (putO kvs (k2 o t) (pairD (z, i))) (k2 t o) (pairD (-z, i)))]) := by
        refine st1 (xs_nx (x_t tin ?_) xs_nil)
        refine xs_nx (x_asg (e2 := [.int s, L, .cel h0.length, .und, .int o, .int (i : Nat), entD (o, t, z), .int t, .int z]) (v := pairD (z, i)) (h1 := h0 ++ [.dT kvs]) (h2 := h0 ++ [.dT (putO kvs (k2 o t) (pairD (z, i)))]) (v_tup (vs_cons v8 (vs_cons v5 vs_nil)) (by simp)) ?_) ?_
        · rw [evT, v2, bind_ok, t47, bind_ok, put_k (gm kvs) (by omega), sm]
        · refine xs_nx (x_asg (e2 := [.int s, L, .cel h0.length, .und, .int o, .int (i : Nat), entD (o, t, z), .int t, .int z]) (v := pairD (-z, i)) (h1 := h0 ++ [.dT (putO kvs (k2 o t) (pairD (z, i)))]) (h2 := h0 ++ [.dT (putO (putO kvs (k2 o t) (pairD (z, i))) (k2 t o) (pairD (-z, i)))]) (v_tup (vs_cons (x := .int (-z)) (by rw [ev, v8]; rfl) (vs_cons v5 vs_nil)) (by simp)) ?_) xs_nil
          have := putO_len kvs (k2 o t) (pairD (z, i))
          rw [evT, v2, bind_ok, t74, bind_ok, put_k (gm _) (by omega), sm]
      have lp := lp_ok (fg := [5, 6, 8]) e1 body
      have ih := tb_loop (G := G) (s := s) (h0 := h0) hL hlen n (i + 1) (.int o) (.int t) (kUp K o t z i) _ (by omega) (dk.up o t z i) (by
        have := putO_len kvs (k2 o t) (pairD (z, i))
        have := putO_len (putO kvs (k2 o t) (pairD (z, i))) (k2 t o) (pairD (-z, i))
        omega)
      rw [stp]
      rw [loopS_nx hat lp]
      exact ih
    | some p =>
      rw [hK] at hv
      rw [hv] at tin
      have ik := ix_k (gm kvs) (o := o) (t := t) hv
      have q0 : ∀ {hh : Hh}, hh = h0 ++ [.dT kvs] → ev G (.idx (.idx (.var 2) (.tup (.cons (.var 4) (.cons (.var 7) .nil)))) (.int 0)) [.int s, L, .cel h0.length, .und, .int o, .int (i : Nat), entD (o, t, z), .int t, .int z] hh = .ok (.int p.1) hh := fun hh => by
        subst hh; exact v_idx (v_idx v2 t47 ik) v_int rfl
      have q1 : ∀ {hh : Hh}, hh = h0 ++ [.dT kvs] → ev G (.idx (.idx (.var 2) (.tup (.cons (.var 4) (.cons (.var 7) .nil)))) (.int 1)) [.int s, L, .cel h0.length, .und, .int o, .int (i : Nat), entD (o, t, z), .int t, .int z] hh = .ok (.int (p.2 : Nat)) hh := fun hh => by
        subst hh; exact v_idx (v_idx v2 t47 ik) v_int rfl
      have ne := v_cmp (o := .ne) (q0 rfl) v8 co_neI
      by_cases hz : p.1 = z
      · have stp : runK K i (xs.drop i) = runK K (i + 1) (xs.drop (i + 1)) := by
          rw [hdr]
          simp only [runK, hK]
          rw [if_pos hz]
        rw [decide_eq_true hz] at ne
        have body : exes G tbBody [.int s, L, .cel h0.length, .und, d4, .int (i : Nat), entD (o, t, z), d7, .und] (h0 ++ [.dT kvs]) = .ok .nx [.int s, L, .cel h0.length, .und, .int o, .int (i : Nat), entD (o, t, z), .int t, .int z] (h0 ++ [.dT kvs]) :=
          st1 (xs_nx (x_f tin (xs_nx (x_f ne xs_nil) xs_nil)) xs_nil)
        have lp := lp_ok (fg := [5, 6, 8]) e1 body
        have ih := tb_loop (G := G) (s := s) (h0 := h0) hL hlen n (i + 1) (.int o) (.int t) K kvs (by omega) dk (by omega)
        rw [stp]
        rw [loopS_nx hat lp]
        exact ih
      · left
        rw [decide_eq_false hz] at ne
        refine ⟨p.2, i, kvs, [.int s, L, .cel h0.length, .und, .int o, .int (i : Nat), entD (o, t, z), .int t, .int z], ?_, dk.all, ?_⟩
        · rw [hdr]
          simp only [runK, hK]
          rw [if_neg hz]
        · have body : exes G tbBody [.int s, L, .cel h0.length, .und, d4, .int (i : Nat), entD (o, t, z), d7, .und] (h0 ++ [.dT kvs]) = .ok (.ret (clD p.2 i)) [.int s, L, .cel h0.length, .und, .int o, .int (i : Nat), entD (o, t, z), .int t, .int z] (h0 ++ [.dT kvs]) :=
            st1 (xs_ret (x_f tin (xs_ret (x_t ne (xs_ret (x_rt (v_tup (vs_cons v_str (vs_cons (v_tup (vs_cons (q1 rfl) (vs_cons v5 vs_nil)) (by simp)) vs_nil)) (by simp))))))))
          have lp := lp_ret (fg := [5, 6, 8]) e1 body
          exact loopS_ret hat lp
end Tx
end Mn
namespace Mn
namespace Tx
open PySem L2
variable {wh : (List D → Hh → Res D) → (List D → Hh → SRes) → List D → Hh → SRes}
theorem sz_of {k : Nat} (h : k ≤ 1000) : k ≤ sizeL := by unfold sizeL; omega
theorem rngN_ok {G : Glb} {x : E} {e : List D} {h h1 : Hh} {s : Nat} (q : ev G x e h = .ok (.int (s : Nat)) h1) (hs : s ≤ 1000) : evI G (.rng1 x) e h = .ok (.rng 0 s) h1 := by
  have := rng1_ok q (by omega)
  rw [Int.toNat_natCast] at this
  exact this
theorem lc_rng {G : Glb} {lv : Bool} {i s : Nat} {x a : E} {e : List D} {h : Hh} {R : Res D} {f : Nat → D} (hs : s ≤ 1000) (q : ev G a e h = .ok (.int (s : Nat)) h) (hx : ∀ j, j < s → ev G x ((wipeD e [i]).set i (.int (j : Nat))) h = .ok (f j) h) (k : newL lv ((List.range s).map f) h = R) : ev G (.lc lv (.rng1 a) (.nm i) .nil x) e h = R := by
  obtain ⟨acc, h', q2, rfl, rfl⟩ := loopL_rng (lo := 0) (N := s) (st := lcB G (.nm i) .nil x e) (fun k acc h' => acc = (List.range k).map f ∧ h' = h) (sz_of hs) (by
    rintro kk acc h' hk ⟨rfl, rfl⟩
    refine ⟨f kk, h', lc_one ?_, by rw [List.range_succ, List.map_append]; rfl, rfl⟩
    rw [Int.zero_add]
    exact hx kk hk) s 0 [] h (by omega) rfl ⟨rfl, rfl⟩
  exact v_lc (src := .rng 0 s) (rngN_ok q hs) q2 k
/-! ### told_by -/
def valT (K : KS) (i j : Nat) : D := if i = j then .int 0 else match K i j with
  | some p => .int p.1
  | none => .non
def rowT (s : Nat) (K : KS) (i : Nat) : List D := (List.range s).map (valT K i)
def celT (m s : Nat) : List D := (List.range s).map fun k => .cel (m + k)
theorem get_row {h : Hh} {m : Nat} {kvs : List (List Key × D)} {K : KS} (e : h[m]? = some (.dT kvs)) (dk : DK kvs K) (i j : Nat) (hn : i ≠ j) : ∃ v, mtf false .get (.cel m) [.tup [.int (i : Nat), .int (j : Nat)], .tup [.non, .non]] h = .ok v h ∧ idxop v (.int 0) h = some (valT K i j) := by
  have hv := dk.val i j
  unfold valT
  rw [if_neg hn]
  cases hK : K i j with
  | none =>
    rw [hK] at hv
    refine ⟨.tup [.non, .non], ?_, rfl⟩
    simp only [mtf, get_k e, hv]
    rfl
  | some p =>
    rw [hK] at hv
    refine ⟨pairD p, ?_, rfl⟩
    simp only [mtf, get_k e, hv]
    rfl
abbrev rwBody : Ss := (.cons (.ex (.mt .append (.var 3) (.cons (.lc true (.rng1 (.var 0)) (.nm 7) .nil (.ife (.cmp .eq (.var 4) (.var 7)) (.int 0) (.idx (.mt .get (.var 2) (.cons (.tup (.cons (.var 4) (.cons (.var 7) .nil))) (.cons (.tup (.cons .non (.cons .non .nil))) .nil))) (.int 0)))) .nil))) .nil)
def hT (h0 : Hh) (kvs : List (List Key × D)) (s : Nat) (K : KS) (i : Nat) : Hh := h0 ++ (.dT kvs :: .lst (celT (h0.length + 2) i) :: (List.range i).map fun k => .lst (rowT s K k))
theorem hT_d {h0 : Hh} {kvs : List (List Key × D)} {s : Nat} {K : KS} {i : Nat} : (hT h0 kvs s K i)[h0.length]? = some (.dT kvs) := by
  unfold hT
  rw [List.getElem?_append_right (Nat.le_refl _), Nat.sub_self]; rfl
theorem hT_l {h0 : Hh} {kvs : List (List Key × D)} {s : Nat} {K : KS} {i : Nat} {t : Hh} : (hT h0 kvs s K i ++ t)[h0.length + 1]? = some (.lst (celT (h0.length + 2) i)) := by
  unfold hT
  rw [List.append_assoc, List.getElem?_append_right (by omega), show h0.length + 1 - h0.length = 1 by omega]; rfl
theorem hT_len {h0 : Hh} {kvs : List (List Key × D)} {s : Nat} {K : KS} {i : Nat} : (hT h0 kvs s K i).length = h0.length + 2 + i := by
  simp [hT]; omega
theorem hT_up {h0 : Hh} {kvs : List (List Key × D)} {s : Nat} {K : KS} {i : Nat} : (hT h0 kvs s K i ++ [Ob.lst (rowT s K i)]).set (h0.length + 1) (Ob.lst (celT (h0.length + 2) i ++ [D.cel (hT h0 kvs s K i).length])) = hT h0 kvs s K (i + 1) := by
  rw [hT_len]
  unfold hT celT
  rw [List.append_assoc, List.set_append_right _ _ (by omega), show h0.length + 1 - h0.length = 1 by omega]
  simp only [List.cons_append, List.set_cons_succ, List.set_cons_zero, List.range_succ, List.map_append, List.map_cons, List.map_nil]
theorem row_turn {G : Glb} {h0 : Hh} {kvs : List (List Key × D)} {K : KS} (dk : DK kvs K) {s i : Nat} (hs : s ≤ 12) (hi : i < s) {L d7 : D} : exes G rwBody [.int (s : Nat), L, .cel h0.length, .cel (h0.length + 1), .int (i : Nat), .und, .und, d7, .und] (hT h0 kvs s K i) = .ok .nx [.int (s : Nat), L, .cel h0.length, .cel (h0.length + 1), .int (i : Nat), .und, .und, d7, .und] (hT h0 kvs s K (i + 1)) := by
  have rc : rcv .append (.cel (h0.length + 1)) (hT h0 kvs s K i) = true := by
    have := hT_l (h0 := h0) (kvs := kvs) (s := s) (K := K) (i := i) (t := [])
    rw [List.append_nil] at this
    simp only [rcv, lsOf, this, Option.isSome_some]
  have ap : mtf false .append (.cel (h0.length + 1)) [.cel (hT h0 kvs s K i).length] (hT h0 kvs s K i ++ [Ob.lst (rowT s K i)]) = .ok .non (hT h0 kvs s K (i + 1)) := by
    have hz : (celT (h0.length + 2) i).length < sizeL := by simp only [celT, List.length_map, List.length_range]; unfold sizeL; omega
    simp only [mtf, hT_l, hz, if_true]
    rw [hT_up]
  refine xs_nx (x_ex (v := .non) (h1 := hT h0 kvs s K (i + 1)) (v_mt (h1 := hT h0 kvs s K i) (v_var rfl (fun z => by cases z)) rc (vs_cons (x := .cel (hT h0 kvs s K i).length) (h1 := hT h0 kvs s K i ++ [.lst (rowT s K i)]) ?_ vs_nil) ap)) xs_nil
  refine lc_rng (s := s) (f := valT K i) (by omega) (v_var rfl (fun z => by cases z)) (fun j hj => ?_) ?_
  · have v4 : ev G (.var 4) ((wipeD [.int (s : Nat), L, .cel h0.length, .cel (h0.length + 1), .int (i : Nat), .und, .und, d7, .und] [7]).set 7 (.int (j : Nat))) (hT h0 kvs s K i) = .ok (.int (i : Nat)) (hT h0 kvs s K i) := v_var rfl (fun z => by cases z)
    have v7 : ev G (.var 7) ((wipeD [.int (s : Nat), L, .cel h0.length, .cel (h0.length + 1), .int (i : Nat), .und, .und, d7, .und] [7]).set 7 (.int (j : Nat))) (hT h0 kvs s K i) = .ok (.int (j : Nat)) (hT h0 kvs s K i) := v_var rfl (fun z => by cases z)
    have v2 : ev G (.var 2) ((wipeD [.int (s : Nat), L, .cel h0.length, .cel (h0.length + 1), .int (i : Nat), .und, .und, d7, .und] [7]).set 7 (.int (j : Nat))) (hT h0 kvs s K i) = .ok (.cel h0.length) (hT h0 kvs s K i) := v_var rfl (fun z => by cases z)
    have ce := v_cmp (o := .eq) v4 v7 co_eqI
    by_cases hn : i = j
    · subst hn
      rw [decide_eq_true rfl] at ce
      refine v_ifT ce ?_
      unfold valT
      rw [if_pos rfl]
      exact v_int
    · rw [decide_eq_false (by omega)] at ce
      obtain ⟨v, gv, iv⟩ := get_row (hT_d (h0 := h0) (kvs := kvs) (s := s) (K := K) (i := i)) dk i j hn
      have rc2 : rcv .get (.cel h0.length) (hT h0 kvs s K i) = true := by simp only [rcv, hT_d]
      refine v_ifF ce (v_idx (v_mt v2 rc2 (vs_cons (v_tup (vs_cons v4 (vs_cons v7 vs_nil)) (by simp)) (vs_cons (v_tup (vs_cons v_non (vs_cons v_non vs_nil)) (by simp)) vs_nil)) gv) v_int iv)
  · rw [newT, if_pos (sz_of (by simp; omega))]
    rfl
theorem numB_of {s : Nat} (hs : 1 ≤ s ∧ s ≤ 12) : numB (.int (s : Nat)) = true := by
  simp only [numB]
  simp
  omega
theorem told_ok {n : Nat} {h : Hh} (hc : Cl h.length h) {s : Nat} (hs : 1 ≤ s ∧ s ≤ 12) {xs : List (Int × Int × Int)} (E : ∀ x ∈ xs, EntOk s x) (hl : xs.length ≤ 100) :
    (∃ p q kvs, runK (fun _ _ => none) 0 xs = .inl (p, q) ∧ (∀ r ∈ kvs, ∃ z, r.2 = pairD z) ∧ (gl wh (n + 6)).call 7 [.int (s : Nat), logD xs] h = .ok (clD p q) (h ++ [.dT kvs])) ∨
    (∃ K kvs, runK (fun _ _ => none) 0 xs = .inr K ∧ DK kvs K ∧ (gl wh (n + 6)).call 7 [.int (s : Nat), logD xs] h = .ok (.tup [.str "told", .cel (h.length + 1)]) (hT h kvs s K s)) := by
  have e : (gl wh (n + 6)).call 7 [.int (s : Nat), logD xs] h = callFn (gl wh (n + 5)) f7 [.int (s : Nat), logD xs] h := rfl
  rw [e]
  have LL : logD xs ≠ .und := fun z => by cases z
  have tb := tb_loop (G := gl wh (n + 5)) (s := s) (L := logD xs) (h0 := h) LL hl xs.length 0 .und .und (fun _ _ => none) [] (by omega) ⟨fun o t => rfl, fun p hp => by cases hp⟩ (by simp)
  rw [List.drop_zero] at tb
  have s1 : exe (gl wh (n + 5)) (.ex (.call 6 (.cons (.var 0) (.cons (.var 1) .nil)))) [.int (s : Nat), logD xs, .und, .und, .und, .und, .und, .und, .und] h = .ok .nx [.int (s : Nat), logD xs, .und, .und, .und, .und, .und, .und, .und] h := x_ex (v_call (vs_cons (v_var rfl (fun z => by cases z)) (vs_cons (v_var rfl LL) vs_nil)) (chklog_ok (wh := wh) (n := n) hc (numB_of hs) E hl))
  have s2 : exe (gl wh (n + 5)) (.asg (.nm 2) (.dT true)) [.int (s : Nat), logD xs, .und, .und, .und, .und, .und, .und, .und] h = .ok .nx [.int (s : Nat), logD xs, .cel h.length, .und, .und, .und, .und, .und, .und] (h ++ [.dT []]) := x_nm (by rw [ev]; rfl)
  have en : evI (gl wh (n + 5)) (.enum (.var 1)) [.int (s : Nat), logD xs, .cel h.length, .und, .und, .und, .und, .und, .und] (h ++ [.dT []]) = .ok (.en (.fz (xs.map entD))) (h ++ [.dT []]) := by
    rw [evI, v_var (d := logD xs) rfl LL, bind_ok]; rfl
  have ln : (Src.en (.fz (xs.map entD))).len (h ++ [.dT []]) = xs.length := by simp [Src.len]
  rcases tb with ⟨p, q, kvs, e', hr, ha, hq⟩ | ⟨K, kvs, d4, d7, hr, dk, hq⟩
  · refine .inl ⟨p, q, kvs, hr, ha, call_keep (e := e') rfl rfl ?_⟩
    show exes _ b7 [.int (s : Nat), logD xs, .und, .und, .und, .und, .und, .und, .und] _ = _
    unfold b7
    exact xs_nx s1 (xs_nx s2 (xs_ret (x_fr en (by rw [ln]; exact hq))))
  · obtain ⟨e2, h2, q2, d72, rfl, rfl⟩ := loopS_rng (lo := 0) (N := s) (body := lpB (gl wh (n + 5)) (.nm 4) [4] rwBody) (fun i e h' => ∃ d7, e = [.int (s : Nat), logD xs, .cel h.length, .cel (h.length + 1), .und, .und, .und, d7, .und] ∧ h' = hT h kvs s K i) (by
      rintro i e h' hi ⟨d7, rfl, rfl⟩
      refine ⟨_, _, lp_ok (e1 := [.int (s : Nat), logD xs, .cel h.length, .cel (h.length + 1), .int (i : Nat), .und, .und, d7, .und]) (h1 := hT h kvs s K i) (by simp only [evT, List.set_cons_succ, List.set_cons_zero, Int.zero_add]) (row_turn dk hs.2 hi), d7, rfl, rfl⟩) s 0 [.int (s : Nat), logD xs, .cel h.length, .cel (h.length + 1), .und, .und, .und, d7, .und] (hT h kvs s K 0) (by omega) ⟨d7, rfl, rfl⟩
    refine .inr ⟨K, kvs, hr, dk, call_keep (e := [.int (s : Nat), logD xs, .cel h.length, .cel (h.length + 1), .und, .und, .und, d72, .und]) rfl rfl ?_⟩
    show exes _ b7 [.int (s : Nat), logD xs, .und, .und, .und, .und, .und, .und, .und] _ = _
    unfold b7
    have s3 : exe (gl wh (n + 5)) (.asg (.nm 3) (.lst true .nil)) [.int (s : Nat), logD xs, .cel h.length, .und, d4, .und, .und, d7, .und] (h ++ [.dT kvs]) = .ok .nx [.int (s : Nat), logD xs, .cel h.length, .cel (h.length + 1), d4, .und, .und, d7, .und] (hT h kvs s K 0) := x_nm (by
      rw [ev, evs, bind_ok, newT, if_pos (sz_of (by simp))]
      unfold hT celT
      simp)
    have s4 : exe (gl wh (n + 5)) (.fr (.rng1 (.var 0)) (.nm 4) rwBody [4]) [.int (s : Nat), logD xs, .cel h.length, .cel (h.length + 1), d4, .und, .und, d7, .und] (hT h kvs s K 0) = .ok .nx [.int (s : Nat), logD xs, .cel h.length, .cel (h.length + 1), .und, .und, .und, d72, .und] (hT h kvs s K s) := x_fr (src := .rng 0 s) (h1 := hT h kvs s K 0) (rngN_ok (v_var rfl (fun z => by cases z)) (by omega)) q2
    refine xs_nx s1 (xs_nx s2 (xs_nx (x_fr en (by rw [ln]; exact hq)) (xs_nx s3 (xs_nx s4 (xs_ret (x_rt (v_tup (vs_cons v_str (vs_cons (v_var rfl (fun z => by cases z)) vs_nil)) (by simp))))))))
end Tx
end Mn
namespace Mn
namespace Tx
open PySem L2
variable {wh : (List D → Hh → Res D) → (List D → Hh → SRes) → List D → Hh → SRes}
/-! ### what is due -/
def upD (f : Nat → Nat → D) (o t : Nat) (v : D) : Nat → Nat → D := fun i j => if i = o ∧ j = t then v else f i j
def hD (h0 : Hh) (f : Nat → Nat → D) (s : Nat) (pl : List (List Key × D)) : Hh := h0 ++ ((List.range s).map (fun i => Ob.lst ((List.range s).map (f i))) ++ [Ob.lst (celT h0.length s), Ob.dT pl])
theorem upD_row {s : Nat} {f : Nat → Nat → D} {o t : Nat} {v : D} : ((List.range s).map (f o)).set t v = (List.range s).map (upD f o t v o) := by
  apply List.ext_getElem?
  intro j
  by_cases hj : j < s
  · by_cases h : t = j
    · subst h
      rw [List.getElem?_set_self (by simpa using hj), List.getElem?_map, List.getElem?_range hj]
      simp [upD]
    · rw [List.getElem?_set_ne h, List.getElem?_map, List.getElem?_map, List.getElem?_range hj]
      simp only [Option.map_some, upD]
      rw [if_neg (fun z => h z.2.symm)]
  · rw [List.getElem?_eq_none (by simp; omega), List.getElem?_eq_none (by simp; omega)]
theorem hD_row {h0 : Hh} {f : Nat → Nat → D} {s : Nat} {pl : List (List Key × D)} {i : Nat} (hi : i < s) : (hD h0 f s pl)[h0.length + i]? = some (.lst ((List.range s).map (f i))) := by
  unfold hD
  rw [List.getElem?_append_right (by omega), Nat.add_sub_cancel_left, List.getElem?_append_left (by simpa using hi), List.getElem?_map, List.getElem?_range hi]; rfl
theorem hD_tbl {h0 : Hh} {f : Nat → Nat → D} {s : Nat} {pl : List (List Key × D)} : (hD h0 f s pl)[h0.length + s]? = some (.lst (celT h0.length s)) := by
  unfold hD
  rw [List.getElem?_append_right (by omega), Nat.add_sub_cancel_left, List.getElem?_append_right (by simp)]
  simp
theorem hD_pl {h0 : Hh} {f : Nat → Nat → D} {s : Nat} {pl : List (List Key × D)} : (hD h0 f s pl)[h0.length + s + 1]? = some (.dT pl) := by
  unfold hD
  rw [List.getElem?_append_right (by omega), show h0.length + s + 1 - h0.length = s + 1 by omega, List.getElem?_append_right (by simp)]
  simp
theorem hD_put {h0 : Hh} {f : Nat → Nat → D} {s : Nat} {pl pl' : List (List Key × D)} : (hD h0 f s pl).set (h0.length + s + 1) (.dT pl') = hD h0 f s pl' := by
  unfold hD
  rw [List.set_append_right _ _ (by omega), show h0.length + s + 1 - h0.length = s + 1 by omega, List.set_append_right _ _ (by simp)]
  simp
theorem hD_set {h0 : Hh} {f : Nat → Nat → D} {s : Nat} {pl : List (List Key × D)} {o t : Nat} {v : D} (ho : o < s) : (hD h0 f s pl).set (h0.length + o) (.lst (((List.range s).map (f o)).set t v)) = hD h0 (upD f o t v) s pl := by
  unfold hD
  rw [List.set_append_right _ _ (by omega), Nat.add_sub_cancel_left, List.set_append_left _ _ (by simpa using ho), upD_row]
  congr 2
  apply List.ext_getElem?
  intro i
  by_cases hi : i < s
  · by_cases h : o = i
    · subst h
      rw [List.getElem?_set_self (by simpa using hi), List.getElem?_map, List.getElem?_range hi]
      rfl
    · rw [List.getElem?_set_ne h, List.getElem?_map, List.getElem?_map, List.getElem?_range hi]
      simp only [Option.map_some]
      congr 2
      apply List.map_congr_left
      intro j _
      simp only [upD]
      rw [if_neg (fun z => h z.1.symm)]
  · rw [List.getElem?_eq_none (by simp; omega), List.getElem?_eq_none (by simp; omega)]
theorem hD_putI {h0 : Hh} {f : Nat → Nat → D} {s : Nat} {pl : List (List Key × D)} {o t : Nat} {v : D} (ho : o < s) (ht : t < s) : putI (hD h0 f s pl) (.cel (h0.length + o)) (.int (t : Nat)) v = some (hD h0 (upD f o t v) s pl) := by
  have hl : ((List.range s).map (f o)).length = s := by simp
  simp only [putI, hD_row ho, hl]
  rw [ixN_of (by omega) (by omega)]
  simp only [Int.toNat_natCast]
  rw [hD_set ho]
theorem hD_ix {h0 : Hh} {f : Nat → Nat → D} {s : Nat} {pl : List (List Key × D)} {o : Nat} (ho : o < s) : idxop (.cel (h0.length + s)) (.int (o : Nat)) (hD h0 f s pl) = some (.cel (h0.length + o)) := by
  rw [ix_cel hD_tbl, atI_of (by omega) (by simp [celT]; omega)]
  simp [celT, List.getElem?_range ho]
theorem hD_ix2 {h0 : Hh} {f : Nat → Nat → D} {s : Nat} {pl : List (List Key × D)} {o t : Nat} (ho : o < s) (ht : t < s) : idxop (.cel (h0.length + o)) (.int (t : Nat)) (hD h0 f s pl) = some (f o t) := by
  rw [ix_cel (hD_row ho), atI_of (by omega) (by simp; omega)]
  simp [List.getElem?_range ht]
/-! ### the places -/
def Sym (K : KS) : Prop := ∀ o t, o ≠ t → K t o = (K o t).map fun p => (-p.1, p.2)
theorem Sym.up {K : KS} (h : Sym K) {o t z : Int} {i : Nat} (hn : o ≠ t) : Sym (kUp K o t z i) := by
  intro a b hab
  unfold kUp
  by_cases h1 : a = t ∧ b = o
  · obtain ⟨rfl, rfl⟩ := h1
    rw [if_neg (fun q => hab q.1.symm), if_pos ⟨rfl, rfl⟩, if_pos ⟨rfl, rfl⟩]
    simp
  · by_cases h2 : a = o ∧ b = t
    · obtain ⟨rfl, rfl⟩ := h2
      rw [if_pos ⟨rfl, rfl⟩, if_neg h1, if_pos ⟨rfl, rfl⟩]
      simp
    · rw [if_neg (fun q => h2 ⟨q.2, q.1⟩), if_neg (fun q => h1 ⟨q.2, q.1⟩), if_neg h1, if_neg h2]
      exact h a b hab
def mnI (i j : Int) : Int := if j < i then j else i
def mxI (i j : Int) : Int := if j > i then j else i
def kP (o t : Int) : List Key := k2 (mnI o t) (mxI o t)
theorem kP_eq {a b o t : Int} (hab : a ≠ b) (hn : o ≠ t) : kP a b = kP o t ↔ (a = o ∧ b = t) ∨ (a = t ∧ b = o) := by
  unfold kP
  rw [k2_ne]
  unfold mnI mxI
  split <;> split <;> split <;> split <;> omega
def DP (pl : List (List Key × D)) (K : KS) : Prop := ∀ o t, o ≠ t → valO pl (kP o t) = (K o t).map fun p => D.int (p.2 : Nat)
theorem DP.up {pl : List (List Key × D)} {K : KS} (d : DP pl K) {o t z : Int} {i : Nat} (hn : o ≠ t) : DP (putO pl (kP o t) (.int (i : Nat))) (kUp K o t z i) := by
  intro a b hab
  rw [valO_put]
  unfold kUp
  by_cases h1 : a = t ∧ b = o
  · rw [if_pos ((kP_eq hab hn).mpr (.inr h1)), if_pos h1]; rfl
  · by_cases h2 : a = o ∧ b = t
    · rw [if_pos ((kP_eq hab hn).mpr (.inl h2)), if_neg h1, if_pos h2]; rfl
    · rw [if_neg (fun q => ((kP_eq hab hn).mp q).elim h2 h1), if_neg h1, if_neg h2]
      exact d a b hab
theorem DP.re {pl : List (List Key × D)} {K : KS} (d : DP pl K) (sy : Sym K) {o t : Int} (hn : o ≠ t) {p : Int × Nat} (hp : K o t = some p) : DP (putO pl (kP o t) (.int (p.2 : Nat))) K := by
  intro a b hab
  rw [valO_put]
  split
  · rename_i h
    rcases (kP_eq hab hn).mp h with ⟨rfl, rfl⟩ | ⟨rfl, rfl⟩
    · rw [hp]; rfl
    · rw [sy _ _ hn, hp]; rfl
  · exact d a b hab
theorem valT_up {K : KS} {o t : Nat} {z : Int} {i : Nat} (hn : o ≠ t) : upD (upD (valT K) o t (.int z)) t o (.int (0 - z)) = valT (kUp K o t z i) := by
  funext a b
  unfold upD valT kUp
  by_cases h1 : a = t ∧ b = o
  · obtain ⟨rfl, rfl⟩ := h1
    rw [if_pos ⟨rfl, rfl⟩, if_neg (fun q => hn q.symm), if_pos ⟨rfl, rfl⟩, Int.zero_sub]
  · rw [if_neg h1]
    by_cases h2 : a = o ∧ b = t
    · obtain ⟨rfl, rfl⟩ := h2
      rw [if_pos ⟨rfl, rfl⟩, if_neg hn, if_neg (by omega), if_pos ⟨rfl, rfl⟩]
    · rw [if_neg h2]
      split
      · rfl
      · rw [if_neg (by omega), if_neg (by omega)]
theorem valT_re {K : KS} (sy : Sym K) {o t : Nat} {p : Int × Nat} (hn : o ≠ t) (hp : K o t = some p) : upD (upD (valT K) o t (.int p.1)) t o (.int (0 - p.1)) = valT K := by
  have hn' : (o : Int) ≠ t := by omega
  funext a b
  unfold upD
  by_cases h1 : a = t ∧ b = o
  · obtain ⟨rfl, rfl⟩ := h1
    rw [if_pos ⟨rfl, rfl⟩]
    unfold valT
    rw [if_neg (fun q => hn q.symm), sy _ _ hn', hp]
    simp
  · rw [if_neg h1]
    by_cases h2 : a = o ∧ b = t
    · obtain ⟨rfl, rfl⟩ := h2
      rw [if_pos ⟨rfl, rfl⟩]
      unfold valT
      rw [if_neg hn, hp]
    · rw [if_neg h2]
/-! ### the loop -/
abbrev mmE : Mn.E := (.tup (.cons (.bi false .min (.cons (.var 6) (.cons (.var 7) .nil))) (.cons (.bi false .max (.cons (.var 6) (.cons (.var 7) .nil))) .nil)))
abbrev rotE : Mn.E := (.idx (.idx (.var 2) (.var 6)) (.var 7))
abbrev duBody : Ss := (.cons (.asg (.tup (.cons (.nm 6) (.cons (.nm 7) (.cons (.nm 8) .nil)))) (.var 5)) (.cons (.ite (.and (.cmp .isnt rotE .non) (.one (.cmp .ne rotE (.var 8)))) (.cons (.ret (.tup (.cons (.str "clash") (.cons (.tup (.cons (.idx (.var 3) mmE) (.cons (.var 4) .nil))) .nil)))) .nil) .nil) (.cons (.asg (.sub (.var 3) mmE) (.mt .get (.var 3) (.cons mmE (.cons (.var 4) .nil)))) (.cons (.asg (.tup (.cons (.sub (.idx (.var 2) (.var 6)) (.var 7)) (.cons (.sub (.idx (.var 2) (.var 7)) (.var 6)) .nil))) (.tup (.cons (.var 8) (.cons (.bin false .sub (.int 0) (.var 8)) .nil)))) .nil))))
theorem get_p {h : Hh} {m : Nat} {kvs : List (List Key × D)} (e : h[m]? = some (.dT kvs)) (o t : Int) (w : D) : mtf false .get (.cel m) [.tup [.int (mnI o t), .int (mxI o t)], w] h = .ok ((valO kvs (kP o t)).getD w) h := by
  simp only [mtf, get_k e]
  rfl
section
variable {G : Glb} {h0 : Hh} {s o t : Nat} {z : Int} {L : D} {i : Nat}
def envU (h0 : Hh) (s : Nat) (L : D) (i o t : Nat) (z : Int) : List D := [.int (s : Nat), L, .cel (h0.length + s), .cel (h0.length + s + 1), .int (i : Nat), entD (o, t, z), .int (o : Nat), .int (t : Nat), .int z]
theorem envU_v {hh : Hh} : (ev G (.var 2) (envU h0 s L i o t z) hh = .ok (.cel (h0.length + s)) hh ∧ ev G (.var 3) (envU h0 s L i o t z) hh = .ok (.cel (h0.length + s + 1)) hh ∧ ev G (.var 4) (envU h0 s L i o t z) hh = .ok (.int (i : Nat)) hh) ∧ ev G (.var 6) (envU h0 s L i o t z) hh = .ok (.int (o : Nat)) hh ∧ ev G (.var 7) (envU h0 s L i o t z) hh = .ok (.int (t : Nat)) hh ∧ ev G (.var 8) (envU h0 s L i o t z) hh = .ok (.int z) hh :=
  ⟨⟨v_var rfl (fun z => by cases z), v_var rfl (fun z => by cases z), v_var rfl (fun z => by cases z)⟩, v_var rfl (fun z => by cases z), v_var rfl (fun z => by cases z), v_var rfl (fun z => by cases z)⟩
theorem mm_ok {hh : Hh} : ev G mmE (envU h0 s L i o t z) hh = .ok (.tup [.int (mnI o t), .int (mxI o t)]) hh :=
  v_tup (vs_cons (v_bi (vs_cons envU_v.2.1 (vs_cons envU_v.2.2.1 vs_nil)) bf_min) (vs_cons (v_bi (vs_cons envU_v.2.1 (vs_cons envU_v.2.2.1 vs_nil)) bf_max) vs_nil)) (by simp)
theorem rot_ok {f : Nat → Nat → D} {pl : List (List Key × D)} (ho : o < s) (ht : t < s) : ev G rotE (envU h0 s L i o t z) (hD h0 f s pl) = .ok (f o t) (hD h0 f s pl) :=
  v_idx (v_idx envU_v.1.1 envU_v.2.1 (hD_ix ho)) envU_v.2.2.1 (hD_ix2 ho ht)
theorem du_tail {f : Nat → Nat → D} {pl : List (List Key × D)} (hl : pl.length < 1000) (ho : o < s) (ht : t < s) : exes G (.cons (.asg (.sub (.var 3) mmE) (.mt .get (.var 3) (.cons mmE (.cons (.var 4) .nil)))) (.cons (.asg (.tup (.cons (.sub (.idx (.var 2) (.var 6)) (.var 7)) (.cons (.sub (.idx (.var 2) (.var 7)) (.var 6)) .nil))) (.tup (.cons (.var 8) (.cons (.bin false .sub (.int 0) (.var 8)) .nil)))) .nil)) (envU h0 s L i o t z) (hD h0 f s pl) = .ok .nx (envU h0 s L i o t z) (hD h0 (upD (upD f o t (.int z)) t o (.int (0 - z))) s (putO pl (kP o t) ((valO pl (kP o t)).getD (.int (i : Nat))))) := by
  have rc : rcv .get (.cel (h0.length + s + 1)) (hD h0 f s pl) = true := by simp only [rcv, hD_pl]
  refine xs_nx (x_asg (e2 := envU h0 s L i o t z) (h2 := hD h0 f s (putO pl (kP o t) ((valO pl (kP o t)).getD (.int (i : Nat))))) (v_mt envU_v.1.2.1 rc (vs_cons mm_ok (vs_cons envU_v.1.2.2 vs_nil)) (get_p hD_pl o t _)) ?_) (xs_nx (x_asg (v := .tup [.int z, .int (0 - z)]) (v_tup (vs_cons envU_v.2.2.2 (vs_cons (v_bin v_int envU_v.2.2.2 bo_sub) vs_nil)) (by simp)) ?_) xs_nil)
  · rw [evT, envU_v.1.2.1, bind_ok, mm_ok, bind_ok, put_k hD_pl hl, hD_put]
    rfl
  · simp only [evT, evTs]
    rw [v_idx envU_v.1.1 envU_v.2.1 (hD_ix ho), bind_ok, envU_v.2.2.1, bind_ok, hD_putI ho ht]
    simp only [bind_ok]
    rw [v_idx envU_v.1.1 envU_v.2.2.1 (hD_ix ht), bind_ok, envU_v.2.1, bind_ok, hD_putI ht ho]
    rfl
end
theorem du_loop {G : Glb} {s : Nat} {L : D} {h0 : Hh} {xs : List (Int × Int × Int)} (E : ∀ x ∈ xs, EntOk s x) (hlen : xs.length ≤ 100) : ∀ (n i : Nat) (K : KS) (pl : List (List Key × D)), i + n = xs.length → Sym K → DP pl K → pl.length ≤ i →
    (∃ p q pl' f' e', runK K i (xs.drop i) = .inl (p, q) ∧ loopS (.en (.fz (xs.map entD))) (lpB G (.tup (.cons (.nm 4) (.cons (.nm 5) .nil))) [4, 5, 6, 7, 8] duBody) n i [.int (s : Nat), L, .cel (h0.length + s), .cel (h0.length + s + 1), .und, .und, .und, .und, .und] (hD h0 (valT K) s pl) = .ok (.ret (clD p q)) e' (hD h0 f' s pl')) ∨
    (∃ K' pl', runK K i (xs.drop i) = .inr K' ∧ loopS (.en (.fz (xs.map entD))) (lpB G (.tup (.cons (.nm 4) (.cons (.nm 5) .nil))) [4, 5, 6, 7, 8] duBody) n i [.int (s : Nat), L, .cel (h0.length + s), .cel (h0.length + s + 1), .und, .und, .und, .und, .und] (hD h0 (valT K) s pl) = .ok .nx [.int (s : Nat), L, .cel (h0.length + s), .cel (h0.length + s + 1), .und, .und, .und, .und, .und] (hD h0 (valT K') s pl'))
  | 0, i, K, pl, hn, sy, dp, _ => by
    right
    have : xs.drop i = [] := List.drop_eq_nil_of_le (by omega)
    refine ⟨K, pl, by rw [this]; rfl, ?_⟩
    simp only [loopS, Src.at]
    rw [List.getElem?_eq_none (by simp; omega)]
  | n + 1, i, K, pl, hn, sy, dp, hk => by
    have hi : i < xs.length := by omega
    have hat : (Src.en (.fz (xs.map entD))).at i (hD h0 (valT K) s pl) = some (some (.tup [.int (i : Nat), entD xs[i]])) := by
      simp only [Src.at, List.getElem?_map, List.getElem?_eq_getElem hi, Option.map_some]
    have hdr : xs.drop i = xs[i] :: xs.drop (i + 1) := List.drop_eq_getElem_cons hi
    have hE := E xs[i] (List.getElem_mem hi)
    generalize hx : xs[i] = x at hat hdr hE
    obtain ⟨o, t, z⟩ := x
    obtain ⟨o, rfl⟩ := Int.eq_ofNat_of_zero_le hE.a.1
    obtain ⟨t, rfl⟩ := Int.eq_ofNat_of_zero_le hE.b.1
    have ho : o < s := by have := hE.a.2; simp only at this; omega
    have ht : t < s := by have := hE.b.2; simp only at this; omega
    have hne : o ≠ t := fun z => hE.ne (by rw [z])
    have hnI : (o : Int) ≠ t := by omega
    have e1 : evT G (.tup (.cons (.nm 4) (.cons (.nm 5) .nil))) (.tup [.int (i : Nat), entD ((o : Int), (t : Int), z)]) [.int (s : Nat), L, .cel (h0.length + s), .cel (h0.length + s + 1), .und, .und, .und, .und, .und] (hD h0 (valT K) s pl) = .ok [.int (s : Nat), L, .cel (h0.length + s), .cel (h0.length + s + 1), .int (i : Nat), entD (o, t, z), .und, .und, .und] (hD h0 (valT K) s pl) := by
      simp only [evT, evTs, bind_ok, List.set_cons_succ, List.set_cons_zero]
    have st1 : ∀ {r : Ss} {Q : SRes}, exes G r (envU h0 s L i o t z) (hD h0 (valT K) s pl) = Q → exes G (.cons (.asg (.tup (.cons (.nm 6) (.cons (.nm 7) (.cons (.nm 8) .nil)))) (.var 5)) r) [.int (s : Nat), L, .cel (h0.length + s), .cel (h0.length + s + 1), .int (i : Nat), entD (o, t, z), .und, .und, .und] (hD h0 (valT K) s pl) = Q := fun k =>
      xs_nx (x_asg (v := entD (o, t, z)) (v_var rfl (fun z => by cases z)) (by simp only [entD, evT, evTs, bind_ok, List.set_cons_succ, List.set_cons_zero]; rfl)) k
    have rot := rot_ok (G := G) (h0 := h0) (L := L) (i := i) (z := z) (f := valT K) (pl := pl) ho ht
    have go : ∀ (K' : KS) (pl' : List (List Key × D)), exes G duBody [.int (s : Nat), L, .cel (h0.length + s), .cel (h0.length + s + 1), .int (i : Nat), entD (o, t, z), .und, .und, .und] (hD h0 (valT K) s pl) = .ok .nx (envU h0 s L i o t z) (hD h0 (valT K') s pl') → runK K i (xs.drop i) = runK K' (i + 1) (xs.drop (i + 1)) → Sym K' → DP pl' K' → pl'.length ≤ i + 1 →
      (∃ p q pl'' f' e', runK K i (xs.drop i) = .inl (p, q) ∧ loopS (.en (.fz (xs.map entD))) (lpB G (.tup (.cons (.nm 4) (.cons (.nm 5) .nil))) [4, 5, 6, 7, 8] duBody) (n + 1) i [.int (s : Nat), L, .cel (h0.length + s), .cel (h0.length + s + 1), .und, .und, .und, .und, .und] (hD h0 (valT K) s pl) = .ok (.ret (clD p q)) e' (hD h0 f' s pl'')) ∨
      (∃ K'' pl'', runK K i (xs.drop i) = .inr K'' ∧ loopS (.en (.fz (xs.map entD))) (lpB G (.tup (.cons (.nm 4) (.cons (.nm 5) .nil))) [4, 5, 6, 7, 8] duBody) (n + 1) i [.int (s : Nat), L, .cel (h0.length + s), .cel (h0.length + s + 1), .und, .und, .und, .und, .und] (hD h0 (valT K) s pl) = .ok .nx [.int (s : Nat), L, .cel (h0.length + s), .cel (h0.length + s + 1), .und, .und, .und, .und, .und] (hD h0 (valT K'') s pl'')) := fun K' pl' body stp sy' dp' hk' => by
      have lp := lp_ok (fg := [4, 5, 6, 7, 8]) e1 body
      have ih := du_loop (G := G) (L := L) (h0 := h0) E hlen n (i + 1) K' pl' (by omega) sy' dp' hk'
      rw [stp, loopS_nx hat lp]
      exact ih
    have hv := dp o t hnI
    cases hK : K o t with
    | none =>
      rw [hK] at hv
      have vv : valT K o t = .non := by unfold valT; rw [if_neg hne, hK]
      rw [vv] at rot
      refine go (kUp K o t z i) _ (st1 (xs_nx (x_f (v_andF (v_cmp (o := .isnt) rot v_non rfl)) xs_nil) ((du_tail (by omega) ho ht).trans (by rw [valT_up hne, hv]; rfl)))) ?_ (sy.up hnI) (dp.up hnI) ?_
      · rw [hdr]
        simp only [runK, hK]
      · have := putO_len pl (kP o t) (.int (i : Nat))
        omega
    | some p =>
      rw [hK] at hv
      have vv : valT K o t = .int p.1 := by unfold valT; rw [if_neg hne, hK]
      rw [vv] at rot
      have c1 := v_cmp (o := .isnt) (t := true) rot v_non rfl
      have c2 := v_cmp (o := .ne) rot envU_v.2.2.2 co_neI
      by_cases hz : p.1 = z
      · rw [decide_eq_true hz] at c2
        subst hz
        refine go K _ (st1 (xs_nx (x_f (v_andT c1 (v_one c2)) xs_nil) ((du_tail (by omega) ho ht).trans (by rw [valT_re sy hne hK, hv]; rfl)))) ?_ sy (dp.re sy hnI hK) ?_
        · rw [hdr]
          simp only [runK, hK]
          rw [if_pos trivial]
        · have := putO_len pl (kP o t) (.int (p.2 : Nat))
          omega
      · left
        rw [decide_eq_false hz] at c2
        have ixp := ix_k (hD_pl (h0 := h0) (f := valT K) (s := s) (pl := pl)) (o := mnI o t) (t := mxI o t) hv
        refine ⟨p.2, i, pl, valT K, envU h0 s L i o t z, ?_, ?_⟩
        · rw [hdr]
          simp only [runK, hK]
          rw [if_neg hz]
        · have body : exes G duBody [.int (s : Nat), L, .cel (h0.length + s), .cel (h0.length + s + 1), .int (i : Nat), entD (o, t, z), .und, .und, .und] (hD h0 (valT K) s pl) = .ok (.ret (clD p.2 i)) (envU h0 s L i o t z) (hD h0 (valT K) s pl) :=
            st1 (xs_ret (x_t (v_andT c1 (v_one c2)) (xs_ret (x_rt (v_tup (vs_cons v_str (vs_cons (v_tup (vs_cons (v_idx envU_v.1.2.1 mm_ok ixp) (vs_cons envU_v.1.2.2 vs_nil)) (by simp)) vs_nil)) (by simp))))))
          exact loopS_ret hat (lp_ret (fg := [4, 5, 6, 7, 8]) e1 body)
end Tx
end Mn
namespace Mn
namespace Tx
open PySem L2
variable {wh : (List D → Hh → Res D) → (List D → Hh → SRes) → List D → Hh → SRes}
theorem c13 {n : Nat} {ds : List D} {h : Hh} : (gl wh (n + 1)).call 13 ds h = callFn (gl wh n) f13 ds h := by
  show (match prg.fns[13]? with | some F => callFn (glb prg wh n) F ds h | none => .stk) = _
  have : prg.fns[13]? = some f13 := rfl
  rw [this]
theorem c14 {n : Nat} {ds : List D} {h : Hh} : (gl wh (n + 1)).call 14 ds h = callFn (gl wh n) f14 ds h := by
  show (match prg.fns[14]? with | some F => callFn (glb prg wh n) F ds h | none => .stk) = _
  have : prg.fns[14]? = some f14 := rfl
  rw [this]
theorem c15 {n : Nat} {ds : List D} {h : Hh} : (gl wh (n + 1)).call 15 ds h = callFn (gl wh n) f15 ds h := by
  show (match prg.fns[15]? with | some F => callFn (glb prg wh n) F ds h | none => .stk) = _
  have : prg.fns[15]? = some f15 := rfl
  rw [this]
theorem c16 {n : Nat} {ds : List D} {h : Hh} : (gl wh (n + 1)).call 16 ds h = callFn (gl wh n) f16 ds h := by
  show (match prg.fns[16]? with | some F => callFn (glb prg wh n) F ds h | none => .stk) = _
  have : prg.fns[16]? = some f16 := rfl
  rw [this]
theorem c17 {n : Nat} {ds : List D} {h : Hh} : (gl wh (n + 1)).call 17 ds h = callFn (gl wh n) f17 ds h := by
  show (match prg.fns[17]? with | some F => callFn (glb prg wh n) F ds h | none => .stk) = _
  have : prg.fns[17]? = some f17 := rfl
  rw [this]
theorem c20 {n : Nat} {ds : List D} {h : Hh} : (gl wh (n + 1)).call 20 ds h = callFn (gl wh n) f20 ds h := by
  show (match prg.fns[20]? with | some F => callFn (glb prg wh n) F ds h | none => .stk) = _
  have : prg.fns[20]? = some f20 := rfl
  rw [this]
theorem c21 {n : Nat} {ds : List D} {h : Hh} : (gl wh (n + 1)).call 21 ds h = callFn (gl wh n) f21 ds h := by
  show (match prg.fns[21]? with | some F => callFn (glb prg wh n) F ds h | none => .stk) = _
  have : prg.fns[21]? = some f21 := rfl
  rw [this]
theorem c22 {n : Nat} {ds : List D} {h : Hh} : (gl wh (n + 1)).call 22 ds h = callFn (gl wh n) f22 ds h := by
  show (match prg.fns[22]? with | some F => callFn (glb prg wh n) F ds h | none => .stk) = _
  have : prg.fns[22]? = some f22 := rfl
  rw [this]
theorem c24 {n : Nat} {ds : List D} {h : Hh} : (gl wh (n + 1)).call 24 ds h = callFn (gl wh n) f24 ds h := by
  show (match prg.fns[24]? with | some F => callFn (glb prg wh n) F ds h | none => .stk) = _
  have : prg.fns[24]? = some f24 := rfl
  rw [this]
def rowsD (s : Nat) (K : KS) : List D := (List.range s).map fun i => .lst (rowT s K i)
def dueD (s : Nat) (K : KS) : D := .tup [.str "told", .lst (rowsD s K)]
theorem valT_c {k : Nat} {K : KS} {i j : Nat} : clsd k (valT K i j) = true := by
  unfold valT
  split
  · rfl
  · split <;> rfl
theorem clsdL_of {k : Nat} {xs : List D} (h : ∀ d ∈ xs, clsd k d = true) : clsdL k xs = true := by
  induction xs with
  | nil => rfl
  | cons x xs ih => rw [clsdL, h x List.mem_cons_self, ih fun d hd => h d (List.mem_cons_of_mem _ hd)]; rfl
theorem rowT_c {k s : Nat} {K : KS} {i : Nat} : clsdL k (rowT s K i) = true := clsdL_of fun d hd => by
  unfold rowT at hd
  obtain ⟨j, _, rfl⟩ := List.mem_map.mp hd
  exact valT_c
theorem rowsD_c {k s : Nat} {K : KS} : clsdL k (rowsD s K) = true := clsdL_of fun d hd => by
  unfold rowsD at hd
  obtain ⟨j, _, rfl⟩ := List.mem_map.mp hd
  exact rowT_c
theorem dueD_c {k s : Nat} {K : KS} : clsd k (dueD s K) = true := by
  simp only [dueD, clsd, clsdL, rowsD_c, Bool.and_self]
theorem thaw_row {h0 : Hh} {K : KS} {s : Nat} {pl : List (List Key × D)} {i : Nat} (hi : i < s) : thaw (hD h0 (valT K) s pl) h0.length 2 (.cel (h0.length + i)) = .lst (rowT s K i) := by
  show (if h0.length + i < h0.length then D.cel (h0.length + i) else match (hD h0 (valT K) s pl)[h0.length + i]? with
    | some (.lst xs) => D.lst (xs.map (thaw (hD h0 (valT K) s pl) h0.length 1))
    | some (.dK kvs) => .dK (kvs.map fun p => (p.1, thaw (hD h0 (valT K) s pl) h0.length 1 p.2))
    | some (.dT kvs) => .dT (kvs.map fun p => (p.1, thaw (hD h0 (valT K) s pl) h0.length 1 p.2))
    | _ => .cel (h0.length + i)) = _
  rw [if_neg (by omega), hD_row hi]
  simp only [rowT, List.map_map]
  congr 1
  apply List.map_congr_left
  intro j _
  exact thaw_c valT_c
theorem thaw_rows {h0 : Hh} {K : KS} {s : Nat} {pl : List (List Key × D)} : thaw (hD h0 (valT K) s pl) h0.length 3 (.cel (h0.length + s)) = .lst (rowsD s K) := by
  show (if h0.length + s < h0.length then D.cel (h0.length + s) else match (hD h0 (valT K) s pl)[h0.length + s]? with
    | some (.lst xs) => D.lst (xs.map (thaw (hD h0 (valT K) s pl) h0.length 2))
    | some (.dK kvs) => .dK (kvs.map fun p => (p.1, thaw (hD h0 (valT K) s pl) h0.length 2 p.2))
    | some (.dT kvs) => .dT (kvs.map fun p => (p.1, thaw (hD h0 (valT K) s pl) h0.length 2 p.2))
    | _ => .cel (h0.length + s)) = _
  rw [if_neg (by omega), hD_tbl]
  simp only [celT, rowsD, List.map_map]
  congr 1
  apply List.map_congr_left
  intro i hi
  exact thaw_row (by simpa using hi)
theorem thaw_due {h0 : Hh} {K : KS} {s : Nat} {pl : List (List Key × D)} : thaw (hD h0 (valT K) s pl) h0.length 4 (.tup [.str "told", .cel (h0.length + s)]) = dueD s K := by
  show (if clsdL h0.length [.str "told", .cel (h0.length + s)] = true then D.tup [.str "told", .cel (h0.length + s)] else .tup ([.str "told", .cel (h0.length + s)].map (thaw (hD h0 (valT K) s pl) h0.length 3))) = _
  rw [if_neg (by simp [clsdL, clsd]), List.map_cons, List.map_cons, List.map_nil, thaw_rows]
  rfl
theorem hD_take {h0 : Hh} {f : Nat → Nat → D} {s : Nat} {pl : List (List Key × D)} : (hD h0 f s pl).take h0.length = h0 := by
  unfold hD
  rw [List.take_left']
  rfl
theorem hD_le {h0 : Hh} {f : Nat → Nat → D} {s : Nat} {pl : List (List Key × D)} : h0.length ≤ (hD h0 f s pl).length := by
  unfold hD
  simp
theorem due_rows {G : Glb} {h : Hh} {s : Nat} (hs : s ≤ 12) {L : D} : ev G (.lc true (.rng1 (.var 0)) (.nm 6) .nil (.lc true (.rng1 (.var 0)) (.nm 7) .nil (.ife (.cmp .eq (.var 6) (.var 7)) (.int 0) .non))) [.int (s : Nat), L, .und, .und, .und, .und, .und, .und, .und] h = .ok (.cel (h.length + s)) (h ++ ((List.range s).map (fun i => Ob.lst (rowT s (fun _ _ => none) i)) ++ [Ob.lst (celT h.length s)])) := by
  obtain ⟨acc, h', q, rfl, rfl⟩ := loopL_rng (lo := 0) (N := s) (st := lcB G (.nm 6) .nil (.lc true (.rng1 (.var 0)) (.nm 7) .nil (.ife (.cmp .eq (.var 6) (.var 7)) (.int 0) .non)) [.int (s : Nat), L, .und, .und, .und, .und, .und, .und, .und])
    (fun i acc h' => acc = celT h.length i ∧ h' = h ++ (List.range i).map (fun i => Ob.lst (rowT s (fun _ _ => none) i))) (sz_of (by omega)) (by
    rintro i acc h' hi ⟨rfl, rfl⟩
    refine ⟨.cel (h.length + i), _, lc_one (h1 := h ++ (List.range i).map (fun i => Ob.lst (rowT s (fun _ _ => none) i)) ++ [.lst (rowT s (fun _ _ => none) i)]) ?_, by unfold celT; rw [List.range_succ, List.map_append]; rfl, by rw [List.range_succ, List.map_append, ← List.append_assoc]; rfl⟩
    rw [Int.zero_add]
    refine lc_rng (s := s) (f := valT (fun _ _ => none) i) (by omega) (v_var rfl (fun z => by cases z)) (fun j hj => ?_) ?_
    · have ce := v_cmp (G := G) (a := .var 6) (b := .var 7) (o := .eq) (e := ((wipeD ((wipeD [.int (s : Nat), L, .und, .und, .und, .und, .und, .und, .und] [6]).set 6 (.int (i : Nat))) [7]).set 7 (.int (j : Nat)))) (h := h ++ (List.range i).map (fun i => Ob.lst (rowT s (fun _ _ => none) i))) (v_var rfl (fun z => by cases z)) (v_var rfl (fun z => by cases z)) co_eqI
      unfold valT
      by_cases hn : i = j
      · rw [decide_eq_true (by omega)] at ce
        rw [if_pos hn]
        exact v_ifT ce v_int
      · rw [decide_eq_false (by omega)] at ce
        rw [if_neg hn]
        exact v_ifF ce v_non
    · rw [newT, if_pos (sz_of (by simp; omega))]
      simp [rowT]) s 0 [] h (by omega) rfl ⟨rfl, by simp⟩
  refine v_lc (src := .rng 0 s) (rngN_ok (v_var rfl (fun z => by cases z)) (by omega)) q ?_
  rw [newT, if_pos (sz_of (by simp [celT]; omega))]
  simp
theorem due_ok {n : Nat} {h : Hh} (hc : Cl h.length h) {s : Nat} (hs : 1 ≤ s ∧ s ≤ 12) {xs : List (Int × Int × Int)} (E : ∀ x ∈ xs, EntOk s x) (hl : xs.length ≤ 100) :
    (∃ p q, runK (fun _ _ => none) 0 xs = .inl (p, q) ∧ (gl wh (n + 1)).call 22 [.int (s : Nat), logD xs] h = .ok (clD p q) h) ∨
    (∃ K, runK (fun _ _ => none) 0 xs = .inr K ∧ (gl wh (n + 1)).call 22 [.int (s : Nat), logD xs] h = .ok (dueD s K) h) := by
  rw [c22]
  have LL : logD xs ≠ .und := fun z => by cases z
  have du := du_loop (G := gl wh n) (s := s) (L := logD xs) (h0 := h) E hl xs.length 0 (fun _ _ => none) [] (by omega) (fun _ _ _ => rfl) (fun _ _ _ => rfl) (by simp)
  rw [List.drop_zero] at du
  have s1 : exe (gl wh n) (.par 2 3 (.lc true (.rng1 (.var 0)) (.nm 6) .nil (.lc true (.rng1 (.var 0)) (.nm 7) .nil (.ife (.cmp .eq (.var 6) (.var 7)) (.int 0) .non))) (.dT true)) [.int (s : Nat), logD xs, .und, .und, .und, .und, .und, .und, .und] h = .ok .nx [.int (s : Nat), logD xs, .cel (h.length + s), .cel (h.length + s + 1), .und, .und, .und, .und, .und] (hD h (valT fun _ _ => none) s []) := by
    refine x_par (v := .cel (h.length + s)) (w := .cel (h.length + s + 1)) (due_rows hs.2) ?_
    rw [ev]
    unfold hD rowT
    simp
    omega
  have en : evI (gl wh n) (.enum (.var 1)) [.int (s : Nat), logD xs, .cel (h.length + s), .cel (h.length + s + 1), .und, .und, .und, .und, .und] (hD h (valT fun _ _ => none) s []) = .ok (.en (.fz (xs.map entD))) (hD h (valT fun _ _ => none) s []) := by
    rw [evI, v_var (d := logD xs) rfl LL, bind_ok]; rfl
  have ln : (Src.en (.fz (xs.map entD))).len (hD h (valT fun _ _ => none) s []) = xs.length := by simp [Src.len]
  rcases du with ⟨p, q, pl, f', e', hr, hq⟩ | ⟨K, pl, hr, hq⟩
  · refine .inl ⟨p, q, hr, ?_⟩
    have r := call_ret (G := gl wh n) (F := f22) (ds := [.int (s : Nat), logD xs]) (h := h) (h' := hD h f' s pl) (d := clD p q) (e := e') rfl rfl (by
      show exes _ b22 [.int (s : Nat), logD xs, .und, .und, .und, .und, .und, .und, .und] _ = _
      unfold b22
      exact xs_nx s1 (xs_ret (x_fr en (by rw [ln]; exact hq)))) rfl hD_le (by rw [hD_take]; exact hc)
    rw [hD_take] at r
    exact r
  · refine .inr ⟨K, hr, ?_⟩
    have r := call_thaw (G := gl wh n) (F := f22) (ds := [.int (s : Nat), logD xs]) (h := h) (h' := hD h (valT K) s pl) (d := .tup [.str "told", .cel (h.length + s)]) (d' := dueD s K) (e := [.int (s : Nat), logD xs, .cel (h.length + s), .cel (h.length + s + 1), .und, .und, .und, .und, .und]) rfl rfl (by
      show exes _ b22 [.int (s : Nat), logD xs, .und, .und, .und, .und, .und, .und, .und] _ = _
      unfold b22
      exact xs_nx s1 (xs_nx (x_fr en (by rw [ln]; exact hq)) (xs_ret (x_rt (v_tup (vs_cons v_str (vs_cons (v_var rfl (fun z => by cases z)) vs_nil)) (by simp)))))) thaw_due dueD_c hD_le (by rw [hD_take]; exact hc)
    rw [hD_take] at r
    exact r
end Tx
end Mn
namespace Mn
namespace Tx
open PySem L2
variable {wh : (List D → Hh → Res D) → (List D → Hh → SRes) → List D → Hh → SRes}
/-! ### told and due are the same -/
/-- in this heap d reads as the tree v -/
def Rd (h : Hh) : Nat → D → D → Prop
  | 0, d, v => flat d = true ∧ d = v
  | k + 1, d, v => (flat d = true ∧ d = v) ∨ (∃ xs ys, lsOf h d = some xs ∧ v = .lst ys ∧ xs.length = ys.length ∧ ys.length ≤ 1000 ∧ ∀ (i : Nat) (x y : D), xs[i]? = some x → ys[i]? = some y → Rd h k x y) ∨
      (∃ xs ys, d = .tup xs ∧ v = .tup ys ∧ xs.length = ys.length ∧ ys.length ≤ 1000 ∧ ∀ (i : Nat) (x y : D), xs[i]? = some x → ys[i]? = some y → Rd h k x y)
theorem Rd.fl {h : Hh} {k : Nat} {d : D} (q : flat d = true) : Rd h k d d := by
  cases k with
  | zero => exact ⟨q, rfl⟩
  | succ k => exact Or.inl ⟨q, rfl⟩
theorem fm_none : ∀ (xs : List D), xs.filterMap (fun _ => (none : Option D)) = []
  | [] => rfl
  | _ :: xs => by rw [List.filterMap_cons]; exact fm_none xs
theorem comp_none {G : Glb} {i N : Nat} {t a x : Mn.E} {e : List D} {h : Hh} (hN : N ≤ 1000) (q : ev G a e h = .ok (.int (N : Nat)) h) (ht : ∀ j, j < N → ev G t ((wipeD e [i]).set i (.int (j : Nat))) h = .ok (.bl false) h) : ev G (.lc false (.rng1 a) (.nm i) (.cons t .nil) x) e h = .ok (.lst []) h := by
  refine v_lc (src := .rng 0 N) (h1 := h) (h2 := h) (ds := []) (rngN_ok q hN) ?_ (by rw [newF, if_pos (sz_of (by simp))])
  have hs : ∀ i, (Src.rng 0 N).at i h = some ((List.range N).map fun j => D.int (j : Nat))[i]? := fun i => by
    simp only [Src.at, List.getElem?_map]
    by_cases hi : i < N
    · rw [if_pos hi, List.getElem?_range hi, Int.zero_add]; rfl
    · rw [if_neg hi, List.getElem?_eq_none (by simp; omega)]; rfl
  have r := loopL_pure (s := .rng 0 N) (h := h) (xs := (List.range N).map fun j => D.int (j : Nat)) (step := lcB G (.nm i) (.cons t .nil) x e) (fun _ => none) hs (fun d hd => by
    obtain ⟨j, hj, rfl⟩ := List.mem_map.mp hd
    have hj : j < N := by simpa using hj
    unfold lcB
    simp only [Tg.own, evT, evB, ht j hj, bind_ok, Bool.false_eq_true, if_false]) N 0 [] (by simp) (by have := sz_of hN; simp; omega)
  rw [fm_none, List.append_nil] at r
  exact r
theorem lsOf_facts {h : Hh} {d : D} {xs : List D} (q : lsOf h d = some xs) : d ≠ .und ∧ plain h d = true ∧ isD d .non = some false ∧ tyIs h d 4 = false ∧ (∀ j, idxop d (.int j) h = L2.atI xs j) ∧ ∀ sub, bfn sub false .len [d] h = .ok (.int xs.length) h := by
  cases d with
  | lst ys => cases q; exact ⟨(fun z => by cases z), rfl, rfl, rfl, (fun _ => rfl), (fun _ => rfl)⟩
  | ro ys => cases q; exact ⟨(fun z => by cases z), rfl, rfl, rfl, (fun _ => rfl), (fun _ => rfl)⟩
  | cel c =>
    refine ⟨(fun z => by cases z), ?_, rfl, rfl, (fun j => ?_), (fun sub => ?_)⟩
    · simp only [lsOf] at q
      simp only [plain]
      split at q
      · rename_i e; rw [e]
      · cases q
    · simp only [idxop, q]
    · simp only [bfn, q]
  | _ => cases q
section
variable {G : Glb} {h : Hh} {d v : D} {e : List D}
/-- isinstance of a plain value -/
theorem is_ok {i : Nat} {ts : List Nat} (q : e[i]? = some d) (n : d ≠ .und) (p : plain h d = true) : ev G (.bi false (.isinst ts) (.cons (.var i) .nil)) e h = .ok (.bl (ts.any (tyIs h d))) h := v_bi (vs_cons (v_var q n) vs_nil) (by rw [bf_isi, if_pos p])
end
/-- lists and tuples -/
theorem same_ls {n : Nat} {h : Hh} (hc : Cl h.length h) {d v : D} {xs ys : List D} {T : Bool}
    (dn : d ≠ .und) (vn : v ≠ .und) (dp : plain h d = true) (vp : plain h v = true) (d3 : tyIs h d 3 = T) (d4 : tyIs h d 4 = !T) (v3 : tyIs h v 3 = T) (v4 : tyIs h v 4 = !T)
    (v0 : isD v .non = some false) (vt : isD v (.bl true) = some false) (vf : isD v (.bl false) = some false)
    (di : ∀ j, idxop d (.int j) h = L2.atI xs j) (vi : ∀ j, idxop v (.int j) h = L2.atI ys j) (dl : ∀ sub, bfn sub false .len [d] h = .ok (.int xs.length) h) (vl : ∀ sub, bfn sub false .len [v] h = .ok (.int ys.length) h)
    (hl : xs.length = ys.length) (hk : ys.length ≤ 1000) (hi : ∀ (i : Nat) (x y : D), xs[i]? = some x → ys[i]? = some y → (gl wh n).call 13 [x, y] h = .ok (.bl true) h) : (gl wh (n + 1)).call 13 [d, v] h = .ok (.bl true) h := by
  rw [c13]
  refine call_pure (e := [d, v, .und]) rfl rfl ?_ rfl hc
  show exes _ b13 [d, v, .und] _ = _
  unfold b13
  have w0 : ev (gl wh n) (.var 0) [d, v, .und] h = .ok d h := v_var rfl dn
  have w1 : ev (gl wh n) (.var 1) [d, v, .und] h = .ok v h := v_var rfl vn
  refine xs_nx (x_f (v_orF (v_cmp w1 v_non v0) (v_orF (v_cmp w1 v_bl vt) (v_one (v_cmp w1 v_bl vf)))) xs_nil) (xs_ret (x_t (h1 := h) ?_ (xs_nx (x_f (h1 := h) ?_ xs_nil) (xs_ret (x_rt (h1 := h) ?_)))))
  · rw [is_ok rfl vn vp]
    simp only [List.any_cons, List.any_nil, v3, v4]
    cases T <;> rfl
  · have i3d := is_ok (G := gl wh n) (i := 0) (ts := [3]) (e := [d, v, .und]) rfl dn dp
    have i3v := is_ok (G := gl wh n) (i := 1) (ts := [3]) (e := [d, v, .und]) rfl vn vp
    have i4d := is_ok (G := gl wh n) (i := 0) (ts := [4]) (e := [d, v, .und]) rfl dn dp
    have i4v := is_ok (G := gl wh n) (i := 1) (ts := [4]) (e := [d, v, .und]) rfl vn vp
    simp only [List.any_cons, List.any_nil, d3, d4, v3, v4, Bool.or_false] at i3d i3v i4d i4v
    cases T with
    | true => exact v_orF (v_andF (v_not i3d)) (v_one (v_andT (v_not i4d) (v_one i4v)))
    | false => exact v_orF (v_andT (v_not i3d) (v_one i3v)) (v_one (v_andF (v_not i4d)))
  · have l0 := v_bi (G := gl wh n) (lv := false) (bb := .len) (vs_cons w0 vs_nil) (dl _)
    have l1 := v_bi (G := gl wh n) (lv := false) (bb := .len) (vs_cons w1 vs_nil) (vl _)
    have eq := v_cmp (o := .eq) l0 l1 (co_eqI (h := h))
    rw [hl, decide_eq_true rfl] at eq
    refine v_andT eq (v_one (v_cmp (comp_none hk l1 fun j hj => ?_) v_nil0 rfl))
    have hx : xs[j]? = some xs[j] := List.getElem?_eq_getElem (by omega)
    have hy : ys[j]? = some ys[j] := List.getElem?_eq_getElem (by omega)
    have a0 : ev (gl wh n) (.var 0) ((wipeD [d, v, .und] [2]).set 2 (.int (j : Nat))) h = .ok d h := v_var rfl dn
    have a1 : ev (gl wh n) (.var 1) ((wipeD [d, v, .und] [2]).set 2 (.int (j : Nat))) h = .ok v h := v_var rfl vn
    have a2 : ev (gl wh n) (.var 2) ((wipeD [d, v, .und] [2]).set 2 (.int (j : Nat))) h = .ok (.int (j : Nat)) h := v_var rfl (fun z => by cases z)
    exact v_not (t := true) (v_call (vs_cons (v_idx a0 a2 (by rw [di, atI_of (by omega) (by omega), Int.toNat_natCast]; exact hx)) (vs_cons (v_idx a1 a2 (by rw [vi, atI_of (by omega) (by omega), Int.toNat_natCast]; exact hy)) vs_nil)) (hi j _ _ hx hy))
theorem same_fl {n : Nat} {h : Hh} (hc : Cl h.length h) {d : D} (q : flat d = true) : (gl wh (n + 1)).call 13 [d, d] h = .ok (.bl true) h := by
  rw [c13]
  refine call_pure (e := [d, d, .und]) rfl rfl ?_ rfl hc
  show exes _ b13 [d, d, .und] _ = _
  unfold b13
  have dn : d ≠ .und := fun z => by subst z; cases q
  have w0 : ev (gl wh n) (.var 0) [d, d, .und] h = .ok d h := v_var rfl dn
  have w1 : ev (gl wh n) (.var 1) [d, d, .und] h = .ok d h := v_var rfl dn
  have isn : ∀ b : Bool, isD d .non = some b → ev (gl wh n) (.cmp .is (.var 1) .non) [d, d, .und] h = .ok (.bl b) h := fun b z => v_cmp w1 v_non z
  have isT : ∀ b : Bool, isD d (.bl true) = some b → ev (gl wh n) (.cmp .is (.var 1) (.bl true)) [d, d, .und] h = .ok (.bl b) h := fun b z => v_cmp w1 v_bl z
  have isF : ∀ b : Bool, isD d (.bl false) = some b → ev (gl wh n) (.cmp .is (.var 1) (.bl false)) [d, d, .und] h = .ok (.bl b) h := fun b z => v_cmp w1 v_bl z
  have isn0 : ∀ b : Bool, isD d .non = some b → ev (gl wh n) (.cmp .is (.var 0) .non) [d, d, .und] h = .ok (.bl b) h := fun b z => v_cmp w0 v_non z
  have isT0 : ∀ b : Bool, isD d (.bl true) = some b → ev (gl wh n) (.cmp .is (.var 0) (.bl true)) [d, d, .und] h = .ok (.bl b) h := fun b z => v_cmp w0 v_bl z
  have isF0 : ∀ b : Bool, isD d (.bl false) = some b → ev (gl wh n) (.cmp .is (.var 0) (.bl false)) [d, d, .und] h = .ok (.bl b) h := fun b z => v_cmp w0 v_bl z
  cases d with
  | non => exact xs_ret (x_t (v_orT (isn true rfl)) (xs_ret (x_rt (v_ifT (isn true rfl) (isn0 true rfl)))))
  | bl b =>
    cases b with
    | true => exact xs_ret (x_t (v_orF (isn false rfl) (v_orT (isT true rfl))) (xs_ret (x_rt (v_ifF (isn false rfl) (v_ifT (isT true rfl) (isT0 true rfl))))))
    | false => exact xs_ret (x_t (v_orF (isn false rfl) (v_orF (isT false rfl) (v_one (isF true rfl)))) (xs_ret (x_rt (v_ifF (isn false rfl) (v_ifF (isT false rfl) (isF0 true rfl))))))
  | int i =>
    have eq := v_cmp (o := .eq) w0 w1 (co_eqI (h := h))
    rw [decide_eq_true rfl] at eq
    exact xs_nx (x_f (v_orF (isn false rfl) (v_orF (isT false rfl) (v_one (isF false rfl)))) xs_nil) (xs_nx (x_f (is_ok rfl dn rfl) xs_nil) (xs_ret (x_t (is_ok rfl dn rfl) (xs_ret (x_rt (v_andT (is_ok rfl dn rfl) (v_andT (v_not (is_ok rfl dn rfl)) (v_one eq))))))))
  | str x =>
    have eq := v_cmp (o := .eq) w0 w1 (co_eqS (h := h))
    rw [decide_eq_true rfl] at eq
    exact xs_nx (x_f (v_orF (isn false rfl) (v_orF (isT false rfl) (v_one (isF false rfl)))) xs_nil) (xs_nx (x_f (is_ok rfl dn rfl) xs_nil) (xs_nx (x_f (is_ok rfl dn rfl) xs_nil) (xs_ret (x_rt (v_andT (is_ok rfl dn rfl) (v_one eq))))))
  | _ => cases q
theorem same_ok {h : Hh} (hc : Cl h.length h) : ∀ (k n : Nat) (d v : D), Rd h k d v → (gl wh (n + k + 1)).call 13 [d, v] h = .ok (.bl true) h
  | 0, n, d, v, r => by
    obtain ⟨q, rfl⟩ := r
    exact same_fl hc q
  | k + 1, n, d, v, r => by
    rcases r with ⟨q, rfl⟩ | ⟨xs, ys, q, rfl, hl, hk, hi⟩ | ⟨xs, ys, rfl, rfl, hl, hk, hi⟩
    · exact same_fl hc q
    · obtain ⟨dn, dp, _, d4, di, dl⟩ := lsOf_facts q
      refine same_ls (n := n + k + 1) hc (T := true) dn (fun z => by cases z) dp rfl ?_ d4 rfl rfl rfl rfl rfl di (fun _ => rfl) dl (fun _ => rfl) hl hk fun i x y hx hy => same_ok hc k n x y (hi i x y hx hy)
      simp only [tyIs, q, Option.isSome_some]
    · exact same_ls (n := n + k + 1) hc (T := false) (fun z => by cases z) (fun z => by cases z) rfl rfl rfl rfl rfl rfl rfl rfl rfl (fun _ => rfl) (fun _ => rfl) (fun _ => rfl) (fun _ => rfl) hl hk fun i x y hx hy => same_ok hc k n x y (hi i x y hx hy)
end Tx
end Mn
namespace Mn
namespace Tx
open PySem L2 StrLaws
variable {wh : (List D → Hh → Res D) → (List D → Hh → SRes) → List D → Hh → SRes}
/-! ### what can be shown -/
structure RpP (p : PyData) (m d : Nat) : Prop where
  sh : p.showable = true
  nd : p.hasDict = false
  lv : p.leavesShort 100 = true
  bk : p.bulk ≤ m
  dp : p.depth ≤ d
structure RpA (p : List PyData) (m d : Nat) : Prop where
  sh : PyData.showableAll p = true
  nd : PyData.hasDictAll p = false
  lv : PyData.leavesShortAll 100 p = true
  bk : PyData.bulkAll p ≤ m
  dp : PyData.depthAll p ≤ d
def RpD (v : D) (m d : Nat) : Prop := ∃ p, v.py = some p ∧ RpP p m d
def RpL (xs : List D) (m d : Nat) : Prop := ∃ p, D.pyAll xs = some p ∧ RpA p m d
theorem RpD.non {m d : Nat} : RpD .non m (d + 1) := ⟨.none, rfl, rfl, rfl, rfl, Nat.zero_le _, by simp [PyData.depth]⟩
theorem RpD.bl {b : Bool} {m d : Nat} : RpD (.bl b) m (d + 1) := ⟨.bool b, rfl, rfl, rfl, rfl, Nat.zero_le _, by simp [PyData.depth]⟩
theorem RpD.int {i : Int} {m d : Nat} (h : i.natAbs < 10 ^ 24) : RpD (.int i) m (d + 1) := ⟨.int i, rfl, by
    simp only [PyData.showable, decide_eq_true_eq]
    have := log2_lt' (n := i.natAbs) (k := 80) (Nat.lt_of_lt_of_le h (by decide)) (by decide)
    omega, rfl, by
    simp only [PyData.leavesShort, decide_eq_true_eq]
    have := int_text_length_le10 (a := i) (k := 24) (by decide) h
    show (Str.ofString (toString i)).length ≤ 100
    rw [ofString_length]
    omega, Nat.zero_le _, by simp [PyData.depth]⟩
theorem RpD.str {x : Str} {k m d : Nat} (h1 : PyData.leavesShort 100 (.str x) = true) (h2 : x.cps.size = k) (hk : k ≤ m) : RpD (.str x) m (d + 1) := ⟨.str x, rfl, rfl, rfl, h1, by simp only [PyData.bulk]; omega, by simp [PyData.depth]⟩
theorem RpL.nil {m d : Nat} : RpL [] m d := ⟨[], rfl, rfl, rfl, rfl, Nat.zero_le _, by simp [PyData.depthAll]⟩
theorem RpL.cons {x : D} {xs : List D} {a b d : Nat} (h : RpD x a d) (hs : RpL xs b d) : RpL (x :: xs) (a + 1 + b) d := by
  obtain ⟨p, hp, p1, p2, p3, p4, p5⟩ := h
  obtain ⟨q, hq, q1, q2, q3, q4, q5⟩ := hs
  refine ⟨p :: q, by simp only [D.pyAll, hp, hq], ?_, ?_, ?_, ?_, ?_⟩
  · simp only [PyData.showableAll, p1, q1, Bool.and_self]
  · simp only [PyData.hasDictAll, p2, q2, Bool.or_self]
  · simp only [PyData.leavesShortAll, p3, q3, Bool.and_self]
  · simp only [PyData.bulkAll]; omega
  · simp only [PyData.depthAll]; omega
theorem RpD.lst {xs : List D} {m d : Nat} (h : RpL xs m d) : RpD (.lst xs) m (d + 1) := by
  obtain ⟨p, hp, p1, p2, p3, p4, p5⟩ := h
  refine ⟨.list p, by simp only [D.py, hp, Option.map_some], p1, p2, p3, p4, ?_⟩
  simp only [PyData.depth]; omega
theorem RpD.tup {xs : List D} {m d : Nat} (h : RpL xs m d) : RpD (.tup xs) m (d + 1) := by
  obtain ⟨p, hp, p1, p2, p3, p4, p5⟩ := h
  refine ⟨.tuple p, by simp only [D.py, hp, Option.map_some], p1, p2, p3, p4, ?_⟩
  simp only [PyData.depth]; omega
theorem repr_ok {h : Hh} {v : D} {m d : Nat} (hr : RpD v m d) (hm : m ≤ 60000) (hd : d ≤ 60) (hc : clsd 0 v = true) : ∃ z, ∀ sub lv, bfn sub lv .repr [v] h = .ok (.str z) h := by
  obtain ⟨p, hp, p1, p2, p3, p4, p5⟩ := hr
  refine ⟨p.shown, fun sub lv => ?_⟩
  have hl : p.shown.length ≤ sizeL := by
    have := PyData.shown_le_bulk 100 (by decide) p p3
    have : (100 + 2) * p.bulk ≤ 102 * 60000 := Nat.mul_le_mul (by decide) (by omega)
    unfold sizeL
    omega
  have e : bfn sub lv .repr [v] h = match thaw h 0 3 v with
    | .dK [] => .ok (.str (PySem.PyData.dict []).shown) h
    | t => match t.py with
      | some p => if p.showable && !p.hasDict && decide (p.shown.length ≤ sizeL) && decide (p.depth ≤ 60) then .ok (.str p.shown) h else .stk
      | none => .stk := rfl
  rw [e, thaw_c hc]
  have q : (p.showable && !p.hasDict && decide (p.shown.length ≤ sizeL) && decide (p.depth ≤ 60)) = true := by
    rw [p1, p2, decide_eq_true hl, decide_eq_true (by omega)]; rfl
  cases v <;> first | (simp only [hp, q, if_true]; done) | (cases hp; done)
theorem repr_dk {h : Hh} : ∃ z, ∀ sub lv, bfn sub lv .repr [.dK []] h = .ok (.str z) h := ⟨_, fun _ _ => rfl⟩
theorem entD_rp {x : Int × Int × Int} (h : x.1.natAbs < 10 ^ 24 ∧ x.2.1.natAbs < 10 ^ 24 ∧ x.2.2.natAbs < 10 ^ 24) : RpD (entD x) 3 2 := RpD.tup (RpL.cons (a := 0) (RpD.int h.1) (RpL.cons (a := 0) (RpD.int h.2.1) (RpL.cons (a := 0) (b := 0) (RpD.int h.2.2) RpL.nil)))
theorem log_rp : ∀ (xs : List (Int × Int × Int)), (∀ x ∈ xs, x.1.natAbs < 10 ^ 24 ∧ x.2.1.natAbs < 10 ^ 24 ∧ x.2.2.natAbs < 10 ^ 24) → RpL (xs.map entD) (4 * xs.length) 2
  | [], _ => RpL.nil
  | x :: xs, h => by
    have := RpL.cons (entD_rp (h x List.mem_cons_self)) (log_rp xs fun y hy => h y (List.mem_cons_of_mem _ hy))
    rw [List.map_cons, List.length_cons, show 4 * (xs.length + 1) = 3 + 1 + 4 * xs.length by omega]
    exact this
theorem log_repr {h : Hh} {s : Nat} (hs : s ≤ 12) {xs : List (Int × Int × Int)} (E : ∀ x ∈ xs, EntOk s x) (hl : xs.length ≤ 100) : ∃ z, ∀ sub lv, bfn sub lv .repr [logD xs] h = .ok (.str z) h :=
  repr_ok (RpD.lst (log_rp xs fun x hx => by
    obtain ⟨⟨a0, a1⟩, ⟨b0, b1⟩, _, ⟨c0, c1⟩⟩ := E x hx
    have e : (10 : Nat) ^ 24 = 1000000000000000000000000 := by decide
    rw [e]
    omega)) (by omega) (by decide) (logD_c 0 xs)
end Tx
end Mn
namespace Mn
namespace Tx
open PySem L2
variable {wh : (List D → Hh → Res D) → (List D → Hh → SRes) → List D → Hh → SRes}
/-! ### what is refused -/
theorem x_tri {G : Glb} {b hd : Ss} {c c' i : Nat} {p : D} {e e1 e2 : List D} {h h1 h2 : Hh} {f : Fl} (q : exes G b e h = .exc c' p e1 h1) (s1 : (G.sub c' c' && G.sub c' c) = true) (k : exes G hd (e1.set i (.exc c' p)) h1 = .ok f e2 h2) : exe G (.tri b c i hd) e h = .ok f (e2.set i .und) h2 := by
  rw [exe, q]
  simp only [s1, if_true, k]
theorem v_act {G : Glb} {i : Nat} {e cs : List D} {b : Mn.E} {h : Hh} {R : Res D} (q : e[i]? = some (.clo b cs)) (t1 : tidyL cs = true) (t2 : h.all Ob.tidy = true) (k : G.lam b cs h = R) : ev G (.act i) e h = R := by
  rw [ev, q]
  simp only [t1, t2, Bool.and_self, if_true]
  exact k
theorem v_isx {n : Nat} {i k c : Nat} {t : Bool} {e : List D} {v : D} {h : Hh} (q : e[i]? = some (.exc c v)) (hv : v ≠ .und) (cc : subs.contains (c, c) = true) (ck : subs.contains (c, k) = t) : ev (gl wh (n + 1)) (.bi false (.isexc k) (.cons (.var i) .nil)) e h = .ok (.bl t) h := by
  refine v_bi (vs_cons (v_var q (fun z => by cases z)) vs_nil) ?_
  show bfn prg.sub false (.isexc k) [.exc c v] h = _
  cases v <;> first | exact absurd rfl hv | (show (if subs.contains (c, c) then Res.ok (D.bl (subs.contains (c, k))) h else .stk) = _; rw [cc, ck]; rfl)
theorem v_xval {n : Nat} {i c : Nat} {e : List D} {v : D} {h : Hh} (q : e[i]? = some (.exc c v)) (hv : v ≠ .und) (cc : subs.contains (c, c) = true) : ev (gl wh (n + 1)) (.xval (.var i)) e h = .ok v h := by
  rw [ev, v_var q (fun z => by cases z), bind_ok]
  cases v <;> first | exact absurd rfl hv | (show (if subs.contains (c, c) then Res.ok _ h else .stk) = _; rw [cc]; rfl)

theorem caught_log {n : Nat} {h : Hh} (hc : Cl h.length h) (ht : h.all Ob.tidy = true) {b : Mn.E} {cs : List D} (tc : tidyL cs = true) {v : D} (hv : v ≠ .und) (vc : clsd h.length v = true) (q : ev (gl wh n) b cs h = .exc 13 v h) : (gl wh (n + 2)).call 14 [.clo b cs] h = .ok (.tup [.str "log", v]) h := by
  rw [c14]
  have fin : ∀ {d3 d4 : D}, clsd h.length (.tup [.str "log", v]) = true := by simp only [clsd, clsdL, vc, Bool.and_self, implies_true]
  refine call_pure (e := [.clo b cs, .exc 13 v, .und, .lst [.bl false, .bl false, .bl false, .bl false, .bl false, .bl false, .bl false, .bl false, .bl false, .bl false, .bl false, .bl false, .bl true, .bl false, .bl false, .bl false], .lst [.str "table", .str "mixture", .str "sign", .str "signs", .str "pattern", .str "weights", .str "bounds", .str "number", .str "text", .str "block", .str "matrix", .str "row", .str "log", .str "names", .str "barred", .str "many"]]) rfl rfl ?_ (fin (d3 := .und) (d4 := .und)) hc
  show exes _ b14 [.clo b cs, .und, .und, .und, .und] _ = _
  unfold b14
  have isn : cmpop .is (.exc 13 v) .non h = some false := rfl
  refine xs_nx (x_nm (v := .non) v_non) (xs_nx (x_tri (c' := 13) (p := v) (e1 := [.clo b cs, .non, .und, .und, .und]) (h1 := h) (e2 := [.clo b cs, .exc 13 v, .exc 13 v, .und, .und]) (h2 := h) (xs_exc (x_exX (v_act rfl tc ht q))) rfl (xs_nx (x_nm (v := .exc 13 v) (v_var rfl (fun z => by cases z))) xs_nil)) ?_)
  refine xs_nx (x_f (v_cmp (x := .exc 13 v) (v_var rfl (fun z => by cases z)) v_non isn) xs_nil) ?_
  refine xs_nx (x_nm (v := .lst [.bl false, .bl false, .bl false, .bl false, .bl false]) (h1 := h) (v_lst (vs_cons (v_isx rfl hv rfl rfl) (vs_cons (v_isx rfl hv rfl rfl) (vs_cons (v_isx rfl hv rfl rfl) (vs_cons (v_isx rfl hv rfl rfl) (vs_cons (v_isx rfl hv rfl rfl) (vs_nil)))))) (by decide))) ?_
  refine xs_nx (x_nm (v := .lst [.bl false, .bl false, .bl false, .bl false, .bl false, .bl false, .bl false, .bl false, .bl false, .bl false]) (h1 := h) (v_bin (x := .lst [.bl false, .bl false, .bl false, .bl false, .bl false]) (y := .lst [.bl false, .bl false, .bl false, .bl false, .bl false]) (v_var rfl (fun z => by cases z)) (v_lst (vs_cons (v_isx rfl hv rfl rfl) (vs_cons (v_isx rfl hv rfl rfl) (vs_cons (v_isx rfl hv rfl rfl) (vs_cons (v_isx rfl hv rfl rfl) (vs_cons (v_isx rfl hv rfl rfl) (vs_nil)))))) (by decide)) (by rw [bo_cat, newF, if_pos (sz_of (by decide))]; rfl))) ?_
  refine xs_nx (x_nm (v := .lst [.bl false, .bl false, .bl false, .bl false, .bl false, .bl false, .bl false, .bl false, .bl false, .bl false, .bl false, .bl false, .bl true]) (h1 := h) (v_bin (x := .lst [.bl false, .bl false, .bl false, .bl false, .bl false, .bl false, .bl false, .bl false, .bl false, .bl false]) (y := .lst [.bl false, .bl false, .bl true]) (v_var rfl (fun z => by cases z)) (v_lst (vs_cons (v_isx rfl hv rfl rfl) (vs_cons (v_isx rfl hv rfl rfl) (vs_cons (v_isx rfl hv rfl rfl) (vs_nil)))) (by decide)) (by rw [bo_cat, newF, if_pos (sz_of (by decide))]; rfl))) ?_
  refine xs_nx (x_nm (v := .lst [.bl false, .bl false, .bl false, .bl false, .bl false, .bl false, .bl false, .bl false, .bl false, .bl false, .bl false, .bl false, .bl true, .bl false, .bl false, .bl false]) (h1 := h) (v_bin (x := .lst [.bl false, .bl false, .bl false, .bl false, .bl false, .bl false, .bl false, .bl false, .bl false, .bl false, .bl false, .bl false, .bl true]) (y := .lst [.bl false, .bl false, .bl false]) (v_var rfl (fun z => by cases z)) (v_lst (vs_cons (v_isx rfl hv rfl rfl) (vs_cons (v_isx rfl hv rfl rfl) (vs_cons (v_isx rfl hv rfl rfl) (vs_nil)))) (by decide)) (by rw [bo_cat, newF, if_pos (sz_of (by decide))]; rfl))) ?_
  refine xs_nx (x_nm (v := .lst [.str "table", .str "mixture", .str "sign", .str "signs", .str "pattern", .str "weights", .str "bounds", .str "number", .str "text", .str "block", .str "matrix", .str "row", .str "log", .str "names", .str "barred", .str "many"]) (h1 := h) (v_lst (vs_cons v_str (vs_cons v_str (vs_cons v_str (vs_cons v_str (vs_cons v_str (vs_cons v_str (vs_cons v_str (vs_cons v_str (vs_cons v_str (vs_cons v_str (vs_cons v_str (vs_cons v_str (vs_cons v_str (vs_cons v_str (vs_cons v_str (vs_cons v_str (vs_nil))))))))))))))))) (by decide))) ?_
  refine xs_ret (x_rt (v_ifT (v_cmp (o := .eq) (x := .int 1) (y := .int 1) (v_mt (x := .lst [.bl false, .bl false, .bl false, .bl false, .bl false, .bl false, .bl false, .bl false, .bl false, .bl false, .bl false, .bl false, .bl true, .bl false, .bl false, .bl false]) (v_var rfl (fun z => by cases z)) rfl (vs_cons v_bl vs_nil) rfl) v_int rfl) ?_))
  refine v_tup (vs_cons (v_idx (x := .lst [.str "table", .str "mixture", .str "sign", .str "signs", .str "pattern", .str "weights", .str "bounds", .str "number", .str "text", .str "block", .str "matrix", .str "row", .str "log", .str "names", .str "barred", .str "many"]) (y := .int 12) (v_var rfl (fun z => by cases z)) (v_mt (x := .lst [.bl false, .bl false, .bl false, .bl false, .bl false, .bl false, .bl false, .bl false, .bl false, .bl false, .bl false, .bl false, .bl true, .bl false, .bl false, .bl false]) (v_var rfl (fun z => by cases z)) rfl (vs_cons v_bl vs_nil) rfl) rfl) (vs_cons (v_xval rfl hv rfl) vs_nil)) (by simp)

theorem caught_number {n : Nat} {h : Hh} (hc : Cl h.length h) (ht : h.all Ob.tidy = true) {b : Mn.E} {cs : List D} (tc : tidyL cs = true) {v : D} (hv : v ≠ .und) (vc : clsd h.length v = true) (q : ev (gl wh n) b cs h = .exc 8 v h) : (gl wh (n + 2)).call 14 [.clo b cs] h = .ok (.tup [.str "number", v]) h := by
  rw [c14]
  have fin : ∀ {d3 d4 : D}, clsd h.length (.tup [.str "number", v]) = true := by simp only [clsd, clsdL, vc, Bool.and_self, implies_true]
  refine call_pure (e := [.clo b cs, .exc 8 v, .und, .lst [.bl false, .bl false, .bl false, .bl false, .bl false, .bl false, .bl false, .bl true, .bl false, .bl false, .bl false, .bl false, .bl false, .bl false, .bl false, .bl false], .lst [.str "table", .str "mixture", .str "sign", .str "signs", .str "pattern", .str "weights", .str "bounds", .str "number", .str "text", .str "block", .str "matrix", .str "row", .str "log", .str "names", .str "barred", .str "many"]]) rfl rfl ?_ (fin (d3 := .und) (d4 := .und)) hc
  show exes _ b14 [.clo b cs, .und, .und, .und, .und] _ = _
  unfold b14
  have isn : cmpop .is (.exc 8 v) .non h = some false := rfl
  refine xs_nx (x_nm (v := .non) v_non) (xs_nx (x_tri (c' := 8) (p := v) (e1 := [.clo b cs, .non, .und, .und, .und]) (h1 := h) (e2 := [.clo b cs, .exc 8 v, .exc 8 v, .und, .und]) (h2 := h) (xs_exc (x_exX (v_act rfl tc ht q))) rfl (xs_nx (x_nm (v := .exc 8 v) (v_var rfl (fun z => by cases z))) xs_nil)) ?_)
  refine xs_nx (x_f (v_cmp (x := .exc 8 v) (v_var rfl (fun z => by cases z)) v_non isn) xs_nil) ?_
  refine xs_nx (x_nm (v := .lst [.bl false, .bl false, .bl false, .bl false, .bl false]) (h1 := h) (v_lst (vs_cons (v_isx rfl hv rfl rfl) (vs_cons (v_isx rfl hv rfl rfl) (vs_cons (v_isx rfl hv rfl rfl) (vs_cons (v_isx rfl hv rfl rfl) (vs_cons (v_isx rfl hv rfl rfl) (vs_nil)))))) (by decide))) ?_
  refine xs_nx (x_nm (v := .lst [.bl false, .bl false, .bl false, .bl false, .bl false, .bl false, .bl false, .bl true, .bl false, .bl false]) (h1 := h) (v_bin (x := .lst [.bl false, .bl false, .bl false, .bl false, .bl false]) (y := .lst [.bl false, .bl false, .bl true, .bl false, .bl false]) (v_var rfl (fun z => by cases z)) (v_lst (vs_cons (v_isx rfl hv rfl rfl) (vs_cons (v_isx rfl hv rfl rfl) (vs_cons (v_isx rfl hv rfl rfl) (vs_cons (v_isx rfl hv rfl rfl) (vs_cons (v_isx rfl hv rfl rfl) (vs_nil)))))) (by decide)) (by rw [bo_cat, newF, if_pos (sz_of (by decide))]; rfl))) ?_
  refine xs_nx (x_nm (v := .lst [.bl false, .bl false, .bl false, .bl false, .bl false, .bl false, .bl false, .bl true, .bl false, .bl false, .bl false, .bl false, .bl false]) (h1 := h) (v_bin (x := .lst [.bl false, .bl false, .bl false, .bl false, .bl false, .bl false, .bl false, .bl true, .bl false, .bl false]) (y := .lst [.bl false, .bl false, .bl false]) (v_var rfl (fun z => by cases z)) (v_lst (vs_cons (v_isx rfl hv rfl rfl) (vs_cons (v_isx rfl hv rfl rfl) (vs_cons (v_isx rfl hv rfl rfl) (vs_nil)))) (by decide)) (by rw [bo_cat, newF, if_pos (sz_of (by decide))]; rfl))) ?_
  refine xs_nx (x_nm (v := .lst [.bl false, .bl false, .bl false, .bl false, .bl false, .bl false, .bl false, .bl true, .bl false, .bl false, .bl false, .bl false, .bl false, .bl false, .bl false, .bl false]) (h1 := h) (v_bin (x := .lst [.bl false, .bl false, .bl false, .bl false, .bl false, .bl false, .bl false, .bl true, .bl false, .bl false, .bl false, .bl false, .bl false]) (y := .lst [.bl false, .bl false, .bl false]) (v_var rfl (fun z => by cases z)) (v_lst (vs_cons (v_isx rfl hv rfl rfl) (vs_cons (v_isx rfl hv rfl rfl) (vs_cons (v_isx rfl hv rfl rfl) (vs_nil)))) (by decide)) (by rw [bo_cat, newF, if_pos (sz_of (by decide))]; rfl))) ?_
  refine xs_nx (x_nm (v := .lst [.str "table", .str "mixture", .str "sign", .str "signs", .str "pattern", .str "weights", .str "bounds", .str "number", .str "text", .str "block", .str "matrix", .str "row", .str "log", .str "names", .str "barred", .str "many"]) (h1 := h) (v_lst (vs_cons v_str (vs_cons v_str (vs_cons v_str (vs_cons v_str (vs_cons v_str (vs_cons v_str (vs_cons v_str (vs_cons v_str (vs_cons v_str (vs_cons v_str (vs_cons v_str (vs_cons v_str (vs_cons v_str (vs_cons v_str (vs_cons v_str (vs_cons v_str (vs_nil))))))))))))))))) (by decide))) ?_
  refine xs_ret (x_rt (v_ifT (v_cmp (o := .eq) (x := .int 1) (y := .int 1) (v_mt (x := .lst [.bl false, .bl false, .bl false, .bl false, .bl false, .bl false, .bl false, .bl true, .bl false, .bl false, .bl false, .bl false, .bl false, .bl false, .bl false, .bl false]) (v_var rfl (fun z => by cases z)) rfl (vs_cons v_bl vs_nil) rfl) v_int rfl) ?_))
  refine v_tup (vs_cons (v_idx (x := .lst [.str "table", .str "mixture", .str "sign", .str "signs", .str "pattern", .str "weights", .str "bounds", .str "number", .str "text", .str "block", .str "matrix", .str "row", .str "log", .str "names", .str "barred", .str "many"]) (y := .int 7) (v_var rfl (fun z => by cases z)) (v_mt (x := .lst [.bl false, .bl false, .bl false, .bl false, .bl false, .bl false, .bl false, .bl true, .bl false, .bl false, .bl false, .bl false, .bl false, .bl false, .bl false, .bl false]) (v_var rfl (fun z => by cases z)) rfl (vs_cons v_bl vs_nil) rfl) rfl) (vs_cons (v_xval rfl hv rfl) vs_nil)) (by simp)

theorem alike_ok {n : Nat} {h : Hh} (hc : Cl h.length h) {v : D} (hv : v ≠ .und) (hr : ∃ z, ∀ sub lv, bfn sub lv .repr [v] h = .ok (.str z) h) : (gl wh (n + 1)).call 16 [v, v] h = .ok (.bl true) h := by
  rw [c16]
  obtain ⟨z, hz⟩ := hr
  refine call_pure (e := [v, v]) rfl rfl ?_ rfl hc
  show exes _ b16 [v, v] _ = _
  unfold b16
  have eq : cmpop .eq (.str z) (.str z) h = some true := by rw [co_eqS, decide_eq_true rfl]
  exact xs_ret (x_rt (v_cmp (v_bi (vs_cons (v_var rfl hv) vs_nil) (hz _ _)) (v_bi (vs_cons (v_var rfl hv) vs_nil) (hz _ _)) eq))
theorem refused_ok {n : Nat} {h : Hh} (hc : Cl h.length h) (ht : h.all Ob.tidy = true) {b : Mn.E} {cs : List D} (tc : tidyL cs = true) {v : D} (hv : v ≠ .und) (vc : clsd h.length v = true) (hr : ∃ z, ∀ sub lv, bfn sub lv .repr [v] h = .ok (.str z) h) {c : Nat} {w : Str} (hw : (c = 13 ∧ w = "log") ∨ (c = 8 ∧ w = "number")) (q : ev (gl wh n) b cs h = .exc c v h) : (gl wh (n + 3)).call 15 [.clo b cs, .str w, v] h = .ok (.bl true) h := by
  rw [c15]
  have ca : (gl wh (n + 2)).call 14 [.clo b cs] h = .ok (.tup [.str w, v]) h := by
    rcases hw with ⟨rfl, rfl⟩ | ⟨rfl, rfl⟩
    · exact caught_log hc ht tc hv vc q
    · exact caught_number hc ht tc hv vc q
  refine call_pure (e := [.clo b cs, .str w, v, .tup [.str w, v]]) rfl rfl ?_ rfl hc
  show exes _ b15 [.clo b cs, .str w, v, .und] _ = _
  unfold b15
  have eq : cmpop .eq (.str w) (.str w) h = some true := by rw [co_eqS, decide_eq_true rfl]
  have v3 : ev (gl wh (n + 2)) (.var 3) [.clo b cs, .str w, v, .tup [.str w, v]] h = .ok (.tup [.str w, v]) h := v_var rfl (fun z => by cases z)
  refine xs_nx (x_nm (v := .tup [.str w, v]) (h1 := h) (v_call (vs_cons (v_var rfl (fun z => by cases z)) vs_nil) ca)) (xs_ret (x_rt ?_))
  exact v_andT (v_cmp (v_idx v3 v_int rfl) (v_var rfl (fun z => by cases z)) eq) (v_one (v_call (vs_cons (v_idx v3 v_int rfl) (vs_cons (v_var rfl hv) vs_nil)) (alike_ok (n := n + 1) hc hv hr)))
theorem allref_ok {n : Nat} {h : Hh} (hc : Cl h.length h) (ht : h.all Ob.tidy = true) {ks : List (Mn.E × List D)} (tc : ∀ k ∈ ks, tidyL k.2 = true) (hk : ks.length ≤ 100) {v : D} (hv : v ≠ .und) (vc : clsd h.length v = true) (hr : ∃ z, ∀ sub lv, bfn sub lv .repr [v] h = .ok (.str z) h) {c : Nat} {w : Str} (hw : (c = 13 ∧ w = "log") ∨ (c = 8 ∧ w = "number")) (q : ∀ k ∈ ks, ev (gl wh n) k.1 k.2 h = .exc c v h) : (gl wh (n + 4)).call 17 [.lst (ks.map fun k => .clo k.1 k.2), .str w, v] h = .ok (.bl true) h := by
  rw [c17]
  refine call_pure (e := [.lst (ks.map fun k => .clo k.1 k.2), .str w, v, .und]) rfl rfl ?_ rfl hc
  show exes _ b17 [.lst (ks.map fun k => .clo k.1 k.2), .str w, v, .und] _ = _
  unfold b17
  have cf := comp_filt (G := gl wh (n + 3)) (P := fun _ => true) (i := 3) (t := .not (.call 15 (.cons (.var 3) (.cons (.var 1) (.cons (.var 2) .nil))))) (a := .var 0) (e := [.lst (ks.map fun k => .clo k.1 k.2), .str w, v, .und]) (xs := ks.map fun k => .clo k.1 k.2) (h := h) (ls := .lst (ks.map fun k => .clo k.1 k.2)) (v_var rfl (fun z => by cases z)) rfl (by simp) (fun d hd z => by
    obtain ⟨k, _, rfl⟩ := List.mem_map.mp hd
    cases z) (fun d hd => by
    obtain ⟨k, hk, rfl⟩ := List.mem_map.mp hd
    exact v_not (t := true) (v_call (vs_cons (v_var rfl (fun z => by cases z)) (vs_cons (v_var rfl (fun z => by cases z)) (vs_cons (v_var rfl hv) vs_nil))) (refused_ok hc ht (tc k hk) hv vc hr hw (q k hk)))) (by simp; omega)
  rw [ngt_all (fun _ _ => rfl)] at cf
  exact xs_ret (x_rt (v_cmp cf v_nil0 rfl))
end Tx
end Mn
namespace Mn
namespace Tx
open PySem L2
variable {wh : (List D → Hh → Res D) → (List D → Hh → SRes) → List D → Hh → SRes}
/-! ### wrong logs, wrong numbers -/
theorem call_excK {G : Glb} {F : Fn} {ds : List D} {h h' : Hh} {c : Nat} {d : D} {e : List D} (hp : F.pop = false) (hl : ds.length = F.np) (he : exes G F.body (ds ++ List.replicate (F.nl - F.np) .und) h = .exc c d e h') : callFn G F ds h = .exc c d h' := by
  unfold callFn
  rw [if_pos hl, he]
  simp only [leaveX]
  rw [hp]
  rfl
theorem told_bad {n : Nat} {h : Hh} (hc : Cl h.length h) {s : Int} (hs : numB (.int s) = true) {v : D} (hb : BadLog s v) (hk : clsd h.length v = true) : (gl wh (n + 6)).call 7 [.int s, v] h = .exc 13 v h := by
  have e : (gl wh (n + 6)).call 7 [.int s, v] h = callFn (gl wh (n + 5)) f7 [.int s, v] h := rfl
  rw [e]
  have hv : v ≠ .und := fun z => by subst z; exact absurd hb.1 (by decide)
  refine call_excK (e := [.int s, v, .und, .und, .und, .und, .und, .und, .und]) rfl rfl ?_
  show exes _ b7 [.int s, v, .und, .und, .und, .und, .und, .und, .und] _ = _
  unfold b7
  exact xs_exc (x_exX (v_call (vs_cons (v_var rfl (fun z => by cases z)) (vs_cons (v_var rfl hv) vs_nil)) (chklog_bad (wh := wh) (n := n) hc hs hb hk)))
theorem islog_num {n : Nat} {h : Hh} (hc : Cl h.length h) {v : D} (hd : frz v = true) (hcl : clsd h.length v = true) (hn : numB v = false) : (gl wh (n + 5)).call 5 [v, .non] h = .exc 8 v h := by
  have e : (gl wh (n + 5)).call 5 [v, .non] h = callFn (gl wh (n + 4)) f5 [v, .non] h := rfl
  rw [e]
  have hv : v ≠ .und := fun z => by subst z; cases hd
  refine call_exc (e := [v, .non]) rfl rfl ?_ hcl hc
  show exes _ b5 [v, .non] _ = _
  unfold b5
  exact xs_exc (x_exX (v_call (vs_cons (v_var rfl hv) vs_nil) (number_bad (wh := wh) (n := n + 1) hc hd hcl hn)))
theorem told_num {n : Nat} {h : Hh} (hc : Cl h.length h) {v : D} (hd : frz v = true) (hcl : clsd h.length v = true) (hn : numB v = false) : (gl wh (n + 6)).call 7 [v, .non] h = .exc 8 v h := by
  have e : (gl wh (n + 6)).call 7 [v, .non] h = callFn (gl wh (n + 5)) f7 [v, .non] h := rfl
  rw [e]
  have hv : v ≠ .und := fun z => by subst z; cases hd
  have q : (gl wh (n + 5)).call 6 [v, .non] h = .exc 8 v h := by
    have e : (gl wh (n + 5)).call 6 [v, .non] h = callFn (gl wh (n + 4)) f6 [v, .non] h := rfl
    rw [e]
    refine call_exc (e := [v, .non]) rfl rfl ?_ hcl hc
    show exes _ b6 [v, .non] _ = _
    unfold b6
    exact xs_exc (x_exX (v_call (vs_cons (v_var rfl hv) vs_nil) (number_bad (wh := wh) (n := n + 1) hc hd hcl hn)))
  refine call_excK (e := [v, .non, .und, .und, .und, .und, .und, .und, .und]) rfl rfl ?_
  show exes _ b7 [v, .non, .und, .und, .und, .und, .und, .und, .und] _ = _
  unfold b7
  exact xs_exc (x_exX (v_call (vs_cons (v_var rfl hv) (vs_cons (v_var rfl (fun z => by cases z)) vs_nil)) q))
theorem v_big {G : Glb} {e : List D} {h : Hh} : ev G (.bin false .pow (.int 10) (.int 20)) e h = .ok (.int 100000000000000000000) h := by
  refine v_bin v_int v_int ?_
  rw [bo_pow, if_pos (by decide +kernel)]
  congr 2

def wlA (s : Nat) : List D := [.non, .int 7, .tup [], .dK [], .str "log", .lst [.non], .lst [.tup [.int 0, .int 1]], .lst [.lst [.int 0, .int 1, .int 1]], .lst [.tup [.int 0, .int 0, .int 1]], .lst [.tup [.int 0, .int (s : Nat), .int 1]], .lst [.tup [.int (s : Nat), .int 0, .int 1]], .lst [.tup [.int (0 - 1), .int 0, .int 1]], .lst [.tup [.int 0, .int 1, .int (0 - 1)]], .lst [.tup [.int 0, .int 1, .bl true]], .lst [.tup [.bl false, .int 1, .int 1]], .lst [.tup [.int 0, .int 1, .non]]]
def wlB : List D := [.lst [.tup [.int 0, .int 1, .int 1, .int 1]], .lst [.tup [.int 0, .str "1", .int 1]], .lst [.int 0], .lst [.tup []]]
def wl (s : Nat) : List D := wlA s ++ wlB
theorem wrong_ok {n : Nat} {h : Hh} (hc : Cl h.length h) {s : Nat} : (gl wh (n + 1)).call 20 [.int (s : Nat)] h = .ok (.lst (wl s)) h := by
  rw [c20]
  refine call_pure (e := [.int (s : Nat), .lst (wlA s)]) rfl rfl ?_ rfl hc
  show exes _ b20 [.int (s : Nat), .und] _ = _
  unfold b20
  refine xs_nx (x_nm (v := .lst (wlA s)) (h1 := h) (v_lst (vs_cons v_non (vs_cons v_int (vs_cons (v_tup (vs_nil) (by simp)) (vs_cons (by rw [ev]; rfl) (vs_cons v_str (vs_cons (v_lst (vs_cons v_non (vs_nil)) (by simp)) (vs_cons (v_lst (vs_cons (v_tup (vs_cons v_int (vs_cons v_int (vs_nil))) (by simp)) (vs_nil)) (by simp)) (vs_cons (v_lst (vs_cons (v_lst (vs_cons v_int (vs_cons v_int (vs_cons v_int (vs_nil)))) (by simp)) (vs_nil)) (by simp)) (vs_cons (v_lst (vs_cons (v_tup (vs_cons v_int (vs_cons v_int (vs_cons v_int (vs_nil)))) (by simp)) (vs_nil)) (by simp)) (vs_cons (v_lst (vs_cons (v_tup (vs_cons v_int (vs_cons (v_var rfl (fun z => by cases z)) (vs_cons v_int (vs_nil)))) (by simp)) (vs_nil)) (by simp)) (vs_cons (v_lst (vs_cons (v_tup (vs_cons (v_var rfl (fun z => by cases z)) (vs_cons v_int (vs_cons v_int (vs_nil)))) (by simp)) (vs_nil)) (by simp)) (vs_cons (v_lst (vs_cons (v_tup (vs_cons (v_bin v_int v_int bo_sub) (vs_cons v_int (vs_cons v_int (vs_nil)))) (by simp)) (vs_nil)) (by simp)) (vs_cons (v_lst (vs_cons (v_tup (vs_cons v_int (vs_cons v_int (vs_cons (v_bin v_int v_int bo_sub) (vs_nil)))) (by simp)) (vs_nil)) (by simp)) (vs_cons (v_lst (vs_cons (v_tup (vs_cons v_int (vs_cons v_int (vs_cons v_bl (vs_nil)))) (by simp)) (vs_nil)) (by simp)) (vs_cons (v_lst (vs_cons (v_tup (vs_cons v_bl (vs_cons v_int (vs_cons v_int (vs_nil)))) (by simp)) (vs_nil)) (by simp)) (vs_cons (v_lst (vs_cons (v_tup (vs_cons v_int (vs_cons v_int (vs_cons v_non (vs_nil)))) (by simp)) (vs_nil)) (by simp)) (vs_nil))))))))))))))))) (by simp [wlA]))) (xs_ret (x_rt (v_bin (x := .lst (wlA s)) (y := .lst wlB) (h1 := h) (h2 := h) (v_var rfl (fun z => by cases z)) (v_lst (vs_cons (v_lst (vs_cons (v_tup (vs_cons v_int (vs_cons v_int (vs_cons v_int (vs_cons v_int (vs_nil))))) (by simp)) (vs_nil)) (by simp)) (vs_cons (v_lst (vs_cons (v_tup (vs_cons v_int (vs_cons v_str (vs_cons v_int (vs_nil)))) (by simp)) (vs_nil)) (by simp)) (vs_cons (v_lst (vs_cons v_int (vs_nil)) (by simp)) (vs_cons (v_lst (vs_cons (v_tup (vs_nil) (by simp)) (vs_nil)) (by simp)) (vs_nil))))) (by simp [wlB])) ?_)))
  rw [bo_cat, newF, if_pos (sz_of (by simp [wlA, wlB]))]
  rfl
structure BadV (s : Nat) (v : D) : Prop where
  bad : BadLog s v
  tid : tidy v = true
  shw : ∀ h, ∃ z, ∀ sub lv, bfn sub lv .repr [v] h = .ok (.str z) h
theorem eqP1 {x : D} {m d : Nat} (p : PyData) (hp : x.py = some p) (hc : PyData.canLay0 p = true) (hd : PyData.depth p ≤ 10) : eqPy (.lst [x]) (.lst []) = some false := by
  have e1 : (D.lst [x]).py = some (.list [p]) := by simp only [D.py, D.pyAll, hp, Option.map_some]
  have e2 : (D.lst []).py = some (.list []) := rfl
  have s1 : SeqAt.shaped (.list [p]) = true := by
    unfold SeqAt.shaped
    rw [Bool.and_eq_true]
    exact ⟨by simp only [PyData.canLay0, PyData.canLayAll0, hc, Bool.and_self], decide_eq_true (by simp only [PyData.depth, PyData.depthAll]; omega)⟩
  have s2 : SeqAt.shaped (.list []) = true := rfl
  unfold eqPy
  simp only [e1, e2, s1, s2, Bool.and_self, if_true]
  rfl
theorem all_nil {P : D → Prop} : ∀ v ∈ ([] : List D), P v := fun v h => by cases h
theorem all_cons {P : D → Prop} {x : D} {xs : List D} (h : P x) (k : ∀ v ∈ xs, P v) : ∀ v ∈ x :: xs, P v := fun v hv => by
  rcases List.mem_cons.mp hv with rfl | hv
  · exact h
  · exact k v hv
theorem wl_bad {s : Nat} (hs : 1 ≤ s ∧ s ≤ 8) : ∀ v ∈ wl s, BadV s v := by
  have hs24 : ((s : Nat) : Int).natAbs < 10 ^ 24 := by
    have e : (10 : Nat) ^ 24 = 1000000000000000000000000 := by decide
    rw [e]; omega
  intro v hv
  rcases List.mem_append.mp hv with hv | hv
  · exact (all_cons (P := BadV s) (⟨⟨rfl, rfl, .inl (fun xs z => by cases z)⟩, rfl, (fun h => repr_ok (d := 1) (RpD.non (m := 0)) (by decide) (by decide) rfl)⟩) (
    all_cons (P := BadV s) (⟨⟨rfl, rfl, .inl (fun xs z => by cases z)⟩, rfl, (fun h => repr_ok (d := 1) (RpD.int (m := 0) (by decide)) (by decide) (by decide) rfl)⟩) (
    all_cons (P := BadV s) (⟨⟨rfl, rfl, .inl (fun xs z => by cases z)⟩, rfl, (fun h => repr_ok (d := 1) (RpD.tup (RpL.nil (m := 0))) (by decide) (by decide) rfl)⟩) (
    all_cons (P := BadV s) (⟨⟨rfl, rfl, .inl (fun xs z => by cases z)⟩, rfl, (fun h => repr_dk)⟩) (
    all_cons (P := BadV s) (⟨⟨rfl, rfl, .inl (fun xs z => by cases z)⟩, rfl, (fun h => repr_ok (d := 1) (RpD.str (m := 3) (by decide +kernel) rfl (by decide)) (by decide) (by decide) rfl)⟩) (
    all_cons (P := BadV s) (⟨⟨rfl, rfl, .inr ⟨.non, rfl, rfl, (fun xs z => by cases z), (by simp [entB]), eqP1 (m := 0) (d := 0) (.none) rfl rfl (by simp [PyData.depth, PyData.depthAll])⟩⟩, rfl, (fun h => repr_ok (d := 2) (RpD.lst (RpL.cons (RpD.non (m := 0)) (RpL.nil (m := 0)))) (by decide) (by decide) rfl)⟩) (
    all_cons (P := BadV s) (⟨⟨rfl, rfl, .inr ⟨.tup [.int 0, .int 1], rfl, rfl, (fun xs z => by cases z; exact ⟨by simp [flat1], by simp⟩), (by simp [entB]), eqP1 (m := 0) (d := 0) (.tuple [.int 0, .int 1]) rfl rfl (by simp [PyData.depth, PyData.depthAll])⟩⟩, rfl, (fun h => repr_ok (d := 3) (RpD.lst (RpL.cons (RpD.tup (RpL.cons (RpD.int (m := 0) (by decide)) (RpL.cons (RpD.int (m := 0) (by decide)) (RpL.nil (m := 0))))) (RpL.nil (m := 0)))) (by decide) (by decide) rfl)⟩) (
    all_cons (P := BadV s) (⟨⟨rfl, rfl, .inr ⟨.lst [.int 0, .int 1, .int 1], rfl, rfl, (fun xs z => by cases z), (by simp [entB]), eqP1 (m := 0) (d := 0) (.list [.int 0, .int 1, .int 1]) rfl rfl (by simp [PyData.depth, PyData.depthAll])⟩⟩, rfl, (fun h => repr_ok (d := 3) (RpD.lst (RpL.cons (RpD.lst (RpL.cons (RpD.int (m := 0) (by decide)) (RpL.cons (RpD.int (m := 0) (by decide)) (RpL.cons (RpD.int (m := 0) (by decide)) (RpL.nil (m := 0)))))) (RpL.nil (m := 0)))) (by decide) (by decide) rfl)⟩) (
    all_cons (P := BadV s) (⟨⟨rfl, rfl, .inr ⟨.tup [.int 0, .int 0, .int 1], rfl, rfl, (fun xs z => by cases z; exact ⟨by simp [flat1], by simp⟩), (by simp [entB]), eqP1 (m := 0) (d := 0) (.tuple [.int 0, .int 0, .int 1]) rfl rfl (by simp [PyData.depth, PyData.depthAll])⟩⟩, rfl, (fun h => repr_ok (d := 3) (RpD.lst (RpL.cons (RpD.tup (RpL.cons (RpD.int (m := 0) (by decide)) (RpL.cons (RpD.int (m := 0) (by decide)) (RpL.cons (RpD.int (m := 0) (by decide)) (RpL.nil (m := 0)))))) (RpL.nil (m := 0)))) (by decide) (by decide) rfl)⟩) (
    all_cons (P := BadV s) (⟨⟨rfl, rfl, .inr ⟨.tup [.int 0, .int (s : Nat), .int 1], rfl, rfl, (fun xs z => by cases z; exact ⟨by simp [flat1], by simp⟩), (by simp [entB]), eqP1 (m := 0) (d := 0) (.tuple [.int 0, .int (s : Nat), .int 1]) rfl rfl (by simp [PyData.depth, PyData.depthAll])⟩⟩, rfl, (fun h => repr_ok (d := 3) (RpD.lst (RpL.cons (RpD.tup (RpL.cons (RpD.int (m := 0) (by decide)) (RpL.cons (RpD.int (m := 0) hs24) (RpL.cons (RpD.int (m := 0) (by decide)) (RpL.nil (m := 0)))))) (RpL.nil (m := 0)))) (by decide) (by decide) rfl)⟩) (
    all_cons (P := BadV s) (⟨⟨rfl, rfl, .inr ⟨.tup [.int (s : Nat), .int 0, .int 1], rfl, rfl, (fun xs z => by cases z; exact ⟨by simp [flat1], by simp⟩), (by simp [entB]), eqP1 (m := 0) (d := 0) (.tuple [.int (s : Nat), .int 0, .int 1]) rfl rfl (by simp [PyData.depth, PyData.depthAll])⟩⟩, rfl, (fun h => repr_ok (d := 3) (RpD.lst (RpL.cons (RpD.tup (RpL.cons (RpD.int (m := 0) hs24) (RpL.cons (RpD.int (m := 0) (by decide)) (RpL.cons (RpD.int (m := 0) (by decide)) (RpL.nil (m := 0)))))) (RpL.nil (m := 0)))) (by decide) (by decide) rfl)⟩) (
    all_cons (P := BadV s) (⟨⟨rfl, rfl, .inr ⟨.tup [.int (0 - 1), .int 0, .int 1], rfl, rfl, (fun xs z => by cases z; exact ⟨by simp [flat1], by simp⟩), (by simp [entB]), eqP1 (m := 0) (d := 0) (.tuple [.int (0 - 1), .int 0, .int 1]) rfl rfl (by simp [PyData.depth, PyData.depthAll])⟩⟩, rfl, (fun h => repr_ok (d := 3) (RpD.lst (RpL.cons (RpD.tup (RpL.cons (RpD.int (m := 0) (by decide)) (RpL.cons (RpD.int (m := 0) (by decide)) (RpL.cons (RpD.int (m := 0) (by decide)) (RpL.nil (m := 0)))))) (RpL.nil (m := 0)))) (by decide) (by decide) rfl)⟩) (
    all_cons (P := BadV s) (⟨⟨rfl, rfl, .inr ⟨.tup [.int 0, .int 1, .int (0 - 1)], rfl, rfl, (fun xs z => by cases z; exact ⟨by simp [flat1], by simp⟩), (by simp [entB]), eqP1 (m := 0) (d := 0) (.tuple [.int 0, .int 1, .int (0 - 1)]) rfl rfl (by simp [PyData.depth, PyData.depthAll])⟩⟩, rfl, (fun h => repr_ok (d := 3) (RpD.lst (RpL.cons (RpD.tup (RpL.cons (RpD.int (m := 0) (by decide)) (RpL.cons (RpD.int (m := 0) (by decide)) (RpL.cons (RpD.int (m := 0) (by decide)) (RpL.nil (m := 0)))))) (RpL.nil (m := 0)))) (by decide) (by decide) rfl)⟩) (
    all_cons (P := BadV s) (⟨⟨rfl, rfl, .inr ⟨.tup [.int 0, .int 1, .bl true], rfl, rfl, (fun xs z => by cases z; exact ⟨by simp [flat1], by simp⟩), (by simp [entB]), eqP1 (m := 0) (d := 0) (.tuple [.int 0, .int 1, .bool true]) rfl rfl (by simp [PyData.depth, PyData.depthAll])⟩⟩, rfl, (fun h => repr_ok (d := 3) (RpD.lst (RpL.cons (RpD.tup (RpL.cons (RpD.int (m := 0) (by decide)) (RpL.cons (RpD.int (m := 0) (by decide)) (RpL.cons (RpD.bl (m := 0)) (RpL.nil (m := 0)))))) (RpL.nil (m := 0)))) (by decide) (by decide) rfl)⟩) (
    all_cons (P := BadV s) (⟨⟨rfl, rfl, .inr ⟨.tup [.bl false, .int 1, .int 1], rfl, rfl, (fun xs z => by cases z; exact ⟨by simp [flat1], by simp⟩), (by simp [entB]), eqP1 (m := 0) (d := 0) (.tuple [.bool false, .int 1, .int 1]) rfl rfl (by simp [PyData.depth, PyData.depthAll])⟩⟩, rfl, (fun h => repr_ok (d := 3) (RpD.lst (RpL.cons (RpD.tup (RpL.cons (RpD.bl (m := 0)) (RpL.cons (RpD.int (m := 0) (by decide)) (RpL.cons (RpD.int (m := 0) (by decide)) (RpL.nil (m := 0)))))) (RpL.nil (m := 0)))) (by decide) (by decide) rfl)⟩) (
    all_cons (P := BadV s) (⟨⟨rfl, rfl, .inr ⟨.tup [.int 0, .int 1, .non], rfl, rfl, (fun xs z => by cases z; exact ⟨by simp [flat1], by simp⟩), (by simp [entB]), eqP1 (m := 0) (d := 0) (.tuple [.int 0, .int 1, .none]) rfl rfl (by simp [PyData.depth, PyData.depthAll])⟩⟩, rfl, (fun h => repr_ok (d := 3) (RpD.lst (RpL.cons (RpD.tup (RpL.cons (RpD.int (m := 0) (by decide)) (RpL.cons (RpD.int (m := 0) (by decide)) (RpL.cons (RpD.non (m := 0)) (RpL.nil (m := 0)))))) (RpL.nil (m := 0)))) (by decide) (by decide) rfl)⟩) (
    all_nil))))))))))))))))) v (show v ∈ [D.non, D.int 7, D.tup [], D.dK [], D.str "log", D.lst [.non], D.lst [.tup [.int 0, .int 1]], D.lst [.lst [.int 0, .int 1, .int 1]], D.lst [.tup [.int 0, .int 0, .int 1]], D.lst [.tup [.int 0, .int (s : Nat), .int 1]], D.lst [.tup [.int (s : Nat), .int 0, .int 1]], D.lst [.tup [.int (0 - 1), .int 0, .int 1]], D.lst [.tup [.int 0, .int 1, .int (0 - 1)]], D.lst [.tup [.int 0, .int 1, .bl true]], D.lst [.tup [.bl false, .int 1, .int 1]], D.lst [.tup [.int 0, .int 1, .non]]] from hv)
  · exact (all_cons (P := BadV s) (⟨⟨rfl, rfl, .inr ⟨.tup [.int 0, .int 1, .int 1, .int 1], rfl, rfl, (fun xs z => by cases z; exact ⟨by simp [flat1], by simp⟩), (by simp [entB]), eqP1 (m := 0) (d := 0) (.tuple [.int 0, .int 1, .int 1, .int 1]) rfl rfl (by simp [PyData.depth, PyData.depthAll])⟩⟩, rfl, (fun h => repr_ok (d := 3) (RpD.lst (RpL.cons (RpD.tup (RpL.cons (RpD.int (m := 0) (by decide)) (RpL.cons (RpD.int (m := 0) (by decide)) (RpL.cons (RpD.int (m := 0) (by decide)) (RpL.cons (RpD.int (m := 0) (by decide)) (RpL.nil (m := 0))))))) (RpL.nil (m := 0)))) (by decide) (by decide) rfl)⟩) (
    all_cons (P := BadV s) (⟨⟨rfl, rfl, .inr ⟨.tup [.int 0, .str "1", .int 1], rfl, rfl, (fun xs z => by cases z; exact ⟨by simp [flat1], by simp⟩), (by simp [entB]), eqP1 (m := 0) (d := 0) (.tuple [.int 0, .str "1", .int 1]) rfl (by decide +kernel) (by simp [PyData.depth, PyData.depthAll])⟩⟩, rfl, (fun h => repr_ok (d := 3) (RpD.lst (RpL.cons (RpD.tup (RpL.cons (RpD.int (m := 0) (by decide)) (RpL.cons (RpD.str (m := 3) (by decide +kernel) rfl (by decide)) (RpL.cons (RpD.int (m := 0) (by decide)) (RpL.nil (m := 0)))))) (RpL.nil (m := 0)))) (by decide) (by decide) rfl)⟩) (
    all_cons (P := BadV s) (⟨⟨rfl, rfl, .inr ⟨.int 0, rfl, rfl, (fun xs z => by cases z), (by simp [entB]), eqP1 (m := 0) (d := 0) (.int 0) rfl rfl (by simp [PyData.depth, PyData.depthAll])⟩⟩, rfl, (fun h => repr_ok (d := 2) (RpD.lst (RpL.cons (RpD.int (m := 0) (by decide)) (RpL.nil (m := 0)))) (by decide) (by decide) rfl)⟩) (
    all_cons (P := BadV s) (⟨⟨rfl, rfl, .inr ⟨.tup [], rfl, rfl, (fun xs z => by cases z; exact ⟨by simp [flat1], by simp⟩), (by simp [entB]), eqP1 (m := 0) (d := 0) (.tuple []) rfl rfl (by simp [PyData.depth, PyData.depthAll])⟩⟩, rfl, (fun h => repr_ok (d := 2) (RpD.lst (RpL.cons (RpD.tup (RpL.nil (m := 0))) (RpL.nil (m := 0)))) (by decide) (by decide) rfl)⟩) (
    all_nil))))) v (show v ∈ [D.lst [.tup [.int 0, .int 1, .int 1, .int 1]], D.lst [.tup [.int 0, .str "1", .int 1]], D.lst [.int 0], D.lst [.tup []]] from hv)
def wn : List D := [.non, .int 0, .int 13, .int (0 - 1), .bl true, .str "3", .lst [.int 3], .int 100000000000000000000]
theorem wrongn_ok {n : Nat} {h : Hh} (hc : Cl h.length h) : (gl wh (n + 1)).call 21 [] h = .ok (.lst wn) h := by
  rw [c21]
  refine call_pure (e := []) rfl rfl ?_ rfl hc
  show exes _ b21 [] _ = _
  unfold b21
  exact xs_ret (x_rt (v_lst (vs_cons v_non (vs_cons v_int (vs_cons v_int (vs_cons (v_bin v_int v_int bo_sub) (vs_cons v_bl (vs_cons v_str (vs_cons (v_lst (vs_cons v_int (vs_nil)) (by simp)) (vs_cons v_big (vs_nil))))))))) (by simp [wn])))
structure BadN (v : D) : Prop where
  frz : frz v = true
  cls : clsd 0 v = true
  num : numB v = false
  tid : tidy v = true
  shw : ∀ h, ∃ z, ∀ sub lv, bfn sub lv .repr [v] h = .ok (.str z) h
theorem wn_bad : ∀ v ∈ wn, BadN v := fun v hv => (
  all_cons (P := BadN) (⟨rfl, rfl, (by decide +kernel), rfl, (fun h => repr_ok (d := 1) (RpD.non (m := 0)) (by decide) (by decide) rfl)⟩) (
    all_cons (P := BadN) (⟨rfl, rfl, (by decide +kernel), rfl, (fun h => repr_ok (d := 1) (RpD.int (m := 0) (by decide)) (by decide) (by decide) rfl)⟩) (
    all_cons (P := BadN) (⟨rfl, rfl, (by decide +kernel), rfl, (fun h => repr_ok (d := 1) (RpD.int (m := 0) (by decide)) (by decide) (by decide) rfl)⟩) (
    all_cons (P := BadN) (⟨rfl, rfl, (by decide +kernel), rfl, (fun h => repr_ok (d := 1) (RpD.int (m := 0) (by decide)) (by decide) (by decide) rfl)⟩) (
    all_cons (P := BadN) (⟨rfl, rfl, (by decide +kernel), rfl, (fun h => repr_ok (d := 1) (RpD.bl (m := 0)) (by decide) (by decide) rfl)⟩) (
    all_cons (P := BadN) (⟨rfl, rfl, (by decide +kernel), rfl, (fun h => repr_ok (d := 1) (RpD.str (m := 3) (by decide +kernel) rfl (by decide)) (by decide) (by decide) rfl)⟩) (
    all_cons (P := BadN) (⟨rfl, rfl, (by decide +kernel), rfl, (fun h => repr_ok (d := 2) (RpD.lst (RpL.cons (RpD.int (m := 0) (by decide)) (RpL.nil (m := 0)))) (by decide) (by decide) rfl)⟩) (
    all_cons (P := BadN) (⟨rfl, rfl, (by decide +kernel), rfl, (fun h => repr_ok (d := 1) (RpD.int (m := 0) (by decide)) (by decide) (by decide) rfl)⟩) (
    all_nil))))))))) v (show v ∈ [D.non, D.int 0, D.int 13, D.int (0 - 1), D.bl true, D.str "3", D.lst [.int 3], D.int 100000000000000000000] from hv)
end Tx
end Mn
namespace Mn
namespace Tx
open PySem L2
variable {wh : (List D → Hh → Res D) → (List D → Hh → SRes) → List D → Hh → SRes}
/-! ### heaps in good order -/
structure Good (h : Hh) : Prop where
  cl : Cl h.length h
  td : h.all Ob.tidy = true
theorem Good.app {h t : Hh} (g : Good h) (ht : ∀ ob ∈ t, ob.clsd (h ++ t).length = true ∧ ob.tidy = true) : Good (h ++ t) := by
  constructor
  · intro ob hob
    rcases List.mem_append.mp hob with hob | hob
    · exact Ob.clsd_up (by simp) (g.cl ob hob)
    · exact (ht ob hob).1
  · rw [List.all_append, g.td, Bool.true_and, List.all_eq_true]
    exact fun ob hob => (ht ob hob).2
theorem Good.set {h : Hh} {i : Nat} {ob : Ob} (g : Good h) (c : ob.clsd h.length = true) (t : ob.tidy = true) : Good (h.set i ob) := by
  constructor
  · rw [List.length_set]
    intro x hx
    rcases List.mem_or_eq_of_mem_set hx with hx | rfl
    · exact g.cl x hx
    · exact c
  · rw [List.all_eq_true]
    intro x hx
    rcases List.mem_or_eq_of_mem_set hx with hx | rfl
    · exact List.all_eq_true.mp g.td x hx
    · exact t
theorem clsdL_app {n : Nat} : ∀ {xs ys : List D}, clsdL n xs = true → clsdL n ys = true → clsdL n (xs ++ ys) = true
  | [], _, _, h => h
  | x :: xs, ys, h, k => by
    rw [List.cons_append, clsdL]
    rw [clsdL, Bool.and_eq_true] at h
    rw [h.1, clsdL_app h.2 k]; rfl
theorem tidyL_app : ∀ {xs ys : List D}, tidyL xs = true → tidyL ys = true → tidyL (xs ++ ys) = true
  | [], _, _, h => h
  | x :: xs, ys, h, k => by
    rw [List.cons_append, tidyL]
    rw [tidyL, Bool.and_eq_true] at h
    rw [h.1, tidyL_app h.2 k]; rfl
theorem tidyL_of {xs : List D} (h : ∀ d ∈ xs, tidy d = true) : tidyL xs = true := by
  induction xs with
  | nil => rfl
  | cons x xs ih => rw [tidyL, h x List.mem_cons_self, ih fun d hd => h d (List.mem_cons_of_mem _ hd)]; rfl
/-- a list in a good heap takes one more number -/
theorem Good.push {h : Hh} (g : Good h) {i : Nat} {xs : List D} (e : h[i]? = some (.lst xs)) {v : Int} : Good (h.set i (.lst (xs ++ [.int v]))) := by
  have hm := List.mem_of_getElem? e
  have c : clsdL h.length xs = true := g.cl _ hm
  have t : tidyL xs = true := List.all_eq_true.mp g.td _ hm
  exact g.set (clsdL_app c rfl) (tidyL_app t rfl)
theorem kvs_ok {n : Nat} : ∀ {kvs : List (List Key × D)}, (∀ r ∈ kvs, ∃ z, r.2 = pairD z) → clsdT n kvs = true ∧ tidyT kvs = true
  | [], _ => ⟨rfl, rfl⟩
  | (k, v) :: r, h => by
    obtain ⟨z, hz⟩ := h (k, v) List.mem_cons_self
    obtain ⟨a, b⟩ := kvs_ok fun x hx => h x (List.mem_cons_of_mem _ hx)
    simp only at hz
    subst hz
    exact ⟨by rw [clsdT, a]; rfl, by rw [tidyT, b]; rfl⟩
theorem valT_t {K : KS} {i j : Nat} : tidy (valT K i j) = true := by
  unfold valT
  split
  · rfl
  · split <;> rfl
theorem valT_f {K : KS} {i j : Nat} : flat (valT K i j) = true := by
  unfold valT
  split
  · rfl
  · split <;> rfl
theorem rowT_t {s : Nat} {K : KS} {i : Nat} : tidyL (rowT s K i) = true := tidyL_of fun d hd => by
  unfold rowT at hd
  obtain ⟨j, _, rfl⟩ := List.mem_map.mp hd
  exact valT_t
theorem hT_good {h : Hh} (g : Good h) {kvs : List (List Key × D)} (hk : ∀ r ∈ kvs, ∃ z, r.2 = pairD z) {s : Nat} {K : KS} : Good (hT h kvs s K s) := by
  unfold hT
  refine g.app fun ob hob => ?_
  rcases List.mem_cons.mp hob with rfl | hob
  · exact kvs_ok hk
  rcases List.mem_cons.mp hob with rfl | hob
  · constructor
    · refine clsdL_of fun d hd => ?_
      unfold celT at hd
      obtain ⟨j, hj, rfl⟩ := List.mem_map.mp hd
      have hj : j < s := by simpa using hj
      simp only [clsd, decide_eq_true_eq, List.length_append, List.length_cons, List.length_map, List.length_range]
      omega
    · refine tidyL_of fun d hd => ?_
      unfold celT at hd
      obtain ⟨j, hj, rfl⟩ := List.mem_map.mp hd
      rfl
  · obtain ⟨j, _, rfl⟩ := List.mem_map.mp hob
    exact ⟨rowT_c, rowT_t⟩
/-! ### told reads as due -/
def dueV (s : Nat) (xs : List (Int × Int × Int)) : D := match runK (fun _ _ => none) 0 xs with
  | .inl (p, q) => clD p q
  | .inr K => dueD s K
theorem dueV_c {k s : Nat} {xs : List (Int × Int × Int)} : clsd k (dueV s xs) = true := by
  unfold dueV
  split
  · rfl
  · exact dueD_c
theorem due_v {n : Nat} {h : Hh} (hc : Cl h.length h) {s : Nat} (hs : 1 ≤ s ∧ s ≤ 12) {xs : List (Int × Int × Int)} (E : ∀ x ∈ xs, EntOk s x) (hl : xs.length ≤ 100) : (gl wh (n + 1)).call 22 [.int (s : Nat), logD xs] h = .ok (dueV s xs) h := by
  unfold dueV
  rcases due_ok (wh := wh) (n := n) hc hs E hl with ⟨p, q, hr, hq⟩ | ⟨K, hr, hq⟩
  · rw [hr]; exact hq
  · rw [hr]; exact hq
theorem rd_tup2 {h : Hh} {k : Nat} {a b c d : D} (h1 : Rd h k a c) (h2 : Rd h k b d) : Rd h (k + 1) (.tup [a, b]) (.tup [c, d]) := by
  refine Or.inr (Or.inr ⟨_, _, rfl, rfl, rfl, by simp, fun i x y hx hy => ?_⟩)
  match i, hx, hy with
  | 0, hx, hy => cases hx; cases hy; exact h1
  | 1, hx, hy => cases hx; cases hy; exact h2
theorem rd_lst2 {h : Hh} {k : Nat} {a b c d : D} (h1 : Rd h k a c) (h2 : Rd h k b d) : Rd h (k + 1) (.lst [a, b]) (.lst [c, d]) := by
  refine Or.inr (Or.inl ⟨_, _, rfl, rfl, rfl, by simp, fun i x y hx hy => ?_⟩)
  match i, hx, hy with
  | 0, hx, hy => cases hx; cases hy; exact h1
  | 1, hx, hy => cases hx; cases hy; exact h2
theorem rd_rng {h : Hh} {k s : Nat} {d : D} {f g : Nat → D} (e : lsOf h d = some ((List.range s).map f)) (hs : s ≤ 1000) (hi : ∀ i, i < s → Rd h k (f i) (g i)) : Rd h (k + 1) d (.lst ((List.range s).map g)) := by
  refine Or.inr (Or.inl ⟨_, _, e, rfl, by simp, by simpa using hs, fun i x y hx hy => ?_⟩)
  by_cases q : i < s
  · rw [List.getElem?_map, List.getElem?_range q] at hx hy
    cases hx; cases hy
    exact hi i q
  · rw [List.getElem?_eq_none (by simp; omega)] at hx
    cases hx
theorem hT_r {h0 : Hh} {kvs : List (List Key × D)} {s : Nat} {K : KS} {i : Nat} (hi : i < s) {t : Hh} : (hT h0 kvs s K s ++ t)[h0.length + 2 + i]? = some (.lst (rowT s K i)) := by
  unfold hT
  rw [List.append_assoc, List.getElem?_append_right (by omega), show h0.length + 2 + i - h0.length = i + 1 + 1 by omega, List.cons_append, List.getElem?_cons_succ, List.cons_append, List.getElem?_cons_succ, List.getElem?_append_left (by simpa using hi), List.getElem?_map, List.getElem?_range hi]
  rfl
theorem rd_told {h0 : Hh} {kvs : List (List Key × D)} {s : Nat} (hs : s ≤ 12) {K : KS} {u : Hh} : Rd (hT h0 kvs s K s ++ u) 3 (.tup [.str "told", .cel (h0.length + 1)]) (dueD s K) := by
  refine rd_tup2 (Rd.fl rfl) (rd_rng (f := fun k => .cel (h0.length + 2 + k)) (g := fun i => .lst (rowT s K i)) ?_ (by omega) fun i hi => rd_rng (f := valT K i) (g := valT K i) ?_ (by omega) fun j _ => Rd.fl valT_f)
  · simp only [lsOf, hT_l]; rfl
  · simp only [lsOf, hT_r hi]; rfl
structure Told (h : Hh) (s : Nat) (xs : List (Int × Int × Int)) (d : D) (t : Hh) : Prop where
  good : Good (h ++ t)
  cls : clsd (h ++ t).length d = true
  rd : ∀ u, Rd (h ++ t ++ u) 3 d (dueV s xs)
  kind : (∃ p q, dueV s xs = clD p q) ∨ ∃ K m cs r, dueV s xs = dueD s K ∧ d = .tup [.str "told", .cel m] ∧ (h ++ t)[m]? = some (.lst (.cel (m + 1) :: cs)) ∧ (h ++ t)[m + 1]? = some (.lst r) ∧ cs.length ≤ 12 ∧ r.length ≤ 12 ∧ h.length ≤ m
theorem told_v {n : Nat} {h : Hh} (g : Good h) {s : Nat} (hs : 1 ≤ s ∧ s ≤ 12) {xs : List (Int × Int × Int)} (E : ∀ x ∈ xs, EntOk s x) (hl : xs.length ≤ 100) : ∃ d t, d ≠ .und ∧ (gl wh (n + 6)).call 7 [.int (s : Nat), logD xs] h = .ok d (h ++ t) ∧ Told h s xs d t := by
  rcases told_ok (wh := wh) (n := n) g.cl hs E hl with ⟨p, q, kvs, hr, ha, hq⟩ | ⟨K, kvs, hr, dk, hq⟩
  · have dv : dueV s xs = clD p q := by unfold dueV; rw [hr]
    refine ⟨clD p q, [.dT kvs], (fun z => by cases z), hq, g.app (fun ob hob => ?_), rfl, (fun u => ?_), .inl ⟨p, q, dv⟩⟩
    · have : ob = .dT kvs := by simpa using hob
      subst this
      exact kvs_ok ha
    · rw [dv]
      exact rd_tup2 (Rd.fl rfl) (rd_tup2 (Rd.fl rfl) (Rd.fl rfl))
  · have dv : dueV s xs = dueD s K := by unfold dueV; rw [hr]
    have e : ∀ i, hT h kvs s K i = h ++ (.dT kvs :: .lst (celT (h.length + 2) i) :: (List.range i).map fun k => .lst (rowT s K k)) := fun _ => rfl
    refine ⟨.tup [.str "told", .cel (h.length + 1)], _, (fun z => by cases z), hq, (e s ▸ hT_good g dk.all), ?_, (fun u => ?_), .inr ?_⟩
    · simp [clsd, clsdL]
    · rw [dv]
      exact rd_told (h0 := h) (kvs := kvs) hs.2
    · obtain ⟨k, rfl⟩ : ∃ k, s = k + 1 := ⟨s - 1, by omega⟩
      have hl := hT_l (h0 := h) (kvs := kvs) (s := k + 1) (K := K) (i := k + 1) (t := [])
      have hr := hT_r (h0 := h) (kvs := kvs) (s := k + 1) (K := K) (i := 0) (by omega) (t := [])
      rw [List.append_nil] at hl hr
      refine ⟨K, h.length + 1, (celT (h.length + 3) k), rowT (k + 1) K 0, dv, rfl, ?_, hr, by simp [celT]; omega, by simp [rowT]; omega, by omega⟩
      rw [← e, hl]
      unfold celT
      rw [List.range_succ_eq_map, List.map_cons, List.map_map]
      congr 3
      apply List.map_congr_left
      intro j _
      simp only [Function.comp]
      congr 1
      omega
end Tx
end Mn
namespace Mn
namespace Tx
open PySem L2
variable {wh : (List D → Hh → Res D) → (List D → Hh → SRes) → List D → Hh → SRes}
/-! ### one log of the law -/
abbrev lwBody : Ss := (.cons (.par 7 8 (.call 22 (.cons (.var 2) (.cons (.var 4) .nil))) (.bi false .repr (.cons (.var 4) .nil))) (.cons (.asg (.nm 6) (.call 7 (.cons (.var 2) (.cons (.var 4) .nil)))) (.cons (.ite (.or (.not (.call 13 (.cons (.var 6) (.cons (.var 7) .nil)))) (.or (.cmp .isnt (.call 5 (.cons (.var 2) (.cons (.var 4) .nil))) (.bl true)) (.one (.cmp .ne (.bi false .repr (.cons (.var 4) .nil)) (.var 8))))) (.cons (.ret (.bl false)) .nil) .nil) (.cons (.ite (.cmp .eq (.idx (.var 7) (.int 0)) (.str "told")) (.cons (.ex (.mt .append (.idx (.idx (.var 6) (.int 1)) (.int 0)) (.cons (.int 7) .nil))) (.cons (.ex (.mt .append (.idx (.var 6) (.int 1)) (.cons (.int 7) .nil))) .nil)) .nil) (.cons (.ite (.not (.call 13 (.cons (.lst false (.cons (.callp 7 [1, 0] (.cons (.var 4) (.cons (.var 2) .nil))) (.cons (.callp 5 [1, 0] (.cons (.var 4) (.cons (.var 2) .nil))) .nil))) (.cons (.lst false (.cons (.var 7) (.cons (.bl true) .nil))) .nil)))) (.cons (.ret (.bl false)) .nil) .nil) .nil)))))
theorem v_callp {G : Glb} {f : Nat} {pm : List Nat} {es : Es} {e : List D} {ds ds' : List D} {h h1 : Hh} {R : Res D} (q : evs G es e h = .ok ds h1) (p : permD pm ds = some ds') (k : G.call f ds' h1 = R) : ev G (.callp f pm es) e h = R := by
  rw [ev, q, bind_ok, p]
  exact k
theorem dueV_n {s : Nat} {xs : List (Int × Int × Int)} : dueV s xs ≠ .und := by
  unfold dueV
  split
  · exact fun z => by cases z
  · exact fun z => by cases z
def EV (sc : D) (s : Nat) (xs : List (Int × Int × Int)) (d6 : D) (z : Str) : List D := [sc, .cel 0, .int (s : Nat), .cel 1, logD xs, .und, d6, dueV s xs, .str z, .und]
section
variable {G : Glb} {sc : D} {s : Nat} {xs : List (Int × Int × Int)} {d6 : D} {z : Str} {h : Hh}
theorem EV2 : ev G (.var 2) (EV sc s xs d6 z) h = .ok (.int (s : Nat)) h := v_var rfl (fun z => by cases z)
theorem EV4 : ev G (.var 4) (EV sc s xs d6 z) h = .ok (logD xs) h := v_var rfl (fun z => by cases z)
theorem EV6 (n : d6 ≠ .und) : ev G (.var 6) (EV sc s xs d6 z) h = .ok d6 h := v_var rfl n
theorem EV7 : ev G (.var 7) (EV sc s xs d6 z) h = .ok (dueV s xs) h := v_var rfl dueV_n
theorem EV8 : ev G (.var 8) (EV sc s xs d6 z) h = .ok (.str z) h := v_var rfl (fun z => by cases z)
end
theorem turn_a {h : Hh} (g : Good h) {s : Nat} (hs : 1 ≤ s ∧ s ≤ 8) {xs : List (Int × Int × Int)} (E : ∀ x ∈ xs, EntOk s x) (hl : xs.length ≤ 100) {sc d6 : D} (n6 : d6 ≠ .und) {z : Str} (hz : ∀ sub lv, bfn sub lv .repr [logD xs] h = .ok (.str z) h) (r : Rd h 3 d6 (dueV s xs)) : exe (gl wh 19) (.ite (.or (.not (.call 13 (.cons (.var 6) (.cons (.var 7) .nil)))) (.or (.cmp .isnt (.call 5 (.cons (.var 2) (.cons (.var 4) .nil))) (.bl true)) (.one (.cmp .ne (.bi false .repr (.cons (.var 4) .nil)) (.var 8))))) (.cons (.ret (.bl false)) .nil) .nil) (EV sc s xs d6 z) h = .ok .nx (EV sc s xs d6 z) h := by
  have sm := same_ok (wh := wh) g.cl 3 15 d6 (dueV s xs) r
  have il := islog_ok (wh := wh) (n := 14) g.cl (numB_of ⟨hs.1, by omega⟩) (v := logD xs) (fun z => by cases z) (t := true) (logof_ok (wh := wh) (n := 14) g.cl E hl)
  have ne : cmpop .ne (.str z) (.str z) h = some false := by rw [co_neS, decide_eq_true rfl]; rfl
  refine x_f (v_orF (v_not (t := true) (v_call (vs_cons (EV6 n6) (vs_cons EV7 vs_nil)) sm)) (v_orF (v_cmp (x := .bl true) (y := .bl true) (v_call (vs_cons EV2 (vs_cons EV4 vs_nil)) il) v_bl rfl) (v_one (v_cmp (v_bi (vs_cons EV4 vs_nil) (hz _ _)) EV8 ne)))) xs_nil
theorem turn_c {h : Hh} (g : Good h) {s : Nat} (hs : 1 ≤ s ∧ s ≤ 8) {xs : List (Int × Int × Int)} (E : ∀ x ∈ xs, EntOk s x) (hl : xs.length ≤ 100) {sc d6 : D} {z : Str} : ∃ t, exe (gl wh 19) (.ite (.not (.call 13 (.cons (.lst false (.cons (.callp 7 [1, 0] (.cons (.var 4) (.cons (.var 2) .nil))) (.cons (.callp 5 [1, 0] (.cons (.var 4) (.cons (.var 2) .nil))) .nil))) (.cons (.lst false (.cons (.var 7) (.cons (.bl true) .nil))) .nil)))) (.cons (.ret (.bl false)) .nil) .nil) (EV sc s xs d6 z) h = .ok .nx (EV sc s xs d6 z) (h ++ t) ∧ Good (h ++ t) := by
  obtain ⟨d, t, dn, q, T⟩ := told_v (wh := wh) (n := 13) g (s := s) ⟨hs.1, by omega⟩ E hl
  have il := islog_ok (wh := wh) (n := 14) T.good.cl (numB_of ⟨hs.1, by omega⟩) (v := logD xs) (fun z => by cases z) (t := true) (logof_ok (wh := wh) (n := 14) T.good.cl E hl)
  have rd := T.rd []
  rw [List.append_nil] at rd
  have sm := same_ok (wh := wh) T.good.cl 4 14 (.lst [d, .bl true]) (.lst [dueV s xs, .bl true]) (rd_lst2 rd (Rd.fl rfl))
  refine ⟨t, x_f (v_not (t := true) (v_call (ds := [.lst [d, .bl true], .lst [dueV s xs, .bl true]]) (h1 := h ++ t) (vs_cons (h1 := h ++ t) (v_lst (h1 := h ++ t) (vs_cons (h1 := h ++ t) (v_callp (vs_cons EV4 (vs_cons EV2 vs_nil)) rfl q) (vs_cons (v_callp (vs_cons EV4 (vs_cons EV2 vs_nil)) rfl il) vs_nil)) (by simp)) (vs_cons (v_lst (vs_cons EV7 (vs_cons v_bl vs_nil)) (by simp)) vs_nil)) sm)) xs_nil, T.good⟩
theorem turn_b {h t : Hh} {s : Nat} {xs : List (Int × Int × Int)} {sc d6 : D} (n6 : d6 ≠ .und) {z : Str} (T : Told h s xs d6 t) {lg : List D} (h2 : 2 ≤ h.length) (h1 : (h ++ t)[1]? = some (.lst lg)) : ∃ h', exe (gl wh 19) (.ite (.cmp .eq (.idx (.var 7) (.int 0)) (.str "told")) (.cons (.ex (.mt .append (.idx (.idx (.var 6) (.int 1)) (.int 0)) (.cons (.int 7) .nil))) (.cons (.ex (.mt .append (.idx (.var 6) (.int 1)) (.cons (.int 7) .nil))) .nil)) .nil) (EV sc s xs d6 z) (h ++ t) = .ok .nx (EV sc s xs d6 z) h' ∧ Good h' ∧ h'[1]? = some (.lst lg) ∧ 2 ≤ h'.length := by
  rcases T.kind with ⟨p, q, hv⟩ | ⟨K, m, cs, r, hv, rfl, e1, e2, l1, l2, hm⟩
  · have ne : cmpop .eq (.str "clash") (.str "told") (h ++ t) = some false := by
      rw [co_eqS]
      congr 1
    exact ⟨h ++ t, x_f (v_cmp (x := .str "clash") (v_idx EV7 v_int (by rw [hv]; rfl)) v_str ne) xs_nil, T.good, h1, by simp; omega⟩
  · have eq : cmpop .eq (.str "told") (.str "told") (h ++ t) = some true := by rw [co_eqS, decide_eq_true rfl]
    have e3 : ((h ++ t).set (m + 1) (.lst (r ++ [.int 7])))[m]? = some (.lst (.cel (m + 1) :: cs)) := by
      rw [List.getElem?_set_ne (by omega)]; exact e1
    refine ⟨((h ++ t).set (m + 1) (.lst (r ++ [.int 7]))).set m (.lst ((.cel (m + 1) :: cs) ++ [.int 7])), x_t (v_cmp (x := .str "told") (v_idx EV7 v_int (by rw [hv]; rfl)) v_str eq) (xs_nx (x_ex (v := .non) (h1 := (h ++ t).set (m + 1) (.lst (r ++ [.int 7]))) (v_mt (x := .cel (m + 1)) (v_idx (x := .cel m) (v_idx (EV6 n6) v_int rfl) v_int (by rw [ix_cel e1, atI_0])) ?_ (vs_cons v_int vs_nil) ?_)) (xs_nx (x_ex (v := .non) (v_mt (x := .cel m) (v_idx (EV6 n6) v_int rfl) ?_ (vs_cons v_int vs_nil) ?_)) xs_nil)), (T.good.push e2).push e3, ?_, by simp; omega⟩
    · simp only [rcv, lsOf, e2, Option.isSome_some]
    · have hz : r.length < sizeL := by unfold sizeL; omega
      simp only [mtf, e2, hz, if_true]
    · simp only [rcv, lsOf, e3, Option.isSome_some]
    · have hz : (D.cel (m + 1) :: cs).length < sizeL := by rw [List.length_cons]; unfold sizeL; omega
      simp only [mtf, e3, hz, if_true]
    · rw [List.getElem?_set_ne (by omega), List.getElem?_set_ne (by omega)]
      exact h1
theorem law_turn {h : Hh} (g : Good h) {s : Nat} (hs : 1 ≤ s ∧ s ≤ 8) {lg : List D} (h2 : 2 ≤ h.length) (h1 : h[1]? = some (.lst lg)) {xs : List (Int × Int × Int)} (E : ∀ x ∈ xs, EntOk s x) (hl : xs.length ≤ 100) {sc d6 : D} : ∃ d6' v z h', exes (gl wh 19) lwBody [sc, .cel 0, .int (s : Nat), .cel 1, logD xs, .und, d6, .und, .und, .und] h = .ok .nx [sc, .cel 0, .int (s : Nat), .cel 1, logD xs, .und, d6', v, .str z, .und] h' ∧ Good h' ∧ h'[1]? = some (.lst lg) ∧ 2 ≤ h'.length := by
  obtain ⟨z, hz⟩ := log_repr (h := h) (s := s) (by omega) E hl
  obtain ⟨d, t, dn, q, T⟩ := told_v (wh := wh) (n := 13) g (s := s) ⟨hs.1, by omega⟩ E hl
  obtain ⟨z', hz'⟩ := log_repr (h := h ++ t) (s := s) (by omega) E hl
  have zz : z' = z := by
    have a := hz (fun _ _ => true) true
    have b := hz' (fun _ _ => true) true
    have e1 : thaw h 0 3 (logD xs) = logD xs := thaw_c (logD_c 0 xs)
    have e2 : thaw (h ++ t) 0 3 (logD xs) = logD xs := thaw_c (logD_c 0 xs)
    simp only [bfn, e1] at a
    simp only [bfn, e2] at b
    simp only [logD] at a b
    split at a
    · rename_i p hp
      rw [hp] at b
      simp only at b
      split at a
      · rename_i hc
        rw [if_pos hc] at b
        injection a with a
        injection b with b
        injection a with a
        injection b with b
        rw [← a, ← b]
      · cases a
    · cases a
  subst zz
  have rd := T.rd []
  rw [List.append_nil] at rd
  have h1' : (h ++ t)[1]? = some (.lst lg) := by rw [List.getElem?_append_left (by omega)]; exact h1
  have ta := turn_a (wh := wh) T.good hs E hl (sc := sc) dn hz' rd
  obtain ⟨hb, tb, gb, lb, nb⟩ := turn_b (wh := wh) (sc := sc) dn (z := z') T h2 h1'
  obtain ⟨t', tc, gc⟩ := turn_c (wh := wh) gb hs E hl (sc := sc) (d6 := d) (z := z')
  refine ⟨d, dueV s xs, z', hb ++ t', ?_, gc, by rw [List.getElem?_append_left (by omega)]; exact lb, by simp; omega⟩
  have s1 : exe (gl wh 19) (.par 7 8 (.call 22 (.cons (.var 2) (.cons (.var 4) .nil))) (.bi false .repr (.cons (.var 4) .nil))) [sc, .cel 0, .int (s : Nat), .cel 1, logD xs, .und, d6, .und, .und, .und] h = .ok .nx [sc, .cel 0, .int (s : Nat), .cel 1, logD xs, .und, d6, dueV s xs, .str z', .und] h :=
    x_par (v := dueV s xs) (w := .str z') (v_call (vs_cons (v_var rfl (fun z => by cases z)) (vs_cons (v_var rfl (fun z => by cases z)) vs_nil)) (due_v (wh := wh) (n := 18) g.cl ⟨hs.1, by omega⟩ E hl)) (v_bi (vs_cons (v_var rfl (fun z => by cases z)) vs_nil) (hz _ _))
  have s2 : exe (gl wh 19) (.asg (.nm 6) (.call 7 (.cons (.var 2) (.cons (.var 4) .nil)))) [sc, .cel 0, .int (s : Nat), .cel 1, logD xs, .und, d6, dueV s xs, .str z', .und] h = .ok .nx (EV sc s xs d z') (h ++ t) :=
    x_nm (v_call (vs_cons (v_var rfl (fun z => by cases z)) (vs_cons (v_var rfl (fun z => by cases z)) vs_nil)) q)
  exact xs_nx s1 (xs_nx s2 (xs_nx ta (xs_nx tb (xs_nx tc xs_nil))))
end Tx
end Mn
namespace Mn
namespace Tx
open PySem L2
variable {wh : (List D → Hh → Res D) → (List D → Hh → SRes) → List D → Hh → SRes}
/-! ### the loops of the law -/
theorem loopS_at {s : Src} {xs : List D} {body : D → List D → Hh → SRes} (I : Nat → List D → Hh → Prop) (hat : ∀ i e h, I i e h → s.at i h = some xs[i]?) (step : ∀ i x e h, xs[i]? = some x → I i e h → ∃ e' h', body x e h = .ok .nx e' h' ∧ I (i + 1) e' h') :
    ∀ (n i : Nat) (e : List D) (h : Hh), i + n = xs.length → I i e h → ∃ e' h', loopS s body n i e h = .ok .nx e' h' ∧ I xs.length e' h'
  | 0, i, e, h, hn, hI => by
    refine ⟨e, h, ?_, by rw [show xs.length = i by omega]; exact hI⟩
    simp only [loopS, hat i e h hI]
    rw [List.getElem?_eq_none (by omega)]
  | n + 1, i, e, h, hn, hI => by
    have hx : xs[i]? = some (xs[i]'(by omega)) := List.getElem?_eq_getElem (by omega)
    obtain ⟨e1, h1, q1, I1⟩ := step i _ e h hx hI
    obtain ⟨e2, h2, q2, I2⟩ := loopS_at I hat step n (i + 1) e1 h1 (by omega) I1
    refine ⟨e2, h2, ?_, I2⟩
    rw [loopS_nx (by rw [hat i e h hI, hx]) q1, q2]
theorem law_logs {h : Hh} (g : Good h) {s : Nat} (hs : 1 ≤ s ∧ s ≤ 8) {L : List (List (Int × Int × Int))} (E : ∀ l ∈ L, (∀ x ∈ l, EntOk s x) ∧ l.length ≤ 100) (h2 : 2 ≤ h.length) (h1 : h[1]? = some (.lst (L.map logD))) {sc : D} : ∃ d6 h', exe (gl wh 19) (.fr (.seq (.var 3)) (.nm 4) lwBody [4, 7, 8]) [sc, .cel 0, .int (s : Nat), .cel 1, .und, .und, .und, .und, .und, .und] h = .ok .nx [sc, .cel 0, .int (s : Nat), .cel 1, .und, .und, d6, .und, .und, .und] h' ∧ Good h' := by
  obtain ⟨e', h', q, d6, rfl, g', _, _⟩ := loopS_at (s := .cl 1) (xs := L.map logD) (body := lpB (gl wh 19) (.nm 4) [4, 7, 8] lwBody) (fun i e h => ∃ d6, e = [sc, .cel 0, .int (s : Nat), .cel 1, .und, .und, d6, .und, .und, .und] ∧ Good h ∧ 2 ≤ h.length ∧ h[1]? = some (.lst (L.map logD))) (by
    rintro i e h ⟨d6, rfl, g, h2, h1⟩
    simp only [Src.at, h1]) (by
    rintro i x e h hx ⟨d6, rfl, g, h2, h1⟩
    obtain ⟨l, hl, rfl⟩ := List.mem_map.mp (List.mem_of_getElem? hx)
    obtain ⟨d6', v, z, h', q, g', n1, n2⟩ := law_turn (wh := wh) g hs h2 h1 (E l hl).1 (E l hl).2 (sc := sc) (d6 := d6)
    exact ⟨_, _, lp_ok (e1 := [sc, .cel 0, .int (s : Nat), .cel 1, logD l, .und, d6, .und, .und, .und]) (h1 := h) (by simp only [evT, List.set_cons_succ, List.set_cons_zero]) q, d6', rfl, g', n2, n1⟩) (L.map logD).length 0 [sc, .cel 0, .int (s : Nat), .cel 1, .und, .und, .und, .und, .und, .und] h (by omega) ⟨_, rfl, g, h2, h1⟩
  refine ⟨d6, h', x_fr (src := .cl 1) (h1 := h) ?_ ?_, g'⟩
  · rw [evI, v_var (d := .cel 1) rfl (fun z => by cases z), bind_ok]
    simp only [srcOf, h1]
  · have e : (Src.cl 1).len h = (L.map logD).length := by simp only [Src.len, h1]
    rw [e]
    exact q
theorem v_cal1 {G : Glb} {f : Nat} {ls : Bool} {ks : Ls} {es : Es} {e : List D} {ds : List D} {h h1 : Hh} {t : Bool} (q : evs G es e h = .ok ds h1) (k : G.call f (cloA ls ks e :: ds) h1 = .ok (.bl t) h1) (td : h1.all Ob.tidy = true) : ev G (.cal1 f ls ks es) e h = .ok (.bl t) h1 := by
  rw [ev, q, bind_ok, k]
  simp only [tidyR, tidy, td, Bool.and_self, if_true]
theorem law_wrong {h : Hh} (g : Good h) {s : Nat} (hs : 1 ≤ s ∧ s ≤ 8) {sc d6 : D} : ∃ d5, exe (gl wh 19) (.fr (.seq (.call 20 (.cons (.var 2) .nil))) (.nm 5) (.cons (.ite (.or (.cmp .isnt (.call 5 (.cons (.var 2) (.cons (.var 5) .nil))) (.bl false)) (.one (.not (.cal1 15 false (.cons (.call 7 (.cons (.var 2) (.cons (.var 5) .nil))) [2, 5] .nil) (.cons (.str "log") (.cons (.var 5) .nil)))))) (.cons (.ret (.bl false)) .nil) .nil) .nil) []) [sc, .cel 0, .int (s : Nat), .cel 1, .und, .und, d6, .und, .und, .und] h = .ok .nx [sc, .cel 0, .int (s : Nat), .cel 1, .und, d5, d6, .und, .und, .und] h := by
  obtain ⟨e', h', q, d5, rfl, rfl⟩ := loopS_fz (xs := wl s) (body := lpB (gl wh 19) (.nm 5) [] (.cons (.ite (.or (.cmp .isnt (.call 5 (.cons (.var 2) (.cons (.var 5) .nil))) (.bl false)) (.one (.not (.cal1 15 false (.cons (.call 7 (.cons (.var 2) (.cons (.var 5) .nil))) [2, 5] .nil) (.cons (.str "log") (.cons (.var 5) .nil)))))) (.cons (.ret (.bl false)) .nil) .nil) .nil)) (fun i e h' => ∃ d5, e = [sc, .cel 0, .int (s : Nat), .cel 1, .und, d5, d6, .und, .und, .und] ∧ h' = h) (by
    rintro i x e h' hx ⟨d5, rfl, rfl⟩
    have B := wl_bad hs x (List.mem_of_getElem? hx)
    have xc : clsd h'.length x = true := clsd_up (Nat.zero_le _) x B.bad.2.1
    have xn : x ≠ .und := fun z => by subst z; exact absurd B.bad.1 (by decide)
    have nb := numB_of (s := s) ⟨hs.1, by omega⟩
    have il := islog_ok (wh := wh) (n := 14) g.cl nb (v := x) xn (t := false) (logof_bad (wh := wh) (n := 14) g.cl B.bad)
    have tb := told_bad (wh := wh) (n := 10) g.cl nb B.bad xc
    have v2 : ∀ {hh : Hh}, ev (gl wh 19) (.var 2) [sc, .cel 0, .int (s : Nat), .cel 1, .und, x, d6, .und, .und, .und] hh = .ok (.int (s : Nat)) hh := v_var rfl (fun z => by cases z)
    have v5 : ∀ {hh : Hh}, ev (gl wh 19) (.var 5) [sc, .cel 0, .int (s : Nat), .cel 1, .und, x, d6, .und, .und, .und] hh = .ok x hh := v_var rfl xn
    have rf := refused_ok (wh := wh) (n := 16) g.cl g.td (b := .call 7 (.cons (.var 2) (.cons (.var 5) .nil))) (cs := [.und, .und, .int (s : Nat), .und, .und, x, .und, .und, .und, .und]) (by simp [tidyL, tidy, B.tid]) xn xc (B.shw _) (.inl ⟨rfl, rfl⟩) (v_call (vs_cons (v_var rfl (fun z => by cases z)) (vs_cons (v_var rfl xn) vs_nil)) tb)
    refine ⟨_, _, lp_ok (e1 := [sc, .cel 0, .int (s : Nat), .cel 1, .und, x, d6, .und, .und, .und]) (h1 := h') (by simp only [evT, List.set_cons_succ, List.set_cons_zero]) (xs_nx (x_f (v_orF (v_cmp (x := .bl false) (y := .bl false) (v_call (vs_cons v2 (vs_cons v5 vs_nil)) il) v_bl rfl) (v_one (v_not (t := true) (v_cal1 (vs_cons v_str (vs_cons v5 vs_nil)) rf g.td)))) xs_nil) xs_nil), x, rfl, rfl⟩) (wl s).length 0 [sc, .cel 0, .int (s : Nat), .cel 1, .und, .und, d6, .und, .und, .und] h (by omega) ⟨_, rfl, rfl⟩
  refine ⟨d5, x_fr (src := .fz (wl s)) (h1 := h') ?_ q⟩
  rw [evI, v_call (vs_cons (v_var rfl (fun z => by cases z)) vs_nil) (wrong_ok (wh := wh) (n := 18) g.cl), bind_ok]
  rfl
theorem law_nums {h : Hh} (g : Good h) {s : Nat} {sc d5 d6 : D} : exe (gl wh 19) (.fr (.seq (.call 21 .nil)) (.nm 5) (.cons (.ite (.not (.cal1 17 true (.cons (.call 5 (.cons (.var 5) (.cons .non .nil))) [5] (.cons (.call 7 (.cons (.var 5) (.cons .non .nil))) [5] .nil)) (.cons (.str "number") (.cons (.var 5) .nil)))) (.cons (.ret (.bl false)) .nil) .nil) .nil) [5]) [sc, .cel 0, .int (s : Nat), .cel 1, .und, d5, d6, .und, .und, .und] h = .ok .nx [sc, .cel 0, .int (s : Nat), .cel 1, .und, .und, d6, .und, .und, .und] h := by
  obtain ⟨e', h', q, rfl, rfl⟩ := loopS_fz (xs := wn) (body := lpB (gl wh 19) (.nm 5) [5] (.cons (.ite (.not (.cal1 17 true (.cons (.call 5 (.cons (.var 5) (.cons .non .nil))) [5] (.cons (.call 7 (.cons (.var 5) (.cons .non .nil))) [5] .nil)) (.cons (.str "number") (.cons (.var 5) .nil)))) (.cons (.ret (.bl false)) .nil) .nil) .nil)) (fun i e h' => e = [sc, .cel 0, .int (s : Nat), .cel 1, .und, .und, d6, .und, .und, .und] ∧ h' = h) (by
    rintro i x e h' hx ⟨rfl, rfl⟩
    have B := wn_bad x (List.mem_of_getElem? hx)
    have xc : clsd h'.length x = true := clsd_up (Nat.zero_le _) x B.cls
    have xn : x ≠ .und := fun z => by subst z; exact absurd B.frz (by decide)
    have c5 := islog_num (wh := wh) (n := 10) g.cl B.frz xc B.num
    have c7 := told_num (wh := wh) (n := 9) g.cl B.frz xc B.num
    have v5 : ∀ {hh : Hh}, ev (gl wh 19) (.var 5) [sc, .cel 0, .int (s : Nat), .cel 1, .und, x, d6, .und, .und, .und] hh = .ok x hh := v_var rfl xn
    have td : tidyL [.und, .und, .und, .und, .und, x, .und, .und, .und, .und] = true := by simp [tidyL, tidy, B.tid]
    have rf := allref_ok (wh := wh) (n := 15) g.cl g.td (ks := [(.call 5 (.cons (.var 5) (.cons .non .nil)), [.und, .und, .und, .und, .und, x, .und, .und, .und, .und]), (.call 7 (.cons (.var 5) (.cons .non .nil)), [.und, .und, .und, .und, .und, x, .und, .und, .und, .und])]) (by
      intro k hk
      simp only [List.mem_cons, List.not_mem_nil, or_false] at hk
      rcases hk with rfl | rfl <;> exact td) (by simp) xn xc (B.shw _) (.inr ⟨rfl, rfl⟩) (by
      intro k hk
      simp only [List.mem_cons, List.not_mem_nil, or_false] at hk
      rcases hk with rfl | rfl
      · exact v_call (vs_cons (v_var rfl xn) (vs_cons v_non vs_nil)) c5
      · exact v_call (vs_cons (v_var rfl xn) (vs_cons v_non vs_nil)) c7)
    refine ⟨_, _, lp_ok (e1 := [sc, .cel 0, .int (s : Nat), .cel 1, .und, x, d6, .und, .und, .und]) (h1 := h') (by simp only [evT, List.set_cons_succ, List.set_cons_zero]) (xs_nx (x_f (v_not (t := true) (v_cal1 (vs_cons v_str (vs_cons v5 vs_nil)) rf g.td)) xs_nil) xs_nil), rfl, rfl⟩) wn.length 0 [sc, .cel 0, .int (s : Nat), .cel 1, .und, .und, d6, .und, .und, .und] h (by omega) ⟨rfl, rfl⟩
  refine x_fr (src := .fz wn) (h1 := h') ?_ q
  rw [evI, v_call vs_nil (wrongn_ok (wh := wh) (n := 18) g.cl), bind_ok]
  rfl
end Tx
end Mn
namespace Mn
namespace Tx
open PySem L2
variable {wh : (List D → Hh → Res D) → (List D → Hh → SRes) → List D → Hh → SRes}
/-! ### how the law ends -/
theorem logof_mix {n : Nat} {h : Hh} (hc : Cl h.length h) : (gl wh (n + 4)).call 4 [.int 2, logD [(0, 1, 2), (1, 2, 3)]] h = .ok (.bl false) h := by
  have e : (gl wh (n + 4)).call 4 [.int 2, logD [(0, 1, 2), (1, 2, 3)]] h = callFn (gl wh (n + 3)) f4 [.int 2, logD [(0, 1, 2), (1, 2, 3)]] h := rfl
  rw [e]
  refine call_pure (e := [.int 2, logD [(0, 1, 2), (1, 2, 3)], .und]) rfl rfl ?_ rfl hc
  show exes _ b4 [.int 2, logD [(0, 1, 2), (1, 2, 3)], .und] _ = _
  unfold b4
  have v1 : ev (gl wh (n + 3)) (.var 1) [.int 2, logD [(0, 1, 2), (1, 2, 3)], .und] h = .ok (logD [(0, 1, 2), (1, 2, 3)]) h := v_var rfl (fun z => by cases z)
  have cnt : ∀ d ∈ [entD (0, 1, 2), entD (1, 2, 3)], ev (gl wh (n + 3)) (.not (.call 3 (.cons (.var 0) (.cons (.var 2) .nil)))) ((wipeD [.int 2, logD [(0, 1, 2), (1, 2, 3)], .und] [2]).set 2 d) h = .ok (.bl (!entB 2 d)) h := fun d hd => by
    have vv : ∀ d, d ≠ .und → evs (gl wh (n + 3)) (.cons (.var 0) (.cons (.var 2) .nil)) ((wipeD [.int 2, logD [(0, 1, 2), (1, 2, 3)], .und] [2]).set 2 d) h = .ok [.int 2, d] h := fun d hd => vs_cons (v_var rfl (fun z => by cases z)) (vs_cons (v_var rfl hd) vs_nil)
    rcases List.mem_cons.mp hd with rfl | hd
    · exact v_not (t := true) (v_call (vv _ (fun z => by cases z)) (entry_ok (wh := wh) (n := n) hc ⟨by decide, by decide, by decide, by decide⟩))
    · have : d = entD (1, 2, 3) := by simpa using hd
      subst this
      exact v_not (t := false) (v_call (vv _ (fun z => by cases z)) (entry_bad (wh := wh) (n := n) hc rfl (fun xs z => by cases z; exact ⟨by simp [flat1], by simp⟩) rfl))
  have lc := comp_filt (G := gl wh (n + 3)) (P := entB 2) (i := 2) (a := .var 1) (e := [.int 2, logD [(0, 1, 2), (1, 2, 3)], .und]) (xs := [entD (0, 1, 2), entD (1, 2, 3)]) (h := h) (ls := logD [(0, 1, 2), (1, 2, 3)]) v1 rfl (by simp) (fun d hd z => by
    subst z
    simp [entD] at hd) cnt (by simp)
  have ff : [entD (0, 1, 2), entD (1, 2, 3)].filterMap (ngt (entB 2)) = [entD (1, 2, 3)] := rfl
  rw [ff] at lc
  exact xs_ret (x_rt (v_andT (v_bi (vs_cons v1 vs_nil) rfl) (v_one (v_cmp lc v_nil0 (show eqD h (.lst [entD (1, 2, 3)]) (.lst []) = some false from eq_nil1 (ys := [entD (1, 2, 3)]) rfl (eqP1 (x := entD (1, 2, 3)) (m := 0) (d := 0) (.tuple [.int 1, .int 2, .int 3]) rfl rfl (by simp [PyData.depth, PyData.depthAll])))))))
theorem dv1 : dueV 3 [(0, 1, 2), (1, 2, 3), (0, 2, 5)] = .tup [.str "told", .lst [.lst [.int 0, .int 2, .int 5], .lst [.int (0 - 2), .int 0, .int 3], .lst [.int (0 - 5), .int (0 - 3), .int 0]]] := rfl
theorem dv2 : dueV 2 [(0, 1, 2), (0, 1, 2), (1, 0, 2)] = .tup [.str "clash", .tup [.int 0, .int 2]] := rfl
theorem dv5 : dueV 2 [(0, 1, 0), (1, 0, 0)] = .tup [.str "told", .lst [.lst [.int 0, .int 0], .lst [.int 0, .int 0]]] := rfl
theorem law_end {h : Hh} (g : Good h) {s : Nat} {sc d6 : D} : ∃ e' h', exes (gl wh 19) (.cons (.asg (.nm 6) (.lst true (.cons (.call 7 (.cons (.int 3) (.cons (.lst false (.cons (.tup (.cons (.int 0) (.cons (.int 1) (.cons (.int 2) .nil)))) (.cons (.tup (.cons (.int 1) (.cons (.int 2) (.cons (.int 3) .nil)))) (.cons (.tup (.cons (.int 0) (.cons (.int 2) (.cons (.int 5) .nil)))) .nil)))) .nil))) (.cons (.call 7 (.cons (.int 2) (.cons (.lst false (.cons (.tup (.cons (.int 0) (.cons (.int 1) (.cons (.int 2) .nil)))) (.cons (.tup (.cons (.int 0) (.cons (.int 1) (.cons (.int 2) .nil)))) (.cons (.tup (.cons (.int 1) (.cons (.int 0) (.cons (.int 2) .nil)))) .nil)))) .nil))) (.cons (.idx (.call 7 (.cons (.int 12) (.cons (.lst false .nil) .nil))) (.int 0)) (.cons (.call 5 (.cons (.int 2) (.cons (.lst false (.cons (.tup (.cons (.int 0) (.cons (.int 1) (.cons (.int 2) .nil)))) (.cons (.tup (.cons (.int 1) (.cons (.int 2) (.cons (.int 3) .nil)))) .nil))) .nil))) (.cons (.call 7 (.cons (.int 2) (.cons (.lst false (.cons (.tup (.cons (.int 0) (.cons (.int 1) (.cons (.int 0) .nil)))) (.cons (.tup (.cons (.int 1) (.cons (.int 0) (.cons (.int 0) .nil)))) .nil))) .nil))) .nil))))))) (.cons (.ret (.call 13 (.cons (.var 6) (.cons (.lst false (.cons (.tup (.cons (.str "told") (.cons (.lst false (.cons (.lst false (.cons (.int 0) (.cons (.int 2) (.cons (.int 5) .nil)))) (.cons (.lst false (.cons (.bin false .sub (.int 0) (.int 2)) (.cons (.int 0) (.cons (.int 3) .nil)))) (.cons (.lst false (.cons (.bin false .sub (.int 0) (.int 5)) (.cons (.bin false .sub (.int 0) (.int 3)) (.cons (.int 0) .nil)))) .nil)))) .nil))) (.cons (.tup (.cons (.str "clash") (.cons (.tup (.cons (.int 0) (.cons (.int 2) .nil))) .nil))) (.cons (.str "told") (.cons (.bl false) (.cons (.tup (.cons (.str "told") (.cons (.lst false (.cons (.lst false (.cons (.int 0) (.cons (.int 0) .nil))) (.cons (.lst false (.cons (.int 0) (.cons (.int 0) .nil))) .nil))) .nil))) .nil)))))) .nil)))) .nil)) [sc, .cel 0, .int (s : Nat), .cel 1, .und, .und, d6, .und, .und, .und] h = .ok (.ret (.bl true)) e' h' := by
  obtain ⟨d1, t1, n1, q1, T1⟩ := told_v (wh := wh) (n := 13) g (s := 3) (by decide) (xs := [(0, 1, 2), (1, 2, 3), (0, 2, 5)]) (by
    intro x hx
    simp only [List.mem_cons, List.not_mem_nil, or_false] at hx
    rcases hx with rfl | rfl | rfl <;> exact ⟨by decide, by decide, by decide, by decide⟩) (by simp)
  obtain ⟨d2, t2, n2, q2, T2⟩ := told_v (wh := wh) (n := 13) T1.good (s := 2) (by decide) (xs := [(0, 1, 2), (0, 1, 2), (1, 0, 2)]) (by
    intro x hx
    simp only [List.mem_cons, List.not_mem_nil, or_false] at hx
    rcases hx with rfl | rfl | rfl <;> exact ⟨by decide, by decide, by decide, by decide⟩) (by simp)
  obtain ⟨d3, t3, n3, q3, T3⟩ := told_v (wh := wh) (n := 13) T2.good (s := 12) (by decide) (xs := []) (by
    intro x hx
    cases hx) (by simp)
  have q4 : (gl wh 19).call 5 [.int 2, logD [(0, 1, 2), (1, 2, 3)]] (h ++ t1 ++ t2 ++ t3) = .ok (.bl false) (h ++ t1 ++ t2 ++ t3) := islog_ok (wh := wh) (n := 14) T3.good.cl rfl (fun z => by cases z) (logof_mix (wh := wh) (n := 14) T3.good.cl)
  obtain ⟨d5, t5, n5, q5, T5⟩ := told_v (wh := wh) (n := 13) T3.good (s := 2) (by decide) (xs := [(0, 1, 0), (1, 0, 0)]) (by
    intro x hx
    simp only [List.mem_cons, List.not_mem_nil, or_false] at hx
    rcases hx with rfl | rfl <;> exact ⟨by decide, by decide, by decide, by decide⟩) (by simp)
  have i3 : ∀ hh, idxop d3 (.int 0) hh = some (.str "told") := fun hh => by
    rcases T3.kind with ⟨p, q, hv⟩ | ⟨K, m, cs, r, hv, rfl, _⟩
    · cases hv
    · rfl
  generalize hH : h ++ t1 ++ t2 ++ t3 ++ t5 = H at q5
  have gH : Good H := hH ▸ T5.good
  have le1 : (h ++ t1).length ≤ (H ++ [Ob.lst [d1, d2, .str "told", .bl false, d5]]).length := by rw [← hH]; simp
  have le2 : (h ++ t1 ++ t2).length ≤ (H ++ [Ob.lst [d1, d2, .str "told", .bl false, d5]]).length := by rw [← hH]; simp
  have le5 : (h ++ t1 ++ t2 ++ t3 ++ t5).length ≤ (H ++ [Ob.lst [d1, d2, .str "told", .bl false, d5]]).length := by rw [← hH]; simp
  have cH : Cl (H ++ [Ob.lst [d1, d2, .str "told", .bl false, d5]]).length (H ++ [Ob.lst [d1, d2, .str "told", .bl false, d5]]) := by
    intro ob hob
    rcases List.mem_append.mp hob with hob | hob
    · exact Ob.clsd_up (by simp) (gH.cl ob hob)
    · have : ob = Ob.lst [d1, d2, .str "told", .bl false, d5] := by simpa using hob
      subst this
      show clsdL _ [d1, d2, .str "told", .bl false, d5] = true
      rw [clsdL, clsdL, clsdL, clsdL, clsdL, clsdL, clsd_up le1 _ T1.cls, clsd_up le2 _ T2.cls, clsd_up le5 _ T5.cls]
      rfl
  have r1 : Rd (H ++ [Ob.lst [d1, d2, .str "told", .bl false, d5]]) 3 d1 (.tup [.str "told", .lst [.lst [.int 0, .int 2, .int 5], .lst [.int (0 - 2), .int 0, .int 3], .lst [.int (0 - 5), .int (0 - 3), .int 0]]]) := by
    have := T1.rd (t2 ++ t3 ++ t5 ++ [Ob.lst [d1, d2, .str "told", .bl false, d5]])
    rw [dv1] at this
    rw [← hH]
    simpa only [List.append_assoc] using this
  have r2 : Rd (H ++ [Ob.lst [d1, d2, .str "told", .bl false, d5]]) 3 d2 (.tup [.str "clash", .tup [.int 0, .int 2]]) := by
    have := T2.rd (t3 ++ t5 ++ [Ob.lst [d1, d2, .str "told", .bl false, d5]])
    rw [dv2] at this
    rw [← hH]
    simpa only [List.append_assoc] using this
  have r5 : Rd (H ++ [Ob.lst [d1, d2, .str "told", .bl false, d5]]) 3 d5 (.tup [.str "told", .lst [.lst [.int 0, .int 0], .lst [.int 0, .int 0]]]) := by
    have := T5.rd [Ob.lst [d1, d2, .str "told", .bl false, d5]]
    rw [dv5] at this
    rw [← hH]
    exact this
  have rr : Rd (H ++ [Ob.lst [d1, d2, .str "told", .bl false, d5]]) 4 (.cel H.length) (.lst [(.tup [.str "told", .lst [.lst [.int 0, .int 2, .int 5], .lst [.int (0 - 2), .int 0, .int 3], .lst [.int (0 - 5), .int (0 - 3), .int 0]]]), (.tup [.str "clash", .tup [.int 0, .int 2]]), .str "told", .bl false, (.tup [.str "told", .lst [.lst [.int 0, .int 0], .lst [.int 0, .int 0]]])]) := by
    have e : (H ++ [Ob.lst [d1, d2, .str "told", .bl false, d5]])[H.length]? = some (.lst [d1, d2, .str "told", .bl false, d5]) := by simp
    refine Or.inr (Or.inl ⟨[d1, d2, .str "told", .bl false, d5], _, by simp only [lsOf, e], rfl, rfl, by simp, fun i x y hx hy => ?_⟩)
    match i, hx, hy with
    | 0, hx, hy => cases hx; cases hy; exact r1
    | 1, hx, hy => cases hx; cases hy; exact r2
    | 2, hx, hy => cases hx; cases hy; exact Rd.fl rfl
    | 3, hx, hy => cases hx; cases hy; exact Rd.fl rfl
    | 4, hx, hy => cases hx; cases hy; exact r5
  refine ⟨[sc, .cel 0, .int (s : Nat), .cel 1, .und, .und, .cel H.length, .und, .und, .und], H ++ [.lst [d1, d2, .str "told", .bl false, d5]], xs_nx (x_nm (v := .cel H.length) (h1 := H ++ [.lst [d1, d2, .str "told", .bl false, d5]]) ?_) (xs_ret (x_rt ?_))⟩
  · rw [ev, vs_cons (v_call (ds := [.int 3, logD [(0, 1, 2), (1, 2, 3), (0, 2, 5)]]) (vs_cons v_int (vs_cons (v_lst (vs_cons (v_tup (vs_cons v_int (vs_cons v_int (vs_cons v_int vs_nil))) (by simp)) (vs_cons (v_tup (vs_cons v_int (vs_cons v_int (vs_cons v_int vs_nil))) (by simp)) (vs_cons (v_tup (vs_cons v_int (vs_cons v_int (vs_cons v_int vs_nil))) (by simp)) (vs_nil)))) (by simp)) vs_nil)) q1) (vs_cons (v_call (ds := [.int 2, logD [(0, 1, 2), (0, 1, 2), (1, 0, 2)]]) (vs_cons v_int (vs_cons (v_lst (vs_cons (v_tup (vs_cons v_int (vs_cons v_int (vs_cons v_int vs_nil))) (by simp)) (vs_cons (v_tup (vs_cons v_int (vs_cons v_int (vs_cons v_int vs_nil))) (by simp)) (vs_cons (v_tup (vs_cons v_int (vs_cons v_int (vs_cons v_int vs_nil))) (by simp)) (vs_nil)))) (by simp)) vs_nil)) q2) (vs_cons (v_idx (v_call (ds := [.int 12, logD []]) (vs_cons v_int (vs_cons (v_lst (vs_nil) (by simp)) vs_nil)) q3) v_int (i3 _)) (vs_cons (v_call (ds := [.int 2, logD [(0, 1, 2), (1, 2, 3)]]) (vs_cons v_int (vs_cons (v_lst (vs_cons (v_tup (vs_cons v_int (vs_cons v_int (vs_cons v_int vs_nil))) (by simp)) (vs_cons (v_tup (vs_cons v_int (vs_cons v_int (vs_cons v_int vs_nil))) (by simp)) (vs_nil))) (by simp)) vs_nil)) q4) (vs_cons (v_call (ds := [.int 2, logD [(0, 1, 0), (1, 0, 0)]]) (vs_cons v_int (vs_cons (v_lst (vs_cons (v_tup (vs_cons v_int (vs_cons v_int (vs_cons v_int vs_nil))) (by simp)) (vs_cons (v_tup (vs_cons v_int (vs_cons v_int (vs_cons v_int vs_nil))) (by simp)) (vs_nil))) (by simp)) vs_nil)) q5) vs_nil)))), bind_ok, newT, if_pos (sz_of (by simp))]
  · exact v_call (vs_cons (v_var rfl (fun z => by cases z)) (vs_cons (v_lst (vs_cons (v_tup (vs_cons v_str (vs_cons (v_lst (vs_cons (v_lst (vs_cons v_int (vs_cons v_int (vs_cons v_int (vs_nil)))) (by simp)) (vs_cons (v_lst (vs_cons (v_bin v_int v_int bo_sub) (vs_cons v_int (vs_cons v_int (vs_nil)))) (by simp)) (vs_cons (v_lst (vs_cons (v_bin v_int v_int bo_sub) (vs_cons (v_bin v_int v_int bo_sub) (vs_cons v_int (vs_nil)))) (by simp)) (vs_nil)))) (by simp)) (vs_nil))) (by simp)) (vs_cons (v_tup (vs_cons v_str (vs_cons (v_tup (vs_cons v_int (vs_cons v_int (vs_nil))) (by simp)) (vs_nil))) (by simp)) (vs_cons v_str (vs_cons v_bl (vs_cons (v_tup (vs_cons v_str (vs_cons (v_lst (vs_cons (v_lst (vs_cons v_int (vs_cons v_int (vs_nil))) (by simp)) (vs_cons (v_lst (vs_cons v_int (vs_cons v_int (vs_nil))) (by simp)) (vs_nil))) (by simp)) (vs_nil))) (by simp)) (vs_nil)))))) (by simp)) vs_nil)) (same_ok (wh := wh) cH 4 14 _ _ rr)
/-! ### how the law begins -/
def swp (x : Int × Int × Int) : Int × Int × Int := (x.2.1, x.1, x.2.2)
def swD : D → Option D
  | .tup [a, b, c] => some (.tup [b, a, c])
  | _ => none
theorem cut1 (xs : List (Int × Int × Int)) : cutO (xs.map entD) none (some 1) = (xs.take 1).map entD := by
  unfold cutO
  rw [HT.sIx_none, show (1 : Int) = ((1 : Nat) : Int) from rfl, HT.sIx_nat, List.drop_zero, Nat.sub_zero, ← List.map_take]
  cases xs with
  | nil => rfl
  | cons x r => rw [show min 1 ((x :: r).map entD).length = 1 by simp]
theorem swD_all (xs : List (Int × Int × Int)) : (xs.map entD).filterMap swD = (xs.map swp).map entD := by
  induction xs with
  | nil => rfl
  | cons x r ih => rw [List.map_cons, List.map_cons, List.map_cons, ← ih]; rfl
theorem law_begin (ns : List Int) : ∃ (s : Nat) (a b c : Int) (L : List (List (Int × Int × Int))), (1 ≤ s ∧ s ≤ 8) ∧ (∀ l ∈ L, (∀ x ∈ l, EntOk s x) ∧ l.length ≤ 100) ∧ ∀ (r : Ss) (Q : SRes), exes (gl wh 19) r [.ro (ns.map D.int), .cel 0, .int (s : Nat), .cel 1, .und, .und, .und, .und, .und, .und] [gn a b c, .lst (L.map logD)] = Q → exes (gl wh 19) (.cons (.asg (.nm 1) (.call 11 (.cons (.var 0) (.cons (.int 0) .nil)))) (.cons (.asg (.nm 2) (.bin false .add (.int 1) (.call 9 (.cons (.var 1) (.cons (.int 8) .nil))))) (.cons (.asg (.nm 3) (.lst true (.cons (.call 23 (.cons (.var 1) (.cons (.var 2) (.cons (.call 9 (.cons (.var 1) (.cons (.int 15) .nil))) .nil)))) (.cons (.call 19 (.cons (.var 1) (.cons (.var 2) (.cons (.call 9 (.cons (.var 1) (.cons (.int 9) .nil))) (.cons (.call 12 (.cons (.var 1) (.cons (.lst false (.cons (.int 1) (.cons (.int 3) (.cons (.bin false .pow (.int 10) (.int 20)) .nil)))) .nil))) .nil))))) (.cons (.lst false .nil) .nil))))) (.cons (.ex (.mt .append (.var 3) (.cons (.bin false .add (.idx (.var 3) (.int 0)) (.lc false (.seq (.slc (.idx (.var 3) (.int 0)) .nil (.int 1))) (.nm 9) .nil (.tup (.cons (.idx (.var 9) (.int 1)) (.cons (.idx (.var 9) (.int 0)) (.cons (.idx (.var 9) (.int 2)) .nil)))))) .nil))) r)))) [.ro (ns.map D.int), .und, .und, .und, .und, .und, .und, .und, .und, .und] [] = Q := by
  obtain ⟨a1, b, q1, g1⟩ := generator_ok (wh := wh) (n := 17) ns
  obtain ⟨r2, a2, c2, q2, r20, r21, g2⟩ := random_ok (wh := wh) (n := 17) (t := []) (fun _ z => by cases z) (by decide) g1 (m := 8) (by decide)
  obtain ⟨s, hs⟩ : ∃ s : Nat, 1 + r2 = (s : Nat) := ⟨(1 + r2).toNat, by omega⟩
  have s1 : 1 ≤ s ∧ s ≤ 8 := by omega
  obtain ⟨r3, a3, c3, q3, r30, r31, g3⟩ := random_ok (wh := wh) (n := 17) (t := []) (fun _ z => by cases z) (by decide) g2 (m := 15) (by decide)
  obtain ⟨xs, a4, c4, q4, hx, lx, g4⟩ := by_table_ok (wh := wh) (n := 15) g3 (by decide) s1 (many := r3) (by omega)
  obtain ⟨r5, a5, c5, q5, r50, r51, g5⟩ := random_ok (wh := wh) (n := 17) (t := []) (fun _ z => by cases z) (by decide) g4 (m := 9) (by decide)
  obtain ⟨r6, a6, c6, q6, r60, r61, g6⟩ := pick_ok (wh := wh) (n := 16) (by decide) g5
  obtain ⟨ys, a7, c7, q7, hy, ly, g7⟩ := log_ok (wh := wh) (n := 16) (t := []) (size := s) (many := r5) (most := r6) (fun _ _ z => by cases z) g6 (by decide) (by omega) (by omega) ⟨r60, r61⟩
  refine ⟨s, a7, b, c7, [xs, ys, [], xs ++ (xs.take 1).map swp], s1, ?_, fun r Q k => ?_⟩
  · intro l hl
    simp only [List.mem_cons, List.not_mem_nil, or_false] at hl
    rcases hl with rfl | rfl | rfl | rfl
    · exact ⟨hx, by omega⟩
    · exact ⟨hy, by omega⟩
    · exact ⟨(fun x hx => by cases hx), by simp⟩
    · refine ⟨fun x hxx => ?_, by simp; omega⟩
      rcases List.mem_append.mp hxx with hxx | hxx
      · exact hx x hxx
      · obtain ⟨y, hy, rfl⟩ := List.mem_map.mp hxx
        have := hx y (List.mem_of_mem_take hy)
        exact ⟨this.b, this.a, fun z => this.ne z.symm, this.c⟩
  · have e0 : exe (gl wh 19) (.asg (.nm 1) (.call 11 (.cons (.var 0) (.cons (.int 0) .nil)))) [.ro (ns.map D.int), .und, .und, .und, .und, .und, .und, .und, .und, .und] [] = .ok .nx [.ro (ns.map D.int), .cel 0, .und, .und, .und, .und, .und, .und, .und, .und] [gn a1 b 0] :=
      x_nm (v_call (vs_cons (v_var rfl (fun z => by cases z)) (vs_cons v_int vs_nil)) q1)
    have e1 : exe (gl wh 19) (.asg (.nm 2) (.bin false .add (.int 1) (.call 9 (.cons (.var 1) (.cons (.int 8) .nil))))) [.ro (ns.map D.int), .cel 0, .und, .und, .und, .und, .und, .und, .und, .und] [gn a1 b 0] = .ok .nx [.ro (ns.map D.int), .cel 0, .int (s : Nat), .und, .und, .und, .und, .und, .und, .und] [gn a2 b c2] :=
      x_nm (v_bin v_int (v_call (vs_cons (v_var rfl (fun z => by cases z)) (vs_cons v_int vs_nil)) q2) (by rw [bo_add, hs]))
    have w1 : ∀ {hh : Hh}, ev (gl wh 19) (.var 1) [.ro (ns.map D.int), .cel 0, .int (s : Nat), .und, .und, .und, .und, .und, .und, .und] hh = .ok (.cel 0) hh := v_var rfl (fun z => by cases z)
    have w2 : ∀ {hh : Hh}, ev (gl wh 19) (.var 2) [.ro (ns.map D.int), .cel 0, .int (s : Nat), .und, .und, .und, .und, .und, .und, .und] hh = .ok (.int (s : Nat)) hh := v_var rfl (fun z => by cases z)
    have e2 : exe (gl wh 19) (.asg (.nm 3) (.lst true (.cons (.call 23 (.cons (.var 1) (.cons (.var 2) (.cons (.call 9 (.cons (.var 1) (.cons (.int 15) .nil))) .nil)))) (.cons (.call 19 (.cons (.var 1) (.cons (.var 2) (.cons (.call 9 (.cons (.var 1) (.cons (.int 9) .nil))) (.cons (.call 12 (.cons (.var 1) (.cons (.lst false (.cons (.int 1) (.cons (.int 3) (.cons (.bin false .pow (.int 10) (.int 20)) .nil)))) .nil))) .nil))))) (.cons (.lst false .nil) .nil))))) [.ro (ns.map D.int), .cel 0, .int (s : Nat), .und, .und, .und, .und, .und, .und, .und] [gn a2 b c2] = .ok .nx [.ro (ns.map D.int), .cel 0, .int (s : Nat), .cel 1, .und, .und, .und, .und, .und, .und] [gn a7 b c7, .lst [logD xs, logD ys, .lst []]] := by
      refine x_nm (v := .cel 1) ?_
      rw [ev, vs_cons (v_call (vs_cons w1 (vs_cons w2 (vs_cons (v_call (vs_cons w1 (vs_cons v_int vs_nil)) q3) vs_nil))) q4) (vs_cons (v_call (vs_cons w1 (vs_cons w2 (vs_cons (v_call (vs_cons w1 (vs_cons v_int vs_nil)) q5) (vs_cons (v_call (vs_cons w1 (vs_cons (v_lst (vs_cons v_int (vs_cons v_int (vs_cons v_big vs_nil))) (by simp)) vs_nil)) q6) vs_nil)))) q7) (vs_cons v_nil0 vs_nil)), bind_ok, newT, if_pos (sz_of (by simp))]
      rfl
    have w3 : ev (gl wh 19) (.var 3) [.ro (ns.map D.int), .cel 0, .int (s : Nat), .cel 1, .und, .und, .und, .und, .und, .und] [gn a7 b c7, .lst [logD xs, logD ys, .lst []]] = .ok (.cel 1) [gn a7 b c7, .lst [logD xs, logD ys, .lst []]] := v_var rfl (fun z => by cases z)
    have i0 : ev (gl wh 19) (.idx (.var 3) (.int 0)) [.ro (ns.map D.int), .cel 0, .int (s : Nat), .cel 1, .und, .und, .und, .und, .und, .und] [gn a7 b c7, .lst [logD xs, logD ys, .lst []]] = .ok (logD xs) [gn a7 b c7, .lst [logD xs, logD ys, .lst []]] := v_idx w3 v_int (by rw [ix_cel (xs := [logD xs, logD ys, .lst []]) rfl, atI_0])
    have sl : evI (gl wh 19) (.seq (.slc (.idx (.var 3) (.int 0)) .nil (.int 1))) [.ro (ns.map D.int), .cel 0, .int (s : Nat), .cel 1, .und, .und, .und, .und, .und, .und] [gn a7 b c7, .lst [logD xs, logD ys, .lst []]] = .ok (.fz ((xs.take 1).map entD)) [gn a7 b c7, .lst [logD xs, logD ys, .lst []]] := by
      rw [evI, ev, i0, bind_ok, ev, bind_ok]
      simp only [endOf]
      rw [ev, bind_ok]
      simp only
      show Res.bind (Res.ok (D.lst (cutO (xs.map entD) none (some 1))) _) _ = _
      rw [cut1, bind_ok]
      rfl
    have lp := loopL_pure (s := .fz ((xs.take 1).map entD)) (h := [gn a7 b c7, .lst [logD xs, logD ys, .lst []]]) (xs := (xs.take 1).map entD) (step := lcB (gl wh 19) (.nm 9) .nil (.tup (.cons (.idx (.var 9) (.int 1)) (.cons (.idx (.var 9) (.int 0)) (.cons (.idx (.var 9) (.int 2)) .nil)))) [.ro (ns.map D.int), .cel 0, .int (s : Nat), .cel 1, .und, .und, .und, .und, .und, .und]) swD (fun _ => rfl) (fun d hd => by
      obtain ⟨x, _, rfl⟩ := List.mem_map.mp hd
      have v9 : ev (gl wh 19) (.var 9) ((wipeD [.ro (ns.map D.int), .cel 0, .int (s : Nat), .cel 1, .und, .und, .und, .und, .und, .und] [9]).set 9 (entD x)) [gn a7 b c7, .lst [logD xs, logD ys, .lst []]] = .ok (entD x) [gn a7 b c7, .lst [logD xs, logD ys, .lst []]] := v_var rfl (fun z => by cases z)
      exact lc_one (v_tup (vs_cons (v_idx v9 v_int rfl) (vs_cons (v_idx v9 v_int rfl) (vs_cons (v_idx v9 v_int rfl) vs_nil))) (by simp))) ((xs.take 1).map entD).length 0 [] (by omega) (by unfold sizeL; simp; omega)
    rw [List.drop_zero, List.nil_append, swD_all] at lp
    have lc : ev (gl wh 19) (.lc false (.seq (.slc (.idx (.var 3) (.int 0)) .nil (.int 1))) (.nm 9) .nil (.tup (.cons (.idx (.var 9) (.int 1)) (.cons (.idx (.var 9) (.int 0)) (.cons (.idx (.var 9) (.int 2)) .nil))))) [.ro (ns.map D.int), .cel 0, .int (s : Nat), .cel 1, .und, .und, .und, .und, .und, .und] [gn a7 b c7, .lst [logD xs, logD ys, .lst []]] = .ok (.lst (((xs.take 1).map swp).map entD)) [gn a7 b c7, .lst [logD xs, logD ys, .lst []]] := v_lc sl lp (by rw [newF, if_pos (sz_of (by simp; omega))])
    have ad : binop false .add (logD xs) (.lst (((xs.take 1).map swp).map entD)) [gn a7 b c7, .lst [logD xs, logD ys, .lst []]] = .ok (logD (xs ++ (xs.take 1).map swp)) [gn a7 b c7, .lst [logD xs, logD ys, .lst []]] := by
      unfold logD
      rw [bo_cat, newF, if_pos (sz_of (by simp; omega)), List.map_append]
    have e3 : exe (gl wh 19) (.ex (.mt .append (.var 3) (.cons (.bin false .add (.idx (.var 3) (.int 0)) (.lc false (.seq (.slc (.idx (.var 3) (.int 0)) .nil (.int 1))) (.nm 9) .nil (.tup (.cons (.idx (.var 9) (.int 1)) (.cons (.idx (.var 9) (.int 0)) (.cons (.idx (.var 9) (.int 2)) .nil)))))) .nil))) [.ro (ns.map D.int), .cel 0, .int (s : Nat), .cel 1, .und, .und, .und, .und, .und, .und] [gn a7 b c7, .lst [logD xs, logD ys, .lst []]] = .ok .nx [.ro (ns.map D.int), .cel 0, .int (s : Nat), .cel 1, .und, .und, .und, .und, .und, .und] [gn a7 b c7, .lst [logD xs, logD ys, .lst [], logD (xs ++ (xs.take 1).map swp)]] :=
      x_ex (v := .non) (v_mt w3 rfl (vs_cons (v_bin i0 lc ad) vs_nil) rfl)
    exact xs_nx e0 (xs_nx e1 (xs_nx e2 (xs_nx e3 k)))
theorem law_true (ns : List Int) : ∃ h', (gl wh 20).call 24 [.ro (ns.map D.int)] [] = .ok (.bl true) h' := by
  obtain ⟨s, a, b, c, L, s1, hL, kb⟩ := law_begin (wh := wh) ns
  have g0 : Good [gn a b c, .lst (L.map logD)] := by
    have cl : ∀ k, clsdL k (L.map logD) = true := fun k => clsdL_of fun d hd => by
      obtain ⟨l, _, rfl⟩ := List.mem_map.mp hd
      exact logD_c k l
    have td : tidyL (L.map logD) = true := tidyL_of fun d hd => by
      obtain ⟨l, _, rfl⟩ := List.mem_map.mp hd
      refine tidyL_of fun x hx => ?_
      obtain ⟨y, _, rfl⟩ := List.mem_map.mp hx
      rfl
    constructor
    · intro ob hob
      simp only [List.mem_cons, List.not_mem_nil, or_false] at hob
      rcases hob with rfl | rfl
      · rfl
      · exact cl _
    · simp only [List.all_cons, List.all_nil, Bool.and_true, Bool.and_eq_true]
      exact ⟨rfl, td⟩
  obtain ⟨d6, h1, q1, g1⟩ := law_logs (wh := wh) g0 s1 hL (by simp) rfl (sc := .ro (ns.map D.int))
  obtain ⟨d5, q2⟩ := law_wrong (wh := wh) g1 s1 (sc := .ro (ns.map D.int)) (d6 := d6)
  have q3 := law_nums (wh := wh) g1 (s := s) (sc := .ro (ns.map D.int)) (d5 := d5) (d6 := d6)
  obtain ⟨e', h', q4⟩ := law_end (wh := wh) g1 (s := s) (sc := .ro (ns.map D.int)) (d6 := d6)
  refine ⟨h'.take 0, ?_⟩
  rw [c24]
  refine call_ret (h := []) (h' := h') (e := e') rfl rfl ?_ rfl (Nat.zero_le _) (fun _ z => by simp at z)
  show exes _ b24 [.ro (ns.map D.int), .und, .und, .und, .und, .und, .und, .und, .und, .und] _ = _
  unfold b24
  exact kb _ _ (xs_nx q1 (xs_nx q2 (xs_nx q3 q4)))
end Tx
end Mn
theorem PySem.Challenge.cw_beatsigns_k76_whole_tables_told_by_match_holds : PySem.Challenge.rw_beatsigns_k76_whole_tables_told_by_match.Holds := by
  exact Mn.Tx.holds_of (N := 20) (by decide) (wh := fun _ _ _ _ => .stk) (fun _ _ _ _ => .inl rfl) fun ns _ _ => Mn.Tx.law_true ns
