import PyProof.Rows.All
import Wide.All
import OpenK.AllK
import Wide.FinOn
import HandS.ForMost
import HandS.ForExc
import HandS.TryMany
import HandS.CallSlots
import HandS.Flow
import HandS.IsInst
import HandS.ExcIs
import HandS.Property
import HandS.SortInts
import HandS.SortKw
import HandS.TupAny
import HandS.TupLe
import HandS.Deep
import HandS.Conv
import HandS.Style
import HandS.DictComp
import HandS.More
import HandS.TupLen
import HandS.Zip
import HandS.Rev
import HandS.WordsExc
import HandS.Ends
import PySem.Challenge.RW_appendhall_k18_cut_of_a_log
set_option Elab.async false
set_option linter.all false
set_option autoImplicit false
set_option maxRecDepth 1000000
set_option maxHeartbeats 4000000
/-! PyI: a small language of statements with a memory of objects, and what its programs do. -/
namespace PyI
noncomputable section
abbrev Txt := List Char
abbrev Key := Sum Int Txt
inductive Val where
  | non | bl (b : Bool) | int (i : Int) | str (s : Txt) | tup (xs : List Val) | ref (n : Nat) | fn (f : Nat)
  /-- a tuple of the text's own top -/
  | ktup (xs : List Val)
  /-- a list that never changes: the script -/
  | klst (xs : List Val)
  deriving Inhabited
inductive Ob where
  | lst (xs : List Val)
  | dik (kvs : List (Key × Val))
  | dit (kvs : List (List Key × Val))
  | set (xs : List Int)
  | ins (c : Nat) (fs : List (Nat × Val))
  | frz (o : Ob)
  deriving Inhabited
abbrev Mem := List Ob
abbrev Fr := List (Option Val)
inductive Res (α : Type) where
  | ok (a : α) (h : Mem)
  | exc (c : Nat) (h : Mem)
  | bad
namespace Res
def bind {α β : Type} (r : Res α) (f : α → Mem → Res β) : Res β := match r with
  | .ok a h => f a h
  | .exc c h => .exc c h
  | .bad => .bad
@[simp] theorem bind_ok {α β : Type} (a : α) (h : Mem) (f : α → Mem → Res β) : bind (.ok a h) f = f a h := rfl
@[simp] theorem bind_exc {α β : Type} (c : Nat) (h : Mem) (f : α → Mem → Res β) : bind (.exc c h) f = .exc c h := rfl
@[simp] theorem bind_bad {α β : Type} (f : α → Mem → Res β) : bind .bad f = .bad := rfl
end Res
inductive Flow where
  | nx | rt (v : Val) | bk | ct
inductive SR where
  | ok (f : Flow) (fr : Fr) (h : Mem)
  | exc (c : Nat) (fr : Fr) (h : Mem)
  | bad
/-! ### the language -/
inductive Lit where
  | non | bl (b : Bool) | int (i : Int) | str (s : Txt)
def Lit.val : Lit → Val
  | .non => .non
  | .bl b => .bl b
  | .int i => .int i
  | .str s => .str s
inductive Bop where | add | sub | mul | div | mod | pow
inductive Cop where | eq | ne | lt | le | gt | ge | isin | notin
inductive Ty where | int | bool | str | tuple | list | cls (c : Nat)
inductive Blt where | len | int | lst | tup | max2 | min2 | max1 | sum | srt | srtR | ord | str | set | dct
inductive Bm where | append | extend | get | pop | add | insert | index | count | join | split | starts | upper | clear | remove | none
  deriving DecidableEq
/-- a target that stores to slots -/
inductive Tgt where
  | v (i : Nat)
  | t (is : List Nat)
mutual
inductive Ex where
  | lit (l : Lit)
  | var (i : Nat)
  | con (g : Nat)
  | bin (o : Bop) (a b : Ex)
  | neg (a : Ex)
  | nt (a : Ex)
  | and (a b : Ex)
  | or (a b : Ex)
  | cmp (o : Cop) (a b : Ex)
  | chn (o p : Cop) (a b c : Ex)
  | isN (n : Bool) (a : Ex)
  | isB (n : Bool) (b : Bool) (a : Ex)
  | tup (es : Exs)
  | lst (es : Exs)
  | dik (ks es : Exs)
  | dit
  | ix (a i : Ex)
  | sl (a : Ex) (lo hi : OEx)
  | att (a : Ex) (f : Nat)
  | cal (f : Nat) (es : Exs)
  | mk (c : Nat) (es : Exs)
  | met (a : Ex) (m : Nat) (b : Bm) (es : Exs)
  | blt (b : Blt) (es : Exs)
  | isi (a : Ex) (t : Ty)
  /-- list(range(..)) -/
  | lr1 (e : Ex)
  | lr2 (a b : Ex)
  | comp (tg : Tgt) (it : Itx) (cond : OTe) (e : Ex)
/-- a test -/
inductive Te where
  | e (a : Ex)
  | nt (a : Te)
  | and (a b : Te)
  | or (a b : Te)
inductive OTe where
  | no
  | so (e : Te)
inductive Exs where
  | nil
  | cons (e : Ex) (es : Exs)
inductive OEx where
  | no
  | so (e : Ex)
inductive Itx where
  | val (e : Ex)
  | rng1 (e : Ex)
  | rng2 (a b : Ex)
  | enum (e : Ex)
  | zip (a b : Ex)
  | rev (e : Ex)
  | items (e : Ex)
end
mutual
inductive Sm where
  | asg (tg : Tgt) (e : Ex)
  | asgA (o : Ex) (f : Nat) (e : Ex)
  | asgI (o i e : Ex)
  | augA (o : Ex) (f : Nat) (sub : Bool) (e : Ex)
  | exp (e : Ex)
  | ret (e : Ex)
  | retN
  | ite (c : Te) (t e : Sms)
  | whl (c : Te) (b : Sms)
  | for (tg : Tgt) (it : Itx) (b : Sms)
  | raise (c : Nat)
  | try (b : Sms) (hs : Hds)
  | pass | brk | cnt
  | del (o i : Ex)
inductive Sms where
  | nil
  | cons (s : Sm) (ss : Sms)
inductive Hds where
  | nil
  | cons (c : Nat) (b : XSms) (hs : Hds)
  /-- the only clause, with a name -/
  | one (c : Nat) (i : Nat) (b : XSms)
/-- what stands in an except suite: no calls -/
inductive XSms where
  | nil
  | cons (s : XSm) (ss : XSms)
inductive XSm where
  | ret (e : XEx)
  | ite (c : XEx) (t e : XSms)
  | asg (i : Nat) (e : XEx)
  | pass
inductive XEx where
  | lit (l : Lit)
  | var (i : Nat)
  | exi (c : Nat)
  | and (a b : XEx)
  | or (a b : XEx)
  | nt (a : XEx)
  | tup (es : XExs)
  | lst (es : XExs)
inductive XExs where
  | nil
  | cons (e : XEx) (es : XExs)
end
structure Fn where
  np : Nat
  ns : Nat
  body : Sms
structure Cl where
  /-- its __init__ -/
  ini : Nat
  /-- its methods, its properties: names and functions -/
  ms : List (Nat × Nat)
  ps : List (Nat × Nat)
  /-- the names of its attributes -/
  fs : List Nat
structure Pg where
  fns : List Fn
  cls : List Cl
  /-- exc c d: an error of class c is one of class d -/
  exc : Nat → Nat → Option Bool
  /-- how many turns of a while are walked -/
  lim : Nat
  /-- the constants of the text's top -/
  kon : List Val
/-! ### values -/
def szl : Nat := 16777216
def lstO : Ob → Option (List Val)
  | .lst xs => some xs
  | .frz (.lst xs) => some xs
  | _ => none
def dikO : Ob → Option (List (Key × Val))
  | .dik xs => some xs
  | .frz (.dik xs) => some xs
  | _ => none
def ditO : Ob → Option (List (List Key × Val))
  | .dit xs => some xs
  | .frz (.dit xs) => some xs
  | _ => none
def lstA (h : Mem) (a : Nat) : Option (List Val) := (h[a]?).bind lstO
/-- the items of a list or a tuple -/
def seqA (h : Mem) : Val → Option (List Val)
  | .ref a => lstA h a
  | .tup xs => some xs
  | .ktup xs => some xs
  | .klst xs => some xs
  | _ => none
def tupO : Val → Option (List Val)
  | .tup xs => some xs
  | .ktup xs => some xs
  | _ => none
def nth {α : Type} (xs : List α) (i : Int) : Option α :=
  if 0 ≤ i then xs[i.toNat]? else if -(xs.length : Int) ≤ i then xs[(i + xs.length).toNat]? else none
def ixOf (n : Nat) (i : Int) : Option Nat := if 0 ≤ i then (if i < n then some i.toNat else none) else if -(n : Int) ≤ i then some (i + n).toNat else none
def sIx (n d : Nat) : Option Int → Nat
  | none => d
  | some v => if v < 0 then (v + (n : Int)).toNat else min v.toNat n
def cut {α : Type} (xs : List α) (lo hi : Option Int) : List α :=
  (xs.drop (sIx xs.length 0 lo)).take (sIx xs.length xs.length hi - sIx xs.length 0 lo)
/-- plain data: no objects but lists -/
def isD (h : Mem) : Nat → Val → Bool
  | 0, _ => false
  | n + 1, v => match v with
    | .tup xs => xs.all (isD h n)
    | .ktup xs => xs.all (isD h n)
    | .ref a => match lstA h a with
      | some xs => xs.all (isD h n)
      | none => false
    | .fn _ => false
    | .klst _ => false
    | _ => true
def eqs (f : Val → Val → Bool) : List Val → List Val → Bool
  | [], [] => true
  | x :: xs, y :: ys => f x y && eqs f xs ys
  | _, _ => false
def b2i (b : Bool) : Int := if b then 1 else 0
def eqB (h : Mem) : Nat → Val → Val → Bool
  | 0, _, _ => false
  | n + 1, v, w => match v, w with
    | .non, .non => true
    | .bl a, .bl b => a == b
    | .bl a, .int j => b2i a == j
    | .int i, .bl b => i == b2i b
    | .int i, .int j => i == j
    | .str x, .str y => x == y
    | .tup xs, .tup ys => eqs (eqB h n) xs ys
    | .tup xs, .ktup ys => eqs (eqB h n) xs ys
    | .ktup xs, .tup ys => eqs (eqB h n) xs ys
    | .ktup xs, .ktup ys => eqs (eqB h n) xs ys
    | .ref a, .ref b => match lstA h a, lstA h b with
      | some xs, some ys => eqs (eqB h n) xs ys
      | _, _ => false
    | _, _ => false
def kget {κ : Type} [DecidableEq κ] (kvs : List (κ × Val)) (k : κ) : Option Val := (kvs.find? fun kv => decide (kv.1 = k)).map (·.2)
def kput {κ : Type} [DecidableEq κ] (kvs : List (κ × Val)) (k : κ) (v : Val) : List (κ × Val) :=
  if kvs.any (fun kv => decide (kv.1 = k)) then kvs.map (fun kv => if kv.1 = k then (kv.1, v) else kv) else kvs ++ [(k, v)]
def kdrop {κ : Type} [DecidableEq κ] (kvs : List (κ × Val)) (k : κ) : List (κ × Val) := kvs.filter fun kv => decide (kv.1 ≠ k)
def keyOf : Val → Option Key
  | .int i => some (.inl i)
  | .str s => some (.inr s)
  | _ => none
def keysOf : Val → Option (List Key)
  | .tup xs => xs.mapM keyOf
  | _ => none
def kval : Key → Val
  | .inl i => .int i
  | .inr s => .str s
/-- == of two values; none: not told here -/
def eqV (h : Mem) (v w : Val) : Option Bool := match v, w with
  | .int i, .int j => some (decide (i = j))
  | .str x, .str y => some (decide (x = y))
  | .ref a, .ref b => match h[a]?, h[b]? with
    | some (.dik ks), some (.dik ls) =>
      if ks.length = ls.length ∧ (ks.all fun p => match kget ls p.1 with
        | some (.int i) => (match p.2 with | .int j => i == j | _ => false)
        | some (.str i) => (match p.2 with | .str j => i == j | _ => false)
        | _ => false) = true then some true else none
    | _, _ => if isD h 60 v && isD h 60 w then some (eqB h 60 v w) else none
  | _, _ => if isD h 60 v && isD h 60 w then some (eqB h 60 v w) else none
def tru (h : Mem) : Val → Option Bool
  | .non => some false
  | .bl b => some b
  | .int i => some (i != 0)
  | .str s => if s.length ≤ szl then some (!s.isEmpty) else none
  | .tup xs => some (!xs.isEmpty)
  | .ktup xs => some (!xs.isEmpty)
  | .ref a => match h[a]? with
    | some (.lst xs) => some (!xs.isEmpty)
    | some (.frz (.lst xs)) => some (!xs.isEmpty)
    | some (.dik kvs) => some (!kvs.isEmpty)
    | _ => none
  | .fn _ => none
  | .klst _ => none
/-- the order of two lists of ints -/
def lexLt : List Int → List Int → Bool
  | [], [] => false
  | [], _ :: _ => true
  | _ :: _, [] => false
  | x :: xs, y :: ys => if x = y then lexLt xs ys else decide (x < y)
def strLt (x y : Txt) : Bool := decide ((x.map Char.toNat) < (y.map Char.toNat))
def intOf : Val → Option Int
  | .int i => some i
  | _ => none
def strOf : Val → Option Txt
  | .str s => some s
  | _ => none
def flat : Val → Bool
  | .tup _ | .ktup _ | .ref _ | .fn _ | .klst _ => false
  | _ => true
def inV (h : Mem) (x y : Val) : Option Bool := match y with
  | .str s => match x with
    | .str [c] => some (decide (c ∈ s))
    | _ => none
  | .tup ys => if flat x && ys.all flat then some (ys.any fun z => eqB h 1 z x) else none
  | .ktup ys => if flat x && ys.all flat then some (ys.any fun z => eqB h 1 z x) else none
  | .ref a => match h[a]? with
    | some (.lst ys) => if isD h 59 x && ys.all (isD h 59) then some (ys.any fun z => eqB h 59 z x) else none
    | some (.frz (.lst ys)) => if isD h 59 x && ys.all (isD h 59) then some (ys.any fun z => eqB h 59 z x) else none
    | some (.dik kvs) => (keyOf x).map fun k => (kget kvs k).isSome
    | some (.dit kvs) => (keysOf x).map fun k => (kget kvs k).isSome
    | some (.set xs) => match x with
      | .int i => some (decide (i ∈ xs))
      | _ => none
    | _ => none
  | _ => none
def cmpV (h : Mem) (o : Cop) (v w : Val) : Option Bool := match o with
  | .eq => eqV h v w
  | .ne => (eqV h v w).map (!·)
  | .isin => inV h v w
  | .notin => (inV h v w).map (!·)
  | .lt => match v, w with
    | .int i, .int j => some (decide (i < j))
    | .str x, .str y => some (strLt x y)
    | _, _ => none
  | .le => match v, w with
    | .int i, .int j => some (decide (i ≤ j))
    | .str x, .str y => some (!strLt y x)
    | _, _ => none
  | .gt => match v, w with
    | .int i, .int j => some (decide (j < i))
    | .str x, .str y => some (strLt y x)
    | .tup xs, .tup ys => match xs.mapM intOf, ys.mapM intOf with
      | some ns, some ms => some (lexLt ms ns)
      | _, _ => none
    | _, _ => none
  | .ge => match v, w with
    | .int i, .int j => some (decide (j ≤ i))
    | .str x, .str y => some (!strLt x y)
    | _, _ => none
theorem smallX : ∃ f : Int → Bool, ∀ i, f i = decide (-(2 ^ 64) < i ∧ i < 2 ^ 64) := ⟨_, fun _ => rfl⟩
/-- kept shut: the kernel is not to compute with it -/
def small : Int → Bool := Classical.choose smallX
theorem small_eq (i : Int) : small i = decide (-(2 ^ 64) < i ∧ i < 2 ^ 64) := Classical.choose_spec smallX i
/-- a value, no change -/
def pure {α : Type} (h : Mem) : Option α → Res α
  | some a => .ok a h
  | none => .bad
/-- a new object -/
def new (h : Mem) (o : Ob) : Res Val := .ok (.ref h.length) (h ++ [o])
def binV (o : Bop) (v w : Val) (h : Mem) : Res Val := match o, v, w with
  | .add, .int i, .int j => .ok (.int (i + j)) h
  | .add, .str x, .str y => if x.length + y.length ≤ szl then .ok (.str (x ++ y)) h else .bad
  | .add, .tup xs, .tup ys => if xs.length + ys.length ≤ szl then .ok (.tup (xs ++ ys)) h else .bad
  | .add, .ref a, .ref b => match h[a]?, h[b]? with
    | some (.lst xs), some (.lst ys) => if xs.length + ys.length ≤ szl then new h (.lst (xs ++ ys)) else .bad
    | _, _ => .bad
  | .sub, .int i, .int j => .ok (.int (i - j)) h
  | .mul, .int i, .int j => if small i || small j then .ok (.int (i * j)) h else .bad
  | .mul, .ref a, .int k => match h[a]? with
    | some (.lst xs) => if decide (-(2 ^ 62) ≤ k) && decide (k < 2 ^ 62) && decide (xs.length * k.toNat ≤ szl) then new h (.lst (List.replicate k.toNat xs).flatten) else .bad
    | _ => .bad
  | .div, .int i, .int j => if 0 < j ∧ j < 1073741824 then .ok (.int (i / j)) h else .bad
  | .mod, .int i, .int j => if 0 < j then .ok (.int (i % j)) h else .bad
  | .pow, .int i, .int j => if small i && decide (0 ≤ j) && decide (j ≤ 1000000) then .ok (.int (i ^ j.toNat)) h else .bad
  | _, _, _ => .bad
def ixV (v w : Val) (h : Mem) : Res Val := match v with
  | .tup xs => match w with
    | .int i => pure h (nth xs i)
    | _ => .bad
  | .ktup xs => match w with
    | .int i => pure h (nth xs i)
    | _ => .bad
  | .klst xs => match w with
    | .int i => pure h (nth xs i)
    | _ => .bad
  | .str s => match w with
    | .int i => if s.length ≤ szl then pure h ((nth s i).map fun c => .str [c]) else .bad
    | _ => .bad
  | .ref a => match h[a]? with
    | some (.lst xs) => (match w with
      | .int i => pure h (nth xs i)
      | _ => .bad)
    | some (.frz (.lst xs)) => (match w with
      | .int i => pure h (nth xs i)
      | _ => .bad)
    | some (.dik kvs) => pure h ((keyOf w).bind (kget kvs))
    | some (.frz (.dik kvs)) => pure h ((keyOf w).bind (kget kvs))
    | some (.dit kvs) => pure h ((keysOf w).bind (kget kvs))
    | some (.frz (.dit kvs)) => pure h ((keysOf w).bind (kget kvs))
    | _ => .bad
  | _ => .bad
def slV (v : Val) (lo hi : Option Int) (h : Mem) : Res Val := match v with
  | .tup xs => .ok (.tup (cut xs lo hi)) h
  | .str s => if s.length ≤ szl then .ok (.str (cut s lo hi)) h else .bad
  | .ref a => match lstA h a with
    | some xs => new h (.lst (cut xs lo hi))
    | none => .bad
  | _ => .bad
def lenV (v : Val) (h : Mem) : Option Nat := match v with
  | .str s => if s.length ≤ szl then some s.length else none
  | .tup xs => some xs.length
  | .ktup xs => some xs.length
  | .klst xs => some xs.length
  | .ref a => match h[a]? with
    | some (.lst xs) => some xs.length
    | some (.frz (.lst xs)) => some xs.length
    | some (.dik kvs) => some kvs.length
    | some (.set xs) => some xs.length
    | _ => none
  | _ => none
def insI (x : Int) : List Int → List Int
  | [] => [x]
  | y :: ys => if x ≤ y then x :: y :: ys else y :: insI x ys
def srtI : List Int → List Int
  | [] => []
  | x :: xs => insI x (srtI xs)
def insT (x : Txt) : List Txt → List Txt
  | [] => [x]
  | y :: ys => if strLt y x then y :: insT x ys else x :: y :: ys
def srtT : List Txt → List Txt
  | [] => []
  | x :: xs => insT x (srtT xs)
def rngL (lo : Int) (n : Nat) : List Val := (List.range n).map fun (i : Nat) => Val.int (lo + i)
theorem bigX : ∃ f : Int → Bool, ∀ i, f i = (decide (-(2 ^ 62) ≤ i) && decide (i < 2 ^ 62)) := ⟨_, fun _ => rfl⟩
def big : Int → Bool := Classical.choose bigX
theorem big_eq (i : Int) : big i = (decide (-(2 ^ 62) ≤ i) && decide (i < 2 ^ 62)) := Classical.choose_spec bigX i
def strI (i : Int) : Txt := (toString i).toList
def bltV (b : Blt) (vs : List Val) (h : Mem) : Res Val := match b, vs with
  | .len, [v] => pure h ((lenV v h).map fun (n : Nat) => Val.int (n : Int))
  | .int, [.int i] => .ok (.int i) h
  | .int, [.bl k] => .ok (.int (b2i k)) h
  | .lst, [.ref a] => (match h[a]? with
    | some (.lst xs) => new h (.lst xs)
    | some (.frz (.lst xs)) => new h (.lst xs)
    | some (.dik kvs) => new h (.lst (kvs.map fun kv => kval kv.1))
    | _ => .bad)
  | .lst, [.tup xs] => new h (.lst xs)
  | .lst, [.ktup xs] => new h (.lst xs)
  | .tup, [.tup xs] => .ok (.tup xs) h
  | .tup, [.ref a] => (match lstA h a with
    | some xs => .ok (.tup xs) h
    | none => .bad)
  | .max2, [.int i, .int j] => .ok (.int (max i j)) h
  | .min2, [.int i, .int j] => .ok (.int (min i j)) h
  | .sum, [.ref a] => (match (lstA h a).bind (·.mapM intOf) with
    | some ns => .ok (.int ns.sum) h
    | none => .bad)
  | .srt, [.ref a] => (match h[a]? with
    | some (.lst xs) => (match xs.mapM intOf with
      | some ns => new h (.lst ((srtI ns).map .int))
      | none => .bad)
    | some (.dik kvs) => (match (kvs.map fun kv => kval kv.1).mapM intOf with
      | some ns => if ns.length < 64 then new h (.lst ((srtI ns).map .int)) else .bad
      | none => .bad)
    | _ => .bad)
  | .srtR, [.ref a] => (match h[a]? with
    | some (.lst xs) => (match xs.mapM intOf with
      | some ns => new h (.lst ((srtI ns).reverse.map .int))
      | none => .bad)
    | _ => .bad)
  | .ord, [.str [c]] => .ok (.int (c.toNat : Int)) h
  | .str, [.int i] => if i.natAbs.log2 < 1920 then .ok (.str (strI i)) h else .bad
  | .set, [] => new h (.set [])
  | .dct, [.ref a] => (match h[a]? with
    | some (.dik kvs) => new h (.dik kvs)
    | _ => .bad)
  | _, _ => .bad
def splitGo (c : Char) : Txt → Txt → List Txt
  | [], cur => [cur.reverse]
  | d :: r, cur => if d = c then cur.reverse :: splitGo c r [] else splitGo c r (d :: cur)
def joinT (s : Txt) : List Txt → Txt
  | [] => []
  | [x] => x
  | x :: y :: r => x ++ s ++ joinT s (y :: r)
/-- a method of a built-in object -/
def bmV (m : Bm) (v : Val) (vs : List Val) (h : Mem) : Res Val := match v with
  | .ref a => (match h[a]? with
    | some (.lst xs) => (match m, vs with
      | .append, [x] => if xs.length < szl then .ok .non (h.set a (.lst (xs ++ [x]))) else .bad
      | .extend, [.ref b] => (match h[b]? with
        | some (.lst ys) => if xs.length + ys.length ≤ szl then .ok .non (h.set a (.lst (xs ++ ys))) else .bad
        | _ => .bad)
      | .pop, [] => (match xs[xs.length - 1]? with
        | some y => .ok y (h.set a (.lst xs.dropLast))
        | none => .bad)
      | .pop, [.int i] => (match if big i then ixOf xs.length i else none with
        | some k => (match xs[k]? with
          | some y => .ok y (h.set a (.lst (xs.eraseIdx k)))
          | none => .bad)
        | none => .bad)
      | .insert, [.int i, x] => if xs.length < szl ∧ 0 ≤ i ∧ i < 2 ^ 62 then .ok .non (h.set a (.lst (xs.take i.toNat ++ [x] ++ xs.drop i.toNat))) else .bad
      | .clear, [] => .ok .non (h.set a (.lst []))
      | _, _ => .bad)
    | some (.dik kvs) => (match m, vs with
      | .get, [k] => pure h ((keyOf k).map fun k => (kget kvs k).getD .non)
      | .get, [k, d] => pure h ((keyOf k).map fun k => (kget kvs k).getD d)
      | .pop, [k] => (match keyOf k with
        | some k => (match kget kvs k with
          | some v => .ok v (h.set a (.dik (kdrop kvs k)))
          | none => .bad)
        | none => .bad)
      | _, _ => .bad)
    | some (.dit kvs) => (match m, vs with
      | .get, [k] => pure h ((keysOf k).map fun k => (kget kvs k).getD .non)
      | .get, [k, d] => pure h ((keysOf k).map fun k => (kget kvs k).getD d)
      | _, _ => .bad)
    | some (.set xs) => (match m, vs with
      | .add, [.int i] => if i ∈ xs then .ok .non h else if xs.length < 1000000 then .ok .non (h.set a (.set (xs ++ [i]))) else .bad
      | _, _ => .bad)
    | _ => .bad)
  | _ => .bad
def isiV (h : Mem) (t : Ty) (v : Val) : Option Bool := match v with
  | .non => match t with | .cls _ => none | _ => some false
  | .bl _ => match t with | .int => some true | .bool => some true | .cls _ => none | _ => some false
  | .int _ => match t with | .int => some true | .cls _ => none | _ => some false
  | .str _ => match t with | .str => some true | .cls _ => none | _ => some false
  | .tup _ => match t with | .tuple => some true | .cls _ => none | _ => some false
  | .ktup _ => none
  | .klst _ => none
  | .ref a => match h[a]? with
    | some (.lst _) => match t with | .list => some true | .cls _ => none | _ => some false
    | some (.dik _) => match t with | .cls _ => none | _ => some false
    | _ => none
  | _ => none
/-! ### what is walked -/
inductive Itr where
  | lst (a : Nat)
  | tup (xs : List Val)
  | enum (a : Nat)
  | zip (a b : Val)
  | rev (a : Nat) (n : Nat)
/-- the item of turn i -/
def Itr.at (t : Itr) (i : Nat) (h : Mem) : Option Val := match t with
  | .lst a => (lstA h a).bind (·[i]?)
  | .tup xs => xs[i]?
  | .enum a => ((lstA h a).bind (·[i]?)).map fun v => .tup [.int i, v]
  | .zip a b => ((seqA h a).bind (·[i]?)).bind fun v => ((seqA h b).bind (·[i]?)).map fun w => .tup [v, w]
  | .rev a n => if i < n then (lstA h a).bind (·[n - 1 - i]?) else none
/-- there is no turn i -/
def Itr.fin (t : Itr) (i : Nat) (h : Mem) : Bool := match t with
  | .lst a => match lstA h a with | some xs => decide (xs.length ≤ i) | none => false
  | .tup xs => decide (xs.length ≤ i)
  | .enum a => match lstA h a with | some xs => decide (xs.length ≤ i) | none => false
  | .zip a b => match seqA h a, seqA h b with | some xs, some ys => decide (xs.length ≤ i) || decide (ys.length ≤ i) | _, _ => false
  | .rev _ n => decide (n ≤ i)
/-- how many turns there are -/
def Itr.cnt (t : Itr) (h : Mem) : Nat := match t with
  | .lst a => ((lstA h a).getD []).length
  | .tup xs => xs.length
  | .enum a => ((lstA h a).getD []).length
  | .zip a b => min ((seqA h a).getD []).length ((seqA h b).getD []).length
  | .rev _ n => n
def setAll : List Nat → List Val → Fr → Option Fr
  | [], [], fr => some fr
  | i :: is, v :: vs, fr => setAll is vs (fr.set i (some v))
  | _, _, _ => none
def Tgt.put (h : Mem) : Tgt → Val → Fr → Option Fr
  | .v i, x, fr => some (fr.set i (some x))
  | .t is, x, fr => (match x with
    | .tup xs => setAll is xs fr
    | .ktup xs => setAll is xs fr
    | .ref a => (match lstA h a with | some xs => setAll is xs fr | none => none)
    | _ => none)
def Tgt.slots : Tgt → List Nat
  | .v i => [i]
  | .t is => is
def wipeF (fr : Fr) : List Nat → Fr
  | [] => fr
  | v :: vs => (wipeF fr vs).set v none
/-- the loop: turns left, turn -/
def forG (t : Itr) (tg : Tgt) (body : Fr → Mem → SR) : Nat → Nat → Fr → Mem → SR
  | 0, i, fr, h => if t.fin i h then .ok .nx fr h else .bad
  | r + 1, i, fr, h => match t.at i h with
    | none => .bad
    | some v => match tg.put h v fr with
      | none => .bad
      | some fr1 => match body fr1 h with
        | .ok .nx fr2 h2 => forG t tg body r (i + 1) fr2 h2
        | .ok .ct fr2 h2 => forG t tg body r (i + 1) fr2 h2
        | .ok .bk fr2 h2 => .ok .nx fr2 h2
        | x => x
/-- the loop of a comprehension, acc: what is made so far -/
def compG (t : Itr) (tg : Tgt) (cond : Fr → Mem → Res Bool) (elt : Fr → Mem → Res Val) (fr : Fr) (D : Nat) : Nat → Nat → Mem → Res Val
  | 0, i, h => if t.fin i h then .ok (.ref D) h else .bad
  | r + 1, i, h => match t.at i h with
    | none => .bad
    | some v => match tg.put h v fr with
      | none => .bad
      | some fr1 => match cond fr1 h with
        | .ok false h1 => compG t tg cond elt fr D r (i + 1) h1
        | .ok true h1 => (match elt fr1 h1 with
          | .ok x h2 => (match h2[D]? with
            | some (.lst xs) => if xs.length < szl then compG t tg cond elt fr D r (i + 1) (h2.set D (.lst (xs ++ [x]))) else .bad
            | _ => .bad)
          | _ => .bad)
        | _ => .bad
/-- while, with a bound of turns -/
def whlG (c : Fr → Mem → Res Bool) (body : Fr → Mem → SR) : Nat → Fr → Mem → SR
  | 0, _, _ => .bad
  | n + 1, fr, h => match c fr h with
    | .ok false h1 => .ok .nx fr h1
    | .ok true h1 => (match body fr h1 with
      | .ok .nx fr2 h2 => whlG c body n fr2 h2
      | .ok .ct fr2 h2 => whlG c body n fr2 h2
      | .ok .bk fr2 h2 => .ok .nx fr2 h2
      | x => x)
    | .exc e h1 => .exc e fr h1
    | .bad => .bad
/-! ### expressions -/
section
variable (P : Pg) (call callI : Nat → List Val → Mem → Res Val)
def metF (c m : Nat) : Option Nat := ((P.cls[c]?).bind fun C => C.ms.lookup m)
def prpF (c m : Nat) : Option Nat := ((P.cls[c]?).bind fun C => C.ps.lookup m)
def fldF (c f : Nat) : Bool := match P.cls[c]? with
  | some C => C.fs.contains f
  | none => false
def attV (f : Nat) (v : Val) (h : Mem) : Res Val := match v with
  | .ref a => match h[a]? with
    | some (.ins c fs) => match prpF P c f with
      | some g => (match callI g [v] h with
        | .ok x h1 => .ok x h1
        | _ => .bad)
      | none => if fldF P c f then pure h (fs.lookup f) else .bad
    | _ => .bad
  | _ => .bad
/-- what a receiver is -/
def kindV (h : Mem) : Val → Nat
  | .ref a => match h[a]? with
    | some (.ins c fs) => 10 + c
    | some (.lst _) => 1
    | some (.dik _) => 2
    | some (.dit _) => 3
    | some (.set _) => 4
    | _ => 0
  | .str _ => 5
  | _ => 0
/-- the receiver has no attribute of that name -/
def noFld (h : Mem) (m : Nat) : Val → Bool
  | .ref a => match h[a]? with
    | some (.ins _ fs) => (fs.lookup m).isNone
    | _ => true
  | _ => true
/-- the receiver has that method -/
def hasM (h : Mem) (m : Nat) (b : Bm) : Val → Bool
  | .ref a => match h[a]? with
    | some (.ins c _) => (metF P c m).isSome
    | some (.lst _) => decide (b = .append ∨ b = .extend ∨ b = .pop ∨ b = .insert ∨ b = .clear)
    | some (.dik _) => decide (b = .get ∨ b = .pop)
    | some (.dit _) => decide (b = .get)
    | _ => false
  | .str _ => decide (b = .join)
  | _ => false
/-- what calling a method does -/
def metV (m : Nat) (b : Bm) (v : Val) (vs : List Val) (h : Mem) : Res Val := match v with
  | .ref a => match h[a]? with
    | some (.ins c fs) => match metF P c m with
      | some g => call g (v :: vs) h
      | none => .bad
    | _ => bmV b v vs h
  | .str s => (match b, vs with
    | .join, [w] => (match (seqA h w).bind (·.mapM strOf) with
      | some ys => if (ys.map (·.length)).sum + ys.length * s.length ≤ szl then .ok (.str (joinT s ys)) h else .bad
      | none => .bad)
    | _, _ => .bad)
  | _ => .bad
mutual
def ev : Ex → Fr → Mem → Res Val
  | .lit l, _, h => .ok l.val h
  | .var i, fr, h => match fr[i]? with
    | some (some v) => .ok v h
    | _ => .bad
  | .con g, _, h => pure h P.kon[g]?
  | .bin o a b, fr, h => (ev a fr h).bind fun v h1 => (ev b fr h1).bind fun w h2 => binV o v w h2
  | .neg a, fr, h => (ev a fr h).bind fun v h1 => match v with
    | .int i => .ok (.int (-i)) h1
    | _ => .bad
  | .nt a, fr, h => (ev a fr h).bind fun v h1 => (pure h1 (tru h1 v)).bind fun t h1 => .ok (.bl (!t)) h1
  | .and a b, fr, h => (ev a fr h).bind fun v h1 => (pure h1 (tru h1 v)).bind fun t h1 => if t then ev b fr h1 else .ok v h1
  | .or a b, fr, h => (ev a fr h).bind fun v h1 => (pure h1 (tru h1 v)).bind fun t h1 => if t then .ok v h1 else ev b fr h1
  | .cmp o a b, fr, h => (ev a fr h).bind fun v h1 => (ev b fr h1).bind fun w h2 => (pure h2 (cmpV h2 o v w)).bind fun t h2 => .ok (.bl t) h2
  | .chn o p a b c, fr, h => (ev a fr h).bind fun v h1 => (ev b fr h1).bind fun w h2 => (pure h2 (cmpV h2 o v w)).bind fun t h2 =>
    if t then (ev c fr h2).bind fun x h3 => (pure h3 (cmpV h3 p w x)).bind fun t h3 => .ok (.bl t) h3 else .ok (.bl false) h2
  | .isN n a, fr, h => (ev a fr h).bind fun v h1 => .ok (.bl (match v with | .non => !n | _ => n)) h1
  | .isB n b a, fr, h => (ev a fr h).bind fun v h1 => match v with
    | .bl c => .ok (.bl (if n then !decide (c = b) else decide (c = b))) h1
    | _ => .bad
  | .tup es, fr, h => (evs es fr h).bind fun vs h1 => if vs.length ≤ szl then .ok (.tup vs) h1 else .bad
  | .lst es, fr, h => (evs es fr h).bind fun vs h1 => if vs.length ≤ szl then new h1 (.lst vs) else .bad
  | .dik ks es, fr, h => match ks with
    | .nil => new h (.dik [])
    | _ => .bad
  | .dit, _, h => new h (.dit [])
  | .ix a i, fr, h => (ev a fr h).bind fun v h1 => (ev i fr h1).bind fun w h2 => ixV v w h2
  | .sl a lo hi, fr, h => (ev a fr h).bind fun v h1 => (evo lo fr h1).bind fun l h2 => (evo hi fr h2).bind fun u h3 => slV v l u h3
  | .att a f, fr, h => (ev a fr h).bind fun v h1 => attV P callI f v h1
  | .cal f es, fr, h => (evs es fr h).bind fun vs h1 => call f vs h1
  | .mk c es, fr, h => (evs es fr h).bind fun vs h1 => match P.cls[c]? with
    | some C => (callI C.ini (.ref h1.length :: vs) (h1 ++ [.ins c []])).bind fun x h2 => match x with
      | .non => .ok (.ref h1.length) h2
      | _ => .bad
    | none => .bad
  | .met a m b es, fr, h => (ev a fr h).bind fun v h1 => if noFld h1 m v && hasM P h1 m b v then (evs es fr h1).bind fun vs h2 => if kindV h1 v = kindV h2 v then metV P call m b v vs h2 else .bad else .bad
  | .blt b es, fr, h => (evs es fr h).bind fun vs h1 => bltV b vs h1
  | .isi a t, fr, h => (ev a fr h).bind fun v h1 => pure h1 ((isiV h1 t v).map .bl)
  | .lr1 e, fr, h => (ev e fr h).bind fun v h1 => match v with
    | .int n => if big n && decide (n ≤ 1000000) then new h1 (.lst (rngL 0 n.toNat)) else .bad
    | _ => .bad
  | .lr2 a b, fr, h => (ev a fr h).bind fun v h1 => (ev b fr h1).bind fun w h2 => match v, w with
    | .int i, .int j => if big i && big j && decide (j - i ≤ 1000000) then new h2 (.lst (rngL i (j - i).toNat)) else .bad
    | _, _ => .bad
  | .comp tg it cond e, fr, h => (evi it fr h).bind fun t h1 =>
    compG t tg (evc cond) (ev e) (wipeF fr tg.slots) h1.length (t.cnt h1) 0 (h1 ++ [.lst []])
def evs : Exs → Fr → Mem → Res (List Val)
  | .nil, _, h => .ok [] h
  | .cons e es, fr, h => (ev e fr h).bind fun v h1 => (evs es fr h1).bind fun vs h2 => .ok (v :: vs) h2
def evo : OEx → Fr → Mem → Res (Option Int)
  | .no, _, h => .ok none h
  | .so e, fr, h => (ev e fr h).bind fun v h1 => match v with
    | .int i => .ok (some i) h1
    | _ => .bad
/-- a test of a comprehension -/
def evc : OTe → Fr → Mem → Res Bool
  | .no, _, h => .ok true h
  | .so e, fr, h => evt e fr h
/-- a test -/
def evt : Te → Fr → Mem → Res Bool
  | .e a, fr, h => (ev a fr h).bind fun v h1 => pure h1 (tru h1 v)
  | .nt a, fr, h => (evt a fr h).bind fun t h1 => .ok (!t) h1
  | .and a b, fr, h => (evt a fr h).bind fun t h1 => if t then evt b fr h1 else .ok false h1
  | .or a b, fr, h => (evt a fr h).bind fun t h1 => if t then .ok true h1 else evt b fr h1
def evi : Itx → Fr → Mem → Res Itr
  | .val e, fr, h => (ev e fr h).bind fun v h1 => match v with
    | .ref a => (match h1[a]? with
      | some (.lst _) => .ok (.lst a) h1
      | some (.frz (.lst _)) => .ok (.lst a) h1
      | _ => .bad)
    | .tup xs => .ok (.tup xs) h1
    | .ktup xs => .ok (.tup xs) h1
    | .klst xs => .ok (.tup xs) h1
    | .str s => .ok (.tup (s.map fun c => .str [c])) h1
    | _ => .bad
  | .rng1 e, fr, h => (ev e fr h).bind fun v h1 => match v with
    | .int n => if big n then .ok (.tup (rngL 0 n.toNat)) h1 else .bad
    | _ => .bad
  | .rng2 a b, fr, h => (ev a fr h).bind fun v h1 => (ev b fr h1).bind fun w h2 => match v, w with
    | .int i, .int j => if big i && big j then .ok (.tup (rngL i (j - i).toNat)) h2 else .bad
    | _, _ => .bad
  | .enum e, fr, h => (ev e fr h).bind fun v h1 => match v with
    | .ref a => (match h1[a]? with
      | some (.lst _) => .ok (.enum a) h1
      | some (.frz (.lst _)) => .ok (.enum a) h1
      | _ => .bad)
    | _ => .bad
  | .zip a b, fr, h => (ev a fr h).bind fun v h1 => (ev b fr h1).bind fun w h2 => match seqA h2 v, seqA h2 w with
    | some _, some _ => .ok (.zip v w) h2
    | _, _ => .bad
  | .rev e, fr, h => (ev e fr h).bind fun v h1 => match v with
    | .ref a => (match lstA h1 a with
      | some xs => .ok (.rev a xs.length) h1
      | none => .bad)
    | _ => .bad
  | .items e, fr, h => .bad
end
/-! ### statements -/
def fput (f : Nat) (v : Val) : List (Nat × Val) → List (Nat × Val)
  | [] => [(f, v)]
  | p :: r => if p.1 = f then (f, v) :: r else p :: fput f v r
def lift {α : Type} (r : Res α) (fr : Fr) (k : α → Mem → SR) : SR := match r with
  | .ok a h => k a h
  | .exc c h => .exc c fr h
  | .bad => .bad
@[simp] theorem lift_ok {α : Type} (a : α) (h : Mem) (fr : Fr) (k : α → Mem → SR) : lift (.ok a h) fr k = k a h := rfl
@[simp] theorem lift_exc {α : Type} (c : Nat) (h : Mem) (fr : Fr) (k : α → Mem → SR) : lift (.exc c h) fr k = .exc c fr h := rfl
@[simp] theorem lift_bad {α : Type} (fr : Fr) (k : α → Mem → SR) : lift .bad fr k = .bad := rfl
def SR.of (fr : Fr) : Option Mem → SR
  | some h => .ok .nx fr h
  | none => .bad
def SR.andThen (r : SR) (k : Fr → Mem → SR) : SR := match r with
  | .ok .nx fr h => k fr h
  | x => x
def setV (x i v : Val) (h : Mem) : Option Mem := match x with
  | .ref a => match h[a]? with
    | some (.lst xs) => (match i with
      | .int k => (ixOf xs.length k).map fun j => h.set a (.lst (xs.set j v))
      | _ => none)
    | some (.dik kvs) => (match keyOf i with
      | some k => if kvs.length < szl then some (h.set a (.dik (kput kvs k v))) else none
      | none => none)
    | some (.dit kvs) => (match keysOf i with
      | some k => if kvs.length < szl then some (h.set a (.dit (kput kvs k v))) else none
      | none => none)
    | _ => none
  | _ => none
def delV (x i : Val) (h : Mem) : Option Mem := match x with
  | .ref a => match h[a]? with
    | some (.dik kvs) => (match keyOf i with
      | some k => if (kget kvs k).isSome then some (h.set a (.dik (kdrop kvs k))) else none
      | none => none)
    | _ => none
  | _ => none
def setA (f : Nat) (x v : Val) (h : Mem) : Option Mem := match x with
  | .ref a => match h[a]? with
    | some (.ins c fs) => if fldF P c f && decide (fs.length < 1000) then some (h.set a (.ins c (fput f v fs))) else none
    | _ => none
  | _ => none
def augI (sub : Bool) : Val → Val → Option Val
  | .int i, .int j => some (.int (if sub then i - j else i + j))
  | _, _ => none
mutual
/-- in an except suite, the error's class at hand -/
def evX (c : Nat) : XEx → Fr → Option Val
  | .lit l, _ => some l.val
  | .var i, fr => match fr[i]? with
    | some (some v) => some v
    | _ => none
  | .exi d, _ => (P.exc c d).map .bl
  | .and a b, fr => match evX c a fr with
    | some (.bl t) => if t then evX c b fr else some (.bl false)
    | _ => none
  | .or a b, fr => match evX c a fr with
    | some (.bl t) => if t then some (.bl true) else evX c b fr
    | _ => none
  | .nt a, fr => match evX c a fr with
    | some (.bl t) => some (.bl (!t))
    | _ => none
  | .tup es, fr => (evXs c es fr).bind fun vs => if vs.length ≤ szl then some (.tup vs) else none
  | .lst _, _ => none
def evXs (c : Nat) : XExs → Fr → Option (List Val)
  | .nil, _ => some []
  | .cons e es, fr => (evX c e fr).bind fun v => (evXs c es fr).map fun vs => v :: vs
end
mutual
def exX (c : Nat) : XSm → Fr → Mem → SR
  | .ret e, fr, h => match e with
    | .lst .nil => .ok (.rt (.ref h.length)) fr (h ++ [.lst []])
    | _ => match evX P c e fr with
      | some v => .ok (.rt v) fr h
      | none => .bad
  | .ite t a b, fr, h => match evX P c t fr with
    | some (.bl k) => if k then exXs c a fr h else exXs c b fr h
    | _ => .bad
  | .asg i e, fr, h => match evX P c e fr with
    | some v => .ok .nx (fr.set i (some v)) h
    | none => .bad
  | .pass, fr, h => .ok .nx fr h
def exXs (c : Nat) : XSms → Fr → Mem → SR
  | .nil, fr, h => .ok .nx fr h
  | .cons s ss, fr, h => (exX c s fr h).andThen (exXs c ss)
end
def hand (c : Nat) : Hds → Fr → Mem → SR
  | .nil, fr, h => .exc c fr h
  | .cons d b hs, fr, h => match P.exc c d with
    | some true => exXs P c b fr h
    | some false => hand c hs fr h
    | none => .bad
  | .one d i b, fr, h => match P.exc c d with
    | some true => if i < fr.length then (match exXs P c b (fr.set i none) h with
      | .ok f fr1 h1 => .ok f (fr1.set i none) h1
      | _ => .bad) else .bad
    | some false => .exc c fr h
    | none => .bad
mutual
def ex : Sm → Fr → Mem → SR
  | .asg tg e, fr, h => lift (ev P call callI e fr h) fr fun v h1 => match tg.put h1 v fr with
    | some fr1 => .ok .nx fr1 h1
    | none => .bad
  | .asgA o f e, fr, h => lift (ev P call callI e fr h) fr fun y h1 => lift (ev P call callI o fr h1) fr fun x h2 => SR.of fr (setA P f x y h2)
  | .asgI o i e, fr, h => lift (ev P call callI e fr h) fr fun y h1 => lift (ev P call callI o fr h1) fr fun x h2 => lift (ev P call callI i fr h2) fr fun z h3 => SR.of fr (setV x z y h3)
  | .augA o f s e, fr, h => lift (ev P call callI o fr h) fr fun x h1 => match x with
    | .ref a => (match h1[a]? with
      | some (.ins c fs) => (match if fldF P c f then fs.lookup f else none with
        | some u => lift (ev P call callI e fr h1) fr fun y h2 => (match augI s u y with
          | some z => if kindV h2 x = 10 + c then SR.of fr (setA P f x z h2) else .bad
          | none => .bad)
        | none => .bad)
      | _ => .bad)
    | _ => .bad
  | .exp e, fr, h => lift (ev P call callI e fr h) fr fun _ h1 => .ok .nx fr h1
  | .ret e, fr, h => lift (ev P call callI e fr h) fr fun v h1 => .ok (.rt v) fr h1
  | .retN, fr, h => .ok (.rt .non) fr h
  | .ite c a b, fr, h => lift (evt P call callI c fr h) fr fun t h1 => if t then exs a fr h1 else exs b fr h1
  | .whl c b, fr, h => whlG (evt P call callI c) (exs b) P.lim fr h
  | .for tg it b, fr, h => lift (evi P call callI it fr h) fr fun t h1 => forG t tg (exs b) (t.cnt h1) 0 fr h1
  | .raise c, fr, h => .exc c fr h
  | .try b hs, fr, h => match exs b fr h with
    | .exc c fr1 h1 => hand P c hs fr1 h1
    | x => x
  | .pass, fr, h => .ok .nx fr h
  | .brk, fr, h => .ok .bk fr h
  | .cnt, fr, h => .ok .ct fr h
  | .del o i, fr, h => lift (ev P call callI o fr h) fr fun x h1 => lift (ev P call callI i fr h1) fr fun z h2 => SR.of fr (delV x z h2)
def exs : Sms → Fr → Mem → SR
  | .nil, fr, h => .ok .nx fr h
  | .cons s ss, fr, h => (ex s fr h).andThen (exs ss)
end
end
def fin : SR → Res Val
  | .ok .nx _ h => .ok .non h
  | .ok (.rt v) _ h => .ok v h
  | .exc c _ h => .exc c h
  | _ => .bad
def start (F : Fn) (vs : List Val) : Fr := vs.map some ++ List.replicate (F.ns - vs.length) none
/-- function i, k calls deep -/
def run (P : Pg) : Nat → Nat → List Val → Mem → Res Val
  | 0, _, _, _ => .bad
  | 1, _, _, _ => .bad
  | k + 2, i, vs, h => match P.fns[i]? with
    | some F => if vs.length = F.np then fin (exs P (run P (k + 1)) (run P k) F.body (start F vs) h) else .bad
    | none => .bad
end
end PyI
namespace PyI
theorem small_lit (n : Nat) : small (OfNat.ofNat n : Int) = decide (n < 18446744073709551616) := by
  rw [small_eq]
  apply decide_eq_decide.mpr
  show _ ∧ ((n : Int) < _) ↔ _
  constructor
  · intro h; omega
  · intro h; constructor
    · show _ < (n : Int); omega
    · omega
theorem small_of {i : Int} (h1 : -18446744073709551616 < i) (h2 : i < 18446744073709551616) : small i = true := by
  rw [small_eq]; exact decide_eq_true ⟨by omega, by omega⟩
theorem big_lit (n : Nat) : big (OfNat.ofNat n : Int) = decide (n < 4611686018427387904) := by
  rw [big_eq]
  have h1 : decide (-(2 ^ 62) ≤ (OfNat.ofNat n : Int)) = true := decide_eq_true (by show _ ≤ (n : Int); omega)
  rw [h1, Bool.true_and]
  apply decide_eq_decide.mpr
  show (n : Int) < _ ↔ _
  constructor <;> intro h <;> omega
theorem big_of {i : Int} (h1 : -4611686018427387904 ≤ i) (h2 : i < 4611686018427387904) : big i = true := by
  rw [big_eq, decide_eq_true (show -(2 ^ 62) ≤ i by omega), decide_eq_true (show i < 2 ^ 62 by omega)]; rfl
/-! ### what a program leaves -/
structure SR.sat (r : SR) (Q : Flow → Fr → Mem → Prop) : Prop where
  sat_eq : ∃ f fr h, r = .ok f fr h ∧ Q f fr h
structure Res.sat {α : Type} (r : Res α) (Q : α → Mem → Prop) : Prop where
  sat_eq : ∃ a h, r = .ok a h ∧ Q a h
theorem SR.sat_ok {Q : Flow → Fr → Mem → Prop} {f : Flow} {fr : Fr} {h : Mem} (q : Q f fr h) : (SR.ok f fr h).sat Q := ⟨f, fr, h, rfl, q⟩
theorem Res.sat_ok {α : Type} {Q : α → Mem → Prop} {a : α} {h : Mem} (q : Q a h) : (Res.ok a h).sat Q := ⟨a, h, rfl, q⟩
theorem SR.sat.mono {Q Q' : Flow → Fr → Mem → Prop} {r : SR} (h : r.sat Q) (i : ∀ f fr m, Q f fr m → Q' f fr m) : r.sat Q' := by
  obtain ⟨f, fr, m, rfl, q⟩ := h.sat_eq
  exact ⟨_, _, _, rfl, i _ _ _ q⟩
theorem sat_andThen {Q : Flow → Fr → Mem → Prop} {r : SR} {k : Fr → Mem → SR} (h : r.sat fun f fr m => match f with | .nx => (k fr m).sat Q | f => Q f fr m) : (r.andThen k).sat Q := by
  obtain ⟨f, fr, m, rfl, q⟩ := h.sat_eq
  cases f <;> first | exact q | exact SR.sat_ok q
theorem sat_fin {Q : Val → Mem → Prop} {r : SR} (h : r.sat fun f fr m => match f with | .nx => Q .non m | .rt v => Q v m | _ => False) : (fin r).sat Q := by
  obtain ⟨f, fr, m, rfl, q⟩ := h.sat_eq
  cases f <;> first | exact Res.sat_ok q | exact q.elim
/-- a for: I, what holds at turn i -/
theorem forG_sat {t : Itr} {tg : Tgt} {body : Fr → Mem → SR} {n : Nat} {Q : Flow → Fr → Mem → Prop} (I : Nat → Fr → Mem → Prop) (step : ∀ i fr h, i < n → I i fr h → ∃ v fr1, t.at i h = some v ∧ tg.put h v fr = some fr1 ∧
      (body fr1 h).sat fun f fr2 h2 => match f with | .nx => I (i + 1) fr2 h2 | .ct => I (i + 1) fr2 h2 | .bk => Q .nx fr2 h2 | .rt v => Q (.rt v) fr2 h2)
    (done : ∀ fr h, I n fr h → t.fin n h = true ∧ Q .nx fr h) : ∀ (r i : Nat) (fr : Fr) (h : Mem), r + i = n → I i fr h → (forG t tg body r i fr h).sat Q
  | 0, i, fr, h, e, hI => by
    have : i = n := by omega
    subst this
    obtain ⟨h1, h2⟩ := done fr h hI
    simp only [forG, h1, if_true]
    exact SR.sat_ok h2
  | r + 1, i, fr, h, e, hI => by
    obtain ⟨v, fr1, h1, h2, h3⟩ := step i fr h (by omega) hI
    obtain ⟨f, fr2, m2, e2, q⟩ := h3.sat_eq
    simp only [forG, h1, h2, e2]
    cases f with
    | nx => exact forG_sat I step done r (i + 1) fr2 m2 (by omega) q
    | ct => exact forG_sat I step done r (i + 1) fr2 m2 (by omega) q
    | bk => exact SR.sat_ok q
    | rt v => exact SR.sat_ok q
theorem whlG_sat {c : Fr → Mem → Res Bool} {body : Fr → Mem → SR} {Q : Flow → Fr → Mem → Prop} (I : Nat → Fr → Mem → Prop) (step : ∀ m fr h, I m fr h → ∃ b h1, c fr h = .ok b h1 ∧ if b = true then 
      (body fr h1).sat fun f fr2 h2 => match f with | .nx => ∃ m', m' < m ∧ I m' fr2 h2 | .ct => ∃ m', m' < m ∧ I m' fr2 h2 | .bk => Q .nx fr2 h2 | .rt v => Q (.rt v) fr2 h2 else Q .nx fr h1) :
    ∀ (n m : Nat) (fr : Fr) (h : Mem), m < n → I m fr h → (whlG c body n fr h).sat Q
  | 0, m, _, _, hl, _ => absurd hl (Nat.not_lt_zero _)
  | n + 1, m, fr, h, hl, hI => by
    obtain ⟨b, h1, e1, q⟩ := step m fr h hI
    cases b with
    | false =>
      simp only [whlG, e1]
      exact SR.sat_ok q
    | true =>
      rw [if_pos rfl] at q
      obtain ⟨f, fr2, m2, e2, q⟩ := q.sat_eq
      simp only [whlG, e1, e2]
      cases f with
      | nx => obtain ⟨m', hm, q⟩ := q; exact whlG_sat I step n m' fr2 m2 (by omega) q
      | ct => obtain ⟨m', hm, q⟩ := q; exact whlG_sat I step n m' fr2 m2 (by omega) q
      | bk => exact SR.sat_ok q
      | rt v => exact SR.sat_ok q
section
variable {P : Pg} {call callI : Nat → List Val → Mem → Res Val} {fr : Fr} {h : Mem} {Q : Flow → Fr → Mem → Prop}
theorem sat_ok_iff {α : Type} {R : α → Mem → Prop} {a : α} {h : Mem} : (Res.ok a h).sat R ↔ R a h := ⟨fun ⟨_, _, e, q⟩ => by cases e; exact q, Res.sat_ok⟩
theorem ssat_ok_iff {f : Flow} {fr : Fr} {h : Mem} : (SR.ok f fr h).sat Q ↔ Q f fr h := ⟨fun ⟨_, _, _, e, q⟩ => by cases e; exact q, SR.sat_ok⟩
theorem sat_bind {α β : Type} {r : Res α} {f : α → Mem → Res β} {R : α → Mem → Prop} {S : β → Mem → Prop} (h1 : r.sat R) (h2 : ∀ a h, R a h → (f a h).sat S) : (r.bind f).sat S := by
  obtain ⟨a, m, rfl, q⟩ := h1.sat_eq
  exact h2 a m q
theorem sat_mono {α : Type} {r : Res α} {R S : α → Mem → Prop} (h1 : r.sat R) (h2 : ∀ a h, R a h → S a h) : r.sat S := by
  obtain ⟨a, m, rfl, q⟩ := h1.sat_eq
  exact Res.sat_ok (h2 a m q)
theorem lift_sat {α : Type} {r : Res α} {k : α → Mem → SR} (h1 : r.sat fun a m => (k a m).sat Q) : (lift r fr k).sat Q := by
  obtain ⟨a, m, rfl, q⟩ := h1.sat_eq
  exact q
def andQ (P : Pg) (call callI : Nat → List Val → Mem → Res Val) (ss : Sms) (Q : Flow → Fr → Mem → Prop) : Flow → Fr → Mem → Prop
  | .nx, fr, m => (exs P call callI ss fr m).sat Q
  | .rt v, fr, m => Q (.rt v) fr m
  | .bk, fr, m => Q .bk fr m
  | .ct, fr, m => Q .ct fr m
theorem st_cons {s : Sm} {ss : Sms} (h1 : (ex P call callI s fr h).sat (andQ P call callI ss Q)) : (exs P call callI (.cons s ss) fr h).sat Q := by
  simp only [exs]
  refine sat_andThen ?_
  obtain ⟨f, fr1, m, e, q⟩ := h1.sat_eq
  rw [e]
  cases f <;> exact SR.sat_ok q
/-- a statement, then what holds -/
theorem st_cut {s : Sm} {ss : Sms} (R : Fr → Mem → Prop) (h1 : (ex P call callI s fr h).sat fun f fr m => f = .nx ∧ R fr m) (h2 : ∀ fr m, R fr m → (exs P call callI ss fr m).sat Q) : (exs P call callI (.cons s ss) fr h).sat Q :=
  st_cons (h1.mono fun f fr m ⟨e, q⟩ => by subst e; exact h2 fr m q)
theorem st_nil (h1 : Q .nx fr h) : (exs P call callI .nil fr h).sat Q := SR.sat_ok h1
theorem st_asg {tg : Tgt} {e : Ex} (h1 : (ev P call callI e fr h).sat fun v h1 => ∃ fr1, tg.put h1 v fr = some fr1 ∧ Q .nx fr1 h1) : (ex P call callI (.asg tg e) fr h).sat Q := by
  simp only [ex]
  refine lift_sat (sat_mono h1 fun v m ⟨fr1, e1, q⟩ => ?_)
  rw [e1]
  exact SR.sat_ok q
theorem st_exp {e : Ex} (h1 : (ev P call callI e fr h).sat fun _ h1 => Q .nx fr h1) : (ex P call callI (.exp e) fr h).sat Q := by
  simp only [ex]
  exact lift_sat (sat_mono h1 fun v m q => SR.sat_ok q)
theorem st_ret {e : Ex} (h1 : (ev P call callI e fr h).sat fun v h1 => Q (.rt v) fr h1) : (ex P call callI (.ret e) fr h).sat Q := by
  simp only [ex]
  exact lift_sat (sat_mono h1 fun v m q => SR.sat_ok q)
theorem st_ite {c : Te} {a b : Sms} (h1 : (evt P call callI c fr h).sat fun t h1 => (t = true → (exs P call callI a fr h1).sat Q) ∧ (t = false → (exs P call callI b fr h1).sat Q)) : (ex P call callI (.ite c a b) fr h).sat Q := by
  simp only [ex]
  refine lift_sat (sat_mono h1 fun t m ⟨q1, q2⟩ => ?_)
  cases t with
  | true => exact q1 rfl
  | false => exact q2 rfl
theorem st_for {tg : Tgt} {it : Itx} {b : Sms} (h1 : (evi P call callI it fr h).sat fun t h1 => (forG t tg (exs P call callI b) (t.cnt h1) 0 fr h1).sat Q) : (ex P call callI (.for tg it b) fr h).sat Q := by
  simp only [ex]
  exact lift_sat h1
/-- what a loop's body leaves: I at the next turn -/
def loopQ (I : Fr → Mem → Prop) (Q : Flow → Fr → Mem → Prop) : Flow → Fr → Mem → Prop
  | .nx, fr, m => I fr m
  | .ct, fr, m => I fr m
  | .bk, fr, m => Q .nx fr m
  | .rt v, fr, m => Q (.rt v) fr m
theorem for_tup {h' : Mem} {vs : List Val} {tg : Tgt} {body : Fr → Mem → SR} (I : Nat → Fr → Mem → Prop) (h0 : I 0 fr h)
    (step : ∀ i v fr h, vs[i]? = some v → I i fr h → ∃ fr1, tg.put h v fr = some fr1 ∧ (body fr1 h).sat (loopQ (I (i + 1)) Q)) (done : ∀ fr h, I vs.length fr h → Q .nx fr h) : (forG (.tup vs) tg body ((Itr.tup vs).cnt h') 0 fr h).sat Q := by
  refine forG_sat (n := vs.length) I (fun i fr h hi hI => ?_) (fun fr h hI => ⟨by simp [Itr.fin], done fr h hI⟩) _ _ _ _ rfl h0
  obtain ⟨v, hv⟩ : ∃ v, vs[i]? = some v := ⟨_, List.getElem?_eq_getElem hi⟩
  obtain ⟨fr1, e1, q⟩ := step i v fr h hv hI
  refine ⟨v, fr1, hv, e1, q.mono fun f fr m q => ?_⟩
  cases f <;> exact q
theorem for_lst {a : Nat} {vs : List Val} {tg : Tgt} {body : Fr → Mem → SR} (I : Nat → Fr → Mem → Prop) (hh : ∀ i fr h, I i fr h → lstA h a = some vs) (h0 : I 0 fr h)
    (step : ∀ i v fr h, vs[i]? = some v → I i fr h → ∃ fr1, tg.put h v fr = some fr1 ∧ (body fr1 h).sat (loopQ (I (i + 1)) Q)) (done : ∀ fr h, I vs.length fr h → Q .nx fr h) : (forG (.lst a) tg body ((Itr.lst a).cnt h) 0 fr h).sat Q := by
  have en : (Itr.lst a).cnt h = vs.length := by simp [Itr.cnt, hh 0 fr h h0]
  rw [en]
  refine forG_sat (n := vs.length) I (fun i fr h hi hI => ?_) (fun fr h hI => ⟨by simp [Itr.fin, hh _ _ _ hI], done fr h hI⟩) _ _ _ _ rfl h0
  obtain ⟨v, hv⟩ : ∃ v, vs[i]? = some v := ⟨_, List.getElem?_eq_getElem hi⟩
  obtain ⟨fr1, e1, q⟩ := step i v fr h hv hI
  refine ⟨v, fr1, by simp [Itr.at, hh _ _ _ hI, hv], e1, q.mono fun f fr m q => ?_⟩
  cases f <;> exact q
theorem rngL_get {lo : Int} {n i : Nat} {v : Val} (e : (rngL lo n)[i]? = some v) : i < n ∧ v = .int (lo + i) := by
  have hi : i < n := by have := (List.getElem?_eq_some_iff.mp e).1; simpa [rngL] using this
  unfold rngL at e
  rw [List.getElem?_map, List.getElem?_range hi] at e
  exact ⟨hi, by cases e; rfl⟩
theorem rngL_len {lo : Int} {n : Nat} : (rngL lo n).length = n := by simp [rngL]
theorem for_rng {h' : Mem} {lo : Int} {n : Nat} {tg : Tgt} {body : Fr → Mem → SR} (I : Nat → Fr → Mem → Prop) (h0 : I 0 fr h)
    (step : ∀ (i : Nat) fr h, i < n → I i fr h → ∃ fr1, tg.put h (.int (lo + i)) fr = some fr1 ∧ (body fr1 h).sat (loopQ (I (i + 1)) Q)) (done : ∀ fr h, I n fr h → Q .nx fr h) : (forG (.tup (rngL lo n)) tg body ((Itr.tup (rngL lo n)).cnt h') 0 fr h).sat Q :=
  for_tup I h0 (fun i v fr h e hI => by obtain ⟨hi, rfl⟩ := rngL_get e; exact step i fr h hi hI) fun fr h hI => done fr h (by rwa [rngL_len] at hI)
end
/-- a list of ints at a -/
def IntsAt (h : Mem) (a : Nat) (ds : List Int) : Prop := h[a]? = some (.lst (ds.map .int))
theorem IntsAt.lstA {h : Mem} {a : Nat} {ds : List Int} (e : IntsAt h a ds) : lstA h a = some (ds.map .int) := by unfold PyI.lstA; rw [e]; rfl
end PyI
/-! what the small language's programs do, they do in the model -/
namespace PyI
open PySem PySem.Spec PyProof.Rows L2
/-! ### texts -/
def toStr (t : Txt) : Str := ⟨(t.map Char.toNat).toArray⟩
theorem toNat_inj {a b : Char} (h : a.toNat = b.toNat) : a = b := by
  apply Char.ext
  exact UInt32.toNat_inj.mp h
theorem map_toNat_inj : ∀ {x y : Txt}, x.map Char.toNat = y.map Char.toNat → x = y
  | [], [], _ => rfl
  | [], _ :: _, h => by simp at h
  | _ :: _, [], h => by simp at h
  | a :: x, b :: y, h => by
    simp only [List.map_cons, List.cons.injEq] at h
    rw [toNat_inj h.1, map_toNat_inj h.2]
theorem toStr_inj {x y : Txt} (h : toStr x = toStr y) : x = y := by
  unfold toStr at h
  injection h with h
  exact map_toNat_inj (by simpa using congrArg Array.toList h)
theorem toStr_length (x : Txt) : (toStr x).length = x.length := by simp [toStr, Str.length]
theorem toStr_append (x y : Txt) : toStr x ++ toStr y = toStr (x ++ y) := by
  show Str.append (toStr x) (toStr y) = _
  simp [Str.append, toStr]
theorem toStr_dec (x y : Txt) : decide (toStr x = toStr y) = decide (x = y) := by
  by_cases h : x = y
  · subst h; simp
  · rw [decide_eq_false h, decide_eq_false fun e => h (toStr_inj e)]
def kT : PyI.Key → L2.Key
  | .inl i => .inl i
  | .inr t => .inr (toStr t)
theorem kT_inj {a b : PyI.Key} (h : kT a = kT b) : a = b := by
  cases a <;> cases b <;> simp only [kT, Sum.inl.injEq, Sum.inr.injEq, reduceCtorEq] at h
  · rw [h]
  · rw [toStr_inj h]
theorem map_kT_inj : ∀ {a b : List PyI.Key}, a.map kT = b.map kT → a = b
  | [], [], _ => rfl
  | [], _ :: _, h => by simp at h
  | _ :: _, [], h => by simp at h
  | a :: x, b :: y, h => by
    simp only [List.map_cons, List.cons.injEq] at h
    rw [kT_inj h.1, map_kT_inj h.2]
/-! ### the relation -/
/-- where the text's classes, errors and functions stand, how names are spelt -/
structure Tab where
  cls : Nat → Addr
  exn : Nat → Value
  fn : Nat → Addr
  nm : Nat → Str
/-- a tuple of the text's top -/
def KTup (K : PySem.W.Frag) (a : Addr) (vs : List V) : Prop :=
  ∃ (o : Obj) (its : Array Value) (n : Nat), K.lookup a = some o ∧ o.cls = .type "tuple" ∧ o.data = .seq its n ∧ its.size ≤ sizeLine ∧ Vals vs its.toList
/-- a list that is only read -/
def KLst (K : PySem.W.Frag) (H : L2.Hp) (a : Addr) (vs : List V) : Prop :=
  (∃ ob, H a = some (.frz ob (.lst vs))) ∨ ∃ (o : Obj) (its : Array Value) (n : Nat), K.lookup a = some o ∧ o.cls = .type "list" ∧ o.dict = none ∧ o.data = .seq its n ∧ its.size ≤ sizeLine ∧ Vals vs its.toList
theorem KLst.sq {K : PySem.W.Frag} {H : L2.Hp} {a : Addr} {vs : List V} (k : KLst K H a vs) : SqL K H a vs := k.elim (fun ⟨o, e⟩ => .inl (.inr ⟨o, e⟩)) .inr
theorem KTup.sq {K : PySem.W.Frag} {H : L2.Hp} {a : Addr} {vs : List V} (k : KTup K a vs) : SqT K H a vs := .inr k
section
variable (K : PySem.W.Frag) (T : Tab)
mutual
def RV (φ : List Addr) (H : L2.Hp) : Val → V → Prop
  | .non, x => x = .non
  | .bl b, x => x = .bl b
  | .int i, x => x = .int i
  | .str s, x => x = .str (toStr s)
  | .tup xs, x => ∃ a vs, x = .ref a ∧ H a = some (.tup vs) ∧ RVs φ H xs vs
  | .ref n, x => ∃ a, φ[n]? = some a ∧ x = .ref a
  | .fn f, x => x = .ref (T.fn f)
  | .ktup xs, x => ∃ a vs, x = .ref a ∧ KTup K a vs ∧ RVs φ H xs vs
  | .klst xs, x => ∃ a vs, x = .ref a ∧ KLst K H a vs ∧ RVs φ H xs vs
def RVs (φ : List Addr) (H : L2.Hp) : List Val → List V → Prop
  | [], vs => vs = []
  | x :: xs, vs => ∃ v r, vs = v :: r ∧ RV φ H x v ∧ RVs φ H xs r
end
def RKs {κ κ' : Type} (k : κ → κ') (φ : List Addr) (H : L2.Hp) : List (κ × Val) → List (κ' × V) → Prop
  | [], vs => vs = []
  | x :: xs, vs => ∃ v r, vs = (k x.1, v) :: r ∧ RV K T φ H x.2 v ∧ RKs k φ H xs r
def ROb (w : World) (φ : List Addr) (H : L2.Hp) (a : Addr) : Ob → HO → Prop
  | .lst xs, o => ∃ vs, o = .lst vs ∧ RVs K T φ H xs vs
  | .dik kvs, o => ∃ ks, o = .dK ks ∧ RKs K T kT φ H kvs ks
  | .dit kvs, o => ∃ ks, o = .dT ks ∧ RKs K T (List.map kT) φ H kvs ks
  | .set xs, o => False
  | .ins c fs, o => ∃ dx ks, o = .ins (T.cls c) dx ks ∧ RKs K T T.nm φ H fs ks
  | .frz u, o => ∃ ob v, o = .frz ob v ∧ ROb w φ H a u v
/-- the memory stands in the heap, its places at φ -/
structure Rel (w : World) (φ : List Addr) (H : L2.Hp) (h : Mem) : Prop where
  len : φ.length = h.length
  nd : φ.Nodup
  at_ : ∀ (n : Nat) (a : Addr) (o : Ob), φ[n]? = some a → h[n]? = some o → ∃ u, H a = some u ∧ ROb K T w φ H a o u
/-- later -/
structure Ext (φ : List Addr) (H : L2.Hp) (ψ : List Addr) (G : L2.Hp) : Prop where
  pre : ∃ l, ψ = φ ++ l
  tup : ∀ a vs, H a = some (.tup vs) → G a = some (.tup vs)
  frz : ∀ a ob u, H a = some (.frz ob u) → G a = some (.frz ob u)
def RFr (φ : List Addr) (H : L2.Hp) (fr : PyI.Fr) (σ : L2.St) : Prop :=
  fr.length = σ.length ∧ ∀ (i : Nat) (v : Val), fr[i]? = some (some v) → ∃ x, σ[i]? = some (some x) ∧ RV K T φ H v x
end
section
variable {K : PySem.W.Frag} {T : Tab} {w : World} {φ ψ χ : List Addr} {H G F : L2.Hp} {h h1 h2 : Mem}
theorem Ext.refl : Ext φ H φ H := ⟨⟨[], by simp⟩, fun _ _ q => q, fun _ _ _ q => q⟩
theorem Ext.trans (e : Ext φ H ψ G) (f : Ext ψ G χ F) : Ext φ H χ F := by
  obtain ⟨l, rfl⟩ := e.pre
  obtain ⟨m, rfl⟩ := f.pre
  exact ⟨⟨l ++ m, by simp⟩, fun a vs q => f.tup a vs (e.tup a vs q), fun a o u q => f.frz a o u (e.frz a o u q)⟩
theorem Ext.get (e : Ext φ H ψ G) {n : Nat} {a : Addr} (q : φ[n]? = some a) : ψ[n]? = some a := by
  obtain ⟨l, rfl⟩ := e.pre
  rw [List.getElem?_append_left (List.getElem?_eq_some_iff.mp q).1]
  exact q
mutual
theorem RV.mono (e : Ext φ H ψ G) : ∀ (v : Val) (x : V), RV K T φ H v x → RV K T ψ G v x
  | .non, _, q => q
  | .bl _, _, q => q
  | .int _, _, q => q
  | .str _, _, q => q
  | .tup xs, x, q => by
    obtain ⟨a, vs, e1, q1, q2⟩ := q
    exact ⟨a, vs, e1, e.tup _ _ q1, RVs.mono e xs vs q2⟩
  | .ref n, x, q => by
    obtain ⟨a, q1, q2⟩ := q
    exact ⟨a, e.get q1, q2⟩
  | .fn _, _, q => q
  | .ktup xs, x, q => by
    obtain ⟨a, vs, e1, q1, q2⟩ := q
    exact ⟨a, vs, e1, q1, RVs.mono e xs vs q2⟩
  | .klst xs, x, q => by
    obtain ⟨a, vs, e1, q1, q2⟩ := q
    exact ⟨a, vs, e1, q1.elim (fun ⟨o, z⟩ => .inl ⟨o, e.frz _ _ _ z⟩) .inr, RVs.mono e xs vs q2⟩
theorem RVs.mono (e : Ext φ H ψ G) : ∀ (vs : List Val) (xs : List V), RVs K T φ H vs xs → RVs K T ψ G vs xs
  | [], _, q => q
  | v :: vs, xs, q => by
    obtain ⟨x, r, e1, q1, q2⟩ := q
    exact ⟨x, r, e1, RV.mono e v x q1, RVs.mono e vs r q2⟩
end
theorem RKs.mono {κ κ' : Type} {k : κ → κ'} (e : Ext φ H ψ G) : ∀ {vs : List (κ × Val)} {xs : List (κ' × V)}, RKs K T k φ H vs xs → RKs K T k ψ G vs xs
  | [], _, q => q
  | v :: vs, xs, q => by
    obtain ⟨x, r, e1, q1, q2⟩ := q
    exact ⟨x, r, e1, q1.mono e _ _, RKs.mono e q2⟩
theorem ROb.mono {a : Addr} (e : Ext φ H ψ G) : ∀ {o : Ob} {u : HO}, ROb K T w φ H a o u → ROb K T w ψ G a o u
  | .lst _, _, q => by obtain ⟨vs, e1, q1⟩ := q; exact ⟨vs, e1, RVs.mono e _ _ q1⟩
  | .dik _, _, q => by obtain ⟨vs, e1, q1⟩ := q; exact ⟨vs, e1, RKs.mono e q1⟩
  | .dit _, _, q => by obtain ⟨vs, e1, q1⟩ := q; exact ⟨vs, e1, RKs.mono e q1⟩
  | .set _, _, q => q.elim
  | .ins _ _, _, q => by obtain ⟨dx, vs, e1, q1⟩ := q; exact ⟨dx, vs, e1, RKs.mono e q1⟩
  | .frz _, _, q => by obtain ⟨ob, v, e1, q1⟩ := q; exact ⟨ob, v, e1, ROb.mono e q1⟩
theorem RFr.mono {fr : PyI.Fr} {σ : L2.St} (e : Ext φ H ψ G) (q : RFr K T φ H fr σ) : RFr K T ψ G fr σ :=
  ⟨q.1, fun i v hv => let ⟨x, h1, h2⟩ := q.2 i v hv; ⟨x, h1, h2.mono e _ _⟩⟩
theorem RVs.length : ∀ {vs : List Val} {xs : List V}, RVs K T φ H vs xs → xs.length = vs.length
  | [], _, q => by rw [show _ = [] from q]; rfl
  | v :: vs, xs, q => by obtain ⟨x, r, rfl, _, q2⟩ := q; simp [RVs.length q2]
theorem RKs.length {κ κ' : Type} {k : κ → κ'} : ∀ {vs : List (κ × Val)} {xs : List (κ' × V)}, RKs K T k φ H vs xs → xs.length = vs.length
  | [], _, q => by rw [show _ = [] from q]; rfl
  | v :: vs, xs, q => by obtain ⟨x, r, rfl, _, q2⟩ := q; simp [RKs.length q2]
theorem RVs.get : ∀ {vs : List Val} {xs : List V} {i : Nat} {v : Val}, RVs K T φ H vs xs → vs[i]? = some v → ∃ x, xs[i]? = some x ∧ RV K T φ H v x
  | [], _, _, _, _, q => by simp at q
  | v :: vs, xs, i, u, q, hi => by
    obtain ⟨x, r, rfl, q1, q2⟩ := q
    cases i with
    | zero => simp at hi; subst hi; exact ⟨x, by simp, q1⟩
    | succ i => simpa using RVs.get q2 (by simpa using hi)
theorem RVs.none_of {vs : List Val} {xs : List V} {i : Nat} (q : RVs K T φ H vs xs) (hi : vs[i]? = none) : xs[i]? = none := by
  rw [List.getElem?_eq_none_iff] at hi ⊢
  rw [q.length]; exact hi
theorem RVs.of_get : ∀ {vs : List Val} {xs : List V}, xs.length = vs.length → (∀ (i : Nat) (v : Val) (x : V), vs[i]? = some v → xs[i]? = some x → RV K T φ H v x) → RVs K T φ H vs xs
  | [], [], _, _ => rfl
  | [], _ :: _, h, _ => by simp at h
  | _ :: _, [], h, _ => by simp at h
  | v :: vs, x :: xs, h, q => ⟨x, xs, rfl, q 0 v x (by simp) (by simp), RVs.of_get (by simpa using h) fun i u y h1 h2 => q (i + 1) u y (by simpa using h1) (by simpa using h2)⟩
theorem RVs.append : ∀ {vs us : List Val} {xs ys : List V}, RVs K T φ H vs xs → RVs K T φ H us ys → RVs K T φ H (vs ++ us) (xs ++ ys)
  | [], _, _, _, q, r => by rw [show _ = [] from q]; exact r
  | v :: vs, us, xs, ys, q, r => by
    obtain ⟨x, s, rfl, q1, q2⟩ := q
    exact ⟨x, s ++ ys, rfl, q1, RVs.append q2 r⟩
theorem RVs.take : ∀ {vs : List Val} {xs : List V} (n : Nat), RVs K T φ H vs xs → RVs K T φ H (vs.take n) (xs.take n)
  | [], _, n, q => by rw [show _ = [] from q]; simp [RVs]
  | v :: vs, xs, n, q => by
    obtain ⟨x, s, rfl, q1, q2⟩ := q
    cases n with
    | zero => simp [RVs]
    | succ n => exact ⟨x, s.take n, by simp, q1, RVs.take n q2⟩
theorem RVs.drop : ∀ {vs : List Val} {xs : List V} (n : Nat), RVs K T φ H vs xs → RVs K T φ H (vs.drop n) (xs.drop n)
  | [], _, n, q => by rw [show _ = [] from q]; simp [RVs]
  | v :: vs, xs, n, q => by
    obtain ⟨x, s, rfl, q1, q2⟩ := q
    cases n with
    | zero => exact ⟨x, s, rfl, q1, q2⟩
    | succ n => simpa using RVs.drop n q2
theorem RVs.set {v : Val} {x : V} (r : RV K T φ H v x) : ∀ {vs : List Val} {xs : List V} (n : Nat), RVs K T φ H vs xs → RVs K T φ H (vs.set n v) (xs.set n x)
  | [], _, n, q => by rw [show _ = [] from q]; simp [RVs]
  | v :: vs, xs, n, q => by
    obtain ⟨y, s, rfl, q1, q2⟩ := q
    cases n with
    | zero => exact ⟨x, s, rfl, r, q2⟩
    | succ n => exact ⟨y, s.set n x, rfl, q1, RVs.set r n q2⟩
theorem RVs.eraseIdx : ∀ {vs : List Val} {xs : List V} (n : Nat), RVs K T φ H vs xs → RVs K T φ H (vs.eraseIdx n) (xs.eraseIdx n)
  | [], _, n, q => by rw [show _ = [] from q]; simp [RVs]
  | v :: vs, xs, n, q => by
    obtain ⟨y, s, rfl, q1, q2⟩ := q
    cases n with
    | zero => exact q2
    | succ n => exact ⟨y, s.eraseIdx n, rfl, q1, RVs.eraseIdx n q2⟩
theorem RVs.one {v : Val} {x : V} (q : RV K T φ H v x) : RVs K T φ H [v] [x] := ⟨x, [], rfl, q, rfl⟩
theorem RVs.ints : ∀ {vs : List Val} {xs : List V} {ns : List Int}, RVs K T φ H vs xs → vs.mapM intOf = some ns → xs = ns.map V.int
  | [], _, ns, q, e => by
    simp at e; subst e
    rw [show _ = [] from q]; rfl
  | v :: vs, xs, ns, q, e => by
    obtain ⟨y, s, rfl, q1, q2⟩ := q
    cases v <;> simp [intOf] at e
    rename_i i
    cases hm : vs.mapM intOf with
    | none => rw [hm] at e; simp at e
    | some ms =>
      rw [hm] at e; simp at e; subst e
      rw [show y = V.int i from q1, RVs.ints q2 hm]; rfl
theorem RVs.strs : ∀ {vs : List Val} {xs : List V} {ns : List Txt}, RVs K T φ H vs xs → vs.mapM strOf = some ns → xs = ns.map fun t => V.str (toStr t)
  | [], _, ns, q, e => by
    simp at e; subst e
    rw [show _ = [] from q]; rfl
  | v :: vs, xs, ns, q, e => by
    obtain ⟨y, s, rfl, q1, q2⟩ := q
    cases v <;> simp [strOf] at e
    rename_i i
    cases hm : vs.mapM strOf with
    | none => rw [hm] at e; simp at e
    | some ms =>
      rw [hm] at e; simp at e; subst e
      rw [show y = V.str (toStr i) from q1, RVs.strs q2 hm]; rfl
theorem RVs.of_ints : ∀ (ns : List Int), RVs K T φ H (ns.map .int) (ns.map V.int)
  | [] => rfl
  | n :: ns => ⟨_, _, rfl, rfl, RVs.of_ints ns⟩
theorem RVs.of_strs : ∀ (ns : List Txt), RVs K T φ H (ns.map .str) (ns.map fun t => V.str (toStr t))
  | [] => rfl
  | n :: ns => ⟨_, _, rfl, rfl, RVs.of_strs ns⟩
/-! ### reading -/
theorem Rel.at (R : Rel K T w φ H h) {n : Nat} {o : Ob} (e : h[n]? = some o) : ∃ a u, φ[n]? = some a ∧ H a = some u ∧ ROb K T w φ H a o u := by
  have hl : n < φ.length := by rw [R.len]; exact (List.getElem?_eq_some_iff.mp e).1
  obtain ⟨u, q1, q2⟩ := R.at_ n φ[n] o (List.getElem?_eq_getElem hl) e
  exact ⟨_, u, List.getElem?_eq_getElem hl, q1, q2⟩
theorem Rel.ref (R : Rel K T w φ H h) {n : Nat} {o : Ob} {x : V} (r : RV K T φ H (.ref n) x) (e : h[n]? = some o) : ∃ a u, x = .ref a ∧ φ[n]? = some a ∧ H a = some u ∧ ROb K T w φ H a o u := by
  obtain ⟨a, e1, rfl⟩ := r
  obtain ⟨b, u, e2, q1, q2⟩ := R.at e
  rw [e1] at e2; cases e2
  exact ⟨a, u, rfl, e1, q1, q2⟩
/-- a list, locked or not -/
theorem Rel.lstA (R : Rel K T w φ H h) {n : Nat} {xs : List Val} {x : V} (r : RV K T φ H (.ref n) x) (e : lstA h n = some xs) : ∃ a vs, x = .ref a ∧ φ[n]? = some a ∧ SqL K H a vs ∧ RVs K T φ H xs vs := by
  unfold PyI.lstA at e
  cases ho : h[n]? with
  | none => rw [ho] at e; simp at e
  | some o =>
    rw [ho] at e
    simp only [Option.bind_some] at e
    obtain ⟨a, u, rfl, e1, q1, q2⟩ := R.ref r ho
    cases o <;> simp only [lstO, reduceCtorEq] at e
    · cases e
      obtain ⟨vs, rfl, q3⟩ := q2
      exact ⟨a, vs, rfl, e1, .inl (.inl q1), q3⟩
    · rename_i o
      cases o <;> simp only [lstO, reduceCtorEq] at e
      cases e
      obtain ⟨ob, v, rfl, vs, rfl, q3⟩ := q2
      exact ⟨a, vs, rfl, e1, .inl (.inr ⟨ob, q1⟩), q3⟩
theorem Rel.seqA (R : Rel K T w φ H h) {v : Val} {xs : List Val} {x : V} (r : RV K T φ H v x) (e : seqA h v = some xs) : ∃ a vs, x = .ref a ∧ (SqL K H a vs ∨ SqT K H a vs) ∧ RVs K T φ H xs vs := by
  cases v <;> simp only [PyI.seqA, reduceCtorEq] at e
  · cases e
    obtain ⟨a, vs, rfl, q1, q2⟩ := r
    exact ⟨a, vs, rfl, .inr (.of q1), q2⟩
  · obtain ⟨a, vs, rfl, _, q1, q2⟩ := R.lstA r e
    exact ⟨a, vs, rfl, .inl q1, q2⟩
  · cases e
    obtain ⟨a, vs, rfl, q1, q2⟩ := r
    exact ⟨a, vs, rfl, .inr q1.sq, q2⟩
  · cases e
    obtain ⟨a, vs, rfl, q1, q2⟩ := r
    exact ⟨a, vs, rfl, .inl q1.sq, q2⟩
/-! ### a new object, a change -/
theorem ext_new {a : Addr} {o : HO} (hn : H a = none) : Ext φ H (φ ++ [a]) (upd H a o) := by
  refine ⟨⟨[a], rfl⟩, fun b vs q => ?_, fun b ob u q => ?_⟩ <;> (rw [upd_ne (ne_of_none q hn)]; exact q)
/-- .. that is not ours to see -/
theorem ext_tup {a : Addr} {o : HO} (hn : H a = none) : Ext φ H φ (upd H a o) := by
  refine ⟨⟨[], by simp⟩, fun b vs q => ?_, fun b ob u q => ?_⟩ <;> (rw [upd_ne (ne_of_none q hn)]; exact q)
theorem Rel.fresh (R : Rel K T w φ H h) {a : Addr} (hn : H a = none) : a ∉ φ := fun hm => by
  obtain ⟨n, hl, e⟩ := List.mem_iff_getElem.mp hm
  have e' : φ[n]? = some a := by rw [List.getElem?_eq_getElem hl, e]
  have hl2 : n < h.length := by rw [← R.len]; exact hl
  obtain ⟨u, q, _⟩ := R.at_ n a _ e' (List.getElem?_eq_getElem hl2)
  rw [hn] at q; cases q
theorem Rel.tup (R : Rel K T w φ H h) {a : Addr} {o : HO} (hn : H a = none) : Rel K T w φ (upd H a o) h := by
  refine ⟨R.len, R.nd, fun n b ob e1 e2 => ?_⟩
  obtain ⟨u, q1, q2⟩ := R.at_ n b ob e1 e2
  exact ⟨u, by rw [upd_ne (ne_of_none q1 hn)]; exact q1, q2.mono (ext_tup hn)⟩
theorem Rel.new (R : Rel K T w φ H h) {a : Addr} {ob : Ob} {o : HO} (hn : H a = none) (q : ROb K T w (φ ++ [a]) (upd H a o) a ob o) : Rel K T w (φ ++ [a]) (upd H a o) (h ++ [ob]) := by
  have fr := R.fresh hn
  refine ⟨by simp [R.len], ?_, fun n b ob' e1 e2 => ?_⟩
  · rw [List.nodup_append]
    refine ⟨R.nd, by simp, fun x hx y hy e => ?_⟩
    have : y = a := by simpa using hy
    subst this; subst e
    exact fr hx
  · by_cases hl : n < φ.length
    · rw [List.getElem?_append_left hl] at e1
      rw [List.getElem?_append_left (by rw [← R.len]; exact hl)] at e2
      obtain ⟨u, q1, q2⟩ := R.at_ n b ob' e1 e2
      exact ⟨u, by rw [upd_ne (ne_of_none q1 hn)]; exact q1, q2.mono (ext_new hn)⟩
    · have hn2 : n = φ.length := by
        have := (List.getElem?_eq_some_iff.mp e1).1
        simp at this; omega
      subst hn2
      rw [List.getElem?_append_right (Nat.le_refl _)] at e1
      rw [List.getElem?_append_right (by rw [R.len]; exact Nat.le_refl _)] at e2
      simp at e1
      simp [R.len] at e2
      subst e1; subst e2
      exact ⟨o, upd_same, q⟩
theorem Rel.new_ref (R : Rel K T w φ H h) {a : Addr} {G : L2.Hp} : RV K T (φ ++ [a]) G (.ref h.length) (.ref a) := ⟨a, by rw [← R.len]; simp, rfl⟩
def notTup : HO → Prop
  | .tup _ => False
  | .frz _ _ => False
  | _ => True
theorem ext_set {a : Addr} {u o : HO} (hu : H a = some u) (nt : notTup u) : Ext φ H φ (upd H a o) := by
  refine ⟨⟨[], by simp⟩, fun b vs q => ?_, fun b ob v q => ?_⟩
  all_goals
    rw [upd_ne]
    · exact q
    rintro rfl
    rw [hu] at q; cases q; exact nt
theorem Rel.set (R : Rel K T w φ H h) {n : Nat} {a : Addr} {ob : Ob} {u o : HO} (e : φ[n]? = some a) (hu : H a = some u) (nt : notTup u) (q : ROb K T w φ (upd H a o) a ob o) : Rel K T w φ (upd H a o) (h.set n ob) := by
  refine ⟨by simp [R.len], R.nd, fun m b ob' e1 e2 => ?_⟩
  by_cases hm : m = n
  · subst hm
    rw [e] at e1; cases e1
    have hl : m < h.length := by rw [← R.len]; exact (List.getElem?_eq_some_iff.mp e).1
    rw [List.getElem?_set_self hl] at e2
    cases e2
    exact ⟨o, upd_same, q⟩
  · rw [List.getElem?_set_ne (Ne.symm hm)] at e2
    obtain ⟨v, q1, q2⟩ := R.at_ m b ob' e1 e2
    have hne : b ≠ a := fun z => hm (by
      subst z
      obtain ⟨l1, g1⟩ := List.getElem?_eq_some_iff.mp e1
      obtain ⟨l2, g2⟩ := List.getElem?_eq_some_iff.mp e
      exact (List.getElem_inj R.nd).mp (g1.trans g2.symm))
    exact ⟨v, by rw [upd_ne hne]; exact q1, q2.mono (ext_set hu nt)⟩
end
end PyI
namespace PyI
open PySem PySem.Spec PyProof.Rows L2
/-! ### results -/
section
variable {α β γ δ : Type}
def okR (K : PySem.W.Frag) (T : Tab) (w : World) (RR : List Addr → L2.Hp → α → β → Prop) (φ : List Addr) (H : L2.Hp) (Q : β → L2.Hp → Prop) (E : Nat → L2.Hp → Prop) : Res α → Prop
  | .ok v h => ∀ ψ G x, Ext φ H ψ G → Rel K T w ψ G h → RR ψ G v x → Q x G
  | .exc c h => ∀ ψ G, Ext φ H ψ G → Rel K T w ψ G h → E c G
  | .bad => False
variable {K : PySem.W.Frag} {T : Tab} {w : World} {φ ψ : List Addr} {H G : L2.Hp} {h : Mem} {RR : List Addr → L2.Hp → α → β → Prop} {RR' : List Addr → L2.Hp → γ → δ → Prop}
  {Q : β → L2.Hp → Prop} {E : Nat → L2.Hp → Prop}
theorem okR.ext {r : Res α} (o : okR K T w RR φ H Q E r) (e : Ext φ H ψ G) : okR K T w RR ψ G Q E r := by
  cases r with
  | ok v h => exact fun χ F x e2 R q => o χ F x (e.trans e2) R q
  | exc c h => exact fun χ F e2 R => o χ F (e.trans e2) R
  | bad => exact o
theorem okR.mono {r : Res α} {Q' : β → L2.Hp → Prop} (o : okR K T w RR φ H Q E r) (m : ∀ x G, Q x G → Q' x G) : okR K T w RR φ H Q' E r := by
  cases r with
  | ok v h => exact fun χ F x e2 R q => m _ _ (o χ F x e2 R q)
  | exc c h => exact o
  | bad => exact o
theorem okR.bind {r : Res γ} {f : γ → Mem → Res α} (o : okR K T w RR φ H Q E (r.bind f)) :
    okR K T w RR' φ H (fun x H1 => ∃ v ψ h1, Ext φ H ψ H1 ∧ Rel K T w ψ H1 h1 ∧ RR' ψ H1 v x ∧ okR K T w RR ψ H1 Q E (f v h1)) E r := by
  cases r with
  | ok v h => exact fun χ F x e2 R q => ⟨v, χ, h, e2, R, q, o.ext e2⟩
  | exc c h => exact o
  | bad => exact o
theorem okR.ok {v : α} {x : β} (o : okR K T w RR φ H Q E (.ok v h)) (R : Rel K T w φ H h) (q : RR φ H v x) : Q x H := o φ H x Ext.refl R q
theorem okR.pure {p : Option α} (o : okR K T w RR φ H Q E (pure h p)) : ∃ v, p = some v ∧ okR K T w RR φ H Q E (.ok v h) := by
  cases p with
  | none => exact o.elim
  | some v => exact ⟨v, rfl, o⟩
theorem okR.pbind {p : Option γ} {f : γ → Mem → Res α} (o : okR K T w RR φ H Q E ((PyI.pure h p).bind f)) : ∃ v, p = some v ∧ okR K T w RR φ H Q E (f v h) := by
  cases p with
  | none => exact o.elim
  | some v => exact ⟨v, rfl, o⟩
end
/-- what an expression of the small language reads -/
def tR {α β : Type} (K : PySem.W.Frag) (T : Tab) (w : World) (W : WX) (RR : List Addr → L2.Hp → α → β → Prop) (r : PyI.Fr → Mem → Res α) : L2.St → L2.Hp → (β → L2.Hp → Prop) → Prop := fun σ H Q =>
  ∃ φ h fr, Rel K T w φ H h ∧ RFr K T φ H fr σ ∧ okR K T w RR φ H Q (fun c G => W (T.exn c) none σ G) (r fr h)
def RB (_ : List Addr) (_ : L2.Hp) (b c : Bool) : Prop := c = b
abbrev tV (K : PySem.W.Frag) (T : Tab) (w : World) (W : WX) (r : PyI.Fr → Mem → Res Val) : TE := tR K T w W (RV K T) r
abbrev tVs (K : PySem.W.Frag) (T : Tab) (w : World) (W : WX) (r : PyI.Fr → Mem → Res (List Val)) : TA := tR K T w W (RVs K T) r
abbrev tBl (K : PySem.W.Frag) (T : Tab) (w : World) (W : WX) (r : PyI.Fr → Mem → Res Bool) : TT := tR K T w W RB r
section
variable {X : Cx} {e : Expr} {es : List Expr} {t t' : TE} {u u' : TT} {a a' : TA} {s s' : TS} {st : Stmt} {sts : List Stmt}
theorem peI (p : PE X e t) (i : ∀ σ H Q, t' σ H Q → t σ H Q) : PE X e t' := ⟨fun pins s σ H Q I h => p.run pins s σ H Q I (i _ _ _ h)⟩
theorem ptI (p : PT X e u) (i : ∀ σ H Q, u' σ H Q → u σ H Q) : PT X e u' := ⟨fun pins s σ H Q I h => p.run pins s σ H Q I (i _ _ _ h)⟩
theorem pwI (p : PW X e u) (i : ∀ σ H Q, u' σ H Q → u σ H Q) : PW X e u' := ⟨fun wh pins s σ H Q I h => p.run wh pins s σ H Q I (i _ _ _ h)⟩
theorem paI (p : PA X es a) (i : ∀ σ H Q, a' σ H Q → a σ H Q) : PA X es a' := ⟨fun pos pins s σ H Q I h => p.run pos pins s σ H Q I (i _ _ _ h)⟩
theorem peAny {ι : Type} {t : ι → TE} (p : ∀ i, PE X e (t i)) : PE X e (fun σ H Q => ∃ i, t i σ H Q) := ⟨fun pins s σ H Q I ⟨i, h⟩ => (p i).run pins s σ H Q I h⟩
theorem psI (p : PS X st s) (i : ∀ D σ H, s' D σ H → s D σ H) : PS X st s' := ⟨fun pins s σ H Q I h => p.run pins s σ H Q I (i _ _ _ h)⟩
theorem pssI (p : PSs X sts s) (i : ∀ D σ H, s' D σ H → s D σ H) : PSs X sts s' := ⟨fun pins s σ H Q I h => p.run pins s σ H Q I (i _ _ _ h)⟩
end
section
variable {α β γ δ ε ζ : Type} {K : PySem.W.Frag} {T : Tab} {w : World} {W : WX} {RR : List Addr → L2.Hp → α → β → Prop} {R1 : List Addr → L2.Hp → γ → δ → Prop} {R2' : List Addr → L2.Hp → ε → ζ → Prop}
theorem tR.mono {r : PyI.Fr → Mem → Res α} {σ : L2.St} {H : L2.Hp} {Q Q' : β → L2.Hp → Prop} (o : tR K T w W RR r σ H Q) (m : ∀ x G, Q x G → Q' x G) : tR K T w W RR r σ H Q' :=
  let ⟨φ, h, fr, R, F, o⟩ := o
  ⟨φ, h, fr, R, F, o.mono m⟩
/-- one part, then the rest -/
theorem tR.bind1 {r : PyI.Fr → Mem → Res γ} {f : PyI.Fr → γ → Mem → Res α} {σ : L2.St} {H : L2.Hp} {Q : β → L2.Hp → Prop} (o : tR K T w W RR (fun fr h => (r fr h).bind (f fr)) σ H Q) :
    tR K T w W R1 r σ H fun x H1 => ∃ v φ h1 fr, Rel K T w φ H1 h1 ∧ RFr K T φ H1 fr σ ∧ R1 φ H1 v x ∧ okR K T w RR φ H1 Q (fun c G => W (T.exn c) none σ G) (f fr v h1) := by
  obtain ⟨φ, h, fr, R, F, o⟩ := o
  exact ⟨φ, h, fr, R, F, o.bind.mono fun x G ⟨v, ψ, h1, e, R', q, o'⟩ => ⟨v, ψ, h1, fr, R', F.mono e, q, o'⟩⟩
/-- two parts, then the rest; the first one's relation stays -/
theorem tR.bind2 {r : PyI.Fr → Mem → Res γ} {r2 : PyI.Fr → Mem → Res ε} {f : PyI.Fr → γ → ε → Mem → Res α} {σ : L2.St} {H : L2.Hp} {Q : β → L2.Hp → Prop}
    (m : ∀ φ H ψ G v x, Ext φ H ψ G → R1 φ H v x → R1 ψ G v x)
    (o : tR K T w W RR (fun fr h => (r fr h).bind fun v h1 => (r2 fr h1).bind fun u h2 => f fr v u h2) σ H Q) :
    tR K T w W R1 r σ H fun x H1 => tR K T w W R2' r2 σ H1 fun y H2 => ∃ v u φ h2 fr, Rel K T w φ H2 h2 ∧ RFr K T φ H2 fr σ ∧ R1 φ H2 v x ∧ R2' φ H2 u y ∧ okR K T w RR φ H2 Q (fun c G => W (T.exn c) none σ G) (f fr v u h2) := by
  obtain ⟨φ, h, fr, R, F, o⟩ := o
  refine ⟨φ, h, fr, R, F, o.bind.mono fun x G ⟨v, ψ, h1, e, R', q, o'⟩ => ⟨ψ, h1, fr, R', F.mono e, o'.bind.mono fun y G2 ⟨u, χ, h2, e2, R2, q2, o2⟩ => ⟨v, u, χ, h2, fr, R2, (F.mono e).mono e2, m _ _ _ _ _ _ e2 q, q2, o2⟩⟩⟩
theorem rvmono : ∀ (φ : List Addr) (H : L2.Hp) (ψ : List Addr) (G : L2.Hp) (v : Val) (x : V), Ext φ H ψ G → RV K T φ H v x → RV K T ψ G v x := fun _ _ _ _ v x e q => q.mono e v x
theorem rvsmono : ∀ (φ : List Addr) (H : L2.Hp) (ψ : List Addr) (G : L2.Hp) (v : List Val) (x : List V), Ext φ H ψ G → RVs K T φ H v x → RVs K T ψ G v x := fun _ _ _ _ v x e q => q.mono e v x
end
/-! ### data -/
def dat (h : Mem) : Nat → Val → PyData
  | 0, _ => .none
  | n + 1, v => match v with
    | .non => .none
    | .bl b => .bool b
    | .int i => .int i
    | .str s => .str (toStr s)
    | .tup xs => .tuple (xs.map (dat h n))
    | .ref a => match lstA h a with
      | some xs => .list (xs.map (dat h n))
      | none => .none
    | .ktup xs => .tuple (xs.map (dat h n))
    | .fn _ => .none
    | .klst _ => .none
section
variable {K : PySem.W.Frag} {T : Tab} {w : World} {φ : List Addr} {H : L2.Hp} {h : Mem}
theorem dps {n : Nat} (ih : ∀ v x, isD h n v = true → RV K T φ H v x → Dp K H x (dat h n v)) : ∀ {vs : List Val} {xs : List V}, vs.all (isD h n) = true → RVs K T φ H vs xs → DpAll K H xs (vs.map (dat h n))
  | [], _, _, q => by rw [show _ = [] from q]; exact .nil
  | v :: vs, xs, d, q => by
    obtain ⟨x, r, rfl, q1, q2⟩ := q
    simp only [List.all_cons, Bool.and_eq_true] at d
    exact .cons (ih v x d.1 q1) (dps ih d.2 q2)
theorem dp_of (R : Rel K T w φ H h) : ∀ (n : Nat) (v : Val) (x : V), isD h n v = true → RV K T φ H v x → Dp K H x (dat h n v)
  | 0, _, _, d, _ => by simp [isD] at d
  | n + 1, v, x, d, q => by
    cases v with
    | non => rw [show x = _ from q]; exact .non
    | bl b => rw [show x = _ from q]; exact .bl b
    | int i => rw [show x = _ from q]; exact .int i
    | str s => rw [show x = _ from q]; exact .str _
    | tup xs =>
      obtain ⟨a, vs, rfl, q1, q2⟩ := q
      exact .tup (.of q1) (dps (dp_of R n) (by simpa [isD] using d) q2)
    | ktup xs =>
      obtain ⟨a, vs, rfl, q1, q2⟩ := q
      exact .tup q1.sq (dps (dp_of R n) (by simpa [isD] using d) q2)
    | ref a =>
      cases hl : lstA h a with
      | none => simp [isD, hl] at d
      | some xs =>
        obtain ⟨a', vs, rfl, _, q1, q2⟩ := R.lstA q hl
        have d' : xs.all (isD h n) = true := by simpa [isD, hl] using d
        show Dp K H (.ref a') (match lstA h a with | some xs => .list (xs.map (dat h n)) | none => .none)
        rw [hl]
        exact .lst q1 (dps (dp_of R n) d' q2)
    | fn f => simp [isD] at d
    | klst f => simp [isD] at d
theorem eqvAll_map {f : Val → PyData} {g : Val → Val → Bool} : ∀ (xs ys : List Val), (∀ x y, x ∈ xs → y ∈ ys → PyData.eqv (f x) (f y) = g x y) → PyData.eqvAll (xs.map f) (ys.map f) = eqs g xs ys
  | [], [], _ => by simp [PyData.eqvAll, eqs]
  | [], _ :: _, _ => by simp [PyData.eqvAll, eqs]
  | _ :: _, [], _ => by simp [PyData.eqvAll, eqs]
  | x :: xs, y :: ys, q => by
    simp only [List.map_cons, PyData.eqvAll, eqs]
    rw [q x y (by simp) (by simp), eqvAll_map xs ys fun a b ha hb => q a b (by simp [ha]) (by simp [hb])]
theorem toStr_beq (x y : Txt) : (toStr x == toStr y) = (x == y) := by
  rw [show (toStr x == toStr y) = decide (toStr x = toStr y) from rfl, toStr_dec]
  by_cases h : x = y
  · subst h; simp
  · simp [h]
theorem eqv_dat : ∀ (n : Nat) (v w : Val), isD h n v = true → isD h n w = true → PyData.eqv (dat h n v) (dat h n w) = eqB h n v w
  | 0, _, _, d, _ => by simp [isD] at d
  | n + 1, v, u, d, d2 => by
    have all : ∀ xs ys : List Val, xs.all (isD h n) = true → ys.all (isD h n) = true → PyData.eqvAll (xs.map (dat h n)) (ys.map (dat h n)) = eqs (eqB h n) xs ys := fun xs ys a b =>
      eqvAll_map xs ys fun x y hx hy => eqv_dat n x y (List.all_eq_true.mp a x hx) (List.all_eq_true.mp b y hy)
    cases v with
    | ref a =>
      cases hl : lstA h a with
      | none => simp [isD, hl] at d
      | some xs =>
        have dx : xs.all (isD h n) = true := by simpa [isD, hl] using d
        cases u with
        | ref b =>
          cases hm : lstA h b with
          | none => simp [isD, hm] at d2
          | some ys =>
            have dy : ys.all (isD h n) = true := by simpa [isD, hm] using d2
            simp only [dat, eqB, hl, hm, PyData.eqv]
            exact all xs ys dx dy
        | fn f => simp [isD] at d2
        | klst f => simp [isD] at d2
        | _ => simp [dat, eqB, hl, PyData.eqv]
    | fn f => simp [isD] at d
    | klst f => simp [isD] at d
    | tup xs =>
      have dx : xs.all (isD h n) = true := by simpa [isD] using d
      cases u with
      | ref b =>
        cases hm : lstA h b with
        | none => simp [isD, hm] at d2
        | some ys => simp [dat, eqB, hm, PyData.eqv]
      | fn f => simp [isD] at d2
      | klst f => simp [isD] at d2
      | tup ys =>
        simp only [dat, eqB, PyData.eqv]
        exact all xs ys dx (by simpa [isD] using d2)
      | ktup ys =>
        simp only [dat, eqB, PyData.eqv]
        exact all xs ys dx (by simpa [isD] using d2)
      | _ => simp [dat, eqB, PyData.eqv]
    | ktup xs =>
      have dx : xs.all (isD h n) = true := by simpa [isD] using d
      cases u with
      | ref b =>
        cases hm : lstA h b with
        | none => simp [isD, hm] at d2
        | some ys => simp [dat, eqB, hm, PyData.eqv]
      | fn f => simp [isD] at d2
      | klst f => simp [isD] at d2
      | tup ys =>
        simp only [dat, eqB, PyData.eqv]
        exact all xs ys dx (by simpa [isD] using d2)
      | ktup ys =>
        simp only [dat, eqB, PyData.eqv]
        exact all xs ys dx (by simpa [isD] using d2)
      | _ => simp [dat, eqB, PyData.eqv]
    | _ =>
      cases u with
      | ref b =>
        cases hm : lstA h b with
        | none => simp [isD, hm] at d2
        | some ys => simp [dat, eqB, hm, PyData.eqv]
      | fn f => simp [isD] at d2
      | klst f => simp [isD] at d2
      | _ => simp [dat, eqB, PyData.eqv, b2i, toStr_beq]
theorem strOk_toStr (x : Txt) : PyData.strOk (toStr x) = true := by
  unfold PyData.strOk toStr
  rw [← Array.all_toList]
  simp only [List.all_eq_true, List.mem_map, forall_exists_index, and_imp, forall_apply_eq_imp_iff₂, decide_eq_true_eq]
  intro c _
  have := c.valid
  unfold UInt32.isValidChar Nat.isValidChar at this
  show c.val.toNat < _
  omega
theorem canLayAll_map {f : Val → PyData} : ∀ (xs : List Val), (∀ x ∈ xs, (f x).canLay0 = true) → PyData.canLayAll0 (xs.map f) = true
  | [], _ => by simp [PyData.canLayAll0]
  | x :: xs, q => by simp only [List.map_cons, PyData.canLayAll0, q x (by simp), canLayAll_map xs fun y hy => q y (by simp [hy]), Bool.and_self]
theorem depthAll_map {f : Val → PyData} {m : Nat} : ∀ (xs : List Val), (∀ x ∈ xs, (f x).depth ≤ m) → PyData.depthAll (xs.map f) ≤ m
  | [], _ => by simp [PyData.depthAll]
  | x :: xs, q => by
    have h1 := q x (by simp)
    have h2 := depthAll_map xs fun y hy => q y (by simp [hy])
    simp only [List.map_cons, PyData.depthAll]
    omega
theorem canLay_dat : ∀ (n : Nat) (v : Val), (dat h n v).canLay0 = true
  | 0, v => by simp [dat, PyData.canLay0]
  | n + 1, v => by
    cases v with
    | str s => simpa [dat, PyData.canLay0] using strOk_toStr s
    | tup xs => simpa [dat, PyData.canLay0] using canLayAll_map xs fun x _ => canLay_dat n x
    | ktup xs => simpa [dat, PyData.canLay0] using canLayAll_map xs fun x _ => canLay_dat n x
    | ref a =>
      cases hl : lstA h a with
      | none => simp [dat, hl, PyData.canLay0]
      | some xs => simpa [dat, hl, PyData.canLay0] using canLayAll_map xs fun x _ => canLay_dat n x
    | _ => simp [dat, PyData.canLay0]
theorem depth_dat : ∀ (n : Nat) (v : Val), (dat h n v).depth ≤ n
  | 0, v => by simp [dat, PyData.depth]
  | n + 1, v => by
    cases v with
    | tup xs => simpa [dat, PyData.depth] using depthAll_map xs fun x _ => depth_dat n x
    | ktup xs => simpa [dat, PyData.depth] using depthAll_map xs fun x _ => depth_dat n x
    | ref a =>
      cases hl : lstA h a with
      | none => simp [dat, hl, PyData.depth]
      | some xs => simpa [dat, hl, PyData.depth] using depthAll_map xs fun x _ => depth_dat n x
    | _ => simp [dat, PyData.depth]
theorem shaped_dat {n : Nat} (hn : n ≤ 64) (v : Val) : SeqAt.shaped (dat h n v) = true := by
  unfold SeqAt.shaped
  rw [canLay_dat, Bool.true_and]
  exact decide_eq_true (Nat.le_trans (depth_dat n v) hn)
end
end PyI
namespace PyI
open PySem PySem.Spec PyProof.Rows L2
section
variable {K : PySem.W.Frag} {T : Tab} {w : World} {φ : List Addr} {H : L2.Hp} {h : Mem}
/-! ### places in lists -/
theorem nth_eq {α : Type} (xs : List α) (i : Int) : L2.atI xs i = nth xs i := by
  unfold L2.atI L2.ixN nth
  by_cases h0 : 0 ≤ i
  · rw [if_pos h0, if_pos h0]
    by_cases h1 : i < xs.length
    · rw [if_pos h1]; rfl
    · rw [if_neg h1]
      exact (List.getElem?_eq_none (by omega)).symm
  · rw [if_neg h0, if_neg h0]
    by_cases h1 : -(xs.length : Int) ≤ i
    · rw [if_pos h1, if_pos h1]; rfl
    · rw [if_neg h1, if_neg h1]; rfl
theorem ixOf_eq (n : Nat) (i : Int) : L2.ixN n i = ixOf n i := rfl
theorem RVs.nth {vs : List Val} {xs : List V} {i : Int} {v : Val} (q : RVs K T φ H vs xs) (e : nth vs i = some v) : ∃ x, L2.atI xs i = some x ∧ RV K T φ H v x := by
  rw [nth_eq]
  unfold PyI.nth at e ⊢
  rw [q.length]
  split at e
  · rename_i h0; rw [if_pos h0]; exact q.get e
  · rename_i h0
    rw [if_neg h0]
    split at e
    · rename_i h1; rw [if_pos h1]; exact q.get e
    · cases e
theorem sIx_eq (n d : Nat) (o : Option Int) : HT.sIx n d o = sIx n d o := by cases o <;> rfl
theorem RVs.cut {vs : List Val} {xs : List V} (lo hi : Option Int) (q : RVs K T φ H vs xs) : RVs K T φ H (cut vs lo hi) (cutV xs lo hi) := by
  unfold PyI.cut cutV
  rw [sIx_eq, sIx_eq, q.length]
  exact (q.drop _).take _
theorem cut_whole {α : Type} (xs : List α) (lo hi : Option Int) (h1 : sIx xs.length 0 lo = 0) (h2 : sIx xs.length xs.length hi = xs.length) : cut xs lo hi = xs := by
  unfold cut
  rw [h1, h2]; simp
/-! ### keys -/
theorem keyOf_V {v : Val} {k : PyI.Key} {x : V} (e : keyOf v = some k) (q : RV K T φ H v x) : x = kV (kT k) := by
  cases v <;> simp only [keyOf, Option.some.injEq, reduceCtorEq] at e <;> subst e <;> exact q
theorem keys_V : ∀ {vs : List Val} {ks : List PyI.Key} {xs : List V}, vs.mapM keyOf = some ks → RVs K T φ H vs xs → xs = (ks.map kT).map kV
  | [], ks, xs, e, q => by
    simp at e; subst e; rw [show xs = [] from q]; rfl
  | v :: vs, ks, xs, e, q => by
    obtain ⟨x, r, rfl, q1, q2⟩ := q
    cases hk : keyOf v with
    | none => simp [hk] at e
    | some k =>
      cases hm : vs.mapM keyOf with
      | none => simp [hk, hm] at e
      | some ms =>
        simp [hk, hm] at e; subst e
        rw [keyOf_V hk q1, keys_V hm q2]; rfl
theorem keysOf_V {v : Val} {ks : List PyI.Key} {x : V} (e : keysOf v = some ks) (q : RV K T φ H v x) : ∃ b, x = .ref b ∧ H b = some (.tup ((ks.map kT).map kV)) := by
  cases v <;> simp only [keysOf, reduceCtorEq] at e
  obtain ⟨a, vs, rfl, q1, q2⟩ := q
  rw [keys_V e q2] at q1
  exact ⟨a, rfl, q1⟩
section
variable {κ κ' : Type} [DecidableEq κ] [DecidableEq κ'] {k : κ → κ'} (inj : ∀ a b, k a = k b → a = b)
include inj
theorem RKs.val {kvs : List (κ × Val)} : ∀ {ks : List (κ' × V)} {y : κ}, RKs K T k φ H kvs ks → (∀ v, kget kvs y = some v → ∃ x, valV ks (k y) = some x ∧ RV K T φ H v x) ∧ (kget kvs y = none → valV ks (k y) = none) := by
  induction kvs with
  | nil => intro ks y q; rw [show ks = [] from q]; exact ⟨fun v e => by simp [kget] at e, fun _ => rfl⟩
  | cons p r ih =>
    intro ks y q
    obtain ⟨x, s, rfl, q1, q2⟩ := q
    by_cases e : p.1 = y
    · subst e
      have e1 : kget (p :: r) p.1 = some p.2 := by simp [kget]
      rw [e1, valV_pos (p := (k p.1, x)) rfl]
      exact ⟨fun v z => by cases z; exact ⟨x, rfl, q1⟩, fun z => by cases z⟩
    · have e1 : kget (p :: r) y = kget r y := by simp [kget, List.find?_cons, e]
      rw [e1, valV_neg (p := (k p.1, x)) fun z => e (inj _ _ z)]
      exact ih q2
theorem RKs.any {kvs : List (κ × Val)} : ∀ {ks : List (κ' × V)} {y : κ}, RKs K T k φ H kvs ks → (ks.any fun kv => decide (kv.1 = k y)) = (kvs.any fun kv => decide (kv.1 = y)) := by
  induction kvs with
  | nil => intro ks y q; rw [show ks = [] from q]; rfl
  | cons p r ih =>
    intro ks y q
    obtain ⟨x, s, rfl, q1, q2⟩ := q
    rw [List.any_cons, List.any_cons, ih q2]
    by_cases e : p.1 = y
    · subst e; simp
    · rw [decide_eq_false e, decide_eq_false fun z => e (inj _ _ z)]
theorem RKs.map_put {kvs : List (κ × Val)} {v : Val} {x : V} (qv : RV K T φ H v x) : ∀ {ks : List (κ' × V)} {y : κ}, RKs K T k φ H kvs ks →
    RKs K T k φ H (kvs.map fun kv => if kv.1 = y then (kv.1, v) else kv) (ks.map fun kv => if kv.1 = k y then (kv.1, x) else kv) := by
  induction kvs with
  | nil => intro ks y q; rw [show ks = [] from q]; rfl
  | cons p r ih =>
    intro ks y q
    obtain ⟨z, s, rfl, q1, q2⟩ := q
    rw [List.map_cons, List.map_cons]
    by_cases e : p.1 = y
    · subst e
      rw [if_pos rfl, if_pos rfl]
      exact ⟨x, _, rfl, qv, ih q2⟩
    · rw [if_neg e, if_neg (fun z => e (inj _ _ z))]
      exact ⟨z, _, rfl, q1, ih q2⟩
theorem RKs.put {kvs : List (κ × Val)} {v : Val} {x : V} (qv : RV K T φ H v x) {ks : List (κ' × V)} {y : κ} (q : RKs K T k φ H kvs ks) : RKs K T k φ H (kput kvs y v) (putK ks (k y) x) := by
  unfold kput putK
  rw [RKs.any inj q]
  split
  · exact RKs.map_put inj qv q
  · clear inj
    induction kvs generalizing ks with
    | nil => rw [show ks = [] from q]; exact ⟨x, [], rfl, qv, rfl⟩
    | cons p r ih =>
      obtain ⟨z, s, rfl, q1, q2⟩ := q
      rename_i hh
      exact ⟨z, _, rfl, q1, ih q2 (by simp only [List.any_cons, Bool.or_eq_true, not_or] at hh; exact hh.2)⟩
theorem RKs.dropK {kvs : List (κ × Val)} : ∀ {ks : List (κ' × V)} {y : κ}, RKs K T k φ H kvs ks → RKs K T k φ H (kdrop kvs y) (L2.dropK ks (k y)) := by
  induction kvs with
  | nil => intro ks y q; rw [show ks = [] from q]; rfl
  | cons p r ih =>
    intro ks y q
    obtain ⟨z, s, rfl, q1, q2⟩ := q
    unfold kdrop L2.dropK
    by_cases e : p.1 = y
    · subst e
      rw [List.filter_cons_of_neg (by simp), List.filter_cons_of_neg (by simp)]
      exact ih q2
    · rw [List.filter_cons_of_pos (by simpa using e), List.filter_cons_of_pos (by simpa using fun z => e (inj _ _ z))]
      exact ⟨z, _, rfl, q1, ih q2⟩
end
theorem kTi (a b : PyI.Key) (h : kT a = kT b) : a = b := kT_inj h
theorem kTsi (a b : List PyI.Key) (h : a.map kT = b.map kT) : a = b := map_kT_inj h
/-! ### a dict's object -/
theorem Rel.dik (R : Rel K T w φ H h) {n : Nat} {kvs : List (PyI.Key × Val)} {x : V} (r : RV K T φ H (.ref n) x) (e : h[n]? = some (.dik kvs)) : ∃ a ks, x = .ref a ∧ φ[n]? = some a ∧ H a = some (.dK ks) ∧ RKs K T kT φ H kvs ks := by
  obtain ⟨a, u, rfl, e1, q1, ks, rfl, q2⟩ := R.ref r e
  exact ⟨a, ks, rfl, e1, q1, q2⟩
theorem Rel.dikF (R : Rel K T w φ H h) {n : Nat} {kvs : List (PyI.Key × Val)} {x : V} (r : RV K T φ H (.ref n) x) (e : h[n]? = some (.frz (.dik kvs))) : ∃ a o ks, x = .ref a ∧ φ[n]? = some a ∧ H a = some (.frz o (.dK ks)) ∧ RKs K T kT φ H kvs ks := by
  obtain ⟨a, u, rfl, e1, q1, o, v, rfl, ks, rfl, q2⟩ := R.ref r e
  exact ⟨a, o, ks, rfl, e1, q1, q2⟩
theorem Rel.dit (R : Rel K T w φ H h) {n : Nat} {kvs : List (List PyI.Key × Val)} {x : V} (r : RV K T φ H (.ref n) x) (e : h[n]? = some (.dit kvs)) : ∃ a ks, x = .ref a ∧ φ[n]? = some a ∧ H a = some (.dT ks) ∧ RKs K T (List.map kT) φ H kvs ks := by
  obtain ⟨a, u, rfl, e1, q1, ks, rfl, q2⟩ := R.ref r e
  exact ⟨a, ks, rfl, e1, q1, q2⟩
theorem Rel.ditF (R : Rel K T w φ H h) {n : Nat} {kvs : List (List PyI.Key × Val)} {x : V} (r : RV K T φ H (.ref n) x) (e : h[n]? = some (.frz (.dit kvs))) : ∃ a o ks, x = .ref a ∧ φ[n]? = some a ∧ H a = some (.frz o (.dT ks)) ∧ RKs K T (List.map kT) φ H kvs ks := by
  obtain ⟨a, u, rfl, e1, q1, o, v, rfl, ks, rfl, q2⟩ := R.ref r e
  exact ⟨a, o, ks, rfl, e1, q1, q2⟩
theorem Rel.lst (R : Rel K T w φ H h) {n : Nat} {xs : List Val} {x : V} (r : RV K T φ H (.ref n) x) (e : h[n]? = some (.lst xs)) : ∃ a vs, x = .ref a ∧ φ[n]? = some a ∧ H a = some (.lst vs) ∧ RVs K T φ H xs vs := by
  obtain ⟨a, u, rfl, e1, q1, vs, rfl, q2⟩ := R.ref r e
  exact ⟨a, vs, rfl, e1, q1, q2⟩
/-- what d[k] reads -/
def dgetV (h : Mem) (n : Nat) (k : Val) : Option (Option Val) := match h[n]? with
  | some (.dik kvs) => (keyOf k).map (kget kvs)
  | some (.frz (.dik kvs)) => (keyOf k).map (kget kvs)
  | some (.dit kvs) => (keysOf k).map (kget kvs)
  | some (.frz (.dit kvs)) => (keysOf k).map (kget kvs)
  | _ => none
theorem Rel.dget (R : Rel K T w φ H h) {n : Nat} {k : Val} {x y : V} {o : Option Val} (r : RV K T φ H (.ref n) x) (q : RV K T φ H k y) (e : dgetV h n k = some o) :
    ∃ a p, x = .ref a ∧ DGet H a y p ∧ (∀ v, o = some v → ∃ z, p = some z ∧ RV K T φ H v z) ∧ (o = none → p = none) := by
  unfold dgetV at e
  split at e
  · rename_i kvs he
    obtain ⟨a, ks, rfl, e1, q1, q2⟩ := R.dik r he
    cases hk : keyOf k with
    | none => simp [hk] at e
    | some k' =>
      simp [hk] at e
      have := RKs.val (y := k') kTi q2
      rw [e] at this
      exact ⟨a, _, rfl, .inl ⟨ks, kT k', .inl q1, keyOf_V hk q, rfl⟩, this.1, this.2⟩
  · rename_i kvs he
    obtain ⟨a, ob, ks, rfl, e1, q1, q2⟩ := R.dikF r he
    cases hk : keyOf k with
    | none => simp [hk] at e
    | some k' =>
      simp [hk] at e
      have := RKs.val (y := k') kTi q2
      rw [e] at this
      exact ⟨a, _, rfl, .inl ⟨ks, kT k', .inr ⟨ob, q1⟩, keyOf_V hk q, rfl⟩, this.1, this.2⟩
  · rename_i kvs he
    obtain ⟨a, ks, rfl, e1, q1, q2⟩ := R.dit r he
    cases hk : keysOf k with
    | none => simp [hk] at e
    | some k' =>
      simp [hk] at e
      have := RKs.val (y := k') kTsi q2
      rw [e] at this
      obtain ⟨b, rfl, hb⟩ := keysOf_V hk q
      exact ⟨a, _, rfl, .inr ⟨ks, k'.map kT, b, .inl q1, rfl, hb, rfl⟩, this.1, this.2⟩
  · rename_i kvs he
    obtain ⟨a, ob, ks, rfl, e1, q1, q2⟩ := R.ditF r he
    cases hk : keysOf k with
    | none => simp [hk] at e
    | some k' =>
      simp [hk] at e
      have := RKs.val (y := k') kTsi q2
      rw [e] at this
      obtain ⟨b, rfl, hb⟩ := keysOf_V hk q
      exact ⟨a, _, rfl, .inr ⟨ks, k'.map kT, b, .inr ⟨ob, q1⟩, rfl, hb, rfl⟩, this.1, this.2⟩
  · cases e
end
/-! ### operators -/
/-- two values, an operation -/
def rV2 (K : PySem.W.Frag) (T : Tab) (w : World) (f : Val → Val → Mem → Res Val) : R2 := fun x y H Q =>
  ∃ E v u φ h, Rel K T w φ H h ∧ RV K T φ H v x ∧ RV K T φ H u y ∧ okR K T w (RV K T) φ H Q E (f v u h)
section
variable {X : Cx} {T : Tab} {φ : List Addr} {H : L2.Hp} {h : Mem} {Q : VK} {E : Nat → L2.Hp → Prop}
/-- a new object's answer -/
theorem okR.new {ob : Ob} {o : HO} {K : PySem.W.Frag} {w : World} (q : okR K T w (RV K T) φ H Q E (PyI.new h ob)) (R : Rel K T w φ H h) (ro : ∀ ψ G a, Ext φ H ψ G → ROb K T w ψ G a ob o) : ∀ p, H p = none → Q (.ref p) (upd H p o) := fun p hp =>
  q (φ ++ [p]) (upd H p o) (.ref p) (ext_new hp) (R.new hp (ro _ _ _ (ext_new hp))) R.new_ref
theorem okR.newT {vs : List Val} {xs : List V} {K : PySem.W.Frag} {w : World} (q : okR K T w (RV K T) φ H Q E (.ok (.tup vs) h)) (R : Rel K T w φ H h) (r : RVs K T φ H vs xs) : ∀ p, H p = none → Q (.ref p) (upd H p (.tup xs)) := fun p hp =>
  q φ (upd H p (.tup xs)) (.ref p) (ext_tup hp) (R.tup hp) ⟨p, xs, rfl, upd_same, r.mono (ext_tup hp) _ _⟩
theorem szl_eq : szl = sizeLine := rfl
theorem small_ok {i : Int} (e : small i = true) : -(2 ^ 64) < i ∧ i < 2 ^ 64 := of_decide_eq_true ((small_eq i).symm.trans e)
theorem flatten_rep {vs : List Val} {xs : List V} {K : PySem.W.Frag} (q : RVs K T φ H vs xs) : ∀ n, RVs K T φ H (List.replicate n vs).flatten (List.replicate n xs).flatten
  | 0 => rfl
  | n + 1 => by
    rw [List.replicate_succ, List.replicate_succ, List.flatten_cons, List.flatten_cons]
    exact q.append (flatten_rep q n)
theorem add_ok : OpR X (binaryOp .Add) (rV2 X.K T X.w (binV .add)) := by
  intro pins s σ H x y xv yv Q I rx ry ⟨E, v, u, φ, h, R, q1, q2, o⟩
  cases v <;> cases u <;> simp only [binV] at o <;> try exact False.elim o
  · rw [show x = _ from q1] at rx; rw [show y = _ from q2] at ry
    exact op_add pins s σ H _ _ _ _ Q I rx ry ⟨_, _, rfl, rfl, o.ok R rfl⟩
  · rw [show x = _ from q1] at rx; rw [show y = _ from q2] at ry
    split at o
    · rename_i hl
      exact op_add_str pins s σ H _ _ _ _ Q I rx ry ⟨_, _, rfl, rfl, by rw [toStr_length, toStr_length]; exact hl, by rw [toStr_append]; exact o.ok R rfl⟩
    · exact False.elim o
  · rename_i xs ys
    obtain ⟨a, vs, rfl, p1, p2⟩ := id q1
    obtain ⟨b, us, rfl, r1, r2⟩ := id q2
    split at o
    · rename_i hl
      refine op_catA pins s σ H _ _ _ _ Q I rx ry ⟨a, b, vs, us, rfl, rfl, .of p1, .of r1, by rw [p2.length, r2.length]; exact hl, fun e => ?_, fun _ e => ?_, fun _ _ => o.newT R (p2.append r2)⟩
      · have : xs = [] := by have := p2.length; rw [e] at this; simpa using this.symm
        subst this
        exact o.ok R q2
      · have : ys = [] := by have := r2.length; rw [e] at this; simpa using this.symm
        subst this
        rw [List.append_nil] at o
        exact o.ok R q1
    · exact False.elim o
  · split at o
    · rename_i xs ys ha hb
      obtain ⟨a, vs, rfl, p0, p1, p2⟩ := R.lst q1 ha
      obtain ⟨b, us, rfl, r0, r1, r2⟩ := R.lst q2 hb
      split at o
      · rename_i hl
        exact op_cat pins s σ H _ _ _ _ Q I rx ry ⟨a, b, vs, us, rfl, rfl, p1, r1, by rw [p2.length, r2.length]; exact hl, o.new R fun ψ G _ e => ⟨_, rfl, (p2.append r2).mono e _ _⟩⟩
      · exact False.elim o
    · exact False.elim o
theorem sub_ok : OpR X (binaryOp .Sub) (rV2 X.K T X.w (binV .sub)) := by
  intro pins s σ H x y xv yv Q I rx ry ⟨E, v, u, φ, h, R, q1, q2, o⟩
  cases v <;> cases u <;> simp only [binV] at o <;> try exact False.elim o
  rw [show x = _ from q1] at rx; rw [show y = _ from q2] at ry
  exact op_sub pins s σ H _ _ _ _ Q I rx ry ⟨_, _, rfl, rfl, o.ok R rfl⟩
theorem mul_ok : OpR X (binaryOp .Mult) (rV2 X.K T X.w (binV .mul)) := by
  intro pins s σ H x y xv yv Q I rx ry ⟨E, v, u, φ, h, R, q1, q2, o⟩
  cases v <;> cases u <;> simp only [binV] at o <;> try exact False.elim o
  · rw [show x = _ from q1] at rx; rw [show y = _ from q2] at ry
    split at o
    · rename_i i j hs
      refine op_mul pins s σ H _ _ _ _ Q I rx ry ⟨_, _, rfl, rfl, ?_, o.ok R rfl⟩
      rcases Bool.or_eq_true_iff.mp hs with hs | hs
      · exact .inl (small_ok hs)
      · exact .inr (small_ok hs)
    · exact False.elim o
  · split at o
    · rename_i i xs ha
      obtain ⟨a, vs, rfl, p0, p1, p2⟩ := R.lst q1 ha
      rw [show y = _ from q2] at ry
      split at o
      · rename_i hl
        simp only [Bool.and_eq_true, decide_eq_true_eq] at hl
        refine op_rep pins s σ H _ _ _ _ Q I rx ry ⟨a, _, vs, rfl, rfl, p1, by omega, by omega, by rw [p2.length]; exact hl.2, o.new R fun ψ G _ e => ⟨_, rfl, (flatten_rep p2 _).mono e _ _⟩⟩
      · exact False.elim o
    · exact False.elim o
theorem div_ok : OpR X (binaryOp .FloorDiv) (rV2 X.K T X.w (binV .div)) := by
  intro pins s σ H x y xv yv Q I rx ry ⟨E, v, u, φ, h, R, q1, q2, o⟩
  cases v <;> cases u <;> simp only [binV] at o <;> try exact False.elim o
  rw [show x = _ from q1] at rx; rw [show y = _ from q2] at ry
  split at o
  · rename_i hs
    exact op_fdiv pins s σ H _ _ _ _ Q I rx ry ⟨_, _, rfl, rfl, hs, o.ok R rfl⟩
  · exact False.elim o
theorem mod_ok : OpR X (binaryOp .Mod) (rV2 X.K T X.w (binV .mod)) := by
  intro pins s σ H x y xv yv Q I rx ry ⟨E, v, u, φ, h, R, q1, q2, o⟩
  cases v <;> cases u <;> simp only [binV] at o <;> try exact False.elim o
  rw [show x = _ from q1] at rx; rw [show y = _ from q2] at ry
  split at o
  · rename_i hs
    exact op_mod pins s σ H _ _ _ _ Q I rx ry ⟨_, _, rfl, rfl, hs, o.ok R rfl⟩
  · exact False.elim o
theorem pow_ok : OpR X (binaryOp .Pow) (rV2 X.K T X.w (binV .pow)) := by
  intro pins s σ H x y xv yv Q I rx ry ⟨E, v, u, φ, h, R, q1, q2, o⟩
  cases v <;> cases u <;> simp only [binV] at o <;> try exact False.elim o
  rw [show x = _ from q1] at rx; rw [show y = _ from q2] at ry
  split at o
  · rename_i i j hs
    simp only [Bool.and_eq_true, decide_eq_true_eq] at hs
    have := small_ok hs.1.1
    exact op_pow pins s σ H _ _ _ _ Q I rx ry ⟨_, _, rfl, rfl, ⟨hs.1.2, hs.2, by omega⟩, o.ok R rfl⟩
  · exact False.elim o
def bopOf : Bop → Operator
  | .add => .Add | .sub => .Sub | .mul => .Mult | .div => .FloorDiv | .mod => .Mod | .pow => .Pow
theorem bin_ok (o : Bop) : OpR X (binaryOp (bopOf o)) (rV2 X.K T X.w (binV o)) := by
  cases o
  · exact add_ok
  · exact sub_ok
  · exact mul_ok
  · exact div_ok
  · exact mod_ok
  · exact pow_ok
/-! ### comparisons -/
def rCm (K : PySem.W.Frag) (T : Tab) (w : World) (o : Cop) : R2 := fun x y H Q =>
  ∃ v u φ h b, Rel K T w φ H h ∧ RV K T φ H v x ∧ RV K T φ H u y ∧ cmpV h o v u = some b ∧ Q (.bl b) H
theorem flatB_lt {a b : Txt} : decide ((toStr a).cps.toList < (toStr b).cps.toList) = strLt a b := by
  unfold strLt toStr; simp
theorem eqV_cases {v u : Val} {b : Bool} (e : eqV h v u = some b) : (∃ i j, v = .int i ∧ u = .int j ∧ b = decide (i = j)) ∨ (∃ i j, v = .str i ∧ u = .str j ∧ b = decide (i = j)) ∨
    (∃ a c ks ls, v = .ref a ∧ u = .ref c ∧ h[a]? = some (.dik ks) ∧ h[c]? = some (.dik ls) ∧ ks.length = ls.length ∧ (∀ p ∈ ks, ∃ y, kget ls p.1 = some y ∧ ((∃ i, p.2 = .int i ∧ y = .int i) ∨ ∃ i, p.2 = .str i ∧ y = .str i)) ∧ b = true) ∨
    (isD h 60 v = true ∧ isD h 60 u = true ∧ b = eqB h 60 v u) := by
  have dd : ∀ {v u : Val}, (if (isD h 60 v && isD h 60 u) = true then some (eqB h 60 v u) else none) = some b → isD h 60 v = true ∧ isD h 60 u = true ∧ b = eqB h 60 v u := fun {v u} e => by
    split at e
    · rename_i hd
      cases e
      exact ⟨(Bool.and_eq_true_iff.mp hd).1, (Bool.and_eq_true_iff.mp hd).2, rfl⟩
    · cases e
  unfold eqV at e
  split at e
  · cases e; exact .inl ⟨_, _, rfl, rfl, rfl⟩
  · cases e; exact .inr (.inl ⟨_, _, rfl, rfl, rfl⟩)
  · rename_i a c
    split at e
    · rename_i ks ls ha hc
      split at e
      · rename_i hh
        cases e
        refine .inr (.inr (.inl ⟨a, c, ks, ls, rfl, rfl, ha, hc, hh.1, fun p hp => ?_, rfl⟩))
        have := List.all_eq_true.mp hh.2 p hp
        split at this
        · rename_i i hi
          split at this
          · rename_i j hj
            have : i = j := by simpa using this
            subst this
            exact ⟨_, hi, .inl ⟨i, hj, rfl⟩⟩
          · cases this
        · rename_i i hi
          split at this
          · rename_i j hj
            have : i = j := by simpa using this
            subst this
            exact ⟨_, hi, .inr ⟨i, hj, rfl⟩⟩
          · cases this
        · cases this
      · cases e
    · exact .inr (.inr (.inr (dd e)))
  · exact .inr (.inr (.inr (dd e)))
theorem RKs.mem {κ κ' : Type} {k : κ → κ'} {K : PySem.W.Frag} : ∀ {kvs : List (κ × Val)} {ks : List (κ' × V)} {p : κ' × V}, RKs K T k φ H kvs ks → p ∈ ks → ∃ q ∈ kvs, p.1 = k q.1 ∧ RV K T φ H q.2 p.2
  | [], ks, p, q, hp => by rw [show ks = [] from q] at hp; cases hp
  | c :: r, ks, p, q, hp => by
    obtain ⟨x, s, rfl, q1, q2⟩ := q
    rcases List.mem_cons.mp hp with rfl | hp
    · exact ⟨c, by simp, rfl, q1⟩
    · obtain ⟨d, hd, z⟩ := RKs.mem q2 hp
      exact ⟨d, by simp [hd], z⟩
theorem dict_eq_facts {K : PySem.W.Frag} {ks ls : List (PyI.Key × Val)} {kx ly : List (L2.Key × V)} (q1 : RKs K T kT φ H ks kx) (q2 : RKs K T kT φ H ls ly)
    (hp : ∀ p ∈ ks, ∃ y, kget ls p.1 = some y ∧ ((∃ i, p.2 = .int i ∧ y = .int i) ∨ ∃ i, p.2 = .str i ∧ y = .str i)) : ∀ p ∈ kx, valV ly p.1 = some p.2 ∧ flatB p.2 = true := fun p hm => by
  obtain ⟨q, hq, e1, r⟩ := RKs.mem q1 hm
  obtain ⟨y, hy, hh⟩ := hp q hq
  obtain ⟨z, hz, rz⟩ := (RKs.val kTi q2).1 y hy
  rw [e1, hz]
  rcases hh with ⟨i, e2, e3⟩ | ⟨i, e2, e3⟩
  · rw [e2] at r; rw [e3] at rz
    rw [show z = _ from rz, show p.2 = _ from r]; exact ⟨rfl, rfl⟩
  · rw [e2] at r; rw [e3] at rz
    rw [show z = _ from rz, show p.2 = _ from r]; exact ⟨rfl, rfl⟩
theorem eq_ok (hu : X.A.units + 64 < cLine) : OpR X (compareOp .Eq) (rCm X.K T X.w .eq) := by
  intro pins s σ H x y xv yv Q I rx ry ⟨v, u, φ, h, b, R, q1, q2, e, q⟩
  rcases eqV_cases e with ⟨i, j, rfl, rfl, rfl⟩ | ⟨i, j, rfl, rfl, rfl⟩ | ⟨a, c, ks, ls, rfl, rfl, ha, hc, hl, hp, rfl⟩ | ⟨d1, d2, rfl⟩
  · rw [show x = _ from q1] at rx; rw [show y = _ from q2] at ry
    exact op_eq pins s σ H _ _ _ _ Q I rx ry ⟨rfl, by rw [dec_int, Bool.beq_eq_decide_eq]; exact q⟩
  · rw [show x = _ from q1] at rx; rw [show y = _ from q2] at ry
    exact op_eq pins s σ H _ _ _ _ Q I rx ry ⟨rfl, by rw [dec_str, toStr_beq, Bool.beq_eq_decide_eq]; exact q⟩
  · obtain ⟨a', kx, rfl, _, p1, p2⟩ := R.dik q1 ha
    obtain ⟨c', ly, rfl, _, r1, r2⟩ := R.dik q2 hc
    exact op_eq_dictA (by omega) pins s σ H _ _ _ _ Q I rx ry ⟨a', c', kx, ly, rfl, rfl, p1, r1, by rw [p2.length, r2.length]; exact hl, dict_eq_facts p2 r2 hp, q⟩
  · exact op_eqD hu pins s σ H _ _ _ _ Q I rx ry ⟨_, _, dp_of R 60 v x d1 q1, dp_of R 60 u y d2 q2, shaped_dat (by omega) v, shaped_dat (by omega) u, by rw [eqv_dat 60 v u d1 d2]; exact q⟩
theorem ne_ok (hu : X.A.units + 64 < cLine) : OpR X (compareOp .NotEq) (rCm X.K T X.w .ne) := by
  intro pins s σ H x y xv yv Q I rx ry ⟨v, u, φ, h, b, R, q1, q2, e, q⟩
  obtain ⟨b, e1, rfl⟩ : ∃ c, eqV h v u = some c ∧ b = !c := by
    cases hh : eqV h v u with
    | none => simp [cmpV, hh] at e
    | some c => simp [cmpV, hh] at e; exact ⟨c, rfl, by rw [e, Bool.not_not]⟩
  rcases eqV_cases e1 with ⟨i, j, rfl, rfl, rfl⟩ | ⟨i, j, rfl, rfl, rfl⟩ | ⟨a, c, ks, ls, rfl, rfl, ha, hc, hl, hp, rfl⟩ | ⟨d1, d2, rfl⟩
  · rw [show x = _ from q1] at rx; rw [show y = _ from q2] at ry
    exact op_ne pins s σ H _ _ _ _ Q I rx ry ⟨rfl, by rw [dec_int, Bool.beq_eq_decide_eq]; exact q⟩
  · rw [show x = _ from q1] at rx; rw [show y = _ from q2] at ry
    exact op_ne pins s σ H _ _ _ _ Q I rx ry ⟨rfl, by rw [dec_str, toStr_beq, Bool.beq_eq_decide_eq]; exact q⟩
  · obtain ⟨a', kx, rfl, _, p1, p2⟩ := R.dik q1 ha
    obtain ⟨c', ly, rfl, _, r1, r2⟩ := R.dik q2 hc
    exact op_ne_dictA (by omega) pins s σ H _ _ _ _ Q I rx ry ⟨a', c', kx, ly, rfl, rfl, p1, r1, by rw [p2.length, r2.length]; exact hl, dict_eq_facts p2 r2 hp, q⟩
  · exact op_neD hu pins s σ H _ _ _ _ Q I rx ry ⟨_, _, dp_of R 60 v x d1 q1, dp_of R 60 u y d2 q2, shaped_dat (by omega) v, shaped_dat (by omega) u, by rw [eqv_dat 60 v u d1 d2]; exact q⟩
end
end PyI
namespace PyI
open PySem PySem.Spec PyProof.Rows L2
section
variable {X : Cx} {T : Tab} {φ : List Addr} {H : L2.Hp} {h : Mem} {Q : VK} {E : Nat → L2.Hp → Prop}
/-! ### order -/
theorem lexAt_lt : ∀ (k i : Nat) (ns ms : List Int), i + k = min ns.length ms.length →
    Ob.lexAt (fun j => decide (ns.getD j 0 = ms.getD j 0)) (fun j => decide (ms.getD j 0 < ns.getD j 0)) (decide (ns.length > ms.length)) i k = lexLt (ms.drop i) (ns.drop i)
  | 0, i, ns, ms, hk => by
    rw [Ob.lexAt_zero]
    by_cases h1 : ns.length ≤ i
    · rw [List.drop_of_length_le h1]
      by_cases h2 : ms.length ≤ i
      · rw [List.drop_of_length_le h2]; simp [lexLt]; omega
      · rw [List.drop_eq_getElem_cons (by omega)]; simp [lexLt]; omega
    · have h2 : ms.length ≤ i := by omega
      rw [List.drop_of_length_le h2, List.drop_eq_getElem_cons (by omega)]; simp [lexLt]; omega
  | k + 1, i, ns, ms, hk => by
    have h1 : i < ns.length := by omega
    have h2 : i < ms.length := by omega
    rw [Ob.lexAt_succ, List.drop_eq_getElem_cons h1, List.drop_eq_getElem_cons h2]
    have g1 : ns.getD i 0 = ns[i] := by simp [h1]
    have g2 : ms.getD i 0 = ms[i] := by simp [h2]
    simp only [g1, g2, lexLt]
    by_cases e : ns[i] = ms[i]
    · rw [if_pos (by simp [e]), if_pos e.symm]
      exact lexAt_lt k (i + 1) ns ms (by omega)
    · rw [if_neg (by simp [e]), if_neg (fun z => e z.symm)]
theorem op_gtT (hu : X.A.units < cLine) : OpR X (compareOp .Gt) (fun x y H Q => ∃ (a b : Addr) (ns ms : List Int), x = .ref a ∧ y = .ref b ∧ SqT X.K H a (ns.map V.int) ∧ SqT X.K H b (ms.map V.int) ∧ Q (.bl (lexLt ms ns)) H) := by
  intro pins s σ H x y v u Q I rx ry h
  obtain ⟨a, b, ns, ms, rfl, rfl, ha, hb, q⟩ := h
  cases rx
  cases ry
  obtain ⟨its, r1, p1, _⟩ := I.tuple ha
  obtain ⟨its2, r2, p2, _⟩ := I.tuple hb
  have i1 : IntsAre its ns := Vals.ints r1
  have i2 : IntsAre its2 ms := Vals.ints r2
  have e1 : its.toArray.size = ns.length := by rw [List.size_toArray]; exact i1.length
  have e2 : its2.toArray.size = ms.length := by rw [List.size_toArray]; exact i2.length
  have at1 : ∀ j (h1 : j < its.toArray.size), ∃ t, its.toArray[j] = .int (ns.getD j 0) t := fun j h1 => PyProof.Rows.IntsAre.int_at i1 _ _ (by simp at h1; simp [h1])
  have at2 : ∀ j (h1 : j < its2.toArray.size), ∃ t, its2.toArray[j] = .int (ms.getD j 0) t := fun j h1 => PyProof.Rows.IntsAre.int_at i2 _ _ (by simp at h1; simp [h1])
  have R := Ob.RcOp.tuples_gt (A := X.A) (s := s) (e := fun j => decide (ns.getD j 0 = ms.getD j 0)) (r := fun j => decide (ms.getD j 0 < ns.getD j 0)) p1 p2 hu (fun j h1 h2 => by
    obtain ⟨t, et⟩ := at1 j h1
    obtain ⟨t', et'⟩ := at2 j h2
    rw [et, et']
    have z : (ns.getD j 0 == ms.getD j 0) = decide (ns.getD j 0 = ms.getD j 0) := Bool.beq_eq_decide_eq _ _
    rw [← z]
    exact SeqAt.EqAt.int_int _ _ _ _) (fun j h1 h2 _ => by
    obtain ⟨t, et⟩ := at1 j h1
    obtain ⟨t', et'⟩ := at2 j h2
    rw [et, et']
    exact Ob.RcOp.gt_int _ _ _ _)
  rw [e1, e2, lexAt_lt (min ns.length ms.length) 0 ns ms (by omega)] at R
  exact R X.prog X.w X.xe _ ⟨.bl _, H, I, rfl, q⟩
theorem lt_ok : OpR X (compareOp .Lt) (rCm X.K T X.w .lt) := by
  intro pins s σ H x y xv yv Q I rx ry ⟨v, u, φ, h, b, R, q1, q2, e, q⟩
  cases v <;> cases u <;> simp only [cmpV, reduceCtorEq, Option.some.injEq] at e <;> subst e <;> rw [show x = _ from q1] at rx <;> rw [show y = _ from q2] at ry
  · exact op_lt pins s σ H _ _ _ _ Q I rx ry ⟨_, _, rfl, rfl, q⟩
  · exact op_lt_str pins s σ H _ _ _ _ Q I rx ry ⟨_, _, rfl, rfl, by rw [flatB_lt]; exact q⟩
theorem le_ok : OpR X (compareOp .LtE) (rCm X.K T X.w .le) := by
  intro pins s σ H x y xv yv Q I rx ry ⟨v, u, φ, h, b, R, q1, q2, e, q⟩
  cases v <;> cases u <;> simp only [cmpV, reduceCtorEq, Option.some.injEq] at e <;> subst e <;> rw [show x = _ from q1] at rx <;> rw [show y = _ from q2] at ry
  · exact op_le pins s σ H _ _ _ _ Q I rx ry ⟨_, _, rfl, rfl, q⟩
  · exact op_le_str pins s σ H _ _ _ _ Q I rx ry ⟨_, _, rfl, rfl, by rw [flatB_lt]; exact q⟩
theorem ge_ok : OpR X (compareOp .GtE) (rCm X.K T X.w .ge) := by
  intro pins s σ H x y xv yv Q I rx ry ⟨v, u, φ, h, b, R, q1, q2, e, q⟩
  cases v <;> cases u <;> simp only [cmpV, reduceCtorEq, Option.some.injEq] at e <;> subst e <;> rw [show x = _ from q1] at rx <;> rw [show y = _ from q2] at ry
  · exact op_ge pins s σ H _ _ _ _ Q I rx ry ⟨_, _, rfl, rfl, q⟩
  · exact op_ge_str pins s σ H _ _ _ _ Q I rx ry ⟨_, _, rfl, rfl, by rw [flatB_lt]; exact q⟩
theorem gt_ok (hu : X.A.units < cLine) : OpR X (compareOp .Gt) (rCm X.K T X.w .gt) := by
  intro pins s σ H x y xv yv Q I rx ry ⟨v, u, φ, h, b, R, q1, q2, e, q⟩
  cases v <;> cases u <;> simp only [cmpV, reduceCtorEq, Option.some.injEq] at e
  · subst e; rw [show x = _ from q1] at rx; rw [show y = _ from q2] at ry
    exact op_gt pins s σ H _ _ _ _ Q I rx ry ⟨_, _, rfl, rfl, q⟩
  · subst e; rw [show x = _ from q1] at rx; rw [show y = _ from q2] at ry
    exact op_gt_str pins s σ H _ _ _ _ Q I rx ry ⟨_, _, rfl, rfl, by rw [flatB_lt]; exact q⟩
  · rename_i xs ys
    split at e
    · rename_i ns ms e1 e2
      cases e
      obtain ⟨a, vs, rfl, p1, p2⟩ := q1
      obtain ⟨c, us, rfl, r1, r2⟩ := q2
      rw [p2.ints e1] at p1
      rw [r2.ints e2] at r1
      exact op_gtT hu pins s σ H _ _ _ _ Q I rx ry ⟨a, c, ns, ms, rfl, rfl, .of p1, .of r1, q⟩
    · cases e
/-! ### in -/
theorem flat_V {K : PySem.W.Frag} {v : Val} {x : V} (f : flat v = true) (q : RV K T φ H v x) : flatV x = true := by
  cases v <;> simp only [flat, reduceCtorEq, Bool.false_eq_true] at f <;> rw [show x = _ from q] <;> rfl
theorem flats_V {K : PySem.W.Frag} : ∀ {vs : List Val} {xs : List V}, vs.all flat = true → RVs K T φ H vs xs → xs.all flatV = true
  | [], _, _, q => by rw [show _ = [] from q]; rfl
  | v :: vs, xs, f, q => by
    obtain ⟨x, r, rfl, q1, q2⟩ := q
    simp only [List.all_cons, Bool.and_eq_true] at f ⊢
    exact ⟨flat_V f.1 q1, flats_V f.2 q2⟩
theorem eqFlat {K : PySem.W.Frag} {v u : Val} {x y : V} (f : flat v = true) (g : flat u = true) (q : RV K T φ H v x) (r : RV K T φ H u y) : L2.eqV x y = eqB h 1 v u := by
  cases v <;> simp only [flat, reduceCtorEq, Bool.false_eq_true] at f <;> cases u <;> simp only [flat, reduceCtorEq, Bool.false_eq_true] at g <;> rw [show x = _ from q, show y = _ from r] <;> simp [L2.eqV, eqB, b2i, toStr_beq]
theorem inV_any {K : PySem.W.Frag} {v : Val} {x : V} (f : flat v = true) (q : RV K T φ H v x) : ∀ {vs : List Val} {xs : List V}, vs.all flat = true → RVs K T φ H vs xs → L2.inV x xs = vs.any fun z => eqB h 1 z v
  | [], _, _, r => by rw [show _ = [] from r]; rfl
  | u :: us, xs, g, r => by
    obtain ⟨y, s, rfl, q1, q2⟩ := r
    simp only [List.all_cons, Bool.and_eq_true] at g
    have ih := inV_any f q g.2 q2
    unfold L2.inV at ih ⊢
    rw [List.any_cons, List.any_cons, ih, eqFlat g.1 f q1 q]
theorem any_eqv {v : Val} {n : Nat} (d : isD h n v = true) : ∀ (ys : List Val), ys.all (isD h n) = true → ((ys.map (dat h n)).any fun z => PyData.eqv z (dat h n v)) = ys.any fun z => eqB h n z v
  | [], _ => rfl
  | y :: ys, g => by
    simp only [List.all_cons, Bool.and_eq_true] at g
    rw [List.map_cons, List.any_cons, List.any_cons, any_eqv d ys g.2, eqv_dat n y v g.1 d]
theorem in_cases {K : PySem.W.Frag} {w : World} (R : Rel K T w φ H h) {v u : Val} {x y : V} {b : Bool} (q1 : RV K T φ H v x) (q2 : RV K T φ H u y) (e : inV h v u = some b) :
    (∃ s t, v = .str [s] ∧ u = .str t ∧ b = decide (s ∈ t)) ∨ (∃ p xs, y = .ref p ∧ (SqL K H p xs ∨ SqT K H p xs) ∧ flatV x = true ∧ xs.all flatV = true ∧ L2.inV x xs = b) ∨
      (∃ d ds, Dp K H x d ∧ Dp K H y (.list ds) ∧ SeqAt.shaped d = true ∧ SeqAt.shaped (.list ds) = true ∧ (ds.any fun z => PyData.eqv z d) = b) ∨ (∃ a o, y = .ref a ∧ DGet H a x o ∧ o.isSome = b) := by
  have tupc : ∀ {a : Addr} {vs : List V} {ys : List Val}, y = .ref a → SqT K H a vs → RVs K T φ H ys vs → (if (flat v && ys.all flat) = true then some (ys.any fun z => eqB h 1 z v) else none) = some b →
      (∃ p xs, y = .ref p ∧ (SqL K H p xs ∨ SqT K H p xs) ∧ flatV x = true ∧ xs.all flatV = true ∧ L2.inV x xs = b) := fun {a vs ys} e1 p1 p2 e => by
    split at e
    · rename_i f
      simp only [Bool.and_eq_true] at f
      cases e
      exact ⟨a, vs, e1, .inr p1, flat_V f.1 q1, flats_V f.2 p2, inV_any f.1 q1 f.2 p2⟩
    · cases e
  have lstc : ∀ {a : Addr} {vs : List V} {ys : List Val}, y = .ref a → SqL K H a vs → RVs K T φ H ys vs → (if (isD h 59 v && ys.all (isD h 59)) = true then some (ys.any fun z => eqB h 59 z v) else none) = some b →
      (∃ d ds, Dp K H x d ∧ Dp K H y (.list ds) ∧ SeqAt.shaped d = true ∧ SeqAt.shaped (.list ds) = true ∧ (ds.any fun z => PyData.eqv z d) = b) := fun {a vs ys} e1 p1 p2 e => by
    split at e
    · rename_i f
      simp only [Bool.and_eq_true] at f
      cases e
      refine ⟨dat h 59 v, ys.map (dat h 59), dp_of R 59 v x f.1 q1, e1 ▸ .lst p1 (dps (dp_of R 59) f.2 p2), shaped_dat (by omega) v, ?_, any_eqv f.1 ys f.2⟩
      have h1 : PyData.canLay0 (.list (ys.map (dat h 59))) = true := by simpa only [PyData.canLay0] using canLayAll_map ys fun x _ => canLay_dat 59 x
      have h2 := depthAll_map ys fun x _ => depth_dat (h := h) 59 x
      have h3 : PyData.depth (.list (ys.map (dat h 59))) ≤ 64 := by simp only [PyData.depth]; omega
      unfold SeqAt.shaped
      rw [h1, decide_eq_true h3]; rfl
    · cases e
  cases u <;> simp only [inV, reduceCtorEq] at e
  · split at e
    · cases e; exact .inl ⟨_, _, rfl, rfl, rfl⟩
    · cases e
  · obtain ⟨a, vs, e1, p1, p2⟩ := q2
    exact .inr (.inl (tupc e1 (.of p1) p2 e))
  · rename_i n
    split at e
    · rename_i ys he
      obtain ⟨a, vs, e1, _, p1, p2⟩ := R.lst q2 he
      exact .inr (.inr (.inl (lstc e1 (.of p1) p2 e)))
    · rename_i ys he
      obtain ⟨a, vs, e1, _, p1, p2⟩ := R.lstA q2 (show lstA h n = some ys by unfold lstA; rw [he]; rfl)
      exact .inr (.inr (.inl (lstc e1 p1 p2 e)))
    · rename_i kvs he
      cases hk : keyOf v with
      | none => simp [hk] at e
      | some k =>
        obtain ⟨a, p, e1, g, g1, g2⟩ := R.dget (k := v) (o := kget kvs k) q2 q1 (by unfold dgetV; rw [he]; simp [hk])
        simp [hk] at e
        refine .inr (.inr (.inr ⟨a, p, e1, g, ?_⟩))
        cases hg : kget kvs k with
        | none => rw [hg] at e; rw [g2 hg]; exact e
        | some z => rw [hg] at e; obtain ⟨z', e3, _⟩ := g1 z hg; rw [e3]; exact e
    · rename_i kvs he
      cases hk : keysOf v with
      | none => simp [hk] at e
      | some k =>
        obtain ⟨a, p, e1, g, g1, g2⟩ := R.dget (k := v) (o := kget kvs k) q2 q1 (by unfold dgetV; rw [he]; simp [hk])
        simp [hk] at e
        refine .inr (.inr (.inr ⟨a, p, e1, g, ?_⟩))
        cases hg : kget kvs k with
        | none => rw [hg] at e; rw [g2 hg]; exact e
        | some z => rw [hg] at e; obtain ⟨z', e3, _⟩ := g1 z hg; rw [e3]; exact e
    · rename_i xs he
      obtain ⟨a, u, _, _, _, q⟩ := R.ref q2 he
      exact q.elim
    · cases e
  · obtain ⟨a, vs, e1, p1, p2⟩ := q2
    exact .inr (.inl (tupc e1 p1.sq p2 e))
theorem mem_toNat (c : Char) (s : Txt) : decide (c.toNat ∈ (toStr s).cps.toList) = decide (c ∈ s) := by
  unfold toStr
  have : (c.toNat ∈ s.map Char.toNat) ↔ c ∈ s := by
    constructor
    · intro q
      obtain ⟨d, hd, e⟩ := List.mem_map.mp q
      rw [← toNat_inj e]; exact hd
    · exact fun q => List.mem_map_of_mem q
  simp only [this]
theorem in_ok (hu : X.A.units + 65 < cLine) : OpR X (compareOp .In) (rCm X.K T X.w .isin) := by
  intro pins s σ H x y xv yv Q I rx ry ⟨v, u, φ, h, b, R, q1, q2, e, q⟩
  rcases in_cases R q1 q2 e with ⟨s, t, rfl, rfl, rfl⟩ | ⟨p, xs, rfl, a1, a2, a3, rfl⟩ | ⟨d, ds, a1, a2, a3, a4, rfl⟩ | ⟨a, o, rfl, g, rfl⟩
  · rw [show x = _ from q1] at rx; rw [show y = _ from q2] at ry
    exact op_in_sign pins _ σ H _ _ _ _ Q I rx ry ⟨s.toNat, _, rfl, rfl, by rw [mem_toNat]; exact q⟩
  · exact op_in_seq pins _ σ H _ _ _ _ Q I rx ry ⟨p, xs, rfl, a1, a2, a3, q⟩
  · exact op_inD hu pins _ σ H _ _ _ _ Q I rx ry ⟨d, ds, a1, a2, a3, a4, q⟩
  · obtain rfl : yv = Value.ref a := ry
    exact d_in (by omega) I g rx fun s' I' => ⟨.bl o.isSome, H, I', rfl, q⟩
theorem notin_ok (hu : X.A.units + 65 < cLine) : OpR X (compareOp .NotIn) (rCm X.K T X.w .notin) := by
  intro pins s σ H x y xv yv Q I rx ry ⟨v, u, φ, h, b, R, q1, q2, e, q⟩
  obtain ⟨b, e1, rfl⟩ : ∃ c, inV h v u = some c ∧ b = !c := by
    cases hh : inV h v u with
    | none => simp [cmpV, hh] at e
    | some c => simp [cmpV, hh] at e; exact ⟨c, rfl, by rw [e, Bool.not_not]⟩
  rcases in_cases R q1 q2 e1 with ⟨s, t, rfl, rfl, rfl⟩ | ⟨p, xs, rfl, a1, a2, a3, rfl⟩ | ⟨d, ds, a1, a2, a3, a4, rfl⟩ | ⟨a, o, rfl, g, rfl⟩
  · rw [show x = _ from q1] at rx; rw [show y = _ from q2] at ry
    exact op_notIn_sign pins _ σ H _ _ _ _ Q I rx ry ⟨s.toNat, _, rfl, rfl, by rw [mem_toNat]; exact q⟩
  · exact op_notIn_seq pins _ σ H _ _ _ _ Q I rx ry ⟨p, xs, rfl, a1, a2, a3, q⟩
  · exact op_notInD hu pins _ σ H _ _ _ _ Q I rx ry ⟨d, ds, a1, a2, a3, a4, q⟩
  · obtain rfl : yv = Value.ref a := ry
    exact d_notIn (by omega) I g rx fun s' I' => ⟨.bl (!o.isSome), H, I', rfl, q⟩
def copOf : Cop → CmpOp
  | .eq => .Eq | .ne => .NotEq | .lt => .Lt | .le => .LtE | .gt => .Gt | .ge => .GtE | .isin => .In | .notin => .NotIn
theorem cmp_ok (hu : X.A.units + 65 < cLine) (o : Cop) : OpR X (compareOp (copOf o)) (rCm X.K T X.w o) := by
  cases o
  · exact eq_ok (by omega)
  · exact ne_ok (by omega)
  · exact lt_ok
  · exact le_ok
  · exact gt_ok (by omega)
  · exact ge_ok
  · exact in_ok hu
  · exact notin_ok hu
/-! ### truth, length, places -/
theorem tru_V {K : PySem.W.Frag} {w : World} (R : Rel K T w φ H h) {v : Val} {x : V} {b : Bool} (q : RV K T φ H v x) (e : tru h v = some b) : TruV K x H b := by
  have em : ∀ {vs : List Val} {xs : List V}, RVs K T φ H vs xs → (!xs.isEmpty) = !vs.isEmpty := fun {vs xs} r => by
    have := r.length
    cases vs <;> cases xs <;> simp_all
  have emk : ∀ {vs : List (PyI.Key × Val)} {xs : List (L2.Key × V)}, RKs K T kT φ H vs xs → (!xs.isEmpty) = !vs.isEmpty := fun {vs xs} r => by
    have := r.length
    cases vs <;> cases xs <;> simp_all
  cases v <;> simp only [tru, reduceCtorEq, Option.some.injEq] at e
  · rw [show x = _ from q]; exact e.symm
  · rw [show x = _ from q]; exact e.symm
  · rw [show x = _ from q]; exact e.symm
  · rename_i s
    rw [show x = _ from q]
    split at e
    · rename_i hl
      cases e
      refine ⟨by rw [toStr_length]; exact hl, ?_⟩
      rw [toStr_length]
      cases s <;> simp
      omega
    · cases e
  · obtain ⟨a, vs, rfl, p1, p2⟩ := q
    exact .inr (.inl ⟨vs, .of p1, by rw [em p2]; exact e.symm⟩)
  · rename_i n
    split at e
    · rename_i he; cases e
      obtain ⟨a, vs, rfl, _, p1, p2⟩ := R.lst q he
      exact .inl ⟨vs, .of p1, (em p2).symm⟩
    · rename_i ys he; cases e
      obtain ⟨a, vs, rfl, _, p1, p2⟩ := R.lstA q (show lstA h n = some ys by unfold lstA; rw [he]; rfl)
      exact .inl ⟨vs, p1, (em p2).symm⟩
    · rename_i he; cases e
      obtain ⟨a, vs, rfl, _, p1, p2⟩ := R.dik q he
      exact .inr (.inr ⟨vs, p1, (emk p2).symm⟩)
    · cases e
  · obtain ⟨a, vs, rfl, p1, p2⟩ := q
    exact .inr (.inl ⟨vs, p1.sq, by rw [em p2]; exact e.symm⟩)
/-- .. of a place -/
theorem ixL_ok : IxR X (fun x y H Q => ∃ E v u φ h, Rel X.K T X.w φ H h ∧ RV X.K T φ H v x ∧ RV X.K T φ H u y ∧ okR X.K T X.w (RV X.K T) φ H Q E (ixV v u h) ∧ (∀ n, v = .ref n → lstA h n ≠ none)) := by
  intro value slice pins s σ H x y xv yv Q I rx ry ⟨E, v, u, φ, h, R, q1, q2, o, nd⟩ hs
  cases v <;> simp only [ixV] at o <;> try exact False.elim o
  · rename_i z
    cases u <;> simp only [] at o <;> try exact False.elim o
    rename_i i
    split at o
    · rename_i hl
      obtain ⟨v, e, o⟩ := o.pure
      cases hc : nth z i with
      | none => simp [hc] at e
      | some c =>
        simp [hc] at e; subst e
        rw [show x = _ from q1] at rx; rw [show y = _ from q2] at ry
        refine ix_str value slice pins s σ H _ _ _ _ Q I rx ry ⟨_, i, c.toNat, rfl, rfl, by rw [toStr_length]; exact hl, ?_, ?_⟩ hs
        · rw [nth_eq]
          unfold toStr nth at *
          simp only [List.toList_toArray, List.length_map, List.getElem?_map]
          split at hc <;> rename_i h0
          · rw [if_pos h0, hc]; rfl
          · rw [if_neg h0]
            split at hc <;> rename_i h1
            · rw [if_pos h1, hc]; rfl
            · cases hc
        · exact o.ok R rfl
    · exact False.elim o
  · cases u <;> simp only [] at o <;> try exact False.elim o
    obtain ⟨a, vs, rfl, p1, p2⟩ := q1
    obtain ⟨v, e, o⟩ := o.pure
    obtain ⟨z, hz, rz⟩ := p2.nth e
    rw [show y = _ from q2] at ry
    exact ix_tup value slice pins s σ H _ _ _ _ Q I rx ry ⟨a, vs, _, z, rfl, rfl, .of p1, hz, o.ok R rz⟩ hs
  · rename_i n
    have go : ∀ {ys : List Val} {i : Int}, lstA h n = some ys → u = .int i → okR X.K T X.w (RV X.K T) φ H Q E (PyI.pure h (nth ys i)) → wpAny (model X.prog X.w) X.A (subscriptTail value slice xv yv) (EP X pins σ Q) X.xe s := fun {ys i} hl hu o2 => by
      subst hu
      obtain ⟨a, vs, rfl, _, p1, p2⟩ := R.lstA q1 hl
      obtain ⟨v, e, o2⟩ := o2.pure
      obtain ⟨z, hz, rz⟩ := p2.nth e
      rw [show y = _ from q2] at ry
      exact ix_list value slice pins s σ H _ _ _ _ Q I rx ry ⟨a, vs, _, z, rfl, rfl, p1, hz, o2.ok R rz⟩ hs
    split at o
    · rename_i he
      cases u <;> simp only [] at o <;> try exact False.elim o
      exact go (by unfold lstA; rw [he]; rfl) rfl o
    · rename_i he
      cases u <;> simp only [] at o <;> try exact False.elim o
      exact go (by unfold lstA; rw [he]; rfl) rfl o
    · rename_i he; exact (nd n rfl (by unfold lstA; rw [he]; rfl)).elim
    · rename_i he; exact (nd n rfl (by unfold lstA; rw [he]; rfl)).elim
    · rename_i he; exact (nd n rfl (by unfold lstA; rw [he]; rfl)).elim
    · rename_i he; exact (nd n rfl (by unfold lstA; rw [he]; rfl)).elim
    · exact False.elim o
  · cases u <;> simp only [] at o <;> try exact False.elim o
    obtain ⟨a, vs, rfl, p1, p2⟩ := q1
    obtain ⟨v, e, o⟩ := o.pure
    obtain ⟨z, hz, rz⟩ := p2.nth e
    rw [show y = _ from q2] at ry
    exact ix_tup value slice pins s σ H _ _ _ _ Q I rx ry ⟨a, vs, _, z, rfl, rfl, p1.sq, hz, o.ok R rz⟩ hs
  · cases u <;> simp only [] at o <;> try exact False.elim o
    obtain ⟨a, vs, rfl, p1, p2⟩ := q1
    obtain ⟨v, e, o⟩ := o.pure
    obtain ⟨z, hz, rz⟩ := p2.nth e
    rw [show y = _ from q2] at ry
    exact ix_list value slice pins s σ H _ _ _ _ Q I rx ry ⟨a, vs, _, z, rfl, rfl, p1.sq, hz, o.ok R rz⟩ hs
theorem lenV_V {K : PySem.W.Frag} {w : World} (R : Rel K T w φ H h) {v : Val} {x : V} {n : Nat} (q : RV K T φ H v x) (e : lenV v h = some n) :
    LenV K x H n ∨ ∃ a ks, x = .ref a ∧ H a = some (.dK ks) ∧ n = ks.length := by
  cases v <;> simp only [lenV, reduceCtorEq, Option.some.injEq] at e
  · split at e
    · rename_i hl; cases e
      rw [show x = _ from q]
      exact .inl ⟨by rw [toStr_length]; exact hl, by rw [toStr_length]⟩
    · cases e
  · obtain ⟨a, vs, rfl, p1, p2⟩ := q
    exact .inl (.inr ⟨vs, .of p1, by rw [p2.length]; exact e.symm⟩)
  · rename_i m
    split at e
    · rename_i he; cases e
      obtain ⟨a, vs, rfl, _, p1, p2⟩ := R.lst q he
      exact .inl (.inl ⟨vs, .of p1, p2.length.symm⟩)
    · rename_i ys he; cases e
      obtain ⟨a, vs, rfl, _, p1, p2⟩ := R.lstA q (show lstA h m = some ys by unfold lstA; rw [he]; rfl)
      exact .inl (.inl ⟨vs, p1, p2.length.symm⟩)
    · rename_i he; cases e
      obtain ⟨a, ks, rfl, _, p1, p2⟩ := R.dik q he
      exact .inr ⟨a, ks, rfl, p1, p2.length.symm⟩
    · rename_i he
      obtain ⟨a, u, _, _, _, q⟩ := R.ref q he
      exact q.elim
    · cases e
  · obtain ⟨a, vs, rfl, p1, p2⟩ := q
    exact .inl (.inr ⟨vs, p1.sq, by rw [p2.length]; exact e.symm⟩)
  · obtain ⟨a, vs, rfl, p1, p2⟩ := q
    exact .inl (.inl ⟨vs, p1.sq, by rw [p2.length]; exact e.symm⟩)
end
end PyI
namespace PyI
open PySem PySem.Spec PyProof.Rows L2
/-! ### sorting -/
theorem insI_perm (x : Int) : ∀ ys, (insI x ys).Perm (x :: ys)
  | [] => .refl _
  | y :: ys => by
    unfold insI
    split
    · exact .refl _
    · exact ((insI_perm x ys).cons y).trans (.swap x y ys)
theorem srtI_perm : ∀ xs, (srtI xs).Perm xs
  | [] => .refl _
  | x :: xs => (insI_perm x (srtI xs)).trans ((srtI_perm xs).cons x)
theorem insI_sorted (x : Int) : ∀ ys, ys.Pairwise (· ≤ ·) → (insI x ys).Pairwise (· ≤ ·)
  | [], _ => by simp [insI]
  | y :: ys, p => by
    have p' := List.pairwise_cons.mp p
    unfold insI
    split
    · rename_i h
      refine List.pairwise_cons.mpr ⟨fun z hz => ?_, p⟩
      rcases List.mem_cons.mp hz with rfl | hz
      · exact h
      · exact Int.le_trans h (p'.1 z hz)
    · rename_i h
      refine List.pairwise_cons.mpr ⟨fun z hz => ?_, insI_sorted x ys p'.2⟩
      rcases List.mem_cons.mp ((insI_perm x ys).mem_iff.mp hz) with rfl | hz
      · omega
      · exact p'.1 z hz
theorem srtI_sorted : ∀ xs, (srtI xs).Pairwise (· ≤ ·)
  | [] => .nil
  | x :: xs => insI_sorted x _ (srtI_sorted xs)
theorem sorted_eq : ∀ {a b : List Int}, a.Perm b → a.Pairwise (· ≤ ·) → b.Pairwise (· ≤ ·) → a = b
  | [], b, p, _, _ => (List.nil_perm.mp p).symm
  | x :: a, [], p, _, _ => absurd p.length_eq (by simp)
  | x :: a, y :: b, p, h1, h2 => by
    have h1' := List.pairwise_cons.mp h1
    have h2' := List.pairwise_cons.mp h2
    have e : x = y := by
      have m1 : x ∈ y :: b := p.mem_iff.mp (by simp)
      have m2 : y ∈ x :: a := p.mem_iff.mpr (by simp)
      rcases List.mem_cons.mp m1 with e | m1
      · exact e
      · rcases List.mem_cons.mp m2 with e | m2
        · exact e.symm
        · exact Int.le_antisymm (h1'.1 y m2) (h2'.1 x m1)
    subst e
    rw [sorted_eq (List.perm_cons x |>.mp p) h1'.2 h2'.2]
theorem srtI_eq {ns ms : List Int} (p : ms.Perm ns) (s : ms.Pairwise (· ≤ ·)) : ms = srtI ns := sorted_eq (p.trans (srtI_perm ns).symm) s (srtI_sorted ns)
section
variable {X : Cx} {T : Tab} {φ : List Addr} {H : L2.Hp} {h : Mem} {Q : VK} {E : Nat → L2.Hp → Prop}
def rBl (K : PySem.W.Frag) (T : Tab) (w : World) (b : Blt) : List V → L2.Hp → VK → Prop := fun xs H Q =>
  ∃ E vs φ h, Rel K T w φ H h ∧ RVs K T φ H vs xs ∧ okR K T w (RV K T) φ H Q E (bltV b vs h)
theorem rvs1 {K : PySem.W.Frag} {v : Val} {xs : List V} (q : RVs K T φ H [v] xs) : ∃ x, xs = [x] ∧ RV K T φ H v x := by
  obtain ⟨x, r, rfl, q1, q2⟩ := q
  rw [show r = [] from q2]; exact ⟨x, rfl, q1⟩
theorem rvs2 {K : PySem.W.Frag} {v u : Val} {xs : List V} (q : RVs K T φ H [v, u] xs) : ∃ x y, xs = [x, y] ∧ RV K T φ H v x ∧ RV K T φ H u y := by
  obtain ⟨x, r, rfl, q1, q2⟩ := q
  obtain ⟨y, rfl, q3⟩ := rvs1 q2
  exact ⟨x, y, rfl, q1, q3⟩
theorem len_ok : CallR X (.builtin "len") (rBl X.K T X.w .len) := by
  intro pins s σ H xs us Q I rx ⟨E, vs, φ, h, R, q, o⟩
  match vs, q, o with
  | [v], q, o =>
    obtain ⟨x, rfl, q1⟩ := rvs1 q
    obtain ⟨z, e, o⟩ := o.pure
    cases hl : lenV v h with
    | none => simp [hl] at e
    | some n =>
      simp [hl] at e; subst e
      rcases lenV_V R q1 hl with hh | ⟨a, ks, rfl, hh, rfl⟩
      · exact call_len pins s σ H _ us Q I rx ⟨x, n, rfl, hh, o.ok R rfl⟩
      · exact call_lenD pins s σ H _ us Q I rx ⟨a, ks, rfl, hh, o.ok R rfl⟩
  | [], q, o => exact False.elim o
  | v :: _ :: _, q, o => cases v <;> exact False.elim o
theorem int_ok : CallR X (.type "int") (rBl X.K T X.w .int) := by
  intro pins s σ H xs us Q I rx ⟨E, vs, φ, h, R, q, o⟩
  match vs, q, o with
  | [.int i], q, o =>
    obtain ⟨x, rfl, q1⟩ := rvs1 q
    rw [show x = _ from q1] at rx
    exact call_int1 pins s σ H _ us Q I rx (.inl ⟨i, rfl, o.ok R rfl⟩)
  | [.bl k], q, o =>
    obtain ⟨x, rfl, q1⟩ := rvs1 q
    rw [show x = _ from q1] at rx
    exact call_int1 pins s σ H _ us Q I rx (.inr ⟨k, rfl, o.ok R rfl⟩)
  | [.non], q, o => exact False.elim o
  | [.str _], q, o => exact False.elim o
  | [.tup _], q, o => exact False.elim o
  | [.ktup _], q, o => exact False.elim o
  | [.ref _], q, o => exact False.elim o
  | [.fn _], q, o => exact False.elim o
  | [], q, o => exact False.elim o
  | v :: _ :: _, q, o => cases v <;> exact False.elim o
theorem keys_R {K : PySem.W.Frag} : ∀ {kvs : List (PyI.Key × Val)} {ks : List (L2.Key × V)}, RKs K T kT φ H kvs ks → RVs K T φ H (kvs.map fun kv => kval kv.1) (ks.map fun kv => kV kv.1)
  | [], _, q => by rw [show _ = [] from q]; rfl
  | p :: r, ks, q => by
    obtain ⟨x, s, rfl, _, q2⟩ := q
    refine ⟨_, _, rfl, ?_, keys_R q2⟩
    obtain ⟨k, v⟩ := p
    cases k <;> simp [kT, kval, kV, RV]
theorem lst_ok (hc : X.calm = true) : CallR X (.type "list") (rBl X.K T X.w .lst) := by
  intro pins s σ H xs us Q I rx ⟨E, vs, φ, h, R, q, o⟩
  match vs, q, o with
  | [.ref a], q, o =>
    obtain ⟨x, rfl, q1⟩ := rvs1 q
    simp only [bltV] at o
    split at o
    · rename_i ys he
      obtain ⟨a, ws, rfl, _, p1, p2⟩ := R.lst q1 he
      exact call_list_of pins s σ H _ us Q I rx ⟨a, ws, rfl, .inl (.of p1), o.new R fun ψ G _ e => ⟨_, rfl, p2.mono e _ _⟩⟩
    · rename_i n ys he
      obtain ⟨a, ws, rfl, _, p1, p2⟩ := R.lstA q1 (show lstA h _ = some ys by unfold lstA; rw [he]; rfl)
      exact call_list_of pins s σ H _ us Q I rx ⟨a, ws, rfl, .inl p1, o.new R fun ψ G _ e => ⟨_, rfl, p2.mono e _ _⟩⟩
    · rename_i kvs he
      obtain ⟨a, ks, rfl, _, p1, p2⟩ := R.dik q1 he
      exact call_listD hc pins s σ H _ us Q I rx ⟨a, ks, rfl, .inl p1, o.new R fun ψ G _ e => ⟨_, rfl, (keys_R p2).mono e _ _⟩⟩
    · exact False.elim o
  | [.tup ys], q, o =>
    obtain ⟨x, rfl, q1⟩ := rvs1 q
    obtain ⟨a, ws, rfl, p1, p2⟩ := q1
    exact call_list_of pins s σ H _ us Q I rx ⟨a, ws, rfl, .inr (.of p1), okR.new (ob := .lst ys) o R fun ψ G _ e => ⟨_, rfl, p2.mono e _ _⟩⟩
  | [.ktup ys], q, o =>
    obtain ⟨x, rfl, q1⟩ := rvs1 q
    obtain ⟨a, ws, rfl, p1, p2⟩ := q1
    exact call_list_of pins s σ H _ us Q I rx ⟨a, ws, rfl, .inr p1.sq, okR.new (ob := .lst ys) o R fun ψ G _ e => ⟨_, rfl, p2.mono e _ _⟩⟩
  | [.int i], q, o => exact False.elim o
  | [.bl k], q, o => exact False.elim o
  | [.non], q, o => exact False.elim o
  | [.str _], q, o => exact False.elim o
  | [.fn _], q, o => exact False.elim o
  | [], q, o => exact False.elim o
  | v :: _ :: _, q, o => cases v <;> exact False.elim o
theorem tup_ok : CallR X (.type "tuple") (rBl X.K T X.w .tup) := by
  intro pins s σ H xs us Q I rx ⟨E, vs, φ, h, R, q, o⟩
  match vs, q, o with
  | [.ref a], q, o =>
    obtain ⟨x, rfl, q1⟩ := rvs1 q
    simp only [bltV] at o
    split at o
    · rename_i ys he
      obtain ⟨a, ws, rfl, _, p1, p2⟩ := R.lstA q1 he
      exact call_tuple_of pins s σ H _ us Q I rx ⟨a, ws, rfl, .inl ⟨p1, o.newT R p2⟩⟩
    · exact False.elim o
  | [.tup ys], q, o =>
    obtain ⟨x, rfl, q1⟩ := rvs1 q
    obtain ⟨a, ws, rfl, p1, p2⟩ := id q1
    exact call_tuple_of pins s σ H _ us Q I rx ⟨a, ws, rfl, .inr ⟨.of p1, okR.ok (v := Val.tup ys) o R q1⟩⟩
  | [.ktup ys], q, o => exact False.elim o
  | [.int i], q, o => exact False.elim o
  | [.bl k], q, o => exact False.elim o
  | [.non], q, o => exact False.elim o
  | [.str _], q, o => exact False.elim o
  | [.fn _], q, o => exact False.elim o
  | [], q, o => exact False.elim o
  | v :: _ :: _, q, o => cases v <;> exact False.elim o
theorem max2_ok (hc : X.calm = true) : CallR X (.builtin "max") (rBl X.K T X.w .max2) := by
  intro pins s σ H xs us Q I rx ⟨E, vs, φ, h, R, q, o⟩
  unfold bltV at o
  split at o <;> first | contradiction | skip
  all_goals first
    | exact False.elim o
    | (rename_i i j _
       obtain ⟨x, y, rfl, q1, q2⟩ := rvs2 q
       rw [show x = _ from q1, show y = _ from q2] at rx
       refine call_max2 hc pins s σ H _ us Q I rx ⟨i, j, rfl, ?_⟩
       have e : (if j > i then j else i) = max i j := by omega
       rw [e]; exact o.ok R rfl)
theorem min2_ok (hc : X.calm = true) : CallR X (.builtin "min") (rBl X.K T X.w .min2) := by
  intro pins s σ H xs us Q I rx ⟨E, vs, φ, h, R, q, o⟩
  unfold bltV at o
  split at o <;> first | contradiction | skip
  all_goals first
    | exact False.elim o
    | (rename_i i j _
       obtain ⟨x, y, rfl, q1, q2⟩ := rvs2 q
       rw [show x = _ from q1, show y = _ from q2] at rx
       refine call_min2 hc pins s σ H _ us Q I rx ⟨i, j, rfl, ?_⟩
       have e : (if j < i then j else i) = min i j := by omega
       rw [e]; exact o.ok R rfl)
theorem sum_ok (hc : X.calm = true) : CallR X (.builtin "sum") (rBl X.K T X.w .sum) := by
  intro pins s σ H xs us Q I rx ⟨E, vs, φ, h, R, q, o⟩
  unfold bltV at o
  split at o <;> first | contradiction | skip
  all_goals first
    | exact False.elim o
    | (obtain ⟨x, rfl, q1⟩ := rvs1 q
       split at o
       · rename_i ns e
         obtain ⟨ys, hl, e⟩ := Option.bind_eq_some_iff.mp e
         obtain ⟨a, ws, rfl, _, p1, p2⟩ := R.lstA q1 hl
         rw [p2.ints e] at p1
         exact cr_sum hc pins s σ H _ us Q I rx ⟨a, ns, rfl, p1, o.ok R rfl⟩
       · exact False.elim o)
theorem ord_ok : CallR X (.builtin "ord") (rBl X.K T X.w .ord) := by
  intro pins s σ H xs us Q I rx ⟨E, vs, φ, h, R, q, o⟩
  unfold bltV at o
  split at o <;> first | contradiction | skip
  all_goals first
    | exact False.elim o
    | (obtain ⟨x, rfl, q1⟩ := rvs1 q
       rw [show x = _ from q1] at rx
       refine call_ord pins s σ H _ us Q I rx ⟨_, rfl, by rw [toStr_length]; rfl, ?_⟩
       exact o.ok R rfl)
theorem str_toStr (i : Int) : Str.ofString (toString i) = toStr (strI i) := by
  rw [Str.ofString_eq_toList]; rfl
theorem str_ok : CallR X (.type "str") (rBl X.K T X.w .str) := by
  intro pins s σ H xs us Q I rx ⟨E, vs, φ, h, R, q, o⟩
  unfold bltV at o
  split at o <;> first | contradiction | skip
  all_goals first
    | exact False.elim o
    | (obtain ⟨x, rfl, q1⟩ := rvs1 q
       rw [show x = _ from q1] at rx
       split at o
       · rename_i hl
         refine call_str_int pins s σ H _ us Q I rx ⟨_, rfl, hl, ?_⟩
         refine o.ok R ?_
         show V.str _ = V.str _
         rw [← str_toStr]
       · exact False.elim o)
theorem dct_ok : CallR X (.type "dict") (rBl X.K T X.w .dct) := by
  intro pins s σ H xs us Q I rx ⟨E, vs, φ, h, R, q, o⟩
  unfold bltV at o
  split at o <;> first | contradiction | skip
  all_goals first
    | exact False.elim o
    | (obtain ⟨x, rfl, q1⟩ := rvs1 q
       split at o
       · rename_i kvs he
         obtain ⟨a, ks, rfl, _, p1, p2⟩ := R.dik q1 he
         exact call_dictD pins s σ H _ us Q I rx ⟨a, ks, rfl, .inl p1, o.new R fun ψ G _ e => ⟨_, rfl, p2.mono e⟩⟩
       · exact False.elim o)
theorem srtR_ok : CallRK X (.builtin "sorted") [Str.ofString "reverse"] (fun xs zs H Q => zs = [.bl true] ∧ rBl X.K T X.w .srtR xs H Q) := by
  intro pins s σ H xs zs us ws Q I rx rz ⟨ez, E, vs, φ, h, R, q, o⟩
  unfold bltV at o
  split at o <;> first | contradiction | skip
  all_goals first
    | exact False.elim o
    | (obtain ⟨x, rfl, q1⟩ := rvs1 q
       split at o
       · rename_i ys he
         obtain ⟨a, vs, rfl, _, p1, p2⟩ := R.lst q1 he
         split at o
         · rename_i ns e
           rw [p2.ints e] at p1
           refine cr_sortedRev (b := true) pins s σ H _ zs us ws Q I rx rz ⟨a, ns, rfl, ez, .of p1, fun ns' p pm od hp => ?_⟩
           have e2 : ns' = (srtI ns).reverse := by
             have : ns'.reverse = srtI ns := srtI_eq ((List.reverse_perm ns').trans pm) (List.pairwise_reverse.mpr od)
             rw [← this, List.reverse_reverse]
           rw [e2]
           exact o.new R (fun ψ G _ e => ⟨_, rfl, RVs.of_ints _⟩) p hp
         · exact False.elim o
       · exact False.elim o)
theorem srt_ok (hc : X.calm = true) : CallR X (.builtin "sorted") (rBl X.K T X.w .srt) := by
  intro pins s σ H xs us Q I rx ⟨E, vs, φ, h, R, q, o⟩
  unfold bltV at o
  split at o <;> first | contradiction | skip
  all_goals first
    | exact False.elim o
    | (obtain ⟨x, rfl, q1⟩ := rvs1 q
       split at o
       · rename_i ys he
         obtain ⟨a, vs, rfl, _, p1, p2⟩ := R.lst q1 he
         split at o
         · rename_i ns e
           rw [p2.ints e] at p1
           refine cr_sortedI pins s σ H _ us Q I rx ⟨a, ns, rfl, .of p1, fun ns' p pm od hp => ?_⟩
           rw [srtI_eq pm od]
           exact o.new R (fun ψ G _ e => ⟨_, rfl, RVs.of_ints _⟩) p hp
         · exact False.elim o
       · rename_i kvs he
         obtain ⟨a, ks, rfl, _, p1, p2⟩ := R.dik q1 he
         split at o
         · rename_i ns e
           split at o
           · rename_i hl
             have e3 : ks.map (·.1) = ns.map Sum.inl := by
               have := (keys_R p2).ints e
               have h2 : ∀ (l : List (L2.Key × V)) (m : List Int), (l.map fun kv => kV kv.1) = m.map V.int → l.map (·.1) = m.map Sum.inl := by
                 intro l
                 induction l with
                 | nil => intro m hm; cases m <;> simp_all
                 | cons a l ih =>
                   intro m hm
                   cases m with
                   | nil => simp at hm
                   | cons b m =>
                     simp only [List.map_cons, List.cons.injEq] at hm ⊢
                     refine ⟨?_, ih m hm.2⟩
                     cases ha : a.1 <;> rw [ha] at hm <;> simp [kV] at hm
                     rw [hm.1]
               exact h2 ks ns this
             refine call_sortedDI hc pins s σ H _ us Q I rx ⟨a, ks, ns, rfl, .inl p1, e3, hl, fun ns' p pm od hp => ?_⟩
             rw [srtI_eq pm od]
             exact o.new R (fun ψ G _ e => ⟨_, rfl, RVs.of_ints _⟩) p hp
           · exact False.elim o
         · exact False.elim o
       · exact False.elim o)
end
end PyI
namespace PyI
open PySem PySem.Spec PyProof.Rows L2
/-! ### calls, what they raise wished for at the caller's slots -/
section
variable {X : Cx} {CX : CXT} {k : Nat} {f C : Addr} {fd : FuncData} {ps : List Str} {sp : Sp} {E : L2.St → XK} {x m : Str} {p pos apos : Pos} {e o : Expr} {es : List Expr} {ta : TE} {t : TA}
theorem pe_callS0 (F : FnOk X.prog X.w X.K X.mg X.base CX k f fd ps sp) (hr : Room k X.A) (hg : Gl X x) (hm : X.mg x = some (.ref f)) (hk : PySem.W.keepIn X.K (.ref f) = true) (hb : Binds X.K fd ps []) (hx : ∀ σ, PassesAt CX X σ (E σ))
    (hdb : (x == ("__debug__" : Str)) = false) : PE X (.Call (.Name x p) [] [] pos) (tCallS sp E tNil) := by
  refine ⟨fun pins s σ H Q I h => ?_⟩
  refine wpAny_Call_Name_kw (ld_glob I hg hm ?_ hdb)
  exact PySem.W.callWith_K0 I.kIn hk (run_fnS (us := []) F hr hb (hx σ) I .nil h)
def tMethS (C : Addr) (m : Str) (sp : Sp) (E : L2.St → XK) (ta : TE) (t : TA) : TE := fun σ H Q => ta σ H fun x H1 => ∃ a dx fs, x = .ref a ∧ H1 a = some (.ins C dx fs) ∧ fs.lookup m = none ∧
  t σ H1 fun vs H2 => sp (x :: vs) H2 Q (E σ)
theorem pe_methS' {pl : Sem Bool} (he : PE X o ta) (c : Cls X.K C) (hm : Meth X.K C m f) (F : FnOk X.prog X.w X.K X.mg X.base CX k f fd ps sp) (hr : Room k X.A) (hb : Binds X.K fd ps []) (hx : ∀ σ, PassesAt CX X σ (E σ)) (ha : PA X (e :: es) t)
    (hst : starEach (e :: es) X.env = (false, eval e X.env) :: starEach es X.env) (hpl : (backTo pos (starEach es X.env)).any (·.1) = false)
    (ht : eval (.Call (.Attribute o m apos) (e :: es) [] pos) X.env = (do
      let ov ← eval o X.env
      standAt apos.atName
      let (f, first) ← holding [ov] (getMethod ov m pl)
      callWith pos f first (backTo pos (starEach (e :: es) X.env)) (backToKw pos (keywordEach [] X.env)))) :
    PE X (.Call (.Attribute o m apos) (e :: es) [] pos) (tMethS C m sp E ta t) := by
  refine ⟨fun pins s σ H Q I h => ?_⟩
  refine PySem.W.methodCall_KW (pl := pl) (thn (he.run pins s σ H _ I h) fun u s1 ⟨x, H1, I1, rx, a, dx, fs, ex, ea, l, q⟩ => ?_) ht
  subst ex
  obtain rfl : u = Value.ref a := rx
  refine getmeth_ok I1 ea c hm l ?_
  refine PySem.W.callWith_K (first := [.ref a]) (h₀ := X.base) I.ok.mod.kin hm.kp (thn (ha.run pos pins s1 σ H1 _ I1 q) fun us s2 ⟨vs, H2, I2, r, q2⟩ => ⟨I2.kIn, ?_⟩) hst hpl
  exact run_fnS (us := .ref a :: us) (vs := .ref a :: vs) F hr hb (hx σ) I2 (.cons rfl r) q2
theorem pe_methS0 {pl : Sem Bool} (he : PE X o ta) (c : Cls X.K C) (hm : Meth X.K C m f) (F : FnOk X.prog X.w X.K X.mg X.base CX k f fd ps sp) (hr : Room k X.A) (hb : Binds X.K fd ps []) (hx : ∀ σ, PassesAt CX X σ (E σ))
    (ht : eval (.Call (.Attribute o m apos) [] [] pos) X.env = (do
      let ov ← eval o X.env
      standAt apos.atName
      let (f, first) ← holding [ov] (getMethod ov m pl)
      callWith pos f first (backTo pos (starEach [] X.env)) (backToKw pos (keywordEach [] X.env)))) :
    PE X (.Call (.Attribute o m apos) [] [] pos) (tMethS C m sp E ta tNil) := by
  refine ⟨fun pins s σ H Q I h => ?_⟩
  refine PySem.W.methodCall_KW (pl := pl) (thn (he.run pins s σ H _ I h) fun u s1 ⟨x, H1, I1, rx, a, dx, fs, ex, ea, l, q⟩ => ?_) ht
  subst ex
  obtain rfl : u = Value.ref a := rx
  refine getmeth_ok I1 ea c hm l ?_
  exact PySem.W.callWith_K0 (first := [.ref a]) I1.kIn hm.kp (run_fnS (us := [.ref a]) (vs := [.ref a]) F hr hb (hx σ) I1 (.cons rfl .nil) q)
def tMakeS (C : Addr) (sp : Sp) (E : L2.St → XK) (t : TA) : TE := fun σ H Q => t σ H fun vs H1 => ∀ x dx, H1 x = none → H1 dx = none → dx ≠ x →
  sp (.ref x :: vs) (upd (upd H1 dx (.own x)) x (.ins C dx [])) (fun v H2 => v = .non ∧ Q (.ref x) H2) (E σ)
theorem run_makeS {pins : List (Addr × Obj)} {σ : L2.St} {H : L2.Hp} {s : Shared} {Q : VK} {us : List Value} {vs : List V} {E : XK} (M : Mk X.K C f) (F : FnOk X.prog X.w X.K X.mg X.base CX k f fd ps sp) (hr : Room (k + 1) X.A) (hb : Binds X.K fd ps [])
    (hx : PassesAt CX X σ E) (I : Inv X pins σ H s) (r : Vals vs us)
    (h : ∀ x dx, H x = none → H dx = none → dx ≠ x → sp (.ref x :: vs) (upd (upd H dx (.own x)) x (.ins C dx [])) (fun v H2 => v = .non ∧ Q (.ref x) H2) E) :
    wpAny (model X.prog X.w) X.A (call (.ref C) us) (EP X pins σ Q) X.xe s := by
  have hq := h (s.heap.objs.size + 1) s.heap.objs.size (I.hok.fresh (Nat.le_succ _)) (I.hok.fresh (Nat.le_refl _)) (Nat.ne_of_lt (Nat.lt_succ_self _))
  have I2 := Inv.made (C := C) I
  have r2 : Vals (V.ref (s.heap.objs.size + 1) :: vs) (Value.ref (s.heap.objs.size + 1) :: us) := .cons rfl r
  have hl : (Value.ref (s.heap.objs.size + 1) :: us ++ []).length = ps.length := by
    have e := r2.length
    rw [F.len _ _ _ _ hq] at e
    simpa using e.symm
  have hbb := hb _ (Value.ref (s.heap.objs.size + 1) :: us) I2.kIn hl
  rw [List.append_nil] at hbb
  refine wpAny_call (make_map (f := f) I.kIn M.makes M.init (beq_iff_eq.mp M.fn) (codeAny_mono (F.run _ X.stack _ _ ⟨Value.ref (s.heap.objs.size + 1) :: us, []⟩ (Value.ref (s.heap.objs.size + 1) :: us) _ _ E (hr.make C us [])
    (I2.env0.make C us []) hbb r2 hq) fun r s' hq' => ?_))
  cases r with
  | error e => exact hx pins _ _ e s' I2 hq'
  | ok fl =>
    cases fl with
    | ret u =>
      obtain ⟨v, H', I3, rv, ev, q3⟩ := I2.after hq'
      subst ev
      exact ⟨rv, ⟨V.ref (s.heap.objs.size + 1), H', I3, rfl, q3⟩⟩
    | next => exact False.elim hq'
    | brk => exact False.elim hq'
    | cont => exact False.elim hq'
theorem pe_makeS (M : Mk X.K C f) (F : FnOk X.prog X.w X.K X.mg X.base CX k f fd ps sp) (hr : Room (k + 1) X.A) (hg : Gl X x) (hm : X.mg x = some (.ref C)) (hb : Binds X.K fd ps []) (hx : ∀ σ, PassesAt CX X σ (E σ))
    (ha : PA X (e :: es) t) (hdb : (x == ("__debug__" : Str)) = false) (he : starEach (e :: es) X.env = (false, eval e X.env) :: starEach es X.env) (hpl : (backTo pos (starEach es X.env)).any (·.1) = false) :
    PE X (.Call (.Name x p) (e :: es) [] pos) (tMakeS C sp E t) := by
  refine ⟨fun pins s σ H Q I h => ?_⟩
  refine wpAny_Call_Name_kw (ld_glob I hg hm ?_ hdb)
  refine PySem.W.callWith_K (h₀ := X.base) I.ok.mod.kin M.kp (thn (ha.run pos pins s σ H _ I h) fun us s1 ⟨vs, H1, I1, r, q⟩ => ⟨I1.kIn, ?_⟩) he hpl
  exact run_makeS M F hr hb (hx σ) I1 r q
theorem pe_makeS0 (M : Mk X.K C f) (F : FnOk X.prog X.w X.K X.mg X.base CX k f fd ps sp) (hr : Room (k + 1) X.A) (hg : Gl X x) (hm : X.mg x = some (.ref C)) (hb : Binds X.K fd ps []) (hx : ∀ σ, PassesAt CX X σ (E σ))
    (hdb : (x == ("__debug__" : Str)) = false) : PE X (.Call (.Name x p) [] [] pos) (tMakeS C sp E tNil) := by
  refine ⟨fun pins s σ H Q I h => ?_⟩
  refine wpAny_Call_Name_kw (ld_glob I hg hm ?_ hdb)
  exact PySem.W.callWith_K0 I.kIn M.kp (run_makeS (us := []) M F hr hb (hx σ) I .nil h)
end
/-! ### what is matched -/
def notStar : Expr → Bool
  | .Starred _ _ => false
  | _ => true
def notSlice : Expr → Bool
  | .Slice _ _ _ _ => false
  | _ => true
def notSet : Expr → Bool
  | .Set _ _ _ => false
  | _ => true
def notComp : Expr → Bool
  | .ListComp _ _ _ _ => false
  | .SetComp _ _ _ _ => false
  | .DictComp _ _ _ _ _ => false
  | _ => true
/-- no call without arguments (it may be super()) -/
def plainBase : Expr → Bool
  | .Call (.Name _ _) [] [] _ => false
  | _ => true
theorem star_of {e : Expr} (h : notStar e = true) (es : List Expr) (env : Env) : starEach (e :: es) env = (false, eval e env) :: starEach es env := by
  cases e <;> first | rfl | (simp [notStar] at h)
theorem base_of {e : Expr} (h : plainBase e = true) (f : Str) (env : Env) : attributeBase e f env (eval e env) = eval e env := by
  unfold attributeBase
  split
  · simp [plainBase] at h
  · rfl
theorem plainIx_of {e : Expr} (h : notSlice e = true) : PlainIx e := by
  cases e <;> first | exact fun _ _ => rfl | (simp [notSlice] at h)
theorem noSl_of {e : Expr} (h : notSlice e = true) : NoSl e := by
  cases e <;> first | exact fun _ _ => rfl | (simp [notSlice] at h)
theorem behind_of {e : Expr} (h : notSet e = true) (op : CmpOp) : behindInMarks op e = false := by
  cases e <;> first | rfl | (simp [notSet] at h)
theorem swaps_of {e : Expr} (h : notComp e = true) (t : Option Expr) (l : Nat) (env : Env) : swapsWith e t l env = Pure.pure false := by
  cases e <;> first | rfl | (simp [notComp] at h)
theorem noneStar : ∀ {es : List Expr} (pos : Pos) (env : Env), es.all notStar = true → (backTo pos (starEach es env)).any (·.1) = false
  | [], _, _, _ => rfl
  | e :: es, pos, env, h => by
    simp only [List.all_cons, Bool.and_eq_true] at h
    have ih := noneStar pos env h.2
    rw [star_of h.1]
    cases es with
    | nil => rfl
    | cons e2 es2 =>
      simp only [List.all_cons, Bool.and_eq_true] at h
      rw [star_of h.2.1] at ih ⊢
      exact ih
end PyI
namespace PyI
open PySem PySem.Spec PyProof.Rows L2
/-! ### the text's names -/
/-- names: of functions, classes, errors, constants, ids -/
structure Gam where
  fnm : List Str
  cnm : List Str
  xnm : List Str
  knm : List Str
  nms : List Str
  /-- built-in names that the text leaves as they are -/
  blt : List Str
  /-- how many of the errors may be raised -/
  nx : Nat
/-- a def's names -/
structure SC where
  N : List Str
  sc : Scope
  /-- a def's own body (no comprehension's block) -/
  top : Bool
def SC.vis (c : SC) (x : Str) : Bool := match c.sc.names.lookup x with
  | some .local => true
  | some .cell => true
  | some .free => true
  | _ => false
def SC.gl (c : SC) (x : Str) : Bool := decide (c.sc.names.lookup x = some .globalImplicit) && !(x == ("__debug__" : Str)) && decide (x ≠ "__name__")
def SC.slot (c : SC) (i : Nat) (x : Str) : Bool := decide (c.N[i]? = some x) && c.vis x && !(x == ("__debug__" : Str)) && !(x == ("__classdict__" : Str))
/-- a name that is stored -/
def SC.loc (c : SC) (i : Nat) (x : Str) : Bool := decide (c.N[i]? = some x) && (decide (c.sc.names.lookup x = some .local) || (c.top && decide (c.sc.names.lookup x = some .cell)))
def mTg (c : SC) : Tgt → Expr → Bool
  | .v i, .Name x _ => c.loc i x
  | .t is, .Tuple xs _ _ => go is xs
  | _, _ => false
where
  go : List Nat → List Expr → Bool
    | [], [] => true
    | i :: is, .Name x _ :: xs => c.loc i x && go is xs
    | _, _ => false
def isTup : Expr → Bool
  | .Tuple _ _ _ => true
  | _ => false
/-- the block's own names -/
def mOwn (c : SC) (tg : Tgt) : List (Str × Nat) := tg.slots.filterMap fun i => (c.N[i]?).map fun x => (x, i)
def SC.blk (c : SC) (scope : Scope) : SC := { N := c.N, sc := relS scope c.sc, top := false }
def Gam.bl (G : Gam) (c : SC) (x : Str) (n : Str) : Bool := decide (x = n) && c.gl x && decide (x ∈ G.blt)
def mLit : Lit → Const → Bool
  | .non, .none => true
  | .bl b, .bool c => b == c
  | .int i, .int j => decide (i = j)
  | .str s, .str x => decide (toStr s = x)
  | _, _ => false
def Ty.name : Ty → Option String
  | .int => some "int"
  | .bool => some "bool"
  | .str => some "str"
  | .tuple => some "tuple"
  | .list => some "list"
  | .cls _ => none
def Blt.name : Blt → Option Str
  | .len => some "len"
  | .int => some "int"
  | .lst => some "list"
  | .tup => some "tuple"
  | .max2 => some "max"
  | .min2 => some "min"
  | .sum => some "sum"
  | .srt => some "sorted"
  | .ord => some "ord"
  | .str => some "str"
  | .dct => some "dict"
  | _ => none
def Bm.name : Bm → Str
  | .append => "append" | .extend => "extend" | .get => "get" | .pop => "pop" | .add => "add" | .insert => "insert" | .index => "index" | .count => "count"
  | .join => "join" | .split => "split" | .starts => "startswith" | .upper => "upper" | .clear => "clear" | .remove => "remove" | .none => ""
section
variable (G : Gam)
mutual
def mE (c : SC) : Ex → Expr → Bool
  | .lit l, x => match x with
    | .Constant k _ _ => mLit l k
    | _ => false
  | .var i, x => match x with
    | .Name n _ => c.slot i n
    | _ => false
  | .con g, x => match x with
    | .Name n _ => decide (G.knm[g]? = some n) && c.gl n
    | _ => false
  | .bin o a b, x => match x with
    | .BinOp l op r _ => decide (op = bopOf o) && mE c a l && mE c b r
    | _ => false
  | .neg a, x => match x with
    | .UnaryOp .USub l _ => mE c a l
    | _ => false
  | .nt a, x => match x with
    | .UnaryOp .Not l _ => mE c a l
    | _ => false
  | .and a b, x => match x with
    | .BoolOp .And [l, r] _ => mE c a l && mE c b r
    | .BoolOp .And (l :: r :: s :: rest) p => mE c a l && mE c b (.BoolOp .And (r :: s :: rest) p)
    | _ => false
  | .or a b, x => match x with
    | .BoolOp .Or [l, r] _ => mE c a l && mE c b r
    | .BoolOp .Or (l :: r :: s :: rest) p => mE c a l && mE c b (.BoolOp .Or (r :: s :: rest) p)
    | _ => false
  | .cmp o a b, x => match x with
    | .Compare l [op] [r] _ => decide (op = copOf o) && notSet r && mE c a l && mE c b r
    | _ => false
  | .chn o p a b d, x => match x with
    | .Compare l [op, op2] [r, s] _ => decide (op = copOf o) && decide (op2 = copOf p) && notSet s && mE c a l && mE c b r && mE c d s
    | _ => false
  | .isN n a, x => match x with
    | .Compare l [op] [.Constant .none _ _] _ => decide (op = if n then .IsNot else .Is) && mE c a l
    | _ => false
  | .isB n b a, x => match x with
    | .Compare l [op] [.Constant (.bool k) _ _] _ => decide (op = if n then .IsNot else .Is) && decide (k = b) && mE c a l
    | _ => false
  | .tup es, x => match x with
    | .Tuple xs _ _ => mEs c es xs
    | _ => false
  | .lst es, x => match x with
    | .List xs _ => mEs c es xs
    | _ => false
  | .dik ks es, x => match x with
    | .Dict [] [] _ => (match ks, es with | .nil, .nil => true | _, _ => false)
    | _ => false
  | .dit, x => match x with
    | .Dict [] [] _ => true
    | _ => false
  | .ix a i, x => match x with
    | .Subscript l r _ => notSlice r && mE c a l && mE c i r
    | _ => false
  | .sl a lo hi, x => match x with
    | .Subscript l (.Slice u v none _) _ => mE c a l && mOE c lo u && mOE c hi v
    | _ => false
  | .att a f, x => match x with
    | .Attribute l n _ => decide (G.nms[f]? = some n) && plainBase l && mE c a l
    | _ => false
  | .cal f es, x => match x with
    | .Call (.Name n _) xs [] _ => decide (G.fnm[f]? = some n) && c.gl n && mEs c es xs
    | _ => false
  | .mk d es, x => match x with
    | .Call (.Name n _) xs [] _ => decide (G.cnm[d]? = some n) && c.gl n && mEs c es xs
    | _ => false
  | .met a m b es, x => match x with
    | .Call (.Attribute l n ap) xs [] p => decide (G.nms[m]? = some n) && (decide (n = b.name) || decide (b = .none)) && (ap.endLine == p.line) && decide (xs.length < 20) && plainBase l && mE c a l && mEs c es xs
    | _ => false
  | .blt b es, x => match x with
    | .Call (.Name n _) xs kw _ => (match kw, b with
      | [], .set => false
      | [], b => (match b.name with
        | some s => G.bl c n s && mEs c es xs && (match xs with | [] => false | _ => true)
        | none => false)
      | [⟨some r, .Constant (.bool true) _ _, _⟩], .srtR => G.bl c n "sorted" && decide (r = "reverse") && mEs c es xs && (match xs with | [] => false | _ => true)
      | _, _ => false)
    | _ => false
  | .isi a t, x => match x with
    | .Call (.Name n _) [l, .Name tn _] [] _ => G.bl c n "isinstance" && notStar l && mE c a l && (match t.name with
      | some s => G.bl c tn (s : Str)
      | none => false)
    | _ => false
  | .lr1 e, x => match x with
    | .Call (.Name n _) [.Call (.Name r _) [y] [] _] [] _ => G.bl c n "list" && G.bl c r "range" && notStar y && mE c e y
    | _ => false
  | .lr2 a b, x => match x with
    | .Call (.Name n _) [.Call (.Name r _) [y, z] [] _] [] _ => G.bl c n "list" && G.bl c r "range" && notStar y && notStar z && mE c a y && mE c b z
    | _ => false
  | .comp tg it cond e, x => match x with
    | .ListComp elt [⟨t, i, ifs, 0⟩] scope _ => notSet i && mI c it t i && blkC c.N c.sc scope (mOwn c tg) && mTg (c.blk scope) tg t && mE (c.blk scope) e elt && mOT (c.blk scope) cond ifs
    | _ => false
def mEs (c : SC) : Exs → List Expr → Bool
  | .nil, xs => match xs with
    | [] => true
    | _ => false
  | .cons e es, xs => match xs with
    | x :: r => notStar x && mE c e x && mEs c es r
    | [] => false
def mOE (c : SC) : OEx → Option Expr → Bool
  | .no, x => match x with
    | none => true
    | _ => false
  | .so e, x => match x with
    | some y => mE c e y
    | none => false
def mOT (c : SC) : OTe → List Expr → Bool
  | .no, x => match x with
    | [] => true
    | _ => false
  | .so e, x => match x with
    | [y] => mT c e y
    | _ => false
/-- a test -/
def mT (c : SC) : Te → Expr → Bool
  | .e a, x => match x with
    | .BoolOp _ _ _ => false
    | .UnaryOp .Not _ _ => false
    | .IfExp _ _ _ _ => false
    | x => mE c a x
  | .nt a, x => match x with
    | .UnaryOp .Not y _ => mT c a y
    | _ => false
  | .and a b, x => match x with
    | .BoolOp .And [l, r] _ => mT c a l && mT c b r
    | .BoolOp .And (l :: r :: s :: rest) p => mT c a l && mT c b (.BoolOp .And (r :: s :: rest) p)
    | _ => false
  | .or a b, x => match x with
    | .BoolOp .Or [l, r] _ => mT c a l && mT c b r
    | .BoolOp .Or (l :: r :: s :: rest) p => mT c a l && mT c b (.BoolOp .Or (r :: s :: rest) p)
    | _ => false
/-- what a for walks: the target, the iterable -/
def mI (c : SC) : Itx → Expr → Expr → Bool
  | .val e, _, x => mE c e x
  | .rng1 e, _, x => match x with
    | .Call (.Name r _) [y] [] _ => G.bl c r "range" && notStar y && mE c e y
    | _ => false
  | .rng2 a b, _, x => match x with
    | .Call (.Name r _) [y, z] [] _ => G.bl c r "range" && notStar y && notStar z && mE c a y && mE c b z
    | _ => false
  | .enum e, t, x => match x with
    | .Call (.Name r _) [y] [] _ => isTup t && G.bl c r "enumerate" && notStar y && mE c e y
    | _ => false
  | .zip _ _, _, _ => false
  | .rev e, _, x => match x with
    | .Call (.Name r _) [y] [] _ => G.bl c r "reversed" && notStar y && mE c e y
    | _ => false
  | .items _, _, _ => false
end
end
/-! ### what is known -/
structure Tab2 extends Tab where
  fd : Nat → FuncData
  ps : Nat → List Str
  inj : ∀ i j, nm i = nm j → i = j
/-- what a function promises -/
def spR (K : PySem.W.Frag) (T : Tab) (w : World) (f : List Val → Mem → Res Val) : Sp := fun xs H Q E =>
  ∃ φ h vs, Rel K T w φ H h ∧ RVs K T φ H vs xs ∧ okR K T w (RV K T) φ H Q (fun c G => E (T.exn c) none G) (f vs h)
def FnsOk (P : Pg) (T : Tab2) (X : Cx) (k : Nat) (call : Nat → List Val → Mem → Res Val) : Prop :=
  ∀ i F, P.fns[i]? = some F → FnOk X.prog X.w X.K X.mg X.base (CX X.prog X.w) k (T.fn i) (T.fd i) (T.ps i) (spR X.K T.toTab X.w (call i))
structure Wd (P : Pg) (G : Gam) (T : Tab2) (K : PySem.W.Frag) (mg : Str → Option Value) : Prop where
  blt : ∀ x ∈ G.blt, mg x = none
  fns : ∀ (i : Nat) (x : Str), G.fnm[i]? = some x → i < P.fns.length ∧ mg x = some (.ref (T.fn i)) ∧ PySem.W.keepIn K (.ref (T.fn i)) = true
  bnd : ∀ (i : Nat) (F : Fn), P.fns[i]? = some F → Binds K (T.fd i) (T.ps i) []
  kon : ∀ (g : Nat) (x : Str), G.knm[g]? = some x → ∃ v u y, P.kon[g]? = some v ∧ mg x = some u ∧ RelV y u ∧ ∀ φ H, RV K T.toTab φ H v y
  nms : ∀ (i : Nat) (x : Str), G.nms[i]? = some x → T.nm i = x
  cls : ∀ (d : Nat) (C : Cl), P.cls[d]? = some C → Cls K (T.cls d) ∧ (∀ f ∈ C.fs, NoAttr K (T.cls d) (T.nm f)) ∧ (∀ m g, C.ms.lookup m = some g → g < P.fns.length ∧ Meth K (T.cls d) (T.nm m) (T.fn g)) ∧
    (∀ m g, C.ps.lookup m = some g → g < P.fns.length ∧ ∃ p, PropOf K (T.cls d) (T.nm m) p (T.fn g)) ∧ C.ini < P.fns.length ∧ Mk K (T.cls d) (T.fn C.ini)
  cnm : ∀ (d : Nat) (x : Str), G.cnm[d]? = some x → d < P.cls.length ∧ mg x = some (.ref (T.cls d))
  /-- errors that may be raised -/
  rse : ∀ (d : Nat) (x : Str), d < G.nx → G.xnm[d]? = some x → ∃ A B newId initId bmB, T.exn d = .ref A ∧ mg x = some (.ref A) ∧ PySem.W.keepIn K (.ref A) = true ∧ ExcBaseFacts B newId initId bmB ∧ PySem.W.excIn K A bmB newId = true ∧
    PySem.W.subIn K (.ref A) (.type "BaseException") = some true ∧ PySem.W.typeIn K (.ref A) = some (.type "type")
  /-- errors that are named -/
  exn : ∀ (d : Nat) (x : Str), G.xnm[d]? = some x → mg x = some (T.exn d) ∨ (mg x = none ∧ bootBuiltins x = some (T.exn d))
  exm : ∀ (e d : Nat) (b : Bool), P.exc e d = some b → PySem.W.exmOne K (T.exn e) (T.exn d) = some b ∧ PySem.W.kitOne K (T.exn e) (T.exn d) = some b ∧ ∃ D, T.exn e = .ref D ∧ ExcC K D
  exv : ∀ (d : Nat) (x : Str), G.xnm[d]? = some x → ∃ u, RelV u (T.exn d) ∧ ∀ z, RelV u z → z = T.exn d
structure Ctx (P : Pg) (G : Gam) (T : Tab2) (c : SC) (X : Cx) (call callI : Nat → List Val → Mem → Res Val) (W : WX) (k : Nat) : Prop where
  N : X.N = c.N
  nd : c.N.Nodup
  sc : X.env.scope = c.sc
  calm : X.calm = true
  room : Room k X.A
  wd : Wd P G T X.K X.mg
  call : FnsOk P T X k call
  callI : ∃ j, j + 1 ≤ k ∧ FnsOk P T X j callI
  tk : Takes X W
  fnt : c.top = true → X.fn = fun _ => true
section
variable {P : Pg} {G : Gam} {T : Tab2} {c : SC} {X : Cx} {call callI : Nat → List Val → Mem → Res Val} {W : WX} {k : Nat}
theorem Ctx.un (C : Ctx P G T c X call callI W k) : X.A.units + 65 < cLine := by have := C.room.un; omega
theorem Ctx.vis (C : Ctx P G T c X call callI W k) {x : Str} (h : c.vis x = true) : Vis X.env.scope x := by
  rw [C.sc]
  unfold SC.vis at h
  unfold Vis
  split at h <;> first | contradiction | simp_all
theorem Ctx.gl (C : Ctx P G T c X call callI W k) {x : Str} (h : c.gl x = true) : Gl X x ∧ (x == ("__debug__" : Str)) = false ∧ x ≠ "__name__" := by
  unfold SC.gl at h
  simp only [Bool.and_eq_true, decide_eq_true_eq, Bool.not_eq_true'] at h
  refine ⟨?_, h.1.2, h.2⟩
  show X.env.scope.names.lookup x = _
  rw [C.sc]; exact h.1.1
theorem Ctx.var (C : Ctx P G T c X call callI W k) {i : Nat} {x : Str} {pos : Pos} (h : c.slot i x = true) : PE X (.Name x pos) (tVar i) := by
  unfold SC.slot at h
  simp only [Bool.and_eq_true, decide_eq_true_eq, Bool.not_eq_true'] at h
  exact pe_var (by rw [C.N]; exact h.1.1.1) (C.vis h.1.1.2) h.1.2 h.2
theorem Ctx.blt (C : Ctx P G T c X call callI W k) {x n : Str} (h : G.bl c x n = true) : x = n ∧ Gl X x ∧ X.mg x = none ∧ (x == ("__debug__" : Str)) = false ∧ x ≠ "__name__" := by
  unfold Gam.bl at h
  simp only [Bool.and_eq_true, decide_eq_true_eq] at h
  obtain ⟨g, d, n⟩ := C.gl h.1.2
  exact ⟨h.1.1, g, C.wd.blt _ h.2, d, n⟩
end
end PyI
namespace PyI
open PySem PySem.Spec PyProof.Rows L2
section
variable {P : Pg} {G : Gam} {T : Tab2} {c : SC} {X : Cx} {call callI : Nat → List Val → Mem → Res Val} {W : WX} {k : Nat}
abbrev SE (P : Pg) (T : Tab2) (X : Cx) (call callI : Nat → List Val → Mem → Res Val) (W : WX) (e : Ex) (x : Expr) : Prop := PE X x (tV X.K T.toTab X.w W (ev P call callI e))
abbrev SEs (P : Pg) (T : Tab2) (X : Cx) (call callI : Nat → List Val → Mem → Res Val) (W : WX) (es : Exs) (xs : List Expr) : Prop := PA X xs (tVs X.K T.toTab X.w W (evs P call callI es))
theorem s_lit (C : Ctx P G T c X call callI W k) (l : Lit) (x : Expr) (h : mE G c (.lit l) x = true) : SE P T X call callI W (.lit l) x := by
  simp only [mE] at h
  split at h
  · rename_i kk a b
    have fin : ∀ {y : V}, (∀ φ H, RV X.K T.toTab φ H l.val y) → ∀ σ H Q, tV X.K T.toTab X.w W (ev P call callI (.lit l)) σ H Q → Q y H := fun {y} hy σ H Q ⟨φ, h, fr, R, F, o⟩ => okR.ok (v := l.val) o R (hy φ H)
    cases l <;> cases kk <;> simp only [mLit, Bool.false_eq_true, beq_iff_eq, decide_eq_true_eq] at h
    · exact peI pe_non (fin fun _ _ => rfl)
    · subst h; exact peI pe_bl (fin fun _ _ => rfl)
    · subst h; exact peI pe_int (fin fun _ _ => rfl)
    · subst h; exact peI pe_str (fin fun _ _ => rfl)
  · cases h
theorem s_var (C : Ctx P G T c X call callI W k) (i : Nat) (x : Expr) (h : mE G c (.var i) x = true) : SE P T X call callI W (.var i) x := by
  simp only [mE] at h
  split at h
  · refine peI (C.var h) fun σ H Q ⟨φ, h, fr, R, F, o⟩ => ?_
    simp only [ev] at o
    split at o
    · rename_i v e
      obtain ⟨y, e2, r⟩ := F.2 i v e
      exact ⟨y, e2, o.ok R r⟩
    · exact False.elim o
  · cases h
theorem s_con (C : Ctx P G T c X call callI W k) (g : Nat) (x : Expr) (h : mE G c (.con g) x = true) : SE P T X call callI W (.con g) x := by
  simp only [mE] at h
  split at h
  · simp only [Bool.and_eq_true, decide_eq_true_eq] at h
    obtain ⟨v, u, y, e1, e2, e3, e4⟩ := C.wd.kon _ _ h.1
    obtain ⟨g1, g2, g3⟩ := C.gl h.2
    refine peI (pe_glob g1 e2 e3 g2) fun σ H Q ⟨φ, h, fr, R, F, o⟩ => ?_
    simp only [ev] at o
    obtain ⟨v', e, o⟩ := o.pure
    rw [e1] at e; cases e
    exact o.ok R (e4 φ H)
  · cases h
theorem s_bin (C : Ctx P G T c X call callI W k) {o : Bop} {a b : Ex} {l r : Expr} {pos : Pos} (ha : SE P T X call callI W a l) (hb : SE P T X call callI W b r) : SE P T X call callI W (.bin o a b) (.BinOp l (bopOf o) r pos) := by
  refine peI (pe_op (bin_ok (T := T.toTab) o) ha hb) fun σ H Q h => ?_
  exact (tR.bind2 (R1 := RV X.K T.toTab) (R2' := RV X.K T.toTab) (f := fun _ v u h => binV o v u h) rvmono h).mono fun x H1 q => q.mono fun y H2 ⟨v, u, φ, h2, fr, R, F, q1, q2, o⟩ => ⟨_, v, u, φ, h2, R, q1, q2, o⟩
theorem s_neg (C : Ctx P G T c X call callI W k) {a : Ex} {l : Expr} {pos : Pos} (ha : SE P T X call callI W a l) : SE P T X call callI W (.neg a) (.UnaryOp .USub l pos) := by
  refine peI (pe_un un_neg ha) fun σ H Q h => ?_
  refine (tR.bind1 (R1 := RV X.K T.toTab) (f := fun _ (v : Val) h1 => (match v with | .int i => Res.ok (Val.int (-i)) h1 | _ => Res.bad : Res Val)) h).mono fun x H1 ⟨v, φ, h1, fr, R, F, q, o⟩ => ?_
  cases v <;> first | exact False.elim o | skip
  exact ⟨_, q, o.ok R rfl⟩
theorem s_nt (C : Ctx P G T c X call callI W k) {a : Ex} {l : Expr} {pos : Pos} (ha : SE P T X call callI W a l) : SE P T X call callI W (.nt a) (.UnaryOp .Not l pos) := by
  refine peI (pe_notT ha) fun σ H Q h => ?_
  refine (tR.bind1 (R1 := RV X.K T.toTab) (f := fun _ v h1 => (pure h1 (tru h1 v)).bind fun t h1 => Res.ok (Val.bl (!t)) h1) h).mono fun x H1 ⟨v, φ, h1, fr, R, F, q, o⟩ => ?_
  obtain ⟨t, e, o⟩ := o.pbind
  exact ⟨t, tru_V R q e, o.ok R rfl⟩
theorem s_and (C : Ctx P G T c X call callI W k) {a b : Ex} {l r : Expr} {rest : List Expr} {pos : Pos} (ha : SE P T X call callI W a l) (hb : SE P T X call callI W b (.BoolOp .And (r :: rest) pos)) :
    SE P T X call callI W (.and a b) (.BoolOp .And (l :: r :: rest) pos) := by
  refine peI (pe_andT ha hb) fun σ H Q h => ?_
  refine (tR.bind1 (R1 := RV X.K T.toTab) (f := fun fr v h1 => (pure h1 (tru h1 v)).bind fun t h1 => if t then ev P call callI b fr h1 else Res.ok v h1) h).mono fun x H1 ⟨v, φ, h1, fr, R, F, q, o⟩ => ?_
  obtain ⟨t, e, o⟩ := o.pbind
  refine ⟨t, tru_V R q e, ?_⟩
  cases t with
  | true => rw [if_pos rfl] at o ⊢; exact ⟨φ, h1, fr, R, F, o⟩
  | false => rw [if_neg Bool.false_ne_true] at o ⊢; exact o.ok R q
theorem s_or (C : Ctx P G T c X call callI W k) {a b : Ex} {l r : Expr} {rest : List Expr} {pos : Pos} (ha : SE P T X call callI W a l) (hb : SE P T X call callI W b (.BoolOp .Or (r :: rest) pos)) :
    SE P T X call callI W (.or a b) (.BoolOp .Or (l :: r :: rest) pos) := by
  refine peI (pe_orT ha hb) fun σ H Q h => ?_
  refine (tR.bind1 (R1 := RV X.K T.toTab) (f := fun fr v h1 => (pure h1 (tru h1 v)).bind fun t h1 => if t then Res.ok v h1 else ev P call callI b fr h1) h).mono fun x H1 ⟨v, φ, h1, fr, R, F, q, o⟩ => ?_
  obtain ⟨t, e, o⟩ := o.pbind
  refine ⟨t, tru_V R q e, ?_⟩
  cases t with
  | false => rw [if_neg Bool.false_ne_true] at o ⊢; exact ⟨φ, h1, fr, R, F, o⟩
  | true => rw [if_pos rfl] at o ⊢; exact o.ok R q
theorem r_cmp {o : Cop} {a b : Ex} {σ : L2.St} {H : L2.Hp} {Q : VK} (h : tV X.K T.toTab X.w W (ev P call callI (.cmp o a b)) σ H Q) :
    tOp (rCm X.K T.toTab X.w o) (tV X.K T.toTab X.w W (ev P call callI a)) (tV X.K T.toTab X.w W (ev P call callI b)) σ H Q := by
  refine (tR.bind2 (R1 := RV X.K T.toTab) (R2' := RV X.K T.toTab) (f := fun _ v u h => (pure h (cmpV h o v u)).bind fun t h2 => Res.ok (Val.bl t) h2) rvmono h).mono fun x H1 q => q.mono fun y H2 ⟨v, u, φ, h2, fr, R, F, q1, q2, o⟩ => ?_
  obtain ⟨t, e, o⟩ := o.pbind
  exact ⟨v, u, φ, h2, t, R, q1, q2, e, o.ok R rfl⟩
theorem s_cmp (C : Ctx P G T c X call callI W k) {o : Cop} {a b : Ex} {l r : Expr} {pos : Pos} (hs : notSet r = true) (ha : SE P T X call callI W a l) (hb : SE P T X call callI W b r) :
    SE P T X call callI W (.cmp o a b) (.Compare l [copOf o] [r] pos) := by
  refine peI (pe_cmpR (cmp_ok (T := T.toTab) C.un o) ha hb (behind_of hs _)) fun σ H Q h => r_cmp h
theorem r_chn {o p : Cop} {a b d : Ex} {σ : L2.St} {H : L2.Hp} {Q : VK} (h : tV X.K T.toTab X.w W (ev P call callI (.chn o p a b d)) σ H Q) :
    tChain (rCm X.K T.toTab X.w o) (rCm X.K T.toTab X.w p) (tV X.K T.toTab X.w W (ev P call callI a)) (tV X.K T.toTab X.w W (ev P call callI b)) (tV X.K T.toTab X.w W (ev P call callI d)) σ H Q := by
  refine (tR.bind2 (R1 := RV X.K T.toTab) (R2' := RV X.K T.toTab) (f := fun fr v w h2 => (pure h2 (cmpV h2 o v w)).bind fun t h2 =>
    if t then (ev P call callI d fr h2).bind fun x h3 => (pure h3 (cmpV h3 p w x)).bind fun t h3 => Res.ok (Val.bl t) h3 else Res.ok (Val.bl false) h2) rvmono h).mono fun x H1 q => q.mono fun y H2 ⟨v, u, φ, h2, fr, R, F, q1, q2, o⟩ => ?_
  obtain ⟨t, e, o⟩ := o.pbind
  refine ⟨v, u, φ, h2, t, R, q1, q2, e, t, rfl, ?_⟩
  cases t with
  | false => rw [if_neg Bool.false_ne_true] at o ⊢; exact o.ok R rfl
  | true =>
    rw [if_pos rfl] at o ⊢
    refine ⟨φ, h2, fr, R, F, o.bind.mono fun z H3 ⟨x3, ψ, h3, e3, R3, q3, o3⟩ => ?_⟩
    obtain ⟨t, e, o⟩ := o3.pbind
    exact ⟨u, x3, ψ, h3, t, R3, q2.mono e3 _ _, q3, e, o.ok R3 rfl⟩
theorem s_chn (C : Ctx P G T c X call callI W k) {o p : Cop} {a b d : Ex} {l r s : Expr} {pos : Pos} (hs : notSet s = true) (ha : SE P T X call callI W a l) (hb : SE P T X call callI W b r) (hd : SE P T X call callI W d s) :
    SE P T X call callI W (.chn o p a b d) (.Compare l [copOf o, copOf p] [r, s] pos) := by
  exact peI (pe_chain (cmp_ok (T := T.toTab) C.un o) (cmp_ok (T := T.toTab) C.un p) ha hb hd (behind_of hs _)) fun σ H Q h => r_chn h
theorem s_isN (C : Ctx P G T c X call callI W k) {n : Bool} {a : Ex} {l : Expr} {j : Nat} {p1 pos : Pos} (ha : SE P T X call callI W a l) :
    SE P T X call callI W (.isN n a) (.Compare l [if n then .IsNot else .Is] [.Constant .none j p1] pos) := by
  have nn : ∀ {v : Val} {x : V} {φ : List Addr} {H : L2.Hp}, RV X.K T.toTab φ H v x → decide (x = V.non) = (match v with | .non => true | _ => false) := fun {v x φ H} q => by
    cases v <;> simp only [] <;> first | (rw [show x = _ from q]; rfl) | (obtain ⟨a, vs, e, _⟩ := q; subst e; rfl) | (obtain ⟨a, _, e⟩ := q; subst e; rfl)
  cases n with
  | true =>
    refine peI (pe_cmp (pc_notN ha)) fun σ H Q h => ?_
    refine (tR.bind1 (R1 := RV X.K T.toTab) (f := fun _ (v : Val) h1 => Res.ok (Val.bl (match v with | .non => !true | _ => true)) h1) h).mono fun x H1 ⟨v, φ, h1, fr, R, F, q, o⟩ => ?_
    have := o.ok R rfl
    show Q (.bl (!decide (x = V.non))) H1
    rw [nn q]
    cases v <;> exact this
  | false =>
    refine peI (pe_cmp (pc_isN ha)) fun σ H Q h => ?_
    refine (tR.bind1 (R1 := RV X.K T.toTab) (f := fun _ (v : Val) h1 => Res.ok (Val.bl (match v with | .non => !false | _ => false)) h1) h).mono fun x H1 ⟨v, φ, h1, fr, R, F, q, o⟩ => ?_
    have := o.ok R rfl
    show Q (.bl (decide (x = V.non))) H1
    rw [nn q]
    cases v <;> exact this
theorem s_isB (C : Ctx P G T c X call callI W k) {n b : Bool} {a : Ex} {l : Expr} {j : Nat} {p1 pos : Pos} (ha : SE P T X call callI W a l) :
    SE P T X call callI W (.isB n b a) (.Compare l [if n then .IsNot else .Is] [.Constant (.bool b) j p1] pos) := by
  cases n with
  | true =>
    refine peI (pe_cmpR op_notBl ha pe_bl (nomark _)) fun σ H Q h => ?_
    refine (tR.bind1 (R1 := RV X.K T.toTab) (f := fun _ (v : Val) h1 => (match v with | .bl c => Res.ok (Val.bl (if true then !decide (c = b) else decide (c = b))) h1 | _ => Res.bad : Res Val)) h).mono fun x H1 ⟨v, φ, h1, fr, R, F, q, o⟩ => ?_
    cases v <;> first | exact False.elim o | skip
    rw [show x = _ from q]
    exact ⟨_, b, rfl, rfl, o.ok R rfl⟩
  | false =>
    refine peI (pe_cmpR op_isBl ha pe_bl (nomark _)) fun σ H Q h => ?_
    refine (tR.bind1 (R1 := RV X.K T.toTab) (f := fun _ (v : Val) h1 => (match v with | .bl c => Res.ok (Val.bl (if false then !decide (c = b) else decide (c = b))) h1 | _ => Res.bad : Res Val)) h).mono fun x H1 ⟨v, φ, h1, fr, R, F, q, o⟩ => ?_
    cases v <;> first | exact False.elim o | skip
    rw [show x = _ from q]
    exact ⟨_, b, rfl, rfl, o.ok R rfl⟩
theorem s_tup (C : Ctx P G T c X call callI W k) {es : Exs} {xs : List Expr} {j : Nat} {pos : Pos} (ha : SEs P T X call callI W es xs) : SE P T X call callI W (.tup es) (.Tuple xs j pos) := by
  refine peI (pe_tup ha) fun σ H Q h => ?_
  refine (tR.bind1 (R1 := RVs X.K T.toTab) (f := fun _ vs h1 => if vs.length ≤ szl then Res.ok (Val.tup vs) h1 else Res.bad) h).mono fun x H1 ⟨v, φ, h1, fr, R, F, q, o⟩ => ?_
  split at o
  · rename_i hl
    exact ⟨by rw [q.length]; exact hl, o.newT R q⟩
  · exact False.elim o
theorem s_lst (C : Ctx P G T c X call callI W k) {es : Exs} {xs : List Expr} {pos : Pos} (ha : SEs P T X call callI W es xs) : SE P T X call callI W (.lst es) (.List xs pos) := by
  refine peI (pe_lst ha) fun σ H Q h => ?_
  refine (tR.bind1 (R1 := RVs X.K T.toTab) (f := fun _ vs h1 => if vs.length ≤ szl then new h1 (.lst vs) else Res.bad) h).mono fun x H1 ⟨v, φ, h1, fr, R, F, q, o⟩ => ?_
  split at o
  · rename_i hl
    exact ⟨by rw [q.length]; exact hl, o.new R fun ψ G _ e => ⟨_, rfl, q.mono e _ _⟩⟩
  · exact False.elim o
theorem s_dik (C : Ctx P G T c X call callI W k) {pos : Pos} : SE P T X call callI W (.dik .nil .nil) (.Dict [] [] pos) :=
  peI pe_dnewK fun σ H Q ⟨φ, h, fr, R, F, o⟩ => okR.new (ob := .dik []) o R fun ψ G _ e => ⟨_, rfl, rfl⟩
theorem s_dit (C : Ctx P G T c X call callI W k) {pos : Pos} : SE P T X call callI W .dit (.Dict [] [] pos) :=
  peI pe_dnewT fun σ H Q ⟨φ, h, fr, R, F, o⟩ => okR.new (ob := .dit []) o R fun ψ G _ e => ⟨_, rfl, rfl⟩
end
end PyI
namespace PyI
open PySem PySem.Spec PyProof.Rows L2
section
variable {α β γ δ : Type} {K : PySem.W.Frag} {T : Tab} {w : World} {φ ψ : List Addr} {H G : L2.Hp} {h : Mem} {RR : List Addr → L2.Hp → α → β → Prop} {RR' : List Addr → L2.Hp → γ → δ → Prop}
  {Q : β → L2.Hp → Prop} {E : Nat → L2.Hp → Prop}
theorem okR.bindE {r : Res γ} {f : γ → Mem → Res α} (o : okR K T w RR φ H Q E (r.bind f)) :
    okR K T w RR' φ H (fun x H1 => ∃ v ψ h1, r = .ok v h1 ∧ Ext φ H ψ H1 ∧ Rel K T w ψ H1 h1 ∧ RR' ψ H1 v x ∧ okR K T w RR ψ H1 Q E (f v h1)) E r := by
  cases r with
  | ok v h => exact fun χ F x e2 R q => ⟨v, χ, h, rfl, e2, R, q, o.ext e2⟩
  | exc c h => exact o
  | bad => exact o
end
theorem peOr {X : Cx} {e : Expr} {t u : TE} (p : PE X e t) (q : PE X e u) : PE X e (fun σ H Q => t σ H Q ∨ u σ H Q) := ⟨fun pins s σ H Q I h => h.elim (p.run pins s σ H Q I) (q.run pins s σ H Q I)⟩
section
variable {P : Pg} {G : Gam} {T : Tab2} {c : SC} {X : Cx} {call callI : Nat → List Val → Mem → Res Val} {W : WX} {k : Nat}
theorem ixV_dict {v u : Val} {h : Mem} {z : Val} (nl : ∃ n, v = .ref n ∧ lstA h n = none) (e : ∃ hh, ixV v u h = .ok z hh) : ∃ n, v = .ref n ∧ dgetV h n u = some (some z) ∧ ixV v u h = .ok z h := by
  obtain ⟨n, rfl, nl⟩ := nl
  obtain ⟨hh, e⟩ := e
  refine ⟨n, rfl, ?_⟩
  simp only [ixV] at e ⊢
  unfold dgetV
  split at e
  · rename_i he; unfold lstA at nl; rw [he] at nl; cases nl
  · rename_i he; unfold lstA at nl; rw [he] at nl; cases nl
  all_goals first
    | cases e
    | (rename_i he
       rw [he]
       cases hk : (keyOf u) with
       | none => rw [hk] at e; cases e
       | some k => rw [hk] at e; simp only [Option.bind_some, Option.map_some] at e ⊢; cases hg : kget _ k <;> rw [hg] at e <;> cases e <;> exact ⟨rfl, rfl⟩)
    | (rename_i he
       rw [he]
       cases hk : (keysOf u) with
       | none => rw [hk] at e; cases e
       | some k => rw [hk] at e; simp only [Option.bind_some, Option.map_some] at e ⊢; cases hg : kget _ k <;> rw [hg] at e <;> cases e <;> exact ⟨rfl, rfl⟩)
theorem s_ix (C : Ctx P G T c X call callI W k) {a i : Ex} {l r : Expr} {pos : Pos} (hs : notSlice r = true) (ha : SE P T X call callI W a l) (hi : SE P T X call callI W i r) : SE P T X call callI W (.ix a i) (.Subscript l r pos) := by
  refine peI (peOr (pe_ix (ixL_ok (T := T.toTab)) ha hi (plainIx_of hs)) (pe_dget (by have := C.un; omega) ha hi (noSl_of hs))) fun σ H Q ⟨φ, h, fr, R, F, o⟩ => ?_
  by_cases hd : ∃ v h1 u h2, ev P call callI a fr h = .ok v h1 ∧ ev P call callI i fr h1 = .ok u h2 ∧ ∃ n, v = .ref n ∧ lstA h2 n = none
  · obtain ⟨v, h1, u, h2, e1, e2, nl⟩ := hd
    refine .inr ⟨φ, h, fr, R, F, o.bindE.mono fun x H1 ⟨v', ψ, h1', e3, x1, R1, q1, o1⟩ => ?_⟩
    rw [e1] at e3; cases e3
    refine ⟨ψ, h1, fr, R1, F.mono x1, o1.bindE.mono fun y H2 ⟨u', χ, h2', e4, x2, R2, q2, o2⟩ => ?_⟩
    rw [e2] at e4; cases e4
    cases hr : ixV v u h2 with
    | bad => rw [hr] at o2; exact False.elim o2
    | exc cc hh =>
      exfalso
      obtain ⟨n, rfl, nl⟩ := nl
      simp only [ixV] at hr
      have np : ∀ (p : Option Val), pure h2 p ≠ .exc cc hh := fun p e => by cases p <;> cases e
      split at hr <;> first | (exact np _ hr) | (cases hr) | (split at hr <;> first | (exact np _ hr) | cases hr)
    | ok z hh =>
      obtain ⟨n, rfl, g, e5⟩ := ixV_dict nl ⟨hh, hr⟩
      obtain ⟨b, p, rfl, dg, g1, _⟩ := R2.dget (q1.mono x2 _ _) q2 g
      obtain ⟨z', rfl, rz⟩ := g1 z rfl
      rw [e5] at o2
      exact ⟨b, z', rfl, dg, o2.ok R2 rz⟩
  · refine .inl ⟨φ, h, fr, R, F, o.bindE.mono fun x H1 ⟨v, ψ, h1, e3, x1, R1, q1, o1⟩ => ?_⟩
    refine ⟨ψ, h1, fr, R1, F.mono x1, o1.bindE.mono fun y H2 ⟨u, χ, h2, e4, x2, R2, q2, o2⟩ => ?_⟩
    exact ⟨_, v, u, χ, h2, R2, q1.mono x2 _ _, q2, o2, fun n hv nl => hd ⟨v, h1, u, h2, e3, e4, n, hv, nl⟩⟩
/-! ### slices -/
def RO (_ : List Addr) (_ : L2.Hp) (b c : Option Int) : Prop := c = b
abbrev SOE (P : Pg) (T : Tab2) (X : Cx) (call callI : Nat → List Val → Mem → Res Val) (W : WX) (e : OEx) (x : Option Expr) : Prop :=
  PO X x (tR X.K T.toTab X.w W RO (evo P call callI e))
theorem s_ono (C : Ctx P G T c X call callI W k) : SOE P T X call callI W .no none := by
  refine ⟨fun pins s σ H Q I ⟨φ, h, fr, R, F, o⟩ => po_none.run pins s σ H Q I ?_⟩
  exact okR.ok (v := (none : Option Int)) o R rfl
theorem s_oso (C : Ctx P G T c X call callI W k) {e : Ex} {x : Expr} (ha : SE P T X call callI W e x) : SOE P T X call callI W (.so e) (some x) := by
  refine ⟨fun pins s σ H Q I h => (po_some ha).run pins s σ H Q I ?_⟩
  refine (tR.bind1 (R1 := RV X.K T.toTab) (f := fun _ (v : Val) h1 => (match v with | .int i => Res.ok (some i) h1 | _ => Res.bad : Res (Option Int))) h).mono fun x H1 ⟨v, φ, h1, fr, R, F, q, o⟩ => ?_
  cases v <;> first | exact False.elim o | skip
  exact ⟨_, q, o.ok R rfl⟩
theorem sl_ok : SlR X (fun x lo hi H Q => ∃ E v φ h, Rel X.K T.toTab X.w φ H h ∧ RV X.K T.toTab φ H v x ∧ okR X.K T.toTab X.w (RV X.K T.toTab) φ H Q E (slV v lo hi h)) := by
  intro pins s σ H x v vl vu lo hi sl Q I rx hs pl pu ⟨E, u, φ, h, R, q1, o⟩
  cases u <;> simp only [slV] at o <;> try exact False.elim o
  · rename_i z
    rw [show x = _ from q1] at rx
    split at o
    · rename_i hl
      refine sl_str pins s σ H _ v vl vu lo hi sl Q I rx hs pl pu ⟨_, rfl, by rw [toStr_length]; exact hl, ?_⟩
      have : cutS (toStr z) lo hi = toStr (cut z lo hi) := by
        unfold cutS cut
        rw [toStr_length, sIx_eq, sIx_eq]
        unfold toStr
        simp [List.map_take, List.map_drop]
      rw [this]
      exact o.ok R rfl
    · exact False.elim o
  · rename_i ys
    obtain ⟨a, vs, rfl, p1, p2⟩ := id q1
    refine sl_tupA pins s σ H _ v vl vu lo hi sl Q I rx hs pl pu ⟨a, vs, rfl, .of p1, fun ⟨h1, h2⟩ => ?_, fun _ => o.newT R (p2.cut lo hi)⟩
    rw [p2.length, sIx_eq] at h1 h2
    rw [cut_whole ys lo hi h1 h2] at o
    exact o.ok R q1
  · split at o
    · rename_i ys he
      obtain ⟨a, vs, rfl, _, p1, p2⟩ := R.lstA q1 he
      exact sl_list pins s σ H _ v vl vu lo hi sl Q I rx hs pl pu ⟨a, vs, rfl, p1, o.new R fun ψ G _ e => ⟨_, rfl, (p2.cut lo hi).mono e _ _⟩⟩
    · exact False.elim o
theorem s_sl (C : Ctx P G T c X call callI W k) {a : Ex} {lo hi : OEx} {l : Expr} {u v : Option Expr} {p2 pos : Pos} (ha : SE P T X call callI W a l) (hl : SOE P T X call callI W lo u) (hh : SOE P T X call callI W hi v) :
    SE P T X call callI W (.sl a lo hi) (.Subscript l (.Slice u v none p2) pos) := by
  refine peI (pe_slice (sl_ok (T := T)) ha hl hh) fun σ H Q ⟨φ, h, fr, R, F, o⟩ => ?_
  refine ⟨φ, h, fr, R, F, o.bindE.mono fun x H1 ⟨v, ψ, h1, e1, x1, R1, q1, o1⟩ => ?_⟩
  refine ⟨ψ, h1, fr, R1, F.mono x1, o1.bindE.mono fun y H2 ⟨lv, χ, h2, e2, x2, R2, q2, o2⟩ => ?_⟩
  refine ⟨χ, h2, fr, R2, (F.mono x1).mono x2, o2.bindE.mono fun z H3 ⟨uv, ω, h3, e3, x3, R3, q3, o3⟩ => ?_⟩
  rw [show y = lv from q2, show z = uv from q3]
  exact ⟨_, v, ω, h3, R3, (q1.mono x2 _ _).mono x3 _ _, o3⟩
end
end PyI
namespace PyI
open PySem PySem.Spec PyProof.Rows L2
theorem RKs.look {K : PySem.W.Frag} {T : Tab} {φ : List Addr} {H : L2.Hp} {nm : Nat → Str} (inj : ∀ i j, nm i = nm j → i = j) : ∀ {fs : List (Nat × Val)} {ks : List (Str × V)} {f : Nat}, RKs K T nm φ H fs ks →
    (∀ v, fs.lookup f = some v → ∃ x, ks.lookup (nm f) = some x ∧ RV K T φ H v x) ∧ (fs.lookup f = none → ks.lookup (nm f) = none)
  | [], ks, f, q => by rw [show ks = [] from q]; exact ⟨fun v e => by simp at e, fun _ => rfl⟩
  | p :: r, ks, f, q => by
    obtain ⟨x, s, rfl, q1, q2⟩ := q
    have ih := RKs.look inj (f := f) q2
    rw [List.lookup_cons, List.lookup_cons]
    by_cases e : f = p.1
    · subst e
      simp only [beq_self_eq_true]
      exact ⟨fun v e => by cases e; exact ⟨x, rfl, q1⟩, fun e => by cases e⟩
    · have e1 : (f == p.1) = false := by simp [e]
      have e2 : (nm f == nm p.1) = false := by
        rw [beq_eq_false_iff_ne]; exact fun z => e (inj _ _ z)
      rw [e1, e2]
      exact ih
section
variable {P : Pg} {G : Gam} {T : Tab2} {c : SC} {X : Cx} {call callI : Nat → List Val → Mem → Res Val} {W : WX} {k : Nat}
theorem get_lt {α : Type} {xs : List α} {i : Nat} (h : i < xs.length) : ∃ x, xs[i]? = some x := ⟨_, List.getElem?_eq_getElem h⟩
theorem Rel.ins {K : PySem.W.Frag} {T : Tab} {w : World} {φ : List Addr} {H : L2.Hp} {h : Mem} (R : Rel K T w φ H h) {n d : Nat} {fs : List (Nat × Val)} {x : V} (r : RV K T φ H (.ref n) x) (e : h[n]? = some (.ins d fs)) :
    ∃ a dx ks, x = .ref a ∧ φ[n]? = some a ∧ H a = some (.ins (T.cls d) dx ks) ∧ RKs K T T.nm φ H fs ks := by
  obtain ⟨a, u, rfl, e1, q1, dx, ks, rfl, q2⟩ := R.ref r e
  exact ⟨a, dx, ks, rfl, e1, q1, q2⟩
theorem s_att (C : Ctx P G T c X call callI W k) {a : Ex} {f : Nat} {l : Expr} {n : Str} {pos : Pos} (hn : G.nms[f]? = some n) (hb : plainBase l = true) (ha : SE P T X call callI W a l) : SE P T X call callI W (.att a f) (.Attribute l n pos) := by
  have en := C.wd.nms f n hn
  subst en
  refine ⟨fun pins s σ H Q I ⟨φ, h, fr, R, F, o⟩ => ?_⟩
  have fld : (∀ v h1, ev P call callI a fr h = .ok v h1 → ∀ m d fs, v = .ref m → h1[m]? = some (.ins d fs) → prpF P d f = none) → wpAny (model X.prog X.w) X.A (eval (.Attribute l (T.nm f) pos) X.env) (EP X pins σ Q) X.xe s := fun np => by
    refine (pe_fld ha (base_of hb _ _)).run pins s σ H Q I ⟨φ, h, fr, R, F, o.bindE.mono fun x H1 ⟨v, ψ, h1, e1, x1, R1, q1, o1⟩ => ?_⟩
    unfold attV at o1
    split at o1 <;> try exact False.elim o1
    split at o1 <;> try exact False.elim o1
    rename_i m _ d fs hm
    rw [np _ _ e1 m d fs rfl hm] at o1
    simp only [] at o1
    split at o1
    · rename_i hf
      obtain ⟨z, e2, o1⟩ := o1.pure
      unfold fldF at hf
      split at hf
      · rename_i Cd hc
        obtain ⟨b, dx, ks, rfl, _, p1, p2⟩ := R1.ins q1 hm
        obtain ⟨y, e3, r3⟩ := (RKs.look T.inj p2).1 z e2
        obtain ⟨c1, c2, _⟩ := C.wd.cls d Cd hc
        exact ⟨b, _, dx, ks, y, rfl, p1, c1, c2 f (by simpa using hf), e3, o1.ok R1 r3⟩
      · cases hf
    · exact False.elim o1
  cases hv : ev P call callI a fr h with
  | bad => exact fld fun v h1 e => by rw [hv] at e; cases e
  | exc cc hc => exact fld fun v h1 e => by rw [hv] at e; cases e
  | ok v h1 =>
    by_cases hp : ∃ m d fs g, v = .ref m ∧ h1[m]? = some (.ins d fs) ∧ prpF P d f = some g
    · obtain ⟨m, d, fs, g, rfl, hm, hp⟩ := hp
      obtain ⟨j, hj, FI⟩ := C.callI
      · have hp' := hp
        unfold prpF at hp
        cases hc : P.cls[d]? with
        | none => rw [hc] at hp; cases hp
        | some Cd =>
          rw [hc] at hp
          simp only [Option.bind_some] at hp
          obtain ⟨c1, c2, c3, c4, c5⟩ := C.wd.cls d Cd hc
          obtain ⟨gl, p, hpr⟩ := c4 f g hp
          obtain ⟨Fg, hFg⟩ := get_lt gl
          refine (pe_prop (E := fun _ _ _ => False) ha c1 hpr (FI g Fg hFg) (C.room.mono (by omega)) (C.wd.bnd g Fg hFg) .nil passL (base_of hb _ _)).run pins s σ H Q I ⟨φ, h, fr, R, F, o.bindE.mono fun x H1 ⟨v, ψ, h2, e1, x1, R1, q1, o1⟩ => ?_⟩
          rw [hv] at e1; cases e1
          obtain ⟨b, dx, ks, rfl, _, p1, p2⟩ := R1.ins q1 hm
          refine ⟨b, dx, ks, rfl, p1, ψ, h1, [.ref m], R1, ⟨_, _, rfl, q1, rfl⟩, ?_⟩
          simp only [attV, hm, hp'] at o1
          cases hr : callI g [.ref m] h1 with
          | bad => rw [hr] at o1; exact o1
          | exc cc hc => rw [hr] at o1; exact False.elim o1
          | ok z hz => rw [hr] at o1; exact o1
    · refine fld fun v' h1' e m d fs ev' hm => ?_
      rw [hv] at e; cases e
      cases hpr : prpF P d f with
      | none => rfl
      | some g => exact absurd ⟨m, d, fs, g, ev', hm, hpr⟩ hp
/-! ### calls -/
def WE' (W : WX) : L2.St → XK := fun σ cls d H => W cls d σ H
theorem passW (C : Ctx P G T c X call callI W k) (σ : L2.St) : PassesAt (CX X.prog X.w) X σ (WE' W σ) := passAt C.tk σ
theorem s_cal (C : Ctx P G T c X call callI W k) {f : Nat} {es : Exs} {n : Str} {xs : List Expr} {p pos : Pos} (hf : G.fnm[f]? = some n) (hg : c.gl n = true) (st : xs.all notStar = true) (hz : xs = [] → es = .nil) (ha : SEs P T X call callI W es xs) :
    SE P T X call callI W (.cal f es) (.Call (.Name n p) xs [] pos) := by
  obtain ⟨fl, fm, fk⟩ := C.wd.fns f n hf
  obtain ⟨F, hF⟩ := get_lt fl
  obtain ⟨g1, g2, g3⟩ := C.gl hg
  have rd : ∀ σ H Q, tV X.K T.toTab X.w W (ev P call callI (.cal f es)) σ H Q → tCallS (spR X.K T.toTab X.w (call f)) (WE' W) (tVs X.K T.toTab X.w W (evs P call callI es)) σ H Q := fun σ H Q h =>
    (tR.bind1 (R1 := RVs X.K T.toTab) (f := fun _ vs h1 => call f vs h1) h).mono fun x H1 ⟨v, φ, h1, fr, R, F, q, o⟩ => ⟨φ, h1, v, R, q, o⟩
  cases xs with
  | nil =>
    refine peI (pe_callS0 (C.call f F hF) C.room g1 fm fk (C.wd.bnd f F hF) (passW C) g2) fun σ H Q h => ?_
    obtain ⟨φ, h, fr, R, F, o⟩ := h
    simp only [ev] at o
    rw [hz rfl] at o
    exact ⟨φ, h, [], R, rfl, o⟩
  | cons x xs =>
    simp only [List.all_cons, Bool.and_eq_true] at st
    exact peI (pe_callS (C.call f F hF) C.room g1 fm fk (C.wd.bnd f F hF) (passW C) ha g2 (star_of st.1 _ _) (noneStar _ _ st.2)) rd
/-- a new instance: its dict is not ours to see -/
theorem Rel.made {K : PySem.W.Frag} {T : Tab} {w : World} {φ : List Addr} {H : L2.Hp} {h : Mem} (R : Rel K T w φ H h) {d : Nat} {x dx : Addr} (hx : H x = none) (hd : H dx = none) (ne : dx ≠ x) :
    Ext φ H (φ ++ [x]) (upd (upd H dx (.own x)) x (.ins (T.cls d) dx [])) ∧ Rel K T w (φ ++ [x]) (upd (upd H dx (.own x)) x (.ins (T.cls d) dx [])) (h ++ [.ins d []]) := by
  have R1 : Rel K T w φ (upd H dx (.own x)) h := R.tup hd
  have hx1 : upd H dx (.own x) x = none := by rw [upd_ne (Ne.symm ne)]; exact hx
  exact ⟨(ext_tup hd).trans (ext_new hx1), R1.new hx1 ⟨dx, [], rfl, rfl⟩⟩
theorem s_mk (C : Ctx P G T c X call callI W k) {d : Nat} {es : Exs} {n : Str} {xs : List Expr} {p pos : Pos} (hf : G.cnm[d]? = some n) (hg : c.gl n = true) (st : xs.all notStar = true) (hz : xs = [] → es = .nil) (ha : SEs P T X call callI W es xs) :
    SE P T X call callI W (.mk d es) (.Call (.Name n p) xs [] pos) := by
  obtain ⟨dl, dm⟩ := C.wd.cnm d n hf
  obtain ⟨Cd, hC⟩ := get_lt dl
  obtain ⟨g1, g2, g3⟩ := C.gl hg
  obtain ⟨c1, c2, c3, c4, c5, c6⟩ := C.wd.cls d Cd hC
  obtain ⟨F, hF⟩ := get_lt c5
  have main : ∀ {φ : List Addr} {H : L2.Hp} {h1 : Mem} {vs : List Val} {xs : List V} {σ : L2.St} {Q : VK}, Rel X.K T.toTab X.w φ H h1 → RVs X.K T.toTab φ H vs xs →
      okR X.K T.toTab X.w (RV X.K T.toTab) φ H Q (fun c G => W (T.exn c) none σ G) (match P.cls[d]? with
        | some C => (callI C.ini (.ref h1.length :: vs) (h1 ++ [.ins d []])).bind fun x h2 => match x with
          | .non => .ok (.ref h1.length) h2
          | _ => .bad
        | none => .bad) → ∀ x dx, H x = none → H dx = none → dx ≠ x → spR X.K T.toTab X.w (callI Cd.ini) (.ref x :: xs) (upd (upd H dx (.own x)) x (.ins (T.cls d) dx [])) (fun v H2 => v = .non ∧ Q (.ref x) H2) (WE' W σ) := fun {φ H h1 vs xs σ Q} R q o x dx hx hd ne => by
    obtain ⟨e1, R1⟩ := R.made (d := d) hx hd ne
    rw [hC] at o
    simp only [] at o
    refine ⟨_, _, .ref h1.length :: vs, R1, ⟨_, _, rfl, R.new_ref, q.mono e1 _ _⟩, ?_⟩
    have o1 := o.ext e1
    cases hr : callI Cd.ini (.ref h1.length :: vs) (h1 ++ [.ins d []]) with
    | bad => rw [hr] at o1; exact o1
    | exc cc hc => rw [hr] at o1; exact o1
    | ok z hh =>
      rw [hr] at o1
      simp only [Res.bind_ok] at o1
      cases z <;> first | exact False.elim o1 | skip
      exact fun χ L y e2 R2 q2 => ⟨q2, o1 χ L (.ref x) e2 R2 ⟨x, e2.get (by rw [← R.len]; simp), rfl⟩⟩
  obtain ⟨j, hj, FI⟩ := C.callI
  · cases xs with
    | nil =>
      refine peI (pe_makeS0 c6 (FI Cd.ini F hF) (C.room.mono hj) g1 dm (C.wd.bnd _ F hF) (passW C) g2) fun σ H Q ⟨φ, h, fr, R, F, o⟩ => ?_
      rw [hz rfl] at o
      exact main R (show RVs X.K T.toTab φ H [] [] from rfl) o
    | cons x xs =>
      simp only [List.all_cons, Bool.and_eq_true] at st
      refine peI (pe_makeS c6 (FI Cd.ini F hF) (C.room.mono hj) g1 dm (C.wd.bnd _ F hF) (passW C) ha g2 (star_of st.1 _ _) (noneStar _ _ st.2)) fun σ H Q h => ?_
      exact (tR.bind1 (R1 := RVs X.K T.toTab) h).mono fun x H1 ⟨v, φ, h1, fr, R, F, q, o⟩ => main R q o
end
end PyI
namespace PyI
open PySem PySem.Spec PyProof.Rows L2
theorem allStar : ∀ {es : List Expr} (pos : Pos) (env : Env), es.all notStar = true → (backTo pos (starEach es env)).all (fun x => !x.1) = true
  | [], _, _, _ => rfl
  | e :: es, pos, env, h => by
    simp only [List.all_cons, Bool.and_eq_true] at h
    have ih := allStar pos env h.2
    rw [star_of h.1]
    cases es with
    | nil => rfl
    | cons e2 es2 =>
      simp only [List.all_cons, Bool.and_eq_true] at h
      rw [star_of h.2.1] at ih ⊢
      exact ih
theorem few_of {es : List Expr} (pos : Pos) (env : Env) (h : es.all notStar = true) (hl : es.length < 20) :
    ((backTo pos (starEach es env)).all (fun x => !x.1) && (backToKw pos (keywordEach [] env)).all (fun x => x.1.isSome) && decide (es.length + ([] : List Keyword).length + (if ([] : List Keyword).isEmpty then 0 else 1) < 30)) = true := by
  rw [allStar pos env h, Bool.true_and]
  show (true && decide (es.length + 0 + 0 < 30)) = true
  rw [decide_eq_true (by omega)]; rfl
theorem eval_method {o : Expr} {args : List Expr} {name : Str} {apos pos : Pos} {env : Env} (st : args.all notStar = true) (hl : args.length < 20) (hbase : plainBase o = true) (hline : (apos.endLine == pos.line) = true) :
    eval (.Call (.Attribute o name apos) args [] pos) env = (do
      let ov ← eval o env
      standAt apos.atName
      let (f, first) ← holding [ov] (getMethod ov name (do return (← importBound o env).getD true))
      callWith pos f first (backTo pos (starEach args env)) (backToKw pos (keywordEach [] env))) := by
  have e1 : methodCallForm (args.length + ([] : List Keyword).length) (backTo pos (starEach args env)) (backToKw pos (keywordEach [] env)) = true := few_of pos env st hl
  show (do
    let ov ← attributeBase o name env (eval o env)
    standAt apos.atName
    methodCall o name apos pos env ov (args.length + ([] : List Keyword).length) (backTo pos (starEach args env)) (backToKw pos (keywordEach [] env))) = _
  rw [base_of hbase]
  unfold methodCall
  rw [e1]
  have e2 : methodCallPos true o env apos pos = Pure.pure pos := by
    unfold methodCallPos
    rw [hline]; rfl
  rw [e2]
  rfl
section
variable {X : Cx} {o e : Expr} {es : List Expr} {to : TE} {name : Str} {apos cpos : Pos}
/-- the receiver never comes -/
theorem pe_noRecv (ho : PE X o to) (st : es.all notStar = true) (hl : es.length < 20) (hbase : plainBase o = true) (hline : (apos.endLine == cpos.line) = true) :
    PE X (.Call (.Attribute o name apos) es [] cpos) (fun σ H Q => to σ H fun _ _ => False) := by
  refine ⟨fun pins s σ H Q I h => ?_⟩
  cases es with
  | nil => exact wpAny_Call_method0_late (base_of hbase _ _) hline (thn (ho.run pins s σ H _ I h) fun v s1 ⟨x, H1, I1, r1, q⟩ => q.elim)
  | cons e es => exact wpAny_Call_method_late (base_of hbase _ _) (few_of _ _ st hl) hline rfl (thn (ho.run pins s σ H _ I h) fun v s1 ⟨x, H1, I1, r1, q⟩ => q.elim)
end
section
variable {P : Pg} {G : Gam} {T : Tab2} {c : SC} {X : Cx} {call callI : Nat → List Val → Mem → Res Val} {W : WX} {k : Nat}
/-- what the receiver and the arguments lead to -/
noncomputable def mrest (P : Pg) (call callI : Nat → List Val → Mem → Res Val) (m : Nat) (b : Bm) (es : Exs) (fr : PyI.Fr) (v : Val) (h1 : Mem) : Res Val :=
  if noFld h1 m v && hasM P h1 m b v then (evs P call callI es fr h1).bind fun vs h2 => if kindV h1 v = kindV h2 v then metV P call m b v vs h2 else .bad else .bad
/-- a built-in's method -/
theorem bm_run (C : Ctx P G T c X call callI W k) {a : Ex} {m : Nat} {b : Bm} {es : Exs} {l : Expr} {n : Str} {xs : List Expr} {ap pos : Pos} {T0 id : String} {r : V → List V → L2.Hp → VK → Prop}
    (pa : PlainAttrs T0) (slot : Slot T0 n id) (hty : typeOf (.builtin id) = Pure.pure (.type "method_descriptor")) (hm : MtR X id r)
    (hl : (ap.endLine == pos.line) = true) (hn : xs.length < 20) (hb : plainBase l = true) (st : xs.all notStar = true) (hz : xs = [] → es = .nil) (ha : SE P T X call callI W a l) (hs : SEs P T X call callI W es xs)
    {pins : List (Addr × Obj)} {s : Shared} {σ : L2.St} {H : L2.Hp} {Q : VK} (I : Inv X pins σ H s) {φ : List Addr} {h : Mem} {fr : PyI.Fr} (R : Rel X.K T.toTab X.w φ H h) (F : RFr X.K T.toTab φ H fr σ)
    (o : okR X.K T.toTab X.w (RV X.K T.toTab) φ H Q (fun c G => W (T.exn c) none σ G) ((ev P call callI a fr h).bind (mrest P call callI m b es fr)))
    {v : Val} {h1 : Mem} (hv : ev P call callI a fr h = .ok v h1) (ty : ∀ ψ G x, Rel X.K T.toTab X.w ψ G h1 → RV X.K T.toTab ψ G v x → tyV X.K T0 x G)
    (rr : ∀ ψ G h2 vs x ys E, Rel X.K T.toTab X.w ψ G h2 → RV X.K T.toTab ψ G v x → RVs X.K T.toTab ψ G vs ys → kindV h1 v = kindV h2 v → okR X.K T.toTab X.w (RV X.K T.toTab) ψ G Q E (metV P call m b v vs h2) → r x ys G Q) :
    wpAny (model X.prog X.w) X.A (eval (.Call (.Attribute l n ap) xs [] pos) X.env) (EP X pins σ Q) X.xe s := by
  have step : ∀ {x : V} {H1 : L2.Hp} {v' : Val} {ψ : List Addr} {h1' : Mem}, ev P call callI a fr h = .ok v' h1' → Ext φ H ψ H1 → Rel X.K T.toTab X.w ψ H1 h1' → RV X.K T.toTab ψ H1 v' x →
      okR X.K T.toTab X.w (RV X.K T.toTab) ψ H1 Q (fun c G => W (T.exn c) none σ G) (mrest P call callI m b es fr v' h1') → tyV X.K T0 x H1 ∧
        tVs X.K T.toTab X.w W (evs P call callI es) σ H1 fun ys H2 => r x ys H2 Q := fun {x H1 v' ψ h1'} e1 x1 R1 q1 o1 => by
    rw [hv] at e1; cases e1
    refine ⟨ty _ _ _ R1 q1, ?_⟩
    unfold mrest at o1
    split at o1
    · refine ⟨ψ, h1, fr, R1, F.mono x1, o1.bind.mono fun ys H2 ⟨vs, χ, h2, x2, R2, q2, o2⟩ => ?_⟩
      split at o2
      · rename_i hk
        exact rr χ H2 h2 vs x ys _ R2 (q1.mono x2 _ _) q2 hk o2
      · exact False.elim o2
    · exact False.elim o1
  cases xs with
  | nil =>
    refine (pe_bm0 pa slot hty hm ha (base_of hb _ _) hl).run pins s σ H Q I ⟨φ, h, fr, R, F, o.bindE.mono fun x H1 ⟨v', ψ, h1', e1, x1, R1, q1, o1⟩ => ?_⟩
    obtain ⟨t1, ψ2, h2, fr2, R2, F2, o2⟩ := step e1 x1 R1 q1 o1
    rw [hz rfl] at o2
    exact ⟨t1, okR.ok (v := ([] : List Val)) o2 R2 (show RVs X.K T.toTab _ _ [] [] from rfl)⟩
  | cons x xs =>
    have st' := st
    simp only [List.all_cons, Bool.and_eq_true] at st
    exact (pe_bm pa slot hty hm ha hs (base_of hb _ _) (few_of _ _ st' hn) hl (star_of st.1 _ _) (noneStar _ _ st.2)).run pins s σ H Q I ⟨φ, h, fr, R, F, o.bindE.mono fun x H1 ⟨v', ψ, h1', e1, x1, R1, q1, o1⟩ => step e1 x1 R1 q1 o1⟩
/-! ### methods of lists and dicts -/
theorem mt_dget (hu : X.A.units + 1 < cLine) : MtR X "dict.get" (fun x ys H Q => ∃ a y o, x = .ref a ∧ DGet H a y o ∧ ((ys = [y] ∧ Q (o.getD .non) H) ∨ ∃ d, ys = [y, d] ∧ Q (o.getD d) H)) := by
  intro pins s σ H x ys v us Q I rx rys h
  obtain ⟨a, y, o, rfl, g, ⟨rfl, q⟩ | ⟨d, rfl, q⟩⟩ := h
  · obtain ⟨u, rfl, ru⟩ := vals1 rys
    obtain rfl : v = Value.ref a := rx
    exact d_get1 hu I g ru fun w' s' I' rw' => ⟨_, H, I', rw', q⟩
  · obtain ⟨u, u', rfl, ru, ru'⟩ := vals2 rys
    obtain rfl : v = Value.ref a := rx
    exact d_get2 hu I g ru ru' fun w' s' I' rw' => ⟨_, H, I', rw', q⟩
theorem mt_dpop : MtR X "dict.pop" (fun x ys H Q => ∃ a kvs k v, x = .ref a ∧ ys = [kV k] ∧ H a = some (.dK kvs) ∧ valV kvs k = some v ∧ Q v (upd H a (.dK (L2.dropK kvs k)))) := by
  intro pins s σ H x ys v us Q I rx rys h
  obtain ⟨a, kvs, k, z, rfl, rfl, e, l, q⟩ := h
  obtain ⟨u, rfl, ru⟩ := vals1 rys
  obtain rfl : v = Value.ref a := rx
  exact d_pop I e ru l (.inl rfl) fun w' s' I' rw' => ⟨z, _, I', rw', q⟩
theorem okR.set {φ : List Addr} {H : L2.Hp} {h : Mem} {n : Nat} {a : Addr} {u : HO} {v : Val} {x : V} {ob : Ob} {o : HO} {Q : VK} {E : Nat → L2.Hp → Prop} {K : PySem.W.Frag} {T : Tab} {w : World} (q : okR K T w (RV K T) φ H Q E (.ok v (h.set n ob))) (R : Rel K T w φ H h) (e : φ[n]? = some a) (hu : H a = some u) (nt : notTup u)
    (ro : ROb K T w φ (upd H a o) a ob o) (rv : RV K T φ (upd H a o) v x) : Q x (upd H a o) := q φ (upd H a o) x (ext_set hu nt) (R.set e hu nt ro) rv
/-- a list's method does what it does -/
theorem bm_list {φ : List Addr} {H : L2.Hp} {h : Mem} {n : Nat} {xs : List Val} {vs : List Val} {x : V} {ys : List V} {b : Bm} {Q : VK} {E : Nat → L2.Hp → Prop} {K : PySem.W.Frag} {T : Tab} {w : World}
    (R : Rel K T w φ H h) (q1 : RV K T φ H (.ref n) x) (q2 : RVs K T φ H vs ys) (e : h[n]? = some (.lst xs)) (o : okR K T w (RV K T) φ H Q E (bmV b (.ref n) vs h)) :
    (b = .append ∧ rAppend x ys H Q) ∨ (b = .extend ∧ rExtend x ys H Q) ∨ (b = .pop ∧ (rPop x ys H Q ∨ rPopAt x ys H Q)) ∨
    (b = .insert ∧ ∃ (l : Addr) (xs : List V) (i : Int) (y : V), x = .ref l ∧ ys = [.int i, y] ∧ H l = some (.lst xs) ∧ xs.length < sizeLine ∧ 0 ≤ i ∧ i < 2 ^ 63 ∧ Q .non (upd H l (.lst (xs.take i.toNat ++ [y] ++ xs.drop i.toNat)))) ∨ (b = .clear ∧ rClear x ys H Q) := by
  obtain ⟨a, ws, rfl, e0, p1, p2⟩ := R.lst q1 e
  simp only [bmV, e] at o
  split at o
  · rename_i z
    obtain ⟨y, rfl, qy⟩ := rvs1 q2
    split at o
    · rename_i hl
      refine .inl ⟨rfl, a, ws, y, rfl, rfl, p1, by rw [p2.length]; exact hl, o.set R e0 p1 (by trivial) ⟨_, rfl, ?_⟩ rfl⟩
      exact (p2.append (.one qy)).mono (ext_set p1 (by trivial)) _ _
    · exact False.elim o
  · rename_i m
    obtain ⟨y, rfl, qy⟩ := rvs1 q2
    split at o
    · rename_i zs ez
      obtain ⟨b, us, rfl, e1, r1, r2⟩ := R.lst qy ez
      split at o
      · rename_i hl
        refine .inr (.inl ⟨rfl, a, b, ws, us, rfl, rfl, p1, r1, by rw [p2.length, r2.length]; exact hl, o.set R e0 p1 (by trivial) ⟨_, rfl, ?_⟩ rfl⟩)
        exact (p2.append r2).mono (ext_set p1 (by trivial)) _ _
      · exact False.elim o
    · exact False.elim o
  · rw [show ys = [] from q2]
    split at o
    · rename_i z ez
      obtain ⟨y, ey, ry⟩ := p2.get ez
      refine .inr (.inr (.inl ⟨rfl, .inl ⟨a, ws, y, rfl, rfl, p1, by rw [p2.length]; exact ey, o.set R e0 p1 (by trivial) ⟨_, rfl, ?_⟩ (ry.mono (ext_set p1 (by trivial)) _ _)⟩⟩))
      rw [List.dropLast_eq_take, List.dropLast_eq_take, p2.length]
      exact (p2.take _).mono (ext_set p1 (by trivial)) _ _
    · exact False.elim o
  · rename_i i
    obtain ⟨y, rfl, qy⟩ := rvs1 q2
    rw [show y = _ from qy]
    split at o
    · rename_i kk ek
      split at o
      · rename_i z ez
        obtain ⟨y', ey, ry⟩ := p2.get ez
        have hbg : big i = true := by
          cases hb : big i with
          | true => rfl
          | false => rw [hb] at ek; cases ek
        rw [if_pos hbg] at ek
        rw [big_eq] at hbg
        simp only [Bool.and_eq_true, decide_eq_true_eq] at hbg
        have es := (ixN_seq (n := xs.length) (i := i) (j := kk) ek).1
        refine .inr (.inr (.inl ⟨rfl, .inr ⟨a, ws, i, kk, y', rfl, rfl, p1, by omega, by omega, by rw [p2.length]; exact es, ey, o.set R e0 p1 (by trivial) ⟨_, rfl, ?_⟩ (ry.mono (ext_set p1 (by trivial)) _ _)⟩⟩))
        exact (p2.eraseIdx _).mono (ext_set p1 (by trivial)) _ _
      · exact False.elim o
    · exact False.elim o
  · rename_i i z
    obtain ⟨y, y', rfl, qy, qz⟩ := rvs2 q2
    rw [show y = _ from qy]
    split at o
    · rename_i hl
      refine .inr (.inr (.inr (.inl ⟨rfl, a, ws, i, y', rfl, rfl, p1, by rw [p2.length]; exact hl.1, hl.2.1, by have := hl.2.2; omega, o.set R e0 p1 (by trivial) ⟨_, rfl, ?_⟩ rfl⟩)))
      exact (((p2.take _).append (.one qz)).append (p2.drop _)).mono (ext_set p1 (by trivial)) _ _
    · exact False.elim o
  · rw [show ys = [] from q2]
    exact .inr (.inr (.inr (.inr ⟨rfl, a, ws, rfl, rfl, p1, o.set R e0 p1 (by trivial) ⟨_, rfl, rfl⟩ rfl⟩)))
  · exact False.elim o
end
end PyI
namespace PyI
open PySem PySem.Spec PyProof.Rows L2
section
variable {P : Pg} {G : Gam} {T : Tab2} {c : SC} {X : Cx} {call callI : Nat → List Val → Mem → Res Val} {W : WX} {k : Nat}
theorem getD_R {K : PySem.W.Frag} {T : Tab} {φ : List Addr} {H : L2.Hp} {o : Option Val} {p : Option V} {d : Val} {y : V} (g1 : ∀ v, o = some v → ∃ z, p = some z ∧ RV K T φ H v z) (g2 : o = none → p = none) (rd : RV K T φ H d y) : RV K T φ H (o.getD d) (p.getD y) := by
  cases o with
  | none => rw [g2 rfl]; exact rd
  | some v => obtain ⟨z, e, r⟩ := g1 v rfl; rw [e]; exact r
/-- a dict's method -/
theorem bm_dict {φ : List Addr} {H : L2.Hp} {h : Mem} {n : Nat} {vs : List Val} {x : V} {ys : List V} {b : Bm} {Q : VK} {E : Nat → L2.Hp → Prop} {K : PySem.W.Frag} {T : Tab} {w : World}
    (R : Rel K T w φ H h) (q1 : RV K T φ H (.ref n) x) (q2 : RVs K T φ H vs ys) (e : (∃ kvs, h[n]? = some (.dik kvs)) ∨ ∃ kvs, h[n]? = some (.dit kvs)) (o : okR K T w (RV K T) φ H Q E (bmV b (.ref n) vs h)) :
    (b = .get ∧ ∃ a y o, x = .ref a ∧ DGet H a y o ∧ ((ys = [y] ∧ Q (o.getD .non) H) ∨ ∃ d, ys = [y, d] ∧ Q (o.getD d) H)) ∨
    (b = .pop ∧ ∃ a kvs k v, x = .ref a ∧ ys = [kV k] ∧ H a = some (.dK kvs) ∧ valV kvs k = some v ∧ Q v (upd H a (.dK (L2.dropK kvs k)))) := by
  have get1 : ∀ {k : Val} {og : Option (Option Val)}, (∀ g, og = some g → dgetV h n k = some g) → vs = [k] → okR K T w (RV K T) φ H Q E (PyI.pure h (og.map fun g => g.getD .non)) →
      ∃ a y o, x = .ref a ∧ DGet H a y o ∧ ((ys = [y] ∧ Q (o.getD .non) H) ∨ ∃ d, ys = [y, d] ∧ Q (o.getD d) H) := fun {k og} hg ev o3 => by
    subst ev
    obtain ⟨y, rfl, qy⟩ := rvs1 q2
    obtain ⟨v, e2, o3⟩ := o3.pure
    cases og with
    | none => cases e2
    | some g =>
      cases e2
      obtain ⟨a, p, rfl, dg, g1, g2⟩ := R.dget q1 qy (hg g rfl)
      exact ⟨a, y, p, rfl, dg, .inl ⟨rfl, o3.ok R (getD_R g1 g2 rfl)⟩⟩
  have get2 : ∀ {k d : Val} {og : Option (Option Val)}, (∀ g, og = some g → dgetV h n k = some g) → vs = [k, d] → okR K T w (RV K T) φ H Q E (PyI.pure h (og.map fun g => g.getD d)) →
      ∃ a y o, x = .ref a ∧ DGet H a y o ∧ ((ys = [y] ∧ Q (o.getD .non) H) ∨ ∃ d, ys = [y, d] ∧ Q (o.getD d) H) := fun {k d og} hg ev o3 => by
    subst ev
    obtain ⟨y, y2, rfl, qy, qd⟩ := rvs2 q2
    obtain ⟨v, e2, o3⟩ := o3.pure
    cases og with
    | none => cases e2
    | some g =>
      cases e2
      obtain ⟨a, p, rfl, dg, g1, g2⟩ := R.dget q1 qy (hg g rfl)
      exact ⟨a, y, p, rfl, dg, .inr ⟨y2, rfl, o3.ok R (getD_R g1 g2 qd)⟩⟩
  rcases e with ⟨kvs, e⟩ | ⟨kvs, e⟩
  · simp only [bmV, e] at o
    split at o
    · rename_i k
      refine .inl ⟨rfl, get1 (k := k) (og := (keyOf k).map (kget kvs)) (fun g hg => ?_) rfl ?_⟩
      · unfold dgetV; rw [e]; exact hg
      · rw [Option.map_map]; exact o
    · rename_i k d
      refine .inl ⟨rfl, get2 (k := k) (d := d) (og := (keyOf k).map (kget kvs)) (fun g hg => ?_) rfl ?_⟩
      · unfold dgetV; rw [e]; exact hg
      · rw [Option.map_map]; exact o
    · rename_i k
      obtain ⟨y, rfl, qy⟩ := rvs1 q2
      split at o
      · rename_i k' ek
        split at o
        · rename_i v ev
          obtain ⟨a, ks, rfl, e0, p1, p2⟩ := R.dik q1 e
          obtain ⟨z, ez, rz⟩ := (RKs.val kTi p2).1 v ev
          refine .inr ⟨rfl, a, ks, kT k', z, rfl, by rw [keyOf_V ek qy], p1, ez, o.set R e0 p1 (by trivial) ⟨_, rfl, ?_⟩ (rz.mono (ext_set p1 (by trivial)) _ _)⟩
          exact (RKs.dropK kTi p2).mono (ext_set p1 (by trivial))
        · exact False.elim o
      · exact False.elim o
    · exact False.elim o
  · simp only [bmV, e] at o
    split at o
    · rename_i k
      refine .inl ⟨rfl, get1 (k := k) (og := (keysOf k).map (kget kvs)) (fun g hg => ?_) rfl ?_⟩
      · unfold dgetV; rw [e]; exact hg
      · rw [Option.map_map]; exact o
    · rename_i k d
      refine .inl ⟨rfl, get2 (k := k) (d := d) (og := (keysOf k).map (kget kvs)) (fun g hg => ?_) rfl ?_⟩
      · unfold dgetV; rw [e]; exact hg
      · rw [Option.map_map]; exact o
    · exact False.elim o
theorem join_toStr (s : Txt) : ∀ ys : List Txt, Txt.join (toStr s) (ys.map toStr) = toStr (joinT s ys) := by
  intro ys
  rw [TL.join_eq]
  induction ys with
  | nil => rfl
  | cons x r ih =>
    cases r with
    | nil => rfl
    | cons y r =>
      show toStr x ++ toStr s ++ Str.join (toStr s) ((y :: r).map toStr) = toStr (x ++ s ++ joinT s (y :: r))
      rw [ih, toStr_append, toStr_append]
/-- a method call -/
theorem s_met (C : Ctx P G T c X call callI W k) {a : Ex} {m : Nat} {b : Bm} {es : Exs} {l : Expr} {n : Str} {xs : List Expr} {ap pos : Pos} (hn : G.nms[m]? = some n) (hbn : n = b.name ∨ b = .none)
    (hl : (ap.endLine == pos.line) = true) (hlen : xs.length < 20) (hb : plainBase l = true) (st : xs.all notStar = true) (hz : xs = [] → es = .nil) (ha : SE P T X call callI W a l) (hs : SEs P T X call callI W es xs) :
    SE P T X call callI W (.met a m b es) (.Call (.Attribute l n ap) xs [] pos) := by
  have en := C.wd.nms m n hn
  refine ⟨fun pins s σ H Q I ⟨φ, h, fr, R, F, o⟩ => ?_⟩
  have o' : okR X.K T.toTab X.w (RV X.K T.toTab) φ H Q (fun c G => W (T.exn c) none σ G) ((ev P call callI a fr h).bind (mrest P call callI m b es fr)) := o
  -- where the receiver leads to nothing
  have off : (∀ v h1, ev P call callI a fr h = .ok v h1 → mrest P call callI m b es fr v h1 = .bad) → wpAny (model X.prog X.w) X.A (eval (.Call (.Attribute l n ap) xs [] pos) X.env) (EP X pins σ Q) X.xe s := fun hh => by
    refine (pe_noRecv ha st hlen hb hl).run pins s σ H Q I ⟨φ, h, fr, R, F, o'.bindE.mono fun x H1 ⟨v', ψ, h1', e1, x1, R1, q1, o1⟩ => ?_⟩
    rw [hh _ _ e1] at o1
    exact o1
  cases hv : ev P call callI a fr h with
  | bad => exact off fun v h1 e => by rw [hv] at e; cases e
  | exc cc hc => exact off fun v h1 e => by rw [hv] at e; cases e
  | ok v h1 =>
    by_cases hnf : (noFld h1 m v && hasM P h1 m b v) = true
    case neg => exact off fun v' h1' e => by rw [hv] at e; cases e; unfold mrest; rw [if_neg hnf]
    simp only [Bool.and_eq_true] at hnf
    obtain ⟨hnf, hm⟩ := hnf
    cases v <;> simp only [hasM, Bool.false_eq_true] at hm
    · -- a text
      rename_i z
      have eb : b = .join := by simpa using hm
      subst eb
      have e1 : n = "join" := by rcases hbn with h | h; exact h; cases h
      subst e1
      refine bm_run C (T0 := "str") PySem.F.plainAttrs_str PySem.F.slot_str_join PySem.F.type_str_join mt_join hl hlen hb st hz ha hs I R F o' hv (fun ψ G x R1 q1 => by rw [show x = _ from q1]; rfl) fun ψ G h2 vs x ys E R1 q1 q2 hk o => ?_
      rw [show x = _ from q1]
      simp only [metV] at o
      split at o
      · rename_i u _
        obtain ⟨y, rfl, qy⟩ := rvs1 q2
        split at o
        · rename_i ts et
          obtain ⟨us, eu, et⟩ := Option.bind_eq_some_iff.mp et
          obtain ⟨a, ws, rfl, p1, p2⟩ := R1.seqA qy eu
          rw [p2.strs et] at p1
          split at o
          · rename_i hz
            refine ⟨_, a, ts.map toStr, rfl, rfl, by simpa [List.map_map, Function.comp_def] using p1, ?_, ?_⟩
            · rw [List.map_map, List.length_map, toStr_length]
              simp only [Function.comp_def, toStr_length]
              exact hz
            · rw [join_toStr]; exact o.ok R1 rfl
          · exact False.elim o
        · exact False.elim o
      · exact False.elim o
    · rename_i nn
      split at hm
      · -- an instance
        rename_i d fs he
        obtain ⟨g, hg⟩ := Option.isSome_iff_exists.mp hm
        have hg' := hg
        unfold metF at hg
        cases hc : P.cls[d]? with
        | none => rw [hc] at hg; cases hg
        | some Cd =>
          rw [hc] at hg
          simp only [Option.bind_some] at hg
          obtain ⟨c1, c2, c3, c4, c5⟩ := C.wd.cls d Cd hc
          obtain ⟨gl, hme⟩ := c3 m g hg
          obtain ⟨Fg, hFg⟩ := get_lt gl
          rw [en] at hme
          have step : ∀ {x : V} {H1 : L2.Hp} {v' : Val} {ψ : List Addr} {h1' : Mem}, ev P call callI a fr h = .ok v' h1' → Ext φ H ψ H1 → Rel X.K T.toTab X.w ψ H1 h1' → RV X.K T.toTab ψ H1 v' x →
              okR X.K T.toTab X.w (RV X.K T.toTab) ψ H1 Q (fun c G => W (T.exn c) none σ G) (mrest P call callI m b es fr v' h1') → ∃ a dx fs, x = .ref a ∧ H1 a = some (.ins (T.cls d) dx fs) ∧ fs.lookup n = none ∧
                tVs X.K T.toTab X.w W (evs P call callI es) σ H1 fun ys H2 => spR X.K T.toTab X.w (call g) (x :: ys) H2 Q (WE' W σ) := fun {x H1 v' ψ h1'} e1 x1 R1 q1 o1 => by
            rw [hv] at e1; cases e1
            obtain ⟨a', dx, ks, rfl, _, p1, p2⟩ := R1.ins q1 he
            refine ⟨a', dx, ks, rfl, p1, ?_, ?_⟩
            · rw [← en]
              refine (RKs.look T.inj p2).2 ?_
              simpa [noFld, he] using hnf
            · unfold mrest at o1
              rw [if_pos (by simp [hnf, hasM, he, hm])] at o1
              refine ⟨ψ, h1, fr, R1, F.mono x1, o1.bind.mono fun ys H2 ⟨vs, χ, h2, x2, R2, q2, o2⟩ => ?_⟩
              split at o2
              · rename_i hk
                have hk2 : ∃ fs', h2[nn]? = some (.ins d fs') := by
                  simp only [kindV, he] at hk
                  split at hk
                  · rename_i d' fs' e'
                    exact ⟨fs', by rw [e']; congr 2; omega⟩
                  all_goals omega
                obtain ⟨fs', e'⟩ := hk2
                simp only [metV, e', hg'] at o2
                exact ⟨χ, h2, .ref nn :: vs, R2, ⟨_, _, rfl, q1.mono x2 _ _, q2⟩, o2⟩
              · exact False.elim o2
          cases xs with
          | nil =>
            refine (pe_methS0 ha c1 hme (C.call g Fg hFg) C.room (C.wd.bnd g Fg hFg) (passW C) (eval_method st hlen hb hl)).run pins s σ H Q I ⟨φ, h, fr, R, F, o'.bindE.mono fun x H1 ⟨v', ψ, h1', e1, x1, R1, q1, o1⟩ => ?_⟩
            obtain ⟨a', dx, ks, e2, e3, e4, ψ2, h2, fr2, R2, F2, o2⟩ := step e1 x1 R1 q1 o1
            rw [hz rfl] at o2
            exact ⟨a', dx, ks, e2, e3, e4, okR.ok (v := ([] : List Val)) o2 R2 (show RVs X.K T.toTab _ _ [] [] from rfl)⟩
          | cons x xs =>
            have st' := st
            simp only [List.all_cons, Bool.and_eq_true] at st
            exact (pe_methS' ha c1 hme (C.call g Fg hFg) C.room (C.wd.bnd g Fg hFg) (passW C) hs (star_of st.1 _ _) (noneStar _ _ st.2) (eval_method st' hlen hb hl)).run pins s σ H Q I ⟨φ, h, fr, R, F, o'.bindE.mono fun x H1 ⟨v', ψ, h1', e1, x1, R1, q1, o1⟩ => step e1 x1 R1 q1 o1⟩
      · -- a list
        rename_i ys0 he
        have tyl : ∀ ψ G x, Rel X.K T.toTab X.w ψ G h1 → RV X.K T.toTab ψ G (.ref nn) x → tyV X.K "list" x G := fun ψ G x R1 q1 => by
          obtain ⟨a', ws, rfl, _, p1, _⟩ := R1.lst q1 he
          exact .inl ⟨rfl, ws, .of p1⟩
        have cls : ∀ {ψ : List Addr} {G : L2.Hp} {h2 : Mem} {vs : List Val} {x : V} {ys : List V} {E : Nat → L2.Hp → Prop}, Rel X.K T.toTab X.w ψ G h2 → RV X.K T.toTab ψ G (.ref nn) x → RVs X.K T.toTab ψ G vs ys → kindV h1 (.ref nn) = kindV h2 (.ref nn) →
            okR X.K T.toTab X.w (RV X.K T.toTab) ψ G Q E (metV P call m b (.ref nn) vs h2) → (∃ xs, h2[nn]? = some (.lst xs)) ∧ okR X.K T.toTab X.w (RV X.K T.toTab) ψ G Q E (bmV b (.ref nn) vs h2) := fun {ψ G h2 vs x ys E} R1 q1 q2 hk o => by
          simp only [kindV, he] at hk
          split at hk <;> first | omega | skip
          rename_i xs e'
          simp only [metV, e'] at o
          exact ⟨⟨xs, e'⟩, o⟩
        simp only [decide_eq_true_eq] at hm
        have nb : n = b.name := by
          rcases hbn with h | h
          · exact h
          · rw [h] at hm; simp at hm
        rcases hm with rfl | rfl | rfl | rfl | rfl
        · cases nb
          refine bm_run C (T0 := "list") PySem.F.plainAttrs_list PySem.F.slot_list_append PySem.F.type_list_append mt_append hl hlen hb st hz ha hs I R F o' hv tyl fun ψ G h2 vs x ys E R1 q1 q2 hk o => ?_
          obtain ⟨⟨zs, e'⟩, o⟩ := cls R1 q1 q2 hk o
          rcases bm_list R1 q1 q2 e' o with ⟨_, h⟩ | ⟨h, _⟩ | ⟨h, _⟩ | ⟨h, _⟩ | ⟨h, _⟩ <;> first | exact h | cases h
        · cases nb
          refine bm_run C (T0 := "list") PySem.F.plainAttrs_list PySem.F.slot_list_extend PySem.F.type_list_extend mt_extend hl hlen hb st hz ha hs I R F o' hv tyl fun ψ G h2 vs x ys E R1 q1 q2 hk o => ?_
          obtain ⟨⟨zs, e'⟩, o⟩ := cls R1 q1 q2 hk o
          rcases bm_list R1 q1 q2 e' o with ⟨h, _⟩ | ⟨_, h⟩ | ⟨h, _⟩ | ⟨h, _⟩ | ⟨h, _⟩ <;> first | exact h | cases h
        · cases nb
          refine bm_run C (T0 := "list") PySem.F.plainAttrs_list PySem.F.slot_list_pop PySem.F.type_list_pop (MtR.or mt_pop mt_popAt) hl hlen hb st hz ha hs I R F o' hv tyl fun ψ G h2 vs x ys E R1 q1 q2 hk o => ?_
          obtain ⟨⟨zs, e'⟩, o⟩ := cls R1 q1 q2 hk o
          rcases bm_list R1 q1 q2 e' o with ⟨h, _⟩ | ⟨h, _⟩ | ⟨_, h⟩ | ⟨h, _⟩ | ⟨h, _⟩ <;> first | exact h | cases h
        · cases nb
          refine bm_run C (T0 := "list") PySem.F.plainAttrs_list PySem.F.slot_list_insert PySem.F.type_list_insert mt_insert hl hlen hb st hz ha hs I R F o' hv tyl fun ψ G h2 vs x ys E R1 q1 q2 hk o => ?_
          obtain ⟨⟨zs, e'⟩, o⟩ := cls R1 q1 q2 hk o
          rcases bm_list R1 q1 q2 e' o with ⟨h, _⟩ | ⟨h, _⟩ | ⟨h, _⟩ | ⟨_, h⟩ | ⟨h, _⟩ <;> first | exact h | cases h
        · cases nb
          refine bm_run C (T0 := "list") PySem.F.plainAttrs_list PySem.F.slot_list_clear PySem.F.type_list_clear mt_clear hl hlen hb st hz ha hs I R F o' hv tyl fun ψ G h2 vs x ys E R1 q1 q2 hk o => ?_
          obtain ⟨⟨zs, e'⟩, o⟩ := cls R1 q1 q2 hk o
          rcases bm_list R1 q1 q2 e' o with ⟨h, _⟩ | ⟨h, _⟩ | ⟨h, _⟩ | ⟨h, _⟩ | ⟨_, h⟩ <;> first | exact h | cases h
      · -- a dict
        rename_i ks0 he
        have tyl : ∀ ψ G x, Rel X.K T.toTab X.w ψ G h1 → RV X.K T.toTab ψ G (.ref nn) x → tyV X.K "dict" x G := fun ψ G x R1 q1 => by
          obtain ⟨a', ws, rfl, _, p1, _⟩ := R1.dik q1 he
          exact .inr (.inr (.inl ⟨rfl, .inl ⟨ws, p1⟩⟩))
        have cls : ∀ {ψ : List Addr} {G : L2.Hp} {h2 : Mem} {vs : List Val} {E : Nat → L2.Hp → Prop}, kindV h1 (.ref nn) = kindV h2 (.ref nn) →
            okR X.K T.toTab X.w (RV X.K T.toTab) ψ G Q E (metV P call m b (.ref nn) vs h2) → (∃ xs, h2[nn]? = some (.dik xs)) ∧ okR X.K T.toTab X.w (RV X.K T.toTab) ψ G Q E (bmV b (.ref nn) vs h2) := fun {ψ G h2 vs E} hk o => by
          simp only [kindV, he] at hk
          split at hk <;> first | omega | skip
          rename_i xs e'
          simp only [metV, e'] at o
          exact ⟨⟨xs, e'⟩, o⟩
        simp only [decide_eq_true_eq] at hm
        have nb : n = b.name := by
          rcases hbn with h | h
          · exact h
          · rw [h] at hm; simp at hm
        rcases hm with rfl | rfl
        · cases nb
          refine bm_run C (T0 := "dict") PySem.F.plainAttrs_dict PySem.F.slot_dict_get PySem.F.type_dict_get (mt_dget (by have := C.un; omega)) hl hlen hb st hz ha hs I R F o' hv tyl fun ψ G h2 vs x ys E R1 q1 q2 hk o => ?_
          obtain ⟨e', o⟩ := cls hk o
          rcases bm_dict R1 q1 q2 (.inl e') o with ⟨_, h⟩ | ⟨h, _⟩ <;> first | exact h | cases h
        · cases nb
          refine bm_run C (T0 := "dict") PySem.F.plainAttrs_dict PySem.F.slot_dict_pop PySem.F.type_dict_pop mt_dpop hl hlen hb st hz ha hs I R F o' hv tyl fun ψ G h2 vs x ys E R1 q1 q2 hk o => ?_
          obtain ⟨e', o⟩ := cls hk o
          rcases bm_dict R1 q1 q2 (.inl e') o with ⟨h, _⟩ | ⟨_, h⟩ <;> first | exact h | cases h
      · -- a dict of tuples
        rename_i ks0 he
        have tyl : ∀ ψ G x, Rel X.K T.toTab X.w ψ G h1 → RV X.K T.toTab ψ G (.ref nn) x → tyV X.K "dict" x G := fun ψ G x R1 q1 => by
          obtain ⟨a', ws, rfl, _, p1, _⟩ := R1.dit q1 he
          exact .inr (.inr (.inl ⟨rfl, .inr ⟨ws, p1⟩⟩))
        have cls : ∀ {ψ : List Addr} {G : L2.Hp} {h2 : Mem} {vs : List Val} {E : Nat → L2.Hp → Prop}, kindV h1 (.ref nn) = kindV h2 (.ref nn) →
            okR X.K T.toTab X.w (RV X.K T.toTab) ψ G Q E (metV P call m b (.ref nn) vs h2) → (∃ xs, h2[nn]? = some (.dit xs)) ∧ okR X.K T.toTab X.w (RV X.K T.toTab) ψ G Q E (bmV b (.ref nn) vs h2) := fun {ψ G h2 vs E} hk o => by
          simp only [kindV, he] at hk
          split at hk <;> first | omega | skip
          rename_i xs e'
          simp only [metV, e'] at o
          exact ⟨⟨xs, e'⟩, o⟩
        have eb : b = .get := by simpa using hm
        subst eb
        have nb : n = Bm.get.name := by rcases hbn with h | h; exact h; cases h
        cases nb
        refine bm_run C (T0 := "dict") PySem.F.plainAttrs_dict PySem.F.slot_dict_get PySem.F.type_dict_get (mt_dget (by have := C.un; omega)) hl hlen hb st hz ha hs I R F o' hv tyl fun ψ G h2 vs x ys E R1 q1 q2 hk o => ?_
        obtain ⟨e', o⟩ := cls hk o
        rcases bm_dict R1 q1 q2 (.inr e') o with ⟨_, h⟩ | ⟨h, _⟩ <;> first | exact h | cases h
      · cases hm
end
end PyI
namespace PyI
open PySem PySem.Spec PyProof.Rows L2
section
variable {P : Pg} {G : Gam} {T : Tab2} {c : SC} {X : Cx} {call callI : Nat → List Val → Mem → Res Val} {W : WX} {k : Nat}
/-! ### built-ins -/
theorem s_bltB (C : Ctx P G T c X call callI W k) {b : Blt} {es : Exs} {n id : String} {x : Str} {y : Expr} {xs : List Expr} {p pos : Pos} (hr : CallR X (.builtin id) (rBl X.K T.toTab X.w b)) (hx : G.bl c x (n : Str) = true) (hv : bootBuiltins (n : Str) = some (.builtin id))
    (st : (y :: xs).all notStar = true) (hs : SEs P T X call callI W es (y :: xs)) : SE P T X call callI W (.blt b es) (.Call (.Name x p) (y :: xs) [] pos) := by
  obtain ⟨rfl, g1, g2, g3, g4⟩ := C.blt hx
  simp only [List.all_cons, Bool.and_eq_true] at st
  refine peI (pe_callB hr g1 g2 hv hs g4 g3 (star_of st.1 _ _) (noneStar _ _ st.2)) fun σ H Q h => ?_
  exact (tR.bind1 (R1 := RVs X.K T.toTab) (f := fun _ vs h1 => bltV b vs h1) h).mono fun x H1 ⟨v, φ, h1, fr, R, F, q, o⟩ => ⟨_, v, φ, h1, R, q, o⟩
theorem s_bltT (C : Ctx P G T c X call callI W k) {b : Blt} {es : Exs} {n id : String} {x : Str} {y : Expr} {xs : List Expr} {p pos : Pos} (hr : CallR X (.type id) (rBl X.K T.toTab X.w b)) (hx : G.bl c x (n : Str) = true) (hv : bootBuiltins (n : Str) = some (.type id))
    (st : (y :: xs).all notStar = true) (hs : SEs P T X call callI W es (y :: xs)) : SE P T X call callI W (.blt b es) (.Call (.Name x p) (y :: xs) [] pos) := by
  obtain ⟨rfl, g1, g2, g3, g4⟩ := C.blt hx
  simp only [List.all_cons, Bool.and_eq_true] at st
  refine peI (pe_callTy hr g1 g2 hv hs g4 g3 (star_of st.1 _ _) (noneStar _ _ st.2)) fun σ H Q h => ?_
  exact (tR.bind1 (R1 := RVs X.K T.toTab) (f := fun _ vs h1 => bltV b vs h1) h).mono fun x H1 ⟨v, φ, h1, fr, R, F, q, o⟩ => ⟨_, v, φ, h1, R, q, o⟩
theorem s_srtR (C : Ctx P G T c X call callI W k) {es : Exs} {x r : Str} {y : Expr} {xs : List Expr} {j : Nat} {p p1 p2 pos : Pos} (hx : G.bl c x "sorted" = true) (hk : r = "reverse") (st : (y :: xs).all notStar = true) (hs : SEs P T X call callI W es (y :: xs)) :
    SE P T X call callI W (.blt .srtR es) (.Call (.Name x p) (y :: xs) [⟨some r, .Constant (.bool true) j p1, p2⟩] pos) := by
  obtain ⟨rfl, g1, g2, g3, g4⟩ := C.blt hx
  subst hk
  have st' := st
  simp only [List.all_cons, Bool.and_eq_true] at st
  refine peI (pe_callBK (srtR_ok (T := T.toTab)) g1 g2 (by decide +kernel) hs (pk_cons pe_bl pk_nil) g4 g3 (by rw [star_of st.1]; rfl) (noneStar _ _ st') rfl rfl rfl) fun σ H Q h => ?_
  exact (tR.bind1 (R1 := RVs X.K T.toTab) (f := fun _ vs h1 => bltV .srtR vs h1) h).mono fun x H1 ⟨v, φ, h1, fr, R, F, q, o⟩ => ⟨rfl, _, v, φ, h1, R, q, o⟩
theorem rgV_R {K : PySem.W.Frag} {T : Tab} {φ : List Addr} {H : L2.Hp} (a b : Int) : RVs K T φ H (rngL a (b - a).toNat) (rgV a b) := by
  have e1 : rngL a (b - a).toNat = ((List.range (b - a).toNat).map fun (i : Nat) => a + (i : Int)).map Val.int := by
    unfold rngL; rw [List.map_map]; rfl
  have e2 : rgV a b = ((List.range (b - a).toNat).map fun (i : Nat) => a + (i : Int)).map V.int := by
    unfold rgV; rw [List.map_map]; rfl
  rw [e1, e2]
  exact RVs.of_ints _
theorem s_lr1 (C : Ctx P G T c X call callI W k) {e : Ex} {x r : Str} {y : Expr} {p p1 p2 pos : Pos} (hx : G.bl c x "list" = true) (hr : G.bl c r "range" = true) (st : notStar y = true) (hs : SE P T X call callI W e y) :
    SE P T X call callI W (.lr1 e) (.Call (.Name x p) [.Call (.Name r p1) [y] [] p2] [] pos) := by
  obtain ⟨rfl, g1, g2, g3, g4⟩ := C.blt hx
  obtain ⟨rfl, k1, k2, k3, k4⟩ := C.blt hr
  refine peI (pe_listRg C.calm g1 g2 (prg_1 k1 k2 hs (star_of st _ _)) (star_of rfl _ _)) fun σ H Q ⟨φ, h, fr, R, F, o⟩ => ?_
  refine ⟨φ, h, fr, R, F, o.bind.mono fun z H1 hh => ?_⟩
  obtain ⟨v, ψ, h1, x1, R1, q1, o1⟩ := hh
  clear o
  cases v <;> simp only [] at o1 <;> try exact False.elim o1
  rename_i n
  split at o1
  · rename_i hb
    simp only [big_eq, Bool.and_eq_true, decide_eq_true_eq] at hb
    refine ⟨n, q1, ⟨by omega, by omega, by omega, by omega, by omega⟩, ?_⟩
    exact o1.new R1 fun ψ G _ e => ⟨_, rfl, by have := rgV_R (K := X.K) (T := T.toTab) (φ := ψ) (H := G) 0 n; simpa using this⟩
  · exact False.elim o1
theorem s_lr2 (C : Ctx P G T c X call callI W k) {e d : Ex} {x r : Str} {y z : Expr} {p p1 p2 pos : Pos} (hx : G.bl c x "list" = true) (hr : G.bl c r "range" = true) (st : notStar y = true) (st2 : notStar z = true) (hs : SE P T X call callI W e y) (hd : SE P T X call callI W d z) :
    SE P T X call callI W (.lr2 e d) (.Call (.Name x p) [.Call (.Name r p1) [y, z] [] p2] [] pos) := by
  obtain ⟨rfl, g1, g2, g3, g4⟩ := C.blt hx
  obtain ⟨rfl, k1, k2, k3, k4⟩ := C.blt hr
  refine peI (pe_listRg C.calm g1 g2 (prg_2 k1 k2 hs hd (star_of st _ _) (star_of st2 _ _) (noneStar _ _ (by simp [st2]))) (star_of rfl _ _)) fun σ H Q ⟨φ, h, fr, R, F, o⟩ => ?_
  refine ⟨φ, h, fr, R, F, o.bind.mono fun z H1 hh => ?_⟩
  obtain ⟨v, ψ, h1, x1, R1, q1, o1⟩ := hh
  refine ⟨ψ, h1, fr, R1, F.mono x1, o1.bind.mono fun z H2 hh => ?_⟩
  obtain ⟨u, χ, h2, x2, R2, q2, o2⟩ := hh
  clear o o1
  cases v <;> cases u <;> simp only [] at o2 <;> try exact False.elim o2
  rename_i n m
  split at o2
  · rename_i hb
    simp only [big_eq, Bool.and_eq_true, decide_eq_true_eq] at hb
    refine ⟨n, m, q1, q2, ⟨by omega, by omega, by omega, by omega, by omega⟩, ?_⟩
    exact o2.new R2 fun ψ G _ e => ⟨_, rfl, rgV_R n m⟩
  · exact False.elim o2
theorem isi_ok {K : PySem.W.Frag} {T : Tab} {w : World} {φ : List Addr} {H : L2.Hp} {h : Mem} (R : Rel K T w φ H h) {v : Val} {x : V} {t : Ty} {s : String} {b : Bool} (ht : t.name = some s) (q : RV K T φ H v x) (e : isiV h t v = some b) :
    ∃ u, TyX K H x u ∧ PySem.W.kitOne K u (.type s) = some b := by
  have fin : ∀ {a : String}, kitB a s = some b → PySem.W.kitOne K (.type a) (.type s) = some b := fun h => kit_ty h
  cases v with
  | non =>
    refine ⟨_, .base (by rw [show x = _ from q]; exact .non), fin ?_⟩
    cases t <;> simp only [Ty.name, Option.some.injEq, reduceCtorEq] at ht <;> subst ht <;> simp only [isiV, Option.some.injEq] at e <;> subst e <;> decide +kernel
  | bl k =>
    refine ⟨_, .base (by rw [show x = _ from q]; exact .bl k), fin ?_⟩
    cases t <;> simp only [Ty.name, Option.some.injEq, reduceCtorEq] at ht <;> subst ht <;> simp only [isiV, Option.some.injEq] at e <;> subst e <;> decide +kernel
  | int i =>
    refine ⟨_, .base (by rw [show x = _ from q]; exact .int i), fin ?_⟩
    cases t <;> simp only [Ty.name, Option.some.injEq, reduceCtorEq] at ht <;> subst ht <;> simp only [isiV, Option.some.injEq] at e <;> subst e <;> decide +kernel
  | str z =>
    refine ⟨_, .base (by rw [show x = _ from q]; exact .str _), fin ?_⟩
    cases t <;> simp only [Ty.name, Option.some.injEq, reduceCtorEq] at ht <;> subst ht <;> simp only [isiV, Option.some.injEq] at e <;> subst e <;> decide +kernel
  | tup xs =>
    obtain ⟨a, vs, rfl, p1, p2⟩ := q
    refine ⟨_, .base (.tup p1), fin ?_⟩
    cases t <;> simp only [Ty.name, Option.some.injEq, reduceCtorEq] at ht <;> subst ht <;> simp only [isiV, Option.some.injEq] at e <;> subst e <;> decide +kernel
  | ref n =>
    simp only [isiV] at e
    split at e
    · rename_i he
      obtain ⟨a, vs, rfl, _, p1, p2⟩ := R.lst q he
      refine ⟨_, .base (.lst p1), fin ?_⟩
      cases t <;> simp only [Ty.name, Option.some.injEq, reduceCtorEq] at ht <;> subst ht <;> simp only [Option.some.injEq] at e <;> subst e <;> decide +kernel
    · rename_i he
      obtain ⟨a, vs, rfl, _, p1, p2⟩ := R.dik q he
      refine ⟨_, .base (.dK p1), fin ?_⟩
      cases t <;> simp only [Ty.name, Option.some.injEq, reduceCtorEq] at ht <;> subst ht <;> simp only [Option.some.injEq] at e <;> subst e <;> decide +kernel
    · cases e
  | fn f => cases e
  | ktup xs => cases e
  | klst xs => cases e
theorem s_isi (C : Ctx P G T c X call callI W k) {a : Ex} {t : Ty} {s : String} {x tn : Str} {y : Expr} {p p1 pos : Pos} (hx : G.bl c x "isinstance" = true) (st : notStar y = true) (ht : t.name = some s) (htn : G.bl c tn (s : Str) = true) (ha : SE P T X call callI W a y) :
    SE P T X call callI W (.isi a t) (.Call (.Name x p) [y, .Name tn p1] [] pos) := by
  obtain ⟨rfl, g1, g2, g3, g4⟩ := C.blt hx
  obtain ⟨rfl, k1, k2, k3, k4⟩ := C.blt htn
  have hv : bootBuiltins (s : Str) = some (.type s) := by
    cases t <;> simp only [Ty.name, Option.some.injEq, reduceCtorEq] at ht <;> subst ht <;> decide +kernel
  refine peI (pe_callB call_isi g1 g2 (by decide +kernel) (pa_cons ha (pa_cons (pe_bltn (v := .ty s) k1 k2 hv rfl k4 k3) pa_nil (star_of rfl _ _)) (star_of st _ _)) g4 g3 (star_of st _ _) (noneStar _ _ rfl)) fun σ H Q h => ?_
  refine (tR.bind1 (R1 := RV X.K T.toTab) (f := fun _ v h1 => pure h1 ((isiV h1 t v).map Val.bl)) h).mono fun z H1 ⟨v, φ, h1, fr, R, F, q, o⟩ => ?_
  obtain ⟨u, e, o⟩ := o.pure
  cases hi : isiV h1 t v with
  | none => rw [hi] at e; cases e
  | some b =>
    rw [hi] at e; cases e
    obtain ⟨u, e1, e2⟩ := isi_ok R ht q hi
    exact ⟨z, .ty s, u, .type s, b, rfl, ClsV.ty s, e1, e2, o.ok R rfl⟩
end
end PyI
namespace PyI
open PySem PySem.Spec PyProof.Rows L2
section
variable {P : Pg} {G : Gam} {T : Tab2} {c : SC} {X : Cx} {call callI : Nat → List Val → Mem → Res Val} {W : WX} {k : Nat}
/-! ### targets -/
def gT (K : PySem.W.Frag) (T : Tab) (w : World) (tg : Tgt) : TG := fun x σ H Q =>
  ∃ φ h fr v fr', Rel K T w φ H h ∧ RFr K T φ H fr σ ∧ RV K T φ H v x ∧ tg.put h v fr = some fr' ∧ ∀ σ', RFr K T φ H fr' σ' → σ'.length = σ.length → (∀ i, i ∉ tg.slots → σ'[i]? = σ[i]?) → Q σ' H
theorem RFr.set {K : PySem.W.Frag} {T : Tab} {φ : List Addr} {H : L2.Hp} {fr : PyI.Fr} {σ : L2.St} (F : RFr K T φ H fr σ) {v : Val} {x : V} (q : RV K T φ H v x) (i : Nat) : RFr K T φ H (fr.set i (some v)) (σ.set i (some x)) := by
  refine ⟨by simp [F.1], fun j u e => ?_⟩
  by_cases hj : i = j
  · subst hj
    by_cases hl : i < fr.length
    · rw [List.getElem?_set_self hl] at e
      cases e
      exact ⟨x, List.getElem?_set_self (by rw [← F.1]; exact hl), q⟩
    · rw [List.getElem?_eq_none (by simpa using hl)] at e; cases e
  · rw [List.getElem?_set_ne hj] at e ⊢
    exact F.2 j u e
theorem Ctx.st (C : Ctx P G T c X call callI W k) {i : Nat} {x : Str} {pos : Pos} (h : c.loc i x = true) : PG X (.Name x pos) (gName i) := by
  unfold SC.loc at h
  simp only [Bool.and_eq_true, decide_eq_true_eq, Bool.or_eq_true] at h
  obtain ⟨h1, h2⟩ := h
  refine pg_name (by rw [C.N]; exact C.nd) (by rw [C.N]; exact h1) ?_ ?_
  · unfold L2.Loc; rw [C.sc]; exact h2.imp id (·.2)
  · rcases h2 with h2 | ⟨h2, h3⟩
    · exact .inr (by rw [C.sc]; exact h2)
    · exact .inl (by rw [C.fnt h2])
def setSt : List Nat → List V → L2.St → L2.St
  | i :: is, v :: vs, σ => setSt is vs (σ.set i (some v))
  | _, _, σ => σ
theorem names_go (C : Ctx P G T c X call callI W k) : ∀ (is : List Nat) (xs : List Expr), mTg.go c is xs = true →
    PGs X xs (fun vs σ H Q => vs.length = is.length ∧ Q (setSt is vs σ) H) ∧ (assignEach xs X.env).length = is.length ∧ (assignEach xs X.env).findIdx? (·.1) = none
  | [], [], _ => ⟨⟨fun pins s σ H vs us Q I r h => pgs_nil.run pins s σ H vs us Q I r ⟨List.length_eq_zero_iff.mp h.1, by have := h.2; cases vs <;> exact this⟩⟩, rfl, rfl⟩
  | [], _ :: _, h => by simp [mTg.go] at h
  | _ :: _, [], h => by simp [mTg.go] at h
  | i :: is, x :: xs, h => by
    cases x <;> simp only [mTg.go, Bool.false_eq_true, Bool.and_eq_true] at h
    obtain ⟨ih1, ih2, ih3⟩ := names_go C is xs h.2
    refine ⟨⟨fun pins s σ H vs us Q I r hh => ?_⟩, ?_, ?_⟩
    · obtain ⟨hl, hq⟩ := hh
      cases vs with
      | nil => simp at hl
      | cons v vs => exact (pgs_cons (C.st h.1) ih1 rfl).run pins s σ H _ us Q I r ⟨v, vs, rfl, by simpa using hl, hq⟩
    · show (assignEach xs X.env).length + 1 = _; rw [ih2]; rfl
    · show List.findIdx? (·.1) ((false, _) :: assignEach xs X.env) = none
      rw [List.findIdx?_cons]; simp [ih3]
theorem setAll_st {K : PySem.W.Frag} {T : Tab} {φ : List Addr} {H : L2.Hp} : ∀ {is : List Nat} {vs : List Val} {xs : List V} {fr fr' : PyI.Fr} {σ : L2.St}, RFr K T φ H fr σ → RVs K T φ H vs xs → setAll is vs fr = some fr' →
    xs.length = is.length ∧ RFr K T φ H fr' (setSt is xs σ) ∧ (setSt is xs σ).length = σ.length ∧ ∀ i, i ∉ is → (setSt is xs σ)[i]? = σ[i]?
  | [], [], xs, fr, fr', σ, F, q, e => by
    cases e; rw [show xs = [] from q]; exact ⟨rfl, F, rfl, fun _ _ => rfl⟩
  | [], _ :: _, _, _, _, _, _, _, e => by cases e
  | _ :: _, [], _, _, _, _, _, _, e => by cases e
  | i :: is, v :: vs, xs, fr, fr', σ, F, q, e => by
    obtain ⟨x, r, rfl, q1, q2⟩ := q
    obtain ⟨h1, h2, h3, h4⟩ := setAll_st (F.set q1 i) q2 e
    refine ⟨by simpa using h1, h2, by rw [show setSt (i :: is) (x :: r) σ = setSt is r (σ.set i (some x)) from rfl, h3]; simp, fun j hj => ?_⟩
    simp only [List.mem_cons, not_or] at hj
    show (setSt is r (σ.set i (some x)))[j]? = _
    rw [h4 j hj.2, List.getElem?_set_ne (Ne.symm hj.1)]
theorem s_tg (C : Ctx P G T c X call callI W k) {tg : Tgt} {x : Expr} (h : mTg c tg x = true) : PG X x (gT X.K T.toTab X.w tg) := by
  cases tg with
  | v i =>
    cases x <;> simp only [mTg, Bool.false_eq_true] at h
    refine ⟨fun pins s σ H y u Q I r ⟨φ, hh, fr, v, fr', R, F, q, e, fin⟩ => (C.st h).run pins s σ H y u Q I r ?_⟩
    cases e
    exact fin _ (F.set q i) (by simp) fun j hj => List.getElem?_set_ne (by simpa [Tgt.slots, eq_comm] using hj)
  | t is =>
    cases x <;> simp only [mTg, Bool.false_eq_true] at h
    rename_i elts kk tpos
    obtain ⟨p1, p2, p3⟩ := names_go C is _ h
    refine ⟨fun pins s σ H y u Q I r ⟨φ, hh, fr, v, fr', R, F, q, e, fin⟩ => ?_⟩
    have tupc : ∀ {a : Addr} {xs : List V} {vs : List Val}, y = .ref a → SqT X.K H a xs → RVs X.K T.toTab φ H vs xs → setAll is vs fr = some fr' →
        wpAny (model X.prog X.w) X.A (assign (.Tuple elts kk tpos) X.env u) (fun _ s' => ∃ σ' H', Inv X pins σ' H' s' ∧ Q σ' H') X.xe s := fun {a xs vs} ey hs qs e => by
      obtain ⟨h1, h2, h3, h4⟩ := setAll_st F qs e
      exact (pg_tup C.calm p1 p2 p3).run pins s σ H y u Q I r ⟨a, xs, ey, hs, h1, h1, fin _ h2 h3 h4⟩
    cases v <;> simp only [Tgt.put, reduceCtorEq] at e
    · obtain ⟨a, vs, rfl, r1, r2⟩ := q
      exact tupc rfl (.of r1) r2 e
    · split at e
      · rename_i xs hl
        obtain ⟨a, vs, rfl, _, r1, r2⟩ := R.lstA q hl
        obtain ⟨h1, h2, h3, h4⟩ := setAll_st F r2 e
        exact (pg_lst C.calm p1 p2 p3).run pins s σ H _ u Q I r ⟨a, vs, rfl, r1, h1, h1, fin _ h2 h3 h4⟩
      · cases e
    · obtain ⟨a, vs, rfl, r1, r2⟩ := q
      exact tupc rfl r1.sq r2 e
/-! ### what is walked -/
def ItOk (K : PySem.W.Frag) (T : Tab) (w : World) (φ : List Addr) (H : L2.Hp) (t : Itr) (J : It) : Prop := ∀ ψ G h i, Ext φ H ψ G → Rel K T w ψ G h →
  (∀ v, t.at i h = some v → J.go i G ∧ ∀ x G', J.yld i G x G' → Ext ψ G ψ G' ∧ Rel K T w ψ G' h ∧ RV K T ψ G' v x) ∧ (t.fin i h = true → J.stop i G)
theorem ItOk.mono {K : PySem.W.Frag} {T : Tab} {w : World} {φ ψ : List Addr} {H G : L2.Hp} {t : Itr} {J : It} (o : ItOk K T w φ H t J) (e : Ext φ H ψ G) : ItOk K T w ψ G t J := fun χ F h i e2 R => o χ F h i (e.trans e2) R
abbrev tItr (K : PySem.W.Frag) (T : Tab) (w : World) (W : WX) (r : PyI.Fr → Mem → Res Itr) : TI := tR K T w W (ItOk K T w) r
theorem piI {X : Cx} {tg it : Expr} {wi wi' : TI} (p : PI X tg it wi) (i : ∀ σ H R, wi' σ H R → wi σ H R) : PI X tg it wi' := ⟨fun pins s σ H R I h => p.run pins s σ H R I (i _ _ _ h)⟩
theorem piOr {X : Cx} {tg it : Expr} {wi wi' : TI} (p : PI X tg it wi) (q : PI X tg it wi') : PI X tg it (fun σ H R => wi σ H R ∨ wi' σ H R) := ⟨fun pins s σ H R I h => h.elim (p.run pins s σ H R I) (q.run pins s σ H R I)⟩
section
variable {K : PySem.W.Frag} {T : Tab} {w : World} {φ : List Addr} {H : L2.Hp} {h : Mem}
theorem sqL_inj {ψ : List Addr} {G : L2.Hp} {h : Mem} {n : Nat} {xs : List Val} {a : Addr} {i : Nat} {v : Val} (R : Rel K T w ψ G h) (e : ψ[n]? = some a) (hl : lstA h n = some xs) (hv : xs[i]? = some v) : ∃ ys y, SqL K G a ys ∧ ys[i]? = some y ∧ RV K T ψ G v y := by
  obtain ⟨a', ys, e1, e2, q1, q2⟩ := R.lstA (x := .ref a) ⟨a, e, rfl⟩ hl
  cases e1
  obtain ⟨y, ey, ry⟩ := q2.get hv
  exact ⟨ys, y, q1, ey, ry⟩
theorem itl_ok {n : Nat} {a : Addr} (e : φ[n]? = some a) : ItOk K T w φ H (.lst n) (Itl K a) := fun ψ G h i ext R => by
  refine ⟨fun v hv => ?_, fun hf => ?_⟩
  · simp only [Itr.at] at hv
    obtain ⟨xs, hl, hv⟩ := Option.bind_eq_some_iff.mp hv
    obtain ⟨ys, y, q1, ey, ry⟩ := sqL_inj R (ext.get e) hl hv
    refine ⟨⟨ys, y, q1, ey⟩, fun x G' ⟨eg, hx⟩ => ?_⟩
    subst eg
    have := hx ys q1
    rw [ey] at this; cases this
    exact ⟨.refl, R, ry⟩
  · simp only [Itr.fin] at hf
    split at hf
    · rename_i xs hl
      obtain ⟨a', ys, e1, e2, q1, q2⟩ := R.lstA (x := .ref a) ⟨a, ext.get e, rfl⟩ hl
      cases e1
      exact ⟨ys, q1, by rw [q2.length]; simpa using hf⟩
    · cases hf
theorem ite_ok {n : Nat} {a : Addr} (e : φ[n]? = some a) : ItOk K T w φ H (.enum n) (Ite K a) := fun ψ G h i ext R => by
  refine ⟨fun v hv => ?_, fun hf => ?_⟩
  · simp only [Itr.at] at hv
    obtain ⟨u, hv, ev⟩ := Option.map_eq_some_iff.mp hv
    obtain ⟨xs, hl, hv⟩ := Option.bind_eq_some_iff.mp hv
    obtain ⟨ys, y, q1, ey, ry⟩ := sqL_inj R (ext.get e) hl hv
    refine ⟨⟨ys, y, q1, ey⟩, fun x G' ⟨T1, y1, ex, hn, eg, hx⟩ => ?_⟩
    subst eg ex ev
    have := hx ys q1
    rw [ey] at this; cases this
    exact ⟨ext_tup hn, R.tup hn, T1, _, rfl, upd_same, _, _, rfl, rfl, _, _, rfl, ry.mono (ext_tup hn) _ _, rfl⟩
  · simp only [Itr.fin] at hf
    split at hf
    · rename_i xs hl
      obtain ⟨a', ys, e1, e2, q1, q2⟩ := R.lstA (x := .ref a) ⟨a, ext.get e, rfl⟩ hl
      cases e1
      exact ⟨ys, q1, by rw [q2.length]; simpa using hf⟩
    · cases hf
theorem itv_ok {n m : Nat} {a : Addr} (e : φ[n]? = some a) : ItOk K T w φ H (.rev n m) (Itv K a m) := fun ψ G h i ext R => by
  refine ⟨fun v hv => ?_, fun hf => (show m ≤ i by simpa [Itr.fin] using hf)⟩
  simp only [Itr.at] at hv
  split at hv
  · rename_i hi
    obtain ⟨xs, hl, hv⟩ := Option.bind_eq_some_iff.mp hv
    obtain ⟨ys, y, q1, ey, ry⟩ := sqL_inj R (ext.get e) hl hv
    refine ⟨⟨hi, ys, y, q1, ey⟩, fun x G' ⟨eg, hx⟩ => ?_⟩
    subst eg
    have := hx ys q1
    rw [ey] at this; cases this
    exact ⟨.refl, R, ry⟩
  · cases hv
theorem itt_ok {xs : List Val} {ys : List V} {a : Addr} (hs : ∀ ψ G, Ext φ H ψ G → SqT K G a ys ∧ RVs K T ψ G xs ys) : ItOk K T w φ H (.tup xs) (Itt K a) := fun ψ G h i ext R => by
  obtain ⟨q1, q2⟩ := hs ψ G ext
  refine ⟨fun v hv => ?_, fun hf => ⟨ys, q1, by rw [q2.length]; simpa [Itr.fin] using hf⟩⟩
  obtain ⟨y, ey, ry⟩ := q2.get (show xs[i]? = some v from hv)
  refine ⟨⟨ys, y, q1, ey⟩, fun x G' ⟨eg, hx⟩ => ?_⟩
  subst eg
  have := hx ys q1
  rw [ey] at this; cases this
  exact ⟨.refl, R, ry⟩
theorem itkl_ok {xs : List Val} {ys : List V} {a : Addr} (hs : ∀ ψ G, Ext φ H ψ G → SqL K G a ys ∧ RVs K T ψ G xs ys) : ItOk K T w φ H (.tup xs) (Itl K a) := fun ψ G h i ext R => by
  obtain ⟨q1, q2⟩ := hs ψ G ext
  refine ⟨fun v hv => ?_, fun hf => ⟨ys, q1, by rw [q2.length]; simpa [Itr.fin] using hf⟩⟩
  obtain ⟨y, ey, ry⟩ := q2.get (show xs[i]? = some v from hv)
  refine ⟨⟨ys, y, q1, ey⟩, fun x G' ⟨eg, hx⟩ => ?_⟩
  subst eg
  have := hx ys q1
  rw [ey] at this; cases this
  exact ⟨.refl, R, ry⟩
theorem itr_ok (lo : Int) (n : Nat) : ItOk K T w φ H (.tup (rngL lo n)) (L2.Itr lo n) := fun ψ G h i ext R => by
  have hl : (rngL lo n).length = n := by simp [rngL]
  refine ⟨fun v hv => ?_, fun hf => (show n ≤ i by simpa [PyI.Itr.fin, hl] using hf)⟩
  have hv : (rngL lo n)[i]? = some v := hv
  have hi : i < n := by have := (List.getElem?_eq_some_iff.mp hv).1; omega
  refine ⟨hi, fun x G' ⟨eg, hx⟩ => ?_⟩
  subst eg hx
  refine ⟨.refl, R, ?_⟩
  unfold rngL at hv
  rw [List.getElem?_map, List.getElem?_range hi] at hv
  cases hv
  rfl
theorem its_ok (s : Txt) : ItOk K T w φ H (.tup (s.map fun c => .str [c])) (Its (toStr s)) := fun ψ G h i ext R => by
  refine ⟨fun v hv => ?_, fun hf => (show (toStr s).cps.size ≤ i by simpa [PyI.Itr.fin, toStr] using hf)⟩
  have hv : (s.map fun c => Val.str [c])[i]? = some v := hv
  rw [List.getElem?_map] at hv
  obtain ⟨c, hc, rfl⟩ := Option.map_eq_some_iff.mp hv
  have hi : i < s.length := (List.getElem?_eq_some_iff.mp hc).1
  refine ⟨by simpa [Its, toStr] using hi, fun x G' ⟨eg, d, hd, ex⟩ => ?_⟩
  subst eg ex
  refine ⟨.refl, R, ?_⟩
  have : (toStr s).cps[i]? = some c.toNat := by simp [toStr, hc]
  rw [this] at hd; cases hd
  rfl
end
theorem tupIt {K : PySem.W.Frag} {T : Tab} {w : World} {φ : List Addr} {H : L2.Hp} {v : Val} {xs : List Val} {y : V} (e : v = .tup xs ∨ v = .ktup xs) (q : RV K T φ H v y) : ∃ a ys, y = .ref a ∧ SqT K H a ys ∧ ItOk K T w φ H (.tup xs) (Itt K a) := by
  rcases e with rfl | rfl
  · obtain ⟨a, ys, rfl, p1, p2⟩ := q
    exact ⟨a, ys, rfl, .of p1, itt_ok fun ψ G e => ⟨.of (e.tup _ _ p1), p2.mono e _ _⟩⟩
  · obtain ⟨a, ys, rfl, p1, p2⟩ := q
    exact ⟨a, ys, rfl, p1.sq, itt_ok fun ψ G e => ⟨p1.sq, p2.mono e _ _⟩⟩
abbrev SI (P : Pg) (T : Tab2) (X : Cx) (call callI : Nat → List Val → Mem → Res Val) (W : WX) (it : Itx) (t x : Expr) : Prop := PI X t x (tItr X.K T.toTab X.w W (evi P call callI it))
theorem i_val (C : Ctx P G T c X call callI W k) {e : Ex} {t x : Expr} (ha : SE P T X call callI W e x) : SI P T X call callI W (.val e) t x := by
  refine piI (piOr (pi_list ha) (piOr (pi_tup ha) (pi_str ha))) fun σ H R' ⟨φ, h, fr, R, F, o⟩ => ?_
  by_cases h1 : ∃ v h1 xs, ev P call callI e fr h = .ok v h1 ∧ (v = .tup xs ∨ v = .ktup xs)
  · obtain ⟨v, h1, xs, e1, e2⟩ := h1
    refine .inr (.inl ⟨φ, h, fr, R, F, o.bindE.mono fun y H1 ⟨v', ψ, h2, e3, x1, R1, q1, o1⟩ => ?_⟩)
    rw [e1] at e3; cases e3
    obtain ⟨a, ys, rfl, q2, ok⟩ := tupIt (w := X.w) e2 q1
    refine ⟨a, rfl, ⟨ys, q2⟩, ?_⟩
    rcases e2 with rfl | rfl <;> exact o1.ok R1 ok
  · by_cases h2 : ∃ s h1, ev P call callI e fr h = .ok (.str s) h1
    · obtain ⟨s, h1, e1⟩ := h2
      refine .inr (.inr ⟨φ, h, fr, R, F, o.bindE.mono fun y H1 ⟨v', ψ, h2, e3, x1, R1, q1, o1⟩ => ?_⟩)
      rw [e1] at e3; cases e3
      exact ⟨toStr s, q1, okR.ok (v := PyI.Itr.tup (s.map fun c => .str [c])) o1 R1 (its_ok s)⟩
    · refine .inl ⟨φ, h, fr, R, F, o.bindE.mono fun y H1 ⟨v, ψ, h3, e3, x1, R1, q1, o1⟩ => ?_⟩
      cases v <;> simp only [] at o1 <;> try exact False.elim o1
      · exact absurd ⟨_, _, e3⟩ h2
      · exact absurd ⟨_, _, _, e3, .inl rfl⟩ h1
      · rename_i n
        have go : ∀ {ys : List Val}, lstA h3 n = some ys → okR X.K T.toTab X.w (ItOk X.K T.toTab X.w) ψ H1 R' (fun c G => W (T.exn c) none σ G) (.ok (.lst n) h3) → ∃ a, y = .ref a ∧ (∃ xs, SqL X.K H1 a xs) ∧ R' (Itl X.K a) H1 := fun {ys} hl o => by
          obtain ⟨a, ws, rfl, e4, p1, p2⟩ := R1.lstA q1 hl
          exact ⟨a, rfl, ⟨ws, p1⟩, o.ok R1 (itl_ok e4)⟩
        split at o1
        · rename_i he; exact go (by unfold lstA; rw [he]; rfl) o1
        · rename_i he; exact go (by unfold lstA; rw [he]; rfl) o1
        · exact False.elim o1
      · exact absurd ⟨_, _, _, e3, .inr rfl⟩ h1
      · obtain ⟨a, ws, rfl, p1, p2⟩ := q1
        have st : ∀ ψ' G', Ext ψ H1 ψ' G' → SqL X.K G' a ws ∧ RVs X.K T.toTab ψ' G' _ ws := fun ψ' G' e => ⟨KLst.sq (p1.elim (fun ⟨o, z⟩ => .inl ⟨o, e.frz _ _ _ z⟩) .inr), p2.mono e _ _⟩
        exact ⟨a, rfl, ⟨ws, p1.sq⟩, o1.ok R1 (itkl_ok st)⟩
theorem i_rng1 (C : Ctx P G T c X call callI W k) {e : Ex} {t y : Expr} {r : Str} {p pos : Pos} (hr : G.bl c r "range" = true) (st : notStar y = true) (ha : SE P T X call callI W e y) : SI P T X call callI W (.rng1 e) t (.Call (.Name r p) [y] [] pos) := by
  obtain ⟨rfl, k1, k2, k3, k4⟩ := C.blt hr
  refine piI (pi_range1 k1 k2 (pa_cons ha pa_nil (star_of st _ _)) (star_of st _ _)) fun σ H R' ⟨φ, h, fr, R, F, o⟩ => ?_
  refine ⟨φ, h, fr, R, F, o.bind.mono fun y H1 ⟨v, ψ, h2, x1, R1, q1, o1⟩ => ?_⟩
  cases v <;> simp only [] at o1 <;> try exact False.elim o1
  rename_i n
  split at o1
  · rename_i hb
    simp only [big_eq, Bool.and_eq_true, decide_eq_true_eq] at hb
    exact ⟨n, by rw [show y = _ from q1], hb.1, hb.2, o1.ok R1 (itr_ok 0 _)⟩
  · exact False.elim o1
theorem i_rng2 (C : Ctx P G T c X call callI W k) {a b : Ex} {t y z : Expr} {r : Str} {p pos : Pos} (hr : G.bl c r "range" = true) (st : notStar y = true) (st2 : notStar z = true) (ha : SE P T X call callI W a y) (hb : SE P T X call callI W b z) : SI P T X call callI W (.rng2 a b) t (.Call (.Name r p) [y, z] [] pos) := by
  obtain ⟨rfl, k1, k2, k3, k4⟩ := C.blt hr
  refine piI (pi_range2 k1 k2 (pa_cons ha (pa_cons hb pa_nil (star_of st2 _ _)) (star_of st _ _)) (by rw [star_of st, star_of st2]; rfl) (star_of st2 _ _)) fun σ H R' ⟨φ, h, fr, R, F, o⟩ => ?_
  refine ⟨φ, h, fr, R, F, o.bind.mono fun y H1 hh => ?_⟩
  obtain ⟨v, ψ, h2, x1, R1, q1, o1⟩ := hh
  refine ⟨ψ, h2, fr, R1, F.mono x1, o1.bind.mono fun z H2 hh => ?_⟩
  obtain ⟨u, χ, h3, x2, R2, q2, o2⟩ := hh
  clear o o1
  cases v <;> cases u <;> simp only [] at o2 <;> try exact False.elim o2
  rename_i i j
  split at o2
  · rename_i hb
    simp only [big_eq, Bool.and_eq_true, decide_eq_true_eq] at hb
    exact ⟨i, j, by rw [show y = _ from q1, show z = _ from q2], by omega, o2.ok R2 (itr_ok i _)⟩
  · exact False.elim o2
theorem i_enum (C : Ctx P G T c X call callI W k) {e : Ex} {t y : Expr} {r : Str} {p pos : Pos} (ht : isTup t = true) (hr : G.bl c r "enumerate" = true) (st : notStar y = true) (ha : SE P T X call callI W e y) : SI P T X call callI W (.enum e) t (.Call (.Name r p) [y] [] pos) := by
  obtain ⟨rfl, k1, k2, k3, k4⟩ := C.blt hr
  cases t <;> simp only [isTup, Bool.false_eq_true] at ht
  refine piI (pi_enum k1 k2 (pa_cons ha pa_nil (star_of st _ _)) (star_of st _ _)) fun σ H R' ⟨φ, h, fr, R, F, o⟩ => ?_
  refine ⟨φ, h, fr, R, F, o.bind.mono fun y H1 ⟨v, ψ, h2, x1, R1, q1, o1⟩ => ?_⟩
  cases v <;> simp only [] at o1 <;> try exact False.elim o1
  rename_i n
  have go : ∀ {ys : List Val}, lstA h2 n = some ys → okR X.K T.toTab X.w (ItOk X.K T.toTab X.w) ψ H1 R' (fun c G => W (T.exn c) none σ G) (.ok (.enum n) h2) → ∃ a xs, [y] = [.ref a] ∧ SqL X.K H1 a xs ∧ R' (Ite X.K a) H1 := fun {ys} hl o => by
    obtain ⟨a, ws, rfl, e4, p1, p2⟩ := R1.lstA q1 hl
    exact ⟨a, ws, rfl, p1, o.ok R1 (ite_ok e4)⟩
  split at o1
  · rename_i he; exact go (by unfold lstA; rw [he]; rfl) o1
  · rename_i he; exact go (by unfold lstA; rw [he]; rfl) o1
  · exact False.elim o1
theorem i_rev (C : Ctx P G T c X call callI W k) {e : Ex} {t y : Expr} {r : Str} {p pos : Pos} (hr : G.bl c r "reversed" = true) (st : notStar y = true) (ha : SE P T X call callI W e y) : SI P T X call callI W (.rev e) t (.Call (.Name r p) [y] [] pos) := by
  obtain ⟨rfl, k1, k2, k3, k4⟩ := C.blt hr
  refine piI (pi_reversed k1 k2 (pa_cons ha pa_nil (star_of st _ _)) (star_of st _ _)) fun σ H R' ⟨φ, h, fr, R, F, o⟩ => ?_
  refine ⟨φ, h, fr, R, F, o.bind.mono fun y H1 ⟨v, ψ, h2, x1, R1, q1, o1⟩ => ?_⟩
  cases v <;> simp only [] at o1 <;> try exact False.elim o1
  rename_i n
  split at o1
  · rename_i ys hl
    obtain ⟨a, ws, rfl, e4, p1, p2⟩ := R1.lstA q1 hl
    refine ⟨a, ws, rfl, p1, ?_⟩
    rw [p2.length]
    exact o1.ok R1 (itv_ok e4)
  · exact False.elim o1
end
end PyI
namespace PyI
open PySem PySem.Spec PyProof.Rows L2
section
variable {P : Pg} {G : Gam} {T : Tab2} {c : SC} {X : Cx} {call callI : Nat → List Val → Mem → Res Val} {W : WX} {k : Nat}
abbrev ST (P : Pg) (T : Tab2) (X : Cx) (call callI : Nat → List Val → Mem → Res Val) (W : WX) (e : Te) (x : Expr) : Prop := PT X x (tBl X.K T.toTab X.w W (evt P call callI e))
/-- a truth value is asked for its truth -/
theorem boolV {a : Ex} {σ : L2.St} {H : L2.Hp} {Q : Bool → L2.Hp → Prop} (bl : ∀ fr h v h1, ev P call callI a fr h = .ok v h1 → ∃ b, v = .bl b) (o : tBl X.K T.toTab X.w W (evt P call callI (.e a)) σ H Q) :
    tV X.K T.toTab X.w W (ev P call callI a) σ H (fun x H' => ∃ k, x = .bl k ∧ Q k H') := by
  obtain ⟨φ, h, fr, R, F, o⟩ := o
  refine ⟨φ, h, fr, R, F, ?_⟩
  simp only [evt] at o
  cases hv : ev P call callI a fr h with
  | bad => rw [hv] at o; exact o
  | exc cc hc => rw [hv] at o; exact o
  | ok v h1 =>
    rw [hv] at o
    obtain ⟨b, rfl⟩ := bl _ _ _ _ hv
    intro ψ G x e R1 q
    exact ⟨b, q, o ψ G b e R1 rfl⟩
theorem bind_inv {α β : Type} {r : Res α} {f : α → Mem → Res β} {v : β} {h : Mem} (e : r.bind f = .ok v h) : ∃ a h1, r = .ok a h1 ∧ f a h1 = .ok v h := by
  cases r with
  | ok a h1 => exact ⟨a, h1, rfl, e⟩
  | exc c h => cases e
  | bad => cases e
theorem pure_inv {α : Type} {p : Option α} {v : α} {h h1 : Mem} (e : pure h p = .ok v h1) : p = some v ∧ h1 = h := by
  cases p with
  | none => cases e
  | some a => cases e; exact ⟨rfl, rfl⟩
theorem bl_cmp {o : Cop} {a b : Ex} : ∀ fr h v h1, ev P call callI (.cmp o a b) fr h = .ok v h1 → ∃ b, v = .bl b := fun fr h v h1 e => by
  simp only [ev] at e
  obtain ⟨_, _, _, e⟩ := bind_inv e
  obtain ⟨_, _, _, e⟩ := bind_inv e
  obtain ⟨t, _, _, e⟩ := bind_inv e
  cases e; exact ⟨t, rfl⟩
theorem bl_chn {o p : Cop} {a b d : Ex} : ∀ fr h v h1, ev P call callI (.chn o p a b d) fr h = .ok v h1 → ∃ b, v = .bl b := fun fr h v h1 e => by
  simp only [ev] at e
  obtain ⟨_, _, _, e⟩ := bind_inv e
  obtain ⟨_, _, _, e⟩ := bind_inv e
  obtain ⟨t, _, _, e⟩ := bind_inv e
  split at e
  · obtain ⟨_, _, _, e⟩ := bind_inv e
    obtain ⟨t, _, _, e⟩ := bind_inv e
    cases e; exact ⟨t, rfl⟩
  · cases e; exact ⟨false, rfl⟩
theorem t_cmp (C : Ctx P G T c X call callI W k) {o : Cop} {a b : Ex} {l r : Expr} {pos : Pos} (hs : notSet r = true) (ha : SE P T X call callI W a l) (hb : SE P T X call callI W b r) :
    ST P T X call callI W (.e (.cmp o a b)) (.Compare l [copOf o] [r] pos) :=
  ptI (pt_cmpR (cmp_ok (T := T.toTab) C.un o) ha hb (behind_of hs _)) fun σ H Q h => r_cmp (boolV bl_cmp h)
theorem t_chn (C : Ctx P G T c X call callI W k) {o p : Cop} {a b d : Ex} {l r s : Expr} {pos : Pos} (hs : notSet s = true) (ha : SE P T X call callI W a l) (hb : SE P T X call callI W b r) (hd : SE P T X call callI W d s) :
    ST P T X call callI W (.e (.chn o p a b d)) (.Compare l [copOf o, copOf p] [r, s] pos) :=
  ptI (pt_chain (cmp_ok (T := T.toTab) C.un o) (cmp_ok (T := T.toTab) C.un p) ha hb hd (behind_of hs _)) fun σ H Q h => r_chn (boolV bl_chn h)
theorem nonV {v : Val} {x : V} {φ : List Addr} {H : L2.Hp} {K : PySem.W.Frag} {T : Tab} (q : RV K T φ H v x) : decide (x = V.non) = (match v with | .non => true | _ => false) := by
  cases v <;> simp only [] <;> first | (rw [show x = _ from q]; rfl) | (obtain ⟨a, vs, e, _⟩ := q; subst e; rfl) | (obtain ⟨a, _, e⟩ := q; subst e; rfl)
theorem t_isN (C : Ctx P G T c X call callI W k) {n : Bool} {a : Ex} {l : Expr} {j : Nat} {p1 pos : Pos} (ha : SE P T X call callI W a l) :
    ST P T X call callI W (.e (.isN n a)) (.Compare l [if n then .IsNot else .Is] [.Constant .none j p1] pos) := by
  cases n with
  | true =>
    refine ptI (pt_cmp (pc_notN ha)) fun σ H Q h => ?_
    refine (tR.bind1 (R1 := RV X.K T.toTab) (f := fun _ (v : Val) h1 => (Res.ok (Val.bl (match v with | .non => !true | _ => true)) h1 : Res Val)) (boolV (a := .isN true a) (fun fr h v h1 e => by simp only [ev] at e; obtain ⟨_, _, _, e⟩ := bind_inv e; cases e; exact ⟨_, rfl⟩) h)).mono fun x H1 ⟨v, φ, h1, fr, R, F, q, o⟩ => ?_
    have := o.ok R rfl
    show ∃ k, V.bl (!decide (x = V.non)) = .bl k ∧ Q k H1
    rw [nonV q]
    cases v <;> exact this
  | false =>
    refine ptI (pt_cmp (pc_isN ha)) fun σ H Q h => ?_
    refine (tR.bind1 (R1 := RV X.K T.toTab) (f := fun _ (v : Val) h1 => (Res.ok (Val.bl (match v with | .non => !false | _ => false)) h1 : Res Val)) (boolV (a := .isN false a) (fun fr h v h1 e => by simp only [ev] at e; obtain ⟨_, _, _, e⟩ := bind_inv e; cases e; exact ⟨_, rfl⟩) h)).mono fun x H1 ⟨v, φ, h1, fr, R, F, q, o⟩ => ?_
    have := o.ok R rfl
    show ∃ k, V.bl (decide (x = V.non)) = .bl k ∧ Q k H1
    rw [nonV q]
    cases v <;> exact this
theorem t_isB (C : Ctx P G T c X call callI W k) {n b : Bool} {a : Ex} {l : Expr} {j : Nat} {p1 pos : Pos} (ha : SE P T X call callI W a l) :
    ST P T X call callI W (.e (.isB n b a)) (.Compare l [if n then .IsNot else .Is] [.Constant (.bool b) j p1] pos) := by
  have bl : ∀ fr h v h1, ev P call callI (.isB n b a) fr h = .ok v h1 → ∃ b, v = .bl b := fun fr h v h1 e => by
    simp only [ev] at e
    obtain ⟨u, _, _, e⟩ := bind_inv e
    cases u <;> cases e
    exact ⟨_, rfl⟩
  cases n with
  | true =>
    refine ptI (pt_cmpR op_notBl ha pe_bl (nomark _)) fun σ H Q h => ?_
    refine (tR.bind1 (R1 := RV X.K T.toTab) (f := fun _ (v : Val) h1 => (match v with | .bl c => Res.ok (Val.bl (if true then !decide (c = b) else decide (c = b))) h1 | _ => Res.bad : Res Val)) (boolV bl h)).mono fun x H1 ⟨v, φ, h1, fr, R, F, q, o⟩ => ?_
    cases v <;> first | exact False.elim o | skip
    rw [show x = _ from q]
    exact ⟨_, b, rfl, rfl, o.ok R rfl⟩
  | false =>
    refine ptI (pt_cmpR op_isBl ha pe_bl (nomark _)) fun σ H Q h => ?_
    refine (tR.bind1 (R1 := RV X.K T.toTab) (f := fun _ (v : Val) h1 => (match v with | .bl c => Res.ok (Val.bl (if false then !decide (c = b) else decide (c = b))) h1 | _ => Res.bad : Res Val)) (boolV bl h)).mono fun x H1 ⟨v, φ, h1, fr, R, F, q, o⟩ => ?_
    cases v <;> first | exact False.elim o | skip
    rw [show x = _ from q]
    exact ⟨_, b, rfl, rfl, o.ok R rfl⟩
def plainT : Expr → Bool
  | .UnaryOp .Not _ _ => false
  | .BoolOp _ _ _ => false
  | .IfExp _ _ _ _ => false
  | .Compare _ _ _ _ => false
  | _ => true
theorem t_plain (C : Ctx P G T c X call callI W k) {a : Ex} {x : Expr} (hp : plainT x = true) (ha : SE P T X call callI W a x) : ST P T X call callI W (.e a) x := by
  refine ptI (pt_truth ha ?_) fun σ H Q h => ?_
  · intro whole
    cases x <;> first | rfl | (simp [plainT] at hp) | skip
    rename_i op o p
    cases op <;> first | rfl | (simp [plainT] at hp)
  · refine (tR.bind1 (R1 := RV X.K T.toTab) (f := fun _ v h1 => pure h1 (tru h1 v)) h).mono fun x H1 ⟨v, φ, h1, fr, R, F, q, o⟩ => ?_
    obtain ⟨t, e, o⟩ := o.pure
    exact ⟨t, tru_V R q e, o.ok R rfl⟩
theorem t_nt (C : Ctx P G T c X call callI W k) {a : Te} {x : Expr} {pos : Pos} (ha : ST P T X call callI W a x) : ST P T X call callI W (.nt a) (.UnaryOp .Not x pos) :=
  ptI (pt_not ha) fun σ H Q h => (tR.bind1 (R1 := RB) (f := fun _ (t : Bool) h1 => (Res.ok (!t) h1 : Res Bool)) h).mono fun x H1 ⟨v, φ, h1, fr, R, F, q, o⟩ => by
    rw [show x = v from q]; exact o.ok R rfl
/-- with whatever whole -/
abbrev SW (P : Pg) (T : Tab2) (X : Cx) (call callI : Nat → List Val → Mem → Res Val) (W : WX) (e : Te) (x : Expr) : Prop := PW X x (tBl X.K T.toTab X.w W (evt P call callI e))
theorem t_and (C : Ctx P G T c X call callI W k) {a b : Te} {l r : Expr} {rest : List Expr} {pos : Pos} (ha : ST P T X call callI W a l) (hb : SW P T X call callI W b (.BoolOp .And (r :: rest) pos)) : SW P T X call callI W (.and a b) (.BoolOp .And (l :: r :: rest) pos) :=
  pwI (pw_and ha hb) fun σ H Q h => (tR.bind1 (R1 := RB) (f := fun fr (t : Bool) h1 => (if t then evt P call callI b fr h1 else Res.ok false h1 : Res Bool)) h).mono fun x H1 ⟨v, φ, h1, fr, R, F, q, o⟩ => by
    obtain rfl : x = v := q
    cases x with
    | true => exact ⟨φ, h1, fr, R, F, o⟩
    | false => exact o.ok R rfl
theorem t_or (C : Ctx P G T c X call callI W k) {a b : Te} {l r : Expr} {rest : List Expr} {pos : Pos} (ha : ST P T X call callI W a l) (hb : SW P T X call callI W b (.BoolOp .Or (r :: rest) pos)) : SW P T X call callI W (.or a b) (.BoolOp .Or (l :: r :: rest) pos) :=
  pwI (pw_or ha hb) fun σ H Q h => (tR.bind1 (R1 := RB) (f := fun fr (t : Bool) h1 => (if t then Res.ok true h1 else evt P call callI b fr h1 : Res Bool)) h).mono fun x H1 ⟨v, φ, h1, fr, R, F, q, o⟩ => by
    obtain rfl : x = v := q
    cases x with
    | false => exact ⟨φ, h1, fr, R, F, o⟩
    | true => exact o.ok R rfl
/-- and, or are tests whatever stands for the whole -/
theorem pw_of {x : Expr} {t : TT} (h : ∃ op xs p, x = .BoolOp op xs p) (p : PT X x t) : PW X x t := by
  obtain ⟨op, xs, p', rfl⟩ := h
  exact ⟨fun wh pins s σ H Q I hh => p.run pins s σ H Q I hh⟩
/-! ### comprehensions -/
theorem wipe_set {σ σ' : L2.St} {vs : List Nat} (hl : σ'.length = σ.length) (h : ∀ i, i ∉ vs → σ'[i]? = (wipe σ vs)[i]?) : wipe σ' vs = wipe σ vs := by
  have g : ∀ (τ : L2.St) (vs : List Nat) (i : Nat), (wipe τ vs)[i]? = if i ∈ vs ∧ i < τ.length then some none else τ[i]? := fun τ vs => by
    induction vs with
    | nil => intro i; simp [wipe]
    | cons v r ih =>
      intro i
      unfold wipe
      rw [List.getElem?_set, ih, wipe_length]
      by_cases e : v = i
      · subst e
        by_cases hv : v < τ.length
        · simp [hv]
        · simp [hv]
      · rw [if_neg e]
        have : i ≠ v := Ne.symm e
        simp [this]
  apply List.ext_getElem?
  intro i
  by_cases hi : i ∈ vs
  · rw [g, g, hl]
    by_cases h2 : i < σ.length
    · simp [hi, h2]
    · simp [hi, h2, List.getElem?_eq_none (show σ'.length ≤ i by omega), List.getElem?_eq_none (show σ.length ≤ i by omega)]
  · rw [g σ', if_neg (fun z => hi z.1)]
    exact h i hi
theorem RFr.wipe {K : PySem.W.Frag} {T : Tab} {φ : List Addr} {H : L2.Hp} {fr : PyI.Fr} {σ : L2.St} (F : RFr K T φ H fr σ) : ∀ vs : List Nat, RFr K T φ H (wipeF fr vs) (L2.wipe σ vs)
  | [] => F
  | v :: vs => by
    have ih := RFr.wipe F vs
    refine ⟨by simp [wipeF, L2.wipe, ih.1], fun i u e => ?_⟩
    simp only [wipeF, L2.wipe] at e ⊢
    by_cases hi : v = i
    · subst hi
      by_cases hl : v < (wipeF fr vs).length
      · rw [List.getElem?_set_self hl] at e; cases e
      · rw [List.getElem?_eq_none (by simpa using hl)] at e; cases e
    · rw [List.getElem?_set_ne hi] at e ⊢
      exact ih.2 i u e
theorem own_slots {c : SC} {tg : Tgt} {x : Expr} {c' : SC} (hc : c'.N = c.N) (h : mTg c' tg x = true) : (mOwn c tg).map (·.2) = tg.slots := by
  have go : ∀ (is : List Nat), (∀ i ∈ is, ∃ x, c.N[i]? = some x) → (is.filterMap fun i => (c.N[i]?).map fun x => (x, i)).map (·.2) = is := fun is => by
    induction is with
    | nil => intro _; rfl
    | cons i is ih =>
      intro hh
      obtain ⟨x, hx⟩ := hh i (by simp)
      rw [List.filterMap_cons, hx]
      simp only [Option.map_some, List.map_cons]
      rw [ih fun j hj => hh j (by simp [hj])]
  have gl : ∀ {i : Nat} {x : Str}, c'.loc i x = true → ∃ x, c.N[i]? = some x := fun {i x} hh => by
    unfold SC.loc at hh
    simp only [Bool.and_eq_true, decide_eq_true_eq] at hh
    exact ⟨x, by rw [← hc]; exact hh.1⟩
  refine go _ ?_
  cases tg with
  | v i =>
    cases x <;> simp only [mTg, Bool.false_eq_true] at h
    intro j hj
    have : j = i := by simpa [Tgt.slots] using hj
    subst this
    exact gl h
  | t is =>
    cases x <;> simp only [mTg, Bool.false_eq_true] at h
    rename_i xs _ _
    show ∀ i ∈ is, _
    induction is generalizing xs with
    | nil => intro i hi; cases hi
    | cons i is ih =>
      cases xs with
      | nil => simp [mTg.go] at h
      | cons x xs =>
        cases x <;> simp only [mTg.go, Bool.false_eq_true, Bool.and_eq_true] at h
        intro j hj
        rcases List.mem_cons.mp hj with rfl | hj
        · exact gl h.1
        · exact ih xs h.2 j hj
end
end PyI
namespace PyI
open PySem PySem.Spec PyProof.Rows L2
section
variable {P : Pg} {G : Gam} {T : Tab2} {c : SC} {X : Cx} {call callI : Nat → List Val → Mem → Res Val} {W : WX} {k : Nat}
abbrev W0 : WX := fun _ _ _ _ => False
theorem Ctx.blk (C : Ctx P G T c X call callI W k) (s : Shared) (H : L2.Hp) (scope : Scope) (A : Addr) (cl : List (Str × Addr)) (fp : List Addr) : Ctx P G T (c.blk scope) (X.blk s H scope (compEnvC scope cl A X.env) fp) call callI W0 k where
  N := C.N
  nd := C.nd
  sc := by
    show relabel scope X.env = relS scope c.sc
    rw [← C.sc]; rfl
  calm := C.calm
  room := C.room
  wd := C.wd
  call := C.call
  callI := C.callI
  tk := takes0
  fnt := fun h => by cases h
abbrev tIfs (K : PySem.W.Frag) (T : Tab) (w : World) (W : WX) (r : PyI.Fr → Mem → Res Bool) : TT := tR K T w W RB r
/-- the loop of a comprehension -/
theorem r_comp {tg : Tgt} {it : Itx} {cond : OTe} {e : Ex} {σ : L2.St} {H : L2.Hp} {Q : VK} (h : tV X.K T.toTab X.w W (ev P call callI (.comp tg it cond e)) σ H Q) :
    tLc (tItr X.K T.toTab X.w W (evi P call callI it)) (gT X.K T.toTab X.w tg) (tBl X.K T.toTab X.w W0 (evc P call callI cond)) (tV X.K T.toTab X.w W0 (ev P call callI e)) tg.slots σ H Q := by
  obtain ⟨φ, h, fr, R, F, o⟩ := h
  refine ⟨φ, h, fr, R, F, o.bind.mono fun J H1 hh => ?_⟩
  obtain ⟨t, ψ, h1, x1, R1, iok, o1⟩ := hh
  intro D hD
  have R2 : Rel X.K T.toTab X.w (ψ ++ [D]) (upd H1 D (.lst [])) (h1 ++ [.lst []]) := R1.new hD ⟨[], rfl, rfl⟩
  have e2 : Ext ψ H1 (ψ ++ [D]) (upd H1 D (.lst [])) := ext_new hD
  have hDx : (ψ ++ [D])[h1.length]? = some D := by rw [← R1.len]; simp
  have iok2 := iok.mono e2
  have F2 : RFr X.K T.toTab (ψ ++ [D]) (upd H1 D (.lst [])) (wipeF fr tg.slots) (wipe σ tg.slots) := ((F.mono x1).mono e2).wipe _
  refine ⟨fun i m L => ∃ χ h2, Ext (ψ ++ [D]) (upd H1 D (.lst [])) χ L ∧ Rel X.K T.toTab X.w χ L h2 ∧
    okR X.K T.toTab X.w (RV X.K T.toTab) χ L Q (fun c G => W (T.exn c) none σ G) (compG t tg (evc P call callI cond) (ev P call callI e) (wipeF fr tg.slots) h1.length m i h2),
    ⟨t.cnt h1, ψ ++ [D], h1 ++ [.lst []], .refl, R2, o1.ext e2⟩, fun i m L hw => ?_⟩
  obtain ⟨χ, h2, e3, R3, o3⟩ := hw
  cases m with
  | zero =>
    simp only [compG] at o3
    split at o3
    · rename_i hf
      exact .inl ⟨(iok2 χ L h2 i e3 R3).2 hf, o3.ok R3 ⟨D, e3.get hDx, rfl⟩⟩
    · exact False.elim o3
  | succ r =>
    simp only [compG] at o3
    split at o3
    · exact False.elim o3
    · rename_i v hv
      obtain ⟨g1, g2⟩ := (iok2 χ L h2 i e3 R3).1 v hv
      refine .inr ⟨g1, fun L' => ∃ χ h2, Ext (ψ ++ [D]) (upd H1 D (.lst [])) χ L' ∧ Rel X.K T.toTab X.w χ L' h2 ∧
        okR X.K T.toTab X.w (RV X.K T.toTab) χ L' Q (fun c G => W (T.exn c) none σ G) (compG t tg (evc P call callI cond) (ev P call callI e) (wipeF fr tg.slots) h1.length r (i + 1) h2),
        fun L' hL => ⟨r, Nat.lt_succ_self r, hL⟩, fun x L' hy => ?_⟩
      obtain ⟨e4, R4, rv⟩ := g2 x L' hy
      split at o3
      · exact False.elim o3
      · rename_i fr1 hp
        have o4 := o3.ext e4
        refine ⟨χ, h2, wipeF fr tg.slots, v, fr1, R4, (F2.mono e3).mono e4, rv, hp, fun σ2 F5 hl hag => ⟨wipe_set (by rw [hl, wipe_length]) hag, χ, h2, fr1, R4, F5, ?_⟩⟩
        cases hc : evc P call callI cond fr1 h2 with
        | bad => rw [hc] at o4; exact o4
        | exc cc hc' => rw [hc] at o4; exact False.elim o4
        | ok b h3 =>
          rw [hc] at o4
          intro ω M b' e5 R5 hb
          obtain rfl : b' = b := hb
          have o5 := o4.ext e5
          cases b' with
          | false =>
            rw [if_neg Bool.false_ne_true]
            exact ⟨ω, h3, (e3.trans e4).trans e5, R5, o5⟩
          | true =>
            rw [if_pos rfl]
            refine ⟨ω, h3, fr1, R5, F5.mono e5, ?_⟩
            cases he : ev P call callI e fr1 h3 with
            | bad => simp only [he] at o5; exact False.elim o5
            | exc cc hc' => simp only [he] at o5; exact False.elim o5
            | ok y h4 =>
              simp only [he] at o5
              intro υ N y' e6 R6 ry
              have o6 := o5.ext e6
              split at o6
              · rename_i xs hx
                split at o6
                · rename_i hl2
                  obtain ⟨a', ws, ea, ea2, p1, p2⟩ := R6.lst (x := .ref D) ⟨D, (((e3.trans e4).trans e5).trans e6).get hDx, rfl⟩ hx
                  cases ea
                  have ro : ROb X.K T.toTab X.w υ (upd N D (.lst (ws ++ [y']))) D (.lst (xs ++ [y])) (.lst (ws ++ [y'])) := ⟨_, rfl, (p2.append (.one ry)).mono (ext_set p1 (by trivial)) _ _⟩
                  exact ⟨ws, p1, by rw [p2.length]; exact hl2, υ, h4.set h1.length (.lst (xs ++ [y])), ((((e3.trans e4).trans e5).trans e6).trans (ext_set p1 (by trivial))), R6.set ea2 p1 (by trivial) ro, o6.ext (ext_set p1 (by trivial))⟩
                · exact False.elim o6
              · exact False.elim o6
theorem folded_of {e : Expr} (h : notSet e = true) (env : Env) (x : Value) : foldedSetIterable e env x = Pure.pure x := by
  cases e <;> first | rfl | (simp [notSet] at h)
abbrev SOT (P : Pg) (T : Tab2) (X : Cx) (call callI : Nat → List Val → Mem → Res Val) (W : WX) (e : OTe) (x : List Expr) : Prop := PTs X x (tBl X.K T.toTab X.w W (evc P call callI e))
theorem s_otno : SOT P T X call callI W .no [] :=
  ⟨fun pins s σ H Q I ⟨φ, h, fr, R, F, o⟩ => pts_nil.run pins s σ H Q I (okR.ok (v := true) o R rfl)⟩
theorem s_otso {e : Te} {x : Expr} (h : ST P T X call callI W e x) : SOT P T X call callI W (.so e) [x] :=
  ⟨fun pins s σ H Q I hh => (pts_one h).run pins s σ H Q I hh⟩
theorem s_comp (C : Ctx P G T c X call callI W k) {tg : Tgt} {it : Itx} {cond : OTe} {e : Ex} {t i elt : Expr} {ifs : List Expr} {scope : Scope} {pos : Pos} (hs : notSet i = true) (hb : blkC c.N c.sc scope (mOwn c tg) = true) (ht : mTg (c.blk scope) tg t = true)
    (hi : SI P T X call callI W it t i) (he : ∀ X' , Ctx P G T (c.blk scope) X' call callI W0 k → SE P T X' call callI W0 e elt) (hc : ∀ X', Ctx P G T (c.blk scope) X' call callI W0 k → SOT P T X' call callI W0 cond ifs) :
    SE P T X call callI W (.comp tg it cond e) (.ListComp elt [⟨t, i, ifs, 0⟩] scope pos) := by
  have hN : X.N.Nodup := by rw [C.N]; exact C.nd
  have ok : BlkOk X.N X.env.scope scope (mOwn c tg) := by rw [C.N, C.sc]; exact blkOk_by hb
  refine peI (pe_lc (g := gT X.K T.toTab X.w tg) (tt := tBl X.K T.toTab X.w W0 (evc P call callI cond)) (te := tV X.K T.toTab X.w W0 (ev P call callI e)) C.calm hN hi ok (fun s H A cl fp => s_tg (C.blk s H scope A cl fp) ht) (fun s H A cl fp => hc _ (C.blk s H scope A cl fp)) (fun s H A cl fp => he _ (C.blk s H scope A cl fp)) (folded_of hs _)) fun σ H Q h => ?_
  rw [own_slots (c := c) (c' := c.blk scope) rfl ht]
  exact r_comp h
/-! ### all expressions -/
theorem mEs_star {c : SC} : ∀ {es : Exs} {xs : List Expr}, mEs G c es xs = true → xs.all notStar = true ∧ (xs = [] → es = .nil)
  | .nil, [], _ => ⟨rfl, fun _ => rfl⟩
  | .nil, _ :: _, h => by simp [mEs] at h
  | .cons e es, [], h => by simp [mEs] at h
  | .cons e es, x :: xs, h => by
    simp only [mEs, Bool.and_eq_true] at h
    exact ⟨by rw [List.all_cons, h.1.1, (mEs_star h.2).1]; rfl, fun z => by cases z⟩
end
mutual
theorem sE {P : Pg} {G : Gam} {T : Tab2} {call callI : Nat → List Val → Mem → Res Val} {k : Nat} : ∀ (e : Ex) {c : SC} {X : Cx} {W : WX} (C : Ctx P G T c X call callI W k) (x : Expr), mE G c e x = true → SE P T X call callI W e x
  | .lit l, _, _, _, C, x, h => s_lit C l x h
  | .var i, _, _, _, C, x, h => s_var C i x h
  | .con g, _, _, _, C, x, h => s_con C g x h
  | .bin o a b, _, _, _, C, x, h => by
    simp only [mE] at h
    split at h <;> try cases h
    simp only [Bool.and_eq_true, decide_eq_true_eq] at h
    obtain ⟨⟨h1, h2⟩, h3⟩ := h
    subst h1
    exact s_bin C (sE a C _ h2) (sE b C _ h3)
  | .neg a, _, _, _, C, x, h => by
    simp only [mE] at h
    split at h <;> try cases h
    exact s_neg C (sE a C _ h)
  | .nt a, _, _, _, C, x, h => by
    simp only [mE] at h
    split at h <;> try cases h
    exact s_nt C (sE a C _ h)
  | .and a b, _, _, _, C, x, h => by
    simp only [mE] at h
    split at h <;> try cases h
    · simp only [Bool.and_eq_true] at h
      exact s_and C (sE a C _ h.1) (pe_one (sE b C _ h.2))
    · simp only [Bool.and_eq_true] at h
      exact s_and C (sE a C _ h.1) (sE b C _ h.2)
  | .or a b, _, _, _, C, x, h => by
    simp only [mE] at h
    split at h <;> try cases h
    · simp only [Bool.and_eq_true] at h
      exact s_or C (sE a C _ h.1) (pe_one (sE b C _ h.2))
    · simp only [Bool.and_eq_true] at h
      exact s_or C (sE a C _ h.1) (sE b C _ h.2)
  | .cmp o a b, _, _, _, C, x, h => by
    simp only [mE] at h
    split at h <;> try cases h
    simp only [Bool.and_eq_true, decide_eq_true_eq] at h
    obtain ⟨⟨⟨h1, h2⟩, h3⟩, h4⟩ := h
    subst h1
    exact s_cmp C h2 (sE a C _ h3) (sE b C _ h4)
  | .chn o p a b d, _, _, _, C, x, h => by
    simp only [mE] at h
    split at h <;> try cases h
    simp only [Bool.and_eq_true, decide_eq_true_eq] at h
    obtain ⟨⟨⟨⟨⟨h1, h2⟩, h3⟩, h4⟩, h5⟩, h6⟩ := h
    subst h1; subst h2
    exact s_chn C h3 (sE a C _ h4) (sE b C _ h5) (sE d C _ h6)
  | .isN n a, _, _, _, C, x, h => by
    simp only [mE] at h
    split at h <;> try cases h
    simp only [Bool.and_eq_true, decide_eq_true_eq] at h
    obtain ⟨h1, h2⟩ := h
    subst h1
    exact s_isN C (sE a C _ h2)
  | .isB n b a, _, _, _, C, x, h => by
    simp only [mE] at h
    split at h <;> try cases h
    simp only [Bool.and_eq_true, decide_eq_true_eq] at h
    obtain ⟨⟨h1, h2⟩, h3⟩ := h
    subst h1; subst h2
    exact s_isB C (sE a C _ h3)
  | .tup es, _, _, _, C, x, h => by
    simp only [mE] at h
    split at h <;> try cases h
    exact s_tup C (sEs es C _ h)
  | .lst es, _, _, _, C, x, h => by
    simp only [mE] at h
    split at h <;> try cases h
    exact s_lst C (sEs es C _ h)
  | .dik ks es, _, _, _, C, x, h => by
    simp only [mE] at h
    split at h <;> try cases h
    split at h <;> try cases h
    exact s_dik C
  | .dit, _, _, _, C, x, h => by
    simp only [mE] at h
    split at h <;> try cases h
    exact s_dit C
  | .ix a i, _, _, _, C, x, h => by
    simp only [mE] at h
    split at h <;> try cases h
    simp only [Bool.and_eq_true] at h
    exact s_ix C h.1.1 (sE a C _ h.1.2) (sE i C _ h.2)
  | .sl a lo hi, _, _, _, C, x, h => by
    simp only [mE] at h
    split at h <;> try cases h
    simp only [Bool.and_eq_true] at h
    exact s_sl C (sE a C _ h.1.1) (sOE lo C _ h.1.2) (sOE hi C _ h.2)
  | .att a f, _, _, _, C, x, h => by
    simp only [mE] at h
    split at h <;> try cases h
    simp only [Bool.and_eq_true, decide_eq_true_eq] at h
    exact s_att C h.1.1 h.1.2 (sE a C _ h.2)
  | .cal f es, _, _, _, C, x, h => by
    simp only [mE] at h
    split at h <;> try cases h
    simp only [Bool.and_eq_true, decide_eq_true_eq] at h
    exact s_cal C h.1.1 h.1.2 (mEs_star h.2).1 (mEs_star h.2).2 (sEs es C _ h.2)
  | .mk d es, _, _, _, C, x, h => by
    simp only [mE] at h
    split at h <;> try cases h
    simp only [Bool.and_eq_true, decide_eq_true_eq] at h
    exact s_mk C h.1.1 h.1.2 (mEs_star h.2).1 (mEs_star h.2).2 (sEs es C _ h.2)
  | .met a m b es, _, _, _, C, x, h => by
    simp only [mE] at h
    split at h <;> try cases h
    simp only [Bool.and_eq_true, decide_eq_true_eq, Bool.or_eq_true] at h
    obtain ⟨⟨⟨⟨⟨⟨h1, h2⟩, h3⟩, h4⟩, h5⟩, h6⟩, h7⟩ := h
    exact s_met C h1 h2 h3 h4 h5 (mEs_star h7).1 (mEs_star h7).2 (sE a C _ h6) (sEs es C _ h7)
  | .blt b es, c, X, W, C, x, h => by
    have key : ∀ {s : Str} {x n : Str} {xs : List Expr} {p pos : Pos}, b.name = some s → mEs G c es xs = true → (match xs with | [] => false | _ => true) = true → G.bl c n s = true → SE P T X call callI W (.blt b es) (.Call (.Name n p) xs [] pos) := fun {s x n xs p pos} hs hes hne hn => by
      cases xs with
      | nil => cases hne
      | cons y ys =>
        have st := (mEs_star hes).1
        have ih := sEs es C _ hes
        cases b <;> simp only [Blt.name, Option.some.injEq, reduceCtorEq] at hs <;> subst hs
        · exact s_bltB C len_ok hn (by decide +kernel) st ih
        · exact s_bltT C int_ok hn (by decide +kernel) st ih
        · exact s_bltT C (lst_ok C.calm) hn (by decide +kernel) st ih
        · exact s_bltT C tup_ok hn (by decide +kernel) st ih
        · exact s_bltB C (max2_ok C.calm) hn (by decide +kernel) st ih
        · exact s_bltB C (min2_ok C.calm) hn (by decide +kernel) st ih
        · exact s_bltB C (sum_ok C.calm) hn (by decide +kernel) st ih
        · exact s_bltB C (srt_ok C.calm) hn (by decide +kernel) st ih
        · exact s_bltB C ord_ok hn (by decide +kernel) st ih
        · exact s_bltT C str_ok hn (by decide +kernel) st ih
        · exact s_bltT C dct_ok hn (by decide +kernel) st ih
    have key2 : ∀ {n r : Str} {xs : List Expr} {j : Nat} {p p1 p2 pos : Pos}, G.bl c n "sorted" = true → r = "reverse" → mEs G c es xs = true → (match xs with | [] => false | _ => true) = true → SE P T X call callI W (.blt .srtR es) (.Call (.Name n p) xs [⟨some r, .Constant (.bool true) j p1, p2⟩] pos) := fun {n r xs j p p1 p2 pos} hn hr hes hne => by
      cases xs with
      | nil => cases hne
      | cons y ys => exact s_srtR C hn hr (mEs_star hes).1 (sEs es C _ hes)
    unfold mE at h
    split at h <;> try cases h
    split at h <;> try cases h
    · split at h <;> try cases h
      rename_i s hs
      simp only [Bool.and_eq_true] at h
      exact key (x := s) hs h.1.2 h.2 h.1.1
    · simp only [Bool.and_eq_true, decide_eq_true_eq] at h
      exact key2 h.1.1.1 h.1.1.2 h.1.2 h.2
  | .isi a t, _, _, _, C, x, h => by
    simp only [mE] at h
    split at h <;> try cases h
    simp only [Bool.and_eq_true] at h
    obtain ⟨⟨⟨h1, h2⟩, h3⟩, h4⟩ := h
    split at h4 <;> try cases h4
    rename_i s hs
    exact s_isi C h1 h2 hs h4 (sE a C _ h3)
  | .lr1 e, _, _, _, C, x, h => by
    simp only [mE] at h
    split at h <;> try cases h
    simp only [Bool.and_eq_true] at h
    exact s_lr1 C h.1.1.1 h.1.1.2 h.1.2 (sE e C _ h.2)
  | .lr2 a b, _, _, _, C, x, h => by
    simp only [mE] at h
    split at h <;> try cases h
    simp only [Bool.and_eq_true] at h
    obtain ⟨⟨⟨⟨⟨h1, h2⟩, h3⟩, h4⟩, h5⟩, h6⟩ := h
    exact s_lr2 C h1 h2 h3 h4 (sE a C _ h5) (sE b C _ h6)
  | .comp tg it cond e, _, _, _, C, x, h => by
    simp only [mE] at h
    split at h <;> try cases h
    simp only [Bool.and_eq_true] at h
    obtain ⟨⟨⟨⟨⟨h1, h2⟩, h3⟩, h4⟩, h5⟩, h6⟩ := h
    exact s_comp C h1 h3 h4 (sI it C _ _ h2) (fun X' C' => sE e C' _ h5) (fun X' C' => sOT cond C' _ h6)
theorem sEs {P : Pg} {G : Gam} {T : Tab2} {call callI : Nat → List Val → Mem → Res Val} {k : Nat} : ∀ (es : Exs) {c : SC} {X : Cx} {W : WX} (C : Ctx P G T c X call callI W k) (xs : List Expr), mEs G c es xs = true → SEs P T X call callI W es xs
  | .nil, _, _, _, C, xs, h => by
    simp only [mEs] at h
    split at h <;> try cases h
    exact paI pa_nil fun σ H Q ⟨φ, h, fr, R, F, o⟩ => okR.ok (v := ([] : List Val)) o R (show RVs _ _ _ _ [] [] from rfl)
  | .cons e es, _, X, W, C, xs, h => by
    simp only [mEs] at h
    split at h <;> try cases h
    simp only [Bool.and_eq_true] at h
    refine paI (pa_cons (sE e C _ h.1.2) (sEs es C _ h.2) (star_of h.1.1 _ _)) fun σ H Q hh => ?_
    refine (tR.bind2 (R1 := RV X.K T.toTab) (R2' := RVs X.K T.toTab) (f := fun _ v vs h2 => (Res.ok (v :: vs) h2 : Res (List Val))) rvmono hh).mono fun x H1 q => q.mono fun y H2 ⟨v, u, φ, h2, fr, R, F, q1, q2, o⟩ => ?_
    exact o.ok R ⟨x, y, rfl, q1, q2⟩
theorem sOE {P : Pg} {G : Gam} {T : Tab2} {call callI : Nat → List Val → Mem → Res Val} {k : Nat} : ∀ (e : OEx) {c : SC} {X : Cx} {W : WX} (C : Ctx P G T c X call callI W k) (x : Option Expr), mOE G c e x = true → SOE P T X call callI W e x
  | .no, _, _, _, C, x, h => by
    simp only [mOE] at h
    split at h <;> try cases h
    exact s_ono C
  | .so e, _, _, _, C, x, h => by
    simp only [mOE] at h
    split at h <;> try cases h
    exact s_oso C (sE e C _ h)
theorem sOT {P : Pg} {G : Gam} {T : Tab2} {call callI : Nat → List Val → Mem → Res Val} {k : Nat} : ∀ (e : OTe) {c : SC} {X : Cx} {W : WX} (C : Ctx P G T c X call callI W k) (x : List Expr), mOT G c e x = true → SOT P T X call callI W e x
  | .no, _, _, _, C, x, h => by
    simp only [mOT] at h
    split at h <;> try cases h
    exact s_otno
  | .so e, _, _, _, C, x, h => by
    simp only [mOT] at h
    split at h <;> try cases h
    exact s_otso (sT e C _ h)
theorem sT {P : Pg} {G : Gam} {T : Tab2} {call callI : Nat → List Val → Mem → Res Val} {k : Nat} : ∀ (e : Te) {c : SC} {X : Cx} {W : WX} (C : Ctx P G T c X call callI W k) (x : Expr), mT G c e x = true → ST P T X call callI W e x
  | .e a, c, X, W, C, x, h => by
    have h' : mE G c a x = true ∧ (plainT x = true ∨ ∃ l o r p, x = .Compare l o r p) := by
      cases x with
      | BoolOp op xs p => simp [mT] at h
      | IfExp a b c p => simp [mT] at h
      | UnaryOp op o p =>
        cases op with
        | Not => simp [mT] at h
        | _ => exact ⟨by simpa only [mT] using h, .inl rfl⟩
      | Compare l o r p => exact ⟨by simpa only [mT] using h, .inr ⟨_, _, _, _, rfl⟩⟩
      | _ => exact ⟨by simpa only [mT] using h, .inl rfl⟩
    obtain ⟨hm, hp | ⟨l, o, r, p, rfl⟩⟩ := h'
    · exact t_plain C hp (sE a C x hm)
    · cases a <;> simp only [mE, Bool.false_eq_true] at hm
      · split at hm <;> try cases hm
        rename_i heq
        cases heq
        simp only [Bool.and_eq_true, decide_eq_true_eq] at hm
        obtain ⟨⟨⟨h1, h2⟩, h3⟩, h4⟩ := hm
        subst h1
        exact t_cmp C h2 (sE _ C _ h3) (sE _ C _ h4)
      · split at hm <;> try cases hm
        rename_i heq
        cases heq
        simp only [Bool.and_eq_true, decide_eq_true_eq] at hm
        obtain ⟨⟨⟨⟨⟨h1, h2⟩, h3⟩, h4⟩, h5⟩, h6⟩ := hm
        subst h1; subst h2
        exact t_chn C h3 (sE _ C _ h4) (sE _ C _ h5) (sE _ C _ h6)
      · split at hm <;> try cases hm
        rename_i heq
        cases heq
        simp only [Bool.and_eq_true, decide_eq_true_eq] at hm
        obtain ⟨h1, h2⟩ := hm
        subst h1
        exact t_isN C (sE _ C _ h2)
      · split at hm <;> try cases hm
        rename_i heq
        cases heq
        simp only [Bool.and_eq_true, decide_eq_true_eq] at hm
        obtain ⟨⟨h1, h2⟩, h3⟩ := hm
        subst h1; subst h2
        exact t_isB C (sE _ C _ h3)
  | .nt a, _, _, _, C, x, h => by
    simp only [mT] at h
    split at h <;> try cases h
    exact t_nt C (sT a C _ h)
  | .and a b, _, _, _, C, x, h => by
    simp only [mT] at h
    split at h <;> try cases h
    · simp only [Bool.and_eq_true] at h
      exact (t_and C (sT a C _ h.1) (pw_and1 (sT b C _ h.2))).pt
    · simp only [Bool.and_eq_true] at h
      exact (t_and C (sT a C _ h.1) (pw_of ⟨_, _, _, rfl⟩ (sT b C _ h.2))).pt
  | .or a b, _, _, _, C, x, h => by
    simp only [mT] at h
    split at h <;> try cases h
    · simp only [Bool.and_eq_true] at h
      exact (t_or C (sT a C _ h.1) (pw_or1 (sT b C _ h.2))).pt
    · simp only [Bool.and_eq_true] at h
      exact (t_or C (sT a C _ h.1) (pw_of ⟨_, _, _, rfl⟩ (sT b C _ h.2))).pt
theorem sI {P : Pg} {G : Gam} {T : Tab2} {call callI : Nat → List Val → Mem → Res Val} {k : Nat} : ∀ (it : Itx) {c : SC} {X : Cx} {W : WX} (C : Ctx P G T c X call callI W k) (t x : Expr), mI G c it t x = true → SI P T X call callI W it t x
  | .val e, _, _, _, C, t, x, h => i_val C (sE e C _ (by simpa only [mI] using h))
  | .rng1 e, _, _, _, C, t, x, h => by
    simp only [mI] at h
    split at h <;> try cases h
    simp only [Bool.and_eq_true] at h
    exact i_rng1 C h.1.1 h.1.2 (sE e C _ h.2)
  | .rng2 a b, _, _, _, C, t, x, h => by
    simp only [mI] at h
    split at h <;> try cases h
    simp only [Bool.and_eq_true] at h
    obtain ⟨⟨⟨⟨h1, h2⟩, h3⟩, h4⟩, h5⟩ := h
    exact i_rng2 C h1 h2 h3 (sE a C _ h4) (sE b C _ h5)
  | .enum e, _, _, _, C, t, x, h => by
    simp only [mI] at h
    split at h <;> try cases h
    simp only [Bool.and_eq_true] at h
    exact i_enum C h.1.1.1 h.1.1.2 h.1.2 (sE e C _ h.2)
  | .zip a b, _, _, _, C, t, x, h => by simp [mI] at h
  | .rev e, _, _, _, C, t, x, h => by
    simp only [mI] at h
    split at h <;> try cases h
    simp only [Bool.and_eq_true] at h
    exact i_rev C h.1.1 h.1.2 (sE e C _ h.2)
  | .items e, _, _, _, C, t, x, h => by simp [mI] at h
end
end PyI
namespace PyI
open PySem PySem.Spec PyProof.Rows L2
/-! ### statements -/
def okS (K : PySem.W.Frag) (T : Tab) (w : World) (φ : List Addr) (H : L2.Hp) (D : Ends) (W : WX) : SR → Prop
  | .ok .nx fr h => ∀ ψ G σ, Ext φ H ψ G → Rel K T w ψ G h → RFr K T ψ G fr σ → D.nx σ G
  | .ok .bk fr h => ∀ ψ G σ, Ext φ H ψ G → Rel K T w ψ G h → RFr K T ψ G fr σ → D.bk σ G
  | .ok .ct fr h => ∀ ψ G σ, Ext φ H ψ G → Rel K T w ψ G h → RFr K T ψ G fr σ → D.ct σ G
  | .ok (.rt v) fr h => ∀ ψ G x, Ext φ H ψ G → Rel K T w ψ G h → RV K T ψ G v x → D.rt x G
  | .exc c fr h => ∀ ψ G σ, Ext φ H ψ G → Rel K T w ψ G h → RFr K T ψ G fr σ → W (T.exn c) none σ G
  | .bad => False
def tSt (K : PySem.W.Frag) (T : Tab) (w : World) (W : WX) (r : PyI.Fr → Mem → SR) : TS := fun D σ H =>
  ∃ φ h fr, Rel K T w φ H h ∧ RFr K T φ H fr σ ∧ okS K T w φ H D W (r fr h)
section
variable {K : PySem.W.Frag} {T : Tab} {w : World} {φ ψ : List Addr} {H G : L2.Hp} {h : Mem} {D : Ends} {W : WX} {fr : PyI.Fr} {σ : L2.St}
theorem okS.ext {r : SR} (o : okS K T w φ H D W r) (e : Ext φ H ψ G) : okS K T w ψ G D W r := by
  cases r with
  | ok f fr h => cases f <;> exact fun χ F x e2 => o χ F x (e.trans e2)
  | exc c fr h => exact fun χ F x e2 => o χ F x (e.trans e2)
  | bad => exact o
theorem okS.lift {γ δ : Type} {R1 : List Addr → L2.Hp → γ → δ → Prop} {r : Res γ} {k : γ → Mem → SR} (o : okS K T w φ H D W (PyI.lift r fr k)) (F : RFr K T φ H fr σ) :
    okR K T w R1 φ H (fun x H1 => ∃ v ψ h1, Ext φ H ψ H1 ∧ Rel K T w ψ H1 h1 ∧ RFr K T ψ H1 fr σ ∧ R1 ψ H1 v x ∧ okS K T w ψ H1 D W (k v h1)) (fun c G => W (T.exn c) none σ G) r := by
  cases r with
  | ok v h => exact fun χ F' x e2 R q => ⟨v, χ, h, e2, R, F.mono e2, q, okS.ext o e2⟩
  | exc c h => exact fun χ F' e2 R => o χ F' σ e2 R (F.mono e2)
  | bad => exact o
theorem tS.lift {γ δ : Type} {R1 : List Addr → L2.Hp → γ → δ → Prop} {r : PyI.Fr → Mem → Res γ} {k : PyI.Fr → γ → Mem → SR} (o : tSt K T w W (fun fr h => PyI.lift (r fr h) fr (k fr)) D σ H) :
    tR K T w W R1 r σ H fun x H1 => ∃ v φ h1 fr, Rel K T w φ H1 h1 ∧ RFr K T φ H1 fr σ ∧ R1 φ H1 v x ∧ okS K T w φ H1 D W (k fr v h1) := by
  obtain ⟨φ, h, fr, R, F, o⟩ := o
  exact ⟨φ, h, fr, R, F, (okS.lift o F).mono fun x G ⟨v, ψ, h1, e, R', F', q, o'⟩ => ⟨v, ψ, h1, fr, R', F', q, o'⟩⟩
theorem okS.nx (o : okS K T w φ H D W (.ok .nx fr h)) (R : Rel K T w φ H h) (F : RFr K T φ H fr σ) : D.nx σ H := o φ H σ .refl R F
theorem okS.rt {v : Val} {x : V} (o : okS K T w φ H D W (.ok (.rt v) fr h)) (R : Rel K T w φ H h) (q : RV K T φ H v x) : D.rt x H := o φ H x .refl R q
theorem putF_R {f : Nat} {v : Val} {x : V} (inj : ∀ i j, T.nm i = T.nm j → i = j) (qv : RV K T φ H v x) : ∀ {fs : List (Nat × Val)} {ks : List (Str × V)}, RKs K T T.nm φ H fs ks → RKs K T T.nm φ H (fput f v fs) (putF (T.nm f) x ks)
  | [], ks, q => by
    rw [show ks = [] from q]
    exact ⟨x, [], rfl, qv, rfl⟩
  | p :: r, ks, q => by
    obtain ⟨y, s, rfl, q1, q2⟩ := q
    unfold fput putF
    by_cases e : p.1 = f
    · rw [if_pos e, if_pos (by rw [e])]
      exact ⟨x, s, by rw [e], qv, q2⟩
    · rw [if_neg e, if_neg fun z => e (inj _ _ z)]
      exact ⟨y, _, rfl, q1, putF_R inj qv q2⟩
end
section
variable {P : Pg} {G : Gam} {T : Tab2} {c : SC} {X : Cx} {call callI : Nat → List Val → Mem → Res Val} {W : WX} {k : Nat}
abbrev SS (P : Pg) (T : Tab2) (X : Cx) (call callI : Nat → List Val → Mem → Res Val) (W : WX) (s : Sm) (x : Stmt) : Prop := PS X x (tSt X.K T.toTab X.w W (ex P call callI s))
abbrev SSs (P : Pg) (T : Tab2) (X : Cx) (call callI : Nat → List Val → Mem → Res Val) (W : WX) (s : Sms) (x : List Stmt) : Prop := PSs X x (tSt X.K T.toTab X.w W (exs P call callI s))
/-- the comprehension's value is stored by itself -/
def swB (c : SC) (y : Str) (py pos : Pos) (scope : Scope) : Bool := decide (c.sc.names.lookup y = some .local) && (py.line == pos.line) && !(scope.names.any fun (n, k) => n == y && (k == .local || k == .cell))
theorem sw_false {elt : Expr} {gs : List Comprehension} {scope : Scope} {pos py : Pos} {y : Str} {l : Nat} {env : Env} {c : SC} (hc : env.scope = c.sc) (h : swB c y py pos scope = false) : swapsWith (.ListComp elt gs scope pos) (some (.Name y py)) l env = Pure.pure false := by
  unfold swB at h
  rw [← hc] at h
  unfold swapsWith
  simp only [Expr.pos]
  congr 1
  have ky : env.kindOf y = env.scope.names.lookup y := rfl
  rw [ky]
  by_cases h1 : env.scope.names.lookup y = some .local
  · rw [decide_eq_true h1, Bool.true_and] at h
    rw [Bool.and_assoc, h, Bool.and_false]
  · have : (env.scope.names.lookup y == some NameKind.local) = false := by
      simpa using h1
    rw [this]
    simp
theorem tg_each {tg : Tgt} {x : Expr} {env : Env} (h : mTg c tg x = true) : (assignEach [x] env).map (·.2) = [assign x env] := by
  cases x <;> cases tg <;> first | rfl | (simp [mTg] at h)
def notTupX : Expr → Bool
  | .Tuple _ _ _ => false
  | _ => true
theorem tg_sw {tg : Tgt} {x e : Expr} {env : Env} (h : mTg c tg x = true) (ht : (notTupX x || notTupX e) = true) : swappedStores [x] e env = Pure.pure none := by
  cases x <;> cases tg <;> first | (simp [mTg] at h; done) | skip
  · rfl
  · cases e <;> first | rfl | (simp [notTupX] at ht)
theorem r_asg {tg : Tgt} {e : Ex} {D : Ends} {σ : L2.St} {H : L2.Hp} (o : tSt X.K T.toTab X.w W (ex P call callI (.asg tg e)) D σ H) :
    tV X.K T.toTab X.w W (ev P call callI e) σ H fun x H1 => gT X.K T.toTab X.w tg x σ H1 D.nx :=
  (tS.lift (R1 := RV X.K T.toTab) (k := fun fr v h1 => match tg.put h1 v fr with | some fr1 => .ok .nx fr1 h1 | none => .bad) o).mono fun x H1 ⟨v, φ, h1, fr, R, F, q, o⟩ => by
    cases hp : tg.put h1 v fr with
    | none => rw [hp] at o; exact o.elim
    | some fr1 =>
      rw [hp] at o
      exact ⟨φ, h1, fr, v, fr1, R, F, q, hp, fun σ' F' _ _ => okS.nx o R F'⟩
theorem s_asg (C : Ctx P G T c X call callI W k) {tg : Tgt} {e : Ex} {x t : Expr} {pos : Pos} (ht : mTg c tg t = true) (hn : notComp x = true) (hs : (notTupX t || notTupX x) = true) (he : SE P T X call callI W e x) : SS P T X call callI W (.asg tg e) (.Assign [t] x pos) :=
  psI (ps_asg he (s_tg C ht) (swaps_of hn _ _ _) (tg_sw ht hs) (tg_each ht)) fun D σ H o => r_asg o
theorem s_asgC (C : Ctx P G T c X call callI W k) {i : Nat} {e : Ex} {y : Str} {elt : Expr} {gs : List Comprehension} {scope : Scope} {py p2 pos : Pos} (ht : mTg c (.v i) (.Name y py) = true) (hs : swB c y py p2 scope = false) (he : SE P T X call callI W e (.ListComp elt gs scope p2)) : SS P T X call callI W (.asg (.v i) e) (.Assign [.Name y py] (.ListComp elt gs scope p2) pos) :=
  psI (ps_asg he (s_tg C ht) (sw_false (l := pos.line) C.sc hs) rfl rfl) fun D σ H o => r_asg o
theorem s_asgL (C : Ctx P G T c X call callI W k) {i : Nat} {y : Str} {tg : Tgt} {it : Itx} {cond : OTe} {e : Ex} {t iter elt : Expr} {ifs : List Expr} {scope : Scope} {py p2 pos : Pos} (ht0 : mTg c (.v i) (.Name y py) = true) (hk : c.sc.kind = .function) (hw : swB c y py p2 scope = true)
    (hs : notSet iter = true) (hb : blkC c.N c.sc scope (mOwn c tg) = true) (ht : mTg (c.blk scope) tg t = true)
    (hi : SI P T X call callI W it t iter) (he : ∀ X' , Ctx P G T (c.blk scope) X' call callI W0 k → SE P T X' call callI W0 e elt) (hc : ∀ X', Ctx P G T (c.blk scope) X' call callI W0 k → SOT P T X' call callI W0 cond ifs) :
    SS P T X call callI W (.asg (.v i) (.comp tg it cond e)) (.Assign [.Name y py] (.ListComp elt [⟨t, iter, ifs, 0⟩] scope p2) pos) := by
  have hN : X.N.Nodup := by rw [C.N]; exact C.nd
  have ok : BlkOk X.N X.env.scope scope (mOwn c tg) := by rw [C.N, C.sc]; exact blkOk_by hb
  unfold swB at hw
  simp only [Bool.and_eq_true, decide_eq_true_eq, Bool.not_eq_true'] at hw
  obtain ⟨⟨w1, w2⟩, w3⟩ := hw
  have hy : X.N[i]? = some y := by
    rw [C.N]
    simp only [mTg, SC.loc, Bool.and_eq_true, decide_eq_true_eq] at ht0
    exact ht0.1
  refine psI (ps_setLc (i := i) (g := gT X.K T.toTab X.w tg) (tt := tBl X.K T.toTab X.w W0 (evc P call callI cond)) (te := tV X.K T.toTab X.w W0 (ev P call callI e)) C.calm hN hy (by rw [C.sc]; exact w1) (sw_true (by rw [C.sc]; exact hk) (by rw [C.sc]; exact w1) w2 w3) hi ok (fun s H A cl fp => s_tg (C.blk s H scope A cl fp) ht) (fun s H A cl fp => hc _ (C.blk s H scope A cl fp)) (fun s H A cl fp => he _ (C.blk s H scope A cl fp)) (folded_of hs _)) fun D σ H o => ?_
  rw [own_slots (c := c) (c' := c.blk scope) rfl ht]
  refine r_comp (Q := fun x H1 => gName i x σ H1 D.nx) ((r_asg o).mono fun x H1 hg => ?_)
  obtain ⟨φ, h1, fr, v, fr1, R, F, q, hp, fin⟩ := hg
  cases hp
  exact fin _ (F.set q i) (by simp) fun j hj => List.getElem?_set_ne (by simpa [Tgt.slots, eq_comm] using hj)
theorem sw_att {e o : Expr} {f : Str} {p : Pos} {l : Nat} {env : Env} : swapsWith e (some (.Attribute o f p)) l env = Pure.pure false := by cases e <;> rfl
theorem sw_sub {e o i : Expr} {p : Pos} {l : Nat} {env : Env} : swapsWith e (some (.Subscript o i p)) l env = Pure.pure false := by cases e <;> rfl
theorem fld_of {d f : Nat} (h : fldF P d f = true) : ∃ C, P.cls[d]? = some C ∧ f ∈ C.fs := by
  unfold fldF at h
  split at h
  · rename_i C e
    exact ⟨C, e, by simpa using h⟩
  · cases h
/-- an attribute is written -/
theorem r_setA (C : Ctx P G T c X call callI W k) {f : Nat} {n : Str} {x y : Val} {z u : V} {φ : List Addr} {H : L2.Hp} {h : Mem} {fr : PyI.Fr} {σ : L2.St} {D : Ends} (hn : T.nm f = n) (R : Rel X.K T.toTab X.w φ H h) (F : RFr X.K T.toTab φ H fr σ) (qx : RV X.K T.toTab φ H x z) (qy : RV X.K T.toTab φ H y u)
    (o : okS X.K T.toTab X.w φ H D W (SR.of fr (setA P f x y h))) : ∃ a A dx fs, z = .ref a ∧ H a = some (.ins A dx fs) ∧ Cls X.K A ∧ NoAttr X.K A n ∧ fs.length < 1000 ∧ D.nx σ (upd H a (.ins A dx (putF n u fs))) := by
  subst hn
  unfold setA at o
  cases x <;> simp only [] at o <;> try exact False.elim o
  rename_i m
  split at o
  · rename_i d fs he
    split at o
    · rename_i hc
      simp only [Bool.and_eq_true, decide_eq_true_eq] at hc
      obtain ⟨Cd, e1, e2⟩ := fld_of hc.1
      obtain ⟨c1, c2, _⟩ := C.wd.cls d Cd e1
      obtain ⟨a, u', rfl, ea, p1, dx, ks, rfl, p2⟩ := R.ref qx he
      refine ⟨a, T.cls d, dx, ks, rfl, p1, c1, c2 f e2, by rw [p2.length]; exact hc.2, ?_⟩
      have e := ext_set (φ := φ) (o := .ins (T.cls d) dx (putF (T.nm f) u ks)) p1 trivial
      exact okS.nx (okS.ext o e) (R.set ea p1 trivial ⟨dx, _, rfl, (putF_R T.inj qy p2).mono e⟩) (F.mono e)
    · exact False.elim o
  · exact False.elim o
theorem s_asgA (C : Ctx P G T c X call callI W k) {o e : Ex} {f : Nat} {n : Str} {l x : Expr} {p pos : Pos} (hn : G.nms[f]? = some n) (ho : SE P T X call callI W o l) (he : SE P T X call callI W e x) : SS P T X call callI W (.asgA o f e) (.Assign [.Attribute l n p] x pos) := by
  refine psI (ps_fld ho he sw_att) fun D σ H hh => ?_
  refine (tS.lift (R1 := RV X.K T.toTab) (k := fun fr y h1 => PyI.lift (ev P call callI o fr h1) fr fun x h2 => SR.of fr (setA P f x y h2)) hh).mono fun u H1 ⟨y, φ, h1, fr, R, F, q, o1⟩ => ?_
  refine ⟨φ, h1, fr, R, F, (okS.lift (R1 := RV X.K T.toTab) o1 F).mono fun z H2 ⟨x, ψ, h2, e2, R2, F2, q2, o2⟩ => ?_⟩
  exact r_setA C (C.wd.nms _ _ hn) R2 F2 q2 (q.mono e2 _ _) o2
/-- o[i] = v, o a list or a dict -/
def rPut : V → V → V → L2.Hp → (L2.Hp → Prop) → Prop := fun o i v H Q => rSetL o i v H Q ∨ ∃ a H4, o = .ref a ∧ DPut H a i v H4 ∧ Q H4
theorem put_ok (hu : X.A.units + 1 < cLine) : PSet X rPut := by
  intro pins s σ H o i v ov iv u Q I ro ri rv h
  rcases h with h | ⟨a, H4, rfl, g, q⟩
  · exact set_list pins s σ H o i v ov iv u Q I ro ri rv h
  · cases ro
    exact d_setItem hu I g ri rv fun s4 I4 => ⟨H4, I4, q⟩
def sPut (to ti tv : TE) : TS := fun D σ H => tv σ H fun v H1 => to σ H1 fun x H2 => ti σ H2 fun y H3 => rPut x y v H3 fun H4 => D.nx σ H4
theorem ps_put {o i value : Expr} {pos pos' : Pos} {to ti tv : TE} (hu : X.A.units + 1 < cLine) (ho : PE X o to) (hi : PE X i ti) (hv : PE X value tv) : PS X (.Assign [.Subscript o i pos'] value pos) (sPut to ti tv) := by
  refine ⟨fun pins s σ H D I h => ?_⟩
  refine wpAny_Assign_Subscript (thn (hv.run pins s σ H _ I h) fun r s1 ⟨v, H1, I1, rv, q1⟩ => thn (ho.run pins s1 σ H1 _ I1 q1) fun u s2 ⟨x, H2, I2, rx, q2⟩ => thn (hi.run pins s2 σ H2 _ I2 q2) fun iv s3 ⟨y, H3, I3, ry, q3⟩ => ?_) sw_sub
  exact thn (put_ok hu pins s3 σ H3 x y v u iv r _ I3 rx ry rv q3) fun _ s4 ⟨H4, I4, q4⟩ => ⟨σ, H4, I4, q4⟩
theorem r_setV {x i v : Val} {z y u : V} {φ : List Addr} {H : L2.Hp} {h : Mem} {fr : PyI.Fr} {σ : L2.St} {D : Ends} (R : Rel X.K T.toTab X.w φ H h) (F : RFr X.K T.toTab φ H fr σ) (qx : RV X.K T.toTab φ H x z) (qi : RV X.K T.toTab φ H i y) (qv : RV X.K T.toTab φ H v u)
    (o : okS X.K T.toTab X.w φ H D W (SR.of fr (setV x i v h))) : rPut z y u H fun H4 => D.nx σ H4 := by
  unfold setV at o
  cases x <;> simp only [] at o <;> try exact False.elim o
  rename_i m
  split at o
  · rename_i xs he
    obtain ⟨a, ws, rfl, ea, p1, p2⟩ := R.lst qx he
    cases i <;> simp only [] at o <;> try exact False.elim o
    rename_i j
    cases hj : ixOf xs.length j with
    | none => rw [hj] at o; exact False.elim o
    | some q =>
      rw [hj] at o
      have e := ext_set (φ := φ) (o := .lst (ws.set q u)) p1 trivial
      exact .inl ⟨a, ws, j, q, rfl, qi, p1, by rw [p2.length]; exact hj, okS.nx (okS.ext o e) (R.set ea p1 trivial ⟨_, rfl, (p2.set qv q).mono e _ _⟩) (F.mono e)⟩
  · rename_i kvs he
    obtain ⟨a, ks, rfl, ea, p1, p2⟩ := R.dik qx he
    split at o
    · rename_i kk hk
      split at o
      · rename_i hl
        have e := ext_set (φ := φ) (o := .dK (putK ks (kT kk) u)) p1 trivial
        refine .inr ⟨a, _, rfl, ?_, okS.nx (okS.ext o e) (R.set ea p1 trivial ⟨_, rfl, (RKs.put kTi qv p2).mono e⟩) (F.mono e)⟩
        rw [keyOf_V hk qi]
        exact DPut.k p1 (by rw [p2.length]; exact hl)
      · exact False.elim o
    · exact False.elim o
  · rename_i kvs he
    obtain ⟨a, ks, rfl, ea, p1, p2⟩ := R.dit qx he
    split at o
    · rename_i kk hk
      split at o
      · rename_i hl
        have e := ext_set (φ := φ) (o := .dT (putK ks (kk.map kT) u)) p1 trivial
        obtain ⟨b, rfl, eb⟩ := keysOf_V hk qi
        refine .inr ⟨a, _, rfl, DPut.t p1 eb (by rw [p2.length]; exact hl), okS.nx (okS.ext o e) (R.set ea p1 trivial ⟨_, rfl, (RKs.put kTsi qv p2).mono e⟩) (F.mono e)⟩
      · exact False.elim o
    · exact False.elim o
  · exact False.elim o
theorem s_asgI (C : Ctx P G T c X call callI W k) {o i e : Ex} {l r x : Expr} {p pos : Pos} (ho : SE P T X call callI W o l) (hi : SE P T X call callI W i r) (he : SE P T X call callI W e x) : SS P T X call callI W (.asgI o i e) (.Assign [.Subscript l r p] x pos) := by
  refine psI (ps_put (by have := C.un; omega) ho hi he) fun D σ H hh => ?_
  refine (tS.lift (R1 := RV X.K T.toTab) (k := fun fr y h1 => PyI.lift (ev P call callI o fr h1) fr fun x h2 => PyI.lift (ev P call callI i fr h2) fr fun z h3 => SR.of fr (setV x z y h3)) hh).mono fun u H1 ⟨y, φ, h1, fr, R, F, q, o1⟩ => ?_
  refine ⟨φ, h1, fr, R, F, (okS.lift (R1 := RV X.K T.toTab) o1 F).mono fun z H2 ⟨x, ψ, h2, e2, R2, F2, q2, o2⟩ => ?_⟩
  refine ⟨ψ, h2, fr, R2, F2, (okS.lift (R1 := RV X.K T.toTab) o2 F2).mono fun z3 H3 ⟨x3, χ, h3, e3, R3, F3, q3, o3⟩ => ?_⟩
  exact r_setV R3 F3 (q2.mono e3 _ _) q3 ((q.mono e2 _ _).mono e3 _ _) o3
def augOp (sub : Bool) : Operator := if sub then .Sub else .Add
def rAug (sub : Bool) : V → V → L2.Hp → VK → Prop := if sub then rSub else rAdd
theorem aug_in (sub : Bool) : InOp X (augOp sub) (rAug sub) := by cases sub; exact in_add; exact in_sub
theorem s_augA (C : Ctx P G T c X call callI W k) {o e : Ex} {f : Nat} {sub : Bool} {n : Str} {l x : Expr} {p pos : Pos} (hn : G.nms[f]? = some n) (ho : SE P T X call callI W o l) (he : SE P T X call callI W e x) : SS P T X call callI W (.augA o f sub e) (.AugAssign (.Attribute l n p) (augOp sub) x pos) := by
  refine psI (ps_fldaug ho he (aug_in sub)) fun D σ H hh => ?_
  have en := C.wd.nms _ _ hn
  refine (tS.lift (R1 := RV X.K T.toTab) (k := fun fr (x : Val) h1 => (match x with
    | .ref a => (match h1[a]? with
      | some (.ins c fs) => (match if fldF P c f then fs.lookup f else none with
        | some u => PyI.lift (ev P call callI e fr h1) fr fun y h2 => (match augI sub u y with
          | some z => if kindV h2 x = 10 + c then SR.of fr (setA P f x z h2) else .bad
          | none => .bad)
        | none => .bad)
      | _ => .bad)
    | _ => .bad : SR)) hh).mono fun z H1 ⟨xx, φ, h1, fr, R, F, q, o1⟩ => ?_
  cases xx <;> simp only [] at o1 <;> try exact False.elim o1
  rename_i m
  split at o1
  · rename_i d fs hh1
    split at o1
    · rename_i u hu
      obtain ⟨a, u', rfl, ea, p1, dx, ks, rfl, p2⟩ := R.ref q hh1
      have hf : fldF P d f = true ∧ fs.lookup f = some u := by
        by_cases hf : fldF P d f = true
        · rw [if_pos hf] at hu; exact ⟨hf, hu⟩
        · rw [if_neg hf] at hu; cases hu
      obtain ⟨Cd, e1, e2⟩ := fld_of hf.1
      obtain ⟨c1, c2, _⟩ := C.wd.cls d Cd e1
      obtain ⟨w', hw, rw'⟩ := (RKs.look T.inj p2).1 u hf.2
      refine ⟨a, T.cls d, dx, ks, w', rfl, p1, c1, en ▸ c2 f e2, en ▸ hw, φ, h1, fr, R, F, (okS.lift (R1 := RV X.K T.toTab) o1 F).mono fun y2 H2 ⟨y, ψ, h2, ee, R2, F2, q2, o2⟩ => ?_⟩
      split at o2
      · rename_i zz hz
        have rw2 := rw'.mono ee _ _
        obtain ⟨i, j, rfl, rfl, rfl⟩ : ∃ i j, u = .int i ∧ y = .int j ∧ zz = .int (if sub then i - j else i + j) := by
          cases u <;> cases y <;> simp only [augI, Option.some.injEq, reduceCtorEq] at hz
          exact ⟨_, _, rfl, rfl, hz.symm⟩
        have qx := q.mono ee _ _
        split at o2
        · rename_i hk
          have qz : RV X.K T.toTab ψ H2 (.int (if sub then i - j else i + j)) (.int (if sub then i - j else i + j)) := rfl
          unfold setA at o2
          simp only [] at o2
          split at o2
          · rename_i d2 fs2 he2
            have ed : d2 = d := by
              simp only [kindV, he2] at hk
              omega
            subst ed
            split at o2
            · rename_i hc
              simp only [Bool.and_eq_true, decide_eq_true_eq] at hc
              obtain ⟨a', u', ez, ea', g1, dx', ks', rfl, g2⟩ := R2.ref qx he2
              cases ez
              have e := ext_set (φ := ψ) (o := .ins (T.cls d2) dx' (putF (T.nm f) (.int (if sub then i - j else i + j)) ks')) g1 trivial
              have fin := okS.nx (okS.ext o2 e) (R2.set ea' g1 trivial ⟨dx', _, rfl, (putF_R T.inj qz g2).mono e⟩) (F2.mono e)
              rw [en] at fin
              have ht : ∃ dx' fs', H2 a = some (.ins (T.cls d2) dx' fs') ∧ fs'.length < 1000 ∧ D.nx σ (upd H2 a (.ins (T.cls d2) dx' (putF n (.int (if sub then i - j else i + j)) fs'))) := ⟨dx', ks', g1, by rw [g2.length]; exact hc.2, fin⟩
              rw [show w' = _ from rw2, show y2 = _ from q2]
              unfold rAug
              cases sub
              · exact ⟨i, j, rfl, rfl, ht⟩
              · exact ⟨i, j, rfl, rfl, ht⟩
            · exact False.elim o2
          · exact False.elim o2
        · exact False.elim o2
      · exact False.elim o2
    · exact False.elim o1
  · exact False.elim o1
end
end PyI
namespace PyI
open PySem PySem.Spec PyProof.Rows L2
/-! ### except suites -/
section
variable (G : Gam)
mutual
def mX (c : SC) (en : Option (Nat × Str)) : XEx → Expr → Bool
  | .lit l, x => match x with
    | .Constant k _ _ => mLit l k
    | _ => false
  | .var i, x => match x with
    | .Name n _ => c.slot i n
    | _ => false
  | .exi d, x => match x with
    | .Call (.Name n _) [.Name e _, .Name t _] [] _ => G.bl c n "isinstance" && (match en with | some (i, e') => decide (e = e') && c.slot i e | none => false) && decide (G.xnm[d]? = some t) && c.gl t
    | _ => false
  | .and a b, x => match x with
    | .BoolOp .And [l, r] _ => mX c en a l && mX c en b r
    | .BoolOp .And (l :: r :: s :: rest) p => mX c en a l && mX c en b (.BoolOp .And (r :: s :: rest) p)
    | _ => false
  | .or a b, x => match x with
    | .BoolOp .Or [l, r] _ => mX c en a l && mX c en b r
    | .BoolOp .Or (l :: r :: s :: rest) p => mX c en a l && mX c en b (.BoolOp .Or (r :: s :: rest) p)
    | _ => false
  | .nt a, x => match x with
    | .UnaryOp .Not l _ => mX c en a l
    | _ => false
  | .tup es, x => match x with
    | .Tuple xs _ _ => mXs c en es xs
    | _ => false
  | .lst es, x => match x with
    | .List [] _ => (match es with | .nil => true | _ => false)
    | _ => false
def mXs (c : SC) (en : Option (Nat × Str)) : XExs → List Expr → Bool
  | .nil, xs => match xs with
    | [] => true
    | _ => false
  | .cons e es, xs => match xs with
    | x :: r => notStar x && mX c en e x && mXs c en es r
    | [] => false
end
/-- as a test -/
def isTst : Expr → Bool
  | .BoolOp _ _ _ => true
  | .UnaryOp .Not _ _ => true
  | .Call _ _ _ _ => true
  | _ => false
mutual
def mXS (c : SC) (en : Option (Nat × Str)) : XSm → Stmt → Bool
  | .ret e, s => match s with
    | .Return (some x) _ => mX G c en e x
    | _ => false
  | .ite t a b, s => match s with
    | .If x p q _ => mX G c en t x && mXSs c en a p && mXSs c en b q
    | _ => false
  | .asg i e, s => match s with
    | .Assign [.Name y _] x _ => c.loc i y && notComp x && mX G c en e x && (match en with | some (j, _) => decide (i ≠ j) | none => true)
    | _ => false
  | .pass, s => match s with
    | .Pass _ => true
    | _ => false
def mXSs (c : SC) (en : Option (Nat × Str)) : XSms → List Stmt → Bool
  | .nil, xs => match xs with
    | [] => true
    | _ => false
  | .cons s ss, xs => match xs with
    | x :: r => mXS c en s x && mXSs c en ss r
    | [] => false
end
end
/-- an except suite's context, the error of class e at a -/
structure CtxH (P : Pg) (G : Gam) (T : Tab2) (c : SC) (X : Cx) (e : Nat) (a : Addr) : Prop where
  N : X.N = c.N
  nd : c.N.Nodup
  sc : X.env.scope = c.sc
  wd : Wd P G T X.K X.mg
  fnt : c.top = true → X.fn = fun _ => true
  isi : (∃ d b, P.exc e d = some b) → ∃ D, T.exn e = .ref D ∧ CallR X (.builtin "isinstance") (rIsE X.K D a)
def enOk (en : Option (Nat × Str)) (a : Addr) (σ : L2.St) : Prop := ∀ i e, en = some (i, e) → σ[i]? = some (some (.ref a))
def okX (K : PySem.W.Frag) (T : Tab) (w : World) (φ : List Addr) (H : L2.Hp) (Z : L2.St → Prop) (D : Ends) : SR → Prop
  | .ok .nx fr h => ∀ ψ G σ, Ext φ H ψ G → Rel K T w ψ G h → RFr K T ψ G fr σ → Z σ → D.nx σ G
  | .ok (.rt v) fr h => ∀ ψ G x, Ext φ H ψ G → Rel K T w ψ G h → RV K T ψ G v x → D.rt x G
  | _ => False
def tXe (K : PySem.W.Frag) (T : Tab) (w : World) (Z : L2.St → Prop) (r : PyI.Fr → Option Val) : TE := fun σ H Q =>
  Z σ ∧ ∃ φ h fr v, Rel K T w φ H h ∧ RFr K T φ H fr σ ∧ r fr = some v ∧ ∀ ψ G x, Ext φ H ψ G → Rel K T w ψ G h → RV K T ψ G v x → Q x G
def tXt (K : PySem.W.Frag) (T : Tab) (w : World) (Z : L2.St → Prop) (r : PyI.Fr → Option Val) : TT := fun σ H Q =>
  Z σ ∧ ∃ φ h fr b, Rel K T w φ H h ∧ RFr K T φ H fr σ ∧ r fr = some (.bl b) ∧ ∀ ψ G, Ext φ H ψ G → Rel K T w ψ G h → Q b G
def tXes (K : PySem.W.Frag) (T : Tab) (w : World) (Z : L2.St → Prop) (r : PyI.Fr → Option (List Val)) : TA := fun σ H Q =>
  Z σ ∧ ∃ φ h fr v, Rel K T w φ H h ∧ RFr K T φ H fr σ ∧ r fr = some v ∧ ∀ ψ G x, Ext φ H ψ G → Rel K T w ψ G h → RVs K T ψ G v x → Q x G
def tXS (K : PySem.W.Frag) (T : Tab) (w : World) (Z : L2.St → Prop) (r : PyI.Fr → Mem → SR) : TS := fun D σ H =>
  Z σ ∧ ∃ φ h fr, Rel K T w φ H h ∧ RFr K T φ H fr σ ∧ okX K T w φ H Z D (r fr h)
section
variable {P : Pg} {G : Gam} {T : Tab2} {c : SC} {X : Cx} {e : Nat} {a : Addr} {en : Option (Nat × Str)}
theorem CtxH.var (C : CtxH P G T c X e a) {i : Nat} {x : Str} {pos : Pos} (h : c.slot i x = true) : PE X (.Name x pos) (tVar i) := by
  unfold SC.slot at h
  simp only [Bool.and_eq_true, decide_eq_true_eq, Bool.not_eq_true'] at h
  refine pe_var (by rw [C.N]; exact h.1.1.1) ?_ h.1.2 h.2
  have hv := h.1.1.2
  rw [C.sc]
  unfold SC.vis at hv
  unfold Vis
  split at hv <;> first | contradiction | simp_all
theorem CtxH.gl (C : CtxH P G T c X e a) {x : Str} (h : c.gl x = true) : Gl X x ∧ (x == ("__debug__" : Str)) = false ∧ x ≠ "__name__" := by
  unfold SC.gl at h
  simp only [Bool.and_eq_true, decide_eq_true_eq, Bool.not_eq_true'] at h
  refine ⟨?_, h.1.2, h.2⟩
  show X.env.scope.names.lookup x = _
  rw [C.sc]; exact h.1.1
theorem CtxH.blt (C : CtxH P G T c X e a) {x n : Str} (h : G.bl c x n = true) : x = n ∧ Gl X x ∧ X.mg x = none ∧ (x == ("__debug__" : Str)) = false ∧ x ≠ "__name__" := by
  unfold Gam.bl at h
  simp only [Bool.and_eq_true, decide_eq_true_eq] at h
  obtain ⟨g, d, n⟩ := C.gl h.1.2
  exact ⟨h.1.1, g, C.wd.blt _ h.2, d, n⟩
theorem x_exi (C : CtxH P G T c X e a) {d : Nat} {x : Expr} (h : mX G c en (.exi d) x = true) : PE X x (tXe X.K T.toTab X.w (enOk en a) (evX P e (.exi d))) ∧ plainT x = true := by
  simp only [mX] at h
  split at h <;> try cases h
  rename_i n p1 ex p2 t p3 pos
  refine ⟨?_, rfl⟩
  simp only [Bool.and_eq_true, decide_eq_true_eq] at h
  obtain ⟨⟨⟨h1, h2⟩, h3⟩, h4⟩ := h
  cases en with
  | none => cases h2
  | some q =>
  obtain ⟨i, e'⟩ := q
  simp only [Bool.and_eq_true, decide_eq_true_eq] at h2
  obtain ⟨rfl, h2⟩ := h2
  obtain ⟨rfl, g1, g2, g3, g4⟩ := C.blt h1
  obtain ⟨k1, k2, k3⟩ := C.gl h4
  obtain ⟨u, ru, uu⟩ := C.wd.exv _ _ h3
  have pn : PE X (.Name t p3) (tC u) := by
    rcases C.wd.exn _ _ h3 with m | ⟨m, b⟩
    · exact pe_glob k1 m ru k2
    · exact pe_bltn k1 m b ru k3 k2
  by_cases hex : ∃ d b, P.exc e d = some b
  · obtain ⟨D, eD, isi⟩ := C.isi hex
    refine peI (pe_callB isi g1 g2 (by decide +kernel) (pa_cons (C.var h2) (pa_cons pn pa_nil (star_of rfl _ _)) (star_of rfl _ _)) g4 g3 (star_of rfl _ _) (noneStar _ _ rfl)) fun σ H Q hh => ?_
    obtain ⟨z, φ, h, fr, v, R, F, ev, fin⟩ := hh
    simp only [evX] at ev
    obtain ⟨b, eb, rfl⟩ := Option.map_eq_some_iff.mp ev
    obtain ⟨_, e2, _⟩ := C.wd.exm _ _ _ eb
    rw [eD] at e2
    refine ⟨_, z i ex rfl, ?_⟩
    exact ⟨u, T.exn d, b, rfl, uu, e2, fin φ H _ .refl R rfl⟩
  · refine ⟨fun pins s σ H Q I hh => ?_⟩
    obtain ⟨z, φ, h, fr, v, R, F, ev, fin⟩ := hh
    simp only [evX] at ev
    obtain ⟨b, eb, rfl⟩ := Option.map_eq_some_iff.mp ev
    exact absurd ⟨d, b, eb⟩ hex
/-- from the value on -/
theorem tXe.of {K : PySem.W.Frag} {T : Tab} {w : World} {Z : L2.St → Prop} {r : PyI.Fr → Option Val} {φ : List Addr} {H : L2.Hp} {h : Mem} {fr : PyI.Fr} {σ : L2.St} {v : Val} {Q : VK} (z : Z σ) (R : Rel K T w φ H h) (F : RFr K T φ H fr σ) (e : r fr = some v)
    (fin : ∀ ψ G x, Ext φ H ψ G → Rel K T w ψ G h → RV K T ψ G v x → Q x G) : tXe K T w Z r σ H Q := ⟨z, φ, h, fr, v, R, F, e, fin⟩
theorem pe_bool_one {op : BoolOp} {x : Expr} {p : Pos} {t : TE} (h : PE X x t) : PE X (.BoolOp op [x] p) t := pe_one h
mutual
theorem xE (C : CtxH P G T c X e a) : ∀ (x : XEx) (y : Expr), mX G c en x y = true → PE X y (tXe X.K T.toTab X.w (enOk en a) (evX P e x))
  | .lit l, y, h => by
    simp only [mX] at h
    split at h <;> try cases h
    rename_i kk q1 q2
    have fin : ∀ {y : V}, (∀ φ H, RV X.K T.toTab φ H l.val y) → ∀ σ H Q, tXe X.K T.toTab X.w (enOk en a) (evX P e (.lit l)) σ H Q → Q y H := fun {y} hy σ H Q ⟨z, φ, h, fr, v, R, F, ev, fin⟩ => by
      simp only [evX, Option.some.injEq] at ev
      subst ev
      exact fin φ H y .refl R (hy φ H)
    cases l <;> cases kk <;> simp only [mLit, Bool.false_eq_true, beq_iff_eq, decide_eq_true_eq] at h
    · exact peI pe_non (fin fun _ _ => rfl)
    · subst h; exact peI pe_bl (fin fun _ _ => rfl)
    · subst h; exact peI pe_int (fin fun _ _ => rfl)
    · subst h; exact peI pe_str (fin fun _ _ => rfl)
  | .var i, y, h => by
    simp only [mX] at h
    split at h <;> try cases h
    refine peI (C.var h) fun σ H Q ⟨z, φ, h, fr, v, R, F, ev, fin⟩ => ?_
    simp only [evX] at ev
    split at ev <;> cases ev
    rename_i eq
    obtain ⟨x, e2, r⟩ := F.2 i _ eq
    exact ⟨x, e2, fin φ H x .refl R r⟩
  | .exi d, y, h => (x_exi C h).1
  | .nt b, y, h => by
    simp only [mX] at h
    split at h <;> try cases h
    refine peI (pe_notT (xE C b _ h)) fun σ H Q ⟨z, φ, h, fr, v, R, F, ev, fin⟩ => ?_
    simp only [evX] at ev
    split at ev <;> cases ev
    rename_i t et
    refine tXe.of z R F et fun ψ G x ex R' q => ⟨t, ?_, fin ψ G _ ex R' rfl⟩
    exact tru_V R' q rfl
  | .and b d, y, h => by
    have go : ∀ {l r : Expr} {rest : List Expr} {p : Pos}, PE X l (tXe X.K T.toTab X.w (enOk en a) (evX P e b)) → PE X (.BoolOp .And (r :: rest) p) (tXe X.K T.toTab X.w (enOk en a) (evX P e d)) → PE X (.BoolOp .And (l :: r :: rest) p) (tXe X.K T.toTab X.w (enOk en a) (evX P e (.and b d))) := fun {l r rest p} hl hr => by
      refine peI (pe_andT hl hr) fun σ H Q ⟨z, φ, h, fr, v, R, F, ev, fin⟩ => ?_
      simp only [evX] at ev
      split at ev <;> try cases ev
      rename_i t et
      refine tXe.of z R F et fun ψ G x ex R' q => ⟨t, tru_V R' q rfl, ?_⟩
      cases t with
      | true =>
        rw [if_pos rfl] at ev ⊢
        exact tXe.of z R' (F.mono ex) ev fun χ M y e2 R2 q2 => fin χ M y (ex.trans e2) R2 q2
      | false =>
        rw [if_neg Bool.false_ne_true] at ev ⊢
        cases ev
        exact fin ψ G x ex R' q
    simp only [mX] at h
    split at h <;> try cases h
    · simp only [Bool.and_eq_true] at h
      exact go (xE C b _ h.1) (pe_one (xE C d _ h.2))
    · simp only [Bool.and_eq_true] at h
      exact go (xE C b _ h.1) (xE C d _ h.2)
  | .or b d, y, h => by
    have go : ∀ {l r : Expr} {rest : List Expr} {p : Pos}, PE X l (tXe X.K T.toTab X.w (enOk en a) (evX P e b)) → PE X (.BoolOp .Or (r :: rest) p) (tXe X.K T.toTab X.w (enOk en a) (evX P e d)) → PE X (.BoolOp .Or (l :: r :: rest) p) (tXe X.K T.toTab X.w (enOk en a) (evX P e (.or b d))) := fun {l r rest p} hl hr => by
      refine peI (pe_orT hl hr) fun σ H Q ⟨z, φ, h, fr, v, R, F, ev, fin⟩ => ?_
      simp only [evX] at ev
      split at ev <;> try cases ev
      rename_i t et
      refine tXe.of z R F et fun ψ G x ex R' q => ⟨t, tru_V R' q rfl, ?_⟩
      cases t with
      | false =>
        rw [if_neg Bool.false_ne_true] at ev ⊢
        exact tXe.of z R' (F.mono ex) ev fun χ M y e2 R2 q2 => fin χ M y (ex.trans e2) R2 q2
      | true =>
        rw [if_pos rfl] at ev ⊢
        cases ev
        exact fin ψ G x ex R' q
    simp only [mX] at h
    split at h <;> try cases h
    · simp only [Bool.and_eq_true] at h
      exact go (xE C b _ h.1) (pe_one (xE C d _ h.2))
    · simp only [Bool.and_eq_true] at h
      exact go (xE C b _ h.1) (xE C d _ h.2)
  | .tup es, y, h => by
    simp only [mX] at h
    split at h <;> try cases h
    refine peI (pe_tup (xEs C es _ h)) fun σ H Q ⟨z, φ, h, fr, v, R, F, ev, fin⟩ => ?_
    simp only [evX] at ev
    obtain ⟨vs, e1, e2⟩ := Option.bind_eq_some_iff.mp ev
    split at e2 <;> cases e2
    rename_i hl
    refine ⟨z, φ, h, fr, vs, R, F, e1, fun ψ G x ex R' q => ⟨by rw [q.length]; exact hl, fun p hp => ?_⟩⟩
    exact fin ψ (upd G p (.tup x)) (.ref p) (ex.trans (ext_tup hp)) (R'.tup hp) ⟨p, x, rfl, upd_same, q.mono (ext_tup hp) _ _⟩
  | .lst es, y, h => ⟨fun pins s σ H Q I ⟨z, φ, h, fr, v, R, F, ev, fin⟩ => by simp [evX] at ev⟩
theorem xEs (C : CtxH P G T c X e a) : ∀ (x : XExs) (y : List Expr), mXs G c en x y = true → PA X y (tXes X.K T.toTab X.w (enOk en a) (evXs P e x))
  | .nil, y, h => by
    simp only [mXs] at h
    split at h <;> try cases h
    exact paI pa_nil fun σ H Q ⟨z, φ, h, fr, v, R, F, ev, fin⟩ => by
      simp only [evXs, Option.some.injEq] at ev
      subst ev
      exact fin φ H [] .refl R rfl
  | .cons b bs, y, h => by
    simp only [mXs] at h
    split at h <;> try cases h
    simp only [Bool.and_eq_true] at h
    refine paI (pa_cons (xE C b _ h.1.2) (xEs C bs _ h.2) (star_of h.1.1 _ _)) fun σ H Q ⟨z, φ, h, fr, v, R, F, ev, fin⟩ => ?_
    simp only [evXs] at ev
    obtain ⟨u, e1, e2⟩ := Option.bind_eq_some_iff.mp ev
    obtain ⟨us, e3, rfl⟩ := Option.map_eq_some_iff.mp e2
    refine tXe.of z R F e1 fun ψ G x ex R' q => ⟨z, ψ, h, fr, us, R', F.mono ex, e3, fun χ M y e4 R2 q2 => ?_⟩
    exact fin χ M (x :: y) (ex.trans e4) R2 ⟨x, y, rfl, q.mono e4 _ _, q2⟩
end
/-- a truth value of the suite as a test -/
theorem xT_plain {x : XEx} {y : Expr} (hp : plainT y = true) (h : PE X y (tXe X.K T.toTab X.w (enOk en a) (evX P e x))) : PT X y (tXt X.K T.toTab X.w (enOk en a) (evX P e x)) := by
  refine ptI (pt_truth h ?_) fun σ H Q ⟨z, φ, h, fr, b, R, F, ev, fin⟩ => ?_
  · intro whole
    cases y <;> first | rfl | (simp [plainT] at hp) | skip
    rename_i op o p
    cases op <;> first | rfl | (simp [plainT] at hp)
  · exact tXe.of z R F ev fun ψ G x ex R' q => ⟨b, tru_V R' q rfl, fin ψ G ex R'⟩
theorem xT (C : CtxH P G T c X e a) : ∀ (x : XEx) (y : Expr), mX G c en x y = true → PT X y (tXt X.K T.toTab X.w (enOk en a) (evX P e x))
  | .lit l, y, h => xT_plain (by simp only [mX] at h; split at h <;> first | rfl | cases h) (xE C _ _ h)
  | .var i, y, h => xT_plain (by simp only [mX] at h; split at h <;> first | rfl | cases h) (xE C _ _ h)
  | .exi d, y, h => xT_plain (x_exi C h).2 (x_exi C h).1
  | .tup es, y, h => xT_plain (by simp only [mX] at h; split at h <;> first | rfl | cases h) (xE C _ _ h)
  | .lst es, y, h => xT_plain (by simp only [mX] at h; split at h <;> first | rfl | cases h) (xE C _ _ h)
  | .nt b, y, h => by
    simp only [mX] at h
    split at h <;> try cases h
    refine ptI (pt_not (xT C b _ h)) fun σ H Q ⟨z, φ, h, fr, v, R, F, ev, fin⟩ => ?_
    simp only [evX] at ev
    split at ev <;> cases ev
    rename_i t et
    exact ⟨z, φ, h, fr, t, R, F, et, fin⟩
  | .and b d, y, h => by
    have go : ∀ {l r : Expr} {rest : List Expr} {p : Pos}, PT X l (tXt X.K T.toTab X.w (enOk en a) (evX P e b)) → PW X (.BoolOp .And (r :: rest) p) (tXt X.K T.toTab X.w (enOk en a) (evX P e d)) → PT X (.BoolOp .And (l :: r :: rest) p) (tXt X.K T.toTab X.w (enOk en a) (evX P e (.and b d))) := fun {l r rest p} hl hr => by
      refine ptI (pw_and hl hr).pt fun σ H Q ⟨z, φ, h, fr, v, R, F, ev, fin⟩ => ?_
      simp only [evX] at ev
      split at ev <;> try cases ev
      rename_i t et
      refine ⟨z, φ, h, fr, t, R, F, et, fun ψ G ex R' => ?_⟩
      cases t with
      | true =>
        rw [if_pos rfl] at ev
        exact ⟨z, ψ, h, fr, v, R', F.mono ex, ev, fun χ M e2 R2 => fin χ M (ex.trans e2) R2⟩
      | false =>
        rw [if_neg Bool.false_ne_true] at ev
        cases ev
        exact fin ψ G ex R'
    simp only [mX] at h
    split at h <;> try cases h
    · simp only [Bool.and_eq_true] at h
      exact go (xT C b _ h.1) (pw_and1 (xT C d _ h.2))
    · simp only [Bool.and_eq_true] at h
      exact go (xT C b _ h.1) (pw_of ⟨_, _, _, rfl⟩ (xT C d _ h.2))
  | .or b d, y, h => by
    have go : ∀ {l r : Expr} {rest : List Expr} {p : Pos}, PT X l (tXt X.K T.toTab X.w (enOk en a) (evX P e b)) → PW X (.BoolOp .Or (r :: rest) p) (tXt X.K T.toTab X.w (enOk en a) (evX P e d)) → PT X (.BoolOp .Or (l :: r :: rest) p) (tXt X.K T.toTab X.w (enOk en a) (evX P e (.or b d))) := fun {l r rest p} hl hr => by
      refine ptI (pw_or hl hr).pt fun σ H Q ⟨z, φ, h, fr, v, R, F, ev, fin⟩ => ?_
      simp only [evX] at ev
      split at ev <;> try cases ev
      rename_i t et
      refine ⟨z, φ, h, fr, t, R, F, et, fun ψ G ex R' => ?_⟩
      cases t with
      | false =>
        rw [if_neg Bool.false_ne_true] at ev
        exact ⟨z, ψ, h, fr, v, R', F.mono ex, ev, fun χ M e2 R2 => fin χ M (ex.trans e2) R2⟩
      | true =>
        rw [if_pos rfl] at ev
        cases ev
        exact fin ψ G ex R'
    simp only [mX] at h
    split at h <;> try cases h
    · simp only [Bool.and_eq_true] at h
      exact go (xT C b _ h.1) (pw_or1 (xT C d _ h.2))
    · simp only [Bool.and_eq_true] at h
      exact go (xT C b _ h.1) (pw_of ⟨_, _, _, rfl⟩ (xT C d _ h.2))
theorem exX_ret {b : XEx} (hb : b ≠ .lst .nil) (fr : PyI.Fr) (h : Mem) : exX P e (.ret b) fr h = match evX P e b fr with | some v => .ok (.rt v) fr h | none => .bad := by
  unfold exX
  split
  · exact absurd rfl hb
  · rfl
mutual
theorem xS (C : CtxH P G T c X e a) : ∀ (x : XSm) (y : Stmt), mXS G c en x y = true → PS X y (tXS X.K T.toTab X.w (enOk en a) (exX P e x))
  | .ret b, y, h => by
    simp only [mXS] at h
    split at h <;> try cases h
    by_cases hb : b = .lst .nil
    · subst hb
      simp only [mX] at h
      split at h <;> try cases h
      refine psI (ps_ret (pe_lst pa_nil)) fun D σ H ⟨z, φ, h, fr, R, F, o⟩ => ?_
      refine ⟨Nat.zero_le _, fun p hp => ?_⟩
      have o' : okX X.K T.toTab X.w φ H (enOk en a) D (.ok (.rt (.ref h.length)) fr (h ++ [.lst []])) := o
      exact o' (φ ++ [p]) _ (.ref p) (ext_new hp) (R.new hp ⟨[], rfl, rfl⟩) R.new_ref
    · refine psI (ps_ret (xE C b _ h)) fun D σ H ⟨z, φ, h, fr, R, F, o⟩ => ?_
      rw [exX_ret hb] at o
      split at o
      · rename_i v ev
        exact tXe.of z R F ev fun ψ G x ex R' q => o ψ G x ex R' q
      · exact o.elim
  | .ite t p q, y, h => by
    simp only [mXS] at h
    split at h <;> try cases h
    simp only [Bool.and_eq_true] at h
    refine psI (ps_if (xT C t _ h.1.1) (xSs C p _ h.1.2) (xSs C q _ h.2)) fun D σ H ⟨z, φ, h, fr, R, F, o⟩ => ?_
    simp only [exX] at o
    split at o
    · rename_i k ek
      refine ⟨z, φ, h, fr, k, R, F, ek, fun ψ G ex R' => ?_⟩
      cases k with
      | true =>
        rw [if_pos rfl] at o ⊢
        refine ⟨z, ψ, h, fr, R', F.mono ex, ?_⟩
        generalize exXs P e p fr h = rr at o
        cases rr with
        | ok f fr' h' => cases f <;> first | exact False.elim o | exact fun χ M x e2 => o χ M x (ex.trans e2)
        | exc _ _ _ => exact False.elim o
        | bad => exact False.elim o
      | false =>
        rw [if_neg Bool.false_ne_true] at o ⊢
        refine ⟨z, ψ, h, fr, R', F.mono ex, ?_⟩
        generalize exXs P e q fr h = rr at o
        cases rr with
        | ok f fr' h' => cases f <;> first | exact False.elim o | exact fun χ M x e2 => o χ M x (ex.trans e2)
        | exc _ _ _ => exact False.elim o
        | bad => exact False.elim o
    · exact o.elim
  | .asg i b, y, h => by
    simp only [mXS] at h
    split at h <;> try cases h
    rename_i y0 p0 x0 pos
    simp only [Bool.and_eq_true] at h
    obtain ⟨⟨⟨h1, h2⟩, h3⟩, h4⟩ := h
    unfold SC.loc at h1
    simp only [Bool.and_eq_true, decide_eq_true_eq, Bool.or_eq_true] at h1
    obtain ⟨g1, g2⟩ := h1
    have hl : L2.Loc X.env.scope y0 := by unfold L2.Loc; rw [C.sc]; exact g2.imp id (·.2)
    have hf : X.fn y0 = true ∨ X.env.scope.names.lookup y0 = some .local := by
      rcases g2 with q | ⟨q1, q2⟩
      · exact .inr (by rw [C.sc]; exact q)
      · exact .inl (by rw [C.fnt q1])
    refine psI (ps_set (by rw [C.N]; exact C.nd) (by rw [C.N]; exact g1) hl (xE C b _ h3) (swaps_of h2 _ _ _) hf) fun D σ H ⟨z, φ, h, fr, R, F, o⟩ => ?_
    simp only [exX] at o
    split at o
    · rename_i v ev
      refine tXe.of z R F ev fun ψ G x ex R' q => o ψ G (σ.set i (some x)) ex R' ((F.mono ex).set q i) fun j n ej => ?_
      subst ej
      have hne : i ≠ j := by simpa using h4
      rw [List.getElem?_set_ne hne]
      exact z j n rfl
    · exact o.elim
  | .pass, y, h => by
    simp only [mXS] at h
    split at h <;> try cases h
    exact psI ps_pass fun D σ H ⟨z, φ, h, fr, R, F, o⟩ => o φ H σ .refl R F z
theorem xSs (C : CtxH P G T c X e a) : ∀ (x : XSms) (y : List Stmt), mXSs G c en x y = true → PSs X y (tXS X.K T.toTab X.w (enOk en a) (exXs P e x))
  | .nil, y, h => by
    simp only [mXSs] at h
    split at h <;> try cases h
    exact pssI pss_nil fun D σ H ⟨z, φ, h, fr, R, F, o⟩ => o φ H σ .refl R F z
  | .cons s ss, y, h => by
    simp only [mXSs] at h
    split at h <;> try cases h
    simp only [Bool.and_eq_true] at h
    refine pssI (pss_cons (xS C s _ h.1) (xSs C ss _ h.2)) fun D σ H ⟨z, φ, h, fr, R, F, o⟩ => ?_
    refine ⟨z, φ, h, fr, R, F, ?_⟩
    simp only [exXs] at o
    cases hr : exX P e s fr h with
    | ok f fr1 h1 =>
      rw [hr] at o
      cases f with
      | nx => 
        intro ψ G σ' ex R' F' z'
        refine ⟨z', ψ, h1, fr1, R', F', ?_⟩
        have o' : okX X.K T.toTab X.w φ H (enOk en a) D (exXs P e ss fr1 h1) := o
        generalize exXs P e ss fr1 h1 = rr at o'
        cases rr with
        | ok f fr' h' => cases f <;> first | exact False.elim o' | exact fun χ M x e2 => o' χ M x (ex.trans e2)
        | exc _ _ _ => exact False.elim o'
        | bad => exact False.elim o'
      | rt v => exact o
      | bk => exact False.elim o
      | ct => exact False.elim o
    | exc _ _ _ => rw [hr] at o; exact False.elim o
    | bad => rw [hr] at o; exact False.elim o
end
end
end PyI
namespace PyI
open PySem PySem.Spec PyProof.Rows L2
/-! ### all statements -/
def noOne : Hds → Bool
  | .nil => true
  | .cons _ _ r => noOne r
  | .one _ _ _ => false
section
variable (G : Gam)
def mHds (c : SC) : Hds → List ExceptHandler → Bool
  | .nil, hs => match hs with
    | [] => true
    | _ => false
  | .cons d b r, hs => match hs with
    | .ExceptHandler (some (.Name x _)) none (b₀ :: suite) _ :: rest => decide (G.xnm[d]? = some x) && c.gl x && mXSs G c none b (b₀ :: suite) && (noOne r && mHds c r rest)
    | _ => false
  | .one d i b, hs => match hs with
    | [.ExceptHandler (some (.Name x _)) (some n) (b₀ :: suite) _] => decide (G.xnm[d]? = some x) && c.gl x && decide (c.N[i]? = some n) && decide (c.sc.names.lookup n = some .local) && mXSs G c (some (i, n)) b (b₀ :: suite)
    | _ => false
def isSub : Operator → Bool → Bool
  | .Add, false => true
  | .Sub, true => true
  | _, _ => false
mutual
def mS (c : SC) : Sm → Stmt → Bool
  | .asg tg e, s => match s with
    | .Assign [t] x _ => (match x with
      | .ListComp elt gs scope p2 => (match t, tg with
        | .Name y py, .v i => c.loc i y && mE G c e (.ListComp elt gs scope p2) && (!swB c y py p2 scope || decide (c.sc.kind = .function))
        | _, _ => false)
      | x => mTg c tg t && notComp x && (notTupX t || notTupX x) && mE G c e x)
    | _ => false
  | .asgA o f e, s => match s with
    | .Assign [.Attribute l n _] x _ => decide (G.nms[f]? = some n) && mE G c o l && mE G c e x
    | _ => false
  | .asgI o i e, s => match s with
    | .Assign [.Subscript l r _] x _ => mE G c o l && mE G c i r && mE G c e x
    | _ => false
  | .augA o f sub e, s => match s with
    | .AugAssign (.Attribute l n _) op x _ => decide (G.nms[f]? = some n) && isSub op sub && mE G c o l && mE G c e x
    | _ => false
  | .exp e, s => match s with
    | .Expr x _ => notComp x && mE G c e x
    | _ => false
  | .ret e, s => match s with
    | .Return (some x) _ => mE G c e x
    | _ => false
  | .retN, s => match s with
    | .Return none _ => true
    | _ => false
  | .ite t a b, s => match s with
    | .If x p q _ => mT G c t x && mSs c a p && mSs c b q
    | _ => false
  | .whl t b, s => match s with
    | .While x p [] _ => mT G c t x && mSs c b p
    | _ => false
  | .for tg it b, s => match s with
    | .For t x p [] _ => notSet x && mTg c tg t && mI G c it t x && mSs c b p
    | _ => false
  | .raise d, s => match s with
    | .Raise (some (.Call (.Name x _) [.Constant (.str _) _ _] [] _)) none _ => decide (G.xnm[d]? = some x) && decide (d < G.nx) && c.gl x
    | _ => false
  | .try b hs, s => match s with
    | .Try p (h₀ :: hds) [] [] _ => mSs c b p && mHds G c hs (h₀ :: hds)
    | _ => false
  | .pass, s => match s with
    | .Pass _ => true
    | .Expr (.Constant (.str _) _ _) _ => true
    | _ => false
  | .brk, s => match s with
    | .Break _ => true
    | _ => false
  | .cnt, s => match s with
    | .Continue _ => true
    | _ => false
  | .del o i, s => match s with
    | .Delete [.Subscript l r _] _ => mE G c o l && mE G c i r
    | _ => false
def mSs (c : SC) : Sms → List Stmt → Bool
  | .nil, xs => match xs with
    | [] => true
    | _ => false
  | .cons s ss, xs => match xs with
    | x :: r => mS c s x && mSs c ss r
    | [] => false
end
end
structure CtxS (P : Pg) (G : Gam) (T : Tab2) (c : SC) (X : Cx) (call callI : Nat → List Val → Mem → Res Val) (W : WX) (k : Nat) : Prop extends Ctx P G T c X call callI W k where
  own : PassesOwn (model X.prog X.w) X.A X.env X.xe
  stk : X.stack = X.env :: X.outer
  frm : X.env.frame = some X.env.locals
section
variable {P : Pg} {G : Gam} {T : Tab2} {c : SC} {X : Cx} {call callI : Nat → List Val → Mem → Res Val} {W : WX} {k : Nat}
theorem CtxS.tr (C : CtxS P G T c X call callI W k) {W' : WX} {pn : List (Addr × Obj)} {xe : Value → Shared → Prop} (tk : Takes (X.tr pn xe) W') (ow : PassesOwn (model X.prog X.w) X.A X.env xe) : CtxS P G T c (X.tr pn xe) call callI W' k where
  N := C.N
  nd := C.nd
  sc := C.sc
  calm := C.calm
  room := C.room
  wd := C.wd
  call := C.call
  callI := C.callI
  tk := tk
  fnt := C.fnt
  own := ow
  stk := C.stk
  frm := C.frm
theorem CtxS.suite (C : CtxS P G T c X call callI W k) {e : Nat} {a : Addr} {oe : Obj} {pn : List (Addr × Obj)} (z : Zc (T.exn e) none oe) (hf : ∃ vs, oe.data = .fields vs) : CtxH P G T c (X.suite a ((a, oe) :: pn)) e a where
  N := C.N
  nd := C.nd
  sc := C.sc
  wd := C.wd
  fnt := C.fnt
  isi := fun ⟨d, b, he⟩ => by
    obtain ⟨_, _, D, eD, ec⟩ := C.wd.exm _ _ _ he
    exact ⟨D, eD, call_isE ec (eD ▸ z) hf⟩
theorem CtxS.names (C : CtxS P G T c X call callI W k) {d : Nat} {x : Str} (h1 : G.xnm[d]? = some x) (h2 : c.gl x = true) : Names X x (T.exn d) := by
  obtain ⟨g1, g2, g3⟩ := C.toCtx.gl h2
  refine ⟨g1, g2, ?_⟩
  rcases C.wd.exn _ _ h1 with m | ⟨m, b⟩
  · exact .inl m
  · exact .inr ⟨m, b, g3⟩
/-- a while's invariant -/
theorem s_whl (C : CtxS P G T c X call callI W k) {t : Te} {b : Sms} {x : Expr} {p : List Stmt} {pos : Pos} (ht : ST P T X call callI W t x) (hb : SSs P T X call callI W b p) : SS P T X call callI W (.whl t b) (.While x p [] pos) := by
  refine psI (ps_while C.own ht hb) fun D σ H ⟨φ, h, fr, R, F, o⟩ => ?_
  refine ⟨fun m σ H => ∃ φ h fr, Rel X.K T.toTab X.w φ H h ∧ RFr X.K T.toTab φ H fr σ ∧ okS X.K T.toTab X.w φ H D W (whlG (evt P call callI t) (exs P call callI b) m fr h), ⟨P.lim, φ, h, fr, R, F, o⟩, fun m σ H hw => ?_⟩
  clear R F o φ h fr
  obtain ⟨φ, h, fr, R, F, o⟩ := hw
  cases m with
  | zero => exact False.elim o
  | succ m =>
    simp only [whlG] at o
    refine ⟨φ, h, fr, R, F, ?_⟩
    cases he : evt P call callI t fr h with
    | bad => rw [he] at o; exact False.elim o
    | exc e h1 =>
      rw [he] at o
      exact fun ψ G ex R' => o ψ G σ ex R' (F.mono ex)
    | ok v h1 =>
      rw [he] at o
      intro ψ G v' ex R' hv
      obtain rfl : v' = v := hv
      cases v' with
      | false =>
        rw [if_neg Bool.false_ne_true]
        exact o ψ G σ ex R' (F.mono ex)
      | true =>
        rw [if_pos rfl]
        refine ⟨fun σ' H' => ∃ φ h fr, Rel X.K T.toTab X.w φ H' h ∧ RFr X.K T.toTab φ H' fr σ' ∧ okS X.K T.toTab X.w φ H' D W (whlG (evt P call callI t) (exs P call callI b) m fr h), fun σ' H' q => ⟨m, Nat.lt_succ_self m, q⟩, ψ, h1, fr, R', F.mono ex, ?_⟩
        simp only [] at o
        cases hr : exs P call callI b fr h1 with
        | bad => rw [hr] at o; exact False.elim o
        | exc e fr2 h2 => rw [hr] at o; exact fun χ M τ e2 => o χ M τ (ex.trans e2)
        | ok f fr2 h2 =>
          rw [hr] at o
          cases f with
          | nx => exact fun χ M τ e2 R2 F2 => ⟨χ, h2, fr2, R2, F2, okS.ext o (ex.trans e2)⟩
          | ct => exact fun χ M τ e2 R2 F2 => ⟨χ, h2, fr2, R2, F2, okS.ext o (ex.trans e2)⟩
          | bk => exact fun χ M τ e2 R2 F2 => o χ M τ (ex.trans e2) R2 F2
          | rt v => exact fun χ M τ e2 R2 F2 => o χ M τ (ex.trans e2) R2 F2
theorem s_for (C : CtxS P G T c X call callI W k) {tg : Tgt} {it : Itx} {b : Sms} {t x : Expr} {p : List Stmt} {pos : Pos} (hs : notSet x = true) (ht : mTg c tg t = true) (hi : SI P T X call callI W it t x) (hb : SSs P T X call callI W b p) : SS P T X call callI W (.for tg it b) (.For t x p [] pos) := by
  refine psI (ps_for C.own C.calm hi (s_tg C.toCtx ht) hb (folded_of hs _)) fun D σ H hh => ?_
  obtain ⟨φ, h, fr, R, F, o⟩ := hh
  refine ⟨φ, h, fr, R, F, (okS.lift (R1 := ItOk X.K T.toTab X.w) o F).mono fun J H1 hq => ?_⟩
  obtain ⟨tt, ψ, h1, x1, R1, F1, iok, o1⟩ := hq
  refine ⟨fun i m σ L => ∃ χ h2 fr2, Ext ψ H1 χ L ∧ Rel X.K T.toTab X.w χ L h2 ∧ RFr X.K T.toTab χ L fr2 σ ∧ okS X.K T.toTab X.w χ L D W (forG tt tg (exs P call callI b) m i fr2 h2),
    ⟨tt.cnt h1, ψ, h1, fr, .refl, R1, F1, o1⟩, fun i m σ L hw => ?_⟩
  obtain ⟨χ, h2, fr2, e3, R3, F3, o3⟩ := hw
  cases m with
  | zero =>
    simp only [forG] at o3
    split at o3
    · rename_i hf
      exact .inl ⟨(iok χ L h2 i e3 R3).2 hf, okS.nx o3 R3 F3⟩
    · exact False.elim o3
  | succ r =>
    simp only [forG] at o3
    split at o3
    · exact False.elim o3
    · rename_i v hv
      obtain ⟨g1, g2⟩ := (iok χ L h2 i e3 R3).1 v hv
      refine .inr ⟨g1, fun σ' L' => ∃ χ h2 fr2, Ext ψ H1 χ L' ∧ Rel X.K T.toTab X.w χ L' h2 ∧ RFr X.K T.toTab χ L' fr2 σ' ∧ okS X.K T.toTab X.w χ L' D W (forG tt tg (exs P call callI b) r (i + 1) fr2 h2),
        fun σ' L' hL => ⟨r, Nat.lt_succ_self r, hL⟩, fun y L' hy => ?_⟩
      obtain ⟨e4, R4, rv⟩ := g2 y L' hy
      split at o3
      · exact False.elim o3
      · rename_i fr3 hp
        have o4 := okS.ext o3 e4
        refine ⟨χ, h2, fr2, v, fr3, R4, F3.mono e4, rv, hp, fun σ5 F5 hl hag => ⟨χ, h2, fr3, R4, F5, ?_⟩⟩
        cases hr : exs P call callI b fr3 h2 with
        | bad => rw [hr] at o4; exact False.elim o4
        | exc e fr6 h6 => rw [hr] at o4; exact o4
        | ok f fr6 h6 =>
          rw [hr] at o4
          cases f with
          | nx => exact fun ω M τ e2 R2 F2 => ⟨ω, h6, fr6, (e3.trans e4).trans e2, R2, F2, okS.ext o4 e2⟩
          | ct => exact fun ω M τ e2 R2 F2 => ⟨ω, h6, fr6, (e3.trans e4).trans e2, R2, F2, okS.ext o4 e2⟩
          | bk => exact o4
          | rt v => exact o4
theorem s_raise (C : CtxS P G T c X call callI W k) {d : Nat} {x m : Str} {j : Nat} {p1 p2 p3 pos : Pos} (h1 : G.xnm[d]? = some x) (h2 : d < G.nx) (h3 : c.gl x = true) : SS P T X call callI W (.raise d) (.Raise (some (.Call (.Name x p1) [.Constant (.str m) j p2] [] p3)) none pos) := by
  obtain ⟨A, B, newId, initId, bmB, eA, mA, kA, FB, qA, s1, s2⟩ := C.wd.rse _ _ h2 h1
  obtain ⟨g1, g2, g3⟩ := C.toCtx.gl h3
  refine psI (ps_raise C.calm C.tk (pmk_own FB qA mA kA (raises_own s1 s2) g1 g2)) fun D σ H ⟨φ, h, fr, R, F, o⟩ => ?_
  have := o φ H σ .refl R F
  rw [eA] at this
  exact this
/-- the clauses -/
def tH (P : Pg) (T : Tab2) (K : PySem.W.Frag) (w : World) (b : XSms) (en : Option (Nat × Str)) : Addr → Value → Option Addr → TS := fun a cls d D σ H => ∃ e, cls = T.exn e ∧ d = none ∧ tXS K T.toTab w (enOk en a) (exXs P e b) D σ H
theorem hsu_ok (C : CtxS P G T c X call callI W k) {b : XSms} {en : Option (Nat × Str)} {sts : List Stmt} (h : mXSs G c en b sts = true) (a : Addr) (oe : Obj) (cls : Value) (d : Option Addr) (pn : List (Addr × Obj)) (z : Zc cls d oe) (hf : ∃ vs, oe.data = .fields vs) :
    PSs (X.suite a ((a, oe) :: pn)) sts (tH P T X.K X.w b en a cls d) := by
  refine ⟨fun pins s σ H D I ⟨e, e1, e2, q⟩ => ?_⟩
  subst e1 e2
  exact (xSs (C.suite z hf) b sts h).run pins s σ H D I q
def hdsL (P : Pg) (T : Tab2) (K : PySem.W.Frag) (w : World) : Hds → List (Value × (Addr → Value → Option Addr → TS))
  | .nil => []
  | .cons d b r => (T.exn d, tH P T K w b none) :: hdsL P T K w r
  | .one _ _ _ => []
theorem hds_ok (C : CtxS P G T c X call callI W k) : ∀ (hs : Hds) (l : List ExceptHandler), noOne hs = true → mHds G c hs l = true → HdsOk X l (hdsL P T X.K X.w hs)
  | .nil, l, _, h => by
    simp only [mHds] at h
    split at h <;> try cases h
    exact .nil
  | .cons d b r, l, n, h => by
    simp only [mHds] at h
    split at h <;> try cases h
    simp only [Bool.and_eq_true, decide_eq_true_eq] at h
    obtain ⟨⟨⟨h1, h2⟩, h3⟩, h4⟩ := h
    exact .cons (C.names h1 h2) (fun a oe cls d pn z hf => hsu_ok C h3 a oe cls d pn z hf) (hds_ok C r _ n h4.2)
  | .one _ _ _, l, n, h => by cases n
theorem okX_of {K : PySem.W.Frag} {T : Tab} {w : World} {φ : List Addr} {H : L2.Hp} {Z : L2.St → Prop} {D : Ends} {r : SR} (o : okS K T w φ H D W r) (hb : ∀ e, r ≠ .bad ∧ (∀ fr h, r ≠ .exc e fr h) ∧ (∀ fr h, r ≠ .ok .bk fr h) ∧ (∀ fr h, r ≠ .ok .ct fr h)) : okX K T w φ H Z D r := by
  obtain ⟨n1, n2, n3, n4⟩ := hb 0
  cases r with
  | ok f fr h =>
    cases f with
    | nx => exact fun ψ G σ a b c _ => o ψ G σ a b c
    | rt v => exact o
    | bk => exact absurd rfl (n3 fr h)
    | ct => exact absurd rfl (n4 fr h)
  | exc e fr h => exact absurd rfl ((hb e).2.1 fr h)
  | bad => exact absurd rfl n1
mutual
theorem exX_fl (e : Nat) : ∀ (s : XSm) (fr : PyI.Fr) (h : Mem), (∀ c fr' h', exX P e s fr h ≠ .exc c fr' h') ∧ (∀ fr' h', exX P e s fr h ≠ .ok .bk fr' h') ∧ (∀ fr' h', exX P e s fr h ≠ .ok .ct fr' h')
  | .ret b, fr, h => by
    by_cases hb : b = .lst .nil
    · subst hb
      have : exX P e (.ret (.lst .nil)) fr h = .ok (.rt (.ref h.length)) fr (h ++ [.lst []]) := rfl
      rw [this]; simp
    · rw [exX_ret hb]
      split <;> simp
  | .ite t a b, fr, h => by
    simp only [exX]
    split
    · split
      · exact exXs_fl e a fr h
      · exact exXs_fl e b fr h
    · simp
  | .asg i b, fr, h => by
    simp only [exX]
    split <;> simp
  | .pass, fr, h => by simp [exX]
theorem exXs_fl (e : Nat) : ∀ (s : XSms) (fr : PyI.Fr) (h : Mem), (∀ c fr' h', exXs P e s fr h ≠ .exc c fr' h') ∧ (∀ fr' h', exXs P e s fr h ≠ .ok .bk fr' h') ∧ (∀ fr' h', exXs P e s fr h ≠ .ok .ct fr' h')
  | .nil, fr, h => by simp [exXs]
  | .cons s ss, fr, h => by
    simp only [exXs]
    have h1 := exX_fl e s fr h
    cases hr : exX P e s fr h with
    | ok f fr1 h2 =>
      cases f with
      | nx => exact exXs_fl e ss fr1 h2
      | rt v => simp [SR.andThen]
      | bk => exact absurd hr (h1.2.1 _ _)
      | ct => exact absurd hr (h1.2.2 _ _)
    | exc c fr1 h2 => exact absurd hr (h1.1 _ _ _)
    | bad => simp [SR.andThen]
end
theorem okX_ss {K : PySem.W.Frag} {T : Tab} {w : World} {φ : List Addr} {H : L2.Hp} {Z : L2.St → Prop} {D : Ends} {e : Nat} {b : XSms} {fr : PyI.Fr} {h : Mem} (o : okS K T w φ H D W (exXs P e b fr h)) : okX K T w φ H Z D (exXs P e b fr h) := by
  have := exXs_fl (P := P) e b fr h
  refine okX_of o fun e' => ⟨fun z => by rw [z] at o; exact o, this.1 e', this.2.1, this.2.2⟩
/-- the clauses take what they take -/
theorem many_ok (C : CtxS P G T c X call callI W k) {D : Ends} {e : Nat} {fr : PyI.Fr} {h : Mem} {φ : List Addr} {H : L2.Hp} {σ : L2.St} (R : Rel X.K T.toTab X.w φ H h) (F : RFr X.K T.toTab φ H fr σ) : ∀ (hs : Hds), noOne hs = true →
    okS X.K T.toTab X.w φ H D W (hand P e hs fr h) → wMany X.K W D (hdsL P T X.K X.w hs) (T.exn e) none σ H
  | .nil, _, o => o φ H σ .refl R F
  | .cons d b r, n, o => by
    simp only [hand] at o
    split at o
    · rename_i he
      exact ⟨true, (C.wd.exm _ _ _ he).1, fun _ a ha => ⟨e, rfl, rfl, ⟨(fun i n z => nomatch z), ⟨φ, h, fr, R, F, okX_ss o⟩⟩⟩, (fun z => nomatch z)⟩
    · rename_i he
      exact ⟨false, (C.wd.exm _ _ _ he).1, (fun z => nomatch z), fun _ => many_ok C R F r n o⟩
    · exact False.elim o
  | .one _ _ _, n, _ => by cases n
theorem RFr.hide {K : PySem.W.Frag} {T : Tab} {φ : List Addr} {H : L2.Hp} {fr : PyI.Fr} {σ : L2.St} (F : RFr K T φ H fr σ) (i : Nat) (o : Option V) : RFr K T φ H (fr.set i none) (σ.set i o) := by
  refine ⟨by simp [F.1], fun j u e => ?_⟩
  by_cases hj : i = j
  · subst hj
    by_cases hl : i < fr.length
    · rw [List.getElem?_set_self hl] at e
      cases e
    · rw [List.getElem?_eq_none (by simpa using hl)] at e; cases e
  · rw [List.getElem?_set_ne hj] at e ⊢
    exact F.2 j u e
theorem s_try (C : CtxS P G T c X call callI W k) {b : Sms} {hs : Hds} {body : List Stmt} {h₀ : ExceptHandler} {hds : List ExceptHandler} {pos : Pos}
    (hb : ∀ (X' : Cx) (W' : WX), X'.K = X.K → X'.w = X.w → CtxS P G T c X' call callI W' k → SSs P T X' call callI W' b body) (hh : mHds G c hs (h₀ :: hds) = true) : SS P T X call callI W (.try b hs) (.Try body (h₀ :: hds) [] [] pos) := by
  by_cases hn : noOne hs = true
  · refine psI (ps_try_many (tb := fun W' => tSt X.K T.toTab X.w W' (exs P call callI b)) C.stk C.frm C.tk (fun W' pn xe tk ow => hb (X.tr pn xe) W' rfl rfl (C.tr tk ow)) (hds_ok C hs _ hn hh)) fun D σ H ⟨φ, h, fr, R, F, o⟩ => ?_
    refine ⟨φ, h, fr, R, F, ?_⟩
    simp only [ex] at o
    cases hr : exs P call callI b fr h with
    | bad => rw [hr] at o; exact o
    | ok f fr1 h1 => rw [hr] at o; cases f <;> exact o
    | exc e fr1 h1 =>
      rw [hr] at o
      exact fun ψ G τ ex R' F' => many_ok C R' F' hs hn (okS.ext o ex)
  · cases hs with
    | nil => exact absurd rfl hn
    | one d i bb =>
      simp only [mHds] at hh
      split at hh <;> try cases hh
      rename_i heq
      cases heq
      simp only [Bool.and_eq_true, decide_eq_true_eq] at hh
      obtain ⟨⟨⟨⟨h1, h2⟩, h3⟩, h4⟩, h5⟩ := hh
      refine psI (ps_try_as (tb := fun W' => tSt X.K T.toTab X.w W' (exs P call callI b)) C.stk C.frm (by rw [C.N]; exact C.nd) (by rw [C.N]; exact h3) (by show X.env.scope.names.lookup _ = _; rw [C.sc]; exact h4) (C.names h1 h2) C.tk
        (fun W' pn xe tk ow => hb (X.tr pn xe) W' rfl rfl (C.tr tk ow)) (fun a oe cls d pn z hf => hsu_ok C h5 a oe cls d pn z hf)) fun D σ H ⟨φ, h, fr, R, F, o⟩ => ?_
      refine ⟨φ, h, fr, R, F, ?_⟩
      simp only [ex] at o
      cases hr : exs P call callI b fr h with
      | bad => rw [hr] at o; exact o
      | ok f fr1 h1 => rw [hr] at o; cases f <;> exact o
      | exc e fr1 h1 =>
        rw [hr] at o
        intro ψ M τ ex R' F'
        have o' := okS.ext o ex
        simp only [hand] at o'
        split at o'
        · rename_i he
          split at o'
          · rename_i hi
            have hl : i < τ.length := by rw [← F'.1]; exact hi
            refine ⟨true, (C.wd.exm _ _ _ he).1, fun _ a ha => ⟨e, rfl, rfl, ⟨?_, ⟨ψ, h1, fr1.set i none, R', F'.hide i _, ?_⟩⟩⟩, (fun z => nomatch z)⟩
            · intro j n ej
              cases ej
              exact List.getElem?_set_self hl
            · have fl := exXs_fl (P := P) e bb (fr1.set i none) h1
              generalize hrr : exXs P e bb (fr1.set i none) h1 = rr at o' fl
              cases rr with
              | ok f fr2 h2 =>
                cases f with
                | nx => exact fun χ L τ' e2 R2 F2 _ => o' χ L _ e2 R2 (F2.hide i _)
                | rt v => exact o'
                | bk => exact absurd rfl (fl.2.1 _ _)
                | ct => exact absurd rfl (fl.2.2 _ _)
              | exc c' fr2 h2 => exact absurd rfl (fl.1 _ _ _)
              | bad => exact o'
          · exact False.elim o'
        · rename_i he
          exact ⟨false, (C.wd.exm _ _ _ he).1, (fun z => nomatch z), fun _ => o' ψ M τ .refl R' F'⟩
        · exact False.elim o'
    | cons d bb r =>
      simp only [mHds] at hh
      split at hh <;> try cases hh
      simp only [Bool.and_eq_true] at hh
      exact absurd hh.2.1 hn
theorem s_del (C : CtxS P G T c X call callI W k) {o i : Ex} {l r : Expr} {p pos : Pos} (ho : SE P T X call callI W o l) (hi : SE P T X call callI W i r) : SS P T X call callI W (.del o i) (.Delete [.Subscript l r p] pos) := by
  refine psI (ps_ddel ho hi) fun D σ H hh => ?_
  refine (tS.lift (R1 := RV X.K T.toTab) (k := fun fr x h1 => PyI.lift (ev P call callI i fr h1) fr fun z h2 => SR.of fr (delV x z h2)) hh).mono fun u H1 ⟨x, φ, h1, fr, R, F, q, o1⟩ => ?_
  refine ⟨φ, h1, fr, R, F, (okS.lift (R1 := RV X.K T.toTab) o1 F).mono fun y H2 ⟨z, ψ, h2, e2, R2, F2, q2, o2⟩ => ?_⟩
  unfold delV at o2
  cases x <;> simp only [] at o2 <;> try exact False.elim o2
  rename_i m
  split at o2
  · rename_i kvs he
    obtain ⟨a, ks, rfl, ea, p1, p2⟩ := R2.dik (q.mono e2 _ _) he
    split at o2
    · rename_i kk hk
      split at o2
      · rename_i hs
        obtain ⟨vv, hv⟩ := Option.isSome_iff_exists.mp hs
        obtain ⟨zz, ez, _⟩ := (RKs.val kTi p2).1 vv hv
        have e := ext_set (φ := ψ) (o := .dK (L2.dropK ks (kT kk))) p1 trivial
        exact ⟨a, ks, kT kk, rfl, p1, keyOf_V hk q2, by rw [ez]; rfl, okS.nx (okS.ext o2 e) (R2.set ea p1 trivial ⟨_, rfl, (RKs.dropK kTi p2).mono e⟩) (F2.mono e)⟩
      · exact False.elim o2
    · exact False.elim o2
  · exact False.elim o2
end
mutual
theorem sS {P : Pg} {G : Gam} {T : Tab2} {call callI : Nat → List Val → Mem → Res Val} {k : Nat} : ∀ (s : Sm) {c : SC} {X : Cx} {W : WX} (C : CtxS P G T c X call callI W k) (x : Stmt), mS G c s x = true → SS P T X call callI W s x
  | .asg tg e, c, X, W, C, x, h => by
    simp only [mS] at h
    split at h <;> try cases h
    split at h
    · split at h <;> try cases h
      rename_i elt gs scope p2 _ _ y py i
      simp only [Bool.and_eq_true, Bool.or_eq_true, Bool.not_eq_true', decide_eq_true_eq] at h
      obtain ⟨⟨h1, h2⟩, h3⟩ := h
      by_cases hw : swB c y py p2 scope = true
      · have hk : c.sc.kind = .function := by
          rcases h3 with h3 | h3
          · rw [hw] at h3; cases h3
          · exact h3
        have h2' := h2
        cases e <;> simp only [mE, Bool.false_eq_true] at h2
        rename_i tg2 it cond e2
        split at h2 <;> try cases h2
        rename_i heq
        cases heq
        simp only [Bool.and_eq_true] at h2
        obtain ⟨⟨⟨⟨⟨g1, g2⟩, g3⟩, g4⟩, g5⟩, g6⟩ := h2
        exact s_asgL C.toCtx h1 hk hw g1 g3 g4 (sI it C.toCtx _ _ g2) (fun X' C' => sE e2 C' _ g5) (fun X' C' => sOT cond C' _ g6)
      · exact s_asgC C.toCtx h1 (by simpa using hw) (sE e C.toCtx _ h2)
    · simp only [Bool.and_eq_true] at h
      exact s_asg C.toCtx h.1.1.1 h.1.1.2 h.1.2 (sE e C.toCtx _ h.2)
  | .asgA o f e, c, X, W, C, x, h => by
    simp only [mS] at h
    split at h <;> try cases h
    simp only [Bool.and_eq_true, decide_eq_true_eq] at h
    exact s_asgA C.toCtx h.1.1 (sE o C.toCtx _ h.1.2) (sE e C.toCtx _ h.2)
  | .asgI o i e, c, X, W, C, x, h => by
    simp only [mS] at h
    split at h <;> try cases h
    simp only [Bool.and_eq_true] at h
    exact s_asgI C.toCtx (sE o C.toCtx _ h.1.1) (sE i C.toCtx _ h.1.2) (sE e C.toCtx _ h.2)
  | .augA o f sub e, c, X, W, C, x, h => by
    simp only [mS] at h
    split at h <;> try cases h
    rename_i l n p op y pos
    simp only [Bool.and_eq_true, decide_eq_true_eq] at h
    obtain ⟨⟨⟨h1, h2⟩, h3⟩, h4⟩ := h
    have eo : op = augOp sub := by cases op <;> cases sub <;> first | rfl | (simp [isSub] at h2)
    subst eo
    exact s_augA C.toCtx h1 (sE o C.toCtx _ h3) (sE e C.toCtx _ h4)
  | .exp e, c, X, W, C, x, h => by
    simp only [mS] at h
    split at h <;> try cases h
    simp only [Bool.and_eq_true] at h
    refine psI (ps_expr (sE e C.toCtx _ h.2) (swaps_of h.1 _ _ _)) fun D σ H o => ?_
    exact (tS.lift (R1 := RV X.K T.toTab) (k := fun fr _ h1 => .ok .nx fr h1) o).mono fun u H1 ⟨x, φ, h1, fr, R, F, q, o1⟩ => okS.nx o1 R F
  | .ret e, c, X, W, C, x, h => by
    simp only [mS] at h
    split at h <;> try cases h
    refine psI (ps_ret (sE e C.toCtx _ h)) fun D σ H o => ?_
    exact (tS.lift (R1 := RV X.K T.toTab) (k := fun fr v h1 => .ok (.rt v) fr h1) o).mono fun u H1 ⟨x, φ, h1, fr, R, F, q, o1⟩ => okS.rt o1 R q
  | .retN, c, X, W, C, x, h => by
    simp only [mS] at h
    split at h <;> try cases h
    exact psI ps_retN fun D σ H ⟨φ, h, fr, R, F, o⟩ => okS.rt (v := .non) o R rfl
  | .ite t a b, c, X, W, C, x, h => by
    simp only [mS] at h
    split at h <;> try cases h
    simp only [Bool.and_eq_true] at h
    refine psI (ps_if (sT t C.toCtx _ h.1.1) (sSs a C _ h.1.2) (sSs b C _ h.2)) fun D σ H o => ?_
    refine (tS.lift (R1 := RB) (k := fun fr t h1 => if t then exs P call callI a fr h1 else exs P call callI b fr h1) o).mono fun u H1 ⟨x, φ, h1, fr, R, F, q, o1⟩ => ?_
    obtain rfl : u = x := q
    cases u with
    | true => exact ⟨φ, h1, fr, R, F, o1⟩
    | false => exact ⟨φ, h1, fr, R, F, o1⟩
  | .whl t b, c, X, W, C, x, h => by
    simp only [mS] at h
    split at h <;> try cases h
    simp only [Bool.and_eq_true] at h
    exact s_whl C (sT t C.toCtx _ h.1) (sSs b C _ h.2)
  | .for tg it b, c, X, W, C, x, h => by
    simp only [mS] at h
    split at h <;> try cases h
    simp only [Bool.and_eq_true] at h
    exact s_for C h.1.1.1 h.1.1.2 (sI it C.toCtx _ _ h.1.2) (sSs b C _ h.2)
  | .raise d, c, X, W, C, x, h => by
    simp only [mS] at h
    split at h <;> try cases h
    simp only [Bool.and_eq_true, decide_eq_true_eq] at h
    exact s_raise C h.1.1 h.1.2 h.2
  | .try b hs, c, X, W, C, x, h => by
    simp only [mS] at h
    split at h <;> try cases h
    simp only [Bool.and_eq_true] at h
    exact s_try C (fun X' W' _ _ C' => sSs b C' _ h.1) h.2
  | .pass, c, X, W, C, x, h => by
    simp only [mS] at h
    split at h <;> try cases h
    · exact psI ps_pass fun D σ H ⟨φ, h, fr, R, F, o⟩ => okS.nx o R F
    · exact psI ps_doc fun D σ H ⟨φ, h, fr, R, F, o⟩ => okS.nx o R F
  | .brk, c, X, W, C, x, h => by
    simp only [mS] at h
    split at h <;> try cases h
    exact psI ps_break fun D σ H ⟨φ, h, fr, R, F, o⟩ => o φ H σ .refl R F
  | .cnt, c, X, W, C, x, h => by
    simp only [mS] at h
    split at h <;> try cases h
    exact psI ps_continue fun D σ H ⟨φ, h, fr, R, F, o⟩ => o φ H σ .refl R F
  | .del o i, c, X, W, C, x, h => by
    simp only [mS] at h
    split at h <;> try cases h
    simp only [Bool.and_eq_true] at h
    exact s_del C (sE o C.toCtx _ h.1) (sE i C.toCtx _ h.2)
theorem sSs {P : Pg} {G : Gam} {T : Tab2} {call callI : Nat → List Val → Mem → Res Val} {k : Nat} : ∀ (s : Sms) {c : SC} {X : Cx} {W : WX} (C : CtxS P G T c X call callI W k) (x : List Stmt), mSs G c s x = true → SSs P T X call callI W s x
  | .nil, c, X, W, C, x, h => by
    simp only [mSs] at h
    split at h <;> try cases h
    exact pssI pss_nil fun D σ H ⟨φ, h, fr, R, F, o⟩ => okS.nx o R F
  | .cons s ss, c, X, W, C, x, h => by
    simp only [mSs] at h
    split at h <;> try cases h
    simp only [Bool.and_eq_true] at h
    refine pssI (pss_cons (sS s C _ h.1) (sSs ss C _ h.2)) fun D σ H ⟨φ, h, fr, R, F, o⟩ => ?_
    refine ⟨φ, h, fr, R, F, ?_⟩
    simp only [exs] at o
    cases hr : ex P call callI s fr h with
    | ok f fr1 h1 =>
      rw [hr] at o
      cases f with
      | nx => exact fun ψ M τ e2 R2 F2 => ⟨ψ, h1, fr1, R2, F2, okS.ext (r := exs P call callI ss fr1 h1) o e2⟩
      | rt v => exact o
      | bk => exact o
      | ct => exact o
    | exc c fr1 h1 => rw [hr] at o; exact o
    | bad => rw [hr] at o; exact o
end
end PyI
namespace PyI
open PySem PySem.Spec PyProof.Rows L2
/-! ### the whole program -/
def FnsK (P : Pg) (T : Tab2) (p : Program) (w : World) (K : PySem.W.Frag) (mg : Str → Option Value) (base : Heap) (k : Nat) (call : Nat → List Val → Mem → Res Val) : Prop :=
  ∀ i F, P.fns[i]? = some F → FnOk p w K mg base (CX p w) k (T.fn i) (T.fd i) (T.ps i) (spR K T.toTab w (call i))
structure FnF (P : Pg) (G : Gam) (T : Tab2) (K : PySem.W.Frag) : Prop where
  fn : ∀ (i : Nat) (F : Fn), P.fns[i]? = some F → ∃ (x qual : Str) (st : Stmt) (N : List Str), Fun K x qual st (T.fn i) (T.fd i) ∧ FnScope N (T.ps i) (defScope st) ∧ (T.ps i).length = F.np ∧ N.length = F.ns ∧
    mSs G ⟨N, defScope st, true⟩ F.body (defBody st) = true
theorem RFr.start {K : PySem.W.Frag} {T : Tab} {φ : List Addr} {H : L2.Hp} {F : Fn} {N : List Str} {vs : List Val} {xs : List V} (q : RVs K T φ H vs xs) (hn : N.length = F.ns) : RFr K T φ H (PyI.start F vs) (L2.start N xs) := by
  unfold PyI.start L2.start
  rw [q.length, hn]
  refine ⟨by simp [q.length], fun i v e => ?_⟩
  by_cases hi : i < vs.length
  · rw [List.getElem?_append_left (by simpa using hi)] at e
    rw [List.getElem?_append_left (by simpa [q.length] using hi)]
    rw [List.getElem?_map] at e
    obtain ⟨u, eu, ev⟩ := Option.map_eq_some_iff.mp e
    cases ev
    obtain ⟨x, ex, rx⟩ := q.get eu
    exact ⟨x, by rw [List.getElem?_map, ex]; rfl, rx⟩
  · rw [List.getElem?_append_right (by simpa using hi)] at e
    have := List.mem_of_getElem? e
    simp at this
theorem fin_S {K : PySem.W.Frag} {T : Tab} {w : World} {φ : List Addr} {H : L2.Hp} {Q : VK} {E : XK} {r : SR} (o : okR K T w (RV K T) φ H Q (fun c G => E (T.exn c) none G) (fin r)) : okS K T w φ H { nx := fun _ H' => Q .non H', rt := Q } (fun cls d _ H => E cls d H) r := by
  cases r with
  | ok f fr h =>
    cases f with
    | nx => exact fun ψ G σ e R F => o ψ G .non e R rfl
    | rt v => exact o
    | bk => exact False.elim o
    | ct => exact False.elim o
  | exc c fr h => exact fun ψ G σ e R F => o ψ G e R
  | bad => exact o
theorem fns_ok {P : Pg} {G : Gam} {T : Tab2} {p : Program} {w : World} {K : PySem.W.Frag} {mg : Str → Option Value} {base : Heap} (hw : Wd P G T K mg) (hF : FnF P G T K) : ∀ k, FnsK P T p w K mg base k (run P k) ∧ FnsK P T p w K mg base (k + 1) (run P (k + 1))
  | 0 => by
    refine ⟨fun i F hi => ⟨fun vs H Q E h => ?_, fun A outer s H args us vs Q E _ _ _ _ h => ?_⟩, fun i F hi => ⟨fun vs H Q E h => ?_, fun A outer s H args us vs Q E _ _ _ _ h => ?_⟩⟩
    all_goals
      obtain ⟨φ, h, vs, R, q, o⟩ := h
      exact False.elim o
  | k + 1 => by
    obtain ⟨ih1, ih2⟩ := fns_ok (p := p) (w := w) (base := base) hw hF k
    refine ⟨ih2, fun i F hi => ?_⟩
    obtain ⟨x, qual, st, N, fu, S, hp, hn, hm⟩ := hF.fn i F hi
    have inv : ∀ {vs : List V} {H : L2.Hp} {Q : VK} {E : XK}, spR K T.toTab w (run P (k + 2) i) vs H Q E → ∃ φ h us, Rel K T.toTab w φ H h ∧ RVs K T.toTab φ H us vs ∧ us.length = F.np ∧
        okR K T.toTab w (RV K T.toTab) φ H Q (fun c G => E (T.exn c) none G) (fin (exs P (run P (k + 1)) (run P k) F.body (PyI.start F us) h)) := fun {vs H Q E} q => by
      obtain ⟨φ, h, us, R, r, o⟩ := q
      unfold run at o
      rw [hi] at o
      simp only [] at o
      split at o
      · rename_i hl
        exact ⟨φ, h, us, R, r, hl, o⟩
      · exact False.elim o
    refine fu.okX S (fun vs H Q E q => ?_) fun cdv A outer s H vs Q E hr q => ?_
    · obtain ⟨φ, h, us, R, r, hl, o⟩ := inv q
      rw [r.length, hl, hp]
    · obtain ⟨φ, h, us, R, r, hl, o⟩ := inv q
      have C : CtxS P G T ⟨N, defScope st, true⟩ (cxOf (L2.CX p w) p w K mg base N qual (defScope st) (T.fn i) cdv A outer s H E) (run P (k + 1)) (run P k) (fun cls d _ H => E cls d H) (k + 1) :=
        { N := rfl, nd := S.nd, sc := rfl, calm := rfl, room := hr, wd := hw, call := ih2, callI := ⟨k, Nat.le_refl _, ih1⟩, tk := takes_of rfl rfl rfl rfl, fnt := fun _ => rfl, own := passes_of rfl, stk := rfl, frm := rfl }
      exact ⟨_, sSs F.body C _ hm, φ, h, PyI.start F us, R, RFr.start r hn, fin_S o⟩
end PyI
namespace PyI
open PySem PySem.Spec PyProof.Rows L2
/-! ### a law's end -/
def ixAll {α : Type} (R : Nat → α → Prop) : Nat → List α → Prop
  | _, [] => True
  | n, x :: xs => R n x ∧ ixAll R (n + 1) xs
theorem ixAll.at {α : Type} {R : Nat → α → Prop} : ∀ {xs : List α} {n i : Nat} {x : α}, ixAll R n xs → xs[i]? = some x → R (n + i) x
  | [], _, _, _, _, e => by simp at e
  | y :: ys, n, 0, x, h, e => by
    simp only [List.getElem?_cons_zero, Option.some.injEq] at e
    subst e; exact h.1
  | y :: ys, n, i + 1, x, h, e => by
    simp only [List.getElem?_cons_succ] at e
    have := ixAll.at h.2 e
    rwa [show n + 1 + i = n + (i + 1) by omega] at this
theorem ixAll.get {α : Type} {R : Nat → α → Prop} {xs : List α} (h : ixAll R 0 xs) : ∀ (i : Nat) (x : α), xs[i]? = some x → R i x := fun i x e => by
  have := ixAll.at h e
  rwa [Nat.zero_add] at this
def memAll {α : Type} (R : α → Prop) : List α → Prop
  | [] => True
  | x :: xs => R x ∧ memAll R xs
theorem memAll.get {α : Type} {R : α → Prop} : ∀ {xs : List α}, memAll R xs → ∀ x ∈ xs, R x
  | [], _, x, h => nomatch h
  | y :: ys, h, x, hx => by
    rcases List.mem_cons.mp hx with rfl | hx
    · exact h.1
    · exact memAll.get h.2 x hx
theorem memAll.look {α β : Type} [BEq α] [LawfulBEq α] {R : α × β → Prop} : ∀ {xs : List (α × β)}, memAll R xs → ∀ m g, xs.lookup m = some g → R (m, g)
  | [], _, m, g, h => by simp at h
  | (a, b) :: ys, h, m, g, hx => by
    rw [List.lookup_cons] at hx
    by_cases e : m = a
    · subst e
      simp only [beq_self_eq_true] at hx
      cases hx
      exact h.1
    · have : (m == a) = false := by simpa using e
      rw [this] at hx
      exact memAll.look h.2 m g hx
theorem exc_tab {R : Nat → Nat → Bool → Prop} {tab : List (List Bool)} (h : ixAll (fun e row => ixAll (fun d b => R e d b) 0 row) 0 tab) : ∀ e d b, (tab[e]?).bind (·[d]?) = some b → R e d b := fun e d b hb => by
  obtain ⟨row, h1, h2⟩ := Option.bind_eq_some_iff.mp hb
  exact ixAll.get (ixAll.get h e row h1) d b h2
def RseF (K : PySem.W.Frag) (mg : Str → Option Value) (T : Tab2) (d : Nat) (x : Str) : Prop := ∃ A B newId initId bmB, T.exn d = .ref A ∧ mg x = some (.ref A) ∧ PySem.W.keepIn K (.ref A) = true ∧ ExcBaseFacts B newId initId bmB ∧ PySem.W.excIn K A bmB newId = true ∧
  PySem.W.subIn K (.ref A) (.type "BaseException") = some true ∧ PySem.W.typeIn K (.ref A) = some (.type "type")
theorem exv_own (a : Addr) : ∃ u, RelV u (Value.ref a) ∧ ∀ z, RelV u z → z = Value.ref a := ⟨.ref a, rfl, fun z h => h⟩
theorem exv_ty (s : String) : ∃ u, RelV u (Value.type s) ∧ ∀ z, RelV u z → z = Value.type s := ⟨.ty s, rfl, fun z h => h⟩
/-- names -/
def nmF (l : List Str) (i : Nat) : Str := (l[i]?).getD ⟨Array.replicate (1000 + i) 0⟩
def nmsOk (l : List Str) : Bool := decide l.Nodup && l.all fun x => decide (x.length < 1000)
theorem nmF_inj {l : List Str} (h : nmsOk l = true) (i j : Nat) (e : nmF l i = nmF l j) : i = j := by
  unfold nmsOk at h
  simp only [Bool.and_eq_true, decide_eq_true_eq, List.all_eq_true] at h
  obtain ⟨h1, h2⟩ := h
  have big : ∀ k, (⟨Array.replicate (1000 + k) 0⟩ : Str).length = 1000 + k := fun k => by simp [Str.length]
  unfold nmF at e
  cases hi : l[i]? with
  | none =>
    cases hj : l[j]? with
    | none =>
      rw [hi, hj] at e
      have := congrArg Str.length e
      simp only [Option.getD_none, big] at this
      omega
    | some y =>
      rw [hi, hj] at e
      have := congrArg Str.length e
      have b := h2 y (List.mem_of_getElem? hj)
      simp only [Option.getD_none, Option.getD_some, big] at this
      omega
  | some x =>
    cases hj : l[j]? with
    | none =>
      rw [hi, hj] at e
      have := congrArg Str.length e
      have b := h2 x (List.mem_of_getElem? hi)
      simp only [Option.getD_none, Option.getD_some, big] at this
      omega
    | some y =>
      rw [hi, hj] at e
      simp only [Option.getD_some] at e
      subst e
      obtain ⟨l1, g1⟩ := List.getElem?_eq_some_iff.mp hi
      obtain ⟨l2, g2⟩ := List.getElem?_eq_some_iff.mp hj
      exact (List.getElem_inj h1).mp (g1.trans g2.symm)
def mkT (cls : List Addr) (exn : List Value) (fn : List Addr) (nms : List Str) (d : FuncData) (fd : List FuncData) (ps : List (List Str)) (h : nmsOk nms = true) : Tab2 where
  cls := fun i => (cls[i]?).getD 0
  exn := fun i => (exn[i]?).getD .none
  fn := fun i => (fn[i]?).getD 0
  nm := nmF nms
  fd := fun i => (fd[i]?).getD d
  ps := fun i => (ps[i]?).getD []
  inj := nmF_inj h
/-- a constant of the text's top as the model has it -/
def conV : Val → Value → Bool
  | .non, .none => true
  | .bl b, .bool c => b == c
  | .int i, .int j _ => decide (i = j)
  | .str s, .str x _ => decide (toStr s = x)
  | _, _ => false
theorem conV_of {v : Val} {u : Value} (h : conV v u = true) : ∃ y, RelV y u ∧ ∀ (K : PySem.W.Frag) (T : Tab) φ H, RV K T φ H v y := by
  cases v <;> cases u <;> simp only [conV, Bool.false_eq_true, decide_eq_true_eq, beq_iff_eq] at h
  · exact ⟨.non, rfl, fun _ _ _ _ => rfl⟩
  · subst h; exact ⟨.bl _, rfl, fun _ _ _ _ => rfl⟩
  · subst h; exact ⟨.int _, ⟨_, rfl⟩, fun _ _ _ _ => rfl⟩
  · subst h; exact ⟨.str _, ⟨_, rfl⟩, fun _ _ _ _ => rfl⟩
def conVs : List Val → List Value → Bool
  | [], [] => true
  | v :: vs, u :: us => conV v u && conVs vs us
  | _, _ => false
theorem conVs_of : ∀ {vs : List Val} {us : List Value}, conVs vs us = true → ∃ ys, Vals ys us ∧ ∀ (K : PySem.W.Frag) (T : Tab) φ H, RVs K T φ H vs ys
  | [], [], _ => ⟨[], .nil, fun _ _ _ _ => rfl⟩
  | [], _ :: _, h => by simp [conVs] at h
  | _ :: _, [], h => by simp [conVs] at h
  | v :: vs, u :: us, h => by
    simp only [conVs, Bool.and_eq_true] at h
    obtain ⟨y, r, q⟩ := conV_of h.1
    obtain ⟨ys, rs, qs⟩ := conVs_of h.2
    exact ⟨y :: ys, .cons r rs, fun K T φ H => ⟨y, ys, rfl, q K T φ H, qs K T φ H⟩⟩
def conIs (u : Value) (v : Val) : Bool := conV v u
def tupIs (its : Array Value) (vs : List Val) : Bool := decide (its.size ≤ sizeLine) && conVs vs its.toList
theorem kon_of {K : PySem.W.Frag} {T : Tab} {mg : Str → Option Value} {x : Str} {u : Value} {v : Val} (h : mg x = some u) (c : conIs u v = true) {P : Pg} {g : Nat} (e : P.kon[g]? = some v) : ∃ v u y, P.kon[g]? = some v ∧ mg x = some u ∧ RelV y u ∧ ∀ φ H, RV K T φ H v y := by
  obtain ⟨y, r, q⟩ := conV_of c
  exact ⟨v, u, y, e, h, r, fun φ H => q K T φ H⟩
theorem kon_tup {K : PySem.W.Frag} {T : Tab} {mg : Str → Option Value} {x : Str} {a : Addr} {vs : List Val} {od : Option Addr} {its : Array Value} {n : Nat} {sl : Array (Option Value)} (h : mg x = some (.ref a)) (l : K.lookup a = some ⟨.type "tuple", od, .seq its n, sl⟩) (c : tupIs its vs = true) {P : Pg} {g : Nat} (e : P.kon[g]? = some (.ktup vs)) :
    ∃ v u y, P.kon[g]? = some v ∧ mg x = some u ∧ RelV y u ∧ ∀ φ H, RV K T φ H v y := by
  unfold tupIs at c
  simp only [Bool.and_eq_true, decide_eq_true_eq] at c
  obtain ⟨ys, r, q⟩ := conVs_of c.2
  exact ⟨.ktup vs, .ref a, .ref a, e, h, rfl, fun φ H => ⟨a, ys, rfl, ⟨_, its, n, l, rfl, rfl, c.1, r⟩, q K T φ H⟩⟩
theorem nmF_of {l : List Str} {i : Nat} {x : Str} (h : l[i]? = some x) : nmF l i = x := by unfold nmF; rw [h]; rfl
/-- the law's promise -/
def spLaw (n : Nat) (K : PySem.W.Frag) : Sp := fun vs H Q _ => ∃ (a : Addr) (ns : List Int), vs = [.ref a] ∧ KLst K H a (ns.map V.int) ∧ ns.length ≤ n ∧ ∀ H', Q (.bl true) H'
theorem RVs_ints {K : PySem.W.Frag} {T : Tab} {φ : List Addr} {H : L2.Hp} (ns : List Int) : RVs K T φ H (ns.map .int) (ns.map V.int) := RVs.of_ints ns
theorem law_ok {P : Pg} {G : Gam} {T : Tab2} {p : Program} {w : World} {K : PySem.W.Frag} {mg : Str → Option Value} {base : Heap} {k n i : Nat} {F : Fn} (hi : P.fns[i]? = some F) (hw : Wd P G T K mg) (hF : FnF P G T K)
    (plain : ∀ ns : List Int, ns.length ≤ n → ∃ h, run P k i [.klst (ns.map .int)] [] = .ok (.bl true) h) : FnOk p w K mg base (CX p w) k (T.fn i) (T.fd i) (T.ps i) (spLaw n K) := by
  refine ((fns_ok (p := p) (w := w) (base := base) hw hF k).1 i F hi).imp fun vs H Q E ⟨a, ns, e1, e2, e3, e4⟩ => ?_
  subst e1
  obtain ⟨h, hr⟩ := plain ns e3
  refine ⟨[], [], [.klst (ns.map .int)], ⟨rfl, List.nodup_nil, fun n a o z => by simp at z⟩, ⟨_, _, rfl, ⟨a, _, rfl, e2, RVs_ints ns⟩, rfl⟩, ?_⟩
  rw [hr]
  intro ψ M x ex R q
  rw [show x = _ from q]
  exact e4 M
theorem walk_py {l : PySem.W.OpenLaw} {n k i : Nat} {F0 : Fn} {q : Program} {loose : List Str} {XP : (Str → Option Value) → Heap → Prop} {YP : World → Heap → Prop} {d : DefRec} {K : Params → PySem.W.Frag} {P : Pg} {x : Str}
    (hn : l.most = some n) (hn2 : n ≤ sizeLine) (hdf : d.params.defaults = []) (hr : Room k callerA) (hY : ∀ (w : World) (h : Heap), YP w h → (K w.params).In h) (hi : P.fns[i]? = some F0)
    (plain : ∀ ns : List Int, ns.length ≤ n → ∃ h, run P k i [.klst (ns.map .int)] [] = .ok (.bl true) h)
    (F : ∀ (w : World) (mg : Str → Option Value) (fa : Addr) (h : Heap), (K w.params).In h → h.Ns mainGlobals mg → mg d.name = some (.ref fa) →
      ∃ (G : Gam) (T : Tab2), Wd P G T (K w.params) mg ∧ FnF P G T (K w.params) ∧ T.fn i = fa ∧ T.ps i = [x] ∧ ∀ (s : Shared) (u : Value), BindsTo s (T.fd i) ⟨[u], []⟩ [(x, u)]) :
    PySem.W.WalkO q loose XP YP l.row.toRowW d [] (fun f vs => PySem.call f vs) := by
  refine walk_of (l := l) (n := n) (k := k) (x := x) (CX := fun w => CX l.prog w) (sp := fun w => spLaw n (K w.params)) hn hn2 hdf hr hY (fun w mg fa h KX G hmg => ?_) (fun w H a ns hl hO hS => ?_) (fun w H s e s' h => ?_)
  · obtain ⟨G', T, hw, hF, e1, e2, hb⟩ := F w mg fa h KX G hmg
    refine ⟨T.fd i, hb, fun base _ _ => ?_⟩
    rw [← e1, ← e2]
    exact law_ok hi hw hF plain
  · refine ⟨a, ns, rfl, ?_, hl, fun _ => rfl⟩
    rcases hS with (h | ⟨o, h⟩) | h
    · rcases hO a with z | ⟨o, xs, z⟩
      · rw [z] at h; cases h
      · rw [z] at h; cases h
    · exact .inl ⟨o, h⟩
    · exact .inr h
  · obtain ⟨_, _, _, _, _, _, _, _, _, _, _, _, z⟩ := h
    exact z
end PyI
namespace PyI
def strB (ap : Nat) : PyI.Sms := (.cons (.asg (.v 2) (.lst .nil)) (.cons (.for (.v 3) (.val (.var 0)) (.cons (.ite (.e (.cmp .ge (.blt .len (.cons (.var 2) .nil)) (.var 1))) (.cons (.brk) .nil) .nil) (.cons (.ite (.e (.cmp .ge (.var 3) (.bin .pow (.lit (.int 10)) (.lit (.int 18))))) (.cons (.asg (.v 4) (.var 3)) (.cons (.for (.v 5) (.rng1 (.lit (.int 60))) (.cons (.ite (.e (.cmp .gt (.var 4) (.lit (.int 0)))) (.cons (.exp (.met (.var 2) ap .append (.cons (.bin .mod (.blt .int (.cons (.var 4) .nil)) (.lit (.int 5040))) .nil))) (.cons (.asg (.v 4) (.bin .div (.var 4) (.lit (.int 5040)))) .nil)) .nil) .nil)) .nil)) (.cons (.asg (.v 6) (.bin .mod (.blt .int (.cons (.bin .add (.bin .add (.bin .mul (.var 3) (.lit (.int 48271))) (.bin .mul (.blt .len (.cons (.var 2) .nil)) (.lit (.int 69621)))) (.lit (.int 11))) .nil)) (.lit (.int 2147483647)))) (.cons (.for (.v 5) (.rng1 (.lit (.int 4))) (.cons (.asg (.v 6) (.bin .mod (.blt .int (.cons (.bin .add (.bin .add (.bin .mul (.var 6) (.lit (.int 69621))) (.bin .mul (.lit (.int 7)) (.var 5))) (.lit (.int 3))) .nil)) (.lit (.int 2147483629)))) (.cons (.exp (.met (.var 2) ap .append (.cons (.bin .mod (.blt .int (.cons (.bin .div (.var 6) (.lit (.int 7))) .nil)) (.lit (.int 5040))) .nil))) .nil))) .nil))) .nil))) (.cons (.ret (.var 2)) .nil)))
/-- a draw -/
def isDr (d : Int) : Prop := 0 ≤ d ∧ d < 5040
variable {P : Pg} {call callI : Nat → List Val → Mem → Res Val}
theorem getL {h : Mem} {o : Ob} : (h ++ [o])[h.length]? = some o := by simp
theorem setL {h : Mem} {o p : Ob} : (h ++ [o]).set h.length p = h ++ [p] := by simp
theorem drMod (z : Int) : isDr (z % 5040) := ⟨Int.emod_nonneg _ (by decide), Int.emod_lt_of_pos _ (by decide)⟩
theorem strB_ok {ap : Nat} {ns : List Int} {m : Int} {h : Mem} (hl : ns.length ≤ 1000) :
    (exs P call callI (strB ap) [some (.klst (ns.map .int)), some (.int m), none, none, none, none, none] h).sat fun f _ h' => ∃ ds : List Int, (∀ d ∈ ds, isDr d) ∧ f = .rt (.ref h.length) ∧ h' = h ++ [.lst (ds.map .int)] := by
  unfold strB
  refine st_cons (st_asg ?_)
  simp only [PyI.ev, PyI.evs, PyI.evo, PyI.evt, PyI.evc, PyI.evi, PyI.Res.bind_ok, PyI.sat_ok_iff, PyI.ssat_ok_iff, PyI.Lit.val, PyI.bltV, PyI.binV, PyI.cmpV, PyI.eqV, PyI.Tgt.put, PyI.lenV, PyI.pure, PyI.new, PyI.noFld, PyI.hasM, PyI.metV, PyI.bmV, PyI.kindV, PyI.isiV, PyI.tru, PyI.small_of, PyI.big_of, PyI.andQ, PyI.loopQ, PyI.b2i, List.getElem?_cons_zero, List.getElem?_cons_succ, List.set_cons_zero, List.set_cons_succ, Option.map_some, Option.bind_some, Option.some.injEq, exists_eq_left', exists_eq_left, Bool.false_eq_true, Bool.and_true, Bool.true_and, if_true, if_false, reduceIte, List.length_cons, List.length_nil, List.length_map, Int.reduceLT, Int.reduceLE, Int.reduceNeg, Int.reducePow, Nat.reduceAdd, Nat.reduceLT, decide_true, decide_false, and_true, true_and, and_self, Bool.not_true, Bool.not_false, Bool.or_true, Bool.true_or, Bool.or_false, Bool.false_or, Int.cast_ofNat_Int, true_implies, true_or, or_true, or_false, false_or, reduceCtorEq, implies_true, false_implies, Nat.zero_le]
  refine st_cons (st_for ?_)
  simp only [PyI.ev, PyI.evs, PyI.evo, PyI.evt, PyI.evc, PyI.evi, PyI.Res.bind_ok, PyI.sat_ok_iff, PyI.ssat_ok_iff, PyI.Lit.val, PyI.bltV, PyI.binV, PyI.cmpV, PyI.eqV, PyI.Tgt.put, PyI.lenV, PyI.pure, PyI.new, PyI.noFld, PyI.hasM, PyI.metV, PyI.bmV, PyI.kindV, PyI.isiV, PyI.tru, PyI.small_of, PyI.big_of, PyI.andQ, PyI.loopQ, PyI.b2i, List.getElem?_cons_zero, List.getElem?_cons_succ, List.set_cons_zero, List.set_cons_succ, Option.map_some, Option.bind_some, Option.some.injEq, exists_eq_left', exists_eq_left, Bool.false_eq_true, Bool.and_true, Bool.true_and, if_true, if_false, reduceIte, List.length_cons, List.length_nil, List.length_map, Int.reduceLT, Int.reduceLE, Int.reduceNeg, Int.reducePow, Nat.reduceAdd, Nat.reduceLT, decide_true, decide_false, and_true, true_and, and_self, Bool.not_true, Bool.not_false, Bool.or_true, Bool.true_or, Bool.or_false, Bool.false_or, Int.cast_ofNat_Int, true_implies, true_or, or_true, or_false, false_or, reduceCtorEq, implies_true, false_implies]
  have fin : ∀ (fr : Fr) (h' : Mem), (∃ ds : List Int, (∀ d ∈ ds, isDr d) ∧ h' = h ++ [.lst (ds.map .int)] ∧ fr[2]? = some (some (.ref h.length))) → (exs P call callI (.cons (.ret (.var 2)) .nil) fr h').sat fun f _ h' => ∃ ds : List Int, (∀ d ∈ ds, isDr d) ∧ f = .rt (.ref h.length) ∧ h' = h ++ [.lst (ds.map .int)] := fun fr h' ⟨ds, h1, h2, h3⟩ => by
    refine st_cons (st_ret ?_)
    simp only [PyI.ev, PyI.evs, PyI.evo, PyI.evt, PyI.evc, PyI.evi, PyI.Res.bind_ok, PyI.sat_ok_iff, PyI.ssat_ok_iff, PyI.Lit.val, PyI.bltV, PyI.binV, PyI.cmpV, PyI.eqV, PyI.Tgt.put, PyI.lenV, PyI.pure, PyI.new, PyI.noFld, PyI.hasM, PyI.metV, PyI.bmV, PyI.kindV, PyI.isiV, PyI.tru, PyI.small_of, PyI.big_of, PyI.andQ, PyI.loopQ, PyI.b2i, List.getElem?_cons_zero, List.getElem?_cons_succ, List.set_cons_zero, List.set_cons_succ, Option.map_some, Option.bind_some, Option.some.injEq, exists_eq_left', exists_eq_left, Bool.false_eq_true, Bool.and_true, Bool.true_and, if_true, if_false, reduceIte, List.length_cons, List.length_nil, List.length_map, Int.reduceLT, Int.reduceLE, Int.reduceNeg, Int.reducePow, Nat.reduceAdd, Nat.reduceLT, decide_true, decide_false, and_true, true_and, and_self, Bool.not_true, Bool.not_false, Bool.or_true, Bool.true_or, Bool.or_false, Bool.false_or, Int.cast_ofNat_Int, true_implies, true_or, or_true, or_false, false_or, reduceCtorEq, implies_true, false_implies, h3]
    exact ⟨ds, h1, h2⟩
  refine for_tup (fun i fr h' => ∃ (ds : List Int) (v3 v4 v5 v6 : Option Val), (∀ d ∈ ds, isDr d) ∧ ds.length ≤ 60 * i ∧ h' = h ++ [.lst (ds.map .int)] ∧ fr = [some (.klst (ns.map .int)), some (.int m), some (.ref h.length), v3, v4, v5, v6]) ⟨[], _, _, _, _, by simp, by simp, rfl, rfl⟩ ?_ ?_
  · rintro i v fr h' hv ⟨ds, v3, v4, v5, v6, h1, h2, rfl, rfl⟩
    obtain ⟨z, hz, rfl⟩ : ∃ z, ns[i]? = some z ∧ v = .int z := by
      rw [List.getElem?_map] at hv
      obtain ⟨z, e1, e2⟩ := Option.map_eq_some_iff.mp hv
      exact ⟨z, e1, e2.symm⟩
    have hi : i < ns.length := (List.getElem?_eq_some_iff.mp hz).1
    simp only [PyI.ev, PyI.evs, PyI.evo, PyI.evt, PyI.evc, PyI.evi, PyI.Res.bind_ok, PyI.sat_ok_iff, PyI.ssat_ok_iff, PyI.Lit.val, PyI.bltV, PyI.binV, PyI.cmpV, PyI.eqV, PyI.Tgt.put, PyI.lenV, PyI.pure, PyI.new, PyI.noFld, PyI.hasM, PyI.metV, PyI.bmV, PyI.kindV, PyI.isiV, PyI.tru, PyI.small_of, PyI.big_of, PyI.andQ, PyI.loopQ, PyI.b2i, List.getElem?_cons_zero, List.getElem?_cons_succ, List.set_cons_zero, List.set_cons_succ, Option.map_some, Option.bind_some, Option.some.injEq, exists_eq_left', exists_eq_left, Bool.false_eq_true, Bool.and_true, Bool.true_and, if_true, if_false, reduceIte, List.length_cons, List.length_nil, List.length_map, Int.reduceLT, Int.reduceLE, Int.reduceNeg, Int.reducePow, Nat.reduceAdd, Nat.reduceLT, decide_true, decide_false, and_true, true_and, and_self, Bool.not_true, Bool.not_false, Bool.or_true, Bool.true_or, Bool.or_false, Bool.false_or, Int.cast_ofNat_Int, true_implies, true_or, or_true, or_false, false_or, reduceCtorEq, implies_true, false_implies]
    refine st_cons (st_ite ?_)
    simp only [PyI.ev, PyI.evs, PyI.evo, PyI.evt, PyI.evc, PyI.evi, PyI.Res.bind_ok, PyI.sat_ok_iff, PyI.ssat_ok_iff, PyI.Lit.val, PyI.bltV, PyI.binV, PyI.cmpV, PyI.eqV, PyI.Tgt.put, PyI.lenV, PyI.pure, PyI.new, PyI.noFld, PyI.hasM, PyI.metV, PyI.bmV, PyI.kindV, PyI.isiV, PyI.tru, PyI.small_of, PyI.big_of, PyI.andQ, PyI.loopQ, PyI.b2i, List.getElem?_cons_zero, List.getElem?_cons_succ, List.set_cons_zero, List.set_cons_succ, Option.map_some, Option.bind_some, Option.some.injEq, exists_eq_left', exists_eq_left, Bool.false_eq_true, Bool.and_true, Bool.true_and, if_true, if_false, reduceIte, List.length_cons, List.length_nil, List.length_map, Int.reduceLT, Int.reduceLE, Int.reduceNeg, Int.reducePow, Nat.reduceAdd, Nat.reduceLT, decide_true, decide_false, and_true, true_and, and_self, Bool.not_true, Bool.not_false, Bool.or_true, Bool.true_or, Bool.or_false, Bool.false_or, Int.cast_ofNat_Int, true_implies, true_or, or_true, or_false, false_or, reduceCtorEq, implies_true, false_implies, getL]
    refine ⟨fun _ => st_cons ?_, fun _ => st_nil ?_⟩
    · simp only [ex, PyI.ev, PyI.evs, PyI.evo, PyI.evt, PyI.evc, PyI.evi, PyI.Res.bind_ok, PyI.sat_ok_iff, PyI.ssat_ok_iff, PyI.Lit.val, PyI.bltV, PyI.binV, PyI.cmpV, PyI.eqV, PyI.Tgt.put, PyI.lenV, PyI.pure, PyI.new, PyI.noFld, PyI.hasM, PyI.metV, PyI.bmV, PyI.kindV, PyI.isiV, PyI.tru, PyI.small_of, PyI.big_of, PyI.andQ, PyI.loopQ, PyI.b2i, List.getElem?_cons_zero, List.getElem?_cons_succ, List.set_cons_zero, List.set_cons_succ, Option.map_some, Option.bind_some, Option.some.injEq, exists_eq_left', exists_eq_left, Bool.false_eq_true, Bool.and_true, Bool.true_and, if_true, if_false, reduceIte, List.length_cons, List.length_nil, List.length_map, Int.reduceLT, Int.reduceLE, Int.reduceNeg, Int.reducePow, Nat.reduceAdd, Nat.reduceLT, decide_true, decide_false, and_true, true_and, and_self, Bool.not_true, Bool.not_false, Bool.or_true, Bool.true_or, Bool.or_false, Bool.false_or, Int.cast_ofNat_Int, true_implies, true_or, or_true, or_false, false_or, reduceCtorEq, implies_true, false_implies]
      exact fin _ _ ⟨ds, h1, rfl, rfl⟩
    refine st_cons (st_ite ?_)
    simp only [PyI.ev, PyI.evs, PyI.evo, PyI.evt, PyI.evc, PyI.evi, PyI.Res.bind_ok, PyI.sat_ok_iff, PyI.ssat_ok_iff, PyI.Lit.val, PyI.bltV, PyI.binV, PyI.cmpV, PyI.eqV, PyI.Tgt.put, PyI.lenV, PyI.pure, PyI.new, PyI.noFld, PyI.hasM, PyI.metV, PyI.bmV, PyI.kindV, PyI.isiV, PyI.tru, PyI.small_of, PyI.big_of, PyI.andQ, PyI.loopQ, PyI.b2i, List.getElem?_cons_zero, List.getElem?_cons_succ, List.set_cons_zero, List.set_cons_succ, Option.map_some, Option.bind_some, Option.some.injEq, exists_eq_left', exists_eq_left, Bool.false_eq_true, Bool.and_true, Bool.true_and, if_true, if_false, reduceIte, List.length_cons, List.length_nil, List.length_map, Int.reduceLT, Int.reduceLE, Int.reduceNeg, Int.reducePow, Nat.reduceAdd, Nat.reduceLT, decide_true, decide_false, and_true, true_and, and_self, Bool.not_true, Bool.not_false, Bool.or_true, Bool.true_or, Bool.or_false, Bool.false_or, Int.cast_ofNat_Int, true_implies, true_or, or_true, or_false, false_or, reduceCtorEq, implies_true, false_implies]
    refine ⟨fun _ => ?_, fun _ => ?_⟩
    · refine st_cons (st_asg ?_)
      simp only [PyI.ev, PyI.evs, PyI.evo, PyI.evt, PyI.evc, PyI.evi, PyI.Res.bind_ok, PyI.sat_ok_iff, PyI.ssat_ok_iff, PyI.Lit.val, PyI.bltV, PyI.binV, PyI.cmpV, PyI.eqV, PyI.Tgt.put, PyI.lenV, PyI.pure, PyI.new, PyI.noFld, PyI.hasM, PyI.metV, PyI.bmV, PyI.kindV, PyI.isiV, PyI.tru, PyI.small_of, PyI.big_of, PyI.andQ, PyI.loopQ, PyI.b2i, List.getElem?_cons_zero, List.getElem?_cons_succ, List.set_cons_zero, List.set_cons_succ, Option.map_some, Option.bind_some, Option.some.injEq, exists_eq_left', exists_eq_left, Bool.false_eq_true, Bool.and_true, Bool.true_and, if_true, if_false, reduceIte, List.length_cons, List.length_nil, List.length_map, Int.reduceLT, Int.reduceLE, Int.reduceNeg, Int.reducePow, Nat.reduceAdd, Nat.reduceLT, decide_true, decide_false, and_true, true_and, and_self, Bool.not_true, Bool.not_false, Bool.or_true, Bool.true_or, Bool.or_false, Bool.false_or, Int.cast_ofNat_Int, true_implies, true_or, or_true, or_false, false_or, reduceCtorEq, implies_true, false_implies]
      refine st_cons (st_for ?_)
      simp only [PyI.ev, PyI.evs, PyI.evo, PyI.evt, PyI.evc, PyI.evi, PyI.Res.bind_ok, PyI.sat_ok_iff, PyI.ssat_ok_iff, PyI.Lit.val, PyI.bltV, PyI.binV, PyI.cmpV, PyI.eqV, PyI.Tgt.put, PyI.lenV, PyI.pure, PyI.new, PyI.noFld, PyI.hasM, PyI.metV, PyI.bmV, PyI.kindV, PyI.isiV, PyI.tru, PyI.small_of, PyI.big_of, PyI.andQ, PyI.loopQ, PyI.b2i, List.getElem?_cons_zero, List.getElem?_cons_succ, List.set_cons_zero, List.set_cons_succ, Option.map_some, Option.bind_some, Option.some.injEq, exists_eq_left', exists_eq_left, Bool.false_eq_true, Bool.and_true, Bool.true_and, if_true, if_false, reduceIte, List.length_cons, List.length_nil, List.length_map, Int.reduceLT, Int.reduceLE, Int.reduceNeg, Int.reducePow, Nat.reduceAdd, Nat.reduceLT, decide_true, decide_false, and_true, true_and, and_self, Bool.not_true, Bool.not_false, Bool.or_true, Bool.true_or, Bool.or_false, Bool.false_or, Int.cast_ofNat_Int, true_implies, true_or, or_true, or_false, false_or, reduceCtorEq, implies_true, false_implies]
      refine for_rng (fun j fr h' => ∃ (ds' : List Int) (w4 : Int) (w5 : Option Val), (∀ d ∈ ds', isDr d) ∧ ds'.length ≤ ds.length + j ∧ h' = h ++ [.lst (ds'.map .int)] ∧ fr = [some (.klst (ns.map .int)), some (.int m), some (.ref h.length), some (.int z), some (.int w4), w5, v6]) ⟨ds, z, v5, h1, Nat.le_refl _, rfl, rfl⟩ ?_ ?_
      · rintro j fr h' hj ⟨ds', w4, w5, g1, g2, rfl, rfl⟩
        simp only [PyI.ev, PyI.evs, PyI.evo, PyI.evt, PyI.evc, PyI.evi, PyI.Res.bind_ok, PyI.sat_ok_iff, PyI.ssat_ok_iff, PyI.Lit.val, PyI.bltV, PyI.binV, PyI.cmpV, PyI.eqV, PyI.Tgt.put, PyI.lenV, PyI.pure, PyI.new, PyI.noFld, PyI.hasM, PyI.metV, PyI.bmV, PyI.kindV, PyI.isiV, PyI.tru, PyI.small_of, PyI.big_of, PyI.andQ, PyI.loopQ, PyI.b2i, List.getElem?_cons_zero, List.getElem?_cons_succ, List.set_cons_zero, List.set_cons_succ, Option.map_some, Option.bind_some, Option.some.injEq, exists_eq_left', exists_eq_left, Bool.false_eq_true, Bool.and_true, Bool.true_and, if_true, if_false, reduceIte, List.length_cons, List.length_nil, List.length_map, Int.reduceLT, Int.reduceLE, Int.reduceNeg, Int.reducePow, Nat.reduceAdd, Nat.reduceLT, decide_true, decide_false, and_true, true_and, and_self, Bool.not_true, Bool.not_false, Bool.or_true, Bool.true_or, Bool.or_false, Bool.false_or, Int.cast_ofNat_Int, true_implies, true_or, or_true, or_false, false_or, reduceCtorEq, implies_true, false_implies]
        refine st_cons (st_ite ?_)
        simp only [PyI.ev, PyI.evs, PyI.evo, PyI.evt, PyI.evc, PyI.evi, PyI.Res.bind_ok, PyI.sat_ok_iff, PyI.ssat_ok_iff, PyI.Lit.val, PyI.bltV, PyI.binV, PyI.cmpV, PyI.eqV, PyI.Tgt.put, PyI.lenV, PyI.pure, PyI.new, PyI.noFld, PyI.hasM, PyI.metV, PyI.bmV, PyI.kindV, PyI.isiV, PyI.tru, PyI.small_of, PyI.big_of, PyI.andQ, PyI.loopQ, PyI.b2i, List.getElem?_cons_zero, List.getElem?_cons_succ, List.set_cons_zero, List.set_cons_succ, Option.map_some, Option.bind_some, Option.some.injEq, exists_eq_left', exists_eq_left, Bool.false_eq_true, Bool.and_true, Bool.true_and, if_true, if_false, reduceIte, List.length_cons, List.length_nil, List.length_map, Int.reduceLT, Int.reduceLE, Int.reduceNeg, Int.reducePow, Nat.reduceAdd, Nat.reduceLT, decide_true, decide_false, and_true, true_and, and_self, Bool.not_true, Bool.not_false, Bool.or_true, Bool.true_or, Bool.or_false, Bool.false_or, Int.cast_ofNat_Int, true_implies, true_or, or_true, or_false, false_or, reduceCtorEq, implies_true, false_implies]
        refine ⟨fun _ => ?_, fun _ => st_nil (st_nil ?_)⟩
        · refine st_cons (st_exp ?_)
          have hb : ds'.length < szl := by have : szl = 16777216 := rfl; omega
          simp only [PyI.ev, PyI.evs, PyI.evo, PyI.evt, PyI.evc, PyI.evi, PyI.Res.bind_ok, PyI.sat_ok_iff, PyI.ssat_ok_iff, PyI.Lit.val, PyI.bltV, PyI.binV, PyI.cmpV, PyI.eqV, PyI.Tgt.put, PyI.lenV, PyI.pure, PyI.new, PyI.noFld, PyI.hasM, PyI.metV, PyI.bmV, PyI.kindV, PyI.isiV, PyI.tru, PyI.small_of, PyI.big_of, PyI.andQ, PyI.loopQ, PyI.b2i, List.getElem?_cons_zero, List.getElem?_cons_succ, List.set_cons_zero, List.set_cons_succ, Option.map_some, Option.bind_some, Option.some.injEq, exists_eq_left', exists_eq_left, Bool.false_eq_true, Bool.and_true, Bool.true_and, if_true, if_false, reduceIte, List.length_cons, List.length_nil, List.length_map, Int.reduceLT, Int.reduceLE, Int.reduceNeg, Int.reducePow, Nat.reduceAdd, Nat.reduceLT, decide_true, decide_false, and_true, true_and, and_self, Bool.not_true, Bool.not_false, Bool.or_true, Bool.true_or, Bool.or_false, Bool.false_or, Int.cast_ofNat_Int, true_implies, true_or, or_true, or_false, false_or, reduceCtorEq, implies_true, false_implies, getL, setL, hb]
          refine st_cons (st_asg ?_)
          simp only [PyI.ev, PyI.evs, PyI.evo, PyI.evt, PyI.evc, PyI.evi, PyI.Res.bind_ok, PyI.sat_ok_iff, PyI.ssat_ok_iff, PyI.Lit.val, PyI.bltV, PyI.binV, PyI.cmpV, PyI.eqV, PyI.Tgt.put, PyI.lenV, PyI.pure, PyI.new, PyI.noFld, PyI.hasM, PyI.metV, PyI.bmV, PyI.kindV, PyI.isiV, PyI.tru, PyI.small_of, PyI.big_of, PyI.andQ, PyI.loopQ, PyI.b2i, List.getElem?_cons_zero, List.getElem?_cons_succ, List.set_cons_zero, List.set_cons_succ, Option.map_some, Option.bind_some, Option.some.injEq, exists_eq_left', exists_eq_left, Bool.false_eq_true, Bool.and_true, Bool.true_and, if_true, if_false, reduceIte, List.length_cons, List.length_nil, List.length_map, Int.reduceLT, Int.reduceLE, Int.reduceNeg, Int.reducePow, Nat.reduceAdd, Nat.reduceLT, decide_true, decide_false, and_true, true_and, and_self, Bool.not_true, Bool.not_false, Bool.or_true, Bool.true_or, Bool.or_false, Bool.false_or, Int.cast_ofNat_Int, true_implies, true_or, or_true, or_false, false_or, reduceCtorEq, implies_true, false_implies]
          refine st_nil (st_nil ⟨ds' ++ [w4 % 5040], _, _, ?_, ?_, ?_, rfl⟩)
          · intro d hd
            rcases List.mem_append.mp hd with hd | hd
            · exact g1 d hd
            · rw [List.mem_singleton.mp hd]; exact drMod _
          · simp; omega
          · simp
        · exact ⟨ds', _, _, g1, by omega, rfl, rfl⟩
      · rintro fr h' ⟨ds', w4, w5, g1, g2, rfl, rfl⟩
        exact st_nil (st_nil ⟨ds', _, _, _, _, g1, by have : (60 : Int).toNat = 60 := rfl; omega, rfl, rfl⟩)
    · refine st_cons (st_asg ?_)
      simp only [PyI.ev, PyI.evs, PyI.evo, PyI.evt, PyI.evc, PyI.evi, PyI.Res.bind_ok, PyI.sat_ok_iff, PyI.ssat_ok_iff, PyI.Lit.val, PyI.bltV, PyI.binV, PyI.cmpV, PyI.eqV, PyI.Tgt.put, PyI.lenV, PyI.pure, PyI.new, PyI.noFld, PyI.hasM, PyI.metV, PyI.bmV, PyI.kindV, PyI.isiV, PyI.tru, PyI.small_of, PyI.big_of, PyI.andQ, PyI.loopQ, PyI.b2i, List.getElem?_cons_zero, List.getElem?_cons_succ, List.set_cons_zero, List.set_cons_succ, Option.map_some, Option.bind_some, Option.some.injEq, exists_eq_left', exists_eq_left, Bool.false_eq_true, Bool.and_true, Bool.true_and, if_true, if_false, reduceIte, List.length_cons, List.length_nil, List.length_map, Int.reduceLT, Int.reduceLE, Int.reduceNeg, Int.reducePow, Nat.reduceAdd, Nat.reduceLT, decide_true, decide_false, and_true, true_and, and_self, Bool.not_true, Bool.not_false, Bool.or_true, Bool.true_or, Bool.or_false, Bool.false_or, Int.cast_ofNat_Int, true_implies, true_or, or_true, or_false, false_or, reduceCtorEq, implies_true, false_implies, getL]
      refine st_cons (st_for ?_)
      simp only [PyI.ev, PyI.evs, PyI.evo, PyI.evt, PyI.evc, PyI.evi, PyI.Res.bind_ok, PyI.sat_ok_iff, PyI.ssat_ok_iff, PyI.Lit.val, PyI.bltV, PyI.binV, PyI.cmpV, PyI.eqV, PyI.Tgt.put, PyI.lenV, PyI.pure, PyI.new, PyI.noFld, PyI.hasM, PyI.metV, PyI.bmV, PyI.kindV, PyI.isiV, PyI.tru, PyI.small_of, PyI.big_of, PyI.andQ, PyI.loopQ, PyI.b2i, List.getElem?_cons_zero, List.getElem?_cons_succ, List.set_cons_zero, List.set_cons_succ, Option.map_some, Option.bind_some, Option.some.injEq, exists_eq_left', exists_eq_left, Bool.false_eq_true, Bool.and_true, Bool.true_and, if_true, if_false, reduceIte, List.length_cons, List.length_nil, List.length_map, Int.reduceLT, Int.reduceLE, Int.reduceNeg, Int.reducePow, Nat.reduceAdd, Nat.reduceLT, decide_true, decide_false, and_true, true_and, and_self, Bool.not_true, Bool.not_false, Bool.or_true, Bool.true_or, Bool.or_false, Bool.false_or, Int.cast_ofNat_Int, true_implies, true_or, or_true, or_false, false_or, reduceCtorEq, implies_true, false_implies]
      refine for_rng (fun j fr h' => ∃ (ds' : List Int) (w6 : Int) (w5 : Option Val), (∀ d ∈ ds', isDr d) ∧ ds'.length ≤ ds.length + j ∧ h' = h ++ [.lst (ds'.map .int)] ∧ fr = [some (.klst (ns.map .int)), some (.int m), some (.ref h.length), some (.int z), v4, w5, some (.int w6)]) ⟨ds, _, v5, h1, Nat.le_refl _, rfl, rfl⟩ ?_ ?_
      · rintro j fr h' hj ⟨ds', w6, w5, g1, g2, rfl, rfl⟩
        simp only [PyI.Tgt.put, List.set_cons_succ, List.set_cons_zero, Option.some.injEq, exists_eq_left']
        refine st_cons (st_asg ?_)
        simp only [PyI.ev]
        simp only [PyI.ev, PyI.evs, PyI.evo, PyI.evt, PyI.evc, PyI.evi, PyI.Res.bind_ok, PyI.sat_ok_iff, PyI.ssat_ok_iff, PyI.Lit.val, PyI.bltV, PyI.binV, PyI.cmpV, PyI.eqV, PyI.Tgt.put, PyI.lenV, PyI.pure, PyI.new, PyI.noFld, PyI.hasM, PyI.metV, PyI.bmV, PyI.kindV, PyI.isiV, PyI.tru, PyI.small_of, PyI.big_of, PyI.andQ, PyI.loopQ, PyI.b2i, List.getElem?_cons_zero, List.getElem?_cons_succ, List.set_cons_zero, List.set_cons_succ, Option.map_some, Option.bind_some, Option.some.injEq, exists_eq_left', exists_eq_left, Bool.false_eq_true, Bool.and_true, Bool.true_and, if_true, if_false, reduceIte, List.length_cons, List.length_nil, List.length_map, Int.reduceLT, Int.reduceLE, Int.reduceNeg, Int.reducePow, Nat.reduceAdd, Nat.reduceLT, decide_true, decide_false, and_true, true_and, and_self, Bool.not_true, Bool.not_false, Bool.or_true, Bool.true_or, Bool.or_false, Bool.false_or, Int.cast_ofNat_Int, true_implies, true_or, or_true, or_false, false_or, reduceCtorEq, implies_true, false_implies]
        refine st_cons (st_exp ?_)
        have hb : ds'.length < szl := by have : szl = 16777216 := rfl; have : (4 : Int).toNat = 4 := rfl; omega
        simp only [PyI.ev, PyI.evs, PyI.evo, PyI.evt, PyI.evc, PyI.evi, PyI.Res.bind_ok, PyI.sat_ok_iff, PyI.ssat_ok_iff, PyI.Lit.val, PyI.bltV, PyI.binV, PyI.cmpV, PyI.eqV, PyI.Tgt.put, PyI.lenV, PyI.pure, PyI.new, PyI.noFld, PyI.hasM, PyI.metV, PyI.bmV, PyI.kindV, PyI.isiV, PyI.tru, PyI.small_of, PyI.big_of, PyI.andQ, PyI.loopQ, PyI.b2i, List.getElem?_cons_zero, List.getElem?_cons_succ, List.set_cons_zero, List.set_cons_succ, Option.map_some, Option.bind_some, Option.some.injEq, exists_eq_left', exists_eq_left, Bool.false_eq_true, Bool.and_true, Bool.true_and, if_true, if_false, reduceIte, List.length_cons, List.length_nil, List.length_map, Int.reduceLT, Int.reduceLE, Int.reduceNeg, Int.reducePow, Nat.reduceAdd, Nat.reduceLT, decide_true, decide_false, and_true, true_and, and_self, Bool.not_true, Bool.not_false, Bool.or_true, Bool.true_or, Bool.or_false, Bool.false_or, Int.cast_ofNat_Int, true_implies, true_or, or_true, or_false, false_or, reduceCtorEq, implies_true, false_implies, getL, setL, hb]
        refine st_nil ⟨ds' ++ [(w6 * 69621 + 7 * (0 + (j : Int)) + 3) % 2147483629 / 7 % 5040], _, _, ?_, ?_, ?_, rfl⟩
        · intro d hd
          rcases List.mem_append.mp hd with hd | hd
          · exact g1 d hd
          · rw [List.mem_singleton.mp hd]; exact drMod _
        · simp; omega
        · simp
      · rintro fr h' ⟨ds', w4, w5, g1, g2, rfl, rfl⟩
        exact st_nil (st_nil ⟨ds', _, _, _, _, g1, by have : (4 : Int).toNat = 4 := rfl; omega, rfl, rfl⟩)
  · rintro fr h' ⟨ds, v3, v4, v5, v6, h1, h2, rfl, rfl⟩
    exact fin _ _ ⟨ds, h1, rfl, rfl⟩
theorem run_sat {k i : Nat} {F : Fn} {vs : List Val} {h : Mem} {Q : Val → Mem → Prop} (hF : P.fns[i]? = some F) (hl : vs.length = F.np)
    (h1 : (exs P (run P (k + 1)) (run P k) F.body (start F vs) h).sat fun f _ m => match f with | .nx => Q .non m | .rt v => Q v m | _ => False) : (run P (k + 2) i vs h).sat Q := by
  unfold run
  rw [hF]
  simp only [hl, if_true]
  exact sat_fin h1
theorem sat_run {r : Res Val} {v : Val} {h : Mem} (h1 : r.sat fun w m => w = v ∧ m = h) : r = .ok v h := by
  obtain ⟨w, m, rfl, rfl, rfl⟩ := h1.sat_eq
  rfl
/-- the draw of place i -/
def dr (ds : List Int) (i : Int) : Int := (ds[i.toNat]?).getD 0
theorem dr_is {ds : List Int} (h : ∀ d ∈ ds, isDr d) (i : Int) : isDr (dr ds i) := by
  unfold dr
  cases e : ds[i.toNat]? with
  | none => exact ⟨by decide, by decide⟩
  | some d => exact h d (List.mem_of_getElem? e)
theorem isD_int {h : Mem} {n : Nat} {i : Int} : isD h (n + 1) (.int i) = true := rfl
theorem eqB_int {h : Mem} {n : Nat} {i j : Int} : eqB h (n + 1) (.int i) (.int j) = (i == j) := rfl
theorem inV_ints {h : Mem} {a : Nat} {es : List Int} {e : Int} (ha : h[a]? = some (.lst (es.map .int))) : inV h (.int e) (.ref a) = some (decide (e ∈ es)) := by
  have h1 : (es.map Val.int).all (isD h 59) = true := by simp [List.all_map, Function.comp_def, isD_int]
  have h2 : ((es.map Val.int).any fun z => eqB h 59 z (.int e)) = decide (e ∈ es) := by
    rw [List.any_map, Bool.eq_iff_iff]
    simp only [List.any_eq_true, Function.comp_def, eqB_int, beq_iff_eq, decide_eq_true_eq]
    exact ⟨fun ⟨x, hx, e⟩ => e ▸ hx, fun hx => ⟨e, hx, rfl⟩⟩
  simp only [inV, ha, isD_int, h1, h2, Bool.and_self, if_true]
def drB : PyI.Sms := (.cons (.ite (.e (.cmp .lt (.var 1) (.blt .len (.cons (.var 0) .nil)))) (.cons (.ret (.ix (.var 0) (.var 1))) .nil) .nil) (.cons (.ret (.lit (.int 0))) .nil))
theorem drB_ok {h : Mem} {a : Nat} {ds : List Int} {i : Int} (ha : h[a]? = some (.lst (ds.map .int))) (hi : 0 ≤ i) :
    (exs P call callI drB [some (.ref a), some (.int i)] h).sat fun f _ h' => f = .rt (.int (dr ds i)) ∧ h' = h := by
  unfold drB
  refine st_cons (st_ite ?_)
  simp only [PyI.ev, PyI.evs, PyI.evo, PyI.evt, PyI.evc, PyI.evi, PyI.Res.bind_ok, PyI.sat_ok_iff, PyI.ssat_ok_iff, PyI.Lit.val, PyI.bltV, PyI.binV, PyI.cmpV, PyI.eqV, PyI.Tgt.put, PyI.lenV, PyI.pure, PyI.new, PyI.noFld, PyI.hasM, PyI.metV, PyI.bmV, PyI.kindV, PyI.isiV, PyI.tru, PyI.small_of, PyI.big_of, PyI.andQ, PyI.loopQ, PyI.b2i, List.getElem?_cons_zero, List.getElem?_cons_succ, List.set_cons_zero, List.set_cons_succ, Option.map_some, Option.bind_some, Option.some.injEq, exists_eq_left', exists_eq_left, Bool.false_eq_true, Bool.and_true, Bool.true_and, if_true, if_false, reduceIte, List.length_cons, List.length_nil, List.length_map, Int.reduceLT, Int.reduceLE, Int.reduceNeg, Int.reducePow, Nat.reduceAdd, Nat.reduceLT, decide_true, decide_false, and_true, true_and, and_self, Bool.not_true, Bool.not_false, Bool.or_true, Bool.true_or, Bool.or_false, Bool.false_or, Int.cast_ofNat_Int, true_implies, true_or, or_true, or_false, false_or, reduceCtorEq, implies_true, false_implies, ha]
  refine ⟨fun hlt => ?_, fun hlt => st_nil ?_⟩
  · have hlt := of_decide_eq_true hlt
    have hn : i.toNat < ds.length := by omega
    have e1 : PyI.nth (ds.map Val.int) i = some (.int (dr ds i)) := by
      unfold PyI.nth dr
      rw [if_pos hi, List.getElem?_map, List.getElem?_eq_getElem hn]
      rfl
    refine st_cons (st_ret ?_)
    simp only [PyI.ev, PyI.evs, PyI.evo, PyI.evt, PyI.evc, PyI.evi, PyI.Res.bind_ok, PyI.sat_ok_iff, PyI.ssat_ok_iff, PyI.Lit.val, PyI.bltV, PyI.binV, PyI.cmpV, PyI.eqV, PyI.Tgt.put, PyI.lenV, PyI.pure, PyI.new, PyI.noFld, PyI.hasM, PyI.metV, PyI.bmV, PyI.kindV, PyI.isiV, PyI.tru, PyI.small_of, PyI.big_of, PyI.andQ, PyI.loopQ, PyI.b2i, List.getElem?_cons_zero, List.getElem?_cons_succ, List.set_cons_zero, List.set_cons_succ, Option.map_some, Option.bind_some, Option.some.injEq, exists_eq_left', exists_eq_left, Bool.false_eq_true, Bool.and_true, Bool.true_and, if_true, if_false, reduceIte, List.length_cons, List.length_nil, List.length_map, Int.reduceLT, Int.reduceLE, Int.reduceNeg, Int.reducePow, Nat.reduceAdd, Nat.reduceLT, decide_true, decide_false, and_true, true_and, and_self, Bool.not_true, Bool.not_false, Bool.or_true, Bool.true_or, Bool.or_false, Bool.false_or, Int.cast_ofNat_Int, true_implies, true_or, or_true, or_false, false_or, reduceCtorEq, implies_true, false_implies, ha, PyI.ixV, e1]
  · have hlt := of_decide_eq_false hlt
    have hn : ¬ i.toNat < ds.length := by omega
    have e1 : dr ds i = 0 := by unfold dr; rw [List.getElem?_eq_none (by omega)]; rfl
    refine st_cons (st_ret ?_)
    simp only [PyI.ev, PyI.evs, PyI.evo, PyI.evt, PyI.evc, PyI.evi, PyI.Res.bind_ok, PyI.sat_ok_iff, PyI.ssat_ok_iff, PyI.Lit.val, PyI.bltV, PyI.binV, PyI.cmpV, PyI.eqV, PyI.Tgt.put, PyI.lenV, PyI.pure, PyI.new, PyI.noFld, PyI.hasM, PyI.metV, PyI.bmV, PyI.kindV, PyI.isiV, PyI.tru, PyI.small_of, PyI.big_of, PyI.andQ, PyI.loopQ, PyI.b2i, List.getElem?_cons_zero, List.getElem?_cons_succ, List.set_cons_zero, List.set_cons_succ, Option.map_some, Option.bind_some, Option.some.injEq, exists_eq_left', exists_eq_left, Bool.false_eq_true, Bool.and_true, Bool.true_and, if_true, if_false, reduceIte, List.length_cons, List.length_nil, List.length_map, Int.reduceLT, Int.reduceLE, Int.reduceNeg, Int.reducePow, Nat.reduceAdd, Nat.reduceLT, decide_true, decide_false, and_true, true_and, and_self, Bool.not_true, Bool.not_false, Bool.or_true, Bool.true_or, Bool.or_false, Bool.false_or, Int.cast_ofNat_Int, true_implies, true_or, or_true, or_false, false_or, reduceCtorEq, implies_true, false_implies, e1]
theorem run_str {k i ap : Nat} {ns : List Int} {m : Int} {h : Mem} (hF : P.fns[i]? = some ⟨2, 7, strB ap⟩) (hl : ns.length ≤ 1000) : ∃ ds : List Int, (∀ d ∈ ds, isDr d) ∧ run P (k + 2) i [.klst (ns.map .int), .int m] h = .ok (.ref h.length) (h ++ [.lst (ds.map .int)]) := by
  have key : (exs P (run P (k + 1)) (run P k) (strB ap) (start ⟨2, 7, strB ap⟩ [.klst (ns.map .int), .int m]) h).sat fun f _ h' => ∃ ds : List Int, (∀ d ∈ ds, isDr d) ∧ f = .rt (.ref h.length) ∧ h' = h ++ [.lst (ds.map .int)] := strB_ok hl
  have := run_sat (k := k) (Q := fun v h' => ∃ ds : List Int, (∀ d ∈ ds, isDr d) ∧ v = .ref h.length ∧ h' = h ++ [.lst (ds.map .int)]) hF rfl (key.mono fun f fr m ⟨ds, h1, h2, h3⟩ => by subst h2; exact ⟨ds, h1, rfl, h3⟩)
  obtain ⟨v, h', e, ds, h1, rfl, rfl⟩ := this.sat_eq
  exact ⟨ds, h1, e⟩
theorem run_dr {k i : Nat} {h : Mem} {a : Nat} {ds : List Int} {j : Int} (hF : P.fns[i]? = some ⟨2, 2, drB⟩) (ha : h[a]? = some (.lst (ds.map .int))) (hj : 0 ≤ j) : run P (k + 2) i [.ref a, .int j] h = .ok (.int (dr ds j)) h :=
  sat_run (run_sat hF rfl (SR.sat.mono (show (exs P (run P (k + 1)) (run P k) drB (start ⟨2, 2, drB⟩ [.ref a, .int j]) h).sat _ from drB_ok ha hj) fun f fr m ⟨h1, h2⟩ => by subst h1; exact ⟨rfl, h2⟩))
end PyI
namespace PyI
theorem eqs_refl {f : Val → Val → Bool} : ∀ (xs : List Val), (∀ x ∈ xs, f x x = true) → eqs f xs xs = true
  | [], _ => rfl
  | x :: xs, h => by
    simp only [eqs, h x (by simp), eqs_refl xs fun y hy => h y (by simp [hy]), Bool.and_self]
theorem eqB_refl {h : Mem} : ∀ (n : Nat) (v : Val), isD h n v = true → eqB h n v v = true
  | 0, v, d => by simp [isD] at d
  | n + 1, v, d => by
    cases v with
    | tup xs =>
      have d : xs.all (isD h n) = true := by simpa [isD] using d
      exact eqs_refl xs fun x hx => eqB_refl n x (List.all_eq_true.mp d x hx)
    | ktup xs =>
      have d : xs.all (isD h n) = true := by simpa [isD] using d
      exact eqs_refl xs fun x hx => eqB_refl n x (List.all_eq_true.mp d x hx)
    | ref a =>
      cases hl : lstA h a with
      | none => simp [isD, hl] at d
      | some xs =>
        have d : xs.all (isD h n) = true := by simpa [isD, hl] using d
        simp only [eqB, hl]
        exact eqs_refl xs fun x hx => eqB_refl n x (List.all_eq_true.mp d x hx)
    | fn f => simp [isD] at d
    | klst f => simp [isD] at d
    | _ => simp [eqB]
theorem eqV_lst {h : Mem} {a b : Nat} {xs : List Val} (ha : h[a]? = some (.lst xs)) (hb : h[b]? = some (.lst xs)) (d : xs.all (isD h 59) = true) : eqV h (.ref a) (.ref b) = some true := by
  have la : lstA h a = some xs := by unfold lstA; rw [ha]; rfl
  have lb : lstA h b = some xs := by unfold lstA; rw [hb]; rfl
  simp only [eqV, ha, hb]
  have da : isD h 60 (.ref a) = true := by simp only [isD, la]; exact d
  have db : isD h 60 (.ref b) = true := by simp only [isD, lb]; exact d
  rw [da, db]
  have : eqB h 60 (.ref a) (.ref b) = true := by
    simp only [eqB, la, lb]
    exact eqs_refl xs fun x hx => eqB_refl 59 x (List.all_eq_true.mp d x hx)
  simp [this]
theorem eqV_tup {h : Mem} {xs : List Val} (d : isD h 60 (.tup xs) = true) : eqV h (.tup xs) (.tup xs) = some true := by
  have : eqB h 60 (.tup xs) (.tup xs) = true := eqB_refl 60 _ d
  simp only [eqV, d, this, Bool.and_self, if_true]
/-- a comprehension that changes nothing -/
theorem comp_go {t : Itr} {tg : Tgt} {cond : Fr → Mem → Res Bool} {elt : Fr → Mem → Res Val} {fr : Fr} {h : Mem} {vs : List Val} {p : Val → Bool} {g : Val → Val} (hat : ∀ i acc, t.at i (h ++ [.lst acc]) = vs[i]?) (hfin : ∀ acc, t.fin vs.length (h ++ [.lst acc]) = true)
    (hc : ∀ v ∈ vs, ∀ acc, ∃ fr1, tg.put (h ++ [.lst acc]) v fr = some fr1 ∧ cond fr1 (h ++ [.lst acc]) = .ok (p v) (h ++ [.lst acc]) ∧ (p v = true → elt fr1 (h ++ [.lst acc]) = .ok (g v) (h ++ [.lst acc]))) (hs : vs.length ≤ szl) :
    ∀ (r i : Nat) (acc : List Val), r + i = vs.length → acc.length ≤ i → compG t tg cond elt fr h.length r i (h ++ [.lst acc]) = .ok (.ref h.length) (h ++ [.lst (acc ++ ((vs.drop i).filter p).map g)])
  | 0, i, acc, e, ha => by
    have : i = vs.length := by omega
    subst this
    simp [compG, hfin]
  | r + 1, i, acc, e, ha => by
    have hi : i < vs.length := by omega
    have hv : vs[i]? = some vs[i] := List.getElem?_eq_getElem hi
    obtain ⟨fr1, h1, h2, h3⟩ := hc vs[i] (List.getElem_mem hi) acc
    rw [List.drop_eq_getElem_cons hi]
    simp only [compG, hat, hv, h1, h2]
    cases hp : p vs[i] with
    | false =>
      simp only []
      rw [comp_go hat hfin hc hs r (i + 1) acc (by omega) (by omega), List.filter_cons_of_neg (by simp [hp])]
    | true =>
      have hl : acc.length < szl := by omega
      simp only [h3 hp, getL, hl, if_true, setL]
      rw [comp_go hat hfin hc hs r (i + 1) _ (by omega) (by simp; omega), List.filter_cons_of_pos (by simp [hp])]
      simp
theorem comp_ok {t : Itr} {tg : Tgt} {cond : Fr → Mem → Res Bool} {elt : Fr → Mem → Res Val} {fr : Fr} {h : Mem} {vs : List Val} (p : Val → Bool) (g : Val → Val) (hat : ∀ i acc, t.at i (h ++ [.lst acc]) = vs[i]?) (hfin : ∀ acc, t.fin vs.length (h ++ [.lst acc]) = true)
    (hc : ∀ v ∈ vs, ∀ acc, ∃ fr1, tg.put (h ++ [.lst acc]) v fr = some fr1 ∧ cond fr1 (h ++ [.lst acc]) = .ok (p v) (h ++ [.lst acc]) ∧ (p v = true → elt fr1 (h ++ [.lst acc]) = .ok (g v) (h ++ [.lst acc]))) (hs : vs.length ≤ szl) :
    compG t tg cond elt fr h.length vs.length 0 (h ++ [.lst []]) = .ok (.ref h.length) (h ++ [.lst ((vs.filter p).map g)]) := by
  rw [comp_go hat hfin hc hs vs.length 0 [] (by omega) (by simp)]
  simp
theorem ev_comp {P : Pg} {call callI : Nat → List Val → Mem → Res Val} {tg : Tgt} {it : Itx} {cond : OTe} {e : Ex} {fr : Fr} {h : Mem} : ev P call callI (.comp tg it cond e) fr h = (evi P call callI it fr h).bind fun t h1 =>
    compG t tg (evc P call callI cond) (ev P call callI e) (wipeF fr tg.slots) h1.length (t.cnt h1) 0 (h1 ++ [.lst []]) := rfl
theorem lex3 {a b c x y z : Int} : lexLt [a, b, c] [x, y, z] = decide (a < x ∨ (a = x ∧ (b < y ∨ (b = y ∧ c < z)))) := by
  rw [Bool.eq_iff_iff]
  simp only [lexLt, decide_eq_true_eq]
  by_cases h1 : a = x <;> by_cases h2 : b = y <;> by_cases h3 : c = z <;> simp [h1, h2, h3] <;> omega
end PyI
namespace PyI
theorem nth_some {xs : List Val} {i : Int} (h1 : 0 ≤ i) (h2 : i < xs.length) : PyI.nth xs i = some ((PyI.nth xs i).getD .non) ∧ (PyI.nth xs i).getD .non ∈ xs := by
  have hi : i.toNat < xs.length := by omega
  have e : PyI.nth xs i = some xs[i.toNat] := by
    unfold PyI.nth
    rw [if_pos h1, List.getElem?_eq_getElem hi]
  rw [e]
  exact ⟨rfl, List.getElem_mem hi⟩
theorem cut_drop {xs : List Val} {v : Int} (h : 0 ≤ v) : cut xs (some v) none = xs.drop v.toNat := by
  unfold cut sIx
  simp only [show ¬ v < 0 by omega, if_false]
  by_cases hl : v.toNat ≤ xs.length
  · rw [Nat.min_eq_left hl]
    apply List.take_of_length_le
    simp
  · rw [Nat.min_eq_right (by omega), List.drop_of_length_le (Nat.le_refl _), List.drop_of_length_le (show xs.length ≤ v.toNat by omega)]
    simp
end PyI
namespace PyLaw
open PySem PySem.Spec PyProof.Rows
def top (i : Nat) : Stmt := PySem.Challenge.pw_appendhall_k18_cut_of_a_log.main.body.getD i (.Pass ⟨0, 0, 0, 0⟩)
abbrev st__law_stream : Stmt := top 7
abbrev st__law_draw : Stmt := top 8
abbrev st__law_large : Stmt := top 9
abbrev st__law_record : Stmt := top 10
abbrev st__law_cut : Stmt := top 11
abbrev st_law : Stmt := top 12
abbrev st_Log___init__ : Stmt := L2.inClass (top 5) 0
abbrev st_Log_length : Stmt := L2.inClass (top 5) 1
abbrev st_Log_after : Stmt := L2.inClass (top 5) 5
abbrev st_Log_cut : Stmt := L2.inClass (top 5) 8
abbrev st_Log_value : Stmt := L2.inClass (top 5) 10
/- _law_stream: 0:_law_script 1:_law_many 2:_law_draws 3:_law_cell 4:_law_rest 5:_law_k 6:_law_mixed -/
def b__law_stream : PyI.Sms := (.cons (.asg (.v 2) (.lst .nil)) (.cons (.for (.v 3) (.val (.var 0)) (.cons (.ite (.e (.cmp .ge (.blt .len (.cons (.var 2) .nil)) (.var 1))) (.cons (.brk) .nil) .nil) (.cons (.ite (.e (.cmp .ge (.var 3) (.bin .pow (.lit (.int 10)) (.lit (.int 18))))) (.cons (.asg (.v 4) (.var 3)) (.cons (.for (.v 5) (.rng1 (.lit (.int 60))) (.cons (.ite (.e (.cmp .gt (.var 4) (.lit (.int 0)))) (.cons (.exp (.met (.var 2) 0 .append (.cons (.bin .mod (.blt .int (.cons (.var 4) .nil)) (.lit (.int 5040))) .nil))) (.cons (.asg (.v 4) (.bin .div (.var 4) (.lit (.int 5040)))) .nil)) .nil) .nil)) .nil)) (.cons (.asg (.v 6) (.bin .mod (.blt .int (.cons (.bin .add (.bin .add (.bin .mul (.var 3) (.lit (.int 48271))) (.bin .mul (.blt .len (.cons (.var 2) .nil)) (.lit (.int 69621)))) (.lit (.int 11))) .nil)) (.lit (.int 2147483647)))) (.cons (.for (.v 5) (.rng1 (.lit (.int 4))) (.cons (.asg (.v 6) (.bin .mod (.blt .int (.cons (.bin .add (.bin .add (.bin .mul (.var 6) (.lit (.int 69621))) (.bin .mul (.lit (.int 7)) (.var 5))) (.lit (.int 3))) .nil)) (.lit (.int 2147483629)))) (.cons (.exp (.met (.var 2) 0 .append (.cons (.bin .mod (.blt .int (.cons (.bin .div (.var 6) (.lit (.int 7))) .nil)) (.lit (.int 5040))) .nil))) .nil))) .nil))) .nil))) (.cons (.ret (.var 2)) .nil)))
/- _law_draw: 0:_law_draws 1:_law_k -/
def b__law_draw : PyI.Sms := (.cons (.ite (.e (.cmp .lt (.var 1) (.blt .len (.cons (.var 0) .nil)))) (.cons (.ret (.ix (.var 0) (.var 1))) .nil) .nil) (.cons (.ret (.lit (.int 0))) .nil))
/- _law_large: 0:_law_draws 1:_law_k 2:_law_number 3:_law_j -/
def b__law_large : PyI.Sms := (.cons (.asg (.v 2) (.lit (.int 0))) (.cons (.for (.v 3) (.rng1 (.lit (.int 5))) (.cons (.asg (.v 2) (.bin .add (.bin .mul (.var 2) (.lit (.int 5040))) (.cal 1 (.cons (.var 0) (.cons (.bin .add (.var 1) (.var 3)) .nil))))) .nil)) (.cons (.ret (.bin .mod (.blt .int (.cons (.var 2) .nil)) (.bin .sub (.bin .pow (.lit (.int 10)) (.lit (.int 18))) (.lit (.int 99))))) .nil)))
/- _law_record: 0:_law_draw_here 1:_law_texts 2:_law_deeds -/
def b__law_record : PyI.Sms := (.cons (.asg (.v 1) (.tup (.cons (.lit (.str [])) (.cons (.lit (.str ['a'])) (.cons (.lit (.str ['a', 'b', ' ', 'c'])) (.cons (.lit (.str ['~'])) (.cons (.lit (.str ['z', 'z'])) .nil))))))) (.cons (.asg (.v 2) (.tup (.cons (.tup (.cons (.lit (.str ['a', 'p', 'p', 'e', 'n', 'd'])) (.cons (.lit (.str ['/', 'a'])) (.cons (.ix (.var 1) (.bin .mod (.bin .div (.var 0) (.lit (.int 4))) (.lit (.int 5)))) .nil)))) (.cons (.tup (.cons (.lit (.str ['s', 'e', 'a', 'l'])) (.cons (.lit (.str ['/', 'b'])) .nil))) (.cons (.tup (.cons (.lit (.str ['l', 'i', 'm', 'i', 't'])) (.cons (.lit (.str ['/'])) (.cons (.bin .div (.var 0) (.lit (.int 12))) .nil)))) (.cons (.tup (.cons (.lit (.str ['x'])) .nil)) .nil)))))) (.cons (.ret (.tup (.cons (.bin .mod (.var 0) (.lit (.int 3))) (.cons (.bin .add (.lit (.int 1)) (.bin .mod (.bin .div (.var 0) (.lit (.int 3))) (.lit (.int 4)))) (.cons (.ix (.var 2) (.bin .mod (.bin .div (.var 0) (.lit (.int 60))) (.lit (.int 4)))) .nil))))) .nil)))
/- _law_cut: 0:_law_log 1:_law_number 2:_law_image 3:e -/
def b__law_cut : PyI.Sms := (.cons (.try (.cons (.ret (.met (.met (.var 0) 1 .none (.cons (.var 1) (.cons (.var 2) .nil))) 2 .none .nil)) .nil) (.one 0 3 (.cons (.ret (.tup (.cons (.lit (.str ['o', 'u', 't'])) (.cons (.and (.exi 1) (.exi 2)) .nil)))) .nil))) .nil)
/- law: 0:_law_script 1:_law_draws 2:_law_base 3:_law_images 4:_law_image 5:_law_other 6:_law_held 7:_law_log 8:_law_number 9:_law_due 10:_law_k -/
def b_law : PyI.Sms := (.cons (.asg (.v 1) (.cal 0 (.cons (.var 0) (.cons (.lit (.int 24)) .nil)))) (.cons (.asg (.v 2) (.bin .mod (.cal 1 (.cons (.var 1) (.cons (.lit (.int 0)) .nil))) (.lit (.int 5)))) (.cons (.ite (.e (.cmp .eq (.bin .mod (.cal 1 (.cons (.var 1) (.cons (.lit (.int 1)) .nil))) (.lit (.int 3))) (.lit (.int 1)))) (.cons (.asg (.v 2) (.cal 2 (.cons (.var 1) (.cons (.lit (.int 16)) .nil)))) .nil) .nil) (.cons (.asg (.v 3) (.tup (.cons (.lit (.int 0)) (.cons (.lit (.str [])) (.cons (.tup .nil) (.cons (.tup (.cons (.lit (.str ['i', 'm', 'a', 'g', 'e'])) (.cons (.tup (.cons (.lit (.int 1)) (.cons (.lit (.str ['t', 'w', 'o'])) .nil))) .nil))) (.cons (.neg (.lit (.int 5))) .nil))))))) (.cons (.asg (.v 4) (.ix (.var 3) (.bin .mod (.cal 1 (.cons (.var 1) (.cons (.lit (.int 3)) .nil))) (.lit (.int 5))))) (.cons (.asg (.v 5) (.ix (.var 3) (.bin .mod (.bin .div (.cal 1 (.cons (.var 1) (.cons (.lit (.int 3)) .nil))) (.lit (.int 5))) (.lit (.int 5))))) (.cons (.asg (.v 6) (.comp (.v 10) (.rng1 (.bin .mod (.cal 1 (.cons (.var 1) (.cons (.lit (.int 4)) .nil))) (.lit (.int 9)))) (.no) (.cal 3 (.cons (.cal 1 (.cons (.var 1) (.cons (.bin .add (.lit (.int 6)) (.var 10)) .nil))) .nil)))) (.cons (.asg (.v 7) (.mk 0 (.cons (.var 2) (.cons (.var 4) (.cons (.blt .tup (.cons (.var 6) .nil)) .nil))))) (.cons (.for (.v 8) (.rng2 (.bin .sub (.var 2) (.lit (.int 2))) (.bin .add (.bin .add (.var 2) (.blt .len (.cons (.var 6) .nil))) (.lit (.int 4)))) (.cons (.asg (.v 9) (.tup (.cons (.lit (.str ['o', 'u', 't'])) (.cons (.lit (.bl true)) .nil)))) (.cons (.ite (.e (.cmp .ge (.var 8) (.var 2))) (.cons (.asg (.v 9) (.tup (.cons (.var 8) (.cons (.var 5) (.cons (.blt .tup (.cons (.comp (.v 10) (.rng1 (.blt .len (.cons (.var 6) .nil))) (.so (.e (.cmp .gt (.bin .add (.bin .add (.var 2) (.lit (.int 1))) (.var 10)) (.var 8)))) (.ix (.var 6) (.var 10))) .nil)) .nil))))) .nil) .nil) (.cons (.ite (.e (.cmp .ne (.cal 4 (.cons (.var 7) (.cons (.var 8) (.cons (.var 5) .nil)))) (.var 9))) (.cons (.ret (.lit (.bl false))) .nil) .nil) (.cons (.ite (.e (.cmp .ne (.met (.var 7) 2 .none .nil) (.tup (.cons (.var 2) (.cons (.var 4) (.cons (.blt .tup (.cons (.var 6) .nil)) .nil)))))) (.cons (.ret (.lit (.bl false))) .nil) .nil) .nil))))) (.cons (.ret (.lit (.bl true))) .nil))))))))))
/- Log.__init__: 0:self 1:base 2:image 3:records -/
def b_Log___init__ : PyI.Sms := (.cons (.asgA (.var 0) 5 (.var 1)) (.cons (.asgA (.var 0) 4 (.var 2)) (.cons (.asgA (.var 0) 3 (.var 3)) .nil)))
/- Log.length: 0:self -/
def b_Log_length : PyI.Sms := (.cons (.ret (.bin .add (.att (.var 0) 5) (.blt .len (.cons (.att (.var 0) 3) .nil)))) .nil)
/- Log.after: 0:self 1:number -/
def b_Log_after : PyI.Sms := (.cons (.ite (.nt (.e (.chn .le .le (.att (.var 0) 5) (.var 1) (.att (.var 0) 6)))) (.cons (.raise 0) .nil) .nil) (.cons (.ret (.sl (.att (.var 0) 3) (.so (.bin .sub (.var 1) (.att (.var 0) 5))) .no)) .nil))
/- Log.cut: 0:self 1:number 2:image -/
def b_Log_cut : PyI.Sms := (.cons (.ite (.e (.cmp .lt (.var 1) (.att (.var 0) 5))) (.cons (.raise 0) .nil) .nil) (.cons (.ite (.e (.cmp .ge (.var 1) (.att (.var 0) 6))) (.cons (.ret (.mk 0 (.cons (.var 1) (.cons (.var 2) (.cons (.tup .nil) .nil))))) .nil) .nil) (.cons (.ret (.mk 0 (.cons (.var 1) (.cons (.var 2) (.cons (.met (.var 0) 7 .none (.cons (.var 1) .nil)) .nil))))) .nil)))
/- Log.value: 0:self -/
def b_Log_value : PyI.Sms := (.cons (.ret (.tup (.cons (.att (.var 0) 5) (.cons (.att (.var 0) 4) (.cons (.att (.var 0) 3) .nil))))) .nil)
def P : PyI.Pg where
  fns := [⟨2, 7, b__law_stream⟩, ⟨2, 2, b__law_draw⟩, ⟨2, 4, b__law_large⟩, ⟨1, 3, b__law_record⟩, ⟨3, 4, b__law_cut⟩, ⟨1, 11, b_law⟩, ⟨4, 4, b_Log___init__⟩, ⟨1, 1, b_Log_length⟩, ⟨2, 2, b_Log_after⟩, ⟨3, 3, b_Log_cut⟩, ⟨1, 1, b_Log_value⟩]
  cls := [⟨6, [(7, 8), (1, 9), (2, 10)], [(6, 7)], [5, 4, 3]⟩]
  exc := fun e d => (([[true, true, true]] : List (List Bool))[e]?).bind (·[d]?)
  lim := 1000
  kon := []
def G : PyI.Gam where
  fnm := ["_law_stream", "_law_draw", "_law_large", "_law_record", "_law_cut", "law"]
  cnm := ["Log"]
  xnm := ["OutOfRange", "HallError", "ValueError"]
  knm := []
  nms := ["append", "cut", "value", "records", "image", "base", "length", "after", "__init__"]
  blt := ["range", "int", "len", "isinstance", "tuple"]
  nx := 1
def N__law_stream : List Str := ["_law_script", "_law_many", "_law_draws", "_law_cell", "_law_rest", "_law_k", "_law_mixed"]
theorem sc__law_stream : L2.FnScope N__law_stream ["_law_script", "_law_many"] (L2.defScope st__law_stream) := ⟨rfl, rfl, rfl, by decide +kernel, rfl, by decide +kernel, by decide +kernel⟩
theorem mt__law_stream : PyI.mSs G ⟨N__law_stream, L2.defScope st__law_stream, true⟩ b__law_stream (L2.defBody st__law_stream) = true := by decide +kernel
def N__law_draw : List Str := ["_law_draws", "_law_k"]
theorem sc__law_draw : L2.FnScope N__law_draw ["_law_draws", "_law_k"] (L2.defScope st__law_draw) := ⟨rfl, rfl, rfl, by decide +kernel, rfl, by decide +kernel, by decide +kernel⟩
theorem mt__law_draw : PyI.mSs G ⟨N__law_draw, L2.defScope st__law_draw, true⟩ b__law_draw (L2.defBody st__law_draw) = true := by decide +kernel
def N__law_large : List Str := ["_law_draws", "_law_k", "_law_number", "_law_j"]
theorem sc__law_large : L2.FnScope N__law_large ["_law_draws", "_law_k"] (L2.defScope st__law_large) := ⟨rfl, rfl, rfl, by decide +kernel, rfl, by decide +kernel, by decide +kernel⟩
theorem mt__law_large : PyI.mSs G ⟨N__law_large, L2.defScope st__law_large, true⟩ b__law_large (L2.defBody st__law_large) = true := by decide +kernel
def N__law_record : List Str := ["_law_draw_here", "_law_texts", "_law_deeds"]
theorem sc__law_record : L2.FnScope N__law_record ["_law_draw_here"] (L2.defScope st__law_record) := ⟨rfl, rfl, rfl, by decide +kernel, rfl, by decide +kernel, by decide +kernel⟩
theorem mt__law_record : PyI.mSs G ⟨N__law_record, L2.defScope st__law_record, true⟩ b__law_record (L2.defBody st__law_record) = true := by decide +kernel
def N__law_cut : List Str := ["_law_log", "_law_number", "_law_image", "e"]
theorem sc__law_cut : L2.FnScope N__law_cut ["_law_log", "_law_number", "_law_image"] (L2.defScope st__law_cut) := ⟨rfl, rfl, rfl, by decide +kernel, rfl, by decide +kernel, by decide +kernel⟩
theorem mt__law_cut : PyI.mSs G ⟨N__law_cut, L2.defScope st__law_cut, true⟩ b__law_cut (L2.defBody st__law_cut) = true := by decide +kernel
def N_law : List Str := ["_law_script", "_law_draws", "_law_base", "_law_images", "_law_image", "_law_other", "_law_held", "_law_log", "_law_number", "_law_due", "_law_k"]
theorem sc_law : L2.FnScope N_law ["_law_script"] (L2.defScope st_law) := ⟨rfl, rfl, rfl, by decide +kernel, rfl, by decide +kernel, by decide +kernel⟩
theorem mt_law : PyI.mSs G ⟨N_law, L2.defScope st_law, true⟩ b_law (L2.defBody st_law) = true := by decide +kernel
def N_Log___init__ : List Str := ["self", "base", "image", "records"]
theorem sc_Log___init__ : L2.FnScope N_Log___init__ ["self", "base", "image", "records"] (L2.defScope st_Log___init__) := ⟨rfl, rfl, rfl, by decide +kernel, rfl, by decide +kernel, by decide +kernel⟩
theorem mt_Log___init__ : PyI.mSs G ⟨N_Log___init__, L2.defScope st_Log___init__, true⟩ b_Log___init__ (L2.defBody st_Log___init__) = true := by decide +kernel
def N_Log_length : List Str := ["self"]
theorem sc_Log_length : L2.FnScope N_Log_length ["self"] (L2.defScope st_Log_length) := ⟨rfl, rfl, rfl, by decide +kernel, rfl, by decide +kernel, by decide +kernel⟩
theorem mt_Log_length : PyI.mSs G ⟨N_Log_length, L2.defScope st_Log_length, true⟩ b_Log_length (L2.defBody st_Log_length) = true := by decide +kernel
def N_Log_after : List Str := ["self", "number"]
theorem sc_Log_after : L2.FnScope N_Log_after ["self", "number"] (L2.defScope st_Log_after) := ⟨rfl, rfl, rfl, by decide +kernel, rfl, by decide +kernel, by decide +kernel⟩
theorem mt_Log_after : PyI.mSs G ⟨N_Log_after, L2.defScope st_Log_after, true⟩ b_Log_after (L2.defBody st_Log_after) = true := by decide +kernel
def N_Log_cut : List Str := ["self", "number", "image"]
theorem sc_Log_cut : L2.FnScope N_Log_cut ["self", "number", "image"] (L2.defScope st_Log_cut) := ⟨rfl, rfl, rfl, by decide +kernel, rfl, by decide +kernel, by decide +kernel⟩
theorem mt_Log_cut : PyI.mSs G ⟨N_Log_cut, L2.defScope st_Log_cut, true⟩ b_Log_cut (L2.defBody st_Log_cut) = true := by decide +kernel
def N_Log_value : List Str := ["self"]
theorem sc_Log_value : L2.FnScope N_Log_value ["self"] (L2.defScope st_Log_value) := ⟨rfl, rfl, rfl, by decide +kernel, rfl, by decide +kernel, by decide +kernel⟩
theorem mt_Log_value : PyI.mSs G ⟨N_Log_value, L2.defScope st_Log_value, true⟩ b_Log_value (L2.defBody st_Log_value) = true := by decide +kernel
theorem all_mk {l : PySem.W.OpenLaw} {w : World} {K : PySem.W.Frag} {h : Heap} {mg : Str → Option Value} {fa f0 f1 f2 f3 f4 f5 f6 f7 f8 f9 f10 C0 E0 E1 p7 : Addr} (X : K.In h) (GG : h.Ns mainGlobals mg) (hfa : mg "law" = some (.ref fa))
    {r7 : List Value} {oc0 kV0 dc0 pm0 cd0 ct0 oc1 kV1 dc1 pm1 cd1 ct1 oc2 kV2 dc2 pm2 cd2 ct2 oc3 kV3 dc3 pm3 cd3 ct3 oc4 kV4 dc4 pm4 cd4 ct4 oc5 kV5 dc5 pm5 cd5 ct5 oc6 kV6 dc6 pm6 cd6 ct6 oc7 kV7 dc7 pm7 cd7 ct7 oc8 kV8 dc8 pm8 cd8 ct8 oc9 kV9 dc9 pm9 cd9 ct9 oc10 kV10 dc10 pm10 cd10 ct10 : Value} {od0 an0 od1 an1 od2 an2 od3 an3 od4 an4 od5 an5 od6 an6 od7 an7 od8 an8 od9 an9 od10 an10 : Option Addr} {sl0 sl1 sl2 sl3 sl4 sl5 sl6 sl7 sl8 sl9 sl10 : Array (Option Value)}
    (a0 : PySem.W.nsIn K mainGlobals "_law_stream" = some (some (.ref f0)))
    (a1 : PySem.W.nsIn K mainGlobals "_law_draw" = some (some (.ref f1)))
    (a2 : PySem.W.nsIn K mainGlobals "_law_large" = some (some (.ref f2)))
    (a3 : PySem.W.nsIn K mainGlobals "_law_record" = some (some (.ref f3)))
    (a4 : PySem.W.nsIn K mainGlobals "_law_cut" = some (some (.ref f4)))
    (a5 : PySem.W.nsIn K mainGlobals "law" = some (some (.ref f5)))
    (aC0 : PySem.W.nsIn K mainGlobals "Log" = some (some (.ref C0)))
    (a6 : PySem.W.findIn K (.ref C0) "__init__" = some (some (.ref f6)))
    (i6 : PySem.W.isFn K (.ref f6) = true)
    (a7 : PySem.W.findIn K (.ref C0) "length" = some (some (.ref p7)))
    (pg7 : PySem.W.specialIn K (.ref p7) "__get__" = some (some (.builtin "property.__get__")))
    (pt7 : PySem.W.takesIn K (.ref p7) = some true)
    (pr7 : PySem.W.recIn K p7 "property" = some (.ref f7 :: r7))
    (a8 : PySem.W.findIn K (.ref C0) "after" = some (some (.ref f8)))
    (i8 : PySem.W.isFn K (.ref f8) = true)
    (a9 : PySem.W.findIn K (.ref C0) "cut" = some (some (.ref f9)))
    (i9 : PySem.W.isFn K (.ref f9) = true)
    (a10 : PySem.W.findIn K (.ref C0) "value" = some (some (.ref f10)))
    (i10 : PySem.W.isFn K (.ref f10) = true)
    (l0 : K.lookup f0 = some ⟨oc0, od0, .func (PySem.W.fnOf "_law_stream" "_law_stream" (L2.defArgs st__law_stream) (L2.defBody st__law_stream) (L2.defScope st__law_stream) .none kV0 dc0 pm0 an0 cd0 ct0), sl0⟩)
    (c0 : PySem.W.codeIn K cd0 "_law_stream" = true)
    (k0 : PySem.W.keepIn K (.ref f0) = true)
    (l1 : K.lookup f1 = some ⟨oc1, od1, .func (PySem.W.fnOf "_law_draw" "_law_draw" (L2.defArgs st__law_draw) (L2.defBody st__law_draw) (L2.defScope st__law_draw) .none kV1 dc1 pm1 an1 cd1 ct1), sl1⟩)
    (c1 : PySem.W.codeIn K cd1 "_law_draw" = true)
    (k1 : PySem.W.keepIn K (.ref f1) = true)
    (l2 : K.lookup f2 = some ⟨oc2, od2, .func (PySem.W.fnOf "_law_large" "_law_large" (L2.defArgs st__law_large) (L2.defBody st__law_large) (L2.defScope st__law_large) .none kV2 dc2 pm2 an2 cd2 ct2), sl2⟩)
    (c2 : PySem.W.codeIn K cd2 "_law_large" = true)
    (k2 : PySem.W.keepIn K (.ref f2) = true)
    (l3 : K.lookup f3 = some ⟨oc3, od3, .func (PySem.W.fnOf "_law_record" "_law_record" (L2.defArgs st__law_record) (L2.defBody st__law_record) (L2.defScope st__law_record) .none kV3 dc3 pm3 an3 cd3 ct3), sl3⟩)
    (c3 : PySem.W.codeIn K cd3 "_law_record" = true)
    (k3 : PySem.W.keepIn K (.ref f3) = true)
    (l4 : K.lookup f4 = some ⟨oc4, od4, .func (PySem.W.fnOf "_law_cut" "_law_cut" (L2.defArgs st__law_cut) (L2.defBody st__law_cut) (L2.defScope st__law_cut) .none kV4 dc4 pm4 an4 cd4 ct4), sl4⟩)
    (c4 : PySem.W.codeIn K cd4 "_law_cut" = true)
    (k4 : PySem.W.keepIn K (.ref f4) = true)
    (l5 : K.lookup f5 = some ⟨oc5, od5, .func (PySem.W.fnOf "law" "law" (L2.defArgs st_law) (L2.defBody st_law) (L2.defScope st_law) .none kV5 dc5 pm5 an5 cd5 ct5), sl5⟩)
    (c5 : PySem.W.codeIn K cd5 "law" = true)
    (k5 : PySem.W.keepIn K (.ref f5) = true)
    (l6 : K.lookup f6 = some ⟨oc6, od6, .func (PySem.W.fnOf "__init__" "Log.__init__" (L2.defArgs st_Log___init__) (L2.defBody st_Log___init__) (L2.defScope st_Log___init__) .none kV6 dc6 pm6 an6 cd6 ct6), sl6⟩)
    (c6 : PySem.W.codeIn K cd6 "Log.__init__" = true)
    (k6 : PySem.W.keepIn K (.ref f6) = true)
    (l7 : K.lookup f7 = some ⟨oc7, od7, .func (PySem.W.fnOf "length" "Log.length" (L2.defArgs st_Log_length) (L2.defBody st_Log_length) (L2.defScope st_Log_length) .none kV7 dc7 pm7 an7 cd7 ct7), sl7⟩)
    (c7 : PySem.W.codeIn K cd7 "Log.length" = true)
    (k7 : PySem.W.keepIn K (.ref f7) = true)
    (l8 : K.lookup f8 = some ⟨oc8, od8, .func (PySem.W.fnOf "after" "Log.after" (L2.defArgs st_Log_after) (L2.defBody st_Log_after) (L2.defScope st_Log_after) .none kV8 dc8 pm8 an8 cd8 ct8), sl8⟩)
    (c8 : PySem.W.codeIn K cd8 "Log.after" = true)
    (k8 : PySem.W.keepIn K (.ref f8) = true)
    (l9 : K.lookup f9 = some ⟨oc9, od9, .func (PySem.W.fnOf "cut" "Log.cut" (L2.defArgs st_Log_cut) (L2.defBody st_Log_cut) (L2.defScope st_Log_cut) .none kV9 dc9 pm9 an9 cd9 ct9), sl9⟩)
    (c9 : PySem.W.codeIn K cd9 "Log.cut" = true)
    (k9 : PySem.W.keepIn K (.ref f9) = true)
    (l10 : K.lookup f10 = some ⟨oc10, od10, .func (PySem.W.fnOf "value" "Log.value" (L2.defArgs st_Log_value) (L2.defBody st_Log_value) (L2.defScope st_Log_value) .none kV10 dc10 pm10 an10 cd10 ct10), sl10⟩)
    (c10 : PySem.W.codeIn K cd10 "Log.value" = true)
    (k10 : PySem.W.keepIn K (.ref f10) = true)
    (pgC0 : PySem.W.plainGet K C0 Str.empty = true)
    (hdC0 : PySem.W.hasDictIn K C0 = true)
    (poC0 : PySem.W.plainOver K C0 = true)
    (saC0 : PySem.W.findIn K (.ref C0) "__setattr__" = some (some (.builtin "object.__setattr__")))
    (mkC0 : PySem.W.makesIn K C0 = true)
    (kcC0 : PySem.W.keepIn K (.ref C0) = true)
    (nf0_5 : PySem.W.findIn K (.ref C0) "base" = some none)
    (nf0_4 : PySem.W.findIn K (.ref C0) "image" = some none)
    (nf0_3 : PySem.W.findIn K (.ref C0) "records" = some none)
    (z0 : PySem.W.nsIn K mainGlobals "range" = some none)
    (z1 : PySem.W.nsIn K mainGlobals "int" = some none)
    (z2 : PySem.W.nsIn K mainGlobals "len" = some none)
    (z3 : PySem.W.nsIn K mainGlobals "isinstance" = some none)
    (z4 : PySem.W.nsIn K mainGlobals "tuple" = some none)
    (aE0 : PySem.W.nsIn K mainGlobals "OutOfRange" = some (some (.ref E0)))
    (aE1 : PySem.W.nsIn K mainGlobals "HallError" = some (some (.ref E1)))
    (zE2 : PySem.W.nsIn K mainGlobals "ValueError" = some none)
    (xE0 : PySem.W.excIn K E0 [.type "ValueError", .type "Exception", .type "BaseException", .type "object"] "ValueError.__new__" = true)
    (kE0 : PySem.W.keepIn K (.ref E0) = true)
    (bE0 : PySem.W.subIn K (.ref E0) (.type "BaseException") = some true)
    (tE0 : PySem.W.typeIn K (.ref E0) = some (.type "type"))
    (dE0 : PySem.W.hasDictIn K E0 = true)
    (xE1 : PySem.W.excIn K E1 [.type "ValueError", .type "Exception", .type "BaseException", .type "object"] "ValueError.__new__" = true)
    (kE1 : PySem.W.keepIn K (.ref E1) = true)
    (bE1 : PySem.W.subIn K (.ref E1) (.type "BaseException") = some true)
    (tE1 : PySem.W.typeIn K (.ref E1) = some (.type "type"))
    (dE1 : PySem.W.hasDictIn K E1 = true)
    (gE0 : PySem.W.findIn K (.ref E0) "__getattribute__" = some (some (.builtin "BaseException.__getattribute__")))
    (hE0 : PySem.W.findIn K (.ref E0) "__getattr__" = some none)
    (jE0 : PySem.W.findIn K (.ref E0) "__class__" = some (some (.builtin "object.__class__")))
    (mE0 : PySem.W.mroIn K E0 (.type "object") = some true)
    (nE : PySem.W.specialIn K (.builtin "object.__class__") "__get__" = some (some (.builtin "getset_descriptor.__get__")))
    (oE : PySem.W.takesIn K (.builtin "object.__class__") = some true)
    (sE0_0 : PySem.W.subIn K (.ref E0) (.ref E0) = some true)
    (kt0_0 : PySem.W.kitOne K (.ref E0) (.ref E0) = some true)
    (sE0_1 : PySem.W.subIn K (.ref E0) (.ref E1) = some true)
    (kt0_1 : PySem.W.kitOne K (.ref E0) (.ref E1) = some true)
    (sE0_2 : PySem.W.exmOne K (.ref E0) (.type "ValueError") = some true)
    (kt0_2 : PySem.W.kitOne K (.ref E0) (.type "ValueError") = some true)
    : ∃ (G : PyI.Gam) (T : PyI.Tab2), PyI.Wd P G T K mg ∧ PyI.FnF P G T K ∧ T.fn 5 = fa ∧ T.ps 5 = (["_law_script"] : List Str) ∧ ∀ (s : Shared) (u : Value), BindsTo s (T.fd 5) ⟨[u], []⟩ [("_law_script", u)] := by
  have e := hfa.symm.trans (PySem.W.mg_of X GG a5)
  cases e
  have F0 := L2.fun_mk (st := st__law_stream) l0 c0 k0
  have b0 := F0.binds (ps := ["_law_script", "_law_many"]) fun _ _ _ _ _ _ us hl => match us, hl with | [_, _], _ => rfl
  have F1 := L2.fun_mk (st := st__law_draw) l1 c1 k1
  have b1 := F1.binds (ps := ["_law_draws", "_law_k"]) fun _ _ _ _ _ _ us hl => match us, hl with | [_, _], _ => rfl
  have F2 := L2.fun_mk (st := st__law_large) l2 c2 k2
  have b2 := F2.binds (ps := ["_law_draws", "_law_k"]) fun _ _ _ _ _ _ us hl => match us, hl with | [_, _], _ => rfl
  have F3 := L2.fun_mk (st := st__law_record) l3 c3 k3
  have b3 := F3.binds (ps := ["_law_draw_here"]) fun _ _ _ _ _ _ us hl => match us, hl with | [_], _ => rfl
  have F4 := L2.fun_mk (st := st__law_cut) l4 c4 k4
  have b4 := F4.binds (ps := ["_law_log", "_law_number", "_law_image"]) fun _ _ _ _ _ _ us hl => match us, hl with | [_, _, _], _ => rfl
  have F5 := L2.fun_mk (st := st_law) l5 c5 k5
  have b5 := F5.binds (ps := ["_law_script"]) fun _ _ _ _ _ _ us hl => match us, hl with | [_], _ => rfl
  have F6 := L2.fun_mk (st := st_Log___init__) l6 c6 k6
  have b6 := F6.binds (ps := ["self", "base", "image", "records"]) fun _ _ _ _ _ _ us hl => match us, hl with | [_, _, _, _], _ => rfl
  have F7 := L2.fun_mk (st := st_Log_length) l7 c7 k7
  have b7 := F7.binds (ps := ["self"]) fun _ _ _ _ _ _ us hl => match us, hl with | [_], _ => rfl
  have F8 := L2.fun_mk (st := st_Log_after) l8 c8 k8
  have b8 := F8.binds (ps := ["self", "number"]) fun _ _ _ _ _ _ us hl => match us, hl with | [_, _], _ => rfl
  have F9 := L2.fun_mk (st := st_Log_cut) l9 c9 k9
  have b9 := F9.binds (ps := ["self", "number", "image"]) fun _ _ _ _ _ _ us hl => match us, hl with | [_, _, _], _ => rfl
  have F10 := L2.fun_mk (st := st_Log_value) l10 c10 k10
  have b10 := F10.binds (ps := ["self"]) fun _ _ _ _ _ _ us hl => match us, hl with | [_], _ => rfl
  let T : PyI.Tab2 := PyI.mkT [C0] [.ref E0, .ref E1, .type "ValueError"] [f0, f1, f2, f3, f4, fa, f6, f7, f8, f9, f10] G.nms (PySem.W.fnOf "_law_stream" "_law_stream" (L2.defArgs st__law_stream) (L2.defBody st__law_stream) (L2.defScope st__law_stream) .none kV0 dc0 pm0 an0 cd0 ct0) [PySem.W.fnOf "_law_stream" "_law_stream" (L2.defArgs st__law_stream) (L2.defBody st__law_stream) (L2.defScope st__law_stream) .none kV0 dc0 pm0 an0 cd0 ct0, PySem.W.fnOf "_law_draw" "_law_draw" (L2.defArgs st__law_draw) (L2.defBody st__law_draw) (L2.defScope st__law_draw) .none kV1 dc1 pm1 an1 cd1 ct1, PySem.W.fnOf "_law_large" "_law_large" (L2.defArgs st__law_large) (L2.defBody st__law_large) (L2.defScope st__law_large) .none kV2 dc2 pm2 an2 cd2 ct2, PySem.W.fnOf "_law_record" "_law_record" (L2.defArgs st__law_record) (L2.defBody st__law_record) (L2.defScope st__law_record) .none kV3 dc3 pm3 an3 cd3 ct3, PySem.W.fnOf "_law_cut" "_law_cut" (L2.defArgs st__law_cut) (L2.defBody st__law_cut) (L2.defScope st__law_cut) .none kV4 dc4 pm4 an4 cd4 ct4, PySem.W.fnOf "law" "law" (L2.defArgs st_law) (L2.defBody st_law) (L2.defScope st_law) .none kV5 dc5 pm5 an5 cd5 ct5, PySem.W.fnOf "__init__" "Log.__init__" (L2.defArgs st_Log___init__) (L2.defBody st_Log___init__) (L2.defScope st_Log___init__) .none kV6 dc6 pm6 an6 cd6 ct6, PySem.W.fnOf "length" "Log.length" (L2.defArgs st_Log_length) (L2.defBody st_Log_length) (L2.defScope st_Log_length) .none kV7 dc7 pm7 an7 cd7 ct7, PySem.W.fnOf "after" "Log.after" (L2.defArgs st_Log_after) (L2.defBody st_Log_after) (L2.defScope st_Log_after) .none kV8 dc8 pm8 an8 cd8 ct8, PySem.W.fnOf "cut" "Log.cut" (L2.defArgs st_Log_cut) (L2.defBody st_Log_cut) (L2.defScope st_Log_cut) .none kV9 dc9 pm9 an9 cd9 ct9, PySem.W.fnOf "value" "Log.value" (L2.defArgs st_Log_value) (L2.defBody st_Log_value) (L2.defScope st_Log_value) .none kV10 dc10 pm10 an10 cd10 ct10] [["_law_script", "_law_many"], ["_law_draws", "_law_k"], ["_law_draws", "_law_k"], ["_law_draw_here"], ["_law_log", "_law_number", "_law_image"], ["_law_script"], ["self", "base", "image", "records"], ["self"], ["self", "number"], ["self", "number", "image"], ["self"]] (by decide +kernel)
  refine ⟨G, T, ?_, ?_, rfl, rfl, fun s v => .of_eq rfl⟩
  · exact {
      blt := PyI.memAll.get (show PyI.memAll _ G.blt from And.intro (PySem.W.mg_none_of X GG z0) (And.intro (PySem.W.mg_none_of X GG z1) (And.intro (PySem.W.mg_none_of X GG z2) (And.intro (PySem.W.mg_none_of X GG z3) (And.intro (PySem.W.mg_none_of X GG z4) (trivial))))))
      fns := PyI.ixAll.get (show PyI.ixAll _ 0 G.fnm from And.intro (⟨by decide, PySem.W.mg_of X GG a0, k0⟩) (And.intro (⟨by decide, PySem.W.mg_of X GG a1, k1⟩) (And.intro (⟨by decide, PySem.W.mg_of X GG a2, k2⟩) (And.intro (⟨by decide, PySem.W.mg_of X GG a3, k3⟩) (And.intro (⟨by decide, PySem.W.mg_of X GG a4, k4⟩) (And.intro (⟨by decide, PySem.W.mg_of X GG a5, k5⟩) (trivial)))))))
      bnd := PyI.ixAll.get (show PyI.ixAll (fun i (F : PyI.Fn) => L2.Binds K (T.fd i) (T.ps i) []) 0 P.fns from And.intro (b0) (And.intro (b1) (And.intro (b2) (And.intro (b3) (And.intro (b4) (And.intro (b5) (And.intro (b6) (And.intro (b7) (And.intro (b8) (And.intro (b9) (And.intro (b10) (trivial))))))))))))
      kon := PyI.ixAll.get (show PyI.ixAll _ 0 G.knm from trivial)
      nms := fun i x h => PyI.nmF_of h
      cls := PyI.ixAll.get (show PyI.ixAll _ 0 P.cls from And.intro (⟨⟨pgC0, hdC0, poC0, saC0⟩, PyI.memAll.get (And.intro (nf0_5) (And.intro (nf0_4) (And.intro (nf0_3) (trivial)))), fun m g h => PyI.memAll.look (R := fun p => p.2 < P.fns.length ∧ L2.Meth K C0 (T.nm p.1) (T.fn p.2)) (xs := [(7, 8), (1, 9), (2, 10)]) (And.intro (⟨by decide, ⟨a8, i8, k8⟩⟩) (And.intro (⟨by decide, ⟨a9, i9, k9⟩⟩) (And.intro (⟨by decide, ⟨a10, i10, k10⟩⟩) (trivial)))) m g h, fun m g h => PyI.memAll.look (R := fun p => p.2 < P.fns.length ∧ ∃ q, L2.PropOf K C0 (T.nm p.1) q (T.fn p.2)) (xs := [(6, 7)]) (And.intro (⟨by decide, p7, ⟨a7, pg7, pt7, r7, pr7⟩⟩) (trivial)) m g h, by decide, ⟨mkC0, a6, i6, kcC0⟩⟩) (trivial))
      cnm := PyI.ixAll.get (show PyI.ixAll _ 0 G.cnm from And.intro (⟨by decide, PySem.W.mg_of X GG aC0⟩) (trivial))
      rse := fun d x h1 h2 => PyI.ixAll.get (show PyI.ixAll (fun d x => d < G.nx → PyI.RseF K mg T d x) 0 G.xnm from And.intro (fun _ => ⟨E0, "ValueError", _, _, [.type "ValueError", .type "Exception", .type "BaseException", .type "object"], rfl, PySem.W.mg_of X GG aE0, kE0, PySem.F.excBase_ValueError, xE0, bE0, tE0⟩) (And.intro (fun h => absurd h (by decide)) (And.intro (fun h => absurd h (by decide)) (trivial)))) d x h2 h1
      exn := PyI.ixAll.get (show PyI.ixAll _ 0 G.xnm from And.intro (.inl (PySem.W.mg_of X GG aE0)) (And.intro (.inl (PySem.W.mg_of X GG aE1)) (And.intro (.inr ⟨PySem.W.mg_none_of X GG zE2, (show PySem.bootBuiltins "ValueError" = some (.type "ValueError") by decide +kernel)⟩) (trivial))))
      exm := PyI.exc_tab (show PyI.ixAll (fun e row => PyI.ixAll (fun d b => _) 0 row) 0 _ from And.intro (And.intro (⟨PySem.W.exm_ref bE0 dE0 tE0 sE0_0, kt0_0, E0, rfl, ⟨gE0, hE0, bE0, dE0, jE0, nE, oE, mE0⟩⟩) (And.intro (⟨PySem.W.exm_ref bE1 dE1 tE1 sE0_1, kt0_1, E0, rfl, ⟨gE0, hE0, bE0, dE0, jE0, nE, oE, mE0⟩⟩) (And.intro (⟨sE0_2, kt0_2, E0, rfl, ⟨gE0, hE0, bE0, dE0, jE0, nE, oE, mE0⟩⟩) (trivial)))) (trivial))
      exv := PyI.ixAll.get (show PyI.ixAll _ 0 G.xnm from And.intro (PyI.exv_own E0) (And.intro (PyI.exv_own E1) (And.intro (PyI.exv_ty "ValueError") (trivial)))) }
  · exact ⟨PyI.ixAll.get (show PyI.ixAll _ 0 P.fns from And.intro (⟨"_law_stream", "_law_stream", st__law_stream, N__law_stream, F0, sc__law_stream, rfl, rfl, mt__law_stream⟩) (And.intro (⟨"_law_draw", "_law_draw", st__law_draw, N__law_draw, F1, sc__law_draw, rfl, rfl, mt__law_draw⟩) (And.intro (⟨"_law_large", "_law_large", st__law_large, N__law_large, F2, sc__law_large, rfl, rfl, mt__law_large⟩) (And.intro (⟨"_law_record", "_law_record", st__law_record, N__law_record, F3, sc__law_record, rfl, rfl, mt__law_record⟩) (And.intro (⟨"_law_cut", "_law_cut", st__law_cut, N__law_cut, F4, sc__law_cut, rfl, rfl, mt__law_cut⟩) (And.intro (⟨"law", "law", st_law, N_law, F5, sc_law, rfl, rfl, mt_law⟩) (And.intro (⟨"__init__", "Log.__init__", st_Log___init__, N_Log___init__, F6, sc_Log___init__, rfl, rfl, mt_Log___init__⟩) (And.intro (⟨"length", "Log.length", st_Log_length, N_Log_length, F7, sc_Log_length, rfl, rfl, mt_Log_length⟩) (And.intro (⟨"after", "Log.after", st_Log_after, N_Log_after, F8, sc_Log_after, rfl, rfl, mt_Log_after⟩) (And.intro (⟨"cut", "Log.cut", st_Log_cut, N_Log_cut, F9, sc_Log_cut, rfl, rfl, mt_Log_cut⟩) (And.intro (⟨"value", "Log.value", st_Log_value, N_Log_value, F10, sc_Log_value, rfl, rfl, mt_Log_value⟩) (trivial))))))))))))⟩
end PyLaw
namespace PyLaw
open PyI
def logO (b : Int) (im : Val) (rs : List Val) : Ob := .ins 0 [(5, .int b), (4, im), (3, .tup rs)]
section
variable {k a : Nat} {h : Mem} {b : Int} {im : Val} {rs : List Val} {call : Nat → List Val → Mem → Res Val}
theorem a_base (ha : h[a]? = some (logO b im rs)) : attV P call 5 (.ref a) h = .ok (.int b) h := by
  unfold attV
  simp only [ha, logO]
  rfl
theorem a_image (ha : h[a]? = some (logO b im rs)) : attV P call 4 (.ref a) h = .ok im h := by
  unfold attV
  simp only [ha, logO]
  rfl
theorem a_recs (ha : h[a]? = some (logO b im rs)) : attV P call 3 (.ref a) h = .ok (.tup rs) h := by
  unfold attV
  simp only [ha, logO]
  rfl
theorem o_init (ha : h[a]? = some (.ins 0 [])) : run P (k + 2) 6 [.ref a, .int b, im, .tup rs] h = .ok .non (h.set a (logO b im rs)) := by
  show fin (exs P _ _ b_Log___init__ [some (.ref a), some (.int b), some im, some (.tup rs)] h) = _
  have hl : a < h.length := (List.getElem?_eq_some_iff.mp ha).1
  have f5 : fldF P 0 5 = true := rfl
  have f4 : fldF P 0 4 = true := rfl
  have f3 : fldF P 0 3 = true := rfl
  unfold b_Log___init__
  simp only [exs, ex, PyI.ev, lift_ok, List.getElem?_cons_zero, List.getElem?_cons_succ, setA, ha, f5, f4, f3, List.length_nil, List.length_cons, Bool.true_and, Nat.reduceAdd, show decide (0 < 1000) = true from rfl, show decide (1 < 1000) = true from rfl, show decide (2 < 1000) = true from rfl, if_true, SR.of, SR.andThen, fin, List.getElem?_set_self hl, fput, List.set_set, List.length_set, show ¬ (5 = 4) by decide, show ¬ (5 = 3) by decide, show ¬ (4 = 3) by decide, if_false]
  rfl
theorem o_len (ha : h[a]? = some (logO b im rs)) : run P (k + 2) 7 [.ref a] h = .ok (.int (b + rs.length)) h := by
  refine sat_run (run_sat rfl rfl ?_)
  show (exs P _ _ b_Log_length [some (.ref a)] h).sat _
  unfold b_Log_length
  refine st_cons (st_ret ?_)
  simp only [PyI.ev, PyI.evs, PyI.evo, PyI.evt, PyI.evc, PyI.evi, PyI.Res.bind_ok, PyI.sat_ok_iff, PyI.ssat_ok_iff, PyI.Lit.val, PyI.bltV, PyI.binV, PyI.cmpV, PyI.eqV, PyI.Tgt.put, PyI.lenV, PyI.pure, PyI.new, PyI.noFld, PyI.hasM, PyI.metV, PyI.bmV, PyI.kindV, PyI.isiV, PyI.tru, PyI.small_of, PyI.big_of, PyI.andQ, PyI.loopQ, PyI.b2i, List.getElem?_cons_zero, List.getElem?_cons_succ, List.set_cons_zero, List.set_cons_succ, Option.map_some, Option.bind_some, Option.some.injEq, exists_eq_left', exists_eq_left, Bool.false_eq_true, Bool.and_true, Bool.true_and, if_true, if_false, reduceIte, List.length_cons, List.length_nil, List.length_map, Int.reduceLT, Int.reduceLE, Int.reduceNeg, Int.reducePow, Nat.reduceAdd, Nat.reduceLT, decide_true, decide_false, and_true, true_and, and_self, Bool.not_true, Bool.not_false, Bool.or_true, Bool.true_or, Bool.or_false, Bool.false_or, Int.cast_ofNat_Int, true_implies, true_or, or_true, or_false, false_or, reduceCtorEq, implies_true, false_implies, a_base ha, a_recs ha]
theorem a_len (ha : h[a]? = some (logO b im rs)) : attV P (run P (k + 2)) 6 (.ref a) h = .ok (.int (b + rs.length)) h := by
  unfold attV
  have hp : prpF P 0 6 = some 7 := rfl
  simp only [ha, logO, hp]
  rw [o_len ha]
theorem o_value (ha : h[a]? = some (logO b im rs)) : run P (k + 2) 10 [.ref a] h = .ok (.tup [.int b, im, .tup rs]) h := by
  refine sat_run (run_sat rfl rfl ?_)
  show (exs P _ _ b_Log_value [some (.ref a)] h).sat _
  unfold b_Log_value
  have s3 : (3 : Nat) ≤ szl := by have : szl = 16777216 := rfl; omega
  refine st_cons (st_ret ?_)
  simp only [PyI.ev, PyI.evs, PyI.evo, PyI.evt, PyI.evc, PyI.evi, PyI.Res.bind_ok, PyI.sat_ok_iff, PyI.ssat_ok_iff, PyI.Lit.val, PyI.bltV, PyI.binV, PyI.cmpV, PyI.eqV, PyI.Tgt.put, PyI.lenV, PyI.pure, PyI.new, PyI.noFld, PyI.hasM, PyI.metV, PyI.bmV, PyI.kindV, PyI.isiV, PyI.tru, PyI.small_of, PyI.big_of, PyI.andQ, PyI.loopQ, PyI.b2i, List.getElem?_cons_zero, List.getElem?_cons_succ, List.set_cons_zero, List.set_cons_succ, Option.map_some, Option.bind_some, Option.some.injEq, exists_eq_left', exists_eq_left, Bool.false_eq_true, Bool.and_true, Bool.true_and, if_true, if_false, reduceIte, List.length_cons, List.length_nil, List.length_map, Int.reduceLT, Int.reduceLE, Int.reduceNeg, Int.reducePow, Nat.reduceAdd, Nat.reduceLT, decide_true, decide_false, and_true, true_and, and_self, Bool.not_true, Bool.not_false, Bool.or_true, Bool.true_or, Bool.or_false, Bool.false_or, Int.cast_ofNat_Int, true_implies, true_or, or_true, or_false, false_or, reduceCtorEq, implies_true, false_implies, a_base ha, a_recs ha, a_image ha, s3]
theorem o_after {f : Int} (ha : h[a]? = some (logO b im rs)) (h1 : b ≤ f) (h2 : f ≤ b + rs.length) : run P (k + 4) 8 [.ref a, .int f] h = .ok (.tup (rs.drop (f - b).toNat)) h := by
  refine sat_run (run_sat (k := k + 2) rfl rfl ?_)
  show (exs P (run P (k + 3)) (run P (k + 2)) b_Log_after [some (.ref a), some (.int f)] h).sat _
  unfold b_Log_after
  refine st_cons (st_ite ?_)
  simp only [PyI.ev, PyI.evs, PyI.evo, PyI.evt, PyI.evc, PyI.evi, PyI.Res.bind_ok, PyI.sat_ok_iff, PyI.ssat_ok_iff, PyI.Lit.val, PyI.bltV, PyI.binV, PyI.cmpV, PyI.eqV, PyI.Tgt.put, PyI.lenV, PyI.pure, PyI.new, PyI.noFld, PyI.hasM, PyI.metV, PyI.bmV, PyI.kindV, PyI.isiV, PyI.tru, PyI.small_of, PyI.big_of, PyI.andQ, PyI.loopQ, PyI.b2i, List.getElem?_cons_zero, List.getElem?_cons_succ, List.set_cons_zero, List.set_cons_succ, Option.map_some, Option.bind_some, Option.some.injEq, exists_eq_left', exists_eq_left, Bool.false_eq_true, Bool.and_true, Bool.true_and, if_true, if_false, reduceIte, List.length_cons, List.length_nil, List.length_map, Int.reduceLT, Int.reduceLE, Int.reduceNeg, Int.reducePow, Nat.reduceAdd, Nat.reduceLT, decide_true, decide_false, and_true, true_and, and_self, Bool.not_true, Bool.not_false, Bool.or_true, Bool.true_or, Bool.or_false, Bool.false_or, Int.cast_ofNat_Int, true_implies, true_or, or_true, or_false, false_or, reduceCtorEq, implies_true, false_implies, a_base ha, a_len ha, h1, h2]
  refine st_nil (st_cons (st_ret ?_))
  simp only [PyI.ev, PyI.evs, PyI.evo, PyI.evt, PyI.evc, PyI.evi, PyI.Res.bind_ok, PyI.sat_ok_iff, PyI.ssat_ok_iff, PyI.Lit.val, PyI.bltV, PyI.binV, PyI.cmpV, PyI.eqV, PyI.Tgt.put, PyI.lenV, PyI.pure, PyI.new, PyI.noFld, PyI.hasM, PyI.metV, PyI.bmV, PyI.kindV, PyI.isiV, PyI.tru, PyI.small_of, PyI.big_of, PyI.andQ, PyI.loopQ, PyI.b2i, List.getElem?_cons_zero, List.getElem?_cons_succ, List.set_cons_zero, List.set_cons_succ, Option.map_some, Option.bind_some, Option.some.injEq, exists_eq_left', exists_eq_left, Bool.false_eq_true, Bool.and_true, Bool.true_and, if_true, if_false, reduceIte, List.length_cons, List.length_nil, List.length_map, Int.reduceLT, Int.reduceLE, Int.reduceNeg, Int.reducePow, Nat.reduceAdd, Nat.reduceLT, decide_true, decide_false, and_true, true_and, and_self, Bool.not_true, Bool.not_false, Bool.or_true, Bool.true_or, Bool.or_false, Bool.false_or, Int.cast_ofNat_Int, true_implies, true_or, or_true, or_false, false_or, reduceCtorEq, implies_true, false_implies, a_base ha, a_recs ha, PyI.slV, cut_drop (xs := rs) (show 0 ≤ f - b by omega)]
theorem o_cut {f : Int} {im2 : Val} (ha : h[a]? = some (logO b im rs)) (h1 : b ≤ f) : run P (k + 5) 9 [.ref a, .int f, im2] h = .ok (.ref h.length) (h ++ [logO f im2 (rs.drop (f - b).toNat)]) := by
  refine sat_run (run_sat (k := k + 3) rfl rfl ?_)
  show (exs P (run P (k + 4)) (run P (k + 3)) b_Log_cut [some (.ref a), some (.int f), some im2] h).sat _
  unfold b_Log_cut
  have hc : P.cls[0]? = some ⟨6, [(7, 8), (1, 9), (2, 10)], [(6, 7)], [5, 4, 3]⟩ := rfl
  have hi : ∀ z, run P (k + 3) 6 [.ref h.length, .int f, im2, .tup z] (h ++ [.ins 0 []]) = .ok .non (h ++ [logO f im2 z]) := fun z => by rw [o_init (k := k + 1) (by simp)]; simp
  have ha' : h[a]? = some (.ins 0 [(5, .int b), (4, im), (3, .tup rs)]) := ha
  have m7 : metF P 0 7 = some 8 := rfl
  refine st_cons (st_ite ?_)
  simp only [PyI.ev, PyI.evs, PyI.evo, PyI.evt, PyI.evc, PyI.evi, PyI.Res.bind_ok, PyI.sat_ok_iff, PyI.ssat_ok_iff, PyI.Lit.val, PyI.bltV, PyI.binV, PyI.cmpV, PyI.eqV, PyI.Tgt.put, PyI.lenV, PyI.pure, PyI.new, PyI.noFld, PyI.hasM, PyI.metV, PyI.bmV, PyI.kindV, PyI.isiV, PyI.tru, PyI.small_of, PyI.big_of, PyI.andQ, PyI.loopQ, PyI.b2i, List.getElem?_cons_zero, List.getElem?_cons_succ, List.set_cons_zero, List.set_cons_succ, Option.map_some, Option.bind_some, Option.some.injEq, exists_eq_left', exists_eq_left, Bool.false_eq_true, Bool.and_true, Bool.true_and, if_true, if_false, reduceIte, List.length_cons, List.length_nil, List.length_map, Int.reduceLT, Int.reduceLE, Int.reduceNeg, Int.reducePow, Nat.reduceAdd, Nat.reduceLT, decide_true, decide_false, and_true, true_and, and_self, Bool.not_true, Bool.not_false, Bool.or_true, Bool.true_or, Bool.or_false, Bool.false_or, Int.cast_ofNat_Int, true_implies, true_or, or_true, or_false, false_or, reduceCtorEq, implies_true, false_implies, a_base ha, show ¬ f < b by omega]
  refine st_nil (st_cons (st_ite ?_))
  simp only [PyI.ev, PyI.evs, PyI.evo, PyI.evt, PyI.evc, PyI.evi, PyI.Res.bind_ok, PyI.sat_ok_iff, PyI.ssat_ok_iff, PyI.Lit.val, PyI.bltV, PyI.binV, PyI.cmpV, PyI.eqV, PyI.Tgt.put, PyI.lenV, PyI.pure, PyI.new, PyI.noFld, PyI.hasM, PyI.metV, PyI.bmV, PyI.kindV, PyI.isiV, PyI.tru, PyI.small_of, PyI.big_of, PyI.andQ, PyI.loopQ, PyI.b2i, List.getElem?_cons_zero, List.getElem?_cons_succ, List.set_cons_zero, List.set_cons_succ, Option.map_some, Option.bind_some, Option.some.injEq, exists_eq_left', exists_eq_left, Bool.false_eq_true, Bool.and_true, Bool.true_and, if_true, if_false, reduceIte, List.length_cons, List.length_nil, List.length_map, Int.reduceLT, Int.reduceLE, Int.reduceNeg, Int.reducePow, Nat.reduceAdd, Nat.reduceLT, decide_true, decide_false, and_true, true_and, and_self, Bool.not_true, Bool.not_false, Bool.or_true, Bool.true_or, Bool.or_false, Bool.false_or, Int.cast_ofNat_Int, true_implies, true_or, or_true, or_false, false_or, reduceCtorEq, implies_true, false_implies, a_len (k := k + 1) ha]
  refine ⟨fun hg => st_cons (st_ret ?_), fun hg => st_nil (st_cons (st_ret ?_))⟩
  · have hg := of_decide_eq_true hg
    have e0 : rs.drop (f - b).toNat = [] := List.drop_of_length_le (by omega)
    simp only [PyI.ev, PyI.evs, PyI.evo, PyI.evt, PyI.evc, PyI.evi, PyI.Res.bind_ok, PyI.sat_ok_iff, PyI.ssat_ok_iff, PyI.Lit.val, PyI.bltV, PyI.binV, PyI.cmpV, PyI.eqV, PyI.Tgt.put, PyI.lenV, PyI.pure, PyI.new, PyI.noFld, PyI.hasM, PyI.metV, PyI.bmV, PyI.kindV, PyI.isiV, PyI.tru, PyI.small_of, PyI.big_of, PyI.andQ, PyI.loopQ, PyI.b2i, List.getElem?_cons_zero, List.getElem?_cons_succ, List.set_cons_zero, List.set_cons_succ, Option.map_some, Option.bind_some, Option.some.injEq, exists_eq_left', exists_eq_left, Bool.false_eq_true, Bool.and_true, Bool.true_and, if_true, if_false, reduceIte, List.length_cons, List.length_nil, List.length_map, Int.reduceLT, Int.reduceLE, Int.reduceNeg, Int.reducePow, Nat.reduceAdd, Nat.reduceLT, decide_true, decide_false, and_true, true_and, and_self, Bool.not_true, Bool.not_false, Bool.or_true, Bool.true_or, Bool.or_false, Bool.false_or, Int.cast_ofNat_Int, true_implies, true_or, or_true, or_false, false_or, reduceCtorEq, implies_true, false_implies, hc, hi, e0, Nat.zero_le]
  · have hg := of_decide_eq_false hg
    simp only [PyI.ev, PyI.evs, PyI.evo, PyI.evt, PyI.evc, PyI.evi, PyI.Res.bind_ok, PyI.sat_ok_iff, PyI.ssat_ok_iff, PyI.Lit.val, PyI.bltV, PyI.binV, PyI.cmpV, PyI.eqV, PyI.Tgt.put, PyI.lenV, PyI.pure, PyI.new, PyI.noFld, PyI.hasM, PyI.metV, PyI.bmV, PyI.kindV, PyI.isiV, PyI.tru, PyI.small_of, PyI.big_of, PyI.andQ, PyI.loopQ, PyI.b2i, List.getElem?_cons_zero, List.getElem?_cons_succ, List.set_cons_zero, List.set_cons_succ, Option.map_some, Option.bind_some, Option.some.injEq, exists_eq_left', exists_eq_left, Bool.false_eq_true, Bool.and_true, Bool.true_and, if_true, if_false, reduceIte, List.length_cons, List.length_nil, List.length_map, Int.reduceLT, Int.reduceLE, Int.reduceNeg, Int.reducePow, Nat.reduceAdd, Nat.reduceLT, decide_true, decide_false, and_true, true_and, and_self, Bool.not_true, Bool.not_false, Bool.or_true, Bool.true_or, Bool.or_false, Bool.false_or, Int.cast_ofNat_Int, true_implies, true_or, or_true, or_false, false_or, reduceCtorEq, implies_true, false_implies, hc, hi, ha', m7, List.lookup_cons, List.lookup_nil, show (7 == 5) = false from rfl, show (7 == 4) = false from rfl, show (7 == 3) = false from rfl, Option.isNone_none, Option.isSome_some, Bool.and_self, o_after (k := k) ha h1 (by omega)]
theorem o_cutE {f : Int} {im2 : Val} (ha : h[a]? = some (logO b im rs)) (h1 : f < b) : run P (k + 5) 9 [.ref a, .int f, im2] h = .exc 0 h := by
  show fin (exs P (run P (k + 4)) (run P (k + 3)) b_Log_cut [some (.ref a), some (.int f), some im2] h) = _
  unfold b_Log_cut
  simp only [exs, ex, PyI.ev, PyI.evs, PyI.evo, PyI.evt, PyI.evc, PyI.evi, PyI.Res.bind_ok, PyI.sat_ok_iff, PyI.ssat_ok_iff, PyI.Lit.val, PyI.bltV, PyI.binV, PyI.cmpV, PyI.eqV, PyI.Tgt.put, PyI.lenV, PyI.pure, PyI.new, PyI.noFld, PyI.hasM, PyI.metV, PyI.bmV, PyI.kindV, PyI.isiV, PyI.tru, PyI.small_of, PyI.big_of, PyI.andQ, PyI.loopQ, PyI.b2i, List.getElem?_cons_zero, List.getElem?_cons_succ, List.set_cons_zero, List.set_cons_succ, Option.map_some, Option.bind_some, Option.some.injEq, exists_eq_left', exists_eq_left, Bool.false_eq_true, Bool.and_true, Bool.true_and, if_true, if_false, reduceIte, List.length_cons, List.length_nil, List.length_map, Int.reduceLT, Int.reduceLE, Int.reduceNeg, Int.reducePow, Nat.reduceAdd, Nat.reduceLT, decide_true, decide_false, and_true, true_and, and_self, Bool.not_true, Bool.not_false, Bool.or_true, Bool.true_or, Bool.or_false, Bool.false_or, Int.cast_ofNat_Int, true_implies, true_or, or_true, or_false, false_or, reduceCtorEq, implies_true, false_implies, a_base ha, h1, lift_ok, SR.andThen, fin]
theorem o_lawcut {f : Int} {im2 : Val} (ha : h[a]? = some (logO b im rs)) (h1 : b ≤ f) : run P (k + 6) 4 [.ref a, .int f, im2] h = .ok (.tup [.int f, im2, .tup (rs.drop (f - b).toNat)]) (h ++ [logO f im2 (rs.drop (f - b).toNat)]) := by
  have m1 : metF P 0 1 = some 9 := rfl
  have m2 : metF P 0 2 = some 10 := rfl
  show fin (exs P (run P (k + 5)) (run P (k + 4)) b__law_cut [some (.ref a), some (.int f), some im2, none] h) = _
  unfold b__law_cut
  have e1 := o_cut (k := k) (im2 := im2) ha h1
  have ha' : h[a]? = some (.ins 0 [(5, .int b), (4, im), (3, .tup rs)]) := ha
  have hv := o_value (k := k + 3) (a := h.length) (h := h ++ [logO f im2 (rs.drop (f - b).toNat)]) getL
  have hg : (h ++ [logO f im2 (rs.drop (f - b).toNat)])[h.length]? = some (.ins 0 [(5, .int f), (4, im2), (3, .tup (rs.drop (f - b).toNat))]) := getL
  simp only [exs, ex, PyI.ev, PyI.evs, PyI.evo, PyI.evt, PyI.evc, PyI.evi, PyI.Res.bind_ok, PyI.sat_ok_iff, PyI.ssat_ok_iff, PyI.Lit.val, PyI.bltV, PyI.binV, PyI.cmpV, PyI.eqV, PyI.Tgt.put, PyI.lenV, PyI.pure, PyI.new, PyI.noFld, PyI.hasM, PyI.metV, PyI.bmV, PyI.kindV, PyI.isiV, PyI.tru, PyI.small_of, PyI.big_of, PyI.andQ, PyI.loopQ, PyI.b2i, List.getElem?_cons_zero, List.getElem?_cons_succ, List.set_cons_zero, List.set_cons_succ, Option.map_some, Option.bind_some, Option.some.injEq, exists_eq_left', exists_eq_left, Bool.false_eq_true, Bool.and_true, Bool.true_and, if_true, if_false, reduceIte, List.length_cons, List.length_nil, List.length_map, Int.reduceLT, Int.reduceLE, Int.reduceNeg, Int.reducePow, Nat.reduceAdd, Nat.reduceLT, decide_true, decide_false, and_true, true_and, and_self, Bool.not_true, Bool.not_false, Bool.or_true, Bool.true_or, Bool.or_false, Bool.false_or, Int.cast_ofNat_Int, true_implies, true_or, or_true, or_false, false_or, reduceCtorEq, implies_true, false_implies, ha', m1, m2, List.lookup_cons, List.lookup_nil, show (1 == 5) = false from rfl, show (1 == 4) = false from rfl, show (1 == 3) = false from rfl, show (2 == 5) = false from rfl, show (2 == 4) = false from rfl, show (2 == 3) = false from rfl, Option.isNone_none, Option.isSome_some, Bool.and_self, e1, hg, hv, lift_ok, SR.andThen, fin]
theorem o_lawcutE {f : Int} {im2 : Val} (ha : h[a]? = some (logO b im rs)) (h1 : f < b) : run P (k + 6) 4 [.ref a, .int f, im2] h = .ok (.tup [.str ['o', 'u', 't'], .bl true]) h := by
  have m1 : metF P 0 1 = some 9 := rfl
  show fin (exs P (run P (k + 5)) (run P (k + 4)) b__law_cut [some (.ref a), some (.int f), some im2, none] h) = _
  unfold b__law_cut
  have e1 := o_cutE (k := k) (im2 := im2) ha h1
  have ha' : h[a]? = some (.ins 0 [(5, .int b), (4, im), (3, .tup rs)]) := ha
  have x0 : P.exc 0 0 = some true := rfl
  have x1 : P.exc 0 1 = some true := rfl
  have x2 : P.exc 0 2 = some true := rfl
  have s2 : (2 : Nat) ≤ szl := by have : szl = 16777216 := rfl; omega
  simp only [exs, ex, PyI.ev, PyI.evs, PyI.evo, PyI.evt, PyI.evc, PyI.evi, PyI.Res.bind_ok, PyI.sat_ok_iff, PyI.ssat_ok_iff, PyI.Lit.val, PyI.bltV, PyI.binV, PyI.cmpV, PyI.eqV, PyI.Tgt.put, PyI.lenV, PyI.pure, PyI.new, PyI.noFld, PyI.hasM, PyI.metV, PyI.bmV, PyI.kindV, PyI.isiV, PyI.tru, PyI.small_of, PyI.big_of, PyI.andQ, PyI.loopQ, PyI.b2i, List.getElem?_cons_zero, List.getElem?_cons_succ, List.set_cons_zero, List.set_cons_succ, Option.map_some, Option.bind_some, Option.some.injEq, exists_eq_left', exists_eq_left, Bool.false_eq_true, Bool.and_true, Bool.true_and, if_true, if_false, reduceIte, List.length_cons, List.length_nil, List.length_map, Int.reduceLT, Int.reduceLE, Int.reduceNeg, Int.reducePow, Nat.reduceAdd, Nat.reduceLT, decide_true, decide_false, and_true, true_and, and_self, Bool.not_true, Bool.not_false, Bool.or_true, Bool.true_or, Bool.or_false, Bool.false_or, Int.cast_ofNat_Int, true_implies, true_or, or_true, or_false, false_or, reduceCtorEq, implies_true, false_implies, ha', m1, List.lookup_cons, List.lookup_nil, show (1 == 5) = false from rfl, show (1 == 4) = false from rfl, show (1 == 3) = false from rfl, Option.isNone_none, Option.isSome_some, Bool.and_self, e1, lift_exc, Res.bind_exc, hand, x0, exXs, exX, evX, evXs, x1, x2, SR.andThen, fin, s2, lift_ok, show 3 < 4 by decide]
end
end PyLaw
namespace PyLaw
open PyI
theorem o_large {k : Nat} {h : Mem} {a : Nat} {ds : List Int} {i : Int} (hd : ∀ d ∈ ds, isDr d) (ha : h[a]? = some (.lst (ds.map .int))) (hi : 0 ≤ i) : ∃ v : Int, 0 ≤ v ∧ v < 1000000000000000000 ∧ run P (k + 3) 2 [.ref a, .int i] h = .ok (.int v) h := by
  have key : (run P (k + 3) 2 [.ref a, .int i] h).sat fun w m => ∃ v : Int, 0 ≤ v ∧ v < 1000000000000000000 ∧ w = .int v ∧ m = h := by
    refine run_sat rfl rfl ?_
    show (exs P _ _ b__law_large [some (.ref a), some (.int i), none, none] h).sat _
    have dr0 : ∀ {j : Int}, 0 ≤ j → run P (k + 2) 1 [.ref a, .int j] h = .ok (.int (dr ds j)) h := fun {j} hj => run_dr (k := k) rfl ha hj
    unfold b__law_large
    refine st_cons (st_asg ?_)
    simp only [PyI.ev, PyI.evs, PyI.evo, PyI.evt, PyI.evc, PyI.evi, PyI.Res.bind_ok, PyI.sat_ok_iff, PyI.ssat_ok_iff, PyI.Lit.val, PyI.bltV, PyI.binV, PyI.cmpV, PyI.eqV, PyI.Tgt.put, PyI.lenV, PyI.pure, PyI.new, PyI.noFld, PyI.hasM, PyI.metV, PyI.bmV, PyI.kindV, PyI.isiV, PyI.tru, PyI.small_of, PyI.big_of, PyI.andQ, PyI.loopQ, PyI.b2i, List.getElem?_cons_zero, List.getElem?_cons_succ, List.set_cons_zero, List.set_cons_succ, Option.map_some, Option.bind_some, Option.some.injEq, exists_eq_left', exists_eq_left, Bool.false_eq_true, Bool.and_true, Bool.true_and, if_true, if_false, reduceIte, List.length_cons, List.length_nil, List.length_map, Int.reduceLT, Int.reduceLE, Int.reduceNeg, Int.reducePow, Nat.reduceAdd, Nat.reduceLT, decide_true, decide_false, and_true, true_and, and_self, Bool.not_true, Bool.not_false, Bool.or_true, Bool.true_or, Bool.or_false, Bool.false_or, Int.cast_ofNat_Int, true_implies, true_or, or_true, or_false, false_or, reduceCtorEq, implies_true, false_implies]
    refine st_cut (fun fr m => ∃ (s : Int) (w : Option Val), m = h ∧ fr = [some (.ref a), some (.int i), some (.int s), w]) (st_for ?_) ?_
    · simp only [PyI.ev, PyI.evs, PyI.evo, PyI.evt, PyI.evc, PyI.evi, PyI.Res.bind_ok, PyI.sat_ok_iff, PyI.ssat_ok_iff, PyI.Lit.val, PyI.bltV, PyI.binV, PyI.cmpV, PyI.eqV, PyI.Tgt.put, PyI.lenV, PyI.pure, PyI.new, PyI.noFld, PyI.hasM, PyI.metV, PyI.bmV, PyI.kindV, PyI.isiV, PyI.tru, PyI.small_of, PyI.big_of, PyI.andQ, PyI.loopQ, PyI.b2i, List.getElem?_cons_zero, List.getElem?_cons_succ, List.set_cons_zero, List.set_cons_succ, Option.map_some, Option.bind_some, Option.some.injEq, exists_eq_left', exists_eq_left, Bool.false_eq_true, Bool.and_true, Bool.true_and, if_true, if_false, reduceIte, List.length_cons, List.length_nil, List.length_map, Int.reduceLT, Int.reduceLE, Int.reduceNeg, Int.reducePow, Nat.reduceAdd, Nat.reduceLT, decide_true, decide_false, and_true, true_and, and_self, Bool.not_true, Bool.not_false, Bool.or_true, Bool.true_or, Bool.or_false, Bool.false_or, Int.cast_ofNat_Int, true_implies, true_or, or_true, or_false, false_or, reduceCtorEq, implies_true, false_implies]
      refine for_rng (fun n fr m => ∃ (s : Int) (w : Option Val), m = h ∧ fr = [some (.ref a), some (.int i), some (.int s), w]) ⟨_, _, rfl, rfl⟩ ?_ ?_
      · rintro n fr m hn ⟨s, w, rfl, rfl⟩
        simp only [PyI.ev, PyI.evs, PyI.evo, PyI.evt, PyI.evc, PyI.evi, PyI.Res.bind_ok, PyI.sat_ok_iff, PyI.ssat_ok_iff, PyI.Lit.val, PyI.bltV, PyI.binV, PyI.cmpV, PyI.eqV, PyI.Tgt.put, PyI.lenV, PyI.pure, PyI.new, PyI.noFld, PyI.hasM, PyI.metV, PyI.bmV, PyI.kindV, PyI.isiV, PyI.tru, PyI.small_of, PyI.big_of, PyI.andQ, PyI.loopQ, PyI.b2i, List.getElem?_cons_zero, List.getElem?_cons_succ, List.set_cons_zero, List.set_cons_succ, Option.map_some, Option.bind_some, Option.some.injEq, exists_eq_left', exists_eq_left, Bool.false_eq_true, Bool.and_true, Bool.true_and, if_true, if_false, reduceIte, List.length_cons, List.length_nil, List.length_map, Int.reduceLT, Int.reduceLE, Int.reduceNeg, Int.reducePow, Nat.reduceAdd, Nat.reduceLT, decide_true, decide_false, and_true, true_and, and_self, Bool.not_true, Bool.not_false, Bool.or_true, Bool.true_or, Bool.or_false, Bool.false_or, Int.cast_ofNat_Int, true_implies, true_or, or_true, or_false, false_or, reduceCtorEq, implies_true, false_implies]
        refine st_cons (st_asg ?_)
        simp only [PyI.ev, PyI.evs, PyI.evo, PyI.evt, PyI.evc, PyI.evi, PyI.Res.bind_ok, PyI.sat_ok_iff, PyI.ssat_ok_iff, PyI.Lit.val, PyI.bltV, PyI.binV, PyI.cmpV, PyI.eqV, PyI.Tgt.put, PyI.lenV, PyI.pure, PyI.new, PyI.noFld, PyI.hasM, PyI.metV, PyI.bmV, PyI.kindV, PyI.isiV, PyI.tru, PyI.small_of, PyI.big_of, PyI.andQ, PyI.loopQ, PyI.b2i, List.getElem?_cons_zero, List.getElem?_cons_succ, List.set_cons_zero, List.set_cons_succ, Option.map_some, Option.bind_some, Option.some.injEq, exists_eq_left', exists_eq_left, Bool.false_eq_true, Bool.and_true, Bool.true_and, if_true, if_false, reduceIte, List.length_cons, List.length_nil, List.length_map, Int.reduceLT, Int.reduceLE, Int.reduceNeg, Int.reducePow, Nat.reduceAdd, Nat.reduceLT, decide_true, decide_false, and_true, true_and, and_self, Bool.not_true, Bool.not_false, Bool.or_true, Bool.true_or, Bool.or_false, Bool.false_or, Int.cast_ofNat_Int, true_implies, true_or, or_true, or_false, false_or, reduceCtorEq, implies_true, false_implies, dr0, show (0 : Int) ≤ i + (0 + (n : Int)) by omega]
        exact st_nil ⟨_, _, rfl, rfl⟩
      · rintro fr m ⟨s, w, rfl, rfl⟩
        exact ⟨rfl, _, _, rfl, rfl⟩
    · rintro fr m ⟨s, w, rfl, rfl⟩
      refine st_cons (st_ret ?_)
      have p18 : (0 : Int) < 10 ^ Int.toNat 18 - 99 := by decide
      simp only [PyI.ev, PyI.evs, PyI.evo, PyI.evt, PyI.evc, PyI.evi, PyI.Res.bind_ok, PyI.sat_ok_iff, PyI.ssat_ok_iff, PyI.Lit.val, PyI.bltV, PyI.binV, PyI.cmpV, PyI.eqV, PyI.Tgt.put, PyI.lenV, PyI.pure, PyI.new, PyI.noFld, PyI.hasM, PyI.metV, PyI.bmV, PyI.kindV, PyI.isiV, PyI.tru, PyI.small_of, PyI.big_of, PyI.andQ, PyI.loopQ, PyI.b2i, List.getElem?_cons_zero, List.getElem?_cons_succ, List.set_cons_zero, List.set_cons_succ, Option.map_some, Option.bind_some, Option.some.injEq, exists_eq_left', exists_eq_left, Bool.false_eq_true, Bool.and_true, Bool.true_and, if_true, if_false, reduceIte, List.length_cons, List.length_nil, List.length_map, Int.reduceLT, Int.reduceLE, Int.reduceNeg, Int.reducePow, Nat.reduceAdd, Nat.reduceLT, decide_true, decide_false, and_true, true_and, and_self, Bool.not_true, Bool.not_false, Bool.or_true, Bool.true_or, Bool.or_false, Bool.false_or, Int.cast_ofNat_Int, true_implies, true_or, or_true, or_false, false_or, reduceCtorEq, implies_true, false_implies, p18]
      refine ⟨_, Int.emod_nonneg _ (by decide), ?_, rfl⟩
      have := Int.emod_lt_of_pos s p18
      have e : (10 : Int) ^ Int.toNat 18 - 99 < 1000000000000000000 := by decide
      omega
  obtain ⟨w, m, e, v, h1, h2, rfl, rfl⟩ := key.sat_eq
  exact ⟨v, h1, h2, e⟩
def txts : List Val := [.str [], .str ['a'], .str ['a', 'b', ' ', 'c'], .str ['~'], .str ['z', 'z']]
def dds (d : Int) : List Val := [.tup [.str ['a', 'p', 'p', 'e', 'n', 'd'], .str ['/', 'a'], (PyI.nth txts (d / 4 % 5)).getD .non], .tup [.str ['s', 'e', 'a', 'l'], .str ['/', 'b']], .tup [.str ['l', 'i', 'm', 'i', 't'], .str ['/'], .int (d / 12)], .tup [.str ['x']]]
def recV (d : Int) : Val := .tup [.int (d % 3), .int (1 + d / 3 % 4), (PyI.nth (dds d) (d / 60 % 4)).getD .non]
theorem o_record {k : Nat} {h : Mem} {d : Int} : run P (k + 2) 3 [.int d] h = .ok (recV d) h := by
  refine sat_run (run_sat rfl rfl ?_)
  show (exs P _ _ b__law_record [some (.int d), none, none] h).sat _
  unfold b__law_record
  have sz : szl = 16777216 := rfl
  have t1 := (nth_some (xs := txts) (i := d / 4 % 5) (by omega) (by simp [txts]; omega)).1
  have t2 := (nth_some (xs := dds d) (i := d / 60 % 4) (by omega) (by simp [dds]; omega)).1
  obtain ⟨tv, htv⟩ : ∃ tv, tv = (PyI.nth txts (d / 4 % 5)).getD .non := ⟨_, rfl⟩
  obtain ⟨dv, hdv⟩ : ∃ dv, dv = (PyI.nth (dds d) (d / 60 % 4)).getD .non := ⟨_, rfl⟩
  rw [← htv] at t1
  rw [← hdv] at t2
  unfold dds at t2
  rw [← htv] at t2
  unfold txts at t1
  have er : recV d = .tup [.int (d % 3), .int (1 + d / 3 % 4), dv] := by unfold recV; rw [← hdv]
  rw [er]
  refine st_cons (st_asg ?_)
  simp only [PyI.ev, PyI.evs, PyI.evo, PyI.evt, PyI.evc, PyI.evi, PyI.Res.bind_ok, PyI.sat_ok_iff, PyI.ssat_ok_iff, PyI.Lit.val, PyI.bltV, PyI.binV, PyI.cmpV, PyI.eqV, PyI.Tgt.put, PyI.lenV, PyI.pure, PyI.new, PyI.noFld, PyI.hasM, PyI.metV, PyI.bmV, PyI.kindV, PyI.isiV, PyI.tru, PyI.small_of, PyI.big_of, PyI.andQ, PyI.loopQ, PyI.b2i, List.getElem?_cons_zero, List.getElem?_cons_succ, List.set_cons_zero, List.set_cons_succ, Option.map_some, Option.bind_some, Option.some.injEq, exists_eq_left', exists_eq_left, Bool.false_eq_true, Bool.and_true, Bool.true_and, if_true, if_false, reduceIte, List.length_cons, List.length_nil, List.length_map, Int.reduceLT, Int.reduceLE, Int.reduceNeg, Int.reducePow, Nat.reduceAdd, Nat.reduceLT, decide_true, decide_false, and_true, true_and, and_self, Bool.not_true, Bool.not_false, Bool.or_true, Bool.true_or, Bool.or_false, Bool.false_or, Int.cast_ofNat_Int, true_implies, true_or, or_true, or_false, false_or, reduceCtorEq, implies_true, false_implies, show (5 : Nat) ≤ szl by omega]
  refine st_cons (st_asg ?_)
  simp only [PyI.ev, PyI.evs, PyI.evo, PyI.evt, PyI.evc, PyI.evi, PyI.Res.bind_ok, PyI.sat_ok_iff, PyI.ssat_ok_iff, PyI.Lit.val, PyI.bltV, PyI.binV, PyI.cmpV, PyI.eqV, PyI.Tgt.put, PyI.lenV, PyI.pure, PyI.new, PyI.noFld, PyI.hasM, PyI.metV, PyI.bmV, PyI.kindV, PyI.isiV, PyI.tru, PyI.small_of, PyI.big_of, PyI.andQ, PyI.loopQ, PyI.b2i, List.getElem?_cons_zero, List.getElem?_cons_succ, List.set_cons_zero, List.set_cons_succ, Option.map_some, Option.bind_some, Option.some.injEq, exists_eq_left', exists_eq_left, Bool.false_eq_true, Bool.and_true, Bool.true_and, if_true, if_false, reduceIte, List.length_cons, List.length_nil, List.length_map, Int.reduceLT, Int.reduceLE, Int.reduceNeg, Int.reducePow, Nat.reduceAdd, Nat.reduceLT, decide_true, decide_false, and_true, true_and, and_self, Bool.not_true, Bool.not_false, Bool.or_true, Bool.true_or, Bool.or_false, Bool.false_or, Int.cast_ofNat_Int, true_implies, true_or, or_true, or_false, false_or, reduceCtorEq, implies_true, false_implies, PyI.ixV, t1, show (1 : Nat) ≤ szl by omega, show (2 : Nat) ≤ szl by omega, show (3 : Nat) ≤ szl by omega, show (4 : Nat) ≤ szl by omega]
  refine st_cons (st_ret ?_)
  simp only [PyI.ev, PyI.evs, PyI.evo, PyI.evt, PyI.evc, PyI.evi, PyI.Res.bind_ok, PyI.sat_ok_iff, PyI.ssat_ok_iff, PyI.Lit.val, PyI.bltV, PyI.binV, PyI.cmpV, PyI.eqV, PyI.Tgt.put, PyI.lenV, PyI.pure, PyI.new, PyI.noFld, PyI.hasM, PyI.metV, PyI.bmV, PyI.kindV, PyI.isiV, PyI.tru, PyI.small_of, PyI.big_of, PyI.andQ, PyI.loopQ, PyI.b2i, List.getElem?_cons_zero, List.getElem?_cons_succ, List.set_cons_zero, List.set_cons_succ, Option.map_some, Option.bind_some, Option.some.injEq, exists_eq_left', exists_eq_left, Bool.false_eq_true, Bool.and_true, Bool.true_and, if_true, if_false, reduceIte, List.length_cons, List.length_nil, List.length_map, Int.reduceLT, Int.reduceLE, Int.reduceNeg, Int.reducePow, Nat.reduceAdd, Nat.reduceLT, decide_true, decide_false, and_true, true_and, and_self, Bool.not_true, Bool.not_false, Bool.or_true, Bool.true_or, Bool.or_false, Bool.false_or, Int.cast_ofNat_Int, true_implies, true_or, or_true, or_false, false_or, reduceCtorEq, implies_true, false_implies, PyI.ixV, t2, show (3 : Nat) ≤ szl by omega]
theorem recV_D {h : Mem} {d : Int} : isD h 58 (recV d) = true := by
  have t2 := (nth_some (xs := dds d) (i := d / 60 % 4) (by omega) (by simp [dds]; omega)).2
  have t1 := (nth_some (xs := txts) (i := d / 4 % 5) (by omega) (by simp [txts]; omega)).2
  have g1 : ∀ v ∈ txts, isD h 56 v = true := by
    intro v hv
    simp only [txts, List.mem_cons, List.not_mem_nil, or_false] at hv
    rcases hv with rfl | rfl | rfl | rfl | rfl <;> rfl
  have e1 := g1 _ t1
  have g2 : ∀ v ∈ dds d, isD h 57 v = true := by
    intro v hv
    simp only [dds, List.mem_cons, List.not_mem_nil, or_false] at hv
    rcases hv with rfl | rfl | rfl | rfl
    · simp only [isD, List.all_cons, List.all_nil, Bool.and_true, Bool.true_and]
      exact e1
    · rfl
    · rfl
    · rfl
  have e2 := g2 _ t2
  simp only [recV, isD, List.all_cons, List.all_nil, Bool.and_true, Bool.true_and]
  exact e2
end PyLaw
namespace PyLaw
open PyI
theorem rng_map {α : Type} {n : Nat} {lo : Int} {f : Val → α} : (rngL lo n).map f = (List.range n).map fun (i : Nat) => f (.int (lo + i)) := by
  unfold rngL
  rw [List.map_map]
  rfl
/-- a list of records by a comprehension -/
theorem recs_comp {ds : List Int} {m : Mem} {at0 n : Int} {fr : Fr} (hn : 0 ≤ n) (hn7 : n < 9) (h0 : ∀ acc, (m ++ [.lst acc])[0]? = some (.lst (ds.map .int))) (ha : 0 ≤ at0)
    (hf : ∀ v, (PyI.wipeF fr [10]).set 10 (some v) = (fr.set 10 (some v))) (hl : 10 < fr.length) (h1 : fr[1]? = some (some (.ref 0))) :
    ∃ hs : List Val, hs.length < 9 ∧ (∀ h, hs.all (isD h 58) = true) ∧ compG (.tup (rngL 0 n.toNat)) (.v 10) (evc P (run P 39) (run P 38) .no) (ev P (run P 39) (run P 38) (.cal 3 (.cons (.cal 1 (.cons (.var 1) (.cons (.bin .add (.lit (.int at0)) (.var 10)) .nil))) .nil))) (wipeF fr [10]) m.length ((PyI.Itr.tup (rngL 0 n.toNat)).cnt m) 0 (m ++ [.lst []]) = .ok (.ref m.length) (m ++ [.lst hs]) := by
  have dr0 : ∀ {h : Mem} {j : Int}, h[0]? = some (.lst (ds.map .int)) → 0 ≤ j → run P 39 1 [.ref 0, .int j] h = .ok (.int (dr ds j)) h := fun {h j} ha hj => run_dr (k := 37) rfl ha hj
  have sz : szl = 16777216 := rfl
  have cmp := comp_ok (t := .tup (rngL 0 n.toNat)) (tg := .v 10) (cond := evc P (run P 39) (run P 38) .no) (elt := ev P (run P 39) (run P 38) (.cal 3 (.cons (.cal 1 (.cons (.var 1) (.cons (.bin .add (.lit (.int at0)) (.var 10)) .nil))) .nil))) (fr := wipeF fr [10])
    (h := m) (vs := rngL 0 n.toNat) (fun _ => true) (fun v => match v with | .int j => recV (dr ds (at0 + j)) | _ => .non) (fun i acc => rfl) (fun acc => by simp [PyI.Itr.fin])
    (fun v hv acc => by
      have : ∃ j : Nat, v = .int (0 + (j : Int)) := by
        unfold rngL at hv
        obtain ⟨j, _, e⟩ := List.mem_map.mp hv
        exact ⟨j, e.symm⟩
      obtain ⟨j, rfl⟩ := this
      refine ⟨_, rfl, rfl, fun _ => ?_⟩
      rw [hf]
      have g1 : (fr.set 10 (some (.int (0 + (j : Int)))))[1]? = some (some (.ref 0)) := by rw [List.getElem?_set_ne (by decide)]; exact h1
      have g2 : (fr.set 10 (some (.int (0 + (j : Int)))))[10]? = some (some (.int (0 + (j : Int)))) := List.getElem?_set_self hl
      simp only [PyI.ev, PyI.evs, PyI.evo, PyI.evt, PyI.evc, PyI.evi, PyI.Res.bind_ok, PyI.sat_ok_iff, PyI.ssat_ok_iff, PyI.Lit.val, PyI.bltV, PyI.binV, PyI.cmpV, PyI.eqV, PyI.Tgt.put, PyI.lenV, PyI.pure, PyI.new, PyI.noFld, PyI.hasM, PyI.metV, PyI.bmV, PyI.kindV, PyI.isiV, PyI.tru, PyI.small_of, PyI.big_of, PyI.andQ, PyI.loopQ, PyI.b2i, List.getElem?_cons_zero, List.getElem?_cons_succ, List.set_cons_zero, List.set_cons_succ, Option.map_some, Option.bind_some, Option.some.injEq, exists_eq_left', exists_eq_left, Bool.false_eq_true, Bool.and_true, Bool.true_and, if_true, if_false, reduceIte, List.length_cons, List.length_nil, List.length_map, Int.reduceLT, Int.reduceLE, Int.reduceNeg, Int.reducePow, Nat.reduceAdd, Nat.reduceLT, decide_true, decide_false, and_true, true_and, and_self, Bool.not_true, Bool.not_false, Bool.or_true, Bool.true_or, Bool.or_false, Bool.false_or, Int.cast_ofNat_Int, true_implies, true_or, or_true, or_false, false_or, reduceCtorEq, implies_true, false_implies, g1, g2, dr0 (h0 acc) (show 0 ≤ at0 + (0 + (j : Int)) by omega), o_record (k := 37)]) (by rw [rngL_len]; omega)
  refine ⟨((rngL 0 n.toNat).filter fun _ => true).map fun v => match v with | .int j => recV (dr ds (at0 + j)) | _ => .non, ?_, ?_, ?_⟩
  · have : (((rngL 0 n.toNat).filter fun _ => true).map fun v => match v with | .int j => recV (dr ds (at0 + j)) | _ => .non).length ≤ (rngL 0 n.toNat).length := by rw [List.length_map]; exact List.length_filter_le _ _
    rw [rngL_len] at this
    omega
  · intro h
    rw [List.all_eq_true]
    intro x hx
    obtain ⟨v, hv, rfl⟩ := List.mem_map.mp hx
    have hv := (List.mem_filter.mp hv).1
    unfold rngL at hv
    obtain ⟨j, _, e⟩ := List.mem_map.mp hv
    subst e
    exact recV_D
  · exact cmp
/-- what the law's own way picks is a tail -/
theorem tail_of {gs : List Val} {f len : Int} (h : f ≤ len + 1) : (((rngL 0 gs.length).filter fun v => match v with | .int j => decide (len < f + j) | _ => false).map fun v => match v with | .int j => (PyI.nth gs j).getD .non | _ => .non) = gs.drop (len + 1 - f).toNat := by
  apply List.ext_getElem?
  intro i
  have e : (rngL 0 gs.length).filter (fun v => match v with | .int j => decide (len < f + j) | _ => false) = (rngL 0 gs.length).drop (len + 1 - f).toNat := by
    unfold rngL
    rw [List.filter_map, ← List.map_drop]
    congr 1
    have : ∀ (n k : Nat), (List.range n).filter (fun i => decide (k ≤ i)) = (List.range n).drop k := fun n k => by
      induction n with
      | zero => simp
      | succ n ih =>
        rw [List.range_succ, List.filter_append, ih]
        by_cases hk : k ≤ n
        · rw [List.drop_append_of_le_length (by simpa using hk)]
          simp [hk]
        · rw [List.drop_of_length_le (by simp; omega), List.drop_of_length_le (by simp; omega)]
          simp [hk]
    rw [← this]
    apply List.filter_congr
    intro x _
    simp only [Function.comp]
    apply decide_eq_decide.mpr
    omega
  rw [e, List.getElem?_map, List.getElem?_drop, List.getElem?_drop]
  unfold rngL
  rw [List.getElem?_map]
  by_cases hi : (len + 1 - f).toNat + i < gs.length
  · rw [List.getElem?_range hi]
    simp only [Option.map_some]
    unfold PyI.nth
    rw [if_pos (by omega), show (0 + (((len + 1 - f).toNat + i : Nat) : Int)).toNat = (len + 1 - f).toNat + i by omega, List.getElem?_eq_getElem hi]
    rfl
  · rw [List.getElem?_eq_none (by simpa using hi), List.getElem?_eq_none (by omega)]
    rfl
end PyLaw
namespace PyLaw
open PyI
def imgs : List Val := [.int 0, .str [], .tup [], .tup [.str ['i', 'm', 'a', 'g', 'e'], .tup [.int 1, .str ['t', 'w', 'o']]], .int (-5)]
theorem imgs_D {h : Mem} : ∀ v ∈ imgs, isD h 59 v = true := by
  intro v hv
  simp only [imgs, List.mem_cons, List.not_mem_nil, or_false] at hv
  rcases hv with rfl | rfl | rfl | rfl | rfl <;> rfl
theorem get_app {m y : Mem} {i : Nat} {o : Ob} (h : m[i]? = some o) : (m ++ y)[i]? = some o := by
  rw [List.getElem?_append_left (List.getElem?_eq_some_iff.mp h).1]; exact h
abbrev frL (ns : List Int) (B : Int) (il : List Val) (im i2 : Val) (x y z : Option Val) : Fr := [some (.klst (ns.map .int)), some (.ref 0), some (.int B), some (.tup il), some im, some i2, some (.ref 1), some (.ref 2), x, y, z]
abbrev cE : Ex := .comp (.v 10) (.rng1 (.blt .len (.cons (.var 6) .nil))) (.so (.e (.cmp .gt (.bin .add (.bin .add (.var 2) (.lit (.int 1))) (.var 10)) (.var 8)))) (.ix (.var 6) (.var 10))
theorem c_due {ns : List Int} {B f : Int} {il hs : List Val} {im i2 : Val} {y z : Option Val} {m : Mem} (g1 : m[1]? = some (.lst hs)) (h2 : B + 1 ≤ f + 1) (hl : hs.length < 9) :
    ev P (run P 39) (run P 38) cE (frL ns B il im i2 (some (.int f)) y z) m = .ok (.ref m.length) (m ++ [.lst (hs.drop (f - B).toNat)]) := by
  have sz : szl = 16777216 := rfl
  have hb : big (hs.length : Int) = true := big_of (by omega) (by omega)
  have hev : evi P (run P 39) (run P 38) (.rng1 (.blt .len (.cons (.var 6) .nil))) (frL ns B il im i2 (some (.int f)) y z) m = .ok (.tup (rngL 0 hs.length)) m := by
    simp only [PyI.ev, PyI.evs, PyI.evo, PyI.evt, PyI.evc, PyI.evi, PyI.Res.bind_ok, PyI.sat_ok_iff, PyI.ssat_ok_iff, PyI.Lit.val, PyI.bltV, PyI.binV, PyI.cmpV, PyI.eqV, PyI.Tgt.put, PyI.lenV, PyI.pure, PyI.new, PyI.noFld, PyI.hasM, PyI.metV, PyI.bmV, PyI.kindV, PyI.isiV, PyI.tru, PyI.small_of, PyI.big_of, PyI.andQ, PyI.loopQ, PyI.b2i, List.getElem?_cons_zero, List.getElem?_cons_succ, List.set_cons_zero, List.set_cons_succ, Option.map_some, Option.bind_some, Option.some.injEq, exists_eq_left', exists_eq_left, Bool.false_eq_true, Bool.and_true, Bool.true_and, if_true, if_false, reduceIte, List.length_cons, List.length_nil, List.length_map, Int.reduceLT, Int.reduceLE, Int.reduceNeg, Int.reducePow, Nat.reduceAdd, Nat.reduceLT, decide_true, decide_false, and_true, true_and, and_self, Bool.not_true, Bool.not_false, Bool.or_true, Bool.true_or, Bool.or_false, Bool.false_or, Int.cast_ofNat_Int, true_implies, true_or, or_true, or_false, false_or, reduceCtorEq, implies_true, false_implies, g1, hb, Int.toNat_natCast]
  have cmp := comp_ok (t := .tup (rngL 0 hs.length)) (tg := .v 10) (cond := evc P (run P 39) (run P 38) (.so (.e (.cmp .gt (.bin .add (.bin .add (.var 2) (.lit (.int 1))) (.var 10)) (.var 8))))) (elt := ev P (run P 39) (run P 38) (.ix (.var 6) (.var 10))) (fr := wipeF (frL ns B il im i2 (some (.int f)) y z) [10])
    (h := m) (vs := rngL 0 hs.length) (fun v => match v with | .int j => decide (f < B + 1 + j) | _ => false) (fun v => match v with | .int j => (PyI.nth hs j).getD .non | _ => .non) (fun i acc => rfl) (fun acc => by simp [PyI.Itr.fin])
    (fun v hv acc => by
      have : ∃ j : Nat, j < hs.length ∧ v = .int (0 + (j : Int)) := by
        unfold rngL at hv
        obtain ⟨j, hj, e⟩ := List.mem_map.mp hv
        exact ⟨j, List.mem_range.mp hj, e.symm⟩
      obtain ⟨j, hj, rfl⟩ := this
      have t1 := (nth_some (xs := hs) (i := 0 + (j : Int)) (by omega) (by omega)).1
      obtain ⟨tv, htv⟩ : ∃ tv, tv = (PyI.nth hs (0 + (j : Int))).getD .non := ⟨_, rfl⟩
      rw [← htv] at t1
      refine ⟨_, rfl, ?_, fun _ => ?_⟩
      · simp only [PyI.ev, PyI.evs, PyI.evo, PyI.evt, PyI.evc, PyI.evi, PyI.Res.bind_ok, PyI.sat_ok_iff, PyI.ssat_ok_iff, PyI.Lit.val, PyI.bltV, PyI.binV, PyI.cmpV, PyI.eqV, PyI.Tgt.put, PyI.lenV, PyI.pure, PyI.new, PyI.noFld, PyI.hasM, PyI.metV, PyI.bmV, PyI.kindV, PyI.isiV, PyI.tru, PyI.small_of, PyI.big_of, PyI.andQ, PyI.loopQ, PyI.b2i, List.getElem?_cons_zero, List.getElem?_cons_succ, List.set_cons_zero, List.set_cons_succ, Option.map_some, Option.bind_some, Option.some.injEq, exists_eq_left', exists_eq_left, Bool.false_eq_true, Bool.and_true, Bool.true_and, if_true, if_false, reduceIte, List.length_cons, List.length_nil, List.length_map, Int.reduceLT, Int.reduceLE, Int.reduceNeg, Int.reducePow, Nat.reduceAdd, Nat.reduceLT, decide_true, decide_false, and_true, true_and, and_self, Bool.not_true, Bool.not_false, Bool.or_true, Bool.true_or, Bool.or_false, Bool.false_or, Int.cast_ofNat_Int, true_implies, true_or, or_true, or_false, false_or, reduceCtorEq, implies_true, false_implies, PyI.wipeF]
      · simp only [PyI.ev, PyI.evs, PyI.evo, PyI.evt, PyI.evc, PyI.evi, PyI.Res.bind_ok, PyI.sat_ok_iff, PyI.ssat_ok_iff, PyI.Lit.val, PyI.bltV, PyI.binV, PyI.cmpV, PyI.eqV, PyI.Tgt.put, PyI.lenV, PyI.pure, PyI.new, PyI.noFld, PyI.hasM, PyI.metV, PyI.bmV, PyI.kindV, PyI.isiV, PyI.tru, PyI.small_of, PyI.big_of, PyI.andQ, PyI.loopQ, PyI.b2i, List.getElem?_cons_zero, List.getElem?_cons_succ, List.set_cons_zero, List.set_cons_succ, Option.map_some, Option.bind_some, Option.some.injEq, exists_eq_left', exists_eq_left, Bool.false_eq_true, Bool.and_true, Bool.true_and, if_true, if_false, reduceIte, List.length_cons, List.length_nil, List.length_map, Int.reduceLT, Int.reduceLE, Int.reduceNeg, Int.reducePow, Nat.reduceAdd, Nat.reduceLT, decide_true, decide_false, and_true, true_and, and_self, Bool.not_true, Bool.not_false, Bool.or_true, Bool.true_or, Bool.or_false, Bool.false_or, Int.cast_ofNat_Int, true_implies, true_or, or_true, or_false, false_or, reduceCtorEq, implies_true, false_implies, PyI.wipeF, PyI.ixV, get_app g1, t1, Option.getD_some]) (by rw [rngL_len]; omega)
  rw [tail_of h2, show f + 1 - (B + 1) = f - B by omega] at cmp
  rw [ev_comp, hev, Res.bind_ok]
  exact cmp
theorem ev_blt1 {call callI : Nat → List Val → Mem → Res Val} {e : Ex} {b : Blt} {fr : Fr} {m m' : Mem} {v : Val} (h : ev P call callI e fr m = .ok v m') : ev P call callI (.blt b (.cons e .nil)) fr m = bltV b [v] m' := by
  simp only [ev, evs, h, Res.bind_ok]
theorem ev_tup3 {call callI : Nat → List Val → Mem → Res Val} {a b c : Ex} {fr : Fr} {m m' : Mem} {x y z : Val} (h1 : ev P call callI a fr m = .ok x m) (h2 : ev P call callI b fr m = .ok y m) (h3 : ev P call callI c fr m = .ok z m') (hs : 3 ≤ szl) :
    ev P call callI (.tup (.cons a (.cons b (.cons c .nil)))) fr m = .ok (.tup [x, y, z]) m' := by
  simp only [ev, evs, h1, h2, h3, Res.bind_ok, List.length_cons, List.length_nil, Nat.reduceAdd, hs, if_true]
theorem plain (ns : List Int) (hn : ns.length ≤ 63) : ∃ h, run P 40 5 [.klst (ns.map .int)] [] = .ok (.bl true) h := by
  have key : (run P 40 5 [.klst (ns.map .int)] []).sat fun v _ => v = .bl true := by
    refine run_sat (k := 38) rfl rfl ?_
    show (exs P _ _ b_law [some (.klst (ns.map .int)), none, none, none, none, none, none, none, none, none, none] []).sat _
    obtain ⟨ds, hd, e1⟩ := run_str (P := P) (k := 37) (i := 0) (ap := 0) (m := 24) (h := []) (ns := ns) rfl (by omega)
    have dr0 : ∀ {h : Mem} {j : Int}, h[0]? = some (.lst (ds.map .int)) → 0 ≤ j → run P 39 1 [.ref 0, .int j] h = .ok (.int (dr ds j)) h := fun {h j} ha hj => run_dr (k := 37) rfl ha hj
    have D : ∀ j, 0 ≤ dr ds j ∧ dr ds j < 5040 := fun j => dr_is hd j
    have sz : szl = 16777216 := rfl
    unfold b_law
    refine st_cons (st_asg ?_)
    simp only [PyI.ev, PyI.evs, PyI.evo, PyI.evt, PyI.evc, PyI.evi, PyI.Res.bind_ok, PyI.sat_ok_iff, PyI.ssat_ok_iff, PyI.Lit.val, PyI.bltV, PyI.binV, PyI.cmpV, PyI.eqV, PyI.Tgt.put, PyI.lenV, PyI.pure, PyI.new, PyI.noFld, PyI.hasM, PyI.metV, PyI.bmV, PyI.kindV, PyI.isiV, PyI.tru, PyI.small_of, PyI.big_of, PyI.andQ, PyI.loopQ, PyI.b2i, List.getElem?_cons_zero, List.getElem?_cons_succ, List.set_cons_zero, List.set_cons_succ, Option.map_some, Option.bind_some, Option.some.injEq, exists_eq_left', exists_eq_left, Bool.false_eq_true, Bool.and_true, Bool.true_and, if_true, if_false, reduceIte, List.length_cons, List.length_nil, List.length_map, Int.reduceLT, Int.reduceLE, Int.reduceNeg, Int.reducePow, Nat.reduceAdd, Nat.reduceLT, decide_true, decide_false, and_true, true_and, and_self, Bool.not_true, Bool.not_false, Bool.or_true, Bool.true_or, Bool.or_false, Bool.false_or, Int.cast_ofNat_Int, true_implies, true_or, or_true, or_false, false_or, reduceCtorEq, implies_true, false_implies, e1]
    refine st_cons (st_asg ?_)
    simp only [PyI.ev, PyI.evs, PyI.evo, PyI.evt, PyI.evc, PyI.evi, PyI.Res.bind_ok, PyI.sat_ok_iff, PyI.ssat_ok_iff, PyI.Lit.val, PyI.bltV, PyI.binV, PyI.cmpV, PyI.eqV, PyI.Tgt.put, PyI.lenV, PyI.pure, PyI.new, PyI.noFld, PyI.hasM, PyI.metV, PyI.bmV, PyI.kindV, PyI.isiV, PyI.tru, PyI.small_of, PyI.big_of, PyI.andQ, PyI.loopQ, PyI.b2i, List.getElem?_cons_zero, List.getElem?_cons_succ, List.set_cons_zero, List.set_cons_succ, Option.map_some, Option.bind_some, Option.some.injEq, exists_eq_left', exists_eq_left, Bool.false_eq_true, Bool.and_true, Bool.true_and, if_true, if_false, reduceIte, List.length_cons, List.length_nil, List.length_map, Int.reduceLT, Int.reduceLE, Int.reduceNeg, Int.reducePow, Nat.reduceAdd, Nat.reduceLT, decide_true, decide_false, and_true, true_and, and_self, Bool.not_true, Bool.not_false, Bool.or_true, Bool.true_or, Bool.or_false, Bool.false_or, Int.cast_ofNat_Int, true_implies, true_or, or_true, or_false, false_or, reduceCtorEq, implies_true, false_implies, List.nil_append, dr0, List.getElem?_cons_zero, Int.le_refl]
    refine st_cut (fun fr m => ∃ B : Int, 0 ≤ B ∧ B < 1000000000000000000 ∧ m = [.lst (ds.map .int)] ∧ fr = [some (.klst (ns.map .int)), some (.ref 0), some (.int B), none, none, none, none, none, none, none, none]) (st_ite ?_) ?_
    · simp only [PyI.ev, PyI.evs, PyI.evo, PyI.evt, PyI.evc, PyI.evi, PyI.Res.bind_ok, PyI.sat_ok_iff, PyI.ssat_ok_iff, PyI.Lit.val, PyI.bltV, PyI.binV, PyI.cmpV, PyI.eqV, PyI.Tgt.put, PyI.lenV, PyI.pure, PyI.new, PyI.noFld, PyI.hasM, PyI.metV, PyI.bmV, PyI.kindV, PyI.isiV, PyI.tru, PyI.small_of, PyI.big_of, PyI.andQ, PyI.loopQ, PyI.b2i, List.getElem?_cons_zero, List.getElem?_cons_succ, List.set_cons_zero, List.set_cons_succ, Option.map_some, Option.bind_some, Option.some.injEq, exists_eq_left', exists_eq_left, Bool.false_eq_true, Bool.and_true, Bool.true_and, if_true, if_false, reduceIte, List.length_cons, List.length_nil, List.length_map, Int.reduceLT, Int.reduceLE, Int.reduceNeg, Int.reducePow, Nat.reduceAdd, Nat.reduceLT, decide_true, decide_false, and_true, true_and, and_self, Bool.not_true, Bool.not_false, Bool.or_true, Bool.true_or, Bool.or_false, Bool.false_or, Int.cast_ofNat_Int, true_implies, true_or, or_true, or_false, false_or, reduceCtorEq, implies_true, false_implies, dr0]
      refine ⟨fun _ => st_cons (st_asg ?_), fun _ => st_nil ⟨rfl, _, ?_, ?_, rfl, rfl⟩⟩
      · obtain ⟨v, v1, v2, v3⟩ := o_large (k := 36) (h := [.lst (ds.map .int)]) (a := 0) (i := 16) hd rfl (by omega)
        simp only [PyI.ev, PyI.evs, PyI.evo, PyI.evt, PyI.evc, PyI.evi, PyI.Res.bind_ok, PyI.sat_ok_iff, PyI.ssat_ok_iff, PyI.Lit.val, PyI.bltV, PyI.binV, PyI.cmpV, PyI.eqV, PyI.Tgt.put, PyI.lenV, PyI.pure, PyI.new, PyI.noFld, PyI.hasM, PyI.metV, PyI.bmV, PyI.kindV, PyI.isiV, PyI.tru, PyI.small_of, PyI.big_of, PyI.andQ, PyI.loopQ, PyI.b2i, List.getElem?_cons_zero, List.getElem?_cons_succ, List.set_cons_zero, List.set_cons_succ, Option.map_some, Option.bind_some, Option.some.injEq, exists_eq_left', exists_eq_left, Bool.false_eq_true, Bool.and_true, Bool.true_and, if_true, if_false, reduceIte, List.length_cons, List.length_nil, List.length_map, Int.reduceLT, Int.reduceLE, Int.reduceNeg, Int.reducePow, Nat.reduceAdd, Nat.reduceLT, decide_true, decide_false, and_true, true_and, and_self, Bool.not_true, Bool.not_false, Bool.or_true, Bool.true_or, Bool.or_false, Bool.false_or, Int.cast_ofNat_Int, true_implies, true_or, or_true, or_false, false_or, reduceCtorEq, implies_true, false_implies, v3]
        exact st_nil ⟨rfl, _, v1, v2, rfl, rfl⟩
      · have := D 0; omega
      · have := D 0; omega
    rintro fr m ⟨B, b0, b1, rfl, rfl⟩
    refine st_cons (st_asg ?_)
    simp only [PyI.ev, PyI.evs, PyI.evo, PyI.evt, PyI.evc, PyI.evi, PyI.Res.bind_ok, PyI.sat_ok_iff, PyI.ssat_ok_iff, PyI.Lit.val, PyI.bltV, PyI.binV, PyI.cmpV, PyI.eqV, PyI.Tgt.put, PyI.lenV, PyI.pure, PyI.new, PyI.noFld, PyI.hasM, PyI.metV, PyI.bmV, PyI.kindV, PyI.isiV, PyI.tru, PyI.small_of, PyI.big_of, PyI.andQ, PyI.loopQ, PyI.b2i, List.getElem?_cons_zero, List.getElem?_cons_succ, List.set_cons_zero, List.set_cons_succ, Option.map_some, Option.bind_some, Option.some.injEq, exists_eq_left', exists_eq_left, Bool.false_eq_true, Bool.and_true, Bool.true_and, if_true, if_false, reduceIte, List.length_cons, List.length_nil, List.length_map, Int.reduceLT, Int.reduceLE, Int.reduceNeg, Int.reducePow, Nat.reduceAdd, Nat.reduceLT, decide_true, decide_false, and_true, true_and, and_self, Bool.not_true, Bool.not_false, Bool.or_true, Bool.true_or, Bool.or_false, Bool.false_or, Int.cast_ofNat_Int, true_implies, true_or, or_true, or_false, false_or, reduceCtorEq, implies_true, false_implies, show (5 : Nat) ≤ szl by omega, show (2 : Nat) ≤ szl by omega, Nat.zero_le]
    have t1 := nth_some (xs := imgs) (i := dr ds 3 % 5) (by omega) (by simp [imgs]; omega)
    obtain ⟨im, him⟩ : ∃ im, im = (PyI.nth imgs (dr ds 3 % 5)).getD .non := ⟨_, rfl⟩
    rw [← him] at t1
    obtain ⟨t1, t2⟩ := t1
    have imD : ∀ h, isD h 59 im = true := fun h => imgs_D im t2
    have r1 := nth_some (xs := imgs) (i := dr ds 3 / 5 % 5) (by omega) (by simp [imgs]; omega)
    obtain ⟨i2, hi2⟩ : ∃ i2, i2 = (PyI.nth imgs (dr ds 3 / 5 % 5)).getD .non := ⟨_, rfl⟩
    rw [← hi2] at r1
    obtain ⟨r1, r2⟩ := r1
    have i2D : ∀ h, isD h 59 i2 = true := fun h => imgs_D i2 r2
    unfold imgs at t1 r1
    refine st_cons (st_asg ?_)
    simp only [PyI.ev, PyI.evs, PyI.evo, PyI.evt, PyI.evc, PyI.evi, PyI.Res.bind_ok, PyI.sat_ok_iff, PyI.ssat_ok_iff, PyI.Lit.val, PyI.bltV, PyI.binV, PyI.cmpV, PyI.eqV, PyI.Tgt.put, PyI.lenV, PyI.pure, PyI.new, PyI.noFld, PyI.hasM, PyI.metV, PyI.bmV, PyI.kindV, PyI.isiV, PyI.tru, PyI.small_of, PyI.big_of, PyI.andQ, PyI.loopQ, PyI.b2i, List.getElem?_cons_zero, List.getElem?_cons_succ, List.set_cons_zero, List.set_cons_succ, Option.map_some, Option.bind_some, Option.some.injEq, exists_eq_left', exists_eq_left, Bool.false_eq_true, Bool.and_true, Bool.true_and, if_true, if_false, reduceIte, List.length_cons, List.length_nil, List.length_map, Int.reduceLT, Int.reduceLE, Int.reduceNeg, Int.reducePow, Nat.reduceAdd, Nat.reduceLT, decide_true, decide_false, and_true, true_and, and_self, Bool.not_true, Bool.not_false, Bool.or_true, Bool.true_or, Bool.or_false, Bool.false_or, Int.cast_ofNat_Int, true_implies, true_or, or_true, or_false, false_or, reduceCtorEq, implies_true, false_implies, PyI.ixV, dr0, t1]
    refine st_cons (st_asg ?_)
    simp only [PyI.ev, PyI.evs, PyI.evo, PyI.evt, PyI.evc, PyI.evi, PyI.Res.bind_ok, PyI.sat_ok_iff, PyI.ssat_ok_iff, PyI.Lit.val, PyI.bltV, PyI.binV, PyI.cmpV, PyI.eqV, PyI.Tgt.put, PyI.lenV, PyI.pure, PyI.new, PyI.noFld, PyI.hasM, PyI.metV, PyI.bmV, PyI.kindV, PyI.isiV, PyI.tru, PyI.small_of, PyI.big_of, PyI.andQ, PyI.loopQ, PyI.b2i, List.getElem?_cons_zero, List.getElem?_cons_succ, List.set_cons_zero, List.set_cons_succ, Option.map_some, Option.bind_some, Option.some.injEq, exists_eq_left', exists_eq_left, Bool.false_eq_true, Bool.and_true, Bool.true_and, if_true, if_false, reduceIte, List.length_cons, List.length_nil, List.length_map, Int.reduceLT, Int.reduceLE, Int.reduceNeg, Int.reducePow, Nat.reduceAdd, Nat.reduceLT, decide_true, decide_false, and_true, true_and, and_self, Bool.not_true, Bool.not_false, Bool.or_true, Bool.true_or, Bool.or_false, Bool.false_or, Int.cast_ofNat_Int, true_implies, true_or, or_true, or_false, false_or, reduceCtorEq, implies_true, false_implies, PyI.ixV, dr0, r1]
    generalize hi : ([.int 0, .str [], .tup [], .tup [.str ['i', 'm', 'a', 'g', 'e'], .tup [.int 1, .str ['t', 'w', 'o']]], .int (-5)] : List Val) = il
    refine st_cons (st_asg ?_)
    obtain ⟨hs, s1, s2, s3⟩ := recs_comp (ds := ds) (m := [.lst (ds.map .int)]) (at0 := 6) (n := dr ds 4 % 9) (fr := [some (.klst (ns.map .int)), some (.ref 0), some (.int B), some (.tup il), some im, some i2, none, none, none, none, none]) (by omega) (by omega) (fun _ => rfl) (by omega) (fun v => rfl) (by simp) rfl
    have g4 : big (dr ds 4 % 9) = true := big_of (by omega) (by omega)
    have ev1 : evi P (run P 39) (run P 38) (.rng1 (.bin .mod (.cal 1 (.cons (.var 1) (.cons (.lit (.int 4)) .nil))) (.lit (.int 9)))) [some (.klst (ns.map .int)), some (.ref 0), some (.int B), some (.tup il), some im, some i2, none, none, none, none, none] [.lst (ds.map .int)] = .ok (.tup (rngL 0 (dr ds 4 % 9).toNat)) [.lst (ds.map .int)] := by
      simp only [PyI.ev, PyI.evs, PyI.evo, PyI.evt, PyI.evc, PyI.evi, PyI.Res.bind_ok, PyI.sat_ok_iff, PyI.ssat_ok_iff, PyI.Lit.val, PyI.bltV, PyI.binV, PyI.cmpV, PyI.eqV, PyI.Tgt.put, PyI.lenV, PyI.pure, PyI.new, PyI.noFld, PyI.hasM, PyI.metV, PyI.bmV, PyI.kindV, PyI.isiV, PyI.tru, PyI.small_of, PyI.big_of, PyI.andQ, PyI.loopQ, PyI.b2i, List.getElem?_cons_zero, List.getElem?_cons_succ, List.set_cons_zero, List.set_cons_succ, Option.map_some, Option.bind_some, Option.some.injEq, exists_eq_left', exists_eq_left, Bool.false_eq_true, Bool.and_true, Bool.true_and, if_true, if_false, reduceIte, List.length_cons, List.length_nil, List.length_map, Int.reduceLT, Int.reduceLE, Int.reduceNeg, Int.reducePow, Nat.reduceAdd, Nat.reduceLT, decide_true, decide_false, and_true, true_and, and_self, Bool.not_true, Bool.not_false, Bool.or_true, Bool.true_or, Bool.or_false, Bool.false_or, Int.cast_ofNat_Int, true_implies, true_or, or_true, or_false, false_or, reduceCtorEq, implies_true, false_implies, dr0, g4]
    rw [ev_comp, ev1, Res.bind_ok, show (PyI.Tgt.v 10).slots = [10] from rfl, s3]
    simp only [PyI.ev, PyI.evs, PyI.evo, PyI.evt, PyI.evc, PyI.evi, PyI.Res.bind_ok, PyI.sat_ok_iff, PyI.ssat_ok_iff, PyI.Lit.val, PyI.bltV, PyI.binV, PyI.cmpV, PyI.eqV, PyI.Tgt.put, PyI.lenV, PyI.pure, PyI.new, PyI.noFld, PyI.hasM, PyI.metV, PyI.bmV, PyI.kindV, PyI.isiV, PyI.tru, PyI.small_of, PyI.big_of, PyI.andQ, PyI.loopQ, PyI.b2i, List.getElem?_cons_zero, List.getElem?_cons_succ, List.set_cons_zero, List.set_cons_succ, Option.map_some, Option.bind_some, Option.some.injEq, exists_eq_left', exists_eq_left, Bool.false_eq_true, Bool.and_true, Bool.true_and, if_true, if_false, reduceIte, List.length_cons, List.length_nil, List.length_map, Int.reduceLT, Int.reduceLE, Int.reduceNeg, Int.reducePow, Nat.reduceAdd, Nat.reduceLT, decide_true, decide_false, and_true, true_and, and_self, Bool.not_true, Bool.not_false, Bool.or_true, Bool.true_or, Bool.or_false, Bool.false_or, Int.cast_ofNat_Int, true_implies, true_or, or_true, or_false, false_or, reduceCtorEq, implies_true, false_implies, List.cons_append, List.nil_append]
    refine st_cons (st_asg ?_)
    have hc : P.cls[0]? = some ⟨6, [(7, 8), (1, 9), (2, 10)], [(6, 7)], [5, 4, 3]⟩ := rfl
    have oi : run P 38 6 [.ref 2, .int B, im, .tup hs] [.lst (ds.map .int), .lst hs, .ins 0 []] = .ok .non [.lst (ds.map .int), .lst hs, logO B im hs] := o_init (k := 36) rfl
    simp only [PyI.ev, PyI.evs, PyI.evo, PyI.evt, PyI.evc, PyI.evi, PyI.Res.bind_ok, PyI.sat_ok_iff, PyI.ssat_ok_iff, PyI.Lit.val, PyI.bltV, PyI.binV, PyI.cmpV, PyI.eqV, PyI.Tgt.put, PyI.lenV, PyI.pure, PyI.new, PyI.noFld, PyI.hasM, PyI.metV, PyI.bmV, PyI.kindV, PyI.isiV, PyI.tru, PyI.small_of, PyI.big_of, PyI.andQ, PyI.loopQ, PyI.b2i, List.getElem?_cons_zero, List.getElem?_cons_succ, List.set_cons_zero, List.set_cons_succ, Option.map_some, Option.bind_some, Option.some.injEq, exists_eq_left', exists_eq_left, Bool.false_eq_true, Bool.and_true, Bool.true_and, if_true, if_false, reduceIte, List.length_cons, List.length_nil, List.length_map, Int.reduceLT, Int.reduceLE, Int.reduceNeg, Int.reducePow, Nat.reduceAdd, Nat.reduceLT, decide_true, decide_false, and_true, true_and, and_self, Bool.not_true, Bool.not_false, Bool.or_true, Bool.true_or, Bool.or_false, Bool.false_or, Int.cast_ofNat_Int, true_implies, true_or, or_true, or_false, false_or, reduceCtorEq, implies_true, false_implies, PyI.lstA, PyI.lstO, hc, List.cons_append, List.nil_append, oi]
    refine st_cut (fun fr m => True) (st_for ?_) fun fr m _ => ?_
    · have k1 : big (B - 2) = true := big_of (by omega) (by omega)
      have k2 : big (B + (hs.length : Int) + 4) = true := big_of (by omega) (by omega)
      simp only [PyI.ev, PyI.evs, PyI.evo, PyI.evt, PyI.evc, PyI.evi, PyI.Res.bind_ok, PyI.sat_ok_iff, PyI.ssat_ok_iff, PyI.Lit.val, PyI.bltV, PyI.binV, PyI.cmpV, PyI.eqV, PyI.Tgt.put, PyI.lenV, PyI.pure, PyI.new, PyI.noFld, PyI.hasM, PyI.metV, PyI.bmV, PyI.kindV, PyI.isiV, PyI.tru, PyI.small_of, PyI.big_of, PyI.andQ, PyI.loopQ, PyI.b2i, List.getElem?_cons_zero, List.getElem?_cons_succ, List.set_cons_zero, List.set_cons_succ, Option.map_some, Option.bind_some, Option.some.injEq, exists_eq_left', exists_eq_left, Bool.false_eq_true, Bool.and_true, Bool.true_and, if_true, if_false, reduceIte, List.length_cons, List.length_nil, List.length_map, Int.reduceLT, Int.reduceLE, Int.reduceNeg, Int.reducePow, Nat.reduceAdd, Nat.reduceLT, decide_true, decide_false, and_true, true_and, and_self, Bool.not_true, Bool.not_false, Bool.or_true, Bool.true_or, Bool.or_false, Bool.false_or, Int.cast_ofNat_Int, true_implies, true_or, or_true, or_false, false_or, reduceCtorEq, implies_true, false_implies, k1, k2]
      refine for_rng (fun i fr m => ∃ x y z : Option Val, m[0]? = some (.lst (ds.map .int)) ∧ m[1]? = some (.lst hs) ∧ m[2]? = some (logO B im hs) ∧ fr = frL ns B il im i2 x y z) ⟨_, _, _, rfl, rfl, rfl, rfl⟩ ?_ ?_
      · rintro i fr m hv ⟨x, y, z, g0, g1, g3, rfl⟩
        generalize hf : B - 2 + (i : Int) = f
        simp only [PyI.ev, PyI.evs, PyI.evo, PyI.evt, PyI.evc, PyI.evi, PyI.Res.bind_ok, PyI.sat_ok_iff, PyI.ssat_ok_iff, PyI.Lit.val, PyI.bltV, PyI.binV, PyI.cmpV, PyI.eqV, PyI.Tgt.put, PyI.lenV, PyI.pure, PyI.new, PyI.noFld, PyI.hasM, PyI.metV, PyI.bmV, PyI.kindV, PyI.isiV, PyI.tru, PyI.small_of, PyI.big_of, PyI.andQ, PyI.loopQ, PyI.b2i, List.getElem?_cons_zero, List.getElem?_cons_succ, List.set_cons_zero, List.set_cons_succ, Option.map_some, Option.bind_some, Option.some.injEq, exists_eq_left', exists_eq_left, Bool.false_eq_true, Bool.and_true, Bool.true_and, if_true, if_false, reduceIte, List.length_cons, List.length_nil, List.length_map, Int.reduceLT, Int.reduceLE, Int.reduceNeg, Int.reducePow, Nat.reduceAdd, Nat.reduceLT, decide_true, decide_false, and_true, true_and, and_self, Bool.not_true, Bool.not_false, Bool.or_true, Bool.true_or, Bool.or_false, Bool.false_or, Int.cast_ofNat_Int, true_implies, true_or, or_true, or_false, false_or, reduceCtorEq, implies_true, false_implies, frL]
        refine st_cons (st_asg ?_)
        simp only [PyI.ev, PyI.evs, PyI.evo, PyI.evt, PyI.evc, PyI.evi, PyI.Res.bind_ok, PyI.sat_ok_iff, PyI.ssat_ok_iff, PyI.Lit.val, PyI.bltV, PyI.binV, PyI.cmpV, PyI.eqV, PyI.Tgt.put, PyI.lenV, PyI.pure, PyI.new, PyI.noFld, PyI.hasM, PyI.metV, PyI.bmV, PyI.kindV, PyI.isiV, PyI.tru, PyI.small_of, PyI.big_of, PyI.andQ, PyI.loopQ, PyI.b2i, List.getElem?_cons_zero, List.getElem?_cons_succ, List.set_cons_zero, List.set_cons_succ, Option.map_some, Option.bind_some, Option.some.injEq, exists_eq_left', exists_eq_left, Bool.false_eq_true, Bool.and_true, Bool.true_and, if_true, if_false, reduceIte, List.length_cons, List.length_nil, List.length_map, Int.reduceLT, Int.reduceLE, Int.reduceNeg, Int.reducePow, Nat.reduceAdd, Nat.reduceLT, decide_true, decide_false, and_true, true_and, and_self, Bool.not_true, Bool.not_false, Bool.or_true, Bool.true_or, Bool.or_false, Bool.false_or, Int.cast_ofNat_Int, true_implies, true_or, or_true, or_false, false_or, reduceCtorEq, implies_true, false_implies, show (2 : Nat) ≤ szl by omega]
        have fin : ∀ (m : Mem) (due : Val) (z : Option Val), m[0]? = some (.lst (ds.map .int)) → m[1]? = some (.lst hs) → m[2]? = some (logO B im hs) →
            (∃ m2, run P 39 4 [.ref 2, .int f, i2] m = .ok due (m ++ m2) ∧ eqV (m ++ m2) due due = some true) →
            (exs P (run P 39) (run P 38) (.cons (.ite (.e (.cmp .ne (.cal 4 (.cons (.var 7) (.cons (.var 8) (.cons (.var 5) .nil)))) (.var 9))) (.cons (.ret (.lit (.bl false))) .nil) .nil) (.cons (.ite (.e (.cmp .ne (.met (.var 7) 2 .none .nil) (.tup (.cons (.var 2) (.cons (.var 4) (.cons (.blt .tup (.cons (.var 6) .nil)) .nil)))))) (.cons (.ret (.lit (.bl false))) .nil) .nil) .nil)) (frL ns B il im i2 (some (.int f)) (some due) z) m).sat
              (loopQ (fun fr m => ∃ x y z : Option Val, m[0]? = some (.lst (ds.map .int)) ∧ m[1]? = some (.lst hs) ∧ m[2]? = some (logO B im hs) ∧ fr = frL ns B il im i2 x y z) fun f fr m => f = .nx) := fun m due z g0 g1 g3 ⟨m2, q1, q2⟩ => by
          refine st_cons (st_ite ?_)
          simp only [PyI.ev, PyI.evs, PyI.evo, PyI.evt, PyI.evc, PyI.evi, PyI.Res.bind_ok, PyI.sat_ok_iff, PyI.ssat_ok_iff, PyI.Lit.val, PyI.bltV, PyI.binV, PyI.cmpV, PyI.Tgt.put, PyI.lenV, PyI.pure, PyI.new, PyI.noFld, PyI.hasM, PyI.metV, PyI.bmV, PyI.kindV, PyI.isiV, PyI.tru, PyI.small_of, PyI.big_of, PyI.andQ, PyI.loopQ, PyI.b2i, List.getElem?_cons_zero, List.getElem?_cons_succ, List.set_cons_zero, List.set_cons_succ, Option.map_some, Option.bind_some, Option.some.injEq, exists_eq_left', exists_eq_left, Bool.false_eq_true, Bool.and_true, Bool.true_and, if_true, if_false, reduceIte, List.length_cons, List.length_nil, List.length_map, Int.reduceLT, Int.reduceLE, Int.reduceNeg, Int.reducePow, Nat.reduceAdd, Nat.reduceLT, decide_true, decide_false, and_true, true_and, and_self, Bool.not_true, Bool.not_false, Bool.or_true, Bool.true_or, Bool.or_false, Bool.false_or, Int.cast_ofNat_Int, true_implies, true_or, or_true, or_false, false_or, reduceCtorEq, implies_true, false_implies, frL, q1, q2]
          refine st_nil (st_cons (st_ite ?_))
          have ov := o_value (k := 37) (get_app (y := m2) g3)
          have g3' : (m ++ m2)[2]? = some (.ins 0 [(5, .int B), (4, im), (3, .tup hs)]) := get_app g3
          have mm : metF P 0 2 = some 10 := rfl
          have eq3 : eqV (m ++ m2) (.tup [.int B, im, .tup hs]) (.tup [.int B, im, .tup hs]) = some true := by
            refine eqV_tup ?_
            have := s2 (m ++ m2)
            have h2 := imD (m ++ m2)
            show ([.int B, im, .tup hs] : List Val).all (isD (m ++ m2) 59) = true
            simp only [List.all_cons, List.all_nil, h2, Bool.and_true, Bool.true_and]
            show (true && hs.all (isD (m ++ m2) 58)) = true
            rw [this]; rfl
          simp only [PyI.ev, PyI.evs, PyI.evo, PyI.evt, PyI.evc, PyI.evi, PyI.Res.bind_ok, PyI.sat_ok_iff, PyI.ssat_ok_iff, PyI.Lit.val, PyI.bltV, PyI.binV, PyI.cmpV, PyI.Tgt.put, PyI.lenV, PyI.pure, PyI.new, PyI.noFld, PyI.hasM, PyI.metV, PyI.bmV, PyI.kindV, PyI.isiV, PyI.tru, PyI.small_of, PyI.big_of, PyI.andQ, PyI.loopQ, PyI.b2i, List.getElem?_cons_zero, List.getElem?_cons_succ, List.set_cons_zero, List.set_cons_succ, Option.map_some, Option.bind_some, Option.some.injEq, exists_eq_left', exists_eq_left, Bool.false_eq_true, Bool.and_true, Bool.true_and, if_true, if_false, reduceIte, List.length_cons, List.length_nil, List.length_map, Int.reduceLT, Int.reduceLE, Int.reduceNeg, Int.reducePow, Nat.reduceAdd, Nat.reduceLT, decide_true, decide_false, and_true, true_and, and_self, Bool.not_true, Bool.not_false, Bool.or_true, Bool.true_or, Bool.or_false, Bool.false_or, Int.cast_ofNat_Int, true_implies, true_or, or_true, or_false, false_or, reduceCtorEq, implies_true, false_implies, frL, PyI.lstA, PyI.lstO, g3', mm, List.lookup_cons, List.lookup_nil, show (2 == 5) = false from rfl, show (2 == 4) = false from rfl, show (2 == 3) = false from rfl, Option.isNone_none, Option.isSome_some, Bool.and_self, ov, get_app (y := m2) g1, show (3 : Nat) ≤ szl by omega, eq3]
          exact st_nil (st_nil ⟨_, _, _, get_app g0, get_app g1, get_app g3, rfl⟩)
        by_cases hC : B ≤ f
        · have cd := c_due (ns := ns) (B := B) (f := f) (il := il) (im := im) (i2 := i2) (y := some (.tup [.str ['o', 'u', 't'], .bl true])) (z := z) g1 (by omega) s1
          refine st_cons (st_ite ?_)
          simp only [PyI.ev, PyI.evs, PyI.evo, PyI.evt, PyI.evc, PyI.evi, PyI.Res.bind_ok, PyI.sat_ok_iff, PyI.ssat_ok_iff, PyI.Lit.val, PyI.bltV, PyI.binV, PyI.cmpV, PyI.eqV, PyI.Tgt.put, PyI.lenV, PyI.pure, PyI.new, PyI.noFld, PyI.hasM, PyI.metV, PyI.bmV, PyI.kindV, PyI.isiV, PyI.tru, PyI.small_of, PyI.big_of, PyI.andQ, PyI.loopQ, PyI.b2i, List.getElem?_cons_zero, List.getElem?_cons_succ, List.set_cons_zero, List.set_cons_succ, Option.map_some, Option.bind_some, Option.some.injEq, exists_eq_left', exists_eq_left, Bool.false_eq_true, Bool.and_true, Bool.true_and, if_true, if_false, reduceIte, List.length_cons, List.length_nil, List.length_map, Int.reduceLT, Int.reduceLE, Int.reduceNeg, Int.reducePow, Nat.reduceAdd, Nat.reduceLT, decide_true, decide_false, and_true, true_and, and_self, Bool.not_true, Bool.not_false, Bool.or_true, Bool.true_or, Bool.or_false, Bool.false_or, Int.cast_ofNat_Int, true_implies, true_or, or_true, or_false, false_or, reduceCtorEq, implies_true, false_implies, hC]
          refine st_cons (st_asg ?_)
          have ee : ev P (run P 39) (run P 38) (.tup (.cons (.var 8) (.cons (.var 5) (.cons (.blt .tup (.cons cE .nil)) .nil)))) (frL ns B il im i2 (some (.int f)) (some (.tup [.str ['o', 'u', 't'], .bl true])) z) m = .ok (.tup [.int f, i2, .tup (hs.drop (f - B).toNat)]) (m ++ [.lst (hs.drop (f - B).toNat)]) := by
            refine ev_tup3 rfl rfl ?_ (by omega)
            rw [ev_blt1 cd]
            simp only [bltV, PyI.lstA, PyI.lstO, getL, Option.bind_some]
          rw [ee]
          simp only [PyI.ev, PyI.evs, PyI.evo, PyI.evt, PyI.evc, PyI.evi, PyI.Res.bind_ok, PyI.sat_ok_iff, PyI.ssat_ok_iff, PyI.Lit.val, PyI.bltV, PyI.binV, PyI.cmpV, PyI.eqV, PyI.Tgt.put, PyI.lenV, PyI.pure, PyI.new, PyI.noFld, PyI.hasM, PyI.metV, PyI.bmV, PyI.kindV, PyI.isiV, PyI.tru, PyI.small_of, PyI.big_of, PyI.andQ, PyI.loopQ, PyI.b2i, List.getElem?_cons_zero, List.getElem?_cons_succ, List.set_cons_zero, List.set_cons_succ, Option.map_some, Option.bind_some, Option.some.injEq, exists_eq_left', exists_eq_left, Bool.false_eq_true, Bool.and_true, Bool.true_and, if_true, if_false, reduceIte, List.length_cons, List.length_nil, List.length_map, Int.reduceLT, Int.reduceLE, Int.reduceNeg, Int.reducePow, Nat.reduceAdd, Nat.reduceLT, decide_true, decide_false, and_true, true_and, and_self, Bool.not_true, Bool.not_false, Bool.or_true, Bool.true_or, Bool.or_false, Bool.false_or, Int.cast_ofNat_Int, true_implies, true_or, or_true, or_false, false_or, reduceCtorEq, implies_true, false_implies]
          refine st_nil ?_
          show (exs P _ _ _ (frL ns B il im i2 (some (.int f)) (some (.tup [.int f, i2, .tup (hs.drop (f - B).toNat)])) z) _).sat _
          refine fin _ _ _ (get_app g0) (get_app g1) (get_app g3) ?_
          have lj := o_lawcut (k := 33) (f := f) (im2 := i2) (get_app (y := [.lst (hs.drop (f - B).toNat)]) g3) hC
          refine ⟨_, lj, eqV_tup ?_⟩
          generalize m ++ [Ob.lst (hs.drop (f - B).toNat)] ++ [logO f i2 (hs.drop (f - B).toNat)] = M
          show ([.int f, i2, .tup (hs.drop (f - B).toNat)] : List Val).all (isD M 59) = true
          simp only [List.all_cons, List.all_nil, i2D, Bool.and_true, Bool.true_and]
          show (true && (hs.drop (f - B).toNat).all (isD M 58)) = true
          have dz : (hs.drop (f - B).toNat).all (isD M 58) = true := by
            rw [List.all_eq_true]
            intro x hx
            exact List.all_eq_true.mp (s2 M) x (List.mem_of_mem_drop hx)
          rw [dz]
          rfl
        · refine st_cons (st_ite ?_)
          have lj := o_lawcutE (k := 33) (f := f) (im2 := i2) g3 (by omega)
          have go := fin m (.tup [.str ['o', 'u', 't'], .bl true]) z g0 g1 g3 ⟨[], by rw [List.append_nil]; exact lj, eqV_tup rfl⟩
          simp only [PyI.ev, PyI.evs, PyI.evo, PyI.evt, PyI.evc, PyI.evi, PyI.Res.bind_ok, PyI.sat_ok_iff, PyI.ssat_ok_iff, PyI.Lit.val, PyI.bltV, PyI.binV, PyI.cmpV, PyI.eqV, PyI.Tgt.put, PyI.lenV, PyI.pure, PyI.new, PyI.noFld, PyI.hasM, PyI.metV, PyI.bmV, PyI.kindV, PyI.isiV, PyI.tru, PyI.small_of, PyI.big_of, PyI.andQ, PyI.loopQ, PyI.b2i, List.getElem?_cons_zero, List.getElem?_cons_succ, List.set_cons_zero, List.set_cons_succ, Option.map_some, Option.bind_some, Option.some.injEq, exists_eq_left', exists_eq_left, Bool.false_eq_true, Bool.and_true, Bool.true_and, if_true, if_false, reduceIte, List.length_cons, List.length_nil, List.length_map, Int.reduceLT, Int.reduceLE, Int.reduceNeg, Int.reducePow, Nat.reduceAdd, Nat.reduceLT, decide_true, decide_false, and_true, true_and, and_self, Bool.not_true, Bool.not_false, Bool.or_true, Bool.true_or, Bool.or_false, Bool.false_or, Int.cast_ofNat_Int, true_implies, true_or, or_true, or_false, false_or, reduceCtorEq, implies_true, false_implies, hC]
          exact st_nil go
      · rintro fr m _
        trivial
    · refine st_cons (st_ret ?_)
      simp only [PyI.ev, PyI.evs, PyI.evo, PyI.evt, PyI.evc, PyI.evi, PyI.Res.bind_ok, PyI.sat_ok_iff, PyI.ssat_ok_iff, PyI.Lit.val, PyI.bltV, PyI.binV, PyI.cmpV, PyI.eqV, PyI.Tgt.put, PyI.lenV, PyI.pure, PyI.new, PyI.noFld, PyI.hasM, PyI.metV, PyI.bmV, PyI.kindV, PyI.isiV, PyI.tru, PyI.small_of, PyI.big_of, PyI.andQ, PyI.loopQ, PyI.b2i, List.getElem?_cons_zero, List.getElem?_cons_succ, List.set_cons_zero, List.set_cons_succ, Option.map_some, Option.bind_some, Option.some.injEq, exists_eq_left', exists_eq_left, Bool.false_eq_true, Bool.and_true, Bool.true_and, if_true, if_false, reduceIte, List.length_cons, List.length_nil, List.length_map, Int.reduceLT, Int.reduceLE, Int.reduceNeg, Int.reducePow, Nat.reduceAdd, Nat.reduceLT, decide_true, decide_false, and_true, true_and, and_self, Bool.not_true, Bool.not_false, Bool.or_true, Bool.true_or, Bool.or_false, Bool.false_or, Int.cast_ofNat_Int, true_implies, true_or, or_true, or_false, false_or, reduceCtorEq, implies_true, false_implies]
  obtain ⟨v, h, e, rfl⟩ := key.sat_eq
  exact ⟨h, e⟩
end PyLaw
open PySem PySem.W PyProof.Rows
set_option maxRecDepth 1000000 in
set_option maxHeartbeats 0 in
theorem PySem.Challenge.cw_appendhall_k18_cut_of_a_log_holds : PySem.Challenge.rw_appendhall_k18_cut_of_a_log.Holds := by
  w_on; o_law; k_head; (case hw => w_witness2)
  k_fill
  refine PyI.walk_py (l := PySem.Challenge.rw_appendhall_k18_cut_of_a_log) (n := 63) (k := 40) (i := 5) (P := PyLaw.P) (x := "_law_script") rfl (by decide) rfl ⟨rfl, by decide, by decide⟩ (fun w h Y => PySem.W.kIn_of Y) rfl PyLaw.plain ?F
  case F =>
    intro w mg fa h KX GG hmg
    refine' PyLaw.all_mk (l := PySem.Challenge.rw_appendhall_k18_cut_of_a_log) (w := w) KX GG hmg ?a0 ?a1 ?a2 ?a3 ?a4 ?a5 ?aC0 ?a6 ?i6 ?a7 ?pg7 ?pt7 ?pr7 ?a8 ?i8 ?a9 ?i9 ?a10 ?i10 ?l0 ?c0 ?k0 ?l1 ?c1 ?k1 ?l2 ?c2 ?k2 ?l3 ?c3 ?k3 ?l4 ?c4 ?k4 ?l5 ?c5 ?k5 ?l6 ?c6 ?k6 ?l7 ?c7 ?k7 ?l8 ?c8 ?k8 ?l9 ?c9 ?k9 ?l10 ?c10 ?k10 ?pgC0 ?hdC0 ?poC0 ?saC0 ?mkC0 ?kcC0 ?nf0_5 ?nf0_4 ?nf0_3 ?z0 ?z1 ?z2 ?z3 ?z4 ?aE0 ?aE1 ?zE2 ?xE0 ?kE0 ?bE0 ?tE0 ?dE0 ?xE1 ?kE1 ?bE1 ?tE1 ?dE1 ?gE0 ?hE0 ?jE0 ?mE0 ?nE ?oE ?sE0_0 ?kt0_0 ?sE0_1 ?kt0_1 ?sE0_2 ?kt0_2
    (case a0 => k_is)
    (case a1 => k_is)
    (case a2 => k_is)
    (case a3 => k_is)
    (case a4 => k_is)
    (case a5 => k_is)
    (case aC0 => k_is)
    (case a6 => k_is)
    (case i6 => k_is)
    (case a7 => k_is)
    (case pg7 => k_is)
    (case pt7 => k_is)
    (case pr7 => k_is)
    (case a8 => k_is)
    (case i8 => k_is)
    (case a9 => k_is)
    (case i9 => k_is)
    (case a10 => k_is)
    (case i10 => k_is)
    (case l0 => k_is)
    (case c0 => k_is)
    (case k0 => k_is)
    (case l1 => k_is)
    (case c1 => k_is)
    (case k1 => k_is)
    (case l2 => k_is)
    (case c2 => k_is)
    (case k2 => k_is)
    (case l3 => k_is)
    (case c3 => k_is)
    (case k3 => k_is)
    (case l4 => k_is)
    (case c4 => k_is)
    (case k4 => k_is)
    (case l5 => k_is)
    (case c5 => k_is)
    (case k5 => k_is)
    (case l6 => k_is)
    (case c6 => k_is)
    (case k6 => k_is)
    (case l7 => k_is)
    (case c7 => k_is)
    (case k7 => k_is)
    (case l8 => k_is)
    (case c8 => k_is)
    (case k8 => k_is)
    (case l9 => k_is)
    (case c9 => k_is)
    (case k9 => k_is)
    (case l10 => k_is)
    (case c10 => k_is)
    (case k10 => k_is)
    (case pgC0 => k_is)
    (case hdC0 => k_is)
    (case poC0 => k_is)
    (case saC0 => k_is)
    (case mkC0 => k_is)
    (case kcC0 => k_is)
    (case nf0_5 => k_is)
    (case nf0_4 => k_is)
    (case nf0_3 => k_is)
    (case z0 => k_is)
    (case z1 => k_is)
    (case z2 => k_is)
    (case z3 => k_is)
    (case z4 => k_is)
    (case aE0 => k_is)
    (case aE1 => k_is)
    (case zE2 => k_is)
    (case xE0 => k_exc)
    (case kE0 => k_is)
    (case bE0 => k_is)
    (case tE0 => k_is)
    (case dE0 => k_is)
    (case xE1 => k_exc)
    (case kE1 => k_is)
    (case bE1 => k_is)
    (case tE1 => k_is)
    (case dE1 => k_is)
    (case gE0 => k_is)
    (case hE0 => k_is)
    (case jE0 => k_is)
    (case mE0 => k_is)
    (case nE => k_is)
    (case oE => k_is)
    (case sE0_0 => first | rfl | k_is)
    (case kt0_0 => first | rfl | k_is)
    (case sE0_1 => first | rfl | k_is)
    (case kt0_1 => first | rfl | k_is)
    (case sE0_2 => first | rfl | k_is)
    (case kt0_2 => first | rfl | k_is)
