import PyProof.Rows.All
import Wide.All
import OpenK.AllK
import Wide.FinOn
import HandS.ForMost
import HandS.ForExc
import HandS.TryMany
import HandS.CallSlots
import HandS.Flow
import HandS.IsInst
import HandS.ExcIs
import HandS.Property
import HandS.SortInts
import HandS.SortKw
import HandS.TupAny
import HandS.TupLe
import HandS.Deep
import HandS.Conv
import HandS.Style
import HandS.More
import HandS.RaiseOp
import HandS.WrittenGet
import HandS.Strs
import HandS.DictComp
import HandS.TupMul
import HandS.Wide
import HandS.TupLen
import HandS.RaiseMore
import HandS.Defaults
import HandS.Codes
import PyProof.AutoSeq1
import HandS.Zip
import HandS.Rev
import PyProof.AssignAttr
import HandS.WordsExc
import HandS.Ends
import HandS.MakeKwOnly
import KE.OsRunLaw
import PySem.Challenge.RW_appendhall_k51_reads_close_by_majority
set_option Elab.async false
set_option linter.all false
set_option autoImplicit false
set_option maxRecDepth 1000000
set_option maxHeartbeats 4000000
set_option maxHeartbeats 0 in
theorem k_map3 {α β γ δ : Type} {o : Option α} {f : α → β} {g : α → γ} {h : α → δ} {a : β} {b : γ} {c : δ} (e1 : o.map f = some a) (e2 : o.map g = some b) (e3 : o.map h = some c) : o.map (fun s => (f s, g s, h s)) = some (a, b, c) := by
  cases o with
  | none => cases e1
  | some s => cases e1; cases e2; cases e3; rfl
theorem k_cat {α β : Type} {o : Option α} {g h : α → List β} {a b : List β} (e1 : o.map g = some a) (e2 : o.map h = some b) : o.map (fun s => g s ++ h s) = some (a ++ b) := by
  cases o with
  | none => cases e1
  | some s => cases e1; cases e2; rfl
section
open PySem PySem.W PyProof.Rows
set_option maxHeartbeats 0
def k_q : Program := view PySem.Challenge.rw_appendhall_k51_reads_close_by_majority.row.prog [12]
def k_loose : List PySem.Str := [PySem.Str.ofString "__name__", PySem.Str.ofString "majority", PySem.Str.ofString "has_majority", PySem.Str.ofString "Reads", PySem.Str.ofString "_law_stream", PySem.Str.ofString "_law_draw", PySem.Str.ofString "_law_same", PySem.Str.ofString "_law_query", PySem.Str.ofString "_law_unanswered", PySem.Str.ofString "_law_due"]
theorem k_r1 (w : World) (os : OsState) : Option.map (fun s => HeadRun.looksF PySem.Challenge.rw_appendhall_k51_reads_close_by_majority.row.prog (boot_heap w.params) s.abs) (HeadRun.endF (HeadRun.stepQ (HeadRun.denQ HeadRun.tabQ) PySem.Challenge.rw_appendhall_k51_reads_close_by_majority.row.prog w) 1436 PySem.Challenge.rw_appendhall_k51_reads_close_by_majority.row.prog w os) = some true := by kernel_rfl
theorem k_r2 (w : World) (os : OsState) : Option.map (fun s => HeadRun.seenQ k_q k_loose (importedModules PySem.Challenge.rw_appendhall_k51_reads_close_by_majority.row.prog.main.body) (fun s => xlAt k_q [] s && recOk PySem.Challenge.rw_appendhall_k51_reads_close_by_majority.row.records s) s.abs) (HeadRun.endF (HeadRun.stepQ (HeadRun.denQ HeadRun.tabQ) PySem.Challenge.rw_appendhall_k51_reads_close_by_majority.row.prog w) 1436 PySem.Challenge.rw_appendhall_k51_reads_close_by_majority.row.prog w os) = some (openGood k_q k_loose) := by kernel_rfl
section
local macro_rules | `(tactic| o_headL $H) => `(tactic| exact False.elim (by assumption))
theorem k_pre (H : False) : (PySem.Challenge.rw_appendhall_k51_reads_close_by_majority.row).Holds := by k_headL
end
theorem k_ek : ∀ P : Params, [2, 3, 6, 15, 17, 18, 20, 21, 22, 24, 25, 27, 28, 36, 38, 39, 41, 42, 43, 45, 46, 48, 49, 50, 52, 53, 55, 56, 57, 59, 60, 62, 63, 64, 65, 66, 67, 68, 71, 73, 74, 76, 77, 78, 80, 81, 83, 84, 85, 87, 88, 90, 91, 92, 94, 95, 97, 98, 99, 101, 102, 104, 105, 106, 108, 109, 111, 112, 113, 115, 116, 118, 119] = (k_pre.heap_1 P).map (·.1) := fun _ => by kernel_rfl
theorem k_r30 (w : World) (os : OsState) : Option.map (fun s => List.map (HeadRun.getT s) [2, 3, 6, 15, 17, 18, 20, 21, 22, 24, 25, 27, 28, 36, 38, 39, 41, 42, 43, 45, 46, 48, 49, 50, 52, 53, 55, 56, 57, 59, 60, 62, 63, 64, 65, 66, 67, 68, 71, 73, 74, 76, 77, 78, 80, 81, 83, 84, 85, 87, 88, 90, 91, 92, 94, 95, 97, 98, 99, 101, 102, 104, 105, 106, 108, 109, 111, 112, 113, 115, 116, 118, 119]) (HeadRun.endF (HeadRun.stepQ (HeadRun.denQ HeadRun.tabQ) PySem.Challenge.rw_appendhall_k51_reads_close_by_majority.row.prog w) 1436 PySem.Challenge.rw_appendhall_k51_reads_close_by_majority.row.prog w os) = some (List.map (fun x => some x.snd) (k_pre.heap_1 w.params)) := by kernel_rfl
theorem k_r3 (w : World) (os : OsState) : Option.map (fun s => List.map (HeadRun.getT s) [2, 3, 6, 15, 17, 18, 20, 21, 22, 24, 25, 27, 28, 36, 38, 39, 41, 42, 43, 45, 46, 48, 49, 50, 52, 53, 55, 56, 57, 59, 60, 62, 63, 64, 65, 66, 67, 68, 71, 73, 74, 76, 77, 78, 80, 81, 83, 84, 85, 87, 88, 90, 91, 92, 94, 95, 97, 98, 99, 101, 102, 104, 105, 106, 108, 109, 111, 112, 113, 115, 116, 118, 119]) (HeadRun.endF (HeadRun.stepQ (HeadRun.denQ HeadRun.tabQ) PySem.Challenge.rw_appendhall_k51_reads_close_by_majority.row.prog w) 1436 PySem.Challenge.rw_appendhall_k51_reads_close_by_majority.row.prog w os) = some (List.map (fun x => some x.snd) (k_pre.heap_1 w.params)) := k_r30 w os
theorem k_left : LeftO PySem.Challenge.rw_appendhall_k51_reads_close_by_majority.row.prog k_q k_loose (fun s => xlAt k_q [] s && recOk PySem.Challenge.rw_appendhall_k51_reads_close_by_majority.row.records s) (Hook.obs (kHook k_pre.heap_1 [2, 3, 6, 15, 17, 18, 20, 21, 22, 24, 25, 27, 28, 36, 38, 39, 41, 42, 43, 45, 46, 48, 49, 50, 52, 53, 55, 56, 57, 59, 60, 62, 63, 64, 65, 66, 67, 68, 71, 73, 74, 76, 77, 78, 80, 81, 83, 84, 85, 87, 88, 90, 91, 92, 94, 95, 97, 98, 99, 101, 102, 104, 105, 106, 108, 109, 111, 112, 113, 115, 116, 118, 119] k_ek)) (Hook.val (kHook k_pre.heap_1 [2, 3, 6, 15, 17, 18, 20, 21, 22, 24, 25, 27, 28, 36, 38, 39, 41, 42, 43, 45, 46, 48, 49, 50, 52, 53, 55, 56, 57, 59, 60, 62, 63, 64, 65, 66, 67, 68, 71, 73, 74, 76, 77, 78, 80, 81, 83, 84, 85, 87, 88, 90, 91, 92, 94, 95, 97, 98, 99, 101, 102, 104, 105, 106, 108, 109, 111, 112, 113, 115, 116, 118, 119] k_ek)) 2136 true :=
  HeadRun.left_oneK (M := 1436) (by kernel_rfl) (by rfl) (fun s => by kernel_rfl) (by rfl) (fun w os => k_map3 (k_r1 w os) (k_r2 w os) (k_r3 w os))
set_option hygiene false
local macro_rules | `(tactic| k_head) => `(tactic| (refine holds_open (q := k_q) (loose := k_loose) (Xt := (fun s => xlAt k_q [] s && recOk PySem.Challenge.rw_appendhall_k51_reads_close_by_majority.row.records s)) (XP := XL k_q []) (Yf := Hook.obs (kHook k_pre.heap_1 [2, 3, 6, 15, 17, 18, 20, 21, 22, 24, 25, 27, 28, 36, 38, 39, 41, 42, 43, 45, 46, 48, 49, 50, 52, 53, 55, 56, 57, 59, 60, 62, 63, 64, 65, 66, 67, 68, 71, 73, 74, 76, 77, 78, 80, 81, 83, 84, 85, 87, 88, 90, 91, 92, 94, 95, 97, 98, 99, 101, 102, 104, 105, 106, 108, 109, 111, 112, 113, 115, 116, 118, 119] k_ek)) (Ya := Hook.val (kHook k_pre.heap_1 [2, 3, 6, 15, 17, 18, 20, 21, 22, 24, 25, 27, 28, 36, 38, 39, 41, 42, 43, 45, 46, 48, 49, 50, 52, 53, 55, 56, 57, 59, 60, 62, 63, 64, 65, 66, 67, 68, 71, 73, 74, 76, 77, 78, 80, 81, 83, 84, 85, 87, 88, 90, 91, 92, 94, 95, 97, 98, 99, 101, 102, 104, 105, 106, 108, 109, 111, 112, 113, 115, 116, 118, 119] k_ek)) (YP := Hook.says (kHook k_pre.heap_1 [2, 3, 6, 15, 17, 18, 20, 21, 22, 24, 25, 27, 28, 36, 38, 39, 41, 42, 43, 45, 46, 48, 49, 50, 52, 53, 55, 56, 57, 59, 60, 62, 63, 64, 65, 66, 67, 68, 71, 73, 74, 76, 77, 78, 80, 81, 83, 84, 85, 87, 88, 90, 91, 92, 94, 95, 97, 98, 99, 101, 102, 104, 105, 106, 108, 109, 111, 112, 113, 115, 116, 118, 119] k_ek)) (N := 2136) k_left (Hook.of (kHook k_pre.heap_1 [2, 3, 6, 15, 17, 18, 20, 21, 22, 24, 25, 27, 28, 36, 38, 39, 41, 42, 43, 45, 46, 48, 49, 50, 52, 53, 55, 56, 57, 59, 60, 62, 63, 64, 65, 66, 67, 68, 71, 73, 74, 76, 77, 78, 80, 81, 83, 84, 85, 87, 88, 90, 91, 92, 94, 95, 97, 98, 99, 101, 102, 104, 105, 106, 108, 109, 111, 112, 113, 115, 116, 118, 119] k_ek)) (Hook.keeps (kHook k_pre.heap_1 [2, 3, 6, 15, 17, 18, 20, 21, 22, 24, 25, 27, 28, 36, 38, 39, 41, 42, 43, 45, 46, 48, 49, 50, 52, 53, 55, 56, 57, 59, 60, 62, 63, 64, 65, 66, 67, 68, 71, 73, 74, 76, 77, 78, 80, 81, 83, 84, 85, 87, 88, 90, 91, 92, 94, 95, 97, 98, 99, 101, 102, 104, 105, 106, 108, 109, 111, 112, 113, 115, 116, 118, 119] k_ek)) (fun s e => xl_of s (Bool.and_eq_true_iff.mp e).1) XL.keeps (by rfl) (by rfl) (by rfl) (fun s e => recFacts_of (Bool.and_eq_true_iff.mp e).2) (by rfl) (by first | assumption | decide +kernel) (by decide +kernel) ⟨rfl, rfl, rfl, rfl, rfl, by decide +kernel⟩ ?hw ?hc))
open_top k_top for PySem.Challenge.rw_appendhall_k51_reads_close_by_majority
end
/-! PyI, version 2: a small language of statements, and what its programs do.
Lists and dicts that never change are values; those of a local or of a field stand in place; what is shared stands in the memory. -/
namespace PyI
noncomputable section
abbrev Txt := List Char
abbrev Key := Sum Int Txt
inductive Val where
  | non | bl (b : Bool) | int (i : Int) | str (s : Txt) | tup (xs : List Val) | ref (n : Nat) | fn (f : Nat)
  /-- a list, a dict, an instance that never changes -/
  | lst (xs : List Val) | dik (kvs : List (Key × Val)) | ins (c : Nat) (fs : List (Nat × Val))
  /-- a tuple, a dict of the text's own top -/
  | ktp (xs : List Val) | kdk (kvs : List (Key × Val))
  /-- the law's script -/
  | kls (xs : List Val)
  deriving Inhabited
/-- what a list, a dict, a set holds -/
inductive Con where
  | lst (xs : List Val) | dik (kvs : List (Key × Val)) | dit (kvs : List (List Key × Val)) | set (xs : List Int)
  deriving Inhabited
/-- a place: empty, a value, an own container -/
inductive Sl where
  | e | v (x : Val) | o (c : Con)
  deriving Inhabited
inductive Ob where
  | con (c : Con)
  /-- locked, while it is walked -/
  | lck (c : Con)
  | ins (c : Nat) (fs : List (Nat × Sl))
  deriving Inhabited
abbrev Mem := List Ob
abbrev Fr := List Sl
/-- what a function gives back: a value, a new list -/
inductive Ret where
  | v (x : Val) | f (xs : List Val)
def Ret.val : Ret → Val
  | .v x => x
  | .f xs => .lst xs
@[simp] theorem Ret.val_v (x : Val) : (Ret.v x).val = x := rfl
@[simp] theorem Ret.val_f (xs : List Val) : (Ret.f xs).val = .lst xs := rfl
inductive Res (α : Type) where
  | ok (a : α) (h : Mem)
  | exc (c : Nat) (h : Mem)
  | bad
namespace Res
def bind {α β : Type} (r : Res α) (f : α → Mem → Res β) : Res β := match r with
  | .ok a h => f a h
  | .exc c h => .exc c h
  | .bad => .bad
@[simp] theorem bind_ok {α β : Type} (a : α) (h : Mem) (f : α → Mem → Res β) : bind (.ok a h) f = f a h := rfl
@[simp] theorem bind_exc {α β : Type} (c : Nat) (h : Mem) (f : α → Mem → Res β) : bind (.exc c h) f = .exc c h := rfl
@[simp] theorem bind_bad {α β : Type} (f : α → Mem → Res β) : bind .bad f = .bad := rfl
end Res
inductive Flow where
  | nx | rt (v : Ret) | bk | ct
inductive SR where
  | ok (f : Flow) (fr : Fr) (h : Mem)
  | exc (c : Nat) (fr : Fr) (h : Mem)
  | bad
/-! ### the language -/
inductive Lit where
  | non | bl (b : Bool) | int (i : Int) | str (s : Txt)
def Lit.val : Lit → Val
  | .non => .non
  | .bl b => .bl b
  | .int i => .int i
  | .str s => .str s
inductive Bop where | add | sub | mul | div | mod | pow
inductive Cop where | eq | ne | lt | le | gt | ge | isin | notin
inductive Ty where | int | bool | str | tuple | list | cls (c : Nat) | tl
/-- built-in functions that give values -/
inductive Blt where | len | int | tup | max2 | min2 | max1 | sum | ord | str | repr
/-- built-in methods -/
inductive Bm where | append | extend | get | pop | insert | clear | remove | join | count | index | starts | upper | none
  deriving DecidableEq
/-- a place of an own container -/
inductive Px where
  | s (i : Nat)
  /-- field f of what slot i holds -/
  | f (i f : Nat)
/-- what is read off an own container -/
inductive Pop where | len | ix | get1 | get2 | tup
/-- a target that stores to slots -/
inductive Tgt where
  | v (i : Nat)
  | t (ts : List Tgt)
/-- how a function is named in a call -/
inductive Ck where
  /-- by its name, the last k arguments by keywords -/
  | nm (k : Nat)
  /-- static, off a class -/
  | st (c m : Nat)
mutual
inductive Ex where
  | lit (l : Lit)
  | var (i : Nat)
  | con (g : Nat)
  | bin (o : Bop) (a b : Ex)
  | neg (a : Ex)
  | nt (a : Ex)
  | and (a b : Ex)
  | or (a b : Ex)
  | cmp (o : Cop) (a b : Ex)
  | chn (o p : Cop) (a b c : Ex)
  | isN (n : Bool) (a : Ex)
  | isB (n : Bool) (b : Bool) (a : Ex)
  | tup (es : Exs)
  | ix (a i : Ex)
  | sl (a : Ex) (lo hi : OEx)
  | att (a : Ex) (f : Nat)
  | cal (k : Ck) (f : Nat) (es : Exs)
  /-- k: how many arguments by keywords -/
  | mk (c k : Nat) (es : Exs)
  /-- an instance that never changes -/
  | mkI (c : Nat) (es : Exs)
  | met (a : Ex) (m k : Nat) (b : Bm) (es : Exs)
  | blt (b : Blt) (es : Exs)
  | isi (a : Ex) (t : Ty)
  /-- a new list or dict that never changes; one in the memory -/
  | az (a : Az)
  | hp (a : Az)
  | pl (p : Px) (op : Pop) (es : Exs)
  | pin (n : Bool) (a : Ex) (p : Px)
  /-- len of an instance, by its method m -/
  | len1 (a : Ex) (m : Nat)
/-- what makes a new container -/
inductive Az where
  | dsp (es : Exs)
  | dd (ks : List Lit) (es : Exs)
  | dt
  | set
  | sl (a : Ex) (lo hi : OEx)
  /-- of slot i's own list -/
  | slP (i : Nat) (lo hi : OEx)
  | slr (a : Ex)
  | add (a b : Ex)
  | mul (a b : Ex)
  | lof (a : Ex)
  | dof (a : Ex)
  | lofP (p : Px)
  | dofP (p : Px)
  | srt (a : Ex)
  | srtP (p : Px)
  | srtR (a : Ex)
  | split (a b : Ex)
  | lr1 (e : Ex)
  | lr2 (a b : Ex)
  | comp (tg : Tgt) (it : Itx) (cond : OTe) (e : Ex)
  | cal (k : Ck) (f : Nat) (es : Exs)
  | met (a : Ex) (m k : Nat) (es : Exs)
/-- a test -/
inductive Te where
  | e (a : Ex)
  | nt (a : Te)
  | and (a b : Te)
  | or (a b : Te)
  | pt (p : Px)
inductive OTe where
  | no
  | so (e : Te)
inductive Exs where
  | nil
  | cons (e : Ex) (es : Exs)
inductive OEx where
  | no
  | so (e : Ex)
inductive Itx where
  | val (e : Ex)
  | rng1 (e : Ex)
  | rng2 (a b : Ex)
  | rng3 (a b c : Ex)
  | enum (e : Ex)
  | zip (a b : Ex)
  | rev (e : Ex)
  /-- the keys, the pairs of a dict that slot i holds -/
  | keys (i : Nat)
  | items (i : Nat)
end
mutual
inductive Sm where
  | asg (tg : Tgt) (e : Ex)
  /-- to attributes of what slots hold -/
  | asgT (as : List (Nat × Nat)) (e : Ex)
  | asgA (o : Ex) (f : Nat) (e : Ex)
  | asgI (o i e : Ex)
  | augA (o : Ex) (f : Nat) (sub : Bool) (e : Ex)
  /-- a new own container: of slot i; of field f of what slot i holds -/
  | own (i : Nat) (a : Az)
  | ownA (i f : Nat) (a : Az)
  /-- slot i's own container never changes from here on; nothing stands for it in the text -/
  | frz (i : Nat)
  /-- place.append(e), place.extend(e), place.add(e), place[i] = e, del place[i] -/
  | papp (p : Px) (e : Ex)
  | pext (p : Px) (e : Ex)
  | padd (p : Px) (e : Ex)
  | pset (p : Px) (i e : Ex)
  | pdel (p : Px) (i : Ex)
  | exp (e : Ex)
  | ret (e : Ex)
  | retA (a : Az)
  | retO (i : Nat)
  | retN
  | ite (c : Te) (t e : Sms)
  | whl (c : Te) (b : Sms)
  | for (tg : Tgt) (it : Itx) (b : Sms)
  /-- over the own list in field f of what slot i holds, from the end if r -/
  | forF (r : Bool) (tg : Tgt) (i f : Nat) (b : Sms)
  /-- over the keys, the pairs (if p) of a dict, which is locked meanwhile -/
  | forD (p : Bool) (tg : Tgt) (e : Ex) (b : Sms)
  | raise (c : Nat)
  | try (b : Sms) (hs : Hds)
  | pass | brk | cnt
  | del (o i : Ex)
inductive Sms where
  | nil
  | cons (s : Sm) (ss : Sms)
inductive Hds where
  | nil
  | cons (c : Nat) (b : XSms) (hs : Hds)
  /-- the only clause, with a name -/
  | one (c : Nat) (i : Nat) (b : XSms)
/-- what stands in an except suite -/
inductive XSms where
  | nil
  | cons (s : XSm) (ss : XSms)
inductive XSm where
  | ret (e : XEx)
  | ite (c : XEx) (t e : XSms)
  | asg (i : Nat) (e : XEx)
  | pass
inductive XEx where
  | lit (l : Lit)
  | var (i : Nat)
  | exi (c : Nat)
  | and (a b : XEx)
  | or (a b : XEx)
  | nt (a : XEx)
  | tup (es : XExs)
  | lst (es : XExs)
inductive XExs where
  | nil
  | cons (e : XEx) (es : XExs)
end
structure Fn where
  np : Nat
  ns : Nat
  /-- the last parameters' defaults -/
  df : List Lit
  body : Sms
structure Cl where
  /-- its __init__ -/
  ini : Nat
  /-- its methods, its properties: names and functions -/
  ms : List (Nat × Nat)
  ps : List (Nat × Nat)
  /-- the names of its attributes -/
  fs : List Nat
  /-- an __init__ that only stores its parameters -/
  rc : Option (List Nat)
structure Pg where
  fns : List (Nat × Fn)
  cls : List (Nat × Cl)
  /-- the pairs of an instance's class and a class that isinstance is asked of -/
  ist : List (Nat × Nat)
  /-- exc c d: an error of class c is one of class d -/
  exc : Nat → Nat → Option Bool
  /-- how many turns of a while are walked -/
  lim : Nat
  /-- the constants of the text's top -/
  kon : List (Nat × Val)
def Pg.fn (P : Pg) (i : Nat) : Option Fn := P.fns.lookup i
def Pg.cl (P : Pg) (i : Nat) : Option Cl := P.cls.lookup i
def Pg.kn (P : Pg) (i : Nat) : Option Val := P.kon.lookup i
/-! ### values -/
def szl : Nat := 16777216
def lsO : Ob → Option (List Val)
  | .con (.lst xs) => some xs
  | _ => none
def lsN (h : Mem) (a : Nat) : Option (List Val) := (h[a]?).bind lsO
/-- the items of a list -/
def lsA (h : Mem) : Val → Option (List Val)
  | .ref a => lsN h a
  | .lst xs => some xs
  | _ => none
/-- the items of a list or a tuple -/
def seqA (h : Mem) : Val → Option (List Val)
  | .ref a => lsN h a
  | .tup xs => some xs
  | .ktp xs => some xs
  | .lst xs => some xs
  | _ => none
def tupO : Val → Option (List Val)
  | .tup xs => some xs
  | _ => none
def nth {α : Type} (xs : List α) (i : Int) : Option α :=
  if 0 ≤ i then xs[i.toNat]? else if -(xs.length : Int) ≤ i then xs[(i + xs.length).toNat]? else none
def ixOf (n : Nat) (i : Int) : Option Nat := if 0 ≤ i then (if i < n then some i.toNat else none) else if -(n : Int) ≤ i then some (i + n).toNat else none
def sIx (n d : Nat) : Option Int → Nat
  | none => d
  | some v => if v < 0 then (v + (n : Int)).toNat else min v.toNat n
def cut {α : Type} (xs : List α) (lo hi : Option Int) : List α :=
  (xs.drop (sIx xs.length 0 lo)).take (sIx xs.length xs.length hi - sIx xs.length 0 lo)
/-- plain data: no objects but lists -/
def isD (h : Mem) : Nat → Val → Bool
  | 0, _ => false
  | n + 1, v => match v with
    | .tup xs => xs.all (isD h n)
    | .lst xs => xs.all (isD h n)
    | .ref a => match lsN h a with
      | some xs => xs.all (isD h n)
      | none => false
    | .fn _ => false
    | .dik _ => false
    | .ins _ _ => false
    | .ktp _ => false
    | .kdk _ => false
    | .kls _ => false
    | _ => true
def eqs (f : Val → Val → Bool) : List Val → List Val → Bool
  | [], [] => true
  | x :: xs, y :: ys => f x y && eqs f xs ys
  | _, _ => false
def b2i (b : Bool) : Int := if b then 1 else 0
def eqB (h : Mem) : Nat → Val → Val → Bool
  | 0, _, _ => false
  | n + 1, v, w => match v, w with
    | .non, .non => true
    | .bl a, .bl b => a == b
    | .bl a, .int j => b2i a == j
    | .int i, .bl b => i == b2i b
    | .int i, .int j => i == j
    | .str x, .str y => x == y
    | .tup xs, .tup ys => eqs (eqB h n) xs ys
    | .lst xs, .lst ys => eqs (eqB h n) xs ys
    | .lst xs, .ref b => match lsN h b with | some ys => eqs (eqB h n) xs ys | none => false
    | .ref a, .lst ys => match lsN h a with | some xs => eqs (eqB h n) xs ys | none => false
    | .ref a, .ref b => match lsN h a, lsN h b with
      | some xs, some ys => eqs (eqB h n) xs ys
      | _, _ => false
    | _, _ => false
def kget {κ : Type} [DecidableEq κ] (kvs : List (κ × Val)) (k : κ) : Option Val := (kvs.find? fun kv => decide (kv.1 = k)).map (·.2)
def kput {κ : Type} [DecidableEq κ] (kvs : List (κ × Val)) (k : κ) (v : Val) : List (κ × Val) :=
  if kvs.any (fun kv => decide (kv.1 = k)) then kvs.map (fun kv => if kv.1 = k then (kv.1, v) else kv) else kvs ++ [(k, v)]
def kdrop {κ : Type} [DecidableEq κ] (kvs : List (κ × Val)) (k : κ) : List (κ × Val) := kvs.filter fun kv => decide (kv.1 ≠ k)
def keyOf : Val → Option Key
  | .int i => some (.inl i)
  | .str s => some (.inr s)
  | _ => none
def keysOf : Val → Option (List Key)
  | .tup xs => xs.mapM keyOf
  | _ => none
def kval : Key → Val
  | .inl i => .int i
  | .inr s => .str s
def Lit.key : Lit → Option Key
  | .int i => some (.inl i)
  | .str s => some (.inr s)
  | _ => none
/-- what is read at a key: none: not told here -/
def cget : Con → Val → Option (Option Val)
  | .dik kvs, k => (keyOf k).map (kget kvs)
  | .dit kvs, k => (keysOf k).map (kget kvs)
  | _, _ => none
/-- what an object or a value holds -/
def conO : Ob → Option Con
  | .con c => some c
  | .lck (.set _) => none
  | .lck c => some c
  | _ => none
def conV (h : Mem) : Val → Option Con
  | .ref a => (h[a]?).bind conO
  | .lst xs => some (.lst xs)
  | .dik kvs => some (.dik kvs)
  | _ => none
/-- what is read off a dict of the top: keys are texts -/
def kdget (kvs : List (Key × Val)) : Val → Option (Option Val)
  | .str s => some (kget kvs (.inr s))
  | _ => none
/-- two dicts of the memory with the same whole numbers: alike -/
def dSame (ks ls : List (Key × Val)) : Bool := decide (ks.length = ls.length) && ks.all fun p => match p.2, kget ls p.1 with
  | .int i, some (.int j) => decide (i = j)
  | _, _ => false
def dikO : Ob → Option (List (Key × Val))
  | .con (.dik ks) => some ks
  | _ => none
def dikV (h : Mem) : Val → Option (List (Key × Val))
  | .ref a => (h[a]?).bind dikO
  | _ => none
def dEqV (h : Mem) (v w : Val) : Option Bool := (dikV h v).bind fun ks => (dikV h w).bind fun ls => if dSame ks ls then some true else none
/-- == of two values; none: not told here -/
def eqV (h : Mem) (v w : Val) : Option Bool := match v, w with
  | .int i, .int j => some (decide (i = j))
  | .str x, .str y => some (decide (x = y))
  | _, _ => if isD h 60 v && isD h 60 w then some (eqB h 60 v w) else dEqV h v w
def tru (h : Mem) : Val → Option Bool
  | .non => some false
  | .bl b => some b
  | .int i => some (i != 0)
  | .str s => if s.length ≤ szl then some (!s.isEmpty) else none
  | .tup xs => some (!xs.isEmpty)
  | .ktp xs => some (!xs.isEmpty)
  | .lst xs => some (!xs.isEmpty)
  | .ref a => match h[a]? with
    | some (.con (.lst xs)) => some (!xs.isEmpty)
    | some (.con (.dik kvs)) => some (!kvs.isEmpty)
    | _ => none
  | _ => none
/-- the order of two lists of ints -/
def lexLt : List Int → List Int → Bool
  | [], [] => false
  | [], _ :: _ => true
  | _ :: _, [] => false
  | x :: xs, y :: ys => if x = y then lexLt xs ys else decide (x < y)
def strLt (x y : Txt) : Bool := decide ((x.map Char.toNat) < (y.map Char.toNat))
def intOf : Val → Option Int
  | .int i => some i
  | _ => none
def strOf : Val → Option Txt
  | .str s => some s
  | _ => none
def flat : Val → Bool
  | .non | .bl _ | .int _ | .str _ => true
  | _ => false
def cin (h : Mem) (x : Val) : Con → Option Bool
  | .lst ys => if isD h 59 x && ys.all (isD h 59) then some (ys.any fun z => eqB h 59 z x) else none
  | .set xs => match x with
    | .int i => some (decide (i ∈ xs))
    | _ => none
  | c => (cget c x).map (·.isSome)
def inV (h : Mem) (x y : Val) : Option Bool := match y with
  | .str s => match x with
    | .str [c] => some (decide (c ∈ s))
    | _ => none
  | .tup ys => if flat x && ys.all flat then some (ys.any fun z => eqB h 1 z x) else none
  | .ktp ys => if flat x && ys.all flat then some (ys.any fun z => eqB h 1 z x) else none
  | .kdk kvs => (kdget kvs x).map (·.isSome)
  | y => (conV h y).bind (cin h x)
def cmpV (h : Mem) (o : Cop) (v w : Val) : Option Bool := match o with
  | .eq => eqV h v w
  | .ne => (eqV h v w).map (!·)
  | .isin => inV h v w
  | .notin => (inV h v w).map (!·)
  | .lt => match v, w with
    | .int i, .int j => some (decide (i < j))
    | .str x, .str y => some (strLt x y)
    | _, _ => none
  | .le => match v, w with
    | .int i, .int j => some (decide (i ≤ j))
    | .str x, .str y => some (!strLt y x)
    | _, _ => none
  | .gt => match v, w with
    | .int i, .int j => some (decide (j < i))
    | .str x, .str y => some (strLt y x)
    | .tup xs, .tup ys => match xs.mapM intOf, ys.mapM intOf with
      | some ns, some ms => some (lexLt ms ns)
      | _, _ => none
    | _, _ => none
  | .ge => match v, w with
    | .int i, .int j => some (decide (j ≤ i))
    | .str x, .str y => some (!strLt x y)
    | _, _ => none
theorem smallX : ∃ f : Int → Bool, ∀ i, f i = decide (-(2 ^ 64) < i ∧ i < 2 ^ 64) := ⟨_, fun _ => rfl⟩
/-- kept shut: the kernel is not to compute with it -/
def small : Int → Bool := Classical.choose smallX
theorem small_eq (i : Int) : small i = decide (-(2 ^ 64) < i ∧ i < 2 ^ 64) := Classical.choose_spec smallX i
theorem bigX : ∃ f : Int → Bool, ∀ i, f i = (decide (-(2 ^ 62) ≤ i) && decide (i < 2 ^ 62)) := ⟨_, fun _ => rfl⟩
def big : Int → Bool := Classical.choose bigX
theorem big_eq (i : Int) : big i = (decide (-(2 ^ 62) ≤ i) && decide (i < 2 ^ 62)) := Classical.choose_spec bigX i
theorem wideX : ∃ f : Int → Bool, ∀ j, f j = decide (0 < j ∧ j.natAbs.log2 < 9000) := ⟨_, fun _ => rfl⟩
def wide : Int → Bool := Classical.choose wideX
theorem wide_eq (j : Int) : wide j = decide (0 < j ∧ j.natAbs.log2 < 9000) := Classical.choose_spec wideX j
theorem midX : ∃ f : Int → Int → Bool, ∀ i j, f i j = decide (i.natAbs.log2 + j.natAbs.log2 < 1000000) := ⟨_, fun _ _ => rfl⟩
def mid : Int → Int → Bool := Classical.choose midX
theorem mid_eq (i j : Int) : mid i j = decide (i.natAbs.log2 + j.natAbs.log2 < 1000000) := Classical.choose_spec midX i j
/-- a value, no change -/
def pure {α : Type} (h : Mem) : Option α → Res α
  | some a => .ok a h
  | none => .bad
@[simp] theorem pure_some {α : Type} (h : Mem) (a : α) : pure h (some a) = .ok a h := rfl
/-- a new object -/
def new (h : Mem) (o : Ob) : Res Val := .ok (.ref h.length) (h ++ [o])
/-- a new list by an operator -/
def addL (v w : Val) (h : Mem) : Option Con := match lsA h v, lsA h w with
  | some xs, some ys => if xs.length + ys.length ≤ szl then some (.lst (xs ++ ys)) else none
  | _, _ => none
def mulL (v w : Val) (h : Mem) : Option Con := match lsA h v, w with
  | some xs, .int k => if decide (-(2 ^ 62) ≤ k) && decide (k < 2 ^ 62) && decide (xs.length * k.toNat ≤ szl) then some (.lst (List.replicate k.toNat xs).flatten) else none
  | _, _ => none
def cVal : Con → Option Val
  | .lst xs => some (.lst xs)
  | .dik kvs => some (.dik kvs)
  | _ => none
def addP (v w : Val) (h : Mem) : Res Val := match v, w with
  | .int i, .int j => .ok (.int (i + j)) h
  | .str x, .str y => if x.length + y.length ≤ szl then .ok (.str (x ++ y)) h else .bad
  | .tup xs, .tup ys => if xs.length + ys.length ≤ szl then .ok (.tup (xs ++ ys)) h else .bad
  | _, _ => .bad
def mulP (v w : Val) (h : Mem) : Res Val := match v, w with
  | .int i, .int j => if small i || small j || mid i j then .ok (.int (i * j)) h else .bad
  | .str s, .int k => if decide (-(2 ^ 62) ≤ k) && decide (k < 2 ^ 62) && decide (s.length * k.toNat ≤ szl) then .ok (.str (List.replicate k.toNat s).flatten) h else .bad
  | .tup s, .int k => if s ≠ [] ∧ 2 ≤ k ∧ k ≤ 1000 ∧ s.length ≤ 1000 then .ok (.tup (List.replicate k.toNat s).flatten) h else .bad
  | _, _ => .bad
/-- a list that is made never changes -/
def addV (v w : Val) (h : Mem) : Res Val := match addL v w h with
  | some c => pure h (cVal c)
  | none => addP v w h
def mulV (v w : Val) (h : Mem) : Res Val := match mulL v w h with
  | some c => pure h (cVal c)
  | none => mulP v w h
def binV (o : Bop) (v w : Val) (h : Mem) : Res Val := match o, v, w with
  | .add, v, w => addV v w h
  | .mul, v, w => mulV v w h
  | .sub, .int i, .int j => .ok (.int (i - j)) h
  | .div, .int i, .int j => if wide j then .ok (.int (i / j)) h else .bad
  | .mod, .int i, .int j => if 0 < j then .ok (.int (i % j)) h else .bad
  | .pow, .int i, .int j => if small i && decide (0 ≤ j) && decide (j ≤ 1000000) then .ok (.int (i ^ j.toNat)) h else .bad
  | _, _, _ => .bad
def cix (c : Con) (w : Val) : Option Val := match c with
  | .lst xs => (match w with
    | .int i => nth xs i
    | _ => none)
  | c => (cget c w).bind id
def ixV (v w : Val) (h : Mem) : Res Val := match v with
  | .tup xs => match w with
    | .int i => pure h (nth xs i)
    | _ => .bad
  | .ktp xs => match w with
    | .int i => pure h (nth xs i)
    | _ => .bad
  | .kdk kvs => pure h ((kdget kvs w).bind id)
  | .kls xs => match w with
    | .int i => pure h (nth xs i)
    | _ => .bad
  | .str s => match w with
    | .int i => if s.length ≤ szl then pure h ((nth s i).map fun c => .str [c]) else .bad
    | _ => .bad
  | v => pure h ((conV h v).bind fun c => cix c w)
def slL (v : Val) (lo hi : Option Int) (h : Mem) : Option Con := (lsA h v).map fun xs => .lst (cut xs lo hi)
def slP (v : Val) (lo hi : Option Int) (h : Mem) : Res Val := match v with
  | .tup xs => .ok (.tup (cut xs lo hi)) h
  | .str s => if s.length ≤ szl then .ok (.str (cut s lo hi)) h else .bad
  | _ => .bad
def slV (v : Val) (lo hi : Option Int) (h : Mem) : Res Val := match slL v lo hi h with
  | some c => pure h (cVal c)
  | none => slP v lo hi h
def clen : Con → Option Nat
  | .lst xs => some xs.length
  | .dik kvs => some kvs.length
  | .set xs => some xs.length
  | _ => none
def lenV (v : Val) (h : Mem) : Option Nat := match v with
  | .str s => if s.length ≤ szl then some s.length else none
  | .tup xs => some xs.length
  | .ktp xs => some xs.length
  | .kls xs => some xs.length
  | v => (conV h v).bind clen
def insI (x : Int) : List Int → List Int
  | [] => [x]
  | y :: ys => if x ≤ y then x :: y :: ys else y :: insI x ys
def srtI : List Int → List Int
  | [] => []
  | x :: xs => insI x (srtI xs)
def insT (x : Txt) : List Txt → List Txt
  | [] => [x]
  | y :: ys => if strLt y x then y :: insT x ys else x :: y :: ys
def srtT : List Txt → List Txt
  | [] => []
  | x :: xs => insT x (srtT xs)
def rngL (lo : Int) (n : Nat) : List Val := (List.range n).map fun (i : Nat) => Val.int (lo + i)
def rngS (lo st : Int) (n : Nat) : List Val := (List.range n).map fun (i : Nat) => Val.int (lo + i * st)
def strI (i : Int) : Txt := (toString i).toList
def maxI : List Int → Option Int
  | [] => none
  | x :: xs => some (xs.foldl max x)
def bltV (b : Blt) (vs : List Val) (h : Mem) : Res Val := match b, vs with
  | .len, [v] => pure h ((lenV v h).map fun (n : Nat) => Val.int (n : Int))
  | .int, [.int i] => .ok (.int i) h
  | .int, [.bl k] => .ok (.int (b2i k)) h
  | .tup, [.tup xs] => .ok (.tup xs) h
  | .tup, [v] => pure h ((lsA h v).map Val.tup)
  | .max2, [.int i, .int j] => .ok (.int (max i j)) h
  | .min2, [.int i, .int j] => .ok (.int (min i j)) h
  | .max1, [v] => pure h (((lsA h v).bind (·.mapM intOf)).bind fun ns => (maxI ns).map Val.int)
  | .sum, [v] => pure h (((lsA h v).bind (·.mapM intOf)).map fun ns => Val.int ns.sum)
  | .ord, [.str [c]] => .ok (.int (c.toNat : Int)) h
  | .str, [.int i] => if i.natAbs.log2 < 1920 then .ok (.str (strI i)) h else .bad
  | .str, [.str s] => .ok (.str s) h
  | _, _ => .bad
/-- list(x), dict(x), sorted(x) -/
def cLof (h : Mem) : Con → Option Con
  | .lst xs => some (.lst xs)
  | .dik kvs => some (.lst (kvs.map fun kv => kval kv.1))
  | _ => none
def lofV (h : Mem) : Val → Option Con
  | .tup xs => some (.lst xs)
  | v => (conV h v).bind (cLof h)
def cDof : Con → Option Con
  | .dik kvs => some (.dik kvs)
  | _ => none
def dofV (h : Mem) (v : Val) : Option Con := (conV h v).bind cDof
def srtVs (xs : List Val) : Option Con := match xs.mapM intOf with
  | some ns => some (.lst ((srtI ns).map .int))
  | none => match xs.mapM strOf with
    | some ts => if ts.length < 64 then some (.lst ((srtT ts).map .str)) else none
    | none => none
def cSrt : Con → Option Con
  | .lst xs => srtVs xs
  | .dik kvs => if kvs.length ≤ szl then srtVs (kvs.map fun kv => kval kv.1) else none
  | _ => none
def srtV (h : Mem) (v : Val) : Option Con := (conV h v).bind cSrt
def srtRV (h : Mem) (v : Val) : Option Con := ((lsA h v).bind (·.mapM intOf)).map fun ns => .lst ((srtI ns).reverse.map .int)
def splitGo (c : Char) : Txt → Txt → List Txt
  | [], cur => [cur.reverse]
  | d :: r, cur => if d = c then cur.reverse :: splitGo c r [] else splitGo c r (d :: cur)
def splitV : Val → Val → Option Con
  | .str s, .str [c] => if s.length + 2 ≤ szl ∧ c.toNat < 256 then some (.lst ((splitGo c s []).map .str)) else none
  | _, _ => none
def joinT (s : Txt) : List Txt → Txt
  | [] => []
  | [x] => x
  | x :: y :: r => x ++ s ++ joinT s (y :: r)
/-- a method of a built-in object of the memory -/
def bmV (m : Bm) (a : Nat) (vs : List Val) (h : Mem) : Res Val := match h[a]? with
    | some (.con (.lst xs)) => (match m, vs with
      | .append, [x] => if xs.length < szl then .ok .non (h.set a (.con (.lst (xs ++ [x])))) else .bad
      | .extend, [w] => (match lsA h w with
        | some ys => if xs.length + ys.length ≤ szl then .ok .non (h.set a (.con (.lst (xs ++ ys)))) else .bad
        | _ => .bad)
      | .pop, [] => (match xs[xs.length - 1]? with
        | some y => .ok y (h.set a (.con (.lst xs.dropLast)))
        | none => .bad)
      | .pop, [.int i] => (match if big i then ixOf xs.length i else none with
        | some k => (match xs[k]? with
          | some y => .ok y (h.set a (.con (.lst (xs.eraseIdx k))))
          | none => .bad)
        | none => .bad)
      | .insert, [.int i, x] => if xs.length < szl ∧ 0 ≤ i ∧ i < 2 ^ 62 then .ok .non (h.set a (.con (.lst (xs.take i.toNat ++ [x] ++ xs.drop i.toNat)))) else .bad
      | .clear, [] => .ok .non (h.set a (.con (.lst [])))
      | _, _ => .bad)
    | some (.con (.dik kvs)) => (match m, vs with
      | .get, [k] => pure h ((keyOf k).map fun k => (kget kvs k).getD .non)
      | .get, [k, d] => pure h ((keyOf k).map fun k => (kget kvs k).getD d)
      | .pop, [k] => (match keyOf k with
        | some k => (match kget kvs k with
          | some v => .ok v (h.set a (.con (.dik (kdrop kvs k))))
          | none => .bad)
        | none => .bad)
      | _, _ => .bad)
    | some (.con (.dit kvs)) => (match m, vs with
      | .get, [k] => pure h ((keysOf k).map fun k => (kget kvs k).getD .non)
      | .get, [k, d] => pure h ((keysOf k).map fun k => (kget kvs k).getD d)
      | _, _ => .bad)
    | _ => .bad
def isiV (ist : List (Nat × Nat)) (h : Mem) (t : Ty) (v : Val) : Option Bool := match v with
  | .non => match t with | .cls _ => none | _ => some false
  | .bl _ => match t with | .int => some true | .bool => some true | .cls _ => none | _ => some false
  | .int _ => match t with | .int => some true | .cls _ => none | _ => some false
  | .str _ => match t with | .str => some true | .cls _ => none | _ => some false
  | .tup _ => match t with | .tuple => some true | .tl => some true | .cls _ => none | _ => some false
  | .lst _ => match t with | .list => some true | .tl => some true | .cls _ => none | _ => some false
  | .dik _ => match t with | .cls _ => none | _ => some false
  | .ref a => match h[a]? with
    | some (.con (.lst _)) => match t with | .list => some true | .tl => some true | .cls _ => none | _ => some false
    | some (.con (.dik _)) => match t with | .cls _ => none | _ => some false
    | some (.ins c _) => match t with | .cls d => if ist.contains (c, d) then some (decide (c = d)) else none | _ => none
    | _ => none
  | .ins c _ => match t with | .cls d => if ist.contains (c, d) then some (decide (c = d)) else none | _ => none
  | _ => none
/-! ### what is walked -/
inductive Itr where
  /-- these, one after the other -/
  | sn (xs : List Val)
  /-- a list of the memory, as it is at each turn -/
  | lst (a : Nat)
  | enum (a : Nat)
  | rev (a : Nat) (n : Nat)
def fldF (P : Pg) (c f : Nat) : Bool := match P.cl c with
  | some C => C.fs.contains f
  | none => false
/-- no name twice -/
def nodupF {α : Type} : List (Nat × α) → Bool
  | [] => true
  | p :: r => !(r.any fun q => q.1 == p.1) && nodupF r
def fldC (P : Pg) (h : Mem) (n f : Nat) : Option Con := match h[n]? with
  | some (.ins d fs) => match fs.lookup f with
    | some (.o c) => if fldF P d f && nodupF fs then some c else none
    | _ => none
  | _ => none
/-- the item of turn i -/
def Itr.at (t : Itr) (i : Nat) (h : Mem) : Option Val := match t with
  | .sn xs => xs[i]?
  | .lst a => (lsN h a).bind (·[i]?)
  | .enum a => ((lsN h a).bind (·[i]?)).map fun v => .tup [.int i, v]
  | .rev a n => if i < n then (lsN h a).bind (·[n - 1 - i]?) else none
/-- there is no turn i -/
def Itr.fin (t : Itr) (i : Nat) (h : Mem) : Bool := match t with
  | .sn xs => decide (xs.length ≤ i)
  | .lst a => match lsN h a with | some xs => decide (xs.length ≤ i) | none => false
  | .enum a => match lsN h a with | some xs => decide (xs.length ≤ i) | none => false
  | .rev _ n => decide (n ≤ i)
/-- how many turns there are -/
def Itr.cnt (t : Itr) (h : Mem) : Nat := match t with
  | .sn xs => xs.length
  | .lst a => ((lsN h a).getD []).length
  | .enum a => ((lsN h a).getD []).length
  | .rev _ n => n
def enumL (xs : List Val) : List Val := List.zipWith (fun (i : Nat) (v : Val) => Val.tup [.int (i : Int), v]) (List.range xs.length) xs
mutual
def Tgt.put (h : Mem) : Tgt → Val → Fr → Option Fr
  | .v i, x, fr => some (fr.set i (.v x))
  | .t ts, x, fr => match seqA h x with
    | some xs => Tgt.puts h ts xs fr
    | none => none
def Tgt.puts (h : Mem) : List Tgt → List Val → Fr → Option Fr
  | [], [], fr => some fr
  | g :: gs, y :: ys, fr => match Tgt.put h g y fr with
    | some fr1 => Tgt.puts h gs ys fr1
    | none => none
  | _, _, _ => none
end
mutual
def Tgt.slots : Tgt → List Nat
  | .v i => [i]
  | .t ts => Tgt.slotss ts
def Tgt.slotss : List Tgt → List Nat
  | [] => []
  | g :: gs => Tgt.slots g ++ Tgt.slotss gs
end
def wipeF (fr : Fr) : List Nat → Fr
  | [] => fr
  | v :: vs => (wipeF fr vs).set v .e
/-- the loop: turns left, turn -/
def forG (t : Itr) (tg : Tgt) (body : Fr → Mem → SR) : Nat → Nat → Fr → Mem → SR
  | 0, i, fr, h => if t.fin i h then .ok .nx fr h else .bad
  | r + 1, i, fr, h => match t.at i h with
    | none => .bad
    | some v => match tg.put h v fr with
      | none => .bad
      | some fr1 => match body fr1 h with
        | .ok .nx fr2 h2 => forG t tg body r (i + 1) fr2 h2
        | .ok .ct fr2 h2 => forG t tg body r (i + 1) fr2 h2
        | .ok .bk fr2 h2 => .ok .nx fr2 h2
        | x => x
/-- the loop of a comprehension, acc: what is made so far -/
def compG (t : Itr) (tg : Tgt) (cond : Fr → Mem → Res Bool) (elt : Fr → Mem → Res Val) (fr : Fr) : Nat → Nat → List Val → Mem → Res (List Val)
  | 0, i, acc, h => if t.fin i h then .ok acc h else .bad
  | r + 1, i, acc, h => match t.at i h with
    | none => .bad
    | some v => match tg.put h v fr with
      | none => .bad
      | some fr1 => match cond fr1 h with
        | .ok false h1 => compG t tg cond elt fr r (i + 1) acc h1
        | .ok true h1 => (match elt fr1 h1 with
          | .ok x h2 => if acc.length < szl then compG t tg cond elt fr r (i + 1) (acc ++ [x]) h2 else .bad
          | _ => .bad)
        | _ => .bad
/-- while, with a bound of turns -/
def whlG (c : Fr → Mem → Res Bool) (body : Fr → Mem → SR) : Nat → Fr → Mem → SR
  | 0, _, _ => .bad
  | n + 1, fr, h => match c fr h with
    | .ok false h1 => .ok .nx fr h1
    | .ok true h1 => (match body fr h1 with
      | .ok .nx fr2 h2 => whlG c body n fr2 h2
      | .ok .ct fr2 h2 => whlG c body n fr2 h2
      | .ok .bk fr2 h2 => .ok .nx fr2 h2
      | x => x)
    | .exc e h1 => .exc e fr h1
    | .bad => .bad
/-! ### places -/
/-- what an own place holds -/
def evp (P : Pg) (p : Px) (fr : Fr) (h : Mem) : Option Con := match p with
  | .s i => match fr[i]? with
    | some (.o c) => some c
    | _ => none
  | .f i f => match fr[i]? with
    | some (.v (.ref n)) => fldC P h n f
    | _ => none
def plV (op : Pop) (c : Con) (vs : List Val) : Option Val := match op, vs with
  | .len, [] => (clen c).map fun (n : Nat) => Val.int (n : Int)
  | .ix, [w] => cix c w
  | .get1, [k] => (cget c k).map fun o => o.getD .non
  | .get2, [k, d] => (cget c k).map fun o => o.getD d
  | .tup, [] => match c with
    | .lst xs => some (.tup xs)
    | _ => none
  | _, _ => none
def isLst : Con → Bool
  | .lst _ => true
  | _ => false
def isSet : Con → Bool
  | .set _ => true
  | _ => false
/-- what a method asks of the place -/
def popOk : Pop → Con → Bool
  | .get1, .dik _ => true
  | .get1, .dit _ => true
  | .get1, _ => false
  | .get2, .dik _ => true
  | .get2, .dit _ => true
  | .get2, _ => false
  | _, _ => true
def truC : Con → Option Bool
  | .lst xs => some (!xs.isEmpty)
  | .dik kvs => some (!kvs.isEmpty)
  | _ => none
/-! ### expressions -/
section
variable (P : Pg) (call callI : Nat → List Val → Mem → Res Ret)
def metF (c m : Nat) : Option Nat := (P.cl c).bind fun C => C.ms.lookup m
def prpF (c m : Nat) : Option Nat := (P.cl c).bind fun C => C.ps.lookup m
def slV? : Sl → Option Val
  | .v x => some x
  | _ => none
def attV (f : Nat) (v : Val) (h : Mem) : Res Val := match v with
  | .ref a => match h[a]? with
    | some (.ins c fs) => match prpF P c f with
      | some g => (match callI g [v] h with
        | .ok x h1 => .ok x.val h1
        | _ => .bad)
      | none => if fldF P c f then pure h ((fs.lookup f).bind slV?) else .bad
    | _ => .bad
  | .ins c fs => match prpF P c f with
      | some g => (match callI g [v] h with
        | .ok x h1 => .ok x.val h1
        | _ => .bad)
      | none => if fldF P c f then pure h (fs.lookup f) else .bad
  | _ => .bad
/-- what a receiver is -/
def kindV (h : Mem) : Val → Nat
  | .ref a => match h[a]? with
    | some (.ins c fs) => 10 + c
    | some (.con (.lst _)) => 1
    | some (.con (.dik _)) => 2
    | some (.con (.dit _)) => 3
    | some (.con (.set _)) => 4
    | _ => 0
  | .str _ => 5
  | .lst _ => 6
  | .dik _ => 7
  | .ins c _ => 10 + c
  | .tup _ => 8
  | _ => 9
/-- the receiver has no attribute of that name -/
def noFld (h : Mem) (m : Nat) : Val → Bool
  | .ref a => match h[a]? with
    | some (.ins _ fs) => (fs.lookup m).isNone
    | _ => true
  | .ins _ fs => (fs.lookup m).isNone
  | _ => true
/-- the receiver has that method -/
def hasM (h : Mem) (m : Nat) (b : Bm) : Val → Bool
  | .ref a => match h[a]? with
    | some (.ins c _) => (metF P c m).isSome
    | some (.con (.lst _)) => decide (b = .append ∨ b = .extend ∨ b = .pop ∨ b = .insert ∨ b = .clear)
    | some (.con (.dik _)) => decide (b = .get ∨ b = .pop)
    | some (.con (.dit _)) => decide (b = .get)
    | _ => false
  | .ins c _ => (metF P c m).isSome
  | .str _ => decide (b = .join)
  | _ => false
def getV (kvs : List (Key × Val)) (vs : List Val) (h : Mem) : Res Val := match vs with
  | [k] => pure h ((keyOf k).map fun k => (kget kvs k).getD .non)
  | [k, d] => pure h ((keyOf k).map fun k => (kget kvs k).getD d)
  | _ => .bad
def strM (b : Bm) (s : Txt) (vs : List Val) (h : Mem) : Res Val := match b, vs with
    | .join, [w] => (match (seqA h w).bind (·.mapM strOf) with
      | some ys => if (ys.map (·.length)).sum + ys.length * s.length ≤ szl then .ok (.str (joinT s ys)) h else .bad
      | none => .bad)
    | _, _ => .bad
/-- what calling a method does -/
def metV (m : Nat) (b : Bm) (v : Val) (vs : List Val) (h : Mem) : Res Ret := match v with
  | .ref a => match h[a]? with
    | some (.ins c fs) => match metF P c m with
      | some g => call g (v :: vs) h
      | none => .bad
    | _ => (bmV b a vs h).bind fun x h1 => .ok (.v x) h1
  | .ins c fs => match metF P c m with
      | some g => call g (v :: vs) h
      | none => .bad
  | .str s => (strM b s vs h).bind fun x h1 => .ok (.v x) h1
  | _ => .bad
/-- an instance's class -/
def insC (h : Mem) : Val → Option Nat
  | .ref a => match h[a]? with
    | some (.ins d _) => some d
    | _ => none
  | .ins d _ => some d
  | _ => none
def lenR : Res Ret → Res Val
  | .ok (.v (.int n)) h => if decide (0 ≤ n) && big n then .ok (.int n) h else .bad
  | _ => .bad
def lenI (m : Nat) (v : Val) (h : Mem) : Res Val := match insC h v with
  | some d => match metF P d m with
    | some g => lenR (callI g [v] h)
    | none => .bad
  | none => .bad
def slO {α : Type} (o : Option Sl) (k : List Val → Res α) : Res α := match o with
  | some (.o (.lst xs)) => k xs
  | _ => .bad
mutual
def ev : Ex → Fr → Mem → Res Val
  | .lit l, _, h => .ok l.val h
  | .var i, fr, h => match fr[i]? with
    | some (.v v) => .ok v h
    | _ => .bad
  | .con g, _, h => pure h (P.kn g)
  | .bin o a b, fr, h => (ev a fr h).bind fun v h1 => (ev b fr h1).bind fun w h2 => binV o v w h2
  | .neg a, fr, h => (ev a fr h).bind fun v h1 => match v with
    | .int i => .ok (.int (-i)) h1
    | _ => .bad
  | .nt a, fr, h => (ev a fr h).bind fun v h1 => (pure h1 (tru h1 v)).bind fun t h1 => .ok (.bl (!t)) h1
  | .and a b, fr, h => (ev a fr h).bind fun v h1 => (pure h1 (tru h1 v)).bind fun t h1 => if t then ev b fr h1 else .ok v h1
  | .or a b, fr, h => (ev a fr h).bind fun v h1 => (pure h1 (tru h1 v)).bind fun t h1 => if t then .ok v h1 else ev b fr h1
  | .cmp o a b, fr, h => (ev a fr h).bind fun v h1 => (ev b fr h1).bind fun w h2 => (pure h2 (cmpV h2 o v w)).bind fun t h2 => .ok (.bl t) h2
  | .chn o p a b c, fr, h => (ev a fr h).bind fun v h1 => (ev b fr h1).bind fun w h2 => (pure h2 (cmpV h2 o v w)).bind fun t h2 =>
    if t then (ev c fr h2).bind fun x h3 => (pure h3 (cmpV h3 p w x)).bind fun t h3 => .ok (.bl t) h3 else .ok (.bl false) h2
  | .isN n a, fr, h => (ev a fr h).bind fun v h1 => .ok (.bl (match v with | .non => !n | _ => n)) h1
  | .isB n b a, fr, h => (ev a fr h).bind fun v h1 => match v with
    | .bl c => .ok (.bl (if n then !decide (c = b) else decide (c = b))) h1
    | _ => .bad
  | .tup es, fr, h => (evs es fr h).bind fun vs h1 => if vs.length ≤ szl then .ok (.tup vs) h1 else .bad
  | .ix a i, fr, h => (ev a fr h).bind fun v h1 => (ev i fr h1).bind fun w h2 => ixV v w h2
  | .sl a lo hi, fr, h => (ev a fr h).bind fun v h1 => (evo lo fr h1).bind fun l h2 => (evo hi fr h2).bind fun u h3 => slV v l u h3
  | .att a f, fr, h => (ev a fr h).bind fun v h1 => attV P callI f v h1
  | .cal _ f es, fr, h => (evs es fr h).bind fun vs h1 => (call f vs h1).bind fun r h2 => .ok r.val h2
  | .mk c _ es, fr, h => (evs es fr h).bind fun vs h1 => match P.cl c with
    | some C => (callI C.ini (.ref h1.length :: vs) (h1 ++ [.ins c []])).bind fun x h2 => match x with
      | .v .non => .ok (.ref h1.length) h2
      | _ => .bad
    | none => .bad
  | .mkI c es, fr, h => (evs es fr h).bind fun vs h1 => match P.cl c with
    | some C => (match C.rc with
      | some fl => if vs.length = fl.length then (match callI C.ini (.ref h1.length :: vs) (h1 ++ [.ins c []]) with
        | .ok (.v .non) h2 => @ite _ (h2 = h1 ++ [.ins c (fl.zip (vs.map Sl.v))]) (Classical.propDecidable _) (.ok (.ins c (fl.zip vs)) h1) .bad
        | _ => .bad) else .bad
      | none => .bad)
    | none => .bad
  | .met a m _ b es, fr, h => (ev a fr h).bind fun v h1 => if noFld h1 m v && hasM P h1 m b v then (evs es fr h1).bind fun vs h2 => if kindV h1 v = kindV h2 v then (metV P call m b v vs h2).bind fun r h3 => .ok r.val h3 else .bad else .bad
  | .blt b es, fr, h => (evs es fr h).bind fun vs h1 => bltV b vs h1
  | .isi a t, fr, h => (ev a fr h).bind fun v h1 => pure h1 ((isiV P.ist h1 t v).map .bl)
  | .az a, fr, h => (evA a fr h).bind fun c h1 => pure h1 (cVal c)
  | .hp a, fr, h => (evA a fr h).bind fun c h1 => new h1 (.con c)
  | .pl p op es, fr, h => if (evp P p fr h).any (popOk op) then (evs es fr h).bind fun vs h1 => pure h1 ((evp P p fr h1).bind fun c => plV op c vs) else .bad
  | .pin n a p, fr, h => (ev a fr h).bind fun v h1 => pure h1 (((evp P p fr h1).bind fun c => cin h1 v c).map fun t => .bl (if n then !t else t))
  | .len1 a m, fr, h => (ev a fr h).bind fun v h1 => lenI P callI m v h1
/-- a new container -/
def evA : Az → Fr → Mem → Res Con
  | .dsp es, fr, h => (evs es fr h).bind fun vs h1 => if vs.length ≤ szl then .ok (.lst vs) h1 else .bad
  | .dd ks es, fr, h => (evs es fr h).bind fun vs h1 => match ks.mapM Lit.key with
    | some kk => if kk.length = vs.length ∧ kk.Nodup ∧ kk.length ≤ 1000 then .ok (.dik (kk.zip vs)) h1 else .bad
    | none => .bad
  | .dt, _, h => .ok (.dit []) h
  | .set, _, h => .ok (.set []) h
  | .sl a lo hi, fr, h => (ev a fr h).bind fun v h1 => (evo lo fr h1).bind fun l h2 => (evo hi fr h2).bind fun u h3 => pure h3 (slL v l u h3)
  | .slP i lo hi, fr, h => slO fr[i]? fun xs => (evo lo fr h).bind fun l h1 => (evo hi fr h1).bind fun u h2 => .ok (.lst (cut xs l u)) h2
  | .slr a, fr, h => (ev a fr h).bind fun v h1 => pure h1 ((lsA h1 v).map fun xs => .lst xs.reverse)
  | .add a b, fr, h => (ev a fr h).bind fun v h1 => (ev b fr h1).bind fun w h2 => pure h2 (addL v w h2)
  | .mul a b, fr, h => (ev a fr h).bind fun v h1 => (ev b fr h1).bind fun w h2 => pure h2 (mulL v w h2)
  | .lof a, fr, h => (ev a fr h).bind fun v h1 => pure h1 (lofV h1 v)
  | .dof a, fr, h => (ev a fr h).bind fun v h1 => pure h1 (dofV h1 v)
  | .lofP p, fr, h => pure h ((evp P p fr h).bind (cLof h))
  | .dofP p, fr, h => pure h ((evp P p fr h).bind cDof)
  | .srt a, fr, h => (ev a fr h).bind fun v h1 => pure h1 (srtV h1 v)
  | .srtP p, fr, h => pure h ((evp P p fr h).bind cSrt)
  | .srtR a, fr, h => (ev a fr h).bind fun v h1 => pure h1 (srtRV h1 v)
  | .split a b, fr, h => (ev a fr h).bind fun v h1 => if (strOf v).isSome then (ev b fr h1).bind fun w h2 => pure h2 (splitV v w) else .bad
  | .lr1 e, fr, h => (ev e fr h).bind fun v h1 => match v with
    | .int n => if big n && decide (n ≤ 1000000) then .ok (.lst (rngL 0 n.toNat)) h1 else .bad
    | _ => .bad
  | .lr2 a b, fr, h => (ev a fr h).bind fun v h1 => (ev b fr h1).bind fun w h2 => match v, w with
    | .int i, .int j => if big i && big j && decide (j - i ≤ 1000000) then .ok (.lst (rngL i (j - i).toNat)) h2 else .bad
    | _, _ => .bad
  | .comp tg it cond e, fr, h => (evi it fr h).bind fun t h1 =>
    (compG t tg (evc cond) (ev e) (wipeF fr tg.slots) (t.cnt h1) 0 [] h1).bind fun xs h2 => .ok (.lst xs) h2
  | .cal _ f es, fr, h => (evs es fr h).bind fun vs h1 => (call f vs h1).bind fun r h2 => match r with
    | .f xs => .ok (.lst xs) h2
    | .v _ => .bad
  | .met a m _ es, fr, h => (ev a fr h).bind fun v h1 => if noFld h1 m v && hasM P h1 m .none v then (evs es fr h1).bind fun vs h2 => if kindV h1 v = kindV h2 v then (metV P call m .none v vs h2).bind fun r h3 => match r with
    | .f xs => .ok (.lst xs) h3
    | .v _ => .bad else .bad else .bad
def evs : Exs → Fr → Mem → Res (List Val)
  | .nil, _, h => .ok [] h
  | .cons e es, fr, h => (ev e fr h).bind fun v h1 => (evs es fr h1).bind fun vs h2 => .ok (v :: vs) h2
def evo : OEx → Fr → Mem → Res (Option Int)
  | .no, _, h => .ok none h
  | .so e, fr, h => (ev e fr h).bind fun v h1 => match v with
    | .int i => .ok (some i) h1
    | _ => .bad
/-- a test of a comprehension -/
def evc : OTe → Fr → Mem → Res Bool
  | .no, _, h => .ok true h
  | .so e, fr, h => evt e fr h
/-- a test -/
def evt : Te → Fr → Mem → Res Bool
  | .e a, fr, h => (ev a fr h).bind fun v h1 => pure h1 (tru h1 v)
  | .nt a, fr, h => (evt a fr h).bind fun t h1 => .ok (!t) h1
  | .and a b, fr, h => (evt a fr h).bind fun t h1 => if t then evt b fr h1 else .ok false h1
  | .or a b, fr, h => (evt a fr h).bind fun t h1 => if t then .ok true h1 else evt b fr h1
  | .pt p, fr, h => pure h ((evp P p fr h).bind truC)
def evi : Itx → Fr → Mem → Res Itr
  | .val e, fr, h => (ev e fr h).bind fun v h1 => match v with
    | .ref a => (match h1[a]? with
      | some (.con (.lst _)) => .ok (.lst a) h1
      | _ => .bad)
    | .tup xs => .ok (.sn xs) h1
    | .ktp xs => .ok (.sn xs) h1
    | .lst xs => .ok (.sn xs) h1
    | .kls xs => .ok (.sn xs) h1
    | .str s => .ok (.sn (s.map fun c => .str [c])) h1
    | _ => .bad
  | .rng1 e, fr, h => (ev e fr h).bind fun v h1 => match v with
    | .int n => if big n then .ok (.sn (rngL 0 n.toNat)) h1 else .bad
    | _ => .bad
  | .rng2 a b, fr, h => (ev a fr h).bind fun v h1 => (ev b fr h1).bind fun w h2 => match v, w with
    | .int i, .int j => if big i && big j then .ok (.sn (rngL i (j - i).toNat)) h2 else .bad
    | _, _ => .bad
  | .rng3 a b c, fr, h => (ev a fr h).bind fun v h1 => (ev b fr h1).bind fun w h2 => (ev c fr h2).bind fun u h3 => match v, w, u with
    | .int i, .int j, .int k => if big i && big j && decide (0 < k) && decide (k < 1000000) then .ok (.sn (rngS i k ((j - i + k - 1) / k).toNat)) h3 else .bad
    | _, _, _ => .bad
  | .enum e, fr, h => (ev e fr h).bind fun v h1 => match v with
    | .ref a => (match h1[a]? with
      | some (.con (.lst _)) => .ok (.enum a) h1
      | _ => .bad)
    | .lst xs => .ok (.sn (enumL xs)) h1
    | .kls xs => .ok (.sn (enumL xs)) h1
    | _ => .bad
  | .zip a b, fr, h => (ev a fr h).bind fun v h1 => (ev b fr h1).bind fun w h2 => match v, w with
    | .tup xs, .tup ys => .ok (.sn (xs.zipWith (fun x y => .tup [x, y]) ys)) h2
    | .ktp xs, .tup ys => .ok (.sn (xs.zipWith (fun x y => .tup [x, y]) ys)) h2
    | .lst xs, .lst ys => .ok (.sn (xs.zipWith (fun x y => .tup [x, y]) ys)) h2
    | _, _ => .bad
  | .rev e, fr, h => (ev e fr h).bind fun v h1 => match v with
    | .ref a => (match lsN h1 a with
      | some xs => .ok (.rev a xs.length) h1
      | none => .bad)
    | .lst xs => .ok (.sn xs.reverse) h1
    | _ => .bad
  | .keys i, fr, h => match fr[i]? with
    | some (.v (.dik kvs)) => .ok (.sn (kvs.map fun kv => kval kv.1)) h
    | _ => .bad
  | .items i, fr, h => match fr[i]? with
    | some (.v (.dik kvs)) => .ok (.sn (kvs.map fun kv => .tup [kval kv.1, kv.2])) h
    | _ => .bad
end
/-! ### statements -/
def fput (f : Nat) (v : Sl) : List (Nat × Sl) → List (Nat × Sl)
  | [] => [(f, v)]
  | p :: r => if p.1 = f then (f, v) :: r else p :: fput f v r
def lift {α : Type} (r : Res α) (fr : Fr) (k : α → Mem → SR) : SR := match r with
  | .ok a h => k a h
  | .exc c h => .exc c fr h
  | .bad => .bad
@[simp] theorem lift_ok {α : Type} (a : α) (h : Mem) (fr : Fr) (k : α → Mem → SR) : lift (.ok a h) fr k = k a h := rfl
@[simp] theorem lift_exc {α : Type} (c : Nat) (h : Mem) (fr : Fr) (k : α → Mem → SR) : lift (.exc c h) fr k = .exc c fr h := rfl
@[simp] theorem lift_bad {α : Type} (fr : Fr) (k : α → Mem → SR) : lift .bad fr k = .bad := rfl
def SR.of (fr : Fr) : Option Mem → SR
  | some h => .ok .nx fr h
  | none => .bad
def SR.of2 : Option (Fr × Mem) → SR
  | some p => .ok .nx p.1 p.2
  | none => .bad
def SR.andThen (r : SR) (k : Fr → Mem → SR) : SR := match r with
  | .ok .nx fr h => k fr h
  | x => x
def cset (c : Con) (i v : Val) : Option Con := match c with
    | .lst xs => (match i with
      | .int k => (ixOf xs.length k).map fun j => .lst (xs.set j v)
      | _ => none)
    | .dik kvs => (match keyOf i with
      | some k => if kvs.length < szl then some (.dik (kput kvs k v)) else none
      | none => none)
    | .dit kvs => (match keysOf i with
      | some k => if kvs.length < szl then some (.dit (kput kvs k v)) else none
      | none => none)
    | _ => none
def cdel (c : Con) (i : Val) : Option Con := match c with
    | .dik kvs => (match keyOf i with
      | some k => if (kget kvs k).isSome then some (.dik (kdrop kvs k)) else none
      | none => none)
    | _ => none
def capp (c : Con) (v : Val) : Option Con := match c with
    | .lst xs => if xs.length < szl then some (.lst (xs ++ [v])) else none
    | _ => none
/-- the items of a list, a tuple -/
def tlA (h : Mem) : Val → Option (List Val)
  | .tup xs => some xs
  | v => lsA h v
def cext (h : Mem) (c : Con) (v : Val) : Option Con := match c, tlA h v with
    | .lst xs, some ys => if xs.length + ys.length ≤ szl then some (.lst (xs ++ ys)) else none
    | _, _ => none
def cadd (c : Con) (v : Val) : Option Con := match c, v with
    | .set xs, .int i => if xs.length < 4000 then (if i ∈ xs then some (.set xs) else some (.set (xs ++ [i]))) else none
    | _, _ => none
def setV (x i v : Val) (h : Mem) : Option Mem := match x with
  | .ref a => match h[a]? with
    | some (.con c) => (cset c i v).map fun d => h.set a (.con d)
    | _ => none
  | _ => none
def delV (x i : Val) (h : Mem) : Option Mem := match x with
  | .ref a => match h[a]? with
    | some (.con c) => (cdel c i).map fun d => h.set a (.con d)
    | _ => none
  | _ => none
def setA (f : Nat) (x v : Val) (h : Mem) : Option Mem := match x with
  | .ref a => match h[a]? with
    | some (.ins c fs) => if fldF P c f && decide (fs.length < 1000) then some (h.set a (.ins c (fput f (.v v) fs))) else none
    | _ => none
  | _ => none
def augI (sub : Bool) : Val → Val → Option Val
  | .int i, .int j => some (.int (if sub then i - j else i + j))
  | _, _ => none
/-- an own container is changed -/
def putp (p : Px) (c : Con) (fr : Fr) (h : Mem) : Option (Fr × Mem) := match p with
  | .s i => match fr[i]? with
    | some (.o _) => some (fr.set i (.o c), h)
    | _ => none
  | .f i f => match fr[i]? with
    | some (.v (.ref n)) => (match h[n]? with
      | some (.ins d fs) => (match fs.lookup f with
        | some (.o _) => if nodupF fs then some (fr, h.set n (.ins d (fput f (.o c) fs))) else none
        | _ => none)
      | _ => none)
    | _ => none
def setT (fr : Fr) : List (Nat × Nat) → List Val → Mem → Option Mem
  | [], [], h => some h
  | (i, f) :: as, v :: vs, h => match fr[i]? with
    | some (.v x) => (setA P f x v h).bind fun h1 => setT fr as vs h1
    | _ => none
  | _, _, _ => none
mutual
/-- in an except suite, the error's class at hand -/
def evX (c : Nat) : XEx → Fr → Option Val
  | .lit l, _ => some l.val
  | .var i, fr => match fr[i]? with
    | some (.v v) => some v
    | _ => none
  | .exi d, _ => (P.exc c d).map .bl
  | .and a b, fr => match evX c a fr with
    | some (.bl t) => if t then evX c b fr else some (.bl false)
    | _ => none
  | .or a b, fr => match evX c a fr with
    | some (.bl t) => if t then some (.bl true) else evX c b fr
    | _ => none
  | .nt a, fr => match evX c a fr with
    | some (.bl t) => some (.bl (!t))
    | _ => none
  | .tup es, fr => (evXs c es fr).bind fun vs => if vs.length ≤ szl then some (.tup vs) else none
  | .lst es, fr => (evXs c es fr).bind fun vs => if vs.length ≤ szl then some (.lst vs) else none
def evXs (c : Nat) : XExs → Fr → Option (List Val)
  | .nil, _ => some []
  | .cons e es, fr => (evX c e fr).bind fun v => (evXs c es fr).map fun vs => v :: vs
end
mutual
def exX (c : Nat) : XSm → Fr → Mem → SR
  | .ret e, fr, h => match evX P c e fr with
      | some v => .ok (.rt (.v v)) fr h
      | none => .bad
  | .ite t a b, fr, h => match evX P c t fr with
    | some (.bl k) => if k then exXs c a fr h else exXs c b fr h
    | _ => .bad
  | .asg i e, fr, h => match evX P c e fr with
    | some v => .ok .nx (fr.set i (.v v)) h
    | none => .bad
  | .pass, fr, h => .ok .nx fr h
def exXs (c : Nat) : XSms → Fr → Mem → SR
  | .nil, fr, h => .ok .nx fr h
  | .cons s ss, fr, h => (exX c s fr h).andThen (exXs c ss)
end
def hand (c : Nat) : Hds → Fr → Mem → SR
  | .nil, fr, h => .exc c fr h
  | .cons d b hs, fr, h => match P.exc c d with
    | some true => exXs P c b fr h
    | some false => hand c hs fr h
    | none => .bad
  | .one d i b, fr, h => match P.exc c d with
    | some true => if i < fr.length then (match exXs P c b (fr.set i .e) h with
      | .ok f fr1 h1 => .ok f (fr1.set i .e) h1
      | _ => .bad) else .bad
    | some false => .exc c fr h
    | none => .bad
/-- the own list is put back -/
def backM (n f : Nat) (c : Con) (h : Mem) : Option Mem := match h[n]? with
  | some (.ins d fs) => match fs.lookup f with
    | some .e => if nodupF fs then some (h.set n (.ins d (fput f (.o c) fs))) else none
    | _ => none
  | _ => none
def backF (n f : Nat) (c : Con) : SR → SR
  | .ok fl fr h => match backM n f c h with
    | some h1 => .ok fl fr h1
    | none => .bad
  | .exc e fr h => match backM n f c h with
    | some h1 => .exc e fr h1
    | none => .bad
  | .bad => .bad
/-- what a variable, a field holds -/
def ddV : Ex → Fr → Mem → Option Val
  | .var i, fr, _ => match fr[i]? with
    | some (.v v) => some v
    | _ => none
  | .att (.var i) f, fr, h => match fr[i]? with
    | some (.v (.ref m)) => match h[m]? with
      | some (.ins c fs) => if (prpF P c f).isNone && fldF P c f then (fs.lookup f).bind slV? else none
      | _ => none
    | _ => none
  | _, _, _ => none
def dItems (p : Bool) (kvs : List (Key × Val)) : List Val := if p then kvs.map fun kv => .tup [kval kv.1, kv.2] else kvs.map fun kv => kval kv.1
/-- the dict at n is unlocked -/
def unlk (n : Nat) (c : Con) : SR → SR
  | .ok fl fr h => match h[n]? with
    | some (.lck _) => .ok fl fr (h.set n (.con c))
    | _ => .bad
  | r => r
mutual
def ex : Sm → Fr → Mem → SR
  | .asg tg e, fr, h => lift (ev P call callI e fr h) fr fun v h1 => match tg.put h1 v fr with
    | some fr1 => .ok .nx fr1 h1
    | none => .bad
  | .asgT as e, fr, h => lift (ev P call callI e fr h) fr fun v h1 => match v with
    | .tup vs => SR.of fr (setT P fr as vs h1)
    | _ => .bad
  | .asgA o f e, fr, h => lift (ev P call callI e fr h) fr fun y h1 => lift (ev P call callI o fr h1) fr fun x h2 => SR.of fr (setA P f x y h2)
  | .asgI o i e, fr, h => lift (ev P call callI e fr h) fr fun y h1 => lift (ev P call callI o fr h1) fr fun x h2 => lift (ev P call callI i fr h2) fr fun z h3 => SR.of fr (setV x z y h3)
  | .augA o f s e, fr, h => lift (ev P call callI o fr h) fr fun x h1 => match x with
    | .ref a => (match h1[a]? with
      | some (.ins c fs) => (match if fldF P c f then (fs.lookup f).bind slV? else none with
        | some u => lift (ev P call callI e fr h1) fr fun y h2 => (match augI s u y with
          | some z => if kindV h2 x = 10 + c then SR.of fr (setA P f x z h2) else .bad
          | none => .bad)
        | none => .bad)
      | _ => .bad)
    | _ => .bad
  | .own i a, fr, h => lift (evA P call callI a fr h) fr fun c h1 => .ok .nx (fr.set i (.o c)) h1
  | .ownA i f a, fr, h => lift (evA P call callI a fr h) fr fun c h1 => match fr[i]? with
    | some (.v (.ref n)) => (match h1[n]? with
      | some (.ins d fs) => if fldF P d f && decide (fs.length < 1000) && nodupF fs then .ok .nx fr (h1.set n (.ins d (fput f (.o c) fs))) else .bad
      | _ => .bad)
    | _ => .bad
  | .frz i, fr, h => match fr[i]? with
    | some (.o c) => (match cVal c with
      | some v => .ok .nx (fr.set i (.v v)) h
      | none => .bad)
    | _ => .bad
  | .papp p e, fr, h => if !(evp P p fr h).any isLst then .bad else lift (ev P call callI e fr h) fr fun v h1 => SR.of2 (((evp P p fr h1).bind fun c => capp c v).bind fun c => putp p c fr h1)
  | .pext p e, fr, h => if !(evp P p fr h).any isLst then .bad else lift (ev P call callI e fr h) fr fun v h1 => SR.of2 (((evp P p fr h1).bind fun c => cext h1 c v).bind fun c => putp p c fr h1)
  | .padd p e, fr, h => if !(evp P p fr h).any isSet then .bad else lift (ev P call callI e fr h) fr fun v h1 => SR.of2 (((evp P p fr h1).bind fun c => cadd c v).bind fun c => putp p c fr h1)
  | .pset p i e, fr, h => lift (ev P call callI e fr h) fr fun v h1 => if !(evp P p fr h1).isSome then .bad else lift (ev P call callI i fr h1) fr fun w h2 => SR.of2 (((evp P p fr h2).bind fun c => cset c w v).bind fun c => putp p c fr h2)
  | .pdel p i, fr, h => if !(evp P p fr h).isSome then .bad else lift (ev P call callI i fr h) fr fun w h1 => SR.of2 (((evp P p fr h1).bind fun c => cdel c w).bind fun c => putp p c fr h1)
  | .exp e, fr, h => lift (ev P call callI e fr h) fr fun _ h1 => .ok .nx fr h1
  | .ret e, fr, h => lift (ev P call callI e fr h) fr fun v h1 => .ok (.rt (.v v)) fr h1
  | .retA a, fr, h => lift (evA P call callI a fr h) fr fun c h1 => match c with
    | .lst xs => .ok (.rt (.f xs)) fr h1
    | _ => .bad
  | .retO i, fr, h => match fr[i]? with
    | some (.o (.lst xs)) => .ok (.rt (.f xs)) fr h
    | _ => .bad
  | .retN, fr, h => .ok (.rt (.v .non)) fr h
  | .ite c a b, fr, h => lift (evt P call callI c fr h) fr fun t h1 => if t then exs a fr h1 else exs b fr h1
  | .whl c b, fr, h => whlG (evt P call callI c) (exs b) P.lim fr h
  | .for tg it b, fr, h => lift (evi P call callI it fr h) fr fun t h1 => forG t tg (exs b) (t.cnt h1) 0 fr h1
  | .forF r tg i f b, fr, h => match fr[i]? with
    | some (.v (.ref n)) => (match h[n]? with
      | some (.ins d fs) => (match fs.lookup f with
        | some (.o (.lst xs)) => if !(fldF P d f && nodupF fs) then .bad else backF n f (.lst xs) (forG (.sn (if r then xs.reverse else xs)) tg (exs b) xs.length 0 fr (h.set n (.ins d (fput f .e fs))))
        | _ => .bad)
      | _ => .bad)
    | _ => .bad
  | .forD p tg e b, fr, h => match ddV P e fr h with
    | some (.dik kvs) => forG (.sn (dItems p kvs)) tg (exs b) kvs.length 0 fr h
    | some (.ref n) => (match h[n]? with
      | some (.con (.dik kvs)) => unlk n (.dik kvs) (forG (.sn (dItems p kvs)) tg (exs b) kvs.length 0 fr (h.set n (.lck (.dik kvs))))
      | some (.lck (.dik kvs)) => forG (.sn (dItems p kvs)) tg (exs b) kvs.length 0 fr h
      | _ => .bad)
    | _ => .bad
  | .raise c, fr, h => .exc c fr h
  | .try b hs, fr, h => match exs b fr h with
    | .exc c fr1 h1 => hand P c hs fr1 h1
    | x => x
  | .pass, fr, h => .ok .nx fr h
  | .brk, fr, h => .ok .bk fr h
  | .cnt, fr, h => .ok .ct fr h
  | .del o i, fr, h => lift (ev P call callI o fr h) fr fun x h1 => lift (ev P call callI i fr h1) fr fun z h2 => SR.of fr (delV x z h2)
def exs : Sms → Fr → Mem → SR
  | .nil, fr, h => .ok .nx fr h
  | .cons s ss, fr, h => (ex s fr h).andThen (exs ss)
end
end
def fin : SR → Res Ret
  | .ok .nx _ h => .ok (.v .non) h
  | .ok (.rt v) _ h => .ok v h
  | .exc c _ h => .exc c h
  | _ => .bad
/-- the arguments, the defaults of those that are left out -/
def argsF (F : Fn) (vs : List Val) : Option (List Val) :=
  if vs.length = F.np then some vs else none
def start (F : Fn) (vs : List Val) : Fr := vs.map .v ++ List.replicate (F.ns - vs.length) .e
/-- function i, k calls deep -/
def run (P : Pg) : Nat → Nat → List Val → Mem → Res Ret
  | 0, _, _, _ => .bad
  | 1, _, _, _ => .bad
  | k + 2, i, vs, h => match P.fn i with
    | some F => (match argsF F vs with
      | some ws => fin (exs P (run P (k + 1)) (run P k) F.body (start F ws) h)
      | none => .bad)
    | none => .bad
/-- what an error of one class is -/
def excT (tab : List (Nat × List (Nat × Bool))) (e d : Nat) : Option Bool := (tab.lookup e).bind fun row => row.lookup d
end
end PyI
/-! what the small language's programs do, they do in the model -/
namespace PyI
open PySem PySem.Spec PyProof.Rows L2
/-! ### texts -/
def toStr (t : Txt) : Str := ⟨(t.map Char.toNat).toArray⟩
theorem toNat_inj {a b : Char} (h : a.toNat = b.toNat) : a = b := by
  apply Char.ext
  exact UInt32.toNat_inj.mp h
theorem map_toNat_inj : ∀ {x y : Txt}, x.map Char.toNat = y.map Char.toNat → x = y
  | [], [], _ => rfl
  | [], _ :: _, h => by simp at h
  | _ :: _, [], h => by simp at h
  | a :: x, b :: y, h => by
    simp only [List.map_cons, List.cons.injEq] at h
    rw [toNat_inj h.1, map_toNat_inj h.2]
theorem toStr_inj {x y : Txt} (h : toStr x = toStr y) : x = y := by
  unfold toStr at h
  injection h with h
  exact map_toNat_inj (by simpa using congrArg Array.toList h)
theorem toStr_length (x : Txt) : (toStr x).length = x.length := by simp [toStr, Str.length]
theorem toStr_append (x y : Txt) : toStr x ++ toStr y = toStr (x ++ y) := by
  show Str.append (toStr x) (toStr y) = _
  simp [Str.append, toStr]
theorem toStr_dec (x y : Txt) : decide (toStr x = toStr y) = decide (x = y) := by
  by_cases h : x = y
  · subst h; simp
  · rw [decide_eq_false h, decide_eq_false fun e => h (toStr_inj e)]
def kT : PyI.Key → L2.Key
  | .inl i => .inl i
  | .inr t => .inr (toStr t)
theorem kT_inj {a b : PyI.Key} (h : kT a = kT b) : a = b := by
  cases a <;> cases b <;> simp only [kT, Sum.inl.injEq, Sum.inr.injEq, reduceCtorEq] at h
  · rw [h]
  · rw [toStr_inj h]
theorem map_kT_inj : ∀ {a b : List PyI.Key}, a.map kT = b.map kT → a = b
  | [], [], _ => rfl
  | [], _ :: _, h => by simp at h
  | _ :: _, [], h => by simp at h
  | a :: x, b :: y, h => by
    simp only [List.map_cons, List.cons.injEq] at h
    rw [kT_inj h.1, map_kT_inj h.2]
/-! ### the relation -/
/-- where the text's classes, errors and functions stand, how names are spelt -/
structure Tab where
  cls : Nat → Addr
  exn : Nat → Value
  fn : Nat → Addr
  nm : Nat → Str
  w : World
/-- where the memory stands: its cells; what fields own; what never changes; what others own; what the locals own -/
structure Ix where
  c : List Addr
  o : Nat → Nat → Option Addr
  L : Addr → Prop
  S : Addr → Prop
  M : Addr → Prop
  /-- what a field's own list is, while a loop has it -/
  w : Nat → Nat → Option Addr
def Ix.tr (φ : Ix) (a : Addr) : Prop := a ∈ φ.c ∨ ∃ n f, φ.o n f = some a
/-- an object, its lock left out -/
def ct (H : L2.Hp) (a : Addr) : Option HO := match H a with
  | some (.frz _ u) => some u
  | x => x
theorem ct_lst {H : L2.Hp} {a : Addr} {vs : List V} (h : ct H a = some (.lst vs)) : Rd H a (.lst vs) := by
  unfold ct at h
  split at h
  · rename_i o u e; cases h; exact .inr ⟨o, e⟩
  · exact .inl h
theorem ct_dK {H : L2.Hp} {a : Addr} {vs : List (L2.Key × V)} (h : ct H a = some (.dK vs)) : Rd H a (.dK vs) := by
  unfold ct at h
  split at h
  · rename_i o u e; cases h; exact .inr ⟨o, e⟩
  · exact .inl h
/-- a tuple, a list of the text's top -/
def KTup (K : PySem.W.Frag) (a : Addr) (vs : List V) : Prop :=
  ∃ (o : Obj) (its : Array Value) (n : Nat), K.lookup a = some o ∧ o.cls = .type "tuple" ∧ o.data = .seq its n ∧ its.size ≤ sizeLine ∧ Vals vs its.toList
theorem KTup.sq {K : PySem.W.Frag} {H : L2.Hp} {a : Addr} {vs : List V} (k : KTup K a vs) : SqT K H a vs := .inr k
/-- a list that never changes -/
def PL (K : PySem.W.Frag) (φ : Ix) (H : L2.Hp) (a : Addr) (vs : List V) : Prop := φ.L a ∧ ct H a = some (.lst vs)
/-- the law's script: a list that never changes, or one of the text's top -/
def KL (K : PySem.W.Frag) (φ : Ix) (H : L2.Hp) (a : Addr) (vs : List V) : Prop := PL K φ H a vs ∨ ∃ (o : Obj) (its : Array Value) (n : Nat), K.lookup a = some o ∧ o.cls = .type "list" ∧ o.dict = none ∧ o.data = .seq its n ∧ its.size ≤ sizeLine ∧ Vals vs its.toList
theorem PL.sq {K : PySem.W.Frag} {φ : Ix} {H : L2.Hp} {a : Addr} {vs : List V} (k : PL K φ H a vs) : SqL K H a vs := .inl (ct_lst k.2)
theorem KL.sq {K : PySem.W.Frag} {φ : Ix} {H : L2.Hp} {a : Addr} {vs : List V} (k : KL K φ H a vs) : SqL K H a vs := k.elim (fun k => k.sq) fun k => .inr k
section
variable (K : PySem.W.Frag) (T : Tab)
mutual
def RV (φ : Ix) (H : L2.Hp) : Val → V → Prop
  | .non, x => x = .non
  | .bl b, x => x = .bl b
  | .int i, x => x = .int i
  | .str s, x => x = .str (toStr s)
  | .tup xs, x => ∃ a vs, x = .ref a ∧ H a = some (.tup vs) ∧ RVs φ H xs vs
  | .ref n, x => ∃ a, φ.c[n]? = some a ∧ x = .ref a
  | .fn f, x => x = .ref (T.fn f)
  | .lst xs, x => ∃ a vs, x = .ref a ∧ PL K φ H a vs ∧ RVs φ H xs vs
  | .dik kvs, x => ∃ a ks, x = .ref a ∧ (φ.L a ∧ ct H a = some (.dK ks)) ∧ RKl φ H kvs ks
  | .ins c fs, x => ∃ a dx ks, x = .ref a ∧ (φ.L a ∧ H a = some (.ins (T.cls c) dx ks)) ∧ RFl φ H fs ks
  | .ktp xs, x => ∃ a vs, x = .ref a ∧ KTup K a vs ∧ RVs φ H xs vs
  | .kls xs, x => ∃ a vs, x = .ref a ∧ KL K φ H a vs ∧ RVs φ H xs vs
  | .kdk kvs, x => ∃ a, x = .ref a ∧ ((a == sysModules) = false ∧ ∀ s : Txt, kget kvs (.inr s) = none → KMiss K T.w a (toStr s)) ∧ RDl φ H a kvs
def RVs (φ : Ix) (H : L2.Hp) : List Val → List V → Prop
  | [], vs => vs = []
  | x :: xs, vs => ∃ v r, vs = v :: r ∧ RV φ H x v ∧ RVs φ H xs r
def RKl (φ : Ix) (H : L2.Hp) : List (PyI.Key × Val) → List (L2.Key × V) → Prop
  | [], vs => vs = []
  | x :: xs, vs => ∃ v r, vs = v :: r ∧ RKp φ H x v ∧ RKl φ H xs r
def RKp (φ : Ix) (H : L2.Hp) : PyI.Key × Val → L2.Key × V → Prop
  | (k, v), y => y.1 = kT k ∧ RV φ H v y.2
def RFl (φ : Ix) (H : L2.Hp) : List (Nat × Val) → List (Str × V) → Prop
  | [], vs => vs = []
  | x :: xs, vs => ∃ v r, vs = v :: r ∧ RFp φ H x v ∧ RFl φ H xs r
def RFp (φ : Ix) (H : L2.Hp) : Nat × Val → Str × V → Prop
  | (k, v), y => y.1 = T.nm k ∧ RV φ H v y.2
def RDl (φ : Ix) (H : L2.Hp) (a : Addr) : List (PyI.Key × Val) → Prop
  | [] => True
  | x :: xs => RDp φ H a x ∧ RDl φ H a xs
def RDp (φ : Ix) (H : L2.Hp) (a : Addr) : PyI.Key × Val → Prop
  | (k, v) => ∃ s y, k = .inr s ∧ KDct K T.w a (toStr s) y ∧ RV φ H v y
end
def RKs {κ κ' : Type} (k : κ → κ') (φ : Ix) (H : L2.Hp) : List (κ × Val) → List (κ' × V) → Prop
  | [], vs => vs = []
  | x :: xs, vs => ∃ v r, vs = (k x.1, v) :: r ∧ RV K T φ H x.2 v ∧ RKs k φ H xs r
def RCo (φ : Ix) (H : L2.Hp) (a : Addr) : Con → HO → Prop
  | .lst xs, o => ∃ vs, o = .lst vs ∧ RVs K T φ H xs vs
  | .dik kvs, o => ∃ ks, o = .dK ks ∧ RKs K T kT φ H kvs ks
  | .dit kvs, o => ∃ ks, o = .dT ks ∧ RKs K T (List.map kT) φ H kvs ks
  | .set xs, o => ∃ S, o = SetO T.w a S xs.length ∧ ∀ i, S i = decide (i ∈ xs)
/-- a field -/
def RSl (φ : Ix) (H : L2.Hp) (p q : Option Addr) : Sl → V → Prop
  | .e, y => ∀ a, q = some a → y = .ref a
  | .v x, y => RV K T φ H x y
  | .o c, y => ∃ a u, p = some a ∧ y = .ref a ∧ H a = some u ∧ RCo K T φ H a c u
def RSs (φ : Ix) (H : L2.Hp) (n : Nat) : List (Nat × Sl) → List (Str × V) → Prop
  | [], vs => vs = []
  | x :: xs, vs => ∃ v r, vs = (T.nm x.1, v) :: r ∧ RSl K T φ H (φ.o n x.1) (φ.w n x.1) x.2 v ∧ RSs φ H n xs r
def ROb (φ : Ix) (H : L2.Hp) (n : Nat) (a : Addr) : Ob → HO → Prop
  | .con c, o => RCo K T φ H a c o
  | .lck c, o => ∃ ob v, o = .frz ob v ∧ RCo K T φ H a c v
  | .ins c fs, o => ∃ dx ks, o = .ins (T.cls c) dx ks ∧ RSs K T φ H n fs ks
/-- the memory stands in the heap, its places at φ -/
structure Rel (φ : Ix) (H : L2.Hp) (h : Mem) : Prop where
  len : φ.c.length = h.length
  nd : φ.c.Nodup
  oc : ∀ n f a, φ.o n f = some a → a ∉ φ.c
  oi : ∀ n f m g a, φ.o n f = some a → φ.o m g = some a → n = m ∧ f = g
  on : ∀ n f a, φ.o n f = some a → n < φ.c.length ∧ H a ≠ none
  iL : ∀ a, φ.L a → ¬ φ.tr a ∧ H a ≠ none
  iS : ∀ a, φ.S a → ¬ φ.tr a ∧ ¬ φ.L a ∧ H a ≠ none
  iM : ∀ a, φ.M a → ¬ φ.tr a ∧ ¬ φ.L a ∧ ¬ φ.S a ∧ H a ≠ none
  at_ : ∀ (n : Nat) (a : Addr) (o : Ob), φ.c[n]? = some a → h[n]? = some o → ∃ u, H a = some u ∧ ROb K T φ H n a o u
/-- what never changes is the same, but for a lock -/
def Ke (H G : L2.Hp) (a : Addr) : Prop := ct G a = ct H a ∧ ∀ C dx fs, H a = some (.ins C dx fs) → G a = some (.ins C dx fs)
/-- later, over statements -/
structure ExtS (φ : Ix) (H : L2.Hp) (ψ : Ix) (G : L2.Hp) : Prop where
  pre : ∃ l, ψ.c = φ.c ++ l
  eS : ψ.S = φ.S
  eL : ∀ a, φ.L a → ψ.L a
  tup : ∀ a vs, H a = some (.tup vs) → G a = some (.tup vs)
  keL : ∀ a, φ.L a → Ke H G a
  keS : ∀ a, φ.S a → G a = H a
  fz : ∀ a o u, H a = some (.frz o u) → G a = some (.frz o u)
  eW : ψ.w = φ.w := by rfl
/-- later, within a statement -/
structure Ext (φ : Ix) (H : L2.Hp) (ψ : Ix) (G : L2.Hp) : Prop extends ExtS φ H ψ G where
  eM : ψ.M = φ.M
  keM : ∀ a, φ.M a → G a = H a
structure RFr (φ : Ix) (H : L2.Hp) (fr : PyI.Fr) (σ : L2.St) : Prop where
  len : fr.length = σ.length
  v : ∀ (i : Nat) (v : Val), fr[i]? = some (.v v) → ∃ x, σ[i]? = some (some x) ∧ RV K T φ H v x
  o : ∀ (i : Nat) (c : Con), fr[i]? = some (.o c) → ∃ a u, σ[i]? = some (some (.ref a)) ∧ φ.M a ∧ H a = some u ∧ RCo K T φ H a c u
  d : ∀ (i j : Nat) (c d : Con) (a : Addr), i ≠ j → fr[i]? = some (.o c) → fr[j]? = some (.o d) → σ[i]? = some (some (.ref a)) → σ[j]? ≠ some (some (.ref a))
end
section
variable {K : PySem.W.Frag} {T : Tab} {φ ψ χ : Ix} {H G F : L2.Hp} {h h1 h2 : Mem}
theorem Ke.refl {a : Addr} : Ke H H a := ⟨rfl, fun _ _ _ e => e⟩
theorem Ke.trans {a : Addr} (x : Ke H G a) (y : Ke G F a) : Ke H F a := ⟨y.1.trans x.1, fun _ _ _ e => y.2 _ _ _ (x.2 _ _ _ e)⟩
theorem Ke.of {a : Addr} (e : G a = H a) : Ke H G a := by
  refine ⟨by unfold ct; rw [e], fun _ _ _ q => by rw [e]; exact q⟩
theorem ExtS.refl : ExtS φ H φ H := ⟨⟨[], by simp⟩, rfl, fun _ q => q, fun _ _ q => q, fun _ _ => .refl, fun _ _ => rfl, fun _ _ _ q => q, rfl⟩
theorem Ext.refl : Ext φ H φ H := { ExtS.refl with eM := rfl, keM := fun _ _ => rfl }
theorem ExtS.trans (e : ExtS φ H ψ G) (f : ExtS ψ G χ F) : ExtS φ H χ F where
  pre := by
    obtain ⟨l, h1⟩ := e.pre
    obtain ⟨m, h2⟩ := f.pre
    exact ⟨l ++ m, by rw [h2, h1, List.append_assoc]⟩
  eS := f.eS.trans e.eS
  eW := f.eW.trans e.eW
  eL := fun a q => f.eL a (e.eL a q)
  tup := fun a vs q => f.tup a vs (e.tup a vs q)
  keL := fun a q => (e.keL a q).trans (f.keL a (e.eL a q))
  keS := fun a q => (f.keS a (by rw [e.eS]; exact q)).trans (e.keS a q)
  fz := fun a o u q => f.fz a o u (e.fz a o u q)
theorem Ext.trans (e : Ext φ H ψ G) (f : Ext ψ G χ F) : Ext φ H χ F :=
  { e.toExtS.trans f.toExtS with eM := f.eM.trans e.eM, keM := fun a q => (f.keM a (by rw [e.eM]; exact q)).trans (e.keM a q) }
theorem ExtS.get (e : ExtS φ H ψ G) {n : Nat} {a : Addr} (q : φ.c[n]? = some a) : ψ.c[n]? = some a := by
  obtain ⟨l, h⟩ := e.pre
  rw [h, List.getElem?_append_left (List.getElem?_eq_some_iff.mp q).1]
  exact q
theorem Ext.get (e : Ext φ H ψ G) {n : Nat} {a : Addr} (q : φ.c[n]? = some a) : ψ.c[n]? = some a := e.toExtS.get q
/-- what a value's standing leans on -/
structure VExt (φ : Ix) (H : L2.Hp) (ψ : Ix) (G : L2.Hp) : Prop where
  get : ∀ (n : Nat) (a : Addr), φ.c[n]? = some a → ψ.c[n]? = some a
  eL : ∀ a, φ.L a → ψ.L a
  tup : ∀ a vs, H a = some (.tup vs) → G a = some (.tup vs)
  keL : ∀ a, φ.L a → Ke H G a
theorem ExtS.ve (e : ExtS φ H ψ G) : VExt φ H ψ G := ⟨fun _ _ q => e.get q, e.eL, e.tup, e.keL⟩
mutual
theorem RV.monoV (e : VExt φ H ψ G) : ∀ (v : Val) (x : V), RV K T φ H v x → RV K T ψ G v x
  | .non, _, q => q
  | .bl _, _, q => q
  | .int _, _, q => q
  | .str _, _, q => q
  | .tup xs, x, q => by
    obtain ⟨a, vs, e1, q1, q2⟩ := q
    exact ⟨a, vs, e1, e.tup _ _ q1, RVs.monoV e xs vs q2⟩
  | .ref n, x, q => by
    obtain ⟨a, q1, q2⟩ := q
    exact ⟨a, e.get _ _ q1, q2⟩
  | .fn _, _, q => q
  | .lst xs, x, q => by
    obtain ⟨a, vs, e1, q1, q2⟩ := q
    exact ⟨a, vs, e1, ⟨e.eL _ q1.1, (e.keL _ q1.1).1.trans q1.2⟩, RVs.monoV e xs vs q2⟩
  | .dik kvs, x, q => by
    obtain ⟨a, ks, e1, q1, q2⟩ := q
    exact ⟨a, ks, e1, ⟨e.eL _ q1.1, (e.keL _ q1.1).1.trans q1.2⟩, RKl.monoV e kvs ks q2⟩
  | .ins c fs, x, q => by
    obtain ⟨a, dx, ks, e1, q1, q2⟩ := q
    exact ⟨a, dx, ks, e1, ⟨e.eL _ q1.1, (e.keL _ q1.1).2 _ _ _ q1.2⟩, RFl.monoV e fs ks q2⟩
  | .ktp xs, x, q => by
    obtain ⟨a, vs, e1, q1, q2⟩ := q
    exact ⟨a, vs, e1, q1, RVs.monoV e xs vs q2⟩
  | .kdk kvs, x, q => by
    obtain ⟨a, e1, q1, q2⟩ := q
    exact ⟨a, e1, q1, RDl.monoV e a kvs q2⟩
  | .kls xs, x, q => by
    obtain ⟨a, vs, e1, q1, q2⟩ := q
    exact ⟨a, vs, e1, q1.imp (fun q1 => ⟨e.eL _ q1.1, (e.keL _ q1.1).1.trans q1.2⟩) id, RVs.monoV e xs vs q2⟩
theorem RVs.monoV (e : VExt φ H ψ G) : ∀ (vs : List Val) (xs : List V), RVs K T φ H vs xs → RVs K T ψ G vs xs
  | [], _, q => q
  | v :: vs, xs, q => by
    obtain ⟨x, r, e1, q1, q2⟩ := q
    exact ⟨x, r, e1, RV.monoV e v x q1, RVs.monoV e vs r q2⟩
theorem RKl.monoV (e : VExt φ H ψ G) : ∀ (vs : List (PyI.Key × Val)) (xs : List (L2.Key × V)), RKl K T φ H vs xs → RKl K T ψ G vs xs
  | [], _, q => q
  | v :: vs, xs, q => by
    obtain ⟨x, r, e1, q1, q2⟩ := q
    exact ⟨x, r, e1, RKp.monoV e v x q1, RKl.monoV e vs r q2⟩
theorem RKp.monoV (e : VExt φ H ψ G) : ∀ (p : PyI.Key × Val) (x : L2.Key × V), RKp K T φ H p x → RKp K T ψ G p x
  | (k, v), x, q => ⟨q.1, RV.monoV e v x.2 q.2⟩
theorem RFl.monoV (e : VExt φ H ψ G) : ∀ (vs : List (Nat × Val)) (xs : List (Str × V)), RFl K T φ H vs xs → RFl K T ψ G vs xs
  | [], _, q => q
  | v :: vs, xs, q => by
    obtain ⟨x, r, e1, q1, q2⟩ := q
    exact ⟨x, r, e1, RFp.monoV e v x q1, RFl.monoV e vs r q2⟩
theorem RFp.monoV (e : VExt φ H ψ G) : ∀ (p : Nat × Val) (x : Str × V), RFp K T φ H p x → RFp K T ψ G p x
  | (k, v), x, q => ⟨q.1, RV.monoV e v x.2 q.2⟩
theorem RDl.monoV (e : VExt φ H ψ G) (a : Addr) : ∀ (vs : List (PyI.Key × Val)), RDl K T φ H a vs → RDl K T ψ G a vs
  | [], q => q
  | v :: vs, q => ⟨RDp.monoV e a v q.1, RDl.monoV e a vs q.2⟩
theorem RDp.monoV (e : VExt φ H ψ G) (a : Addr) : ∀ (p : PyI.Key × Val), RDp K T φ H a p → RDp K T ψ G a p
  | (k, v), q => by
    obtain ⟨s, y, e1, q1, q2⟩ := q
    exact ⟨s, y, e1, q1, RV.monoV e v y q2⟩
end
theorem RKs.monoV {κ κ' : Type} {k : κ → κ'} (e : VExt φ H ψ G) : ∀ {vs : List (κ × Val)} {xs : List (κ' × V)}, RKs K T k φ H vs xs → RKs K T k ψ G vs xs
  | [], _, q => q
  | v :: vs, xs, q => by
    obtain ⟨x, r, e1, q1, q2⟩ := q
    exact ⟨x, r, e1, q1.monoV e _ _, RKs.monoV e q2⟩
theorem RCo.monoV (e : VExt φ H ψ G) {a : Addr} : ∀ {c : Con} {u : HO}, RCo K T φ H a c u → RCo K T ψ G a c u
  | .lst _, _, q => by obtain ⟨vs, e1, q1⟩ := q; exact ⟨vs, e1, RVs.monoV e _ _ q1⟩
  | .dik _, _, q => by obtain ⟨vs, e1, q1⟩ := q; exact ⟨vs, e1, RKs.monoV e q1⟩
  | .dit _, _, q => by obtain ⟨vs, e1, q1⟩ := q; exact ⟨vs, e1, RKs.monoV e q1⟩
  | .set _, _, q => q
theorem RSl.monoV (e : VExt φ H ψ G) {p p' q q' : Option Addr} (hq : q' = q) : ∀ {s : Sl} {y : V}, (∀ a c, s = .o c → p = some a → p' = some a ∧ G a = H a) → RSl K T φ H p q s y → RSl K T ψ G p' q' s y
  | .e, _, _, z => by subst hq; exact z
  | .v _, _, _, q => RV.monoV e _ _ q
  | .o c, y, hk, q => by
    obtain ⟨a, u, e1, e2, q1, q2⟩ := q
    obtain ⟨g1, g2⟩ := hk a c rfl e1
    exact ⟨a, u, g1, e2, g2.trans q1, q2.monoV e⟩
theorem RSs.monoV (e : VExt φ H ψ G) {n : Nat} {fs : List (Nat × Sl)} {ks : List (Str × V)} (hk : ∀ f a, φ.o n f = some a → ψ.o n f = some a ∧ G a = H a) (q : RSs K T φ H n fs ks) (hw : ∀ g, ψ.w n g = φ.w n g := by intro _; rfl) : RSs K T ψ G n fs ks := by
  induction fs generalizing ks with
  | nil => exact q
  | cons p fs ih =>
    obtain ⟨v, r, e1, q1, q2⟩ := q
    exact ⟨v, r, e1, q1.monoV e (hw _) fun a c _ h => hk _ a h, ih q2⟩
theorem ROb.monoV (e : VExt φ H ψ G) {n : Nat} {b : Addr} {o : Ob} {u : HO} (hk : ∀ f a, φ.o n f = some a → ψ.o n f = some a ∧ G a = H a) (q : ROb K T φ H n b o u) (hw : ∀ g, ψ.w n g = φ.w n g := by intro _; rfl) : ROb K T ψ G n b o u := by
  cases o with
  | con c => exact RCo.monoV e q
  | lck c => obtain ⟨ob, v, e1, q1⟩ := q; exact ⟨ob, v, e1, RCo.monoV e q1⟩
  | ins c fs => obtain ⟨dx, ks, e1, q1⟩ := q; exact ⟨dx, ks, e1, RSs.monoV e hk q1 hw⟩
theorem RV.mono (e : Ext φ H ψ G) (v : Val) (x : V) (q : RV K T φ H v x) : RV K T ψ G v x := RV.monoV e.toExtS.ve v x q
theorem RVs.mono (e : Ext φ H ψ G) (v : List Val) (x : List V) (q : RVs K T φ H v x) : RVs K T ψ G v x := RVs.monoV e.toExtS.ve v x q
theorem RKs.mono {κ κ' : Type} {k : κ → κ'} (e : Ext φ H ψ G) {vs : List (κ × Val)} {xs : List (κ' × V)} (q : RKs K T k φ H vs xs) : RKs K T k ψ G vs xs := RKs.monoV e.toExtS.ve q
theorem RCo.mono (e : Ext φ H ψ G) {a : Addr} {c : Con} {u : HO} (q : RCo K T φ H a c u) : RCo K T ψ G a c u := RCo.monoV e.toExtS.ve q
theorem RFr.mono {fr : PyI.Fr} {σ : L2.St} (e : Ext φ H ψ G) (q : RFr K T φ H fr σ) : RFr K T ψ G fr σ where
  len := q.len
  v := fun i v hv => let ⟨x, h1, h2⟩ := q.v i v hv; ⟨x, h1, h2.mono e _ _⟩
  o := fun i c hc => let ⟨a, u, h1, h2, h3, h4⟩ := q.o i c hc; ⟨a, u, h1, by rw [e.eM]; exact h2, by rw [e.keM a h2]; exact h3, h4.mono e⟩
  d := q.d
theorem RVs.length : ∀ {vs : List Val} {xs : List V}, RVs K T φ H vs xs → xs.length = vs.length
  | [], _, q => by rw [show _ = [] from q]; rfl
  | v :: vs, xs, q => by obtain ⟨x, r, rfl, _, q2⟩ := q; simp [RVs.length q2]
theorem RKs.length {κ κ' : Type} {k : κ → κ'} : ∀ {vs : List (κ × Val)} {xs : List (κ' × V)}, RKs K T k φ H vs xs → xs.length = vs.length
  | [], _, q => by rw [show _ = [] from q]; rfl
  | v :: vs, xs, q => by obtain ⟨x, r, rfl, _, q2⟩ := q; simp [RKs.length q2]
theorem RSs.length {n : Nat} : ∀ {vs : List (Nat × Sl)} {xs : List (Str × V)}, RSs K T φ H n vs xs → xs.length = vs.length
  | [], _, q => by rw [show _ = [] from q]; rfl
  | v :: vs, xs, q => by obtain ⟨x, r, rfl, _, q2⟩ := q; simp [RSs.length q2]
theorem RKl_iff : ∀ {vs : List (PyI.Key × Val)} {xs : List (L2.Key × V)}, RKl K T φ H vs xs ↔ RKs K T kT φ H vs xs
  | [], _ => Iff.rfl
  | (k, v) :: vs, xs => by
    constructor
    · rintro ⟨⟨k', x⟩, r, rfl, ⟨rfl, q1⟩, q2⟩
      exact ⟨x, r, rfl, q1, RKl_iff.mp q2⟩
    · rintro ⟨x, r, rfl, q1, q2⟩
      exact ⟨_, r, rfl, ⟨rfl, q1⟩, RKl_iff.mpr q2⟩
theorem RFl_iff : ∀ {vs : List (Nat × Val)} {xs : List (Str × V)}, RFl K T φ H vs xs ↔ RKs K T T.nm φ H vs xs
  | [], _ => Iff.rfl
  | (k, v) :: vs, xs => by
    constructor
    · rintro ⟨⟨k', x⟩, r, rfl, ⟨rfl, q1⟩, q2⟩
      exact ⟨x, r, rfl, q1, RFl_iff.mp q2⟩
    · rintro ⟨x, r, rfl, q1, q2⟩
      exact ⟨_, r, rfl, ⟨rfl, q1⟩, RFl_iff.mpr q2⟩
theorem RVs.get : ∀ {vs : List Val} {xs : List V} {i : Nat} {v : Val}, RVs K T φ H vs xs → vs[i]? = some v → ∃ x, xs[i]? = some x ∧ RV K T φ H v x
  | [], _, _, _, _, q => by simp at q
  | v :: vs, xs, i, u, q, hi => by
    obtain ⟨x, r, rfl, q1, q2⟩ := q
    cases i with
    | zero => simp at hi; subst hi; exact ⟨x, by simp, q1⟩
    | succ i => simpa using RVs.get q2 (by simpa using hi)
theorem RVs.none_of {vs : List Val} {xs : List V} {i : Nat} (q : RVs K T φ H vs xs) (hi : vs[i]? = none) : xs[i]? = none := by
  rw [List.getElem?_eq_none_iff] at hi ⊢
  rw [q.length]; exact hi
theorem RVs.of_get : ∀ {vs : List Val} {xs : List V}, xs.length = vs.length → (∀ (i : Nat) (v : Val) (x : V), vs[i]? = some v → xs[i]? = some x → RV K T φ H v x) → RVs K T φ H vs xs
  | [], [], _, _ => rfl
  | [], _ :: _, h, _ => by simp at h
  | _ :: _, [], h, _ => by simp at h
  | v :: vs, x :: xs, h, q => ⟨x, xs, rfl, q 0 v x (by simp) (by simp), RVs.of_get (by simpa using h) fun i u y h1 h2 => q (i + 1) u y (by simpa using h1) (by simpa using h2)⟩
theorem RVs.append : ∀ {vs us : List Val} {xs ys : List V}, RVs K T φ H vs xs → RVs K T φ H us ys → RVs K T φ H (vs ++ us) (xs ++ ys)
  | [], _, _, _, q, r => by rw [show _ = [] from q]; exact r
  | v :: vs, us, xs, ys, q, r => by
    obtain ⟨x, s, rfl, q1, q2⟩ := q
    exact ⟨x, s ++ ys, rfl, q1, RVs.append q2 r⟩
theorem RVs.take : ∀ {vs : List Val} {xs : List V} (n : Nat), RVs K T φ H vs xs → RVs K T φ H (vs.take n) (xs.take n)
  | [], _, n, q => by rw [show _ = [] from q]; simp [RVs]
  | v :: vs, xs, n, q => by
    obtain ⟨x, s, rfl, q1, q2⟩ := q
    cases n with
    | zero => simp [RVs]
    | succ n => exact ⟨x, s.take n, by simp, q1, RVs.take n q2⟩
theorem RVs.drop : ∀ {vs : List Val} {xs : List V} (n : Nat), RVs K T φ H vs xs → RVs K T φ H (vs.drop n) (xs.drop n)
  | [], _, n, q => by rw [show _ = [] from q]; simp [RVs]
  | v :: vs, xs, n, q => by
    obtain ⟨x, s, rfl, q1, q2⟩ := q
    cases n with
    | zero => exact ⟨x, s, rfl, q1, q2⟩
    | succ n => simpa using RVs.drop n q2
theorem RVs.rev {vs : List Val} {xs : List V} (q : RVs K T φ H vs xs) : RVs K T φ H vs.reverse xs.reverse := by
  refine RVs.of_get (by simp [q.length]) fun i v x h1 h2 => ?_
  have hl := q.length
  have hi : i < vs.length := by
    have := (List.getElem?_eq_some_iff.mp h1).1
    simpa using this
  rw [List.getElem?_reverse hi] at h1
  rw [List.getElem?_reverse (by omega)] at h2
  obtain ⟨y, e, r⟩ := q.get h1
  rw [hl] at h2
  rw [e] at h2; cases h2
  exact r
theorem RVs.set {v : Val} {x : V} (r : RV K T φ H v x) : ∀ {vs : List Val} {xs : List V} (n : Nat), RVs K T φ H vs xs → RVs K T φ H (vs.set n v) (xs.set n x)
  | [], _, n, q => by rw [show _ = [] from q]; simp [RVs]
  | v :: vs, xs, n, q => by
    obtain ⟨y, s, rfl, q1, q2⟩ := q
    cases n with
    | zero => exact ⟨x, s, rfl, r, q2⟩
    | succ n => exact ⟨y, s.set n x, rfl, q1, RVs.set r n q2⟩
theorem RVs.eraseIdx : ∀ {vs : List Val} {xs : List V} (n : Nat), RVs K T φ H vs xs → RVs K T φ H (vs.eraseIdx n) (xs.eraseIdx n)
  | [], _, n, q => by rw [show _ = [] from q]; simp [RVs]
  | v :: vs, xs, n, q => by
    obtain ⟨y, s, rfl, q1, q2⟩ := q
    cases n with
    | zero => exact q2
    | succ n => exact ⟨y, s.eraseIdx n, rfl, q1, RVs.eraseIdx n q2⟩
theorem RVs.one {v : Val} {x : V} (q : RV K T φ H v x) : RVs K T φ H [v] [x] := ⟨x, [], rfl, q, rfl⟩
theorem RVs.ints : ∀ {vs : List Val} {xs : List V} {ns : List Int}, RVs K T φ H vs xs → vs.mapM intOf = some ns → xs = ns.map V.int
  | [], _, ns, q, e => by
    simp at e; subst e
    rw [show _ = [] from q]; rfl
  | v :: vs, xs, ns, q, e => by
    obtain ⟨y, s, rfl, q1, q2⟩ := q
    cases v <;> simp [intOf] at e
    rename_i i
    cases hm : vs.mapM intOf with
    | none => rw [hm] at e; simp at e
    | some ms =>
      rw [hm] at e; simp at e; subst e
      rw [show y = V.int i from q1, RVs.ints q2 hm]; rfl
theorem RVs.strs : ∀ {vs : List Val} {xs : List V} {ns : List Txt}, RVs K T φ H vs xs → vs.mapM strOf = some ns → xs = ns.map fun t => V.str (toStr t)
  | [], _, ns, q, e => by
    simp at e; subst e
    rw [show _ = [] from q]; rfl
  | v :: vs, xs, ns, q, e => by
    obtain ⟨y, s, rfl, q1, q2⟩ := q
    cases v <;> simp [strOf] at e
    rename_i i
    cases hm : vs.mapM strOf with
    | none => rw [hm] at e; simp at e
    | some ms =>
      rw [hm] at e; simp at e; subst e
      rw [show y = V.str (toStr i) from q1, RVs.strs q2 hm]; rfl
theorem RVs.of_ints : ∀ (ns : List Int), RVs K T φ H (ns.map .int) (ns.map V.int)
  | [] => rfl
  | n :: ns => ⟨_, _, rfl, rfl, RVs.of_ints ns⟩
theorem RVs.of_strs : ∀ (ns : List Txt), RVs K T φ H (ns.map .str) (ns.map fun t => V.str (toStr t))
  | [] => rfl
  | n :: ns => ⟨_, _, rfl, rfl, RVs.of_strs ns⟩
/-! ### reading -/
theorem Rel.at (R : Rel K T φ H h) {n : Nat} {o : Ob} (e : h[n]? = some o) : ∃ a u, φ.c[n]? = some a ∧ H a = some u ∧ ROb K T φ H n a o u := by
  have hl : n < φ.c.length := by rw [R.len]; exact (List.getElem?_eq_some_iff.mp e).1
  obtain ⟨u, q1, q2⟩ := R.at_ n φ.c[n] o (List.getElem?_eq_getElem hl) e
  exact ⟨_, u, List.getElem?_eq_getElem hl, q1, q2⟩
theorem Rel.ref (R : Rel K T φ H h) {n : Nat} {o : Ob} {x : V} (r : RV K T φ H (.ref n) x) (e : h[n]? = some o) : ∃ a u, x = .ref a ∧ φ.c[n]? = some a ∧ H a = some u ∧ ROb K T φ H n a o u := by
  obtain ⟨a, e1, rfl⟩ := r
  obtain ⟨b, u, e2, q1, q2⟩ := R.at e
  rw [e1] at e2; cases e2
  exact ⟨a, u, rfl, e1, q1, q2⟩
theorem Rel.con (R : Rel K T φ H h) {n : Nat} {c : Con} {x : V} (r : RV K T φ H (.ref n) x) (e : h[n]? = some (.con c)) : ∃ a u, x = .ref a ∧ φ.c[n]? = some a ∧ H a = some u ∧ RCo K T φ H a c u := R.ref r e
theorem Rel.lst (R : Rel K T φ H h) {n : Nat} {xs : List Val} {x : V} (r : RV K T φ H (.ref n) x) (e : h[n]? = some (.con (.lst xs))) : ∃ a vs, x = .ref a ∧ φ.c[n]? = some a ∧ H a = some (.lst vs) ∧ RVs K T φ H xs vs := by
  obtain ⟨a, u, rfl, e1, q1, vs, rfl, q2⟩ := R.ref r e
  exact ⟨a, vs, rfl, e1, q1, q2⟩
theorem lsN_eq {n : Nat} {xs : List Val} (e : lsN h n = some xs) : h[n]? = some (.con (.lst xs)) := by
  unfold lsN at e
  obtain ⟨o, e1, e2⟩ := Option.bind_eq_some_iff.mp e
  rw [e1]
  unfold lsO at e2
  split at e2 <;> cases e2
  rfl
theorem Rel.lsN (R : Rel K T φ H h) {n : Nat} {xs : List Val} {x : V} (r : RV K T φ H (.ref n) x) (e : lsN h n = some xs) : ∃ a vs, x = .ref a ∧ φ.c[n]? = some a ∧ H a = some (.lst vs) ∧ RVs K T φ H xs vs := R.lst r (lsN_eq e)
/-- a list -/
theorem Rel.lsA (R : Rel K T φ H h) {v : Val} {xs : List Val} {x : V} (r : RV K T φ H v x) (e : lsA h v = some xs) : ∃ a vs, x = .ref a ∧ SqL K H a vs ∧ RVs K T φ H xs vs := by
  cases v <;> simp only [PyI.lsA, reduceCtorEq] at e
  · obtain ⟨a, vs, rfl, _, q1, q2⟩ := R.lsN r e
    exact ⟨a, vs, rfl, .of q1, q2⟩
  · cases e
    obtain ⟨a, vs, rfl, q1, q2⟩ := r
    exact ⟨a, vs, rfl, q1.sq, q2⟩
theorem Rel.seqA (R : Rel K T φ H h) {v : Val} {xs : List Val} {x : V} (r : RV K T φ H v x) (e : seqA h v = some xs) : ∃ a vs, x = .ref a ∧ (SqL K H a vs ∨ SqT K H a vs) ∧ RVs K T φ H xs vs := by
  cases v <;> simp only [PyI.seqA, reduceCtorEq] at e
  · cases e
    obtain ⟨a, vs, rfl, q1, q2⟩ := r
    exact ⟨a, vs, rfl, .inr (.of q1), q2⟩
  · obtain ⟨a, vs, rfl, _, q1, q2⟩ := R.lsN r e
    exact ⟨a, vs, rfl, .inl (.of q1), q2⟩
  · cases e
    obtain ⟨a, vs, rfl, q1, q2⟩ := r
    exact ⟨a, vs, rfl, .inl q1.sq, q2⟩
  · cases e
    obtain ⟨a, vs, rfl, q1, q2⟩ := r
    exact ⟨a, vs, rfl, .inr q1.sq, q2⟩
/-! ### a new object, a change -/
def Ix.push (φ : Ix) (a : Addr) : Ix := { φ with c := φ.c ++ [a] }
def Ix.addL (φ : Ix) (a : Addr) : Ix := { φ with L := fun b => φ.L b ∨ b = a }
def Ix.addM (φ : Ix) (a : Addr) : Ix := { φ with M := fun b => φ.M b ∨ b = a }
def Ix.addS (φ : Ix) (a : Addr) : Ix := { φ with S := fun b => φ.S b ∨ b = a }
/-- a new address is none of ours -/
structure Fresh (φ : Ix) (a : Addr) : Prop where
  tr : ¬ φ.tr a
  L : ¬ φ.L a
  S : ¬ φ.S a
  M : ¬ φ.M a
theorem Rel.fresh (R : Rel K T φ H h) {a : Addr} (hn : H a = none) : Fresh φ a where
  tr := fun hm => by
    rcases hm with hm | ⟨n, f, e⟩
    · obtain ⟨n, hl, e⟩ := List.mem_iff_getElem.mp hm
      have e' : φ.c[n]? = some a := by rw [List.getElem?_eq_getElem hl, e]
      have hl2 : n < h.length := by rw [← R.len]; exact hl
      obtain ⟨u, q, _⟩ := R.at_ n a _ e' (List.getElem?_eq_getElem hl2)
      rw [hn] at q; cases q
    · exact (R.on n f a e).2 hn
  L := fun q => (R.iL a q).2 hn
  S := fun q => (R.iS a q).2.2 hn
  M := fun q => (R.iM a q).2.2.2 hn
theorem upd_some {a b : Addr} {o : HO} (q : H b ≠ none) : upd H a o b ≠ none := by
  unfold upd; split
  · simp
  · exact q
/-- a new object -/
theorem ve_new {a : Addr} {o : HO} (hn : H a = none) (get : ∀ (n : Nat) (b : Addr), φ.c[n]? = some b → ψ.c[n]? = some b) (eL : ∀ b, φ.L b → ψ.L b) (iL : ∀ b, φ.L b → H b ≠ none) : VExt φ H ψ (upd H a o) :=
  ⟨get, eL, fun b vs q => by rw [upd_ne (ne_of_none q hn)]; exact q, fun b q => .of (upd_ne fun e => iL b q (e ▸ hn))⟩
theorem ext_tup (R : Rel K T φ H h) {a : Addr} {o : HO} (hn : H a = none) : Ext φ H φ (upd H a o) where
  pre := ⟨[], by simp⟩
  eS := rfl
  eL := fun _ q => q
  tup := fun b vs q => by rw [upd_ne (ne_of_none q hn)]; exact q
  keL := fun b q => .of (upd_ne fun e => (R.iL b q).2 (e ▸ hn))
  keS := fun b q => upd_ne fun e => (R.iS b q).2.2 (e ▸ hn)
  fz := fun b o u q => by rw [upd_ne (ne_of_none q hn)]; exact q
  eM := rfl
  keM := fun b q => upd_ne fun e => (R.iM b q).2.2.2 (e ▸ hn)
theorem ext_new (R : Rel K T φ H h) {a : Addr} {o : HO} (hn : H a = none) : Ext φ H (φ.push a) (upd H a o) :=
  { ext_tup R hn with pre := ⟨[a], rfl⟩ }
theorem ext_addL (R : Rel K T φ H h) {a : Addr} {o : HO} (hn : H a = none) : Ext φ H (φ.addL a) (upd H a o) :=
  { ext_tup R hn with eL := fun b q => .inl q }
theorem Rel.tup (R : Rel K T φ H h) {a : Addr} {o : HO} (hn : H a = none) : Rel K T φ (upd H a o) h where
  len := R.len
  nd := R.nd
  oc := R.oc
  oi := R.oi
  on := fun n f b e => ⟨(R.on n f b e).1, upd_some (R.on n f b e).2⟩
  iL := fun b q => ⟨(R.iL b q).1, upd_some (R.iL b q).2⟩
  iS := fun b q => ⟨(R.iS b q).1, (R.iS b q).2.1, upd_some (R.iS b q).2.2⟩
  iM := fun b q => ⟨(R.iM b q).1, (R.iM b q).2.1, (R.iM b q).2.2.1, upd_some (R.iM b q).2.2.2⟩
  at_ := fun n b ob e1 e2 => by
    obtain ⟨u, q1, q2⟩ := R.at_ n b ob e1 e2
    refine ⟨u, by rw [upd_ne (ne_of_none q1 hn)]; exact q1, q2.monoV (ext_tup R hn).toExtS.ve fun f c e => ⟨e, upd_ne fun z => (R.on n f c e).2 (z ▸ hn)⟩⟩
theorem Rel.addL (R : Rel K T φ H h) {a : Addr} (f : Fresh φ a) (hs : H a ≠ none) : Rel K T (φ.addL a) H h where
  len := R.len
  nd := R.nd
  oc := R.oc
  oi := R.oi
  on := R.on
  iL := fun b q => q.elim (fun q => R.iL b q) fun q => by subst q; exact ⟨f.tr, hs⟩
  iS := fun b q => ⟨(R.iS b q).1, fun z => z.elim (R.iS b q).2.1 fun z => f.S (z ▸ q), (R.iS b q).2.2⟩
  iM := fun b q => ⟨(R.iM b q).1, fun z => z.elim (R.iM b q).2.1 fun z => f.M (z ▸ q), (R.iM b q).2.2⟩
  at_ := fun n b ob e1 e2 => by
    obtain ⟨u, q1, q2⟩ := R.at_ n b ob e1 e2
    exact ⟨u, q1, q2.monoV (show VExt φ H (φ.addL a) H from ⟨fun _ _ q => q, fun _ q => Or.inl q, fun _ _ q => q, fun _ _ => .refl⟩) fun f c e => ⟨e, rfl⟩⟩
theorem Rel.addM (R : Rel K T φ H h) {a : Addr} (f : Fresh φ a) (hs : H a ≠ none) : Rel K T (φ.addM a) H h where
  len := R.len
  nd := R.nd
  oc := R.oc
  oi := R.oi
  on := R.on
  iL := R.iL
  iS := R.iS
  iM := fun b q => q.elim (fun q => R.iM b q) fun q => by subst q; exact ⟨f.tr, f.L, f.S, hs⟩
  at_ := fun n b ob e1 e2 => by
    obtain ⟨u, q1, q2⟩ := R.at_ n b ob e1 e2
    exact ⟨u, q1, q2.monoV (show VExt φ H (φ.addM a) H from ⟨fun _ _ q => q, fun _ q => q, fun _ _ q => q, fun _ _ => .refl⟩) fun f c e => ⟨e, rfl⟩⟩
/-- S, M changed alone -/
theorem Rel.side (R : Rel K T φ H h) (ec : ψ.c = φ.c) (eo : ψ.o = φ.o) (eL : ψ.L = φ.L) (iS : ∀ a, ψ.S a → ¬ φ.tr a ∧ ¬ φ.L a ∧ H a ≠ none) (iM : ∀ a, ψ.M a → ¬ φ.tr a ∧ ¬ φ.L a ∧ ¬ ψ.S a ∧ H a ≠ none) (ew : ψ.w = φ.w := by rfl) : Rel K T ψ H h := by
  have et : ∀ a, ψ.tr a ↔ φ.tr a := fun a => by unfold Ix.tr; rw [ec, eo]
  refine ⟨by rw [ec]; exact R.len, by rw [ec]; exact R.nd, by rw [ec, eo]; exact R.oc, by rw [eo]; exact R.oi, by rw [ec, eo]; exact R.on, fun a q => by rw [et]; rw [eL] at q; exact R.iL a q, fun a q => by rw [et, eL]; exact iS a q, fun a q => by rw [et, eL]; exact iM a q, fun n b ob e1 e2 => ?_⟩
  rw [ec] at e1
  obtain ⟨u, q1, q2⟩ := R.at_ n b ob e1 e2
  exact ⟨u, q1, q2.monoV ⟨fun _ _ q => by rw [ec]; exact q, fun _ q => by rw [eL]; exact q, fun _ _ q => q, fun _ _ => .refl⟩ (fun f c e => ⟨by rw [eo]; exact e, rfl⟩) (fun g => by rw [ew])⟩
theorem Rel.new (R : Rel K T φ H h) {a : Addr} {ob : Ob} {o : HO} (hn : H a = none) (q : ROb K T (φ.push a) (upd H a o) h.length a ob o) : Rel K T (φ.push a) (upd H a o) (h ++ [ob]) := by
  have fr := R.fresh hn
  have tr : ∀ b, (φ.push a).tr b → φ.tr b ∨ b = a := fun b q => by
    rcases q with q | q
    · rcases List.mem_append.mp q with q | q
      · exact .inl (.inl q)
      · exact .inr (by simpa using q)
    · exact .inl (.inr q)
  refine ⟨by simp [Ix.push, R.len], ?_, ?_, R.oi, fun n f b e => ⟨by have := (R.on n f b e).1; simp [Ix.push]; omega, upd_some (R.on n f b e).2⟩, ?_, ?_, ?_, fun n b ob' e1 e2 => ?_⟩
  · show (φ.c ++ [a]).Nodup
    rw [List.nodup_append]
    refine ⟨R.nd, by simp, fun x hx y hy e => ?_⟩
    have : y = a := by simpa using hy
    subst this; subst e
    exact fr.tr (.inl hx)
  · intro n f b e hm
    rcases List.mem_append.mp hm with hm | hm
    · exact R.oc n f b e hm
    · have : b = a := by simpa using hm
      subst this
      exact fr.tr (.inr ⟨n, f, e⟩)
  · intro b q
    refine ⟨fun z => (tr b z).elim (R.iL b q).1 fun z => fr.L (z ▸ q), upd_some (R.iL b q).2⟩
  · intro b q
    refine ⟨fun z => (tr b z).elim (R.iS b q).1 fun z => fr.S (z ▸ q), (R.iS b q).2.1, upd_some (R.iS b q).2.2⟩
  · intro b q
    refine ⟨fun z => (tr b z).elim (R.iM b q).1 fun z => fr.M (z ▸ q), (R.iM b q).2.1, (R.iM b q).2.2.1, upd_some (R.iM b q).2.2.2⟩
  · have e1 : (φ.c ++ [a])[n]? = some b := e1
    by_cases hl : n < φ.c.length
    · rw [List.getElem?_append_left hl] at e1
      rw [List.getElem?_append_left (by rw [← R.len]; exact hl)] at e2
      obtain ⟨u, q1, q2⟩ := R.at_ n b ob' e1 e2
      refine ⟨u, by rw [upd_ne (ne_of_none q1 hn)]; exact q1, q2.monoV (ext_new R hn).toExtS.ve fun f c e => ⟨e, upd_ne fun z => (R.on n f c e).2 (z ▸ hn)⟩⟩
    · have hn2 : n = φ.c.length := by
        have := (List.getElem?_eq_some_iff.mp e1).1
        simp at this; omega
      subst hn2
      rw [List.getElem?_append_right (Nat.le_refl _)] at e1
      rw [List.getElem?_append_right (by rw [R.len]; exact Nat.le_refl _)] at e2
      simp at e1
      simp [R.len] at e2
      subst e1; subst e2
      exact ⟨o, upd_same, by rw [R.len]; exact q⟩
theorem Rel.new_ref (R : Rel K T φ H h) {a : Addr} {G : L2.Hp} : RV K T (φ.push a) G (.ref h.length) (.ref a) := ⟨a, by rw [← R.len]; simp [Ix.push], rfl⟩
def notTup : HO → Prop
  | .tup _ => False
  | .frz _ _ => False
  | _ => True
theorem RCo.nt {a : Addr} {c : Con} {u : HO} (q : RCo K T φ H a c u) : notTup u := by
  cases c <;> (obtain ⟨vs, rfl, _⟩ := q; trivial)
/-- a change at what is tracked -/
theorem ext_set (R : Rel K T φ H h) {a : Addr} {u o : HO} (ht : φ.tr a) (hu : H a = some u) (nt : notTup u) : Ext φ H φ (upd H a o) where
  pre := ⟨[], by simp⟩
  eS := rfl
  eL := fun _ q => q
  tup := fun b vs q => by
    rw [upd_ne]
    · exact q
    rintro rfl
    rw [hu] at q; cases q; exact nt
  keL := fun b q => .of (upd_ne fun e => (R.iL b q).1 (e ▸ ht))
  keS := fun b q => upd_ne fun e => (R.iS b q).1 (e ▸ ht)
  fz := fun b o v q => by
    rw [upd_ne]
    · exact q
    rintro rfl
    rw [hu] at q; cases q; exact nt.elim
  eM := rfl
  keM := fun b q => upd_ne fun e => (R.iM b q).1 (e ▸ ht)
theorem tr_of {n : Nat} {a : Addr} (e : φ.c[n]? = some a) : φ.tr a := .inl (List.mem_of_getElem? e)
theorem Rel.set (R : Rel K T φ H h) {n : Nat} {a : Addr} {ob : Ob} {u o : HO} (e : φ.c[n]? = some a) (hu : H a = some u) (nt : notTup u) (q : ROb K T φ (upd H a o) n a ob o) : Rel K T φ (upd H a o) (h.set n ob) := by
  have ex := ext_set (o := o) R (tr_of e) hu nt
  refine ⟨by simp [R.len], R.nd, R.oc, R.oi, fun n f b e => ⟨(R.on n f b e).1, upd_some (R.on n f b e).2⟩, fun b q => ⟨(R.iL b q).1, upd_some (R.iL b q).2⟩, fun b q => ⟨(R.iS b q).1, (R.iS b q).2.1, upd_some (R.iS b q).2.2⟩, fun b q => ⟨(R.iM b q).1, (R.iM b q).2.1, (R.iM b q).2.2.1, upd_some (R.iM b q).2.2.2⟩, fun m b ob' e1 e2 => ?_⟩
  by_cases hm : m = n
  · subst hm
    rw [e] at e1; cases e1
    have hl : m < h.length := by rw [← R.len]; exact (List.getElem?_eq_some_iff.mp e).1
    rw [List.getElem?_set_self hl] at e2
    cases e2
    exact ⟨o, upd_same, q⟩
  · rw [List.getElem?_set_ne (Ne.symm hm)] at e2
    obtain ⟨v, q1, q2⟩ := R.at_ m b ob' e1 e2
    have hne : b ≠ a := fun z => hm (by
      subst z
      obtain ⟨l1, g1⟩ := List.getElem?_eq_some_iff.mp e1
      obtain ⟨l2, g2⟩ := List.getElem?_eq_some_iff.mp e
      exact (List.getElem_inj R.nd).mp (g1.trans g2.symm))
    refine ⟨v, by rw [upd_ne hne]; exact q1, q2.monoV ex.toExtS.ve fun f c ec => ⟨ec, upd_ne fun z => R.oc m f c ec (z ▸ List.mem_of_getElem? e)⟩⟩
/-- a change at what a local owns -/
theorem exts_setM (R : Rel K T φ H h) {a : Addr} {u o : HO} (hm : φ.M a) (hu : H a = some u) (nt : notTup u) : ExtS φ H φ (upd H a o) where
  pre := ⟨[], by simp⟩
  eS := rfl
  eL := fun _ q => q
  tup := fun b vs q => by
    rw [upd_ne]
    · exact q
    rintro rfl
    rw [hu] at q; cases q; exact nt
  keL := fun b q => .of (upd_ne fun e => (R.iM a hm).2.1 (e ▸ q))
  keS := fun b q => upd_ne fun e => (R.iM a hm).2.2.1 (e ▸ q)
  fz := fun b o v q => by
    rw [upd_ne]
    · exact q
    rintro rfl
    rw [hu] at q; cases q; exact nt.elim
theorem Rel.setM (R : Rel K T φ H h) {a : Addr} {u o : HO} (hm : φ.M a) (hu : H a = some u) (nt : notTup u) : Rel K T φ (upd H a o) h := by
  refine ⟨R.len, R.nd, R.oc, R.oi, fun n f b e => ⟨(R.on n f b e).1, upd_some (R.on n f b e).2⟩, fun b q => ⟨(R.iL b q).1, upd_some (R.iL b q).2⟩, fun b q => ⟨(R.iS b q).1, (R.iS b q).2.1, upd_some (R.iS b q).2.2⟩, fun b q => ⟨(R.iM b q).1, (R.iM b q).2.1, (R.iM b q).2.2.1, upd_some (R.iM b q).2.2.2⟩, fun n b ob e1 e2 => ?_⟩
  obtain ⟨v, q1, q2⟩ := R.at_ n b ob e1 e2
  have nt' := (R.iM a hm).1
  refine ⟨v, by rw [upd_ne fun z => nt' (by rw [← z]; exact tr_of e1)]; exact q1, q2.monoV (exts_setM R hm hu nt).ve fun f c ec => ⟨ec, upd_ne fun z => nt' (by rw [← z]; exact .inr ⟨n, f, ec⟩)⟩⟩
/-! ### locks -/
theorem ct_upd {a b : Addr} {od : Obj} {u : HO} (hu : H a = some u) (nt : notTup u) : ct (upd H a (.frz od u)) b = ct H b := by
  by_cases e : b = a
  · subst e
    unfold ct
    rw [upd_same, hu]
    cases u <;> first | rfl | exact nt.elim
  · unfold ct; rw [upd_ne e]
theorem ve_lock {a : Addr} {od : Obj} {u : HO} (hu : H a = some u) (nt : notTup u) (ni : ∀ C dx fs, u ≠ .ins C dx fs) : VExt φ H φ (upd H a (.frz od u)) :=
  ⟨fun _ _ q => q, fun _ q => q, fun b vs q => by
    rw [upd_ne]
    · exact q
    rintro rfl
    rw [hu] at q; cases q; exact nt.elim, fun b _ => ⟨ct_upd hu nt, fun C dx fs q => by
    rw [upd_ne]
    · exact q
    rintro rfl
    rw [hu] at q; cases q; exact absurd rfl (ni _ _ _)⟩⟩
theorem ve_unlock {a : Addr} {od : Obj} {u : HO} (hu : H a = some (.frz od u)) (nt : notTup u) : VExt φ H φ (upd H a u) where
  get := fun _ _ q => q
  eL := fun _ q => q
  tup := fun b vs q => by
    rw [upd_ne]
    · exact q
    rintro rfl
    rw [hu] at q; cases q
  keL := fun b _ => by
    refine ⟨?_, fun C dx fs q => ?_⟩
    · by_cases e : b = a
      · subst e
        unfold ct
        rw [upd_same, hu]
        cases u <;> first | rfl | exact nt.elim
      · unfold ct; rw [upd_ne e]
    · rw [upd_ne]
      · exact q
      rintro rfl
      rw [hu] at q; cases q
/-- what never changes is locked, is unlocked -/
theorem Rel.setL (R : Rel K T φ H h) {a : Addr} {o : HO} (hL : φ.L a) (ve : VExt φ H φ (upd H a o)) : Rel K T φ (upd H a o) h := by
  refine ⟨R.len, R.nd, R.oc, R.oi, fun n f b e => ⟨(R.on n f b e).1, upd_some (R.on n f b e).2⟩, fun b q => ⟨(R.iL b q).1, upd_some (R.iL b q).2⟩, fun b q => ⟨(R.iS b q).1, (R.iS b q).2.1, upd_some (R.iS b q).2.2⟩, fun b q => ⟨(R.iM b q).1, (R.iM b q).2.1, (R.iM b q).2.2.1, upd_some (R.iM b q).2.2.2⟩, fun n b ob e1 e2 => ?_⟩
  obtain ⟨v, q1, q2⟩ := R.at_ n b ob e1 e2
  have nt' := (R.iL a hL).1
  exact ⟨v, by rw [upd_ne fun z => nt' (by rw [← z]; exact tr_of e1)]; exact q1, q2.monoV ve fun f c ec => ⟨ec, upd_ne fun z => nt' (by rw [← z]; exact .inr ⟨n, f, ec⟩)⟩⟩
theorem exts_lockL (R : Rel K T φ H h) {a : Addr} {od : Obj} {u : HO} (hL : φ.L a) (hu : H a = some u) (nt : notTup u) (ni : ∀ C dx fs, u ≠ .ins C dx fs) : ExtS φ H φ (upd H a (.frz od u)) where
  pre := ⟨[], by simp⟩
  eS := rfl
  eL := fun _ q => q
  tup := (ve_lock (φ := φ) hu nt ni).tup
  keL := (ve_lock (φ := φ) hu nt ni).keL
  keS := fun b q => upd_ne fun e => (R.iS b q).2.1 (e ▸ hL)
  fz := fun b o v q => by
    rw [upd_ne]
    · exact q
    rintro rfl
    rw [hu] at q; cases q; exact nt.elim
/-- from ahead of the lock to behind it -/
theorem ExtS.unlock {a : Addr} {od : Obj} {u : HO} (e : ExtS φ (upd H a (.frz od u)) ψ G) (hu : H a = some u) (nt : notTup u) (ni : ∀ C dx fs, u ≠ .ins C dx fs) (nS : ¬ φ.S a) : ExtS φ H ψ (upd G a u) := by
  have ga : G a = some (.frz od u) := e.fz a od u upd_same
  have v1 := ve_lock (φ := φ) (od := od) hu nt ni
  have v2 := ve_unlock (φ := ψ) ga nt
  refine { pre := e.pre, eS := e.eS, eL := e.eL, tup := fun b vs q => v2.tup b vs (e.tup b vs (v1.tup b vs q)), keL := fun b q => ((v1.keL b q).trans (e.keL b q)).trans (v2.keL b (e.eL b q)), keS := fun b q => ?_, fz := fun b o v q => ?_, eW := e.eW }
  · have hb : b ≠ a := fun z => nS (z ▸ q)
    rw [upd_ne hb, e.keS b q, upd_ne hb]
  · have hb : b ≠ a := fun z => by subst z; rw [hu] at q; cases q; exact nt.elim
    rw [upd_ne hb]
    exact e.fz b o v (by rw [upd_ne hb]; exact q)
end
end PyI
namespace PyI
open PySem PySem.Spec PyProof.Rows L2
/-! ### results -/
section
variable {α β γ δ : Type}
def okR (K : PySem.W.Frag) (T : Tab) (RR : Ix → L2.Hp → α → β → Prop) (φ : Ix) (H : L2.Hp) (Q : β → L2.Hp → Prop) (E : Nat → L2.Hp → Prop) : Res α → Prop
  | .ok v h => ∀ ψ G x, Ext φ H ψ G → Rel K T ψ G h → RR ψ G v x → Q x G
  | .exc c h => ∀ ψ G, Ext φ H ψ G → Rel K T ψ G h → E c G
  | .bad => False
variable {K : PySem.W.Frag} {T : Tab} {φ ψ : Ix} {H G : L2.Hp} {h : Mem} {RR : Ix → L2.Hp → α → β → Prop} {RR' : Ix → L2.Hp → γ → δ → Prop}
  {Q : β → L2.Hp → Prop} {E : Nat → L2.Hp → Prop}
theorem okR.ext {r : Res α} (o : okR K T RR φ H Q E r) (e : Ext φ H ψ G) : okR K T RR ψ G Q E r := by
  cases r with
  | ok v h => exact fun χ F x e2 R q => o χ F x (e.trans e2) R q
  | exc c h => exact fun χ F e2 R => o χ F (e.trans e2) R
  | bad => exact o
theorem okR.mono {r : Res α} {Q' : β → L2.Hp → Prop} (o : okR K T RR φ H Q E r) (m : ∀ x G, Q x G → Q' x G) : okR K T RR φ H Q' E r := by
  cases r with
  | ok v h => exact fun χ F x e2 R q => m _ _ (o χ F x e2 R q)
  | exc c h => exact o
  | bad => exact o
theorem okR.bind {r : Res γ} {f : γ → Mem → Res α} (o : okR K T RR φ H Q E (r.bind f)) :
    okR K T RR' φ H (fun x H1 => ∃ v ψ h1, Ext φ H ψ H1 ∧ Rel K T ψ H1 h1 ∧ RR' ψ H1 v x ∧ okR K T RR ψ H1 Q E (f v h1)) E r := by
  cases r with
  | ok v h => exact fun χ F x e2 R q => ⟨v, χ, h, e2, R, q, o.ext e2⟩
  | exc c h => exact o
  | bad => exact o
theorem okR.ok {v : α} {x : β} (o : okR K T RR φ H Q E (.ok v h)) (R : Rel K T φ H h) (q : RR φ H v x) : Q x H := o φ H x Ext.refl R q
theorem okR.pure {p : Option α} (o : okR K T RR φ H Q E (pure h p)) : ∃ v, p = some v ∧ okR K T RR φ H Q E (.ok v h) := by
  cases p with
  | none => exact o.elim
  | some v => exact ⟨v, rfl, o⟩
theorem okR.pbind {p : Option γ} {f : γ → Mem → Res α} (o : okR K T RR φ H Q E ((PyI.pure h p).bind f)) : ∃ v, p = some v ∧ okR K T RR φ H Q E (f v h) := by
  cases p with
  | none => exact o.elim
  | some v => exact ⟨v, rfl, o⟩
end
section
variable {α β : Type} {K : PySem.W.Frag} {T : Tab} {φ ψ : Ix} {H G : L2.Hp} {h : Mem} {Q : β → L2.Hp → Prop} {E : Nat → L2.Hp → Prop}
/-- the same result, otherwise told -/
theorem okR.map {α' β' : Type} {RR : Ix → L2.Hp → α → β → Prop} {RR' : Ix → L2.Hp → α' → β' → Prop} {Q' : β' → L2.Hp → Prop} {r : Res α} {f : α → α'} (o : okR K T RR' φ H Q' E (r.bind fun a h => .ok (f a) h)) (m : ∀ ψ G h1 v x, r = .ok v h1 → Ext φ H ψ G → Rel K T ψ G h1 → RR ψ G v x → okR K T RR' ψ G Q' E (.ok (f v) h1) → Q x G) : okR K T RR φ H Q E r := by
  cases r with
  | ok v h => exact fun ψ G x e R q => m ψ G h v x rfl e R q (o.ext e)
  | exc c h => exact o
  | bad => exact o
end
/-- what an expression of the small language reads -/
def tR {α β : Type} (K : PySem.W.Frag) (T : Tab) (W : WX) (RR : Ix → L2.Hp → α → β → Prop) (r : PyI.Fr → Mem → Res α) : L2.St → L2.Hp → (β → L2.Hp → Prop) → Prop := fun σ H Q =>
  ∃ φ h fr, Rel K T φ H h ∧ RFr K T φ H fr σ ∧ okR K T RR φ H Q (fun c G => W (T.exn c) none σ G) (r fr h)
def RB (_ : Ix) (_ : L2.Hp) (b c : Bool) : Prop := c = b
abbrev tV (K : PySem.W.Frag) (T : Tab) (W : WX) (r : PyI.Fr → Mem → Res Val) : TE := tR K T W (RV K T) r
abbrev tVs (K : PySem.W.Frag) (T : Tab) (W : WX) (r : PyI.Fr → Mem → Res (List Val)) : TA := tR K T W (RVs K T) r
abbrev tBl (K : PySem.W.Frag) (T : Tab) (W : WX) (r : PyI.Fr → Mem → Res Bool) : TT := tR K T W RB r
section
variable {X : Cx} {e : Expr} {es : List Expr} {t t' : TE} {u u' : TT} {a a' : TA} {s s' : TS} {st : Stmt} {sts : List Stmt}
theorem peI (p : PE X e t) (i : ∀ σ H Q, t' σ H Q → t σ H Q) : PE X e t' := ⟨fun pins s σ H Q I h => p.run pins s σ H Q I (i _ _ _ h)⟩
theorem ptI (p : PT X e u) (i : ∀ σ H Q, u' σ H Q → u σ H Q) : PT X e u' := ⟨fun pins s σ H Q I h => p.run pins s σ H Q I (i _ _ _ h)⟩
theorem pwI (p : PW X e u) (i : ∀ σ H Q, u' σ H Q → u σ H Q) : PW X e u' := ⟨fun wh pins s σ H Q I h => p.run wh pins s σ H Q I (i _ _ _ h)⟩
theorem paI (p : PA X es a) (i : ∀ σ H Q, a' σ H Q → a σ H Q) : PA X es a' := ⟨fun pos pins s σ H Q I h => p.run pos pins s σ H Q I (i _ _ _ h)⟩
theorem peAny {ι : Type} {t : ι → TE} (p : ∀ i, PE X e (t i)) : PE X e (fun σ H Q => ∃ i, t i σ H Q) := ⟨fun pins s σ H Q I ⟨i, h⟩ => (p i).run pins s σ H Q I h⟩
theorem psI (p : PS X st s) (i : ∀ D σ H, s' D σ H → s D σ H) : PS X st s' := ⟨fun pins s σ H Q I h => p.run pins s σ H Q I (i _ _ _ h)⟩
theorem pssI (p : PSs X sts s) (i : ∀ D σ H, s' D σ H → s D σ H) : PSs X sts s' := ⟨fun pins s σ H Q I h => p.run pins s σ H Q I (i _ _ _ h)⟩
end
section
variable {α β γ δ ε ζ : Type} {K : PySem.W.Frag} {T : Tab} {W : WX} {RR : Ix → L2.Hp → α → β → Prop} {R1 : Ix → L2.Hp → γ → δ → Prop} {R2' : Ix → L2.Hp → ε → ζ → Prop}
theorem tR.mono {r : PyI.Fr → Mem → Res α} {σ : L2.St} {H : L2.Hp} {Q Q' : β → L2.Hp → Prop} (o : tR K T W RR r σ H Q) (m : ∀ x G, Q x G → Q' x G) : tR K T W RR r σ H Q' :=
  let ⟨φ, h, fr, R, F, o⟩ := o
  ⟨φ, h, fr, R, F, o.mono m⟩
/-- one part, then the rest -/
theorem tR.bind1 {r : PyI.Fr → Mem → Res γ} {f : PyI.Fr → γ → Mem → Res α} {σ : L2.St} {H : L2.Hp} {Q : β → L2.Hp → Prop} (o : tR K T W RR (fun fr h => (r fr h).bind (f fr)) σ H Q) :
    tR K T W R1 r σ H fun x H1 => ∃ v φ h1 fr, Rel K T φ H1 h1 ∧ RFr K T φ H1 fr σ ∧ R1 φ H1 v x ∧ okR K T RR φ H1 Q (fun c G => W (T.exn c) none σ G) (f fr v h1) := by
  obtain ⟨φ, h, fr, R, F, o⟩ := o
  exact ⟨φ, h, fr, R, F, o.bind.mono fun x G ⟨v, ψ, h1, e, R', q, o'⟩ => ⟨v, ψ, h1, fr, R', F.mono e, q, o'⟩⟩
/-- two parts, then the rest; the first one's relation stays -/
theorem tR.bind2 {r : PyI.Fr → Mem → Res γ} {r2 : PyI.Fr → Mem → Res ε} {f : PyI.Fr → γ → ε → Mem → Res α} {σ : L2.St} {H : L2.Hp} {Q : β → L2.Hp → Prop}
    (m : ∀ φ H ψ G v x, Ext φ H ψ G → R1 φ H v x → R1 ψ G v x)
    (o : tR K T W RR (fun fr h => (r fr h).bind fun v h1 => (r2 fr h1).bind fun u h2 => f fr v u h2) σ H Q) :
    tR K T W R1 r σ H fun x H1 => tR K T W R2' r2 σ H1 fun y H2 => ∃ v u φ h2 fr, Rel K T φ H2 h2 ∧ RFr K T φ H2 fr σ ∧ R1 φ H2 v x ∧ R2' φ H2 u y ∧ okR K T RR φ H2 Q (fun c G => W (T.exn c) none σ G) (f fr v u h2) := by
  obtain ⟨φ, h, fr, R, F, o⟩ := o
  refine ⟨φ, h, fr, R, F, o.bind.mono fun x G ⟨v, ψ, h1, e, R', q, o'⟩ => ⟨ψ, h1, fr, R', F.mono e, o'.bind.mono fun y G2 ⟨u, χ, h2, e2, R2, q2, o2⟩ => ⟨v, u, χ, h2, fr, R2, (F.mono e).mono e2, m _ _ _ _ _ _ e2 q, q2, o2⟩⟩⟩
theorem rvmono : ∀ (φ : Ix) (H : L2.Hp) (ψ : Ix) (G : L2.Hp) (v : Val) (x : V), Ext φ H ψ G → RV K T φ H v x → RV K T ψ G v x := fun _ _ _ _ v x e q => q.mono e v x
theorem rvsmono : ∀ (φ : Ix) (H : L2.Hp) (ψ : Ix) (G : L2.Hp) (v : List Val) (x : List V), Ext φ H ψ G → RVs K T φ H v x → RVs K T ψ G v x := fun _ _ _ _ v x e q => q.mono e v x
end
/-! ### data -/
def dat (h : Mem) : Nat → Val → PyData
  | 0, _ => .none
  | n + 1, v => match v with
    | .non => .none
    | .bl b => .bool b
    | .int i => .int i
    | .str s => .str (toStr s)
    | .tup xs => .tuple (xs.map (dat h n))
    | .lst xs => .list (xs.map (dat h n))
    | .ref a => match lsN h a with
      | some xs => .list (xs.map (dat h n))
      | none => .none
    | _ => .none
section
variable {K : PySem.W.Frag} {T : Tab} {φ : Ix} {H : L2.Hp} {h : Mem}
theorem dps {n : Nat} (ih : ∀ v x, isD h n v = true → RV K T φ H v x → Dp K H x (dat h n v)) : ∀ {vs : List Val} {xs : List V}, vs.all (isD h n) = true → RVs K T φ H vs xs → DpAll K H xs (vs.map (dat h n))
  | [], _, _, q => by rw [show _ = [] from q]; exact .nil
  | v :: vs, _, d, q => by
    obtain ⟨x, r, rfl, q1, q2⟩ := q
    simp only [List.all_cons, Bool.and_eq_true] at d
    exact .cons (ih v x d.1 q1) (dps ih d.2 q2)
theorem dp_of (R : Rel K T φ H h) : ∀ (n : Nat) (v : Val) (x : V), isD h n v = true → RV K T φ H v x → Dp K H x (dat h n v)
  | 0, _, _, d, _ => by simp [isD] at d
  | n + 1, v, x, d, q => by
    cases v with
    | non => rw [show x = _ from q]; exact .non
    | bl b => rw [show x = _ from q]; exact .bl b
    | int i => rw [show x = _ from q]; exact .int i
    | str s => rw [show x = _ from q]; exact .str _
    | tup xs =>
      obtain ⟨a, vs, rfl, q1, q2⟩ := q
      exact .tup (.of q1) (dps (dp_of R n) (by simpa [isD] using d) q2)
    | lst xs =>
      obtain ⟨a, vs, rfl, q1, q2⟩ := q
      exact .lst q1.sq (dps (dp_of R n) (by simpa [isD] using d) q2)
    | ref a =>
      cases hl : lsN h a with
      | none => simp [isD, hl] at d
      | some xs =>
        obtain ⟨a', vs, rfl, _, q1, q2⟩ := R.lsN q hl
        have d' : xs.all (isD h n) = true := by simpa [isD, hl] using d
        show Dp K H (.ref a') (match lsN h a with | some xs => .list (xs.map (dat h n)) | none => .none)
        rw [hl]
        exact .lst (.of q1) (dps (dp_of R n) d' q2)
    | fn f => simp [isD] at d
    | dik f => simp [isD] at d
    | ins f => simp [isD] at d
    | ktp f => simp [isD] at d
    | kdk f => simp [isD] at d
    | kls f => simp [isD] at d
theorem eqvAll_map {f : Val → PyData} {g : Val → Val → Bool} : ∀ (xs ys : List Val), (∀ x y, x ∈ xs → y ∈ ys → PyData.eqv (f x) (f y) = g x y) → PyData.eqvAll (xs.map f) (ys.map f) = eqs g xs ys
  | [], [], _ => by simp [PyData.eqvAll, eqs]
  | [], _ :: _, _ => by simp [PyData.eqvAll, eqs]
  | _ :: _, [], _ => by simp [PyData.eqvAll, eqs]
  | x :: xs, y :: ys, q => by
    simp only [List.map_cons, PyData.eqvAll, eqs]
    rw [q x y (by simp) (by simp), eqvAll_map xs ys fun a b ha hb => q a b (by simp [ha]) (by simp [hb])]
theorem toStr_beq (x y : Txt) : (toStr x == toStr y) = (x == y) := by
  rw [show (toStr x == toStr y) = decide (toStr x = toStr y) from rfl, toStr_dec]
  by_cases h : x = y
  · subst h; simp
  · simp [h]
theorem eqv_dat : ∀ (n : Nat) (v w : Val), isD h n v = true → isD h n w = true → PyData.eqv (dat h n v) (dat h n w) = eqB h n v w
  | 0, _, _, d, _ => by simp [isD] at d
  | n + 1, v, u, d, d2 => by
    have all : ∀ xs ys : List Val, xs.all (isD h n) = true → ys.all (isD h n) = true → PyData.eqvAll (xs.map (dat h n)) (ys.map (dat h n)) = eqs (eqB h n) xs ys := fun xs ys a b =>
      eqvAll_map xs ys fun x y hx hy => eqv_dat n x y (List.all_eq_true.mp a x hx) (List.all_eq_true.mp b y hy)
    have sq : ∀ {b : Nat}, isD h (n + 1) (.ref b) = true → ∃ ys, lsN h b = some ys ∧ ys.all (isD h n) = true := fun {b} d => by
      cases hm : lsN h b with
      | none => simp [isD, hm] at d
      | some ys => exact ⟨ys, rfl, by simpa [isD, hm] using d⟩
    cases v with
    | ref a =>
      obtain ⟨xs, hl, dx⟩ := sq d
      cases u with
      | ref b =>
        obtain ⟨ys, hm, dy⟩ := sq d2
        simp only [dat, eqB, hl, hm, PyData.eqv]
        exact all xs ys dx dy
      | lst ys =>
        simp only [dat, eqB, hl, PyData.eqv]
        exact all xs ys dx (by simpa [isD] using d2)
      | fn f => simp [isD] at d2
      | dik f => simp [isD] at d2
      | ins f => simp [isD] at d2
      | ktp f => simp [isD] at d2
      | kdk f => simp [isD] at d2
      | kls f => simp [isD] at d2
      | _ => simp [dat, eqB, hl, PyData.eqv]
    | fn f => simp [isD] at d
    | dik f => simp [isD] at d
    | ins f => simp [isD] at d
    | ktp f => simp [isD] at d
    | kdk f => simp [isD] at d
    | kls f => simp [isD] at d
    | lst xs =>
      have dx : xs.all (isD h n) = true := by simpa [isD] using d
      cases u with
      | ref b =>
        obtain ⟨ys, hm, dy⟩ := sq d2
        simp only [dat, eqB, hm, PyData.eqv]
        exact all xs ys dx dy
      | lst ys =>
        simp only [dat, eqB, PyData.eqv]
        exact all xs ys dx (by simpa [isD] using d2)
      | fn f => simp [isD] at d2
      | dik f => simp [isD] at d2
      | ins f => simp [isD] at d2
      | ktp f => simp [isD] at d2
      | kdk f => simp [isD] at d2
      | kls f => simp [isD] at d2
      | _ => simp [dat, eqB, PyData.eqv]
    | tup xs =>
      have dx : xs.all (isD h n) = true := by simpa [isD] using d
      cases u with
      | ref b =>
        obtain ⟨ys, hm, dy⟩ := sq d2
        simp [dat, eqB, hm, PyData.eqv]
      | fn f => simp [isD] at d2
      | dik f => simp [isD] at d2
      | ins f => simp [isD] at d2
      | ktp f => simp [isD] at d2
      | kdk f => simp [isD] at d2
      | kls f => simp [isD] at d2
      | tup ys =>
        simp only [dat, eqB, PyData.eqv]
        exact all xs ys dx (by simpa [isD] using d2)
      | _ => simp [dat, eqB, PyData.eqv]
    | _ =>
      cases u with
      | ref b =>
        obtain ⟨ys, hm, dy⟩ := sq d2
        simp [dat, eqB, hm, PyData.eqv]
      | fn f => simp [isD] at d2
      | dik f => simp [isD] at d2
      | ins f => simp [isD] at d2
      | ktp f => simp [isD] at d2
      | kdk f => simp [isD] at d2
      | kls f => simp [isD] at d2
      | _ => simp [dat, eqB, PyData.eqv, b2i, toStr_beq]
theorem strOk_toStr (x : Txt) : PyData.strOk (toStr x) = true := by
  unfold PyData.strOk toStr
  rw [← Array.all_toList]
  simp only [List.all_eq_true, List.mem_map, forall_exists_index, and_imp, forall_apply_eq_imp_iff₂, decide_eq_true_eq]
  intro c _
  have := c.valid
  unfold UInt32.isValidChar Nat.isValidChar at this
  show c.val.toNat < _
  omega
theorem canLayAll_map {f : Val → PyData} : ∀ (xs : List Val), (∀ x ∈ xs, (f x).canLay0 = true) → PyData.canLayAll0 (xs.map f) = true
  | [], _ => by simp [PyData.canLayAll0]
  | x :: xs, q => by simp only [List.map_cons, PyData.canLayAll0, q x (by simp), canLayAll_map xs fun y hy => q y (by simp [hy]), Bool.and_self]
theorem depthAll_map {f : Val → PyData} {m : Nat} : ∀ (xs : List Val), (∀ x ∈ xs, (f x).depth ≤ m) → PyData.depthAll (xs.map f) ≤ m
  | [], _ => by simp [PyData.depthAll]
  | x :: xs, q => by
    have h1 := q x (by simp)
    have h2 := depthAll_map xs fun y hy => q y (by simp [hy])
    simp only [List.map_cons, PyData.depthAll]
    omega
theorem canLay_dat : ∀ (n : Nat) (v : Val), (dat h n v).canLay0 = true
  | 0, v => by simp [dat, PyData.canLay0]
  | n + 1, v => by
    cases v with
    | str s => simpa [dat, PyData.canLay0] using strOk_toStr s
    | tup xs => simpa [dat, PyData.canLay0] using canLayAll_map xs fun x _ => canLay_dat n x
    | lst xs => simpa [dat, PyData.canLay0] using canLayAll_map xs fun x _ => canLay_dat n x
    | ref a =>
      cases hl : lsN h a with
      | none => simp [dat, hl, PyData.canLay0]
      | some xs => simpa [dat, hl, PyData.canLay0] using canLayAll_map xs fun x _ => canLay_dat n x
    | _ => simp [dat, PyData.canLay0]
theorem depth_dat : ∀ (n : Nat) (v : Val), (dat h n v).depth ≤ n
  | 0, v => by simp [dat, PyData.depth]
  | n + 1, v => by
    cases v with
    | tup xs => simpa [dat, PyData.depth] using depthAll_map xs fun x _ => depth_dat n x
    | lst xs => simpa [dat, PyData.depth] using depthAll_map xs fun x _ => depth_dat n x
    | ref a =>
      cases hl : lsN h a with
      | none => simp [dat, hl, PyData.depth]
      | some xs => simpa [dat, hl, PyData.depth] using depthAll_map xs fun x _ => depth_dat n x
    | _ => simp [dat, PyData.depth]
theorem shaped_dat {n : Nat} (hn : n ≤ 64) (v : Val) : SeqAt.shaped (dat h n v) = true := by
  unfold SeqAt.shaped
  rw [canLay_dat, Bool.true_and]
  exact decide_eq_true (Nat.le_trans (depth_dat n v) hn)
end
end PyI
namespace PyI
open PySem PySem.Spec PyProof.Rows L2
section
variable {K : PySem.W.Frag} {T : Tab} {φ : Ix} {H : L2.Hp} {h : Mem}
/-! ### places in lists -/
theorem nth_eq {α : Type} (xs : List α) (i : Int) : L2.atI xs i = nth xs i := by
  unfold L2.atI L2.ixN nth
  by_cases h0 : 0 ≤ i
  · rw [if_pos h0, if_pos h0]
    by_cases h1 : i < xs.length
    · rw [if_pos h1]; rfl
    · rw [if_neg h1]
      exact (List.getElem?_eq_none (by omega)).symm
  · rw [if_neg h0, if_neg h0]
    by_cases h1 : -(xs.length : Int) ≤ i
    · rw [if_pos h1, if_pos h1]; rfl
    · rw [if_neg h1, if_neg h1]; rfl
theorem ixOf_eq (n : Nat) (i : Int) : L2.ixN n i = ixOf n i := rfl
theorem RVs.nth {vs : List Val} {xs : List V} {i : Int} {v : Val} (q : RVs K T φ H vs xs) (e : nth vs i = some v) : ∃ x, L2.atI xs i = some x ∧ RV K T φ H v x := by
  rw [nth_eq]
  unfold PyI.nth at e ⊢
  rw [q.length]
  split at e
  · rename_i h0; rw [if_pos h0]; exact q.get e
  · rename_i h0
    rw [if_neg h0]
    split at e
    · rename_i h1; rw [if_pos h1]; exact q.get e
    · cases e
theorem sIx_eq (n d : Nat) (o : Option Int) : HT.sIx n d o = sIx n d o := by cases o <;> rfl
theorem RVs.cut {vs : List Val} {xs : List V} (lo hi : Option Int) (q : RVs K T φ H vs xs) : RVs K T φ H (cut vs lo hi) (cutV xs lo hi) := by
  unfold PyI.cut cutV
  rw [sIx_eq, sIx_eq, q.length]
  exact (q.drop _).take _
theorem cut_whole {α : Type} (xs : List α) (lo hi : Option Int) (h1 : sIx xs.length 0 lo = 0) (h2 : sIx xs.length xs.length hi = xs.length) : cut xs lo hi = xs := by
  unfold cut
  rw [h1, h2]; simp
/-! ### keys -/
theorem keyOf_V {v : Val} {k : PyI.Key} {x : V} (e : keyOf v = some k) (q : RV K T φ H v x) : x = kV (kT k) := by
  cases v <;> simp only [keyOf, Option.some.injEq, reduceCtorEq] at e <;> subst e <;> exact q
theorem keys_V : ∀ {vs : List Val} {ks : List PyI.Key} {xs : List V}, vs.mapM keyOf = some ks → RVs K T φ H vs xs → xs = (ks.map kT).map kV
  | [], ks, xs, e, q => by
    simp at e; subst e; rw [show xs = [] from q]; rfl
  | v :: vs, ks, xs, e, q => by
    obtain ⟨x, r, rfl, q1, q2⟩ := q
    cases hk : keyOf v with
    | none => simp [hk] at e
    | some k =>
      cases hm : vs.mapM keyOf with
      | none => simp [hk, hm] at e
      | some ms =>
        simp [hk, hm] at e; subst e
        rw [keyOf_V hk q1, keys_V hm q2]; rfl
theorem keysOf_V {v : Val} {ks : List PyI.Key} {x : V} (e : keysOf v = some ks) (q : RV K T φ H v x) : ∃ b, x = .ref b ∧ H b = some (.tup ((ks.map kT).map kV)) := by
  cases v <;> simp only [keysOf, reduceCtorEq] at e
  obtain ⟨a, vs, rfl, q1, q2⟩ := q
  rw [keys_V e q2] at q1
  exact ⟨a, rfl, q1⟩
section
variable {κ κ' : Type} [DecidableEq κ] [DecidableEq κ'] {k : κ → κ'} (inj : ∀ a b, k a = k b → a = b)
include inj
theorem RKs.val {kvs : List (κ × Val)} : ∀ {ks : List (κ' × V)} {y : κ}, RKs K T k φ H kvs ks → (∀ v, kget kvs y = some v → ∃ x, valV ks (k y) = some x ∧ RV K T φ H v x) ∧ (kget kvs y = none → valV ks (k y) = none) := by
  induction kvs with
  | nil => intro ks y q; rw [show ks = [] from q]; exact ⟨fun v e => by simp [kget] at e, fun _ => rfl⟩
  | cons p r ih =>
    intro ks y q
    obtain ⟨x, s, rfl, q1, q2⟩ := q
    by_cases e : p.1 = y
    · subst e
      have e1 : kget (p :: r) p.1 = some p.2 := by simp [kget]
      rw [e1, valV_pos (p := (k p.1, x)) rfl]
      exact ⟨fun v z => by cases z; exact ⟨x, rfl, q1⟩, fun z => by cases z⟩
    · have e1 : kget (p :: r) y = kget r y := by simp [kget, List.find?_cons, e]
      rw [e1, valV_neg (p := (k p.1, x)) fun z => e (inj _ _ z)]
      exact ih q2
theorem RKs.any {kvs : List (κ × Val)} : ∀ {ks : List (κ' × V)} {y : κ}, RKs K T k φ H kvs ks → (ks.any fun kv => decide (kv.1 = k y)) = (kvs.any fun kv => decide (kv.1 = y)) := by
  induction kvs with
  | nil => intro ks y q; rw [show ks = [] from q]; rfl
  | cons p r ih =>
    intro ks y q
    obtain ⟨x, s, rfl, q1, q2⟩ := q
    rw [List.any_cons, List.any_cons, ih q2]
    by_cases e : p.1 = y
    · subst e; simp
    · rw [decide_eq_false e, decide_eq_false fun z => e (inj _ _ z)]
theorem RKs.map_put {kvs : List (κ × Val)} {v : Val} {x : V} (qv : RV K T φ H v x) : ∀ {ks : List (κ' × V)} {y : κ}, RKs K T k φ H kvs ks →
    RKs K T k φ H (kvs.map fun kv => if kv.1 = y then (kv.1, v) else kv) (ks.map fun kv => if kv.1 = k y then (kv.1, x) else kv) := by
  induction kvs with
  | nil => intro ks y q; rw [show ks = [] from q]; rfl
  | cons p r ih =>
    intro ks y q
    obtain ⟨z, s, rfl, q1, q2⟩ := q
    rw [List.map_cons, List.map_cons]
    by_cases e : p.1 = y
    · subst e
      rw [if_pos rfl, if_pos rfl]
      exact ⟨x, _, rfl, qv, ih q2⟩
    · rw [if_neg e, if_neg (fun z => e (inj _ _ z))]
      exact ⟨z, _, rfl, q1, ih q2⟩
theorem RKs.put {kvs : List (κ × Val)} {v : Val} {x : V} (qv : RV K T φ H v x) {ks : List (κ' × V)} {y : κ} (q : RKs K T k φ H kvs ks) : RKs K T k φ H (kput kvs y v) (putK ks (k y) x) := by
  unfold kput putK
  rw [RKs.any inj q]
  split
  · exact RKs.map_put inj qv q
  · clear inj
    induction kvs generalizing ks with
    | nil => rw [show ks = [] from q]; exact ⟨x, [], rfl, qv, rfl⟩
    | cons p r ih =>
      obtain ⟨z, s, rfl, q1, q2⟩ := q
      rename_i hh
      exact ⟨z, _, rfl, q1, ih q2 (by simp only [List.any_cons, Bool.or_eq_true, not_or] at hh; exact hh.2)⟩
theorem RKs.dropK {kvs : List (κ × Val)} : ∀ {ks : List (κ' × V)} {y : κ}, RKs K T k φ H kvs ks → RKs K T k φ H (kdrop kvs y) (L2.dropK ks (k y)) := by
  induction kvs with
  | nil => intro ks y q; rw [show ks = [] from q]; rfl
  | cons p r ih =>
    intro ks y q
    obtain ⟨z, s, rfl, q1, q2⟩ := q
    unfold kdrop L2.dropK
    by_cases e : p.1 = y
    · subst e
      rw [List.filter_cons_of_neg (by simp), List.filter_cons_of_neg (by simp)]
      exact ih q2
    · rw [List.filter_cons_of_pos (by simpa using e), List.filter_cons_of_pos (by simpa using fun z => e (inj _ _ z))]
      exact ⟨z, _, rfl, q1, ih q2⟩
end
theorem kTi (a b : PyI.Key) (h : kT a = kT b) : a = b := kT_inj h
theorem kTsi (a b : List PyI.Key) (h : a.map kT = b.map kT) : a = b := map_kT_inj h
/-- a list, not one of the text's top -/
theorem Rel.lsR (R : Rel K T φ H h) {v : Val} {xs : List Val} {x : V} (r : RV K T φ H v x) (e : PyI.lsA h v = some xs) : ∃ a vs, x = .ref a ∧ Rd H a (.lst vs) ∧ RVs K T φ H xs vs := by
  cases v <;> simp only [PyI.lsA, reduceCtorEq] at e
  · obtain ⟨a, vs, rfl, _, q1, q2⟩ := R.lsN r e
    exact ⟨a, vs, rfl, .of q1, q2⟩
  · cases e
    obtain ⟨a, vs, rfl, q1, q2⟩ := r
    exact ⟨a, vs, rfl, ct_lst q1.2, q2⟩
/-! ### what a container reads -/
/-- container c stands at a, to be read -/
def CAt (K : PySem.W.Frag) (T : Tab) (φ : Ix) (H : L2.Hp) (c : Con) (a : Addr) : Prop := ∃ u, Rd H a u ∧ RCo K T φ H a c u ∧ (isSet c = true → H a = some u)
theorem CAt.of {c : Con} {a : Addr} {u : HO} (e : H a = some u) (q : RCo K T φ H a c u) : CAt K T φ H c a := ⟨u, .inl e, q, fun _ => e⟩
theorem CAt.sq {xs : List Val} {a : Addr} (q : CAt K T φ H (.lst xs) a) : ∃ vs, SqL K H a vs ∧ RVs K T φ H xs vs := by
  obtain ⟨u, r, ⟨vs, rfl, q⟩, _⟩ := q
  exact ⟨vs, .inl r, q⟩
theorem CAt.dk {kvs : List (PyI.Key × Val)} {a : Addr} (q : CAt K T φ H (.dik kvs) a) : ∃ ks, Rd H a (.dK ks) ∧ RKs K T kT φ H kvs ks := by
  obtain ⟨u, r, ⟨vs, rfl, q⟩, _⟩ := q
  exact ⟨vs, r, q⟩
theorem Rel.conV (R : Rel K T φ H h) {v : Val} {c : Con} {x : V} (r : RV K T φ H v x) (e : conV h v = some c) : ∃ a, x = .ref a ∧ CAt K T φ H c a := by
  cases v <;> simp only [PyI.conV, reduceCtorEq] at e
  · obtain ⟨o, e1, e2⟩ := Option.bind_eq_some_iff.mp e
    obtain ⟨a, u, rfl, e3, q1, q2⟩ := R.ref r e1
    cases o with
    | con c' => cases e2; exact ⟨a, rfl, .of q1 q2⟩
    | lck c' =>
      obtain ⟨ob, v, rfl, q2⟩ := q2
      cases c' <;> cases e2 <;> exact ⟨a, rfl, v, .inr ⟨ob, q1⟩, q2, fun z => by cases z⟩
    | ins d fs => cases e2
  · cases e
    obtain ⟨a, vs, rfl, q1, q2⟩ := r
    exact ⟨a, rfl, _, ct_lst q1.2, ⟨vs, rfl, q2⟩, fun z => by cases z⟩
  · cases e
    obtain ⟨a, ks, rfl, q1, q2⟩ := r
    exact ⟨a, rfl, _, ct_dK q1.2, ⟨ks, rfl, RKl_iff.mp q2⟩, fun z => by cases z⟩
/-- what d[k] reads -/
theorem CAt.get {c : Con} {a : Addr} (q : CAt K T φ H c a) {k : Val} {y : V} (ry : RV K T φ H k y) {o : Option Val} (e : cget c k = some o) :
    ∃ p, DGet H a y p ∧ (∀ v, o = some v → ∃ z, p = some z ∧ RV K T φ H v z) ∧ (o = none → p = none) := by
  obtain ⟨u, r, q, _⟩ := q
  cases c <;> simp only [cget, reduceCtorEq] at e
  · rename_i kvs
    obtain ⟨k', hk, rfl⟩ := Option.map_eq_some_iff.mp e
    obtain ⟨ks, rfl, q⟩ := q
    have := RKs.val (y := k') kTi q
    exact ⟨_, .inl ⟨ks, kT k', r, keyOf_V hk ry, rfl⟩, this.1, this.2⟩
  · rename_i kvs
    obtain ⟨k', hk, rfl⟩ := Option.map_eq_some_iff.mp e
    obtain ⟨ks, rfl, q⟩ := q
    have := RKs.val (y := k') kTsi q
    obtain ⟨b, rfl, hb⟩ := keysOf_V hk ry
    exact ⟨_, .inr ⟨ks, k'.map kT, b, r, rfl, hb, rfl⟩, this.1, this.2⟩
theorem Rel.dik (R : Rel K T φ H h) {n : Nat} {kvs : List (PyI.Key × Val)} {x : V} (r : RV K T φ H (.ref n) x) (e : h[n]? = some (.con (.dik kvs))) : ∃ a ks, x = .ref a ∧ φ.c[n]? = some a ∧ H a = some (.dK ks) ∧ RKs K T kT φ H kvs ks := by
  obtain ⟨a, u, rfl, e1, q1, ks, rfl, q2⟩ := R.ref r e
  exact ⟨a, ks, rfl, e1, q1, q2⟩
theorem Rel.dit (R : Rel K T φ H h) {n : Nat} {kvs : List (List PyI.Key × Val)} {x : V} (r : RV K T φ H (.ref n) x) (e : h[n]? = some (.con (.dit kvs))) : ∃ a ks, x = .ref a ∧ φ.c[n]? = some a ∧ H a = some (.dT ks) ∧ RKs K T (List.map kT) φ H kvs ks := by
  obtain ⟨a, u, rfl, e1, q1, ks, rfl, q2⟩ := R.ref r e
  exact ⟨a, ks, rfl, e1, q1, q2⟩
/-- a dict of the top -/
theorem RDl.val {kvs : List (PyI.Key × Val)} : ∀ {a : Addr} {s : Txt} {v : Val}, RDl K T φ H a kvs → kget kvs (.inr s) = some v → ∃ y, KDct K T.w a (toStr s) y ∧ RV K T φ H v y := by
  induction kvs with
  | nil => intro a s v _ e; simp [kget] at e
  | cons p r ih =>
    intro a s v q e
    obtain ⟨k, w⟩ := p
    obtain ⟨⟨t, y, e1, q1, q2⟩, q3⟩ := q
    subst e1
    by_cases ht : t = s
    · subst ht
      have : w = v := by simpa [kget] using e
      subst this
      exact ⟨y, q1, q2⟩
    · exact ih q3 (by simpa [kget, List.find?_cons, ht] using e)
end
/-! ### operators -/
/-- two values, an operation -/
def rV2 (K : PySem.W.Frag) (T : Tab) (f : Val → Val → Mem → Res Val) : R2 := fun x y H Q =>
  ∃ E v u φ h, Rel K T φ H h ∧ RV K T φ H v x ∧ RV K T φ H u y ∧ okR K T (RV K T) φ H Q E (f v u h)
section
variable {X : Cx} {T : Tab} {φ : Ix} {H : L2.Hp} {h : Mem} {Q : VK} {E : Nat → L2.Hp → Prop}
/-- a new object's answer -/
theorem okR.new {ob : Ob} {o : HO} {K : PySem.W.Frag} (q : okR K T (RV K T) φ H Q E (PyI.new h ob)) (R : Rel K T φ H h) (ro : ∀ ψ G n a, Ext φ H ψ G → ROb K T ψ G n a ob o) : ∀ p, H p = none → Q (.ref p) (upd H p o) := fun p hp =>
  q (φ.push p) (upd H p o) (.ref p) (ext_new R hp) (R.new hp (ro _ _ _ _ (ext_new R hp))) R.new_ref
theorem okR.newT {vs : List Val} {xs : List V} {K : PySem.W.Frag} (q : okR K T (RV K T) φ H Q E (.ok (.tup vs) h)) (R : Rel K T φ H h) (r : RVs K T φ H vs xs) : ∀ p, H p = none → Q (.ref p) (upd H p (.tup xs)) := fun p hp =>
  q φ (upd H p (.tup xs)) (.ref p) (ext_tup R hp) (R.tup hp) ⟨p, xs, rfl, upd_same, r.mono (ext_tup R hp) _ _⟩
/-- a new container -/
def RA (K : PySem.W.Frag) (T : Tab) (φ : Ix) (H : L2.Hp) (c : Con) (x : V) : Prop := ∃ a u, x = .ref a ∧ Fresh φ a ∧ H a = some u ∧ RCo K T φ H a c u
theorem fresh_mono {K : PySem.W.Frag} (R : Rel K T φ H h) {a : Addr} (hn : H a = none) : Fresh φ a := R.fresh hn
theorem okR.newA {c : Con} {K : PySem.W.Frag} (q : okR K T (RA K T) φ H Q E (.ok c h)) (R : Rel K T φ H h) {o : L2.Hp → Addr → HO} (ro : ∀ p, H p = none → RCo K T φ (upd H p (o H p)) p c (o H p)) : ∀ p, H p = none → Q (.ref p) (upd H p (o H p)) := fun p hp =>
  q φ (upd H p (o H p)) (.ref p) (ext_tup R hp) (R.tup hp) ⟨p, o H p, rfl, R.fresh hp, upd_same, ro p hp⟩
theorem okR.newL {vs : List Val} {xs : List V} {K : PySem.W.Frag} (q : okR K T (RA K T) φ H Q E (.ok (.lst vs) h)) (R : Rel K T φ H h) (r : RVs K T φ H vs xs) : ∀ p, H p = none → Q (.ref p) (upd H p (.lst xs)) := fun p hp =>
  okR.newA (o := fun _ _ => .lst xs) q R (fun p hp => ⟨xs, rfl, r.mono (ext_tup R hp) _ _⟩) p hp
/-- what is new never changes from here on -/
theorem RA.frz {K : PySem.W.Frag} {T : Tab} {φ : Ix} {H : L2.Hp} {h : Mem} {c' : Con} {v : Val} {x : V} (q : RA K T φ H c' x) (R : Rel K T φ H h) (e : cVal c' = some v) : ∃ ψ, Ext φ H ψ H ∧ Rel K T ψ H h ∧ RV K T ψ H v x := by
  obtain ⟨a, u, rfl, fr, hu, q⟩ := q
  have hs : H a ≠ none := by rw [hu]; simp
  refine ⟨φ.addL a, ?_, R.addL fr hs, ?_⟩
  · exact { pre := ⟨[], by simp [Ix.addL]⟩, eS := rfl, eL := fun _ z => .inl z, tup := fun _ _ z => z, keL := fun _ _ => .refl, keS := fun _ _ => rfl, fz := fun _ _ _ q => q, eM := rfl, keM := fun _ _ => rfl }
  · have ve : VExt φ H (φ.addL a) H := ⟨fun _ _ z => z, fun _ z => Or.inl z, fun _ _ z => z, fun _ _ => .refl⟩
    cases c' <;> simp only [cVal, reduceCtorEq, Option.some.injEq] at e <;> subst e
    · obtain ⟨vs, rfl, q⟩ := q
      exact ⟨a, vs, rfl, ⟨.inr rfl, by unfold ct; rw [hu]⟩, q.monoV ve _ _⟩
    · obtain ⟨vs, rfl, q⟩ := q
      exact ⟨a, vs, rfl, ⟨.inr rfl, by unfold ct; rw [hu]⟩, RKl_iff.mpr (q.monoV ve)⟩
theorem okR.frzA {K : PySem.W.Frag} {c : Con} (o : okR K T (RV K T) φ H Q E (PyI.pure h (cVal c))) : okR K T (RA K T) φ H Q E (PyI.pure h (some c)) := by
  cases hv : cVal c with
  | none => rw [hv] at o; exact o.elim
  | some v =>
    rw [hv] at o
    intro ψ G x e R ra
    obtain ⟨χ, e2, R2, q2⟩ := ra.frz R hv
    exact o χ G x (e.trans e2) R2 q2
theorem szl_eq : szl = sizeLine := rfl
theorem wide_ok {i j : Int} (e : wide j = true) : CDivW i j := by
  have := of_decide_eq_true ((wide_eq j).symm.trans e)
  exact this
theorem small_ok {i : Int} (e : small i = true) : -(2 ^ 64) < i ∧ i < 2 ^ 64 := of_decide_eq_true ((small_eq i).symm.trans e)
theorem flatten_rep {vs : List Val} {xs : List V} {K : PySem.W.Frag} (q : RVs K T φ H vs xs) : ∀ n, RVs K T φ H (List.replicate n vs).flatten (List.replicate n xs).flatten
  | 0 => rfl
  | n + 1 => by
    rw [List.replicate_succ, List.replicate_succ, List.flatten_cons, List.flatten_cons]
    exact q.append (flatten_rep q n)
/-- lists by an operator -/
def rA2 (K : PySem.W.Frag) (T : Tab) (f : Val → Val → Mem → Option Con) : R2 := fun x y H Q =>
  ∃ E v u φ h, Rel K T φ H h ∧ RV K T φ H v x ∧ RV K T φ H u y ∧ okR K T (RA K T) φ H Q E (pure h (f v u h))
theorem op_catL {X : Cx} : OpR X (binaryOp .Add) (fun x y H Q => ∃ a b xs ys, x = .ref a ∧ y = .ref b ∧ Rd H a (.lst xs) ∧ Rd H b (.lst ys) ∧ xs.length + ys.length ≤ szl ∧ ∀ p, H p = none → Q (.ref p) (upd H p (.lst (xs ++ ys)))) := by
  intro pins s σ H x y v u Q I rx ry ⟨a, b, xs, ys, ex, ey, ra, rb, hl, q⟩
  subst ex ey
  cases rx; cases ry
  obtain ⟨l1, i1, n1, r1, e1⟩ := ra.ok I.hok
  obtain ⟨l2, i2, n2, r2, e2⟩ := rb.ok I.hok
  have z1 := r1.length
  have z2 := r2.length
  refine PySem.P.add_list e1 e2 ?_ (by simp only [List.size_toArray, ← szl_eq] at *; omega)
  rw [show i1.toArray ++ i2.toArray = (i1 ++ i2).toArray by simp]
  exact ⟨.ref _, _, I.lnew (t' := s.toks) (r1.append r2) (by rw [List.length_append]; exact hl), rfl, q _ I.fresh⟩
theorem foldl_repA {α : Type} (its : List α) : ∀ (m : Nat) (b : Array α), List.foldl (fun x y => x ++ y) b (List.replicate m its.toArray) = b ++ (List.replicate m its).flatten.toArray
  | 0, b => by simp
  | m + 1, b => by
    rw [List.replicate_succ, List.foldl_cons, foldl_repA its m, List.replicate_succ, List.flatten_cons]
    simp
theorem op_repL {X : Cx} : OpR X (binaryOp .Mult) (fun x y H Q => ∃ a k xs, x = .ref a ∧ y = .int k ∧ Rd H a (.lst xs) ∧ -(2 ^ 62) ≤ k ∧ k < 2 ^ 62 ∧ xs.length * k.toNat ≤ szl ∧ ∀ p, H p = none → Q (.ref p) (upd H p (.lst (List.replicate k.toNat xs).flatten))) := by
  intro pins s σ H x y v u Q I rx ry ⟨a, k, xs, ex, ey, ra, k1, k2, hl, q⟩
  subst ex ey
  cases rx
  obtain ⟨t, rfl⟩ := ry
  obtain ⟨l1, i1, n1, r1, e1⟩ := ra.ok I.hok
  have z1 := r1.length
  have hsz : i1.toArray.size * k.toNat ≤ sizeLine := by rw [List.size_toArray, ← z1]; exact hl
  have sl : (sizeLine : Nat) ≤ (2 ^ 63 - 1) / 8 := by decide
  have fit : ¬ (!Builtin.List.listFitsIndex k) = true := by rw [fitsIndex_both (by omega) (by omega)]; simp
  have lng : ¬ Builtin.List.listTooLong (i1.toArray.size * k.toNat) = true := by rw [notLongL hsz]; simp
  have made : List.foldl (fun x y => x ++ y) #[] (List.replicate (if i1.toArray.isEmpty = true then 0 else k.toNat) i1.toArray) = (List.replicate k.toNat i1).flatten.toArray := by
    rw [foldl_repA]
    cases i1 with
    | nil => simp
    | cons c r => simp
  have tl : s.TypeIs (.ref a) "list" := ⟨_, e1, rfl⟩
  have mm := AutoListH.list___mul___list_int_3 a i1.toArray n1 k t fit (by omega) lng
  refine wpAny_binaryOp_repeat_ref (T := "list") (U := "int") (by decide) tl (fun s' => typeIs_int s' k t) noFill_list_mul F.fills_int_mul F.slot_int_rmul repeat_list F.slot_int_index.lookup ?_
  refine call_meets F.slot_int_rmul (typeIs_int s k t) F.entry_int_rmul (F.args_int_rmul_2 _ _) (int___rmul___int_list k t a i1.toArray n1) ⟨e1, rfl, tl, ?_⟩
  refine call_meets F.slot_list_mul tl F.entry_list_mul (F.args_list_mul_2 _ _) mm ⟨e1, ?_⟩
  rw [made]
  refine ⟨.ref _, _, I.lnew (t' := s.toks) (r1.rep k.toNat) ?_, rfl, q _ I.fresh⟩
  rw [PyProof.Rows.lm_len_rep_flat, Nat.mul_comm]
  exact hl
/-- a text times an int -/
theorem op_repS {X : Cx} : OpR X (binaryOp .Mult) (fun x y H Q => ∃ (z : Txt) (k : Int), x = .str (toStr z) ∧ y = .int k ∧ -(2 ^ 62) ≤ k ∧ k < 2 ^ 62 ∧ z.length * k.toNat ≤ szl ∧ Q (.str (toStr (List.replicate k.toNat z).flatten)) H) := by
  intro pins s σ H x y v u Q I rx ry ⟨z, k, ex, ey, k1, k2, hl, q⟩
  subst ex ey
  obtain ⟨t, rfl⟩ := rx
  obtain ⟨t2, rfl⟩ := ry
  have sl : (szl : Nat) = 16777216 := rfl
  have hz : (toStr z).length = z.length := toStr_length z
  refine PySem.P.mul_str (by rw [decide_eq_false (by omega), decide_eq_false (by omega)]; rfl) (fun h1 _ hc => ?_) (fun h1 _ => ?_) ?_
  · rw [hz] at hc
    have h2 : (z.length : Int) * k ≤ 16777216 := by
      have : ((z.length * k.toNat : Nat) : Int) = (z.length : Int) * k := by rw [Int.natCast_mul, Int.toNat_of_nonneg (by omega)]
      omega
    have h3 : (2 ^ 63 - 1) / k < (z.length : Int) := hc
    have h4 := Int.lt_mul_of_ediv_lt (by omega : 0 < k) h3
    omega
  · rw [hz]
    exact decide_eq_false (by rw [← szl_eq]; omega)
  · by_cases h1 : k < 1
    · rw [if_pos h1]
      have e : (List.replicate k.toNat z).flatten = [] := by rw [show k.toNat = 0 by omega]; rfl
      rw [e] at q
      exact ⟨by decide, .str Str.empty, H, I.tok _, ⟨_, rfl⟩, q⟩
    · rw [if_neg h1]
      by_cases h2 : (k == 1 || (toStr z).length == 0) = true
      · rw [if_pos h2]
        have e : (List.replicate k.toNat z).flatten = z := by
          rcases Bool.or_eq_true_iff.mp h2 with h2 | h2
          · have : k = 1 := by simpa using h2
            subst this; simp
          · have : z = [] := by rw [hz] at h2; simpa using h2
            subst this; simp
        rw [e] at q
        exact ⟨.str _, H, I, ⟨t, rfl⟩, q⟩
      · rw [if_neg h2]
        have e : (⟨List.foldl (fun x1 x2 => x1 ++ x2) #[] (List.replicate k.toNat (toStr z).cps)⟩ : Str) = toStr (List.replicate k.toNat z).flatten := by
          unfold toStr
          rw [foldl_repA]
          simp [List.map_flatten]
        rw [e]
        refine ⟨?_, .str _, H, I.tok _, ⟨_, rfl⟩, q⟩
        rw [toStr_length, List.length_flatten, List.map_replicate, List.sum_replicate_nat, Nat.mul_comm]
        exact hl
theorem addL_ok : OpR X (binaryOp .Add) (rA2 X.K T addL) := by
  intro pins s σ H x y xv yv Q I rx ry ⟨E, v, u, φ, h, R, q1, q2, o⟩
  obtain ⟨c, e, o⟩ := o.pure
  unfold addL at e
  split at e <;> try cases e
  rename_i xs ys e1 e2
  split at e <;> cases e
  rename_i hl
  obtain ⟨a, vs, rfl, p1, p2⟩ := R.lsR q1 e1
  obtain ⟨b, us, rfl, r1, r2⟩ := R.lsR q2 e2
  exact op_catL pins s σ H _ _ _ _ Q I rx ry ⟨a, b, vs, us, rfl, rfl, p1, r1, by rw [p2.length, r2.length]; exact hl, o.newL R (p2.append r2)⟩
theorem mulL_ok : OpR X (binaryOp .Mult) (rA2 X.K T mulL) := by
  intro pins s σ H x y xv yv Q I rx ry ⟨E, v, u, φ, h, R, q1, q2, o⟩
  obtain ⟨c, e, o⟩ := o.pure
  unfold mulL at e
  split at e <;> try cases e
  rename_i xs k e1
  split at e <;> cases e
  rename_i hl
  simp only [Bool.and_eq_true, decide_eq_true_eq] at hl
  obtain ⟨a, vs, rfl, p1, p2⟩ := R.lsR q1 e1
  rw [show y = _ from q2] at ry
  exact op_repL pins s σ H _ _ _ _ Q I rx ry ⟨a, _, vs, rfl, rfl, p1, by omega, by omega, by rw [p2.length]; exact hl.2, o.newL R (flatten_rep p2 _)⟩
theorem addP_ok : OpR X (binaryOp .Add) (rV2 X.K T addP) := by
  intro pins s σ H x y xv yv Q I rx ry ⟨E, v, u, φ, h, R, q1, q2, o⟩
  cases v <;> cases u <;> simp only [addP] at o <;> try exact False.elim o
  · rw [show x = _ from q1] at rx; rw [show y = _ from q2] at ry
    exact op_add pins s σ H _ _ _ _ Q I rx ry ⟨_, _, rfl, rfl, o.ok R rfl⟩
  · rw [show x = _ from q1] at rx; rw [show y = _ from q2] at ry
    split at o
    · rename_i hl
      exact op_add_str pins s σ H _ _ _ _ Q I rx ry ⟨_, _, rfl, rfl, by rw [toStr_length, toStr_length]; exact hl, by rw [toStr_append]; exact o.ok R rfl⟩
    · exact False.elim o
  · rename_i xs ys
    obtain ⟨a, vs, rfl, p1, p2⟩ := id q1
    obtain ⟨b, us, rfl, r1, r2⟩ := id q2
    split at o
    · rename_i hl
      refine op_catA pins s σ H _ _ _ _ Q I rx ry ⟨a, b, vs, us, rfl, rfl, .of p1, .of r1, by rw [p2.length, r2.length]; exact hl, fun e => ?_, fun _ e => ?_, fun _ _ => o.newT R (p2.append r2)⟩
      · have : xs = [] := by have := p2.length; rw [e] at this; simpa using this.symm
        subst this
        exact o.ok R q2
      · have : ys = [] := by have := r2.length; rw [e] at this; simpa using this.symm
        subst this
        rw [List.append_nil] at o
        exact o.ok R q1
    · exact False.elim o
theorem add_ok : OpR X (binaryOp .Add) (rV2 X.K T (binV .add)) := by
  intro pins s σ H x y xv yv Q I rx ry ⟨E, v, u, φ, h, R, q1, q2, o⟩
  simp only [binV, addV] at o
  split at o
  · rename_i c e
    exact addL_ok pins s σ H x y xv yv Q I rx ry ⟨E, v, u, φ, h, R, q1, q2, by rw [e]; exact o.frzA⟩
  · exact addP_ok pins s σ H x y xv yv Q I rx ry ⟨E, v, u, φ, h, R, q1, q2, o⟩
theorem sub_ok : OpR X (binaryOp .Sub) (rV2 X.K T (binV .sub)) := by
  intro pins s σ H x y xv yv Q I rx ry ⟨E, v, u, φ, h, R, q1, q2, o⟩
  cases v <;> cases u <;> simp only [binV] at o <;> try exact False.elim o
  rw [show x = _ from q1] at rx; rw [show y = _ from q2] at ry
  exact op_sub pins s σ H _ _ _ _ Q I rx ry ⟨_, _, rfl, rfl, o.ok R rfl⟩
theorem op_mulWide : OpR X (binaryOp .Mult) (rI CMulW fun i j => .int (i * j)) := opI fun _ _ _ _ _ _ _ hc q => mul_int q hc.ok
theorem mulP_ok : OpR X (binaryOp .Mult) (rV2 X.K T mulP) := by
  intro pins s σ H x y xv yv Q I rx ry ⟨E, v, u, φ, h, R, q1, q2, o⟩
  cases v <;> cases u <;> simp only [mulP] at o <;> try exact False.elim o
  · rw [show x = _ from q1] at rx; rw [show y = _ from q2] at ry
    split at o
    · rename_i i j hs
      rcases Bool.or_eq_true_iff.mp hs with hs | hs
      · refine op_mul pins s σ H _ _ _ _ Q I rx ry ⟨_, _, rfl, rfl, ?_, o.ok R rfl⟩
        rcases Bool.or_eq_true_iff.mp hs with hs | hs
        · exact .inl (small_ok hs)
        · exact .inr (small_ok hs)
      · refine op_mulWide pins s σ H _ _ _ _ Q I rx ry ⟨_, _, rfl, rfl, ?_, o.ok R rfl⟩
        rw [mid_eq] at hs
        have hs2 : i.natAbs.log2 + j.natAbs.log2 < 1000000 := of_decide_eq_true hs
        exact hs2
    · exact False.elim o
  · split at o
    · rename_i hl
      simp only [Bool.and_eq_true, decide_eq_true_eq] at hl
      rw [show x = _ from q1] at rx; rw [show y = _ from q2] at ry
      exact op_repS pins s σ H _ _ _ _ Q I rx ry ⟨_, _, rfl, rfl, hl.1.1, hl.1.2, hl.2, o.ok R rfl⟩
    · exact False.elim o
  · rename_i xs k
    obtain ⟨a, vs, rfl, p1, p2⟩ := id q1
    split at o
    · rename_i hl
      rw [show y = _ from q2] at ry
      exact op_repT pins s σ H _ _ _ _ Q I rx ry ⟨a, k, vs, rfl, rfl, .of p1, (by intro e; subst e; exact hl.1 (by have := p2.length; simpa using this.symm)), hl.2.1, hl.2.2.1, (by rw [p2.length]; exact hl.2.2.2), o.newT R (flatten_rep p2 _)⟩
    · exact False.elim o
theorem mul_ok : OpR X (binaryOp .Mult) (rV2 X.K T (binV .mul)) := by
  intro pins s σ H x y xv yv Q I rx ry ⟨E, v, u, φ, h, R, q1, q2, o⟩
  simp only [binV, mulV] at o
  split at o
  · rename_i c e
    exact mulL_ok pins s σ H x y xv yv Q I rx ry ⟨E, v, u, φ, h, R, q1, q2, by rw [e]; exact o.frzA⟩
  · exact mulP_ok pins s σ H x y xv yv Q I rx ry ⟨E, v, u, φ, h, R, q1, q2, o⟩
theorem div_ok : OpR X (binaryOp .FloorDiv) (rV2 X.K T (binV .div)) := by
  intro pins s σ H x y xv yv Q I rx ry ⟨E, v, u, φ, h, R, q1, q2, o⟩
  cases v <;> cases u <;> simp only [binV] at o <;> try exact False.elim o
  rw [show x = _ from q1] at rx; rw [show y = _ from q2] at ry
  split at o
  · rename_i hs
    exact op_fdivW pins s σ H _ _ _ _ Q I rx ry ⟨_, _, rfl, rfl, wide_ok hs, o.ok R rfl⟩
  · exact False.elim o
theorem mod_ok : OpR X (binaryOp .Mod) (rV2 X.K T (binV .mod)) := by
  intro pins s σ H x y xv yv Q I rx ry ⟨E, v, u, φ, h, R, q1, q2, o⟩
  cases v <;> cases u <;> simp only [binV] at o <;> try exact False.elim o
  rw [show x = _ from q1] at rx; rw [show y = _ from q2] at ry
  split at o
  · rename_i hs
    exact op_mod pins s σ H _ _ _ _ Q I rx ry ⟨_, _, rfl, rfl, hs, o.ok R rfl⟩
  · exact False.elim o
theorem pow_ok : OpR X (binaryOp .Pow) (rV2 X.K T (binV .pow)) := by
  intro pins s σ H x y xv yv Q I rx ry ⟨E, v, u, φ, h, R, q1, q2, o⟩
  cases v <;> cases u <;> simp only [binV] at o <;> try exact False.elim o
  rw [show x = _ from q1] at rx; rw [show y = _ from q2] at ry
  split at o
  · rename_i i j hs
    simp only [Bool.and_eq_true, decide_eq_true_eq] at hs
    have := small_ok hs.1.1
    exact op_pow pins s σ H _ _ _ _ Q I rx ry ⟨_, _, rfl, rfl, ⟨hs.1.2, hs.2, by omega⟩, o.ok R rfl⟩
  · exact False.elim o
def bopOf : Bop → Operator
  | .add => .Add | .sub => .Sub | .mul => .Mult | .div => .FloorDiv | .mod => .Mod | .pow => .Pow
theorem bin_ok (o : Bop) : OpR X (binaryOp (bopOf o)) (rV2 X.K T (binV o)) := by
  cases o
  · exact add_ok
  · exact sub_ok
  · exact mul_ok
  · exact div_ok
  · exact mod_ok
  · exact pow_ok
/-! ### comparisons -/
def rCm (K : PySem.W.Frag) (T : Tab) (o : Cop) : R2 := fun x y H Q =>
  ∃ v u φ h b, Rel K T φ H h ∧ RV K T φ H v x ∧ RV K T φ H u y ∧ cmpV h o v u = some b ∧ Q (.bl b) H
theorem flatB_lt {a b : Txt} : decide ((toStr a).cps.toList < (toStr b).cps.toList) = strLt a b := by
  unfold strLt toStr; simp
theorem dSame_ok {K : PySem.W.Frag} {T : Tab} {φ : Ix} {H : L2.Hp} {ks ls : List (PyI.Key × Val)} {xs ys : List (L2.Key × V)} (e : dSame ks ls = true) (q1 : RKs K T kT φ H ks xs) (q2 : RKs K T kT φ H ls ys) : xs.length = ys.length ∧ ∀ p ∈ xs, valV ys p.1 = some p.2 ∧ flatB p.2 = true := by
  unfold dSame at e
  rw [Bool.and_eq_true] at e
  obtain ⟨e1, e2⟩ := e
  refine ⟨by rw [q1.length, q2.length]; exact of_decide_eq_true e1, ?_⟩
  clear e1
  induction ks generalizing xs with
  | nil => rw [show xs = [] from q1]; intro p hp; cases hp
  | cons k ks ih =>
    obtain ⟨v, r, rfl, r1, r2⟩ := q1
    rw [List.all_cons, Bool.and_eq_true] at e2
    obtain ⟨e2, e3⟩ := e2
    intro p hp
    rcases List.mem_cons.mp hp with rfl | hp
    · split at e2
      · rename_i i j ei ej
        obtain rfl : i = j := of_decide_eq_true e2
        rw [ei] at r1
        obtain ⟨y, y1, y2⟩ := (RKs.val kTi q2).1 _ ej
        rw [show v = _ from r1]
        rw [show y = _ from y2] at y1
        exact ⟨y1, rfl⟩
      · cases e2
    · exact ih r2 e3 p hp
theorem dEq_ok {K : PySem.W.Frag} {T : Tab} {φ : Ix} {H : L2.Hp} {v u : Val} {b : Bool} {x y : V} (R : Rel K T φ H h) (q1 : RV K T φ H v x) (q2 : RV K T φ H u y) (e : dEqV h v u = some b) : b = true ∧ ∃ a c ks ls, x = .ref a ∧ y = .ref c ∧ H a = some (.dK ks) ∧ H c = some (.dK ls) ∧ ks.length = ls.length ∧ ∀ p ∈ ks, valV ls p.1 = some p.2 ∧ flatB p.2 = true := by
  have inv : ∀ {v : Val} {ks : List (PyI.Key × Val)}, dikV h v = some ks → ∃ n, v = .ref n ∧ h[n]? = some (.con (.dik ks)) := fun {v ks} e => by
    cases v <;> simp only [dikV, reduceCtorEq] at e
    rename_i n
    obtain ⟨o, e1, e2⟩ := Option.bind_eq_some_iff.mp e
    unfold dikO at e2
    split at e2
    · cases e2; exact ⟨n, rfl, e1⟩
    · cases e2
  unfold dEqV at e
  obtain ⟨ks, e1, e⟩ := Option.bind_eq_some_iff.mp e
  obtain ⟨ls, e2, e⟩ := Option.bind_eq_some_iff.mp e
  split at e
  · rename_i ds
    cases e
    obtain ⟨n, rfl, g1⟩ := inv e1
    obtain ⟨m, rfl, g2⟩ := inv e2
    obtain ⟨a, xs, ea, _, ha, ra⟩ := R.dik q1 g1
    obtain ⟨c, ys, ec, _, hc, rc⟩ := R.dik q2 g2
    obtain ⟨l1, l2⟩ := dSame_ok ds ra rc
    exact ⟨rfl, a, c, xs, ys, ea, ec, ha, hc, l1, l2⟩
  · cases e
theorem eqV_cases {v u : Val} {b : Bool} (e : eqV h v u = some b) : (∃ i j, v = .int i ∧ u = .int j ∧ b = decide (i = j)) ∨ (∃ i j, v = .str i ∧ u = .str j ∧ b = decide (i = j)) ∨
    (isD h 60 v = true ∧ isD h 60 u = true ∧ b = eqB h 60 v u) ∨ dEqV h v u = some b := by
  have dd : ∀ {v u : Val}, (if (isD h 60 v && isD h 60 u) = true then some (eqB h 60 v u) else dEqV h v u) = some b → (isD h 60 v = true ∧ isD h 60 u = true ∧ b = eqB h 60 v u) ∨ dEqV h v u = some b := fun {v u} e => by
    split at e
    · rename_i hd
      cases e
      exact .inl ⟨(Bool.and_eq_true_iff.mp hd).1, (Bool.and_eq_true_iff.mp hd).2, rfl⟩
    · exact .inr e
  unfold eqV at e
  split at e
  · cases e; exact .inl ⟨_, _, rfl, rfl, rfl⟩
  · cases e; exact .inr (.inl ⟨_, _, rfl, rfl, rfl⟩)
  · exact .inr (.inr (dd e))
theorem eq_ok (hu : X.A.units + 64 < cLine) : OpR X (compareOp .Eq) (rCm X.K T .eq) := by
  intro pins s σ H x y xv yv Q I rx ry ⟨v, u, φ, h, b, R, q1, q2, e, q⟩
  rcases eqV_cases e with ⟨i, j, rfl, rfl, rfl⟩ | ⟨i, j, rfl, rfl, rfl⟩ | ⟨d1, d2, rfl⟩ | dd
  · rw [show x = _ from q1] at rx; rw [show y = _ from q2] at ry
    exact op_eq pins s σ H _ _ _ _ Q I rx ry ⟨rfl, by rw [dec_int, Bool.beq_eq_decide_eq]; exact q⟩
  · rw [show x = _ from q1] at rx; rw [show y = _ from q2] at ry
    exact op_eq pins s σ H _ _ _ _ Q I rx ry ⟨rfl, by rw [dec_str, toStr_beq, Bool.beq_eq_decide_eq]; exact q⟩
  · exact op_eqD hu pins s σ H _ _ _ _ Q I rx ry ⟨_, _, dp_of R 60 v x d1 q1, dp_of R 60 u y d2 q2, shaped_dat (by omega) v, shaped_dat (by omega) u, by rw [eqv_dat 60 v u d1 d2]; exact q⟩
  · obtain ⟨rfl, a, c, ks, ls, z⟩ := dEq_ok R q1 q2 dd
    exact op_eq_dictA (by omega) pins s σ H _ _ _ _ Q I rx ry ⟨a, c, ks, ls, z.1, z.2.1, z.2.2.1, z.2.2.2.1, z.2.2.2.2.1, z.2.2.2.2.2, q⟩
theorem ne_ok (hu : X.A.units + 64 < cLine) : OpR X (compareOp .NotEq) (rCm X.K T .ne) := by
  intro pins s σ H x y xv yv Q I rx ry ⟨v, u, φ, h, b, R, q1, q2, e, q⟩
  obtain ⟨b, e1, rfl⟩ : ∃ c, eqV h v u = some c ∧ b = !c := by
    cases hh : eqV h v u with
    | none => simp [cmpV, hh] at e
    | some c => simp [cmpV, hh] at e; exact ⟨c, rfl, by rw [e, Bool.not_not]⟩
  rcases eqV_cases e1 with ⟨i, j, rfl, rfl, rfl⟩ | ⟨i, j, rfl, rfl, rfl⟩ | ⟨d1, d2, rfl⟩ | dd
  · rw [show x = _ from q1] at rx; rw [show y = _ from q2] at ry
    exact op_ne pins s σ H _ _ _ _ Q I rx ry ⟨rfl, by rw [dec_int, Bool.beq_eq_decide_eq]; exact q⟩
  · rw [show x = _ from q1] at rx; rw [show y = _ from q2] at ry
    exact op_ne pins s σ H _ _ _ _ Q I rx ry ⟨rfl, by rw [dec_str, toStr_beq, Bool.beq_eq_decide_eq]; exact q⟩
  · exact op_neD hu pins s σ H _ _ _ _ Q I rx ry ⟨_, _, dp_of R 60 v x d1 q1, dp_of R 60 u y d2 q2, shaped_dat (by omega) v, shaped_dat (by omega) u, by rw [eqv_dat 60 v u d1 d2]; exact q⟩
  · obtain ⟨rfl, a, c, ks, ls, z⟩ := dEq_ok R q1 q2 dd
    exact op_ne_dictA (by omega) pins s σ H _ _ _ _ Q I rx ry ⟨a, c, ks, ls, z.1, z.2.1, z.2.2.1, z.2.2.2.1, z.2.2.2.2.1, z.2.2.2.2.2, q⟩
end
end PyI
namespace PyI
open PySem PySem.Spec PyProof.Rows L2
section
variable {X : Cx} {T : Tab} {φ : Ix} {H : L2.Hp} {h : Mem} {Q : VK} {E : Nat → L2.Hp → Prop}
/-! ### order -/
theorem lexAt_lt : ∀ (k i : Nat) (ns ms : List Int), i + k = min ns.length ms.length →
    Ob.lexAt (fun j => decide (ns.getD j 0 = ms.getD j 0)) (fun j => decide (ms.getD j 0 < ns.getD j 0)) (decide (ns.length > ms.length)) i k = lexLt (ms.drop i) (ns.drop i)
  | 0, i, ns, ms, hk => by
    rw [Ob.lexAt_zero]
    by_cases h1 : ns.length ≤ i
    · rw [List.drop_of_length_le h1]
      by_cases h2 : ms.length ≤ i
      · rw [List.drop_of_length_le h2]; simp [lexLt]; omega
      · rw [List.drop_eq_getElem_cons (by omega)]; simp [lexLt]; omega
    · have h2 : ms.length ≤ i := by omega
      rw [List.drop_of_length_le h2, List.drop_eq_getElem_cons (by omega)]; simp [lexLt]; omega
  | k + 1, i, ns, ms, hk => by
    have h1 : i < ns.length := by omega
    have h2 : i < ms.length := by omega
    rw [Ob.lexAt_succ, List.drop_eq_getElem_cons h1, List.drop_eq_getElem_cons h2]
    have g1 : ns.getD i 0 = ns[i] := by simp [h1]
    have g2 : ms.getD i 0 = ms[i] := by simp [h2]
    simp only [g1, g2, lexLt]
    by_cases e : ns[i] = ms[i]
    · rw [if_pos (by simp [e]), if_pos e.symm]
      exact lexAt_lt k (i + 1) ns ms (by omega)
    · rw [if_neg (by simp [e]), if_neg (fun z => e z.symm)]
theorem op_gtT (hu : X.A.units < cLine) : OpR X (compareOp .Gt) (fun x y H Q => ∃ (a b : Addr) (ns ms : List Int), x = .ref a ∧ y = .ref b ∧ SqT X.K H a (ns.map V.int) ∧ SqT X.K H b (ms.map V.int) ∧ Q (.bl (lexLt ms ns)) H) := by
  intro pins s σ H x y v u Q I rx ry h
  obtain ⟨a, b, ns, ms, rfl, rfl, ha, hb, q⟩ := h
  cases rx
  cases ry
  obtain ⟨its, r1, p1, _⟩ := I.tuple ha
  obtain ⟨its2, r2, p2, _⟩ := I.tuple hb
  have i1 : IntsAre its ns := Vals.ints r1
  have i2 : IntsAre its2 ms := Vals.ints r2
  have e1 : its.toArray.size = ns.length := by rw [List.size_toArray]; exact i1.length
  have e2 : its2.toArray.size = ms.length := by rw [List.size_toArray]; exact i2.length
  have at1 : ∀ j (h1 : j < its.toArray.size), ∃ t, its.toArray[j] = .int (ns.getD j 0) t := fun j h1 => PyProof.Rows.IntsAre.int_at i1 _ _ (by simp at h1; simp [h1])
  have at2 : ∀ j (h1 : j < its2.toArray.size), ∃ t, its2.toArray[j] = .int (ms.getD j 0) t := fun j h1 => PyProof.Rows.IntsAre.int_at i2 _ _ (by simp at h1; simp [h1])
  have R := Ob.RcOp.tuples_gt (A := X.A) (s := s) (e := fun j => decide (ns.getD j 0 = ms.getD j 0)) (r := fun j => decide (ms.getD j 0 < ns.getD j 0)) p1 p2 hu (fun j h1 h2 => by
    obtain ⟨t, et⟩ := at1 j h1
    obtain ⟨t', et'⟩ := at2 j h2
    rw [et, et']
    have z : (ns.getD j 0 == ms.getD j 0) = decide (ns.getD j 0 = ms.getD j 0) := Bool.beq_eq_decide_eq _ _
    rw [← z]
    exact SeqAt.EqAt.int_int _ _ _ _) (fun j h1 h2 _ => by
    obtain ⟨t, et⟩ := at1 j h1
    obtain ⟨t', et'⟩ := at2 j h2
    rw [et, et']
    exact Ob.RcOp.gt_int _ _ _ _)
  rw [e1, e2, lexAt_lt (min ns.length ms.length) 0 ns ms (by omega)] at R
  exact R X.prog X.w X.xe _ ⟨.bl _, H, I, rfl, q⟩
theorem lt_ok : OpR X (compareOp .Lt) (rCm X.K T .lt) := by
  intro pins s σ H x y xv yv Q I rx ry ⟨v, u, φ, h, b, R, q1, q2, e, q⟩
  cases v <;> cases u <;> simp only [cmpV, reduceCtorEq, Option.some.injEq] at e <;> subst e <;> rw [show x = _ from q1] at rx <;> rw [show y = _ from q2] at ry
  · exact op_lt pins s σ H _ _ _ _ Q I rx ry ⟨_, _, rfl, rfl, q⟩
  · exact op_lt_str pins s σ H _ _ _ _ Q I rx ry ⟨_, _, rfl, rfl, by rw [flatB_lt]; exact q⟩
theorem le_ok : OpR X (compareOp .LtE) (rCm X.K T .le) := by
  intro pins s σ H x y xv yv Q I rx ry ⟨v, u, φ, h, b, R, q1, q2, e, q⟩
  cases v <;> cases u <;> simp only [cmpV, reduceCtorEq, Option.some.injEq] at e <;> subst e <;> rw [show x = _ from q1] at rx <;> rw [show y = _ from q2] at ry
  · exact op_le pins s σ H _ _ _ _ Q I rx ry ⟨_, _, rfl, rfl, q⟩
  · exact op_le_str pins s σ H _ _ _ _ Q I rx ry ⟨_, _, rfl, rfl, by rw [flatB_lt]; exact q⟩
theorem ge_ok : OpR X (compareOp .GtE) (rCm X.K T .ge) := by
  intro pins s σ H x y xv yv Q I rx ry ⟨v, u, φ, h, b, R, q1, q2, e, q⟩
  cases v <;> cases u <;> simp only [cmpV, reduceCtorEq, Option.some.injEq] at e <;> subst e <;> rw [show x = _ from q1] at rx <;> rw [show y = _ from q2] at ry
  · exact op_ge pins s σ H _ _ _ _ Q I rx ry ⟨_, _, rfl, rfl, q⟩
  · exact op_ge_str pins s σ H _ _ _ _ Q I rx ry ⟨_, _, rfl, rfl, by rw [flatB_lt]; exact q⟩
theorem gt_ok (hu : X.A.units < cLine) : OpR X (compareOp .Gt) (rCm X.K T .gt) := by
  intro pins s σ H x y xv yv Q I rx ry ⟨v, u, φ, h, b, R, q1, q2, e, q⟩
  cases v <;> cases u <;> simp only [cmpV, reduceCtorEq, Option.some.injEq] at e
  · subst e; rw [show x = _ from q1] at rx; rw [show y = _ from q2] at ry
    exact op_gt pins s σ H _ _ _ _ Q I rx ry ⟨_, _, rfl, rfl, q⟩
  · subst e; rw [show x = _ from q1] at rx; rw [show y = _ from q2] at ry
    exact op_gt_str pins s σ H _ _ _ _ Q I rx ry ⟨_, _, rfl, rfl, by rw [flatB_lt]; exact q⟩
  · rename_i xs ys
    split at e
    · rename_i ns ms e1 e2
      cases e
      obtain ⟨a, vs, rfl, p1, p2⟩ := q1
      obtain ⟨c, us, rfl, r1, r2⟩ := q2
      rw [p2.ints e1] at p1
      rw [r2.ints e2] at r1
      exact op_gtT hu pins s σ H _ _ _ _ Q I rx ry ⟨a, c, ns, ms, rfl, rfl, .of p1, .of r1, q⟩
    · cases e
/-! ### in -/
theorem flat_V {K : PySem.W.Frag} {v : Val} {x : V} (f : flat v = true) (q : RV K T φ H v x) : flatV x = true := by
  cases v <;> simp only [flat, reduceCtorEq, Bool.false_eq_true] at f <;> rw [show x = _ from q] <;> rfl
theorem flats_V {K : PySem.W.Frag} : ∀ {vs : List Val} {xs : List V}, vs.all flat = true → RVs K T φ H vs xs → xs.all flatV = true
  | [], _, _, q => by rw [show _ = [] from q]; rfl
  | v :: vs, xs, f, q => by
    obtain ⟨x, r, rfl, q1, q2⟩ := q
    simp only [List.all_cons, Bool.and_eq_true] at f ⊢
    exact ⟨flat_V f.1 q1, flats_V f.2 q2⟩
theorem eqFlat {K : PySem.W.Frag} {v u : Val} {x y : V} (f : flat v = true) (g : flat u = true) (q : RV K T φ H v x) (r : RV K T φ H u y) : L2.eqV x y = eqB h 1 v u := by
  cases v <;> simp only [flat, reduceCtorEq, Bool.false_eq_true] at f <;> cases u <;> simp only [flat, reduceCtorEq, Bool.false_eq_true] at g <;> rw [show x = _ from q, show y = _ from r] <;> simp [L2.eqV, eqB, b2i, toStr_beq]
theorem inV_any {K : PySem.W.Frag} {v : Val} {x : V} (f : flat v = true) (q : RV K T φ H v x) : ∀ {vs : List Val} {xs : List V}, vs.all flat = true → RVs K T φ H vs xs → L2.inV x xs = vs.any fun z => eqB h 1 z v
  | [], _, _, r => by rw [show _ = [] from r]; rfl
  | u :: us, xs, g, r => by
    obtain ⟨y, s, rfl, q1, q2⟩ := r
    simp only [List.all_cons, Bool.and_eq_true] at g
    have ih := inV_any f q g.2 q2
    unfold L2.inV at ih ⊢
    rw [List.any_cons, List.any_cons, ih, eqFlat g.1 f q1 q]
theorem any_eqv {v : Val} {n : Nat} (d : isD h n v = true) : ∀ (ys : List Val), ys.all (isD h n) = true → ((ys.map (dat h n)).any fun z => PyData.eqv z (dat h n v)) = ys.any fun z => eqB h n z v
  | [], _ => rfl
  | y :: ys, g => by
    simp only [List.all_cons, Bool.and_eq_true] at g
    rw [List.map_cons, List.any_cons, List.any_cons, any_eqv d ys g.2, eqv_dat n y v g.1 d]
theorem in_cases {K : PySem.W.Frag} (R : Rel K T φ H h) {v u : Val} {x y : V} {b : Bool} (q1 : RV K T φ H v x) (q2 : RV K T φ H u y) (e : inV h v u = some b) :
    (∃ s t, v = .str [s] ∧ u = .str t ∧ b = decide (s ∈ t)) ∨ (∃ p xs, y = .ref p ∧ (SqL K H p xs ∨ SqT K H p xs) ∧ flatV x = true ∧ xs.all flatV = true ∧ L2.inV x xs = b) ∨
      (∃ z p, v = .str z ∧ y = .ref p ∧ (p == sysModules) = false ∧ ((b = true ∧ ∃ w, KDct K T.w p (toStr z) w) ∨ (b = false ∧ KMiss K T.w p (toStr z)))) ∨ (∃ c a, y = .ref a ∧ CAt K T φ H c a ∧ cin h v c = some b) := by
  have tupc : ∀ {a : Addr} {vs : List V} {ys : List Val}, y = .ref a → SqT K H a vs → RVs K T φ H ys vs → (if (flat v && ys.all flat) = true then some (ys.any fun z => eqB h 1 z v) else none) = some b →
      (∃ p xs, y = .ref p ∧ (SqL K H p xs ∨ SqT K H p xs) ∧ flatV x = true ∧ xs.all flatV = true ∧ L2.inV x xs = b) := fun {a vs ys} e1 p1 p2 e => by
    split at e
    · rename_i f
      simp only [Bool.and_eq_true] at f
      cases e
      exact ⟨a, vs, e1, .inr p1, flat_V f.1 q1, flats_V f.2 p2, inV_any f.1 q1 f.2 p2⟩
    · cases e
  have conc : (conV h u).bind (cin h v) = some b → ∃ c a, y = .ref a ∧ CAt K T φ H c a ∧ cin h v c = some b := fun e => by
    obtain ⟨c, e1, e2⟩ := Option.bind_eq_some_iff.mp e
    obtain ⟨a, ey, ca⟩ := R.conV q2 e1
    exact ⟨c, a, ey, ca, e2⟩
  cases u <;> simp only [inV] at e
  case str =>
    split at e
    · cases e; exact .inl ⟨_, _, rfl, rfl, rfl⟩
    · cases e
  case tup =>
    obtain ⟨a, vs, e1, p1, p2⟩ := q2
    exact .inr (.inl (tupc e1 (.of p1) p2 e))
  case ktp =>
    obtain ⟨a, vs, e1, p1, p2⟩ := q2
    exact .inr (.inl (tupc e1 p1.sq p2 e))
  case kdk =>
    obtain ⟨a, e1, p1, p2⟩ := q2
    refine .inr (.inr (.inl ?_))
    cases v <;> simp only [kdget, Option.map_none, Option.map_some, reduceCtorEq, Option.some.injEq] at e
    rename_i z
    refine ⟨z, a, rfl, e1, p1.1, ?_⟩
    rename_i kvs
    cases hk : kget kvs (.inr z) with
    | none => rw [hk] at e; exact .inr ⟨e.symm, p1.2 z hk⟩
    | some w =>
      rw [hk] at e
      obtain ⟨w', g1, _⟩ := p2.val hk
      exact .inl ⟨e.symm, w', g1⟩
  all_goals exact .inr (.inr (.inr (conc e)))
theorem mem_toNat (c : Char) (s : Txt) : decide (c.toNat ∈ (toStr s).cps.toList) = decide (c ∈ s) := by
  unfold toStr
  have : (c.toNat ∈ s.map Char.toNat) ↔ c ∈ s := by
    constructor
    · intro q
      obtain ⟨d, hd, e⟩ := List.mem_map.mp q
      rw [← toNat_inj e]; exact hd
    · exact fun q => List.mem_map_of_mem q
  simp only [this]
theorem kd_ns {K : PySem.W.Frag} {w : World} {p : Addr} {z : Str} {b : Bool} (e : (b = true ∧ ∃ v, KDct K w p z v) ∨ (b = false ∧ KMiss K w p z)) (hne : (p == sysModules) = false) : ∃ es n r, KDict K w p es n ∧ PySem.W.nsIn K p z = some r ∧ r.isSome = b := by
  rcases e with ⟨rfl, v, es, n, u, h1, h2, h3, h4⟩ | ⟨rfl, es, n, h1, h2, h3, h4⟩
  · exact ⟨es, n, some u, ⟨h1, h2, hne⟩, h3, rfl⟩
  · exact ⟨es, n, none, ⟨h1, h2, hne⟩, h4, rfl⟩
/-- in a container -/
theorem cin_in (hu : X.A.units + 65 < cLine) {c : Con} {a : Addr} {v : Val} {x : V} {b : Bool} {xv : Value} {pins : List (Addr × Obj)} {s : Shared} {σ : L2.St} (R : Rel X.K T φ H h) (q1 : RV X.K T φ H v x) (ca : CAt X.K T φ H c a) (e : cin h v c = some b) (hw : T.w = X.w) (I : Inv X pins σ H s) (rx : L2.RelV x xv) :
    (∀ Q : VK, Q (.bl b) H → wpAny (model X.prog X.w) X.A (compareOp .In xv (.ref a)) (EP X pins σ Q) X.xe s) ∧ (∀ Q : VK, Q (.bl (!b)) H → wpAny (model X.prog X.w) X.A (compareOp .NotIn xv (.ref a)) (EP X pins σ Q) X.xe s) := by
  cases c with
  | lst ys =>
    obtain ⟨vs, p1, p2⟩ := ca.sq
    simp only [cin] at e
    split at e
    · rename_i f
      simp only [Bool.and_eq_true] at f
      cases e
      have h1 : PyData.canLay0 (.list (ys.map (dat h 59))) = true := by simpa only [PyData.canLay0] using canLayAll_map ys fun x _ => canLay_dat 59 x
      have h2 := depthAll_map ys fun x _ => depth_dat (h := h) 59 x
      have h3 : PyData.depth (.list (ys.map (dat h 59))) ≤ 64 := by simp only [PyData.depth]; omega
      have sh : SeqAt.shaped (.list (ys.map (dat h 59))) = true := by
        unfold SeqAt.shaped
        rw [h1, decide_eq_true h3]; rfl
      have d1 := dp_of R 59 v x f.1 q1
      have d2 : Dp X.K H (.ref a) (.list (ys.map (dat h 59))) := .lst p1 (dps (dp_of R 59) f.2 p2)
      refine ⟨fun Q q => ?_, fun Q q => ?_⟩
      · exact op_inD hu pins s σ H _ (.ref a) _ _ Q I rx rfl ⟨_, _, d1, d2, shaped_dat (by omega) v, sh, by rw [any_eqv f.1 ys f.2]; exact q⟩
      · exact op_notInD hu pins s σ H _ (.ref a) _ _ Q I rx rfl ⟨_, _, d1, d2, shaped_dat (by omega) v, sh, by rw [any_eqv f.1 ys f.2]; exact q⟩
    · cases e
  | set xs =>
    obtain ⟨u, h0, ⟨S, rfl, hS⟩, hu'⟩ := ca
    clear h0
    have hu' := hu' rfl
    simp only [cin] at e
    cases v <;> simp only [reduceCtorEq, Option.some.injEq] at e
    rename_i i
    subst e
    rw [show x = _ from q1] at rx
    rw [hw] at hu'
    refine ⟨fun Q q => ?_, fun Q q => ?_⟩
    · exact or_sin pins s σ H _ (.ref a) _ _ Q I rx rfl ⟨i, a, S, _, rfl, rfl, hu', by rw [hS]; exact q⟩
    · exact or_snotin pins s σ H _ (.ref a) _ _ Q I rx rfl ⟨i, a, S, _, rfl, rfl, hu', by rw [hS]; exact q⟩
  | dik kvs =>
    simp only [cin] at e
    obtain ⟨o, e1, rfl⟩ := Option.map_eq_some_iff.mp e
    obtain ⟨p, g, g1, g2⟩ := ca.get q1 e1
    have eb : p.isSome = o.isSome := by
      cases o with
      | none => rw [g2 rfl]; rfl
      | some z => obtain ⟨z', e3, _⟩ := g1 z rfl; rw [e3]; rfl
    refine ⟨fun Q q => ?_, fun Q q => ?_⟩
    · exact d_in (by omega) I g rx fun s' I' => ⟨.bl p.isSome, H, I', rfl, by rw [eb]; exact q⟩
    · exact d_notIn (by omega) I g rx fun s' I' => ⟨.bl (!p.isSome), H, I', rfl, by rw [eb]; exact q⟩
  | dit kvs =>
    simp only [cin] at e
    obtain ⟨o, e1, rfl⟩ := Option.map_eq_some_iff.mp e
    obtain ⟨p, g, g1, g2⟩ := ca.get q1 e1
    have eb : p.isSome = o.isSome := by
      cases o with
      | none => rw [g2 rfl]; rfl
      | some z => obtain ⟨z', e3, _⟩ := g1 z rfl; rw [e3]; rfl
    refine ⟨fun Q q => ?_, fun Q q => ?_⟩
    · exact d_in (by omega) I g rx fun s' I' => ⟨.bl p.isSome, H, I', rfl, by rw [eb]; exact q⟩
    · exact d_notIn (by omega) I g rx fun s' I' => ⟨.bl (!p.isSome), H, I', rfl, by rw [eb]; exact q⟩
theorem in_both (hu : X.A.units + 65 < cLine) (hw : T.w = X.w) {v u : Val} {x y : V} {b : Bool} {xv yv : Value} {pins : List (Addr × Obj)} {s : Shared} {σ : L2.St} (R : Rel X.K T φ H h) (q1 : RV X.K T φ H v x) (q2 : RV X.K T φ H u y) (e : inV h v u = some b) (I : Inv X pins σ H s) (rx : L2.RelV x xv) (ry : L2.RelV y yv) :
    (∀ Q : VK, Q (.bl b) H → wpAny (model X.prog X.w) X.A (compareOp .In xv yv) (EP X pins σ Q) X.xe s) ∧ (∀ Q : VK, Q (.bl (!b)) H → wpAny (model X.prog X.w) X.A (compareOp .NotIn xv yv) (EP X pins σ Q) X.xe s) := by
  rcases in_cases R q1 q2 e with ⟨s0, t, rfl, rfl, rfl⟩ | ⟨p, xs, rfl, a1, a2, a3, rfl⟩ | ⟨z, p, rfl, rfl, hne, kd⟩ | ⟨c, a, rfl, ca, e2⟩
  · rw [show x = _ from q1] at rx; rw [show y = _ from q2] at ry
    refine ⟨fun Q q => ?_, fun Q q => ?_⟩
    · exact op_in_sign pins _ σ H _ _ _ _ Q I rx ry ⟨s0.toNat, _, rfl, rfl, by rw [mem_toNat]; exact q⟩
    · exact op_notIn_sign pins _ σ H _ _ _ _ Q I rx ry ⟨s0.toNat, _, rfl, rfl, by rw [mem_toNat]; exact q⟩
  · refine ⟨fun Q q => ?_, fun Q q => ?_⟩
    · exact op_in_seq pins _ σ H _ _ _ _ Q I rx ry ⟨p, xs, rfl, a1, a2, a3, q⟩
    · exact op_notIn_seq pins _ σ H _ _ _ _ Q I rx ry ⟨p, xs, rfl, a1, a2, a3, q⟩
  · rw [hw] at kd
    obtain ⟨es, n, r, D, e1, e2⟩ := kd_ns kd hne
    rw [show x = _ from q1] at rx
    refine ⟨fun Q q => ?_, fun Q q => ?_⟩
    · exact op_in_kd D pins _ σ H _ _ _ _ Q I rx ry ⟨_, r, rfl, rfl, e1, by rw [e2]; exact q⟩
    · exact op_notIn_kd D pins _ σ H _ _ _ _ Q I rx ry ⟨_, r, rfl, rfl, e1, by rw [e2]; exact q⟩
  · cases ry
    exact cin_in hu R q1 ca e2 hw I rx
theorem in_ok (hu : X.A.units + 65 < cLine) (hw : T.w = X.w) : OpR X (compareOp .In) (rCm X.K T .isin) := by
  intro pins s σ H x y xv yv Q I rx ry ⟨v, u, φ, h, b, R, q1, q2, e, q⟩
  exact (in_both hu hw R q1 q2 e I rx ry).1 Q q
theorem notin_ok (hu : X.A.units + 65 < cLine) (hw : T.w = X.w) : OpR X (compareOp .NotIn) (rCm X.K T .notin) := by
  intro pins s σ H x y xv yv Q I rx ry ⟨v, u, φ, h, b, R, q1, q2, e, q⟩
  obtain ⟨b, e1, rfl⟩ : ∃ c, inV h v u = some c ∧ b = !c := by
    cases hh : inV h v u with
    | none => simp [cmpV, hh] at e
    | some c => simp [cmpV, hh] at e; exact ⟨c, rfl, by rw [e, Bool.not_not]⟩
  exact (in_both hu hw R q1 q2 e1 I rx ry).2 Q q
def copOf : Cop → CmpOp
  | .eq => .Eq | .ne => .NotEq | .lt => .Lt | .le => .LtE | .gt => .Gt | .ge => .GtE | .isin => .In | .notin => .NotIn
theorem cmp_ok (hu : X.A.units + 65 < cLine) (hw : T.w = X.w) (o : Cop) : OpR X (compareOp (copOf o)) (rCm X.K T o) := by
  cases o
  · exact eq_ok (by omega)
  · exact ne_ok (by omega)
  · exact lt_ok
  · exact le_ok
  · exact gt_ok (by omega)
  · exact ge_ok
  · exact in_ok hu hw
  · exact notin_ok hu hw
/-! ### truth, length, places -/
theorem tru_V {K : PySem.W.Frag} (R : Rel K T φ H h) {v : Val} {x : V} {b : Bool} (q : RV K T φ H v x) (e : tru h v = some b) : TruV K x H b := by
  have em : ∀ {vs : List Val} {xs : List V}, RVs K T φ H vs xs → (!xs.isEmpty) = !vs.isEmpty := fun {vs xs} r => by
    have := r.length
    cases vs <;> cases xs <;> simp_all
  have emk : ∀ {vs : List (PyI.Key × Val)} {xs : List (L2.Key × V)}, RKs K T kT φ H vs xs → (!xs.isEmpty) = !vs.isEmpty := fun {vs xs} r => by
    have := r.length
    cases vs <;> cases xs <;> simp_all
  cases v <;> simp only [tru, reduceCtorEq, Option.some.injEq] at e
  · rw [show x = _ from q]; exact e.symm
  · rw [show x = _ from q]; exact e.symm
  · rw [show x = _ from q]; exact e.symm
  · rename_i s
    rw [show x = _ from q]
    split at e
    · rename_i hl
      cases e
      refine ⟨by rw [toStr_length]; exact hl, ?_⟩
      rw [toStr_length]
      cases s <;> simp
      omega
    · cases e
  · obtain ⟨a, vs, rfl, p1, p2⟩ := q
    exact .inr (.inl ⟨vs, .of p1, by rw [em p2]; exact e.symm⟩)
  · rename_i n
    split at e
    · rename_i he; cases e
      obtain ⟨a, vs, rfl, _, p1, p2⟩ := R.lst q he
      exact .inl ⟨vs, .of p1, (em p2).symm⟩
    · rename_i he; cases e
      obtain ⟨a, vs, rfl, _, p1, p2⟩ := R.dik q he
      exact .inr (.inr ⟨vs, p1, (emk p2).symm⟩)
    · cases e
  · obtain ⟨a, vs, rfl, p1, p2⟩ := q
    exact .inl ⟨vs, p1.sq, by rw [em p2]; exact e.symm⟩
  · obtain ⟨a, vs, rfl, p1, p2⟩ := q
    exact .inr (.inl ⟨vs, p1.sq, by rw [em p2]; exact e.symm⟩)
theorem ix_txt {K : PySem.W.Frag} {z : Txt} {i : Int} {c : Char} (hc : nth z i = some c) : L2.atI (toStr z).cps.toList i = some c.toNat := by
  rw [nth_eq]
  unfold toStr nth at *
  simp only [List.toList_toArray, List.length_map, List.getElem?_map]
  split at hc <;> rename_i h0
  · rw [if_pos h0, hc]; rfl
  · rw [if_neg h0]
    split at hc <;> rename_i h1
    · rw [if_pos h1, hc]; rfl
    · cases hc
theorem call_lenR : CallR X (.builtin "len") (fun xs H Q => ∃ a kvs, xs = [V.ref a] ∧ Rd H a (.dK kvs) ∧ Q (.int kvs.length) H) := by
  intro pins s σ H xs us Q I r ⟨a, kvs, ex, ha, q⟩
  subst ex
  obtain ⟨u, rfl, ru⟩ := vals1 r
  cases ru
  exact d_len I ha fun t s' I' => ⟨.int kvs.length, H, I', ⟨t, rfl⟩, q⟩
end
end PyI
namespace PyI
open PySem PySem.Spec PyProof.Rows L2
/-! ### sorting -/
theorem insI_perm (x : Int) : ∀ ys, (insI x ys).Perm (x :: ys)
  | [] => .refl _
  | y :: ys => by
    unfold insI
    split
    · exact .refl _
    · exact ((insI_perm x ys).cons y).trans (.swap x y ys)
theorem srtI_perm : ∀ xs, (srtI xs).Perm xs
  | [] => .refl _
  | x :: xs => (insI_perm x (srtI xs)).trans ((srtI_perm xs).cons x)
theorem insI_sorted (x : Int) : ∀ ys, ys.Pairwise (· ≤ ·) → (insI x ys).Pairwise (· ≤ ·)
  | [], _ => by simp [insI]
  | y :: ys, p => by
    have p' := List.pairwise_cons.mp p
    unfold insI
    split
    · rename_i h
      refine List.pairwise_cons.mpr ⟨fun z hz => ?_, p⟩
      rcases List.mem_cons.mp hz with rfl | hz
      · exact h
      · exact Int.le_trans h (p'.1 z hz)
    · rename_i h
      refine List.pairwise_cons.mpr ⟨fun z hz => ?_, insI_sorted x ys p'.2⟩
      rcases List.mem_cons.mp ((insI_perm x ys).mem_iff.mp hz) with rfl | hz
      · omega
      · exact p'.1 z hz
theorem srtI_sorted : ∀ xs, (srtI xs).Pairwise (· ≤ ·)
  | [] => .nil
  | x :: xs => insI_sorted x _ (srtI_sorted xs)
theorem sorted_eq : ∀ {a b : List Int}, a.Perm b → a.Pairwise (· ≤ ·) → b.Pairwise (· ≤ ·) → a = b
  | [], b, p, _, _ => (List.nil_perm.mp p).symm
  | x :: a, [], p, _, _ => absurd p.length_eq (by simp)
  | x :: a, y :: b, p, h1, h2 => by
    have h1' := List.pairwise_cons.mp h1
    have h2' := List.pairwise_cons.mp h2
    have e : x = y := by
      have m1 : x ∈ y :: b := p.mem_iff.mp (by simp)
      have m2 : y ∈ x :: a := p.mem_iff.mpr (by simp)
      rcases List.mem_cons.mp m1 with e | m1
      · exact e
      · rcases List.mem_cons.mp m2 with e | m2
        · exact e.symm
        · exact Int.le_antisymm (h1'.1 y m2) (h2'.1 x m1)
    subst e
    rw [sorted_eq (List.perm_cons x |>.mp p) h1'.2 h2'.2]
theorem srtI_eq {ns ms : List Int} (p : ms.Perm ns) (s : ms.Pairwise (· ≤ ·)) : ms = srtI ns := sorted_eq (p.trans (srtI_perm ns).symm) s (srtI_sorted ns)
theorem sorted_eqG {α : Type} {le : α → α → Prop} (anti : ∀ a b, le a b → le b a → a = b) : ∀ {a b : List α}, a.Perm b → a.Pairwise le → b.Pairwise le → a = b
  | [], b, p, _, _ => (List.nil_perm.mp p).symm
  | x :: a, [], p, _, _ => absurd p.length_eq (by simp)
  | x :: a, y :: b, p, h1, h2 => by
    have h1' := List.pairwise_cons.mp h1
    have h2' := List.pairwise_cons.mp h2
    have e : x = y := by
      have m1 : x ∈ y :: b := p.mem_iff.mp (by simp)
      have m2 : y ∈ x :: a := p.mem_iff.mpr (by simp)
      rcases List.mem_cons.mp m1 with e | m1
      · exact e
      · rcases List.mem_cons.mp m2 with e | m2
        · exact e.symm
        · exact anti _ _ (h1'.1 y m2) (h2'.1 x m1)
    subst e
    rw [sorted_eqG anti (List.perm_cons x |>.mp p) h1'.2 h2'.2]
def leT (x y : Txt) : Prop := x.map Char.toNat ≤ y.map Char.toNat
theorem strLt_le {x y : Txt} : strLt x y = false ↔ leT y x := by
  unfold strLt leT
  rw [decide_eq_false_iff_not]
  exact List.not_lt
theorem leT_anti {a b : Txt} (h1 : leT a b) (h2 : leT b a) : a = b := map_toNat_inj (List.le_antisymm h1 h2)
theorem leT_trans {a b c : Txt} (h1 : leT a b) (h2 : leT b c) : leT a c := List.le_trans h1 h2
theorem insT_perm (x : Txt) : ∀ ys, (insT x ys).Perm (x :: ys)
  | [] => .refl _
  | y :: ys => by
    unfold insT
    split
    · exact ((insT_perm x ys).cons y).trans (.swap x y ys)
    · exact .refl _
theorem srtT_perm : ∀ xs, (srtT xs).Perm xs
  | [] => .refl _
  | x :: xs => (insT_perm x (srtT xs)).trans ((srtT_perm xs).cons x)
theorem insT_sorted (x : Txt) : ∀ ys, ys.Pairwise leT → (insT x ys).Pairwise leT
  | [], _ => by simp [insT]
  | y :: ys, p => by
    have p' := List.pairwise_cons.mp p
    unfold insT
    split
    · rename_i h
      refine List.pairwise_cons.mpr ⟨fun z hz => ?_, insT_sorted x ys p'.2⟩
      rcases List.mem_cons.mp ((insT_perm x ys).mem_iff.mp hz) with rfl | hz
      · rcases List.le_total (z.map Char.toNat) (y.map Char.toNat) with q | q
        · exact absurd h (by rw [strLt_le.mpr q]; simp)
        · exact q
      · exact p'.1 z hz
    · rename_i h
      have h' : leT x y := strLt_le.mp (by simpa using h)
      refine List.pairwise_cons.mpr ⟨fun z hz => ?_, p⟩
      rcases List.mem_cons.mp hz with rfl | hz
      · exact h'
      · exact leT_trans h' (p'.1 z hz)
theorem srtT_sorted : ∀ xs, (srtT xs).Pairwise leT
  | [] => .nil
  | x :: xs => insT_sorted x _ (srtT_sorted xs)
theorem ltCps_eq : ∀ (a b : List Nat), ltCps a b = decide (a < b)
  | [], [] => by simp [ltCps]
  | [], _ :: _ => by simp [ltCps]
  | _ :: _, [] => by simp [ltCps]
  | a :: r, b :: t => by
    rw [ltCps, ltCps_eq r t, Bool.eq_iff_iff]
    simp [List.cons_lt_cons_iff]
theorem risingS_le : ∀ {l : List Str} {p : Str}, PyProof.Rows.risingS p l = true → (p :: l).Pairwise (fun a b => a.cps.toList ≤ b.cps.toList)
  | [], p, _ => by simp
  | x :: r, p, h => by
    simp only [PyProof.Rows.risingS, Bool.and_eq_true, Bool.not_eq_true'] at h
    have ih := risingS_le h.2
    have hx : p.cps.toList ≤ x.cps.toList := by
      have := h.1
      rw [ltCps_eq, decide_eq_false_iff_not] at this
      exact List.not_lt.mp this
    have ih' := List.pairwise_cons.mp ih
    refine List.pairwise_cons.mpr ⟨fun z hz => ?_, ih⟩
    rcases List.mem_cons.mp hz with rfl | hz
    · exact hx
    · exact List.le_trans hx (ih'.1 z hz)
theorem srtT_eq {ts : List Txt} {ys : List Str} (p : ys.Perm (ts.map toStr)) (s : PyProof.Rows.sortedS ys = true) : ys = (srtT ts).map toStr := by
  have pw : ys.Pairwise (fun a b => a.cps.toList ≤ b.cps.toList) := by
    cases ys with
    | nil => exact .nil
    | cons x r => exact risingS_le s
  refine sorted_eqG (le := fun a b => a.cps.toList ≤ b.cps.toList) (fun a b h1 h2 => ?_) (p.trans ((srtT_perm ts).symm.map toStr)) pw ?_
  · have := List.le_antisymm h1 h2
    cases a; cases b
    simpa using this
  · rw [List.pairwise_map]
    refine (srtT_sorted ts).imp fun {a b} h => ?_
    unfold leT at h
    simpa [toStr] using h
section
variable {X : Cx} {T : Tab} {φ : Ix} {H : L2.Hp} {h : Mem} {Q : VK} {E : Nat → L2.Hp → Prop}
def rBl (K : PySem.W.Frag) (T : Tab) (b : Blt) : List V → L2.Hp → VK → Prop := fun xs H Q =>
  ∃ E vs φ h, Rel K T φ H h ∧ RVs K T φ H vs xs ∧ okR K T (RV K T) φ H Q E (bltV b vs h)
/-- a built-in that makes a container of one value -/
def rBc (K : PySem.W.Frag) (T : Tab) (f : Mem → Val → Option Con) : List V → L2.Hp → VK → Prop := fun xs H Q =>
  ∃ E v φ h, Rel K T φ H h ∧ RVs K T φ H [v] xs ∧ okR K T (RA K T) φ H Q E (pure h (f h v))
/-- .. of a container -/
def rBp (K : PySem.W.Frag) (T : Tab) (f : Mem → Con → Option Con) : List V → L2.Hp → VK → Prop := fun xs H Q =>
  ∃ E c a φ h, Rel K T φ H h ∧ CAt K T φ H c a ∧ xs = [.ref a] ∧ okR K T (RA K T) φ H Q E (pure h (f h c))
theorem rvs1 {K : PySem.W.Frag} {v : Val} {xs : List V} (q : RVs K T φ H [v] xs) : ∃ x, xs = [x] ∧ RV K T φ H v x := by
  obtain ⟨x, r, rfl, q1, q2⟩ := q
  rw [show r = [] from q2]; exact ⟨x, rfl, q1⟩
theorem rvs2 {K : PySem.W.Frag} {v u : Val} {xs : List V} (q : RVs K T φ H [v, u] xs) : ∃ x y, xs = [x, y] ∧ RV K T φ H v x ∧ RV K T φ H u y := by
  obtain ⟨x, r, rfl, q1, q2⟩ := q
  obtain ⟨y, rfl, q3⟩ := rvs1 q2
  exact ⟨x, y, rfl, q1, q3⟩
theorem call_lenSet : CallR X (.builtin "len") (fun xs H Q => ∃ (a : Addr) (S : Int → Bool) (n : Nat), xs = [V.ref a] ∧ H a = some (SetO X.w a S n) ∧ Q (.int n) H) := by
  intro pins s σ H xs us Q I r ⟨a, S, n, ex, ha, q⟩
  subst ex
  obtain ⟨u, rfl, ru⟩ := vals1 r
  cases ru
  obtain ⟨o, es, ep, t, ho, hex, hd, _, _, _, hb, hf, hn, _⟩ := setO_get I ha
  have hb' : es.size < scanBound := hb
  subst hn
  exact call_len_set ho hex hd hf (by have : scanBound ≤ 2 ^ 60 := by decide
                                      omega) ⟨.int es.size, H, I.tok _, ⟨_, rfl⟩, q⟩
theorem len_ok (hw : T.w = X.w) : CallR X (.builtin "len") (rBl X.K T .len) := by
  intro pins s σ H xs us Q I rx ⟨E, vs, φ, h, R, q, o⟩
  match vs, q, o with
  | [v], q, o =>
    obtain ⟨x, rfl, q1⟩ := rvs1 q
    obtain ⟨z, e, o⟩ := o.pure
    obtain ⟨n, hl, rfl⟩ := Option.map_eq_some_iff.mp e
    have viaC : (conV h v).bind clen = some n → wpAny (model X.prog X.w) X.A (call (.builtin "len") us) (EP X pins σ Q) X.xe s := fun hl => by
      obtain ⟨c, e1, e2⟩ := Option.bind_eq_some_iff.mp hl
      obtain ⟨a, rfl, ca⟩ := R.conV q1 e1
      cases c <;> simp only [clen, reduceCtorEq, Option.some.injEq] at e2
      · subst e2
        obtain ⟨ws, p1, p2⟩ := ca.sq
        exact call_len pins s σ H _ us Q I rx ⟨.ref a, _, rfl, .inl ⟨ws, p1, rfl⟩, by rw [p2.length]; exact o.ok R rfl⟩
      · subst e2
        obtain ⟨ws, p1, p2⟩ := ca.dk
        exact call_lenR pins s σ H _ us Q I rx ⟨a, ws, rfl, p1, by rw [p2.length]; exact o.ok R rfl⟩
      · subst e2
        obtain ⟨u, h0, ⟨S, rfl, hS⟩, hu'⟩ := ca
        clear h0
        have hu' := hu' rfl
        rw [hw] at hu'
        exact call_lenSet pins s σ H _ us Q I rx ⟨a, S, _, rfl, hu', o.ok R rfl⟩
    cases v <;> simp only [lenV] at hl
    case str z =>
      split at hl
      · rename_i hz; cases hl
        rw [show x = _ from q1] at rx
        exact call_len pins s σ H _ us Q I rx ⟨_, z.length, rfl, ⟨by rw [toStr_length]; exact hz, by rw [toStr_length]⟩, o.ok R rfl⟩
      · cases hl
    case tup ys =>
      cases hl
      obtain ⟨a, ws, rfl, p1, p2⟩ := q1
      exact call_len pins s σ H _ us Q I rx ⟨_, ys.length, rfl, .inr ⟨ws, .of p1, p2.length.symm⟩, o.ok R rfl⟩
    case kls ys =>
      cases hl
      obtain ⟨a, ws, rfl, p1, p2⟩ := q1
      exact call_len pins s σ H _ us Q I rx ⟨_, ys.length, rfl, .inl ⟨ws, p1.sq, p2.length.symm⟩, o.ok R rfl⟩
    case ktp ys =>
      cases hl
      obtain ⟨a, ws, rfl, p1, p2⟩ := q1
      exact call_len pins s σ H _ us Q I rx ⟨_, ys.length, rfl, .inr ⟨ws, p1.sq, p2.length.symm⟩, o.ok R rfl⟩
    all_goals exact viaC hl
  | [], q, o => exact False.elim o
  | v :: _ :: _, q, o => cases v <;> exact False.elim o
theorem int_ok : CallR X (.type "int") (rBl X.K T .int) := by
  intro pins s σ H xs us Q I rx ⟨E, vs, φ, h, R, q, o⟩
  match vs, q, o with
  | [.int i], q, o =>
    obtain ⟨x, rfl, q1⟩ := rvs1 q
    rw [show x = _ from q1] at rx
    exact call_int1 pins s σ H _ us Q I rx (.inl ⟨i, rfl, o.ok R rfl⟩)
  | [.bl k], q, o =>
    obtain ⟨x, rfl, q1⟩ := rvs1 q
    rw [show x = _ from q1] at rx
    exact call_int1 pins s σ H _ us Q I rx (.inr ⟨k, rfl, o.ok R rfl⟩)
  | [.non], q, o => exact False.elim o
  | [.str _], q, o => exact False.elim o
  | [.tup _], q, o => exact False.elim o
  | [.ktp _], q, o => exact False.elim o
  | [.kdk _], q, o => exact False.elim o
  | [.kls _], q, o => exact False.elim o
  | [.lst _], q, o => exact False.elim o
  | [.dik _], q, o => exact False.elim o
  | [.ins _ _], q, o => exact False.elim o
  | [.ref _], q, o => exact False.elim o
  | [.fn _], q, o => exact False.elim o
  | [], q, o => exact False.elim o
  | v :: _ :: _, q, o => cases v <;> exact False.elim o
theorem keys_R {K : PySem.W.Frag} : ∀ {kvs : List (PyI.Key × Val)} {ks : List (L2.Key × V)}, RKs K T kT φ H kvs ks → RVs K T φ H (kvs.map fun kv => kval kv.1) (ks.map fun kv => kV kv.1)
  | [], _, q => by rw [show _ = [] from q]; rfl
  | p :: r, ks, q => by
    obtain ⟨x, s, rfl, _, q2⟩ := q
    refine ⟨_, _, rfl, ?_, keys_R q2⟩
    obtain ⟨k, v⟩ := p
    cases k <;> simp [kT, kval, kV, RV]
theorem max2_ok (hc : X.calm = true) : CallR X (.builtin "max") (rBl X.K T .max2) := by
  intro pins s σ H xs us Q I rx ⟨E, vs, φ, h, R, q, o⟩
  unfold bltV at o
  split at o <;> first | contradiction | skip
  all_goals first
    | exact False.elim o
    | (rename_i i j _
       obtain ⟨x, y, rfl, q1, q2⟩ := rvs2 q
       rw [show x = _ from q1, show y = _ from q2] at rx
       refine call_max2 hc pins s σ H _ us Q I rx ⟨i, j, rfl, ?_⟩
       have e : (if j > i then j else i) = max i j := by omega
       rw [e]; exact o.ok R rfl)
theorem min2_ok (hc : X.calm = true) : CallR X (.builtin "min") (rBl X.K T .min2) := by
  intro pins s σ H xs us Q I rx ⟨E, vs, φ, h, R, q, o⟩
  unfold bltV at o
  split at o <;> first | contradiction | skip
  all_goals first
    | exact False.elim o
    | (rename_i i j _
       obtain ⟨x, y, rfl, q1, q2⟩ := rvs2 q
       rw [show x = _ from q1, show y = _ from q2] at rx
       refine call_min2 hc pins s σ H _ us Q I rx ⟨i, j, rfl, ?_⟩
       have e : (if j < i then j else i) = min i j := by omega
       rw [e]; exact o.ok R rfl)
theorem sum_ok (hc : X.calm = true) : CallR X (.builtin "sum") (rBl X.K T .sum) := by
  intro pins s σ H xs us Q I rx ⟨E, vs, φ, h, R, q, o⟩
  match vs, q, o with
  | [v], q, o =>
    obtain ⟨x, rfl, q1⟩ := rvs1 q
    have o : okR X.K T (RV X.K T) φ H Q E (pure h (((lsA h v).bind (·.mapM intOf)).map fun ns => Val.int ns.sum)) := by cases v <;> exact o
    obtain ⟨z, e, o⟩ := o.pure
    obtain ⟨ns, e1, rfl⟩ := Option.map_eq_some_iff.mp e
    obtain ⟨ys, hl, e2⟩ := Option.bind_eq_some_iff.mp e1
    obtain ⟨a, ws, rfl, p1, p2⟩ := R.lsA q1 hl
    rw [p2.ints e2] at p1
    exact cr_sum hc pins s σ H _ us Q I rx ⟨a, ns, rfl, p1, o.ok R rfl⟩
  | [], q, o => exact False.elim o
  | v :: _ :: _, q, o => cases v <;> exact False.elim o
theorem maxI_is {ns : List Int} {m k : Int} (e : maxI ns = some m) (hk : k ∈ ns) (hb : ∀ y, y ∈ ns → y ≤ k) : k = m := by
  cases ns with
  | nil => cases hk
  | cons x xs =>
    have g : ∀ (xs : List Int) (x : Int), (∀ y ∈ x :: xs, y ≤ xs.foldl max x) ∧ xs.foldl max x ∈ x :: xs := by
      intro xs
      induction xs with
      | nil => intro x; simp
      | cons y r ih =>
        intro x
        obtain ⟨h1, h2⟩ := ih (max x y)
        rw [List.foldl_cons]
        refine ⟨fun z hz => ?_, ?_⟩
        · have hm := h1 (max x y) (by simp)
          rcases List.mem_cons.mp hz with rfl | hz
          · exact Int.le_trans (Int.le_max_left _ _) hm
          · rcases List.mem_cons.mp hz with rfl | hz
            · exact Int.le_trans (Int.le_max_right _ _) hm
            · exact h1 z (by simp [hz])
        · rcases List.mem_cons.mp h2 with h2 | h2
          · rw [h2]
            rcases Int.le_total x y with q | q
            · rw [Int.max_eq_right q]; simp
            · rw [Int.max_eq_left q]; simp
          · simp [h2]
    obtain ⟨h1, h2⟩ := g xs x
    have em : m = xs.foldl max x := by simpa [maxI] using e.symm
    rw [em]
    exact Int.le_antisymm (h1 k hk) (hb _ h2)
theorem max1_ok (hc : X.calm = true) : CallR X (.builtin "max") (rBl X.K T .max1) := by
  intro pins s σ H xs us Q I rx ⟨E, vs, φ, h, R, q, o⟩
  match vs, q, o with
  | [v], q, o =>
    obtain ⟨x, rfl, q1⟩ := rvs1 q
    have o : okR X.K T (RV X.K T) φ H Q E (pure h (((lsA h v).bind (·.mapM intOf)).bind fun ns => (maxI ns).map Val.int)) := by cases v <;> exact o
    obtain ⟨z, e, o⟩ := o.pure
    obtain ⟨ns, e1, e3⟩ := Option.bind_eq_some_iff.mp e
    obtain ⟨m, e3', rfl⟩ := Option.map_eq_some_iff.mp e3
    obtain ⟨ys, hl, e2⟩ := Option.bind_eq_some_iff.mp e1
    obtain ⟨a, ws, rfl, p1, p2⟩ := R.lsA q1 hl
    rw [p2.ints e2] at p1
    refine cr_max hc pins s σ H _ us Q I rx ⟨a, ns, rfl, p1, ?_, fun k hk hb => ?_⟩
    · cases ns with
      | nil => cases e3
      | cons _ _ => simp
    · rw [maxI_is e3' hk hb]; exact o.ok R rfl
  | [], q, o => exact False.elim o
  | v :: _ :: _, q, o => cases v <;> exact False.elim o
theorem tup_ok : CallR X (.type "tuple") (rBl X.K T .tup) := by
  intro pins s σ H xs us Q I rx ⟨E, vs, φ, h, R, q, o⟩
  match vs, q, o with
  | [v], q, o =>
    obtain ⟨x, rfl, q1⟩ := rvs1 q
    have viaL : okR X.K T (RV X.K T) φ H Q E (pure h ((lsA h v).map Val.tup)) → wpAny (model X.prog X.w) X.A (call (.type "tuple") us) (EP X pins σ Q) X.xe s := fun o => by
      obtain ⟨z, e, o⟩ := o.pure
      obtain ⟨ys, hl, rfl⟩ := Option.map_eq_some_iff.mp e
      obtain ⟨a, ws, rfl, p1, p2⟩ := R.lsA q1 hl
      exact call_tuple_of pins s σ H _ us Q I rx ⟨a, ws, rfl, .inl ⟨p1, okR.newT o R p2⟩⟩
    cases v <;> first | exact viaL o | skip
    rename_i ys
    obtain ⟨a, ws, rfl, p1, p2⟩ := id q1
    exact call_tuple_of pins s σ H _ us Q I rx ⟨a, ws, rfl, .inr ⟨.of p1, okR.ok (v := Val.tup ys) o R q1⟩⟩
  | [], q, o => exact False.elim o
  | v :: _ :: _, q, o => cases v <;> exact False.elim o
theorem ord_ok : CallR X (.builtin "ord") (rBl X.K T .ord) := by
  intro pins s σ H xs us Q I rx ⟨E, vs, φ, h, R, q, o⟩
  unfold bltV at o
  split at o <;> first | contradiction | skip
  all_goals first
    | exact False.elim o
    | (obtain ⟨x, rfl, q1⟩ := rvs1 q
       rw [show x = _ from q1] at rx
       refine call_ord pins s σ H _ us Q I rx ⟨_, rfl, by rw [toStr_length]; rfl, ?_⟩
       exact o.ok R rfl)
theorem str_toStr (i : Int) : Str.ofString (toString i) = toStr (strI i) := by
  rw [Str.ofString_eq_toList]; rfl
theorem str_ok : CallR X (.type "str") (rBl X.K T .str) := by
  intro pins s σ H xs us Q I rx ⟨E, vs, φ, h, R, q, o⟩
  unfold bltV at o
  split at o <;> first | contradiction | skip
  all_goals first
    | exact False.elim o
    | (obtain ⟨x, rfl, q1⟩ := rvs1 q
       rw [show x = _ from q1] at rx
       split at o
       · rename_i hl
         refine call_str_int pins s σ H _ us Q I rx ⟨_, rfl, hl, ?_⟩
         refine o.ok R ?_
         show V.str _ = V.str _
         rw [← str_toStr]
       · exact False.elim o)
    | (obtain ⟨x, rfl, q1⟩ := rvs1 q
       rw [show x = _ from q1] at rx
       exact SkE.call_str_str pins s σ H _ us Q I rx ⟨_, rfl, o.ok R rfl⟩)
/-! ### new containers -/
theorem cLof_ok (hc : X.calm = true) : CallR X (.type "list") (rBp X.K T cLof) := by
  intro pins s σ H xs us Q I rx ⟨E, c, a, φ, h, R, ca, ex, o⟩
  subst ex
  obtain ⟨d, e, o⟩ := o.pure
  cases c <;> simp only [cLof, reduceCtorEq, Option.some.injEq] at e <;> subst e
  · obtain ⟨ws, p1, p2⟩ := ca.sq
    exact call_list_of pins s σ H _ us Q I rx ⟨a, ws, rfl, .inl p1, o.newL R p2⟩
  · obtain ⟨ws, p1, p2⟩ := ca.dk
    exact call_listD hc pins s σ H _ us Q I rx ⟨a, ws, rfl, p1, o.newL R (keys_R p2)⟩
theorem lof_ok (hc : X.calm = true) : CallR X (.type "list") (rBc X.K T lofV) := by
  intro pins s σ H xs us Q I rx ⟨E, v, φ, h, R, q, o⟩
  obtain ⟨x, rfl, q1⟩ := rvs1 q
  obtain ⟨d, e, o⟩ := o.pure
  have viaC : (conV h v).bind (cLof h) = some d → wpAny (model X.prog X.w) X.A (call (.type "list") us) (EP X pins σ Q) X.xe s := fun e => by
    obtain ⟨c, e1, e2⟩ := Option.bind_eq_some_iff.mp e
    obtain ⟨a, rfl, ca⟩ := R.conV q1 e1
    exact cLof_ok (T := T) hc pins s σ H _ us Q I rx ⟨E, c, a, φ, h, R, ca, rfl, (show okR X.K T (RA X.K T) φ H Q E (pure h (_ : Option Con)) from (congrArg (fun z => okR X.K T (RA X.K T) φ H Q E (pure h z)) e2).mpr o)⟩
  cases v <;> first | exact viaC e | skip
  simp only [lofV, Option.some.injEq] at e
  subst e
  obtain ⟨a, ws, rfl, p1, p2⟩ := q1
  exact call_list_of pins s σ H _ us Q I rx ⟨a, ws, rfl, .inr (.of p1), o.newL R p2⟩
theorem cDof_ok : CallR X (.type "dict") (rBp X.K T fun _ => cDof) := by
  intro pins s σ H xs us Q I rx ⟨E, c, a, φ, h, R, ca, ex, o⟩
  subst ex
  obtain ⟨d, e, o⟩ := o.pure
  cases c <;> simp only [cDof, reduceCtorEq, Option.some.injEq] at e
  subst e
  obtain ⟨ws, p1, p2⟩ := ca.dk
  exact call_dictD pins s σ H _ us Q I rx ⟨a, ws, rfl, p1, okR.newA (o := fun _ _ => .dK ws) o R fun p hp => ⟨ws, rfl, p2.mono (ext_tup R hp)⟩⟩
theorem dof_ok : CallR X (.type "dict") (rBc X.K T dofV) := by
  intro pins s σ H xs us Q I rx ⟨E, v, φ, h, R, q, o⟩
  obtain ⟨x, rfl, q1⟩ := rvs1 q
  obtain ⟨d, e, o⟩ := o.pure
  obtain ⟨c, e1, e2⟩ := Option.bind_eq_some_iff.mp e
  obtain ⟨a, rfl, ca⟩ := R.conV q1 e1
  exact cDof_ok (T := T) pins s σ H _ us Q I rx ⟨E, c, a, φ, h, R, ca, rfl, (show okR X.K T (RA X.K T) φ H Q E (pure h (_ : Option Con)) from (congrArg (fun z => okR X.K T (RA X.K T) φ H Q E (pure h z)) e2).mpr o)⟩
theorem srtR_ok : CallRK X (.builtin "sorted") [Str.ofString "reverse"] (fun xs zs H Q => zs = [.bl true] ∧ rBc X.K T srtRV xs H Q) := by
  intro pins s σ H xs zs us ws Q I rx rz ⟨ez, E, v, φ, h, R, q, o⟩
  obtain ⟨x, rfl, q1⟩ := rvs1 q
  obtain ⟨d, e, o⟩ := o.pure
  obtain ⟨ns, e1, rfl⟩ := Option.map_eq_some_iff.mp e
  obtain ⟨ys, hl, e2⟩ := Option.bind_eq_some_iff.mp e1
  obtain ⟨a, vs, rfl, p1, p2⟩ := R.lsA q1 hl
  rw [p2.ints e2] at p1
  refine cr_sortedRev (b := true) pins s σ H _ zs us ws Q I rx rz ⟨a, ns, rfl, ez, p1, fun ns' p pm od hp => ?_⟩
  have e2 : ns' = (srtI ns).reverse := by
    have : ns'.reverse = srtI ns := srtI_eq ((List.reverse_perm ns').trans pm) (List.pairwise_reverse.mpr od)
    rw [← this, List.reverse_reverse]
  rw [e2]
  exact o.newL R (RVs.of_ints _) p hp
theorem srtVs_cases {xs : List Val} {d : Con} (e : srtVs xs = some d) : (∃ ns, xs.mapM intOf = some ns ∧ d = .lst ((srtI ns).map .int)) ∨ (∃ ts, xs.mapM strOf = some ts ∧ ts.length < 64 ∧ d = .lst ((srtT ts).map .str)) := by
  unfold srtVs at e
  split at e
  · cases e; exact .inl ⟨_, by assumption, rfl⟩
  · split at e
    · split at e <;> cases e
      exact .inr ⟨_, by assumption, by assumption, rfl⟩
    · cases e
theorem keys_inl : ∀ (l : List (L2.Key × V)) (m : List Int), (l.map fun kv => kV kv.1) = m.map V.int → l.map (·.1) = m.map Sum.inl
  | [], m, hm => by cases m <;> simp_all
  | a :: l, m, hm => by
    cases m with
    | nil => simp at hm
    | cons b m =>
      simp only [List.map_cons, List.cons.injEq] at hm ⊢
      refine ⟨?_, keys_inl l m hm.2⟩
      cases ha : a.1 <;> rw [ha] at hm <;> simp [kV] at hm
      rw [hm.1]
theorem keys_inr : ∀ (l : List (L2.Key × V)) (m : List Str), (l.map fun kv => kV kv.1) = m.map V.str → l.map (·.1) = m.map Sum.inr
  | [], m, hm => by cases m <;> simp_all
  | a :: l, m, hm => by
    cases m with
    | nil => simp at hm
    | cons b m =>
      simp only [List.map_cons, List.cons.injEq] at hm ⊢
      refine ⟨?_, keys_inr l m hm.2⟩
      cases ha : a.1 <;> rw [ha] at hm <;> simp [kV] at hm
      rw [hm.1]
theorem mapM_len {α : Type} {f : Val → Option α} : ∀ {xs : List Val} {ns : List α}, xs.mapM f = some ns → ns.length = xs.length
  | [], ns, e => by simp at e; subst e; rfl
  | x :: xs, ns, e => by
    rw [List.mapM_cons] at e
    cases hx : f x with
    | none => rw [hx] at e; cases e
    | some y =>
      cases hm : xs.mapM f with
      | none => rw [hx, hm] at e; cases e
      | some m => rw [hx, hm] at e; cases e; simp [mapM_len hm]
/-- sorted(d), keys that are ints, any number of them -/
theorem srt_dict_ints (cm : X.calm = true) : CallR X (.builtin "sorted") (fun vs G R => ∃ (m : Addr) (ps : List (L2.Key × V)) (ns : List Int), vs = [.ref m] ∧ Rd G m (.dK ps) ∧ ps.map (·.1) = ns.map Sum.inl ∧ ns.length ≤ 16777216 ∧
    ∀ (zs : List Int) (q : Addr), zs.Perm ns → zs.Pairwise (· ≤ ·) → G q = none → R (.ref q) (upd G q (.lst (zs.map V.int)))) := by
  rintro pins s σ G vs us R I r ⟨m, ps, ns, rfl, hm, hn, lim, go⟩
  obtain ⟨u, rfl, ru⟩ := vals1 r
  cases ru
  obtain ⟨z0, lo, qs, rl, dd⟩ := dk_rd I.hok hm
  obtain ⟨ep, hat⟩ := dd.dictAt
  have kq : qs.map (·.1) = ns.map Sum.inl := rl.keys.symm.trans hn
  have lq : qs.length = ns.length := by simpa using congrArg List.length kq
  have small : qs.length ≤ sizeLine := by rw [lq, sizeLine_eq]; exact lim
  refine Calls.call_function_entry PyProof.Rows.kind_sorted PyProof.Rows.plain_sorted PyProof.Rows.entry_sorted (PyProof.Rows.args_sorted1 _) (?_ : wpAny _ _ _ _ _ _)
  unfold Builtin.«sorted»
  refine wpAny_bind (m := checkCount "sorted" 1 1 _) (wpAny_pure (?_ : wpAny _ _ _ _ _ _))
  refine wpAny_bind (PySem.W.kdu_collect (A := X.A.in1) (PySem.W.kdl_dict (knd := mixKind X.prog X.w) (kvs := qs) (ep := ep) lo) (I.ok.hd cm) hat small fun hh tn row kept rowIs => ?_)
  have rn : row.toList.length = ns.length := by rw [Array.length_toList, rowIs.1, lq]
  have areI : IntsAre row.toList ns := ints_each rn fun i w e => by
    obtain ⟨k, y, e1, e2⟩ := rowIs.2 i w (by rw [← Array.getElem?_toList]; exact e)
    have e3 : (qs.map (·.1))[i]? = some k := by rw [List.getElem?_map, e1]; rfl
    rw [kq, List.getElem?_map] at e3
    obtain ⟨n, hn1, hn2⟩ := Option.map_eq_some_iff.mp e3
    subst hn2
    obtain ⟨i2, t, ek, ev⟩ | ⟨w2, t, ek, ev⟩ := keyIs_shape (show keyIs (Sum.inl n) w = true from e2)
    · cases ek; exact ⟨n, t, hn1, ev⟩
    · cases ek
  have I1 : Inv X pins σ G { s with heap := hh, toks := tn } := I.kept kept
  refine wpAny_bind (wpAny_newList ?_ (by rw [rn, sizeLine_eq]; exact lim))
  have top : (hh.push (seqObj "list" row.toList.toArray 0)).get? hh.objs.size = some (seqObj "list" row.toList.toArray 0) := Heap.get?_push_size _ rfl
  show wpAny _ _ _ _ _ { s with heap := hh.push (seqObj "list" row.toList.toArray 0), toks := tn }
  refine wpAny_bind (wpAny_holding (wpAny_call_entry PyProof.Rows.slot_list_sort ⟨_, top, rfl⟩ PyProof.Rows.entry_list_sort
    (SrtO.list_sort_ord (s := { s with heap := hh.push (seqObj "list" row.toList.toArray 0), toks := tn }) SrtO.swo_int top (by rw [rn, sizeLine_eq]; exact lim) (fun two => SrtO.ints_sortable areI two) fun out o1 o2 => ⟨_, rfl, ?_⟩) (PyProof.Rows.args_list_sort _)))
  obtain ⟨k1, k2, k3⟩ := SrtO.ints_out areI o1 o2
  obtain ⟨ep2, at2⟩ := PyProof.Rows.sortedHeap_at (vs := row.toList) (out := out.toArray) top
  have fits : ((out.map SrtO.iv).map V.int).length ≤ sizeLine := by rw [List.length_map, k2.length_eq, sizeLine_eq]; exact lim
  refine wpAny_pure ⟨_, rfl, .ref hh.objs.size, upd G hh.objs.size (.lst ((out.map SrtO.iv).map V.int)), I1.laid (t' := tn) (fun b w e => ?_) (Nat.le_refl _) (show ObjOk X.prog X.w _ _ _ (.lst ((out.map SrtO.iv).map V.int)) from ⟨fits, out, ep2, vals_of_ints k1, at2⟩), rfl, go _ _ k2 k3 (I1.hok.fresh (Nat.le_refl _))⟩
  have below : b < hh.objs.size := Heap.lt_size e
  rw [PyProof.Rows.sortedHeap_old (Nat.ne_of_lt below) (by rw [size_push']; exact Nat.lt_succ_of_lt below)]
  exact Heap.get?_push_of_some _ e
theorem cSrt_ok (hc : X.calm = true) : CallR X (.builtin "sorted") (rBp X.K T fun _ => cSrt) := by
  intro pins s σ H xs us Q I rx ⟨E, c, a, φ, h, R, ca, ex, o⟩
  subst ex
  obtain ⟨d, e, o⟩ := o.pure
  cases c <;> simp only [cSrt, reduceCtorEq] at e
  · obtain ⟨ws, p1, p2⟩ := ca.sq
    rcases srtVs_cases e with ⟨ns, e1, rfl⟩ | ⟨ts, e1, hl, rfl⟩
    · rw [p2.ints e1] at p1
      refine cr_sortedI pins s σ H _ us Q I rx ⟨a, ns, rfl, p1, fun ns' p pm od hp => ?_⟩
      rw [srtI_eq pm od]
      exact o.newL R (RVs.of_ints _) p hp
    · rw [p2.strs e1] at p1
      refine cr_sortedS pins s σ H _ us Q I rx ⟨a, ts.map toStr, rfl, by rw [List.map_map]; exact p1, by simpa using hl, fun ys p pm od hp => ?_⟩
      rw [srtT_eq pm od, List.map_map]
      exact o.newL R (RVs.of_strs _) p hp
  · obtain ⟨ks, p1, p2⟩ := ca.dk
    split at e <;> try cases e
    rename_i hl
    rcases srtVs_cases e with ⟨ns, e1, rfl⟩ | ⟨ts, e1, hl2, rfl⟩
    · have e3 := keys_inl _ _ ((keys_R p2).ints e1)
      refine srt_dict_ints hc pins s σ H _ us Q I rx ⟨a, ks, ns, rfl, p1, e3, by rw [mapM_len e1]; rw [List.length_map]; exact hl, fun ns' p pm od hp => ?_⟩
      rw [srtI_eq pm od]
      exact o.newL R (RVs.of_ints _) p hp
    · have e3 := keys_inr ks (ts.map toStr) (by rw [(keys_R p2).strs e1, List.map_map]; rfl)
      refine call_sortedD hc pins s σ H _ us Q I rx ⟨a, ks, _, rfl, p1, e3, by simpa using hl2, fun ys p pm od hp => ?_⟩
      rw [srtT_eq pm od, List.map_map]
      exact o.newL R (RVs.of_strs _) p hp
theorem srt_ok (hc : X.calm = true) : CallR X (.builtin "sorted") (rBc X.K T srtV) := by
  intro pins s σ H xs us Q I rx ⟨E, v, φ, h, R, q, o⟩
  obtain ⟨x, rfl, q1⟩ := rvs1 q
  obtain ⟨d, e, o⟩ := o.pure
  obtain ⟨c, e1, e2⟩ := Option.bind_eq_some_iff.mp e
  obtain ⟨a, rfl, ca⟩ := R.conV q1 e1
  exact cSrt_ok (T := T) hc pins s σ H _ us Q I rx ⟨E, c, a, φ, h, R, ca, rfl, (show okR X.K T (RA X.K T) φ H Q E (pure h (_ : Option Con)) from (congrArg (fun z => okR X.K T (RA X.K T) φ H Q E (pure h z)) e2).mpr o)⟩
end
end PyI
namespace PyI
open PySem PySem.Spec PyProof.Rows L2
/-! ### calls, what they raise wished for at the caller's slots -/
section
variable {X : Cx} {CX : CXT} {k : Nat} {f C : Addr} {fd : FuncData} {ps : List Str} {sp : Sp} {E : L2.St → XK} {x m : Str} {p pos apos : Pos} {e o : Expr} {es : List Expr} {ta : TE} {t : TA}
theorem pe_callS0 (F : FnOk X.prog X.w X.K X.mg X.base CX k f fd ps sp) (hr : Room k X.A) (hg : Gl X x) (hm : X.mg x = some (.ref f)) (hk : PySem.W.keepIn X.K (.ref f) = true) (hb : Binds X.K fd ps []) (hx : ∀ σ, PassesAt CX X σ (E σ))
    (hdb : (x == ("__debug__" : Str)) = false) : PE X (.Call (.Name x p) [] [] pos) (tCallS sp E tNil) := by
  refine ⟨fun pins s σ H Q I h => ?_⟩
  refine wpAny_Call_Name_kw (ld_glob I hg hm ?_ hdb)
  exact PySem.W.callWith_K0 I.kIn hk (run_fnS (us := []) F hr hb (hx σ) I .nil h)
def tMethS (C : Addr) (m : Str) (sp : Sp) (E : L2.St → XK) (ta : TE) (t : TA) : TE := fun σ H Q => ta σ H fun x H1 => ∃ a dx fs, x = .ref a ∧ H1 a = some (.ins C dx fs) ∧ fs.lookup m = none ∧
  t σ H1 fun vs H2 => sp (x :: vs) H2 Q (E σ)
theorem pe_methS' {pl : Sem Bool} (he : PE X o ta) (c : Cls X.K C) (hm : Meth X.K C m f) (F : FnOk X.prog X.w X.K X.mg X.base CX k f fd ps sp) (hr : Room k X.A) (hb : Binds X.K fd ps []) (hx : ∀ σ, PassesAt CX X σ (E σ)) (ha : PA X (e :: es) t)
    (hst : starEach (e :: es) X.env = (false, eval e X.env) :: starEach es X.env) (hpl : (backTo pos (starEach es X.env)).any (·.1) = false)
    (ht : eval (.Call (.Attribute o m apos) (e :: es) [] pos) X.env = (do
      let ov ← eval o X.env
      standAt apos.atName
      let (f, first) ← holding [ov] (getMethod ov m pl)
      callWith pos f first (backTo pos (starEach (e :: es) X.env)) (backToKw pos (keywordEach [] X.env)))) :
    PE X (.Call (.Attribute o m apos) (e :: es) [] pos) (tMethS C m sp E ta t) := by
  refine ⟨fun pins s σ H Q I h => ?_⟩
  refine PySem.W.methodCall_KW (pl := pl) (thn (he.run pins s σ H _ I h) fun u s1 ⟨x, H1, I1, rx, a, dx, fs, ex, ea, l, q⟩ => ?_) ht
  subst ex
  obtain rfl : u = Value.ref a := rx
  refine getmeth_ok I1 ea c hm l ?_
  refine PySem.W.callWith_K (first := [.ref a]) (h₀ := X.base) I.ok.mod.kin hm.kp (thn (ha.run pos pins s1 σ H1 _ I1 q) fun us s2 ⟨vs, H2, I2, r, q2⟩ => ⟨I2.kIn, ?_⟩) hst hpl
  exact run_fnS (us := .ref a :: us) (vs := .ref a :: vs) F hr hb (hx σ) I2 (.cons rfl r) q2
theorem pe_methS0 {pl : Sem Bool} (he : PE X o ta) (c : Cls X.K C) (hm : Meth X.K C m f) (F : FnOk X.prog X.w X.K X.mg X.base CX k f fd ps sp) (hr : Room k X.A) (hb : Binds X.K fd ps []) (hx : ∀ σ, PassesAt CX X σ (E σ))
    (ht : eval (.Call (.Attribute o m apos) [] [] pos) X.env = (do
      let ov ← eval o X.env
      standAt apos.atName
      let (f, first) ← holding [ov] (getMethod ov m pl)
      callWith pos f first (backTo pos (starEach [] X.env)) (backToKw pos (keywordEach [] X.env)))) :
    PE X (.Call (.Attribute o m apos) [] [] pos) (tMethS C m sp E ta tNil) := by
  refine ⟨fun pins s σ H Q I h => ?_⟩
  refine PySem.W.methodCall_KW (pl := pl) (thn (he.run pins s σ H _ I h) fun u s1 ⟨x, H1, I1, rx, a, dx, fs, ex, ea, l, q⟩ => ?_) ht
  subst ex
  obtain rfl : u = Value.ref a := rx
  refine getmeth_ok I1 ea c hm l ?_
  exact PySem.W.callWith_K0 (first := [.ref a]) I1.kIn hm.kp (run_fnS (us := [.ref a]) (vs := [.ref a]) F hr hb (hx σ) I1 (.cons rfl .nil) q)
/-! ### keyword-only parameters, static methods -/
theorem run_fnNS {n : Nat} {ks : List Str} {g : List Value → List Value → List Value} {gV : List V → List V → List V} {pins : List (Addr × Obj)} {σ : L2.St} {H : L2.Hp} {s : Shared} {Q : VK} {us ws : List Value} {vs zs : List V} (F : FnOk X.prog X.w X.K X.mg X.base CX k f fd ps sp) (hr : Room k X.A) (hb : KBn X.K fd ps n ks g gV) (hx : PassesAt CX X σ (E σ))
    (I : Inv X pins σ H s) (r : Vals vs us) (rz : Vals zs ws) (l1 : vs.length = n) (l2 : zs.length = ks.length) (h : sp (gV vs zs) H Q (E σ)) : wpAny (model X.prog X.w) X.A (call (.ref f) us (ks.zip ws)) (EP X pins σ Q) X.xe s := by
  have r2 := hb.rel r rz
  refine wpAny_call (codeAny_mono (F.run X.A X.stack s H ⟨us, ks.zip ws⟩ (g us ws) (gV vs zs) Q (E σ) hr I.env0 (hb.to s us ws I.kIn (r.length.symm.trans l1) (rz.length.symm.trans l2)) r2 h) fun r s' hq => ?_)
  cases r with
  | error e => exact hx pins H s e s' I hq
  | ok fl =>
    cases fl with
    | ret u => exact I.after hq
    | next => exact False.elim hq
    | brk => exact False.elim hq
    | cont => exact False.elim hq
def tMethKS (C : Addr) (m : Str) (n j : Nat) (sp : Sp) (gV : List V → List V → List V) (E : L2.St → XK) (ta : TE) (t tk : TA) : TE := fun σ H Q => ta σ H fun x H1 => ∃ a dx fs, x = .ref a ∧ H1 a = some (.ins C dx fs) ∧ fs.lookup m = none ∧
  t σ H1 fun vs H2 => tk σ H2 fun zs H3 => (x :: vs).length = n ∧ zs.length = j ∧ sp (gV (x :: vs) zs) H3 Q (E σ)
theorem pe_methKS {n : Nat} {ks : List Str} {g : List Value → List Value → List Value} {gV : List V → List V → List V} {kws : List Keyword} {tk : TA} {pl : Sem Bool} (he : PE X o ta) (c : Cls X.K C) (hm : Meth X.K C m f) (F : FnOk X.prog X.w X.K X.mg X.base CX k f fd ps sp) (hr : Room k X.A) (hb : KBn X.K fd ps n ks g gV) (hx : ∀ σ, PassesAt CX X σ (E σ)) (ha : PA X (e :: es) t) (hk : PK X kws tk)
    (hall : (backToKw pos (keywordEach kws X.env)).all (·.1.isSome) = true) (hks : (backToKw pos (keywordEach kws X.env)).filterMap (·.1) = ks)
    (hst : starEach (e :: es) X.env = (false, eval e X.env) :: starEach es X.env) (hpl : ((backTo pos (starEach (e :: es) X.env)).any (·.1) || (backToKw pos (keywordEach kws X.env)).any (·.1.isNone)) = false)
    (ht : eval (.Call (.Attribute o m apos) (e :: es) kws pos) X.env = (do
      let ov ← eval o X.env
      standAt apos.atName
      let (f, first) ← holding [ov] (getMethod ov m pl)
      callWith pos f first (backTo pos (starEach (e :: es) X.env)) (backToKw pos (keywordEach kws X.env)))) :
    PE X (.Call (.Attribute o m apos) (e :: es) kws pos) (tMethKS C m n ks.length sp gV E ta t tk) := by
  refine ⟨fun pins s σ H Q I h => ?_⟩
  refine PySem.W.methodCall_KW (pl := pl) (thn (he.run pins s σ H _ I h) fun u s1 ⟨x, H1, I1, rx, a, dx, fs, ex, ea, l, q⟩ => ?_) ht
  subst ex
  obtain rfl : u = Value.ref a := rx
  refine getmeth_ok I1 ea c hm l ?_
  refine PySem.W.callWith_KW (first := [.ref a]) (h₀ := X.base) I.ok.mod.kin hm.kp hall (thn (ha.run pos pins s1 σ H1 _ I1 q) fun us s2 ⟨vs, H2, I2, r, q2⟩ => thn (hk.run pos pins s2 σ H2 _ I2 q2) fun ws s3 ⟨zs, H3, I3, rz, l1, l2, q3⟩ => ⟨I3.kIn, ?_⟩) hpl hst
  rw [hks]
  exact run_fnNS (us := .ref a :: us) (vs := .ref a :: vs) F hr hb (hx σ) I3 (.cons rfl r) rz l1 l2 q3
def tMethDS (C : Addr) (m : Str) (dvs : List V) (sp : Sp) (E : L2.St → XK) (ta : TE) (t : TA) : TE := fun σ H Q => ta σ H fun x H1 => ∃ a dx fs, x = .ref a ∧ H1 a = some (.ins C dx fs) ∧ fs.lookup m = none ∧
  t σ H1 fun vs H2 => sp ((x :: vs) ++ dvs) H2 Q (E σ)
theorem pe_methDS {dvs : List V} {ds : List Value} {pl : Sem Bool} (he : PE X o ta) (c : Cls X.K C) (hm : Meth X.K C m f) (F : FnOk X.prog X.w X.K X.mg X.base CX k f fd ps sp) (hr : Room k X.A) (hb : Binds X.K fd ps ds) (hd : Vals dvs ds) (hx : ∀ σ, PassesAt CX X σ (E σ)) (ha : PA X (e :: es) t)
    (hst : starEach (e :: es) X.env = (false, eval e X.env) :: starEach es X.env) (hpl : (backTo pos (starEach es X.env)).any (·.1) = false)
    (ht : eval (.Call (.Attribute o m apos) (e :: es) [] pos) X.env = (do
      let ov ← eval o X.env
      standAt apos.atName
      let (f, first) ← holding [ov] (getMethod ov m pl)
      callWith pos f first (backTo pos (starEach (e :: es) X.env)) (backToKw pos (keywordEach [] X.env)))) :
    PE X (.Call (.Attribute o m apos) (e :: es) [] pos) (tMethDS C m dvs sp E ta t) := by
  refine ⟨fun pins s σ H Q I h => ?_⟩
  refine PySem.W.methodCall_KW (pl := pl) (thn (he.run pins s σ H _ I h) fun u s1 ⟨x, H1, I1, rx, a, dx, fs, ex, ea, l, q⟩ => ?_) ht
  subst ex
  obtain rfl : u = Value.ref a := rx
  refine getmeth_ok I1 ea c hm l ?_
  refine PySem.W.callWith_K (first := [.ref a]) (h₀ := X.base) I.ok.mod.kin hm.kp (thn (ha.run pos pins s1 σ H1 _ I1 q) fun us s2 ⟨vs, H2, I2, r, q2⟩ => ⟨I2.kIn, ?_⟩) hst hpl
  exact run_fnSD (us := .ref a :: us) (vs := .ref a :: vs) F hr hb hd (hx σ) I2 (.cons rfl r) q2
/-- C.m is a static method -/
structure StM (K : PySem.W.Frag) (C : Addr) (m : Str) (f : Addr) : Prop where
  ga : PySem.W.specialIn K (.ref C) "__getattribute__" = some (some (.builtin "type.__getattribute__"))
  ex : ∃ (mc : Value) (p : Addr) (rest : List Value), PySem.W.readsIn K C mc = true ∧ PySem.W.findCls K (.ref C) mc m = some (.get (.builtin "staticmethod.__get__") (.ref p) .none (.ref C)) ∧ PySem.W.recIn K p "staticmethod" = some (.ref f :: rest)
  kp : PySem.W.keepIn K (.ref f) = true
theorem getst_ok {pins : List (Addr × Obj)} {σ : L2.St} {H : L2.Hp} {s : Shared} {A : Around} {E : Value → Shared → Prop} {pl : Sem Bool} {Q : Value × List Value → Shared → Prop} (I : Inv X pins σ H s) (S : StM X.K C m f) (h : ∀ s', Inv X pins σ H s' → Q (.ref f, []) s') : wpAny (model X.prog X.w) A (getMethod (.ref C) m pl) Q E s := by
  obtain ⟨mc, p, rest, h1, h2, h3⟩ := S.ex
  refine PySem.W.method_cls I.kIn S.ga ?_
  exact PySem.W.cls_bind I.kIn h1 h2 (wpAny_call (PySem.W.sm_get (s := { s with toks := s.toks + 1 }) I.kIn h3 (PySem.W.handed_on rfl (h _ (I.tok _)))))
theorem pe_smethS {pl : Sem Bool} (hg : Gl X x) (hc : X.mg x = some (.ref C)) (S : StM X.K C m f) (F : FnOk X.prog X.w X.K X.mg X.base CX k f fd ps sp) (hr : Room k X.A) (hb : Binds X.K fd ps []) (hx : ∀ σ, PassesAt CX X σ (E σ)) (ha : PA X (e :: es) t)
    (hst : starEach (e :: es) X.env = (false, eval e X.env) :: starEach es X.env) (hpl : (backTo pos (starEach es X.env)).any (·.1) = false)
    (ht : eval (.Call (.Attribute (.Name x p) m apos) (e :: es) [] pos) X.env = (do
      let ov ← eval (.Name x p) X.env
      standAt apos.atName
      let (f, first) ← holding [ov] (getMethod ov m pl)
      callWith pos f first (backTo pos (starEach (e :: es) X.env)) (backToKw pos (keywordEach [] X.env)))) (hdb : (x == ("__debug__" : Str)) = false) :
    PE X (.Call (.Attribute (.Name x p) m apos) (e :: es) [] pos) (tCallS sp E t) := by
  refine ⟨fun pins s σ H Q I h => ?_⟩
  refine PySem.W.methodCall_KW (pl := pl) (thn ((pe_glob (v := V.ref C) hg hc rfl hdb).run pins s σ H (fun y H1 => y = V.ref C ∧ H = H1) I ⟨rfl, rfl⟩) fun u s1 ⟨y, H1, I1, rx, ey, eH⟩ => ?_) ht
  subst ey
  rw [← eH] at I1
  obtain rfl : u = Value.ref C := rx
  refine getst_ok I1 S fun s2 I2 => ?_
  refine PySem.W.callWith_K (first := []) (h₀ := X.base) I.ok.mod.kin S.kp (thn (ha.run pos pins s2 σ H _ I2 h) fun us s3 ⟨vs, H2, I3, r, q2⟩ => ⟨I3.kIn, ?_⟩) hst hpl
  exact run_fnS (us := us) (vs := vs) F hr hb (hx σ) I3 r q2
def tMakeS (C : Addr) (sp : Sp) (E : L2.St → XK) (t : TA) : TE := fun σ H Q => t σ H fun vs H1 => ∀ x dx, H1 x = none → H1 dx = none → dx ≠ x →
  sp (.ref x :: vs) (upd (upd H1 dx (.own x)) x (.ins C dx [])) (fun v H2 => v = .non ∧ Q (.ref x) H2) (E σ)
theorem run_makeS {pins : List (Addr × Obj)} {σ : L2.St} {H : L2.Hp} {s : Shared} {Q : VK} {us : List Value} {vs : List V} {E : XK} (M : Mk X.K C f) (F : FnOk X.prog X.w X.K X.mg X.base CX k f fd ps sp) (hr : Room (k + 1) X.A) (hb : Binds X.K fd ps [])
    (hx : PassesAt CX X σ E) (I : Inv X pins σ H s) (r : Vals vs us)
    (h : ∀ x dx, H x = none → H dx = none → dx ≠ x → sp (.ref x :: vs) (upd (upd H dx (.own x)) x (.ins C dx [])) (fun v H2 => v = .non ∧ Q (.ref x) H2) E) :
    wpAny (model X.prog X.w) X.A (call (.ref C) us) (EP X pins σ Q) X.xe s := by
  have hq := h (s.heap.objs.size + 1) s.heap.objs.size (I.hok.fresh (Nat.le_succ _)) (I.hok.fresh (Nat.le_refl _)) (Nat.ne_of_lt (Nat.lt_succ_self _))
  have I2 := Inv.made (C := C) I
  have r2 : Vals (V.ref (s.heap.objs.size + 1) :: vs) (Value.ref (s.heap.objs.size + 1) :: us) := .cons rfl r
  have hl : (Value.ref (s.heap.objs.size + 1) :: us ++ []).length = ps.length := by
    have e := r2.length
    rw [F.len _ _ _ _ hq] at e
    simpa using e.symm
  have hbb := hb _ (Value.ref (s.heap.objs.size + 1) :: us) I2.kIn hl
  rw [List.append_nil] at hbb
  refine wpAny_call (make_map (f := f) I.kIn M.makes M.init (beq_iff_eq.mp M.fn) (codeAny_mono (F.run _ X.stack _ _ ⟨Value.ref (s.heap.objs.size + 1) :: us, []⟩ (Value.ref (s.heap.objs.size + 1) :: us) _ _ E (hr.make C us [])
    (I2.env0.make C us []) hbb r2 hq) fun r s' hq' => ?_))
  cases r with
  | error e => exact hx pins _ _ e s' I2 hq'
  | ok fl =>
    cases fl with
    | ret u =>
      obtain ⟨v, H', I3, rv, ev, q3⟩ := I2.after hq'
      subst ev
      exact ⟨rv, ⟨V.ref (s.heap.objs.size + 1), H', I3, rfl, q3⟩⟩
    | next => exact False.elim hq'
    | brk => exact False.elim hq'
    | cont => exact False.elim hq'
theorem pe_makeS (M : Mk X.K C f) (F : FnOk X.prog X.w X.K X.mg X.base CX k f fd ps sp) (hr : Room (k + 1) X.A) (hg : Gl X x) (hm : X.mg x = some (.ref C)) (hb : Binds X.K fd ps []) (hx : ∀ σ, PassesAt CX X σ (E σ))
    (ha : PA X (e :: es) t) (hdb : (x == ("__debug__" : Str)) = false) (he : starEach (e :: es) X.env = (false, eval e X.env) :: starEach es X.env) (hpl : (backTo pos (starEach es X.env)).any (·.1) = false) :
    PE X (.Call (.Name x p) (e :: es) [] pos) (tMakeS C sp E t) := by
  refine ⟨fun pins s σ H Q I h => ?_⟩
  refine wpAny_Call_Name_kw (ld_glob I hg hm ?_ hdb)
  refine PySem.W.callWith_K (h₀ := X.base) I.ok.mod.kin M.kp (thn (ha.run pos pins s σ H _ I h) fun us s1 ⟨vs, H1, I1, r, q⟩ => ⟨I1.kIn, ?_⟩) he hpl
  exact run_makeS M F hr hb (hx σ) I1 r q
theorem pe_makeS0 (M : Mk X.K C f) (F : FnOk X.prog X.w X.K X.mg X.base CX k f fd ps sp) (hr : Room (k + 1) X.A) (hg : Gl X x) (hm : X.mg x = some (.ref C)) (hb : Binds X.K fd ps []) (hx : ∀ σ, PassesAt CX X σ (E σ))
    (hdb : (x == ("__debug__" : Str)) = false) : PE X (.Call (.Name x p) [] [] pos) (tMakeS C sp E tNil) := by
  refine ⟨fun pins s σ H Q I h => ?_⟩
  refine wpAny_Call_Name_kw (ld_glob I hg hm ?_ hdb)
  exact PySem.W.callWith_K0 I.kIn M.kp (run_makeS (us := []) M F hr hb (hx σ) I .nil h)
end
/-! ### what is matched -/
def notStar : Expr → Bool
  | .Starred _ _ => false
  | _ => true
def notSlice : Expr → Bool
  | .Slice _ _ _ _ => false
  | _ => true
def notSet : Expr → Bool
  | .Set _ _ _ => false
  | _ => true
def notComp : Expr → Bool
  | .ListComp _ _ _ _ => false
  | .SetComp _ _ _ _ => false
  | .DictComp _ _ _ _ _ => false
  | _ => true
/-- no call without arguments (it may be super()) -/
def plainBase : Expr → Bool
  | .Call (.Name n _) [] [] _ => decide (n ≠ "super")
  | _ => true
theorem star_of {e : Expr} (h : notStar e = true) (es : List Expr) (env : Env) : starEach (e :: es) env = (false, eval e env) :: starEach es env := by
  cases e <;> first | rfl | (simp [notStar] at h)
theorem base_of {e : Expr} (h : plainBase e = true) (f : Str) (env : Env) : attributeBase e f env (eval e env) = eval e env := by
  unfold attributeBase
  split
  · rename_i id _ _
    have h' : id ≠ "super" := of_decide_eq_true h
    have e : (id != ("super" : Str)) = true := by simpa using h'
    rw [e, Bool.true_or, Bool.true_or, Bool.true_or, if_pos rfl]
  · rfl
theorem plainIx_of {e : Expr} (h : notSlice e = true) : PlainIx e := by
  cases e <;> first | exact fun _ _ => rfl | (simp [notSlice] at h)
theorem noSl_of {e : Expr} (h : notSlice e = true) : NoSl e := by
  cases e <;> first | exact fun _ _ => rfl | (simp [notSlice] at h)
theorem behind_of {e : Expr} (h : notSet e = true) (op : CmpOp) : behindInMarks op e = false := by
  cases e <;> first | rfl | (simp [notSet] at h)
theorem swaps_of {e : Expr} (h : notComp e = true) (t : Option Expr) (l : Nat) (env : Env) : swapsWith e t l env = Pure.pure false := by
  cases e <;> first | rfl | (simp [notComp] at h)
theorem noneStar : ∀ {es : List Expr} (pos : Pos) (env : Env), es.all notStar = true → (backTo pos (starEach es env)).any (·.1) = false
  | [], _, _, _ => rfl
  | e :: es, pos, env, h => by
    simp only [List.all_cons, Bool.and_eq_true] at h
    have ih := noneStar pos env h.2
    rw [star_of h.1]
    cases es with
    | nil => rfl
    | cons e2 es2 =>
      simp only [List.all_cons, Bool.and_eq_true] at h
      rw [star_of h.2.1] at ih ⊢
      exact ih
end PyI
namespace PyI
open PySem PySem.Spec PyProof.Rows L2
/-! ### the text's names -/
/-- names: of functions, classes, errors, constants, ids -/
structure Gam where
  fnm : List (Nat × Str)
  cnm : List (Nat × Str)
  xnm : List (Nat × Str)
  knm : List (Nat × Str)
  nms : List (Nat × Str)
  /-- built-in names that the text leaves as they are -/
  blt : List Str
  /-- the errors that may be raised -/
  rz : List Nat
  /-- methods with one keyword-only parameter: name, keyword, default -/
  kwm : List (Nat × Str × Int) := []
  /-- static methods: class, name, function -/
  sts : List (Nat × Nat × Nat) := []
/-- a def's names -/
structure SC where
  N : List Str
  sc : Scope
  /-- a def's own body (no comprehension's block) -/
  top : Bool
def SC.vis (c : SC) (x : Str) : Bool := match c.sc.names.lookup x with
  | some .local => true
  | some .cell => true
  | some .free => true
  | _ => false
def SC.gl (c : SC) (x : Str) : Bool := decide (c.sc.names.lookup x = some .globalImplicit) && !(x == ("__debug__" : Str)) && decide (x ≠ "__name__")
def SC.slot (c : SC) (i : Nat) (x : Str) : Bool := decide (c.N[i]? = some x) && c.vis x && !(x == ("__debug__" : Str)) && !(x == ("__classdict__" : Str))
/-- a name that is stored -/
def SC.loc (c : SC) (i : Nat) (x : Str) : Bool := decide (c.N[i]? = some x) && (decide (c.sc.names.lookup x = some .local) || (c.top && decide (c.sc.names.lookup x = some .cell)))
mutual
def mTg (c : SC) : Tgt → Expr → Bool
  | .v i, .Name x _ => c.loc i x
  | .t ts, .Tuple xs _ _ => mTgs c ts xs
  | _, _ => false
def mTgs (c : SC) : List Tgt → List Expr → Bool
  | [], [] => true
  | t :: ts, x :: xs => notStar x && mTg c t x && mTgs c ts xs
  | _, _ => false
end
def isTup : Expr → Bool
  | .Tuple _ _ _ => true
  | _ => false
/-- two arguments, the second the number i -/
def isL2 : Exs → Int → Bool
  | .cons _ (.cons (.lit (.int j)) .nil), i => decide (j = i)
  | _, _ => false
/-- the block's own names -/
def mOwn (c : SC) (tg : Tgt) : List (Str × Nat) := tg.slots.filterMap fun i => (c.N[i]?).map fun x => (x, i)
def SC.blk (c : SC) (scope : Scope) : SC := { N := c.N, sc := relS scope c.sc, top := false }
def Gam.bl (G : Gam) (c : SC) (x : Str) (n : Str) : Bool := decide (x = n) && c.gl x && decide (x ∈ G.blt)
def mLit : Lit → Const → Bool
  | .non, .none => true
  | .bl b, .bool c => b == c
  | .int i, .int j => decide (i = j)
  | .str s, .str x => decide (toStr s = x)
  | _, _ => false
def Ty.name : Ty → Option String
  | .int => some "int"
  | .bool => some "bool"
  | .str => some "str"
  | .tuple => some "tuple"
  | .list => some "list"
  | _ => none
def Blt.name : Blt → Option Str
  | .len => some "len"
  | .int => some "int"
  | .tup => some "tuple"
  | .max2 => some "max"
  | .min2 => some "min"
  | .max1 => some "max"
  | .sum => some "sum"
  | .ord => some "ord"
  | .str => some "str"
  | .repr => none
def Bm.name : Bm → Str
  | .append => "append" | .extend => "extend" | .get => "get" | .pop => "pop" | .insert => "insert" | .index => "index" | .count => "count"
  | .join => "join" | .starts => "startswith" | .upper => "upper" | .clear => "clear" | .remove => "remove" | .none => ""
def mKey : Lit → Expr → Bool
  | l, .Constant k _ _ => mLit l k
  | _, _ => false
def mKeys : List Lit → List (Option Expr) → Bool
  | [], [] => true
  | l :: ls, some x :: xs => mKey l x && mKeys ls xs
  | _, _ => false
def someAll : List Expr → List (Option Expr) := fun xs => xs.map some
/-- an own place -/
def Gam.px (G : Gam) (c : SC) : Px → Expr → Bool
  | .s i, .Name n _ => c.slot i n
  | .f i f, .Attribute (.Name n _) a _ => c.slot i n && decide (G.nms.lookup f = some a)
  | _, _ => false
mutual
/-- nothing is changed while it is read -/
def simE : Ex → Bool
  | .lit _ => true
  | .var _ => true
  | .tup es => simEs es
  | _ => false
def simEs : Exs → Bool
  | .nil => true
  | .cons e es => simE e && simEs es
end
/-- a comparison -/
def isCm : Ex → Bool
  | .cmp _ _ _ => true
  | .chn _ _ _ _ _ => true
  | .isN _ _ => true
  | .isB _ _ _ => true
  | .pin _ _ _ => true
  | _ => false
def simP : Px → Exs → Bool
  | .s _, _ => true
  | .f _ _, es => simEs es
def simP1 : Px → Ex → Bool
  | .s _, _ => true
  | .f _ _, e => simE e
section
variable (G : Gam)
mutual
def mE (c : SC) : Ex → Expr → Bool
  | .lit l, x => match x with
    | .Constant k _ _ => mLit l k
    | _ => false
  | .var i, x => match x with
    | .Name n _ => c.slot i n
    | _ => false
  | .con g, x => match x with
    | .Name n _ => decide (G.knm.lookup g = some n) && c.gl n
    | _ => false
  | .bin o a b, x => match x with
    | .BinOp l op r _ => decide (op = bopOf o) && mE c a l && mE c b r
    | _ => false
  | .neg a, x => match x with
    | .UnaryOp .USub l _ => mE c a l
    | _ => false
  | .nt a, x => match x with
    | .UnaryOp .Not l _ => mE c a l
    | _ => false
  | .and a b, x => match x with
    | .BoolOp .And [l, r] _ => mE c a l && mE c b r
    | .BoolOp .And (l :: r :: s :: rest) p => mE c a l && mE c b (.BoolOp .And (r :: s :: rest) p)
    | _ => false
  | .or a b, x => match x with
    | .BoolOp .Or [l, r] _ => mE c a l && mE c b r
    | .BoolOp .Or (l :: r :: s :: rest) p => mE c a l && mE c b (.BoolOp .Or (r :: s :: rest) p)
    | _ => false
  | .cmp o a b, x => match x with
    | .Compare l [op] [r] _ => decide (op = copOf o) && notSet r && mE c a l && mE c b r
    | _ => false
  | .chn o p a b d, x => match x with
    | .Compare l [op, op2] [r, s] _ => decide (op = copOf o) && decide (op2 = copOf p) && notSet s && mE c a l && mE c b r && mE c d s
    | _ => false
  | .isN n a, x => match x with
    | .Compare l [op] [.Constant .none _ _] _ => decide (op = if n then .IsNot else .Is) && mE c a l
    | _ => false
  | .isB n b a, x => match x with
    | .Compare l [op] [.Constant (.bool k) _ _] _ => decide (op = if n then .IsNot else .Is) && decide (k = b) && mE c a l
    | _ => false
  | .tup es, x => match x with
    | .Tuple xs _ _ => mEs c es xs
    | _ => false
  | .ix a i, x => match x with
    | .Subscript l r _ => notSlice r && mE c a l && mE c i r
    | _ => false
  | .sl a lo hi, x => match x with
    | .Subscript l (.Slice u v none _) _ => mE c a l && mOE c lo u && mOE c hi v
    | _ => false
  | .att a f, x => match x with
    | .Attribute l n _ => decide (G.nms.lookup f = some n) && plainBase l && mE c a l
    | _ => false
  | .cal k f es, x => match k with
    | .nm 0 => (match x with
      | .Call (.Name n _) xs [] _ => decide (G.fnm.lookup f = some n) && c.gl n && mEs c es xs
      | _ => false)
    | .st d m => (match x with
      | .Call (.Attribute (.Name n _) mn ap) xs [] p => decide (G.cnm.lookup d = some n) && c.gl n && decide (G.nms.lookup m = some mn) && decide ((d, m, f) ∈ G.sts) && (ap.endLine == p.line) && decide (xs.length < 20) && decide (xs.length ≠ 0) && mEs c es xs
      | _ => false)
    | _ => false
  | .mk d k es, x => match k with
    | 0 => (match x with
      | .Call (.Name n _) xs [] _ => decide (G.cnm.lookup d = some n) && c.gl n && mEs c es xs
      | _ => false)
    | _ => false
  | .mkI d es, x => match x with
    | .Call (.Name n _) xs [] _ => decide (G.cnm.lookup d = some n) && c.gl n && mEs c es xs
    | _ => false
  | .met a m k b es, x => match k with
    | 0 => (match x with
      | .Call (.Attribute l n ap) xs [] p => decide (G.nms.lookup m = some n) && (decide (n = b.name) || decide (b = .none)) && (ap.endLine == p.line) && decide (xs.length < 20) && plainBase l && mE c a l && mEs c es xs && decide (m ∉ G.kwm.map (·.1))
      | _ => false)
    | 1 => (match x with
      | .Call (.Attribute l n ap) [x1] [⟨some kw, x2, _⟩] p => (match G.kwm.lookup m with
        | some r => decide (G.nms.lookup m = some n) && decide (b = .none) && (ap.endLine == p.line) && plainBase l && notStar x1 && decide (r.1 = kw) && mE c a l && mEs c es [x1, x2]
        | none => false)
      | _ => false)
    | 2 => (match x with
      | .Call (.Attribute l n ap) [x1] [] p => (match G.kwm.lookup m with
        | some r => decide (G.nms.lookup m = some n) && decide (b = .none) && (ap.endLine == p.line) && plainBase l && notStar x1 && isL2 es r.2 && mE c a l && mEs c es [x1, .Constant (.int r.2) 0 ap]
        | none => false)
      | _ => false)
    | _ => false
  | .blt b es, x => match x with
    | .Call (.Name n _) xs [] _ => (match b.name with
        | some s => G.bl c n s && mEs c es xs && (match xs with | [] => false | _ => true)
        | none => false)
    | _ => false
  | .isi a t, x => match x with
    | .Call (.Name n _) [l, .Name tn _] [] _ => G.bl c n "isinstance" && notStar l && mE c a l && (match t with
      | .cls d => decide (G.cnm.lookup d = some tn) && c.gl tn
      | t => match t.name with
        | some s => G.bl c tn (s : Str)
        | none => false)
    | .Call (.Name n _) [l, .Tuple [.Name t1 _, .Name t2 _] _ _] [] _ => (match t with | .tl => true | _ => false) && G.bl c n "isinstance" && notStar l && mE c a l && G.bl c t1 "tuple" && G.bl c t2 "list"
    | _ => false
  | .az a, x => mA c a x
  | .hp a, x => mA c a x
  | .pl p op es, x => simP p es && (match op with
    | .len => (match x, es with
      | .Call (.Name n _) [y] [] _, .nil => G.bl c n "len" && notStar y && G.px c p y
      | _, _ => false)
    | .ix => (match x, es with
      | .Subscript l r _, .cons i .nil => notSlice r && G.px c p l && mE c i r
      | _, _ => false)
    | .get1 => (match x, es with
      | .Call (.Attribute l n ap) [k] [] q, .cons i .nil => decide (n = "get") && (ap.endLine == q.line) && notStar k && G.px c p l && mE c i k
      | _, _ => false)
    | .get2 => (match x, es with
      | .Call (.Attribute l n ap) [k, d] [] q, .cons i (.cons j .nil) => decide (n = "get") && (ap.endLine == q.line) && notStar k && notStar d && G.px c p l && mE c i k && mE c j d
      | _, _ => false)
    | .tup => (match x, es with
      | .Call (.Name n _) [y] [] _, .nil => G.bl c n "tuple" && notStar y && G.px c p y
      | _, _ => false))
  | .pin n a p, x => match x with
    | .Compare l [op] [r] _ => decide (op = if n then .NotIn else .In) && notSet r && mE c a l && G.px c p r
    | _ => false
  | .len1 a m, x => match x with
    | .Call (.Name n _) [y] [] _ => G.bl c n "len" && decide (G.nms.lookup m = some "__len__") && decide (m ∉ G.kwm.map (·.1)) && notStar y && mE c a y
    | _ => false
def mA (c : SC) : Az → Expr → Bool
  | .dsp es, x => match x with
    | .List xs _ => mEs c es xs
    | _ => false
  | .dd ks es, x => match x with
    | .Dict [] [] _ => (match ks, es with | [], .nil => true | _, _ => false)
    | .Dict [some (.Constant ck _ _)] [.Constant cv _ _] _ => (match ks, es with | [k], .cons (.lit l) .nil => k.key.isSome && mLit k ck && mLit l cv | _, _ => false)
    | _ => false
  | .dt, x => match x with
    | .Dict [] [] _ => true
    | _ => false
  | .set, x => match x with
    | .Call (.Name n _) [] [] _ => G.bl c n "set"
    | _ => false
  | .sl a lo hi, x => match x with
    | .Subscript l (.Slice u v none _) _ => mE c a l && mOE c lo u && mOE c hi v
    | _ => false
  | .slP i lo hi, x => match x with
    | .Subscript (.Name n _) (.Slice u v none _) _ => c.slot i n && mOE c lo u && mOE c hi v
    | _ => false
  | .slr _, _ => false
  | .add a b, x => match x with
    | .BinOp l op r _ => decide (op = .Add) && mE c a l && mE c b r
    | _ => false
  | .mul a b, x => match x with
    | .BinOp l op r _ => decide (op = .Mult) && mE c a l && mE c b r
    | _ => false
  | .lof a, x => match x with
    | .Call (.Name n _) [y] [] _ => G.bl c n "list" && notStar y && mE c a y
    | _ => false
  | .dof a, x => match x with
    | .Call (.Name n _) [y] [] _ => G.bl c n "dict" && notStar y && mE c a y
    | _ => false
  | .lofP p, x => match x with
    | .Call (.Name n _) [y] [] _ => G.bl c n "list" && notStar y && G.px c p y
    | _ => false
  | .dofP p, x => match x with
    | .Call (.Name n _) [y] [] _ => G.bl c n "dict" && notStar y && G.px c p y
    | _ => false
  | .srt a, x => match x with
    | .Call (.Name n _) [y] [] _ => G.bl c n "sorted" && notStar y && mE c a y
    | _ => false
  | .srtP p, x => match x with
    | .Call (.Name n _) [y] [] _ => G.bl c n "sorted" && notStar y && G.px c p y
    | _ => false
  | .srtR a, x => match x with
    | .Call (.Name n _) [y] [⟨some r, .Constant (.bool true) _ _, _⟩] _ => G.bl c n "sorted" && decide (r = "reverse") && notStar y && mE c a y
    | _ => false
  | .split a b, x => match x with
    | .Call (.Attribute l n ap) [y] [] p => decide (n = "split") && (ap.endLine == p.line) && plainBase l && notStar y && mE c a l && mE c b y
    | _ => false
  | .lr1 e, x => match x with
    | .Call (.Name n _) [.Call (.Name r _) [y] [] _] [] _ => G.bl c n "list" && G.bl c r "range" && notStar y && mE c e y
    | _ => false
  | .lr2 a b, x => match x with
    | .Call (.Name n _) [.Call (.Name r _) [y, z] [] _] [] _ => G.bl c n "list" && G.bl c r "range" && notStar y && notStar z && mE c a y && mE c b z
    | _ => false
  | .comp tg it cond e, x => match x with
    | .ListComp elt [⟨t, i, ifs, 0⟩] scope _ => notSet i && mI c it t i && blkC c.N c.sc scope (mOwn c tg) && mTg (c.blk scope) tg t && mE (c.blk scope) e elt && mOT (c.blk scope) cond ifs
    | _ => false
  | .cal k f es, x => match k with
    | .nm 0 => (match x with
      | .Call (.Name n _) xs [] _ => decide (G.fnm.lookup f = some n) && c.gl n && mEs c es xs
      | _ => false)
    | .st d m => (match x with
      | .Call (.Attribute (.Name n _) mn ap) xs [] p => decide (G.cnm.lookup d = some n) && c.gl n && decide (G.nms.lookup m = some mn) && decide ((d, m, f) ∈ G.sts) && (ap.endLine == p.line) && decide (xs.length < 20) && decide (xs.length ≠ 0) && mEs c es xs
      | _ => false)
    | _ => false
  | .met a m k es, x => match k with
    | 0 => (match x with
      | .Call (.Attribute l n ap) xs [] p => decide (G.nms.lookup m = some n) && (ap.endLine == p.line) && decide (xs.length < 20) && plainBase l && mE c a l && mEs c es xs && decide (m ∉ G.kwm.map (·.1))
      | _ => false)
    | _ => false
def mEs (c : SC) : Exs → List Expr → Bool
  | .nil, xs => match xs with
    | [] => true
    | _ => false
  | .cons e es, xs => match xs with
    | x :: r => notStar x && mE c e x && mEs c es r
    | [] => false
def mOE (c : SC) : OEx → Option Expr → Bool
  | .no, x => match x with
    | none => true
    | _ => false
  | .so e, x => match x with
    | some y => mE c e y
    | none => false
def mOT (c : SC) : OTe → List Expr → Bool
  | .no, x => match x with
    | [] => true
    | _ => false
  | .so e, x => match x with
    | [y] => mT c e y
    | _ => false
/-- a test -/
def mT (c : SC) : Te → Expr → Bool
  | .e a, x => match x with
    | .BoolOp _ _ _ => false
    | .UnaryOp .Not _ _ => false
    | .IfExp _ _ _ _ => false
    | .Compare l o r p => isCm a && mE c a (.Compare l o r p)
    | x => mE c a x
  | .nt a, x => match x with
    | .UnaryOp .Not y _ => mT c a y
    | _ => false
  | .and a b, x => match x with
    | .BoolOp .And [l, r] _ => mT c a l && mT c b r
    | .BoolOp .And (l :: r :: s :: rest) p => mT c a l && mT c b (.BoolOp .And (r :: s :: rest) p)
    | _ => false
  | .or a b, x => match x with
    | .BoolOp .Or [l, r] _ => mT c a l && mT c b r
    | .BoolOp .Or (l :: r :: s :: rest) p => mT c a l && mT c b (.BoolOp .Or (r :: s :: rest) p)
    | _ => false
  | .pt p, x => G.px c p x
/-- what a for walks: the target, the iterable -/
def mI (c : SC) : Itx → Expr → Expr → Bool
  | .val e, _, x => mE c e x
  | .rng1 e, _, x => match x with
    | .Call (.Name r _) [y] [] _ => G.bl c r "range" && notStar y && mE c e y
    | _ => false
  | .rng2 a b, _, x => match x with
    | .Call (.Name r _) [y, z] [] _ => G.bl c r "range" && notStar y && notStar z && mE c a y && mE c b z
    | _ => false
  | .rng3 a b d, _, x => match x with
    | .Call (.Name r _) [y, z, w] [] _ => G.bl c r "range" && (notStar y && notStar z && notStar w) && mE c a y && mE c b z && mE c d w
    | _ => false
  | .enum e, t, x => match x with
    | .Call (.Name r _) [y] [] _ => isTup t && G.bl c r "enumerate" && notStar y && mE c e y
    | _ => false
  | .zip a b, t, x => match x with
    | .Call (.Name r _) [y, z] [] _ => isTup t && G.bl c r "zip" && notStar y && notStar z && mE c a y && mE c b z
    | _ => false
  | .rev e, _, x => match x with
    | .Call (.Name r _) [y] [] _ => G.bl c r "reversed" && notStar y && mE c e y
    | _ => false
  | .keys _, _, _ => false
  | .items _, _, _ => false
end
end
/-! ### what is known -/
structure Tab2 extends Tab where
  fd : Nat → FuncData
  ps : Nat → List Str
  inj : ∀ i j, nm i = nm j → i = j
/-- what a function gives -/
def RR (K : PySem.W.Frag) (T : Tab) (φ : Ix) (H : L2.Hp) : Ret → V → Prop
  | .v v, x => RV K T φ H v x
  | .f xs, x => RA K T φ H (.lst xs) x
/-- what a function promises -/
def spR (K : PySem.W.Frag) (T : Tab) (f : List Val → Mem → Res Ret) : Sp := fun xs H Q E =>
  ∃ φ h vs, Rel K T φ H h ∧ RVs K T φ H vs xs ∧ okR K T (RR K T) φ H Q (fun c G => E (T.exn c) none G) (f vs h)
def FnsOk (P : Pg) (T : Tab2) (X : Cx) (k : Nat) (call : Nat → List Val → Mem → Res Ret) : Prop :=
  ∀ i F, P.fn i = some F → FnOk X.prog X.w X.K X.mg X.base (CX X.prog X.w) k (T.fn i) (T.fd i) (T.ps i) (spR X.K T.toTab (call i))
/-- what isinstance asks of an instance's class -/
structure InsF (K : PySem.W.Frag) (C : Addr) : Prop where
  ha : PySem.W.findIn K (.ref C) "__class__" = some (some (.builtin "object.__class__"))
  hn : PySem.W.specialIn K (.builtin "object.__class__") "__get__" = some (some (.builtin "getset_descriptor.__get__"))
  htk : PySem.W.takesIn K (.builtin "object.__class__") = some true
  hm : PySem.W.mroIn K C (.type "object") = some true
structure KwB (K : PySem.W.Frag) (fd : FuncData) (ps : List Str) (kw : Str) (i : Int) : Prop where
  kb : KBn K fd ps 2 [kw] (fun us ws => us ++ ws) (fun vs zs => vs ++ zs)
  df : ∃ ds, Vals [V.int i] ds ∧ Binds K fd ps ds
structure Wd (P : Pg) (G : Gam) (T : Tab2) (K : PySem.W.Frag) (mg : Str → Option Value) : Prop where
  blt : ∀ x ∈ G.blt, mg x = none
  fns : ∀ (i : Nat) (x : Str), G.fnm.lookup i = some x → (P.fn i).isSome = true ∧ mg x = some (.ref (T.fn i)) ∧ PySem.W.keepIn K (.ref (T.fn i)) = true
  bnd : ∀ (i : Nat) (F : Fn), P.fn i = some F → F.df = [] → Binds K (T.fd i) (T.ps i) []
  fdf : ∀ (i : Nat) (x : Str), G.fnm.lookup i = some x → ∀ F, P.fn i = some F → F.df = []
  kon : ∀ (g : Nat) (x : Str), G.knm.lookup g = some x → ∃ v u y, P.kn g = some v ∧ mg x = some u ∧ RelV y u ∧ ∀ φ H, RV K T.toTab φ H v y
  nms : ∀ (i : Nat) (x : Str), G.nms.lookup i = some x → T.nm i = x
  cls : ∀ (d : Nat) (C : Cl), P.cl d = some C → Cls K (T.cls d) ∧ (∀ f ∈ C.fs, NoAttr K (T.cls d) (T.nm f)) ∧ (∀ m g, C.ms.lookup m = some g → (∃ F, P.fn g = some F ∧ (m ∉ G.kwm.map (·.1) → F.df = []) ∧ ∀ kw i, (m, kw, i) ∈ G.kwm → KwB K (T.fd g) (T.ps g) kw i) ∧ Meth K (T.cls d) (T.nm m) (T.fn g)) ∧
    (∀ m g, C.ps.lookup m = some g → (∃ F, P.fn g = some F ∧ F.df = []) ∧ ∃ p, PropOf K (T.cls d) (T.nm m) p (T.fn g)) ∧ (∃ F, P.fn C.ini = some F ∧ F.df = []) ∧ Mk K (T.cls d) (T.fn C.ini)
  st : ∀ (d m f : Nat), (d, m, f) ∈ G.sts → (∃ F, P.fn f = some F ∧ F.df = []) ∧ StM K (T.cls d) (T.nm m) (T.fn f)
  cnm : ∀ (d : Nat) (x : Str), G.cnm.lookup d = some x → (P.cl d).isSome = true ∧ mg x = some (.ref (T.cls d))
  isi : ∀ (c d : Nat), (c, d) ∈ P.ist → (P.cl c).isSome = true ∧ InsF K (T.cls c) ∧ PySem.W.kitOne K (.ref (T.cls c)) (.ref (T.cls d)) = some (decide (c = d))
  /-- errors that may be raised -/
  rse : ∀ (d : Nat) (x : Str), d ∈ G.rz → G.xnm.lookup d = some x → ∃ A B newId initId bmB, T.exn d = .ref A ∧ mg x = some (.ref A) ∧ PySem.W.keepIn K (.ref A) = true ∧ ExcBaseFacts B newId initId bmB ∧ PySem.W.excIn K A bmB newId = true ∧
    PySem.W.subIn K (.ref A) (.type "BaseException") = some true ∧ PySem.W.typeIn K (.ref A) = some (.type "type")
  /-- errors that are named -/
  exn : ∀ (d : Nat) (x : Str), G.xnm.lookup d = some x → mg x = some (T.exn d) ∨ (mg x = none ∧ bootBuiltins x = some (T.exn d))
  exm : ∀ (e d : Nat) (b : Bool), P.exc e d = some b → PySem.W.exmOne K (T.exn e) (T.exn d) = some b ∧ PySem.W.kitOne K (T.exn e) (T.exn d) = some b ∧ ∃ D, T.exn e = .ref D ∧ ExcC K D
  exv : ∀ (d : Nat) (x : Str), G.xnm.lookup d = some x → ∃ u, RelV u (T.exn d) ∧ ∀ z, RelV u z → z = T.exn d
structure Ctx (P : Pg) (G : Gam) (T : Tab2) (c : SC) (X : Cx) (call callI : Nat → List Val → Mem → Res Ret) (W : WX) (k : Nat) : Prop where
  N : X.N = c.N
  nd : c.N.Nodup
  sc : X.env.scope = c.sc
  calm : X.calm = true
  room : Room k X.A
  wd : Wd P G T X.K X.mg
  tw : T.w = X.w
  call : FnsOk P T X k call
  callI : ∃ j, j + 1 ≤ k ∧ FnsOk P T X j callI
  tk : Takes X W
  fnt : c.top = true → X.fn = fun _ => true
section
variable {P : Pg} {G : Gam} {T : Tab2} {c : SC} {X : Cx} {call callI : Nat → List Val → Mem → Res Ret} {W : WX} {k : Nat}
theorem Ctx.un (C : Ctx P G T c X call callI W k) : X.A.units + 65 < cLine := by have := C.room.un; omega
theorem Ctx.vis (C : Ctx P G T c X call callI W k) {x : Str} (h : c.vis x = true) : Vis X.env.scope x := by
  rw [C.sc]
  unfold SC.vis at h
  unfold Vis
  split at h <;> first | contradiction | simp_all
theorem Ctx.gl (C : Ctx P G T c X call callI W k) {x : Str} (h : c.gl x = true) : Gl X x ∧ (x == ("__debug__" : Str)) = false ∧ x ≠ "__name__" := by
  unfold SC.gl at h
  simp only [Bool.and_eq_true, decide_eq_true_eq, Bool.not_eq_true'] at h
  refine ⟨?_, h.1.2, h.2⟩
  show X.env.scope.names.lookup x = _
  rw [C.sc]; exact h.1.1
theorem Ctx.var (C : Ctx P G T c X call callI W k) {i : Nat} {x : Str} {pos : Pos} (h : c.slot i x = true) : PE X (.Name x pos) (tVar i) := by
  unfold SC.slot at h
  simp only [Bool.and_eq_true, decide_eq_true_eq, Bool.not_eq_true'] at h
  exact pe_var (by rw [C.N]; exact h.1.1.1) (C.vis h.1.1.2) h.1.2 h.2
theorem Ctx.blt (C : Ctx P G T c X call callI W k) {x n : Str} (h : G.bl c x n = true) : x = n ∧ Gl X x ∧ X.mg x = none ∧ (x == ("__debug__" : Str)) = false ∧ x ≠ "__name__" := by
  unfold Gam.bl at h
  simp only [Bool.and_eq_true, decide_eq_true_eq] at h
  obtain ⟨g, d, n⟩ := C.gl h.1.2
  exact ⟨h.1.1, g, C.wd.blt _ h.2, d, n⟩
end
end PyI
namespace PyI
open PySem PySem.Spec PyProof.Rows L2
section
variable {P : Pg} {G : Gam} {T : Tab2} {c : SC} {X : Cx} {call callI : Nat → List Val → Mem → Res Ret} {W : WX} {k : Nat}
abbrev SE (P : Pg) (T : Tab2) (X : Cx) (call callI : Nat → List Val → Mem → Res Ret) (W : WX) (e : Ex) (x : Expr) : Prop := PE X x (tV X.K T.toTab W (ev P call callI e))
abbrev SEs (P : Pg) (T : Tab2) (X : Cx) (call callI : Nat → List Val → Mem → Res Ret) (W : WX) (es : Exs) (xs : List Expr) : Prop := PA X xs (tVs X.K T.toTab W (evs P call callI es))
theorem s_lit (C : Ctx P G T c X call callI W k) (l : Lit) (x : Expr) (h : mE G c (.lit l) x = true) : SE P T X call callI W (.lit l) x := by
  simp only [mE] at h
  split at h
  · rename_i kk a b
    have fin : ∀ {y : V}, (∀ φ H, RV X.K T.toTab φ H l.val y) → ∀ σ H Q, tV X.K T.toTab W (ev P call callI (.lit l)) σ H Q → Q y H := fun {y} hy σ H Q ⟨φ, h, fr, R, F, o⟩ => okR.ok (v := l.val) o R (hy φ H)
    cases l <;> cases kk <;> simp only [mLit, Bool.false_eq_true, beq_iff_eq, decide_eq_true_eq] at h
    · exact peI pe_non (fin fun _ _ => rfl)
    · subst h; exact peI pe_bl (fin fun _ _ => rfl)
    · subst h; exact peI pe_int (fin fun _ _ => rfl)
    · subst h; exact peI pe_str (fin fun _ _ => rfl)
  · cases h
theorem s_var (C : Ctx P G T c X call callI W k) (i : Nat) (x : Expr) (h : mE G c (.var i) x = true) : SE P T X call callI W (.var i) x := by
  simp only [mE] at h
  split at h
  · refine peI (C.var h) fun σ H Q ⟨φ, h, fr, R, F, o⟩ => ?_
    simp only [ev] at o
    split at o
    · rename_i v e
      obtain ⟨y, e2, r⟩ := F.2 i v e
      exact ⟨y, e2, o.ok R r⟩
    · exact False.elim o
  · cases h
theorem s_con (C : Ctx P G T c X call callI W k) (g : Nat) (x : Expr) (h : mE G c (.con g) x = true) : SE P T X call callI W (.con g) x := by
  simp only [mE] at h
  split at h
  · simp only [Bool.and_eq_true, decide_eq_true_eq] at h
    obtain ⟨v, u, y, e1, e2, e3, e4⟩ := C.wd.kon _ _ h.1
    obtain ⟨g1, g2, g3⟩ := C.gl h.2
    refine peI (pe_glob g1 e2 e3 g2) fun σ H Q ⟨φ, h, fr, R, F, o⟩ => ?_
    simp only [ev] at o
    obtain ⟨v', e, o⟩ := o.pure
    rw [e1] at e; cases e
    exact o.ok R (e4 φ H)
  · cases h
theorem s_bin (C : Ctx P G T c X call callI W k) {o : Bop} {a b : Ex} {l r : Expr} {pos : Pos} (ha : SE P T X call callI W a l) (hb : SE P T X call callI W b r) : SE P T X call callI W (.bin o a b) (.BinOp l (bopOf o) r pos) := by
  refine peI (pe_op (bin_ok (T := T.toTab) o) ha hb) fun σ H Q h => ?_
  exact (tR.bind2 (R1 := RV X.K T.toTab) (R2' := RV X.K T.toTab) (f := fun _ v u h => binV o v u h) rvmono h).mono fun x H1 q => q.mono fun y H2 ⟨v, u, φ, h2, fr, R, F, q1, q2, o⟩ => ⟨_, v, u, φ, h2, R, q1, q2, o⟩
theorem s_neg (C : Ctx P G T c X call callI W k) {a : Ex} {l : Expr} {pos : Pos} (ha : SE P T X call callI W a l) : SE P T X call callI W (.neg a) (.UnaryOp .USub l pos) := by
  refine peI (pe_un un_neg ha) fun σ H Q h => ?_
  refine (tR.bind1 (R1 := RV X.K T.toTab) (f := fun _ (v : Val) h1 => (match v with | .int i => Res.ok (Val.int (-i)) h1 | _ => Res.bad : Res Val)) h).mono fun x H1 ⟨v, φ, h1, fr, R, F, q, o⟩ => ?_
  cases v <;> first | exact False.elim o | skip
  exact ⟨_, q, o.ok R rfl⟩
theorem s_nt (C : Ctx P G T c X call callI W k) {a : Ex} {l : Expr} {pos : Pos} (ha : SE P T X call callI W a l) : SE P T X call callI W (.nt a) (.UnaryOp .Not l pos) := by
  refine peI (pe_notT ha) fun σ H Q h => ?_
  refine (tR.bind1 (R1 := RV X.K T.toTab) (f := fun _ v h1 => (pure h1 (tru h1 v)).bind fun t h1 => Res.ok (Val.bl (!t)) h1) h).mono fun x H1 ⟨v, φ, h1, fr, R, F, q, o⟩ => ?_
  obtain ⟨t, e, o⟩ := o.pbind
  exact ⟨t, tru_V R q e, o.ok R rfl⟩
theorem s_and (C : Ctx P G T c X call callI W k) {a b : Ex} {l r : Expr} {rest : List Expr} {pos : Pos} (ha : SE P T X call callI W a l) (hb : SE P T X call callI W b (.BoolOp .And (r :: rest) pos)) :
    SE P T X call callI W (.and a b) (.BoolOp .And (l :: r :: rest) pos) := by
  refine peI (pe_andT ha hb) fun σ H Q h => ?_
  refine (tR.bind1 (R1 := RV X.K T.toTab) (f := fun fr v h1 => (pure h1 (tru h1 v)).bind fun t h1 => if t then ev P call callI b fr h1 else Res.ok v h1) h).mono fun x H1 ⟨v, φ, h1, fr, R, F, q, o⟩ => ?_
  obtain ⟨t, e, o⟩ := o.pbind
  refine ⟨t, tru_V R q e, ?_⟩
  cases t with
  | true => rw [if_pos rfl] at o ⊢; exact ⟨φ, h1, fr, R, F, o⟩
  | false => rw [if_neg Bool.false_ne_true] at o ⊢; exact o.ok R q
theorem s_or (C : Ctx P G T c X call callI W k) {a b : Ex} {l r : Expr} {rest : List Expr} {pos : Pos} (ha : SE P T X call callI W a l) (hb : SE P T X call callI W b (.BoolOp .Or (r :: rest) pos)) :
    SE P T X call callI W (.or a b) (.BoolOp .Or (l :: r :: rest) pos) := by
  refine peI (pe_orT ha hb) fun σ H Q h => ?_
  refine (tR.bind1 (R1 := RV X.K T.toTab) (f := fun fr v h1 => (pure h1 (tru h1 v)).bind fun t h1 => if t then Res.ok v h1 else ev P call callI b fr h1) h).mono fun x H1 ⟨v, φ, h1, fr, R, F, q, o⟩ => ?_
  obtain ⟨t, e, o⟩ := o.pbind
  refine ⟨t, tru_V R q e, ?_⟩
  cases t with
  | false => rw [if_neg Bool.false_ne_true] at o ⊢; exact ⟨φ, h1, fr, R, F, o⟩
  | true => rw [if_pos rfl] at o ⊢; exact o.ok R q
theorem r_cmp {o : Cop} {a b : Ex} {σ : L2.St} {H : L2.Hp} {Q : VK} (h : tV X.K T.toTab W (ev P call callI (.cmp o a b)) σ H Q) :
    tOp (rCm X.K T.toTab o) (tV X.K T.toTab W (ev P call callI a)) (tV X.K T.toTab W (ev P call callI b)) σ H Q := by
  refine (tR.bind2 (R1 := RV X.K T.toTab) (R2' := RV X.K T.toTab) (f := fun _ v u h => (pure h (cmpV h o v u)).bind fun t h2 => Res.ok (Val.bl t) h2) rvmono h).mono fun x H1 q => q.mono fun y H2 ⟨v, u, φ, h2, fr, R, F, q1, q2, o⟩ => ?_
  obtain ⟨t, e, o⟩ := o.pbind
  exact ⟨v, u, φ, h2, t, R, q1, q2, e, o.ok R rfl⟩
theorem s_cmp (C : Ctx P G T c X call callI W k) {o : Cop} {a b : Ex} {l r : Expr} {pos : Pos} (hs : notSet r = true) (ha : SE P T X call callI W a l) (hb : SE P T X call callI W b r) :
    SE P T X call callI W (.cmp o a b) (.Compare l [copOf o] [r] pos) := by
  refine peI (pe_cmpR (cmp_ok (T := T.toTab) C.un C.tw o) ha hb (behind_of hs _)) fun σ H Q h => r_cmp h
theorem r_chn {o p : Cop} {a b d : Ex} {σ : L2.St} {H : L2.Hp} {Q : VK} (h : tV X.K T.toTab W (ev P call callI (.chn o p a b d)) σ H Q) :
    tChain (rCm X.K T.toTab o) (rCm X.K T.toTab p) (tV X.K T.toTab W (ev P call callI a)) (tV X.K T.toTab W (ev P call callI b)) (tV X.K T.toTab W (ev P call callI d)) σ H Q := by
  refine (tR.bind2 (R1 := RV X.K T.toTab) (R2' := RV X.K T.toTab) (f := fun fr v w h2 => (pure h2 (cmpV h2 o v w)).bind fun t h2 =>
    if t then (ev P call callI d fr h2).bind fun x h3 => (pure h3 (cmpV h3 p w x)).bind fun t h3 => Res.ok (Val.bl t) h3 else Res.ok (Val.bl false) h2) rvmono h).mono fun x H1 q => q.mono fun y H2 ⟨v, u, φ, h2, fr, R, F, q1, q2, o⟩ => ?_
  obtain ⟨t, e, o⟩ := o.pbind
  refine ⟨v, u, φ, h2, t, R, q1, q2, e, t, rfl, ?_⟩
  cases t with
  | false => rw [if_neg Bool.false_ne_true] at o ⊢; exact o.ok R rfl
  | true =>
    rw [if_pos rfl] at o ⊢
    refine ⟨φ, h2, fr, R, F, o.bind.mono fun z H3 ⟨x3, ψ, h3, e3, R3, q3, o3⟩ => ?_⟩
    obtain ⟨t, e, o⟩ := o3.pbind
    exact ⟨u, x3, ψ, h3, t, R3, q2.mono e3 _ _, q3, e, o.ok R3 rfl⟩
theorem s_chn (C : Ctx P G T c X call callI W k) {o p : Cop} {a b d : Ex} {l r s : Expr} {pos : Pos} (hs : notSet s = true) (ha : SE P T X call callI W a l) (hb : SE P T X call callI W b r) (hd : SE P T X call callI W d s) :
    SE P T X call callI W (.chn o p a b d) (.Compare l [copOf o, copOf p] [r, s] pos) := by
  exact peI (pe_chain (cmp_ok (T := T.toTab) C.un C.tw o) (cmp_ok (T := T.toTab) C.un C.tw p) ha hb hd (behind_of hs _)) fun σ H Q h => r_chn h
theorem nonV {K : PySem.W.Frag} {T : Tab} {v : Val} {x : V} {φ : Ix} {H : L2.Hp} : RV K T φ H v x → decide (x = V.non) = (match v with | .non => true | _ => false) := by
  intro q
  cases v with
  | non => rw [show x = _ from q]; rfl
  | bl b => rw [show x = _ from q]; rfl
  | int b => rw [show x = _ from q]; rfl
  | str b => rw [show x = _ from q]; rfl
  | fn b => rw [show x = _ from q]; rfl
  | ref n => obtain ⟨a, _, rfl⟩ := q; rfl
  | tup xs => obtain ⟨a, vs, rfl, _⟩ := q; rfl
  | lst xs => obtain ⟨a, vs, rfl, _⟩ := q; rfl
  | dik xs => obtain ⟨a, vs, rfl, _⟩ := q; rfl
  | ins n xs => obtain ⟨a, dx, vs, rfl, _⟩ := q; rfl
  | ktp xs => obtain ⟨a, vs, rfl, _⟩ := q; rfl
  | kdk xs => obtain ⟨a, rfl, _⟩ := q; rfl
  | kls xs => obtain ⟨a, vs, rfl, _⟩ := q; rfl
theorem s_isN (C : Ctx P G T c X call callI W k) {n : Bool} {a : Ex} {l : Expr} {j : Nat} {p1 pos : Pos} (ha : SE P T X call callI W a l) :
    SE P T X call callI W (.isN n a) (.Compare l [if n then .IsNot else .Is] [.Constant .none j p1] pos) := by
  have nn := @nonV X.K T.toTab
  cases n with
  | true =>
    refine peI (pe_cmp (pc_notN ha)) fun σ H Q h => ?_
    refine (tR.bind1 (R1 := RV X.K T.toTab) (f := fun _ (v : Val) h1 => Res.ok (Val.bl (match v with | .non => !true | _ => true)) h1) h).mono fun x H1 ⟨v, φ, h1, fr, R, F, q, o⟩ => ?_
    have := o.ok R rfl
    show Q (.bl (!decide (x = V.non))) H1
    rw [nn q]
    cases v <;> exact this
  | false =>
    refine peI (pe_cmp (pc_isN ha)) fun σ H Q h => ?_
    refine (tR.bind1 (R1 := RV X.K T.toTab) (f := fun _ (v : Val) h1 => Res.ok (Val.bl (match v with | .non => !false | _ => false)) h1) h).mono fun x H1 ⟨v, φ, h1, fr, R, F, q, o⟩ => ?_
    have := o.ok R rfl
    show Q (.bl (decide (x = V.non))) H1
    rw [nn q]
    cases v <;> exact this
theorem s_isB (C : Ctx P G T c X call callI W k) {n b : Bool} {a : Ex} {l : Expr} {j : Nat} {p1 pos : Pos} (ha : SE P T X call callI W a l) :
    SE P T X call callI W (.isB n b a) (.Compare l [if n then .IsNot else .Is] [.Constant (.bool b) j p1] pos) := by
  cases n with
  | true =>
    refine peI (pe_cmpR op_notBl ha pe_bl (nomark _)) fun σ H Q h => ?_
    refine (tR.bind1 (R1 := RV X.K T.toTab) (f := fun _ (v : Val) h1 => (match v with | .bl c => Res.ok (Val.bl (if true then !decide (c = b) else decide (c = b))) h1 | _ => Res.bad : Res Val)) h).mono fun x H1 ⟨v, φ, h1, fr, R, F, q, o⟩ => ?_
    cases v <;> first | exact False.elim o | skip
    rw [show x = _ from q]
    exact ⟨_, b, rfl, rfl, o.ok R rfl⟩
  | false =>
    refine peI (pe_cmpR op_isBl ha pe_bl (nomark _)) fun σ H Q h => ?_
    refine (tR.bind1 (R1 := RV X.K T.toTab) (f := fun _ (v : Val) h1 => (match v with | .bl c => Res.ok (Val.bl (if false then !decide (c = b) else decide (c = b))) h1 | _ => Res.bad : Res Val)) h).mono fun x H1 ⟨v, φ, h1, fr, R, F, q, o⟩ => ?_
    cases v <;> first | exact False.elim o | skip
    rw [show x = _ from q]
    exact ⟨_, b, rfl, rfl, o.ok R rfl⟩
theorem s_tup (C : Ctx P G T c X call callI W k) {es : Exs} {xs : List Expr} {j : Nat} {pos : Pos} (ha : SEs P T X call callI W es xs) : SE P T X call callI W (.tup es) (.Tuple xs j pos) := by
  refine peI (pe_tup ha) fun σ H Q h => ?_
  refine (tR.bind1 (R1 := RVs X.K T.toTab) (f := fun _ vs h1 => if vs.length ≤ szl then Res.ok (Val.tup vs) h1 else Res.bad) h).mono fun x H1 ⟨v, φ, h1, fr, R, F, q, o⟩ => ?_
  split at o
  · rename_i hl
    exact ⟨by rw [q.length]; exact hl, o.newT R q⟩
  · exact False.elim o
/-- a new container -/
abbrev tA (K : PySem.W.Frag) (T : Tab) (W : WX) (r : PyI.Fr → Mem → Res Con) : TE := tR K T W (RA K T) r
abbrev SA (P : Pg) (T : Tab2) (X : Cx) (call callI : Nat → List Val → Mem → Res Ret) (W : WX) (a : Az) (x : Expr) : Prop := PE X x (tA X.K T.toTab W (evA P call callI a))
theorem a_dsp (C : Ctx P G T c X call callI W k) {es : Exs} {xs : List Expr} {pos : Pos} (ha : SEs P T X call callI W es xs) : SA P T X call callI W (.dsp es) (.List xs pos) := by
  refine peI (pe_lst ha) fun σ H Q h => ?_
  refine (tR.bind1 (R1 := RVs X.K T.toTab) (f := fun _ vs h1 => if vs.length ≤ szl then Res.ok (Con.lst vs) h1 else Res.bad) h).mono fun x H1 ⟨v, φ, h1, fr, R, F, q, o⟩ => ?_
  split at o
  · rename_i hl
    exact ⟨by rw [q.length]; exact hl, o.newL R q⟩
  · exact False.elim o
theorem a_dd0 (C : Ctx P G T c X call callI W k) {pos : Pos} : SA P T X call callI W (.dd [] .nil) (.Dict [] [] pos) :=
  peI pe_dnewK fun σ H Q ⟨φ, h, fr, R, F, o⟩ => okR.newA (c := .dik []) (o := fun _ _ => .dK []) o R fun p hp => ⟨[], rfl, rfl⟩
theorem lit_pe {X : Cx} {l : Lit} {kk : Const} {a : Nat} {b : Pos} {K : PySem.W.Frag} {T : Tab} (h : mLit l kk = true) : ∃ y : V, PE X (.Constant kk a b) (fun _ H Q => Q y H) ∧ (∀ φ H, RV K T φ H l.val y) ∧ (∀ z, l.key = some z → y = kV (kT z)) := by
  cases l <;> cases kk <;> simp only [mLit, Bool.false_eq_true, beq_iff_eq, decide_eq_true_eq] at h
  · exact ⟨_, peI pe_non fun _ _ _ q => q, fun _ _ => rfl, fun z e => by cases e⟩
  · subst h; exact ⟨_, peI pe_bl fun _ _ _ q => q, fun _ _ => rfl, fun z e => by cases e⟩
  · subst h; exact ⟨_, peI pe_int fun _ _ _ q => q, fun _ _ => rfl, fun z e => by cases e; rfl⟩
  · subst h; exact ⟨_, peI pe_str fun _ _ _ q => q, fun _ _ => rfl, fun z e => by cases e; rfl⟩
theorem a_dd1 (C : Ctx P G T c X call callI W k) {k l : Lit} {ck cv : Const} {a1 a2 : Nat} {p1 p2 pos : Pos} (h1 : k.key.isSome = true) (h2 : mLit k ck = true) (h3 : mLit l cv = true) :
    SA P T X call callI W (.dd [k] (.cons (.lit l) .nil)) (.Dict [some (.Constant ck a1 p1)] [.Constant cv a2 p2] pos) := by
  obtain ⟨z, hz⟩ := Option.isSome_iff_exists.mp h1
  obtain ⟨x, ex, _, kx⟩ := lit_pe (X := X) (a := a1) (b := p1) (K := X.K) (T := T.toTab) h2
  obtain ⟨y, ey, ry, _⟩ := lit_pe (X := X) (a := a2) (b := p2) (K := X.K) (T := T.toTab) h3
  obtain rfl := kx z hz
  refine peI (pe_disp (pps_cons ex ey pps_nil) rfl rfl (by simp) (by simp)) fun σ H Q ⟨φ, h, fr, R, F, o⟩ => ?_
  have ev : evA P call callI (.dd [k] (.cons (.lit l) .nil)) fr h = .ok (.dik [(z, l.val)]) h := by
    show (match [k].mapM Lit.key with | some kk => if kk.length = [l.val].length ∧ kk.Nodup ∧ kk.length ≤ 1000 then Res.ok (Con.dik (kk.zip [l.val])) h else .bad | none => .bad) = _
    have : [k].mapM Lit.key = some [z] := by rw [List.mapM_cons, hz]; rfl
    rw [this]; simp
  rw [ev] at o
  have := okR.newA (c := .dik [(z, l.val)]) (o := fun _ _ => .dK [(kT z, y)]) o R fun p hp => ⟨_, rfl, _, _, rfl, ry _ _, rfl⟩
  intro p hp
  refine ⟨upd_same, [(kT z, y)], rfl, by simp, ?_⟩
  rw [upd_upd]
  exact this p hp
theorem a_dt (C : Ctx P G T c X call callI W k) {pos : Pos} : SA P T X call callI W .dt (.Dict [] [] pos) :=
  peI pe_dnewT fun σ H Q ⟨φ, h, fr, R, F, o⟩ => okR.newA (c := .dit []) (o := fun _ _ => .dT []) o R fun p hp => ⟨[], rfl, rfl⟩
theorem s_az (C : Ctx P G T c X call callI W k) {a : Az} {x : Expr} (h : SA P T X call callI W a x) : SE P T X call callI W (.az a) x := by
  refine peI h fun σ H Q ⟨φ, h, fr, R, F, o⟩ => ?_
  refine ⟨φ, h, fr, R, F, okR.mono (okR.bind (RR' := RA X.K T.toTab) o) fun x G ⟨c', ψ, h1, e, R1, q, o1⟩ => ?_⟩
  obtain ⟨v, ev, o1⟩ := o1.pure
  obtain ⟨χ, e2, R2, q2⟩ := q.frz R1 ev
  exact o1 χ G x e2 R2 q2
theorem RA.heap {K : PySem.W.Frag} {T : Tab} {φ : Ix} {H : L2.Hp} {h : Mem} {c' : Con} {x : V} (q : RA K T φ H c' x) (R : Rel K T φ H h) : ∃ ψ, Ext φ H ψ H ∧ Rel K T ψ H (h ++ [.con c']) ∧ RV K T ψ H (.ref h.length) x := by
  obtain ⟨a, u, rfl, fr, hu, q⟩ := q
  have ex : Ext φ H (φ.push a) H := { pre := ⟨[a], rfl⟩, eS := rfl, eL := fun _ z => z, tup := fun _ _ z => z, keL := fun _ _ => .refl, keS := fun _ _ => rfl, fz := fun _ _ _ q => q, eM := rfl, keM := fun _ _ => rfl }
  have tr : ∀ b, (φ.push a).tr b → φ.tr b ∨ b = a := fun b q => by
    rcases q with q | q
    · rcases List.mem_append.mp q with q | q
      · exact .inl (.inl q)
      · exact .inr (by simpa using q)
    · exact .inl (.inr q)
  refine ⟨φ.push a, ex, ?_, ⟨a, by rw [← R.len]; simp [Ix.push], rfl⟩⟩
  refine ⟨by simp [Ix.push, R.len], ?_, ?_, R.oi, fun n f b e => ⟨by have := (R.on n f b e).1; simp [Ix.push]; omega, (R.on n f b e).2⟩, ?_, ?_, ?_, fun n b ob' e1 e2 => ?_⟩
  · show (φ.c ++ [a]).Nodup
    rw [List.nodup_append]
    refine ⟨R.nd, by simp, fun x hx y hy e => ?_⟩
    have : y = a := by simpa using hy
    subst this; subst e
    exact fr.tr (.inl hx)
  · intro n f b e hm
    rcases List.mem_append.mp hm with hm | hm
    · exact R.oc n f b e hm
    · have : b = a := by simpa using hm
      subst this
      exact fr.tr (.inr ⟨n, f, e⟩)
  · intro b q
    exact ⟨fun z => (tr b z).elim (R.iL b q).1 fun z => fr.L (z ▸ q), (R.iL b q).2⟩
  · intro b q
    exact ⟨fun z => (tr b z).elim (R.iS b q).1 fun z => fr.S (z ▸ q), (R.iS b q).2⟩
  · intro b q
    exact ⟨fun z => (tr b z).elim (R.iM b q).1 fun z => fr.M (z ▸ q), (R.iM b q).2⟩
  · have e1 : (φ.c ++ [a])[n]? = some b := e1
    by_cases hl : n < φ.c.length
    · rw [List.getElem?_append_left hl] at e1
      rw [List.getElem?_append_left (by rw [← R.len]; exact hl)] at e2
      obtain ⟨u, q1, q2⟩ := R.at_ n b ob' e1 e2
      exact ⟨u, q1, q2.monoV ex.toExtS.ve fun f c e => ⟨e, rfl⟩⟩
    · have hn2 : n = φ.c.length := by
        have := (List.getElem?_eq_some_iff.mp e1).1
        simp at this; omega
      subst hn2
      rw [List.getElem?_append_right (Nat.le_refl _)] at e1
      rw [List.getElem?_append_right (by rw [R.len]; exact Nat.le_refl _)] at e2
      simp at e1
      simp [R.len] at e2
      subst e1; subst e2
      exact ⟨u, hu, q.mono ex⟩
theorem s_hp (C : Ctx P G T c X call callI W k) {a : Az} {x : Expr} (h : SA P T X call callI W a x) : SE P T X call callI W (.hp a) x := by
  refine peI h fun σ H Q ⟨φ, h, fr, R, F, o⟩ => ?_
  refine ⟨φ, h, fr, R, F, okR.mono (okR.bind (RR' := RA X.K T.toTab) o) fun x G ⟨c', ψ, h1, e, R1, q, o1⟩ => ?_⟩
  obtain ⟨χ, e2, R2, q2⟩ := q.heap R1
  exact o1 χ G x e2 R2 q2
end
end PyI
namespace PyI
open PySem PySem.Spec PyProof.Rows L2
section
variable {α β γ δ : Type} {K : PySem.W.Frag} {T : Tab} {φ ψ : Ix} {H G : L2.Hp} {h : Mem} {RR : Ix → L2.Hp → α → β → Prop} {RR' : Ix → L2.Hp → γ → δ → Prop}
  {Q : β → L2.Hp → Prop} {E : Nat → L2.Hp → Prop}
theorem okR.bindE {r : Res γ} {f : γ → Mem → Res α} (o : okR K T RR φ H Q E (r.bind f)) :
    okR K T RR' φ H (fun x H1 => ∃ v ψ h1, r = .ok v h1 ∧ Ext φ H ψ H1 ∧ Rel K T ψ H1 h1 ∧ RR' ψ H1 v x ∧ okR K T RR ψ H1 Q E (f v h1)) E r := by
  cases r with
  | ok v h => exact fun χ F x e2 R q => ⟨v, χ, h, rfl, e2, R, q, o.ext e2⟩
  | exc c h => exact o
  | bad => exact o
end
theorem peOr {X : Cx} {e : Expr} {t u : TE} (p : PE X e t) (q : PE X e u) : PE X e (fun σ H Q => t σ H Q ∨ u σ H Q) := ⟨fun pins s σ H Q I h => h.elim (p.run pins s σ H Q I) (q.run pins s σ H Q I)⟩
section
variable {X : Cx} {T : Tab} {φ : Ix} {H : L2.Hp} {h : Mem} {Q : VK} {E : Nat → L2.Hp → Prop}
def isDct : Con → Bool
  | .lst _ => false
  | _ => true
/-- .. of a place -/
theorem ixL_ok (hw : T.w = X.w) : IxR X (fun x y H Q => ∃ E v u φ h, Rel X.K T φ H h ∧ RV X.K T φ H v x ∧ RV X.K T φ H u y ∧ okR X.K T (RV X.K T) φ H Q E (ixV v u h) ∧ (∀ c, conV h v = some c → isDct c = false)) := by
  intro value slice pins s σ H x y xv yv Q I rx ry ⟨E, v, u, φ, h, R, q1, q2, o, nd⟩ hs
  have viaC : okR X.K T (RV X.K T) φ H Q E (pure h ((conV h v).bind fun c => cix c u)) → wpAny (model X.prog X.w) X.A (subscriptTail value slice xv yv) (EP X pins σ Q) X.xe s := fun o => by
    obtain ⟨z, e, o'⟩ := o.pure
    obtain ⟨c, e1, e2⟩ := Option.bind_eq_some_iff.mp e
    have hd := nd c e1
    obtain ⟨a, rfl, ca⟩ := R.conV q1 e1
    cases c <;> simp only [isDct, reduceCtorEq] at hd
    simp only [cix] at e2
    cases u <;> simp only [reduceCtorEq] at e2
    obtain ⟨vs, p1, p2⟩ := ca.sq
    obtain ⟨y', hz, rz⟩ := p2.nth e2
    rw [show y = _ from q2] at ry
    exact ix_list value slice pins s σ H _ _ _ _ Q I rx ry ⟨a, vs, _, y', rfl, rfl, p1, hz, o'.ok R rz⟩ hs
  cases v <;> simp only [ixV] at o
  case tup ys =>
    cases u <;> simp only [] at o <;> try exact False.elim o
    obtain ⟨a, vs, rfl, p1, p2⟩ := q1
    obtain ⟨v, e, o⟩ := o.pure
    obtain ⟨z, hz, rz⟩ := p2.nth e
    rw [show y = _ from q2] at ry
    exact ix_tup value slice pins s σ H _ _ _ _ Q I rx ry ⟨a, vs, _, z, rfl, rfl, .of p1, hz, o.ok R rz⟩ hs
  case ktp ys =>
    cases u <;> simp only [] at o <;> try exact False.elim o
    obtain ⟨a, vs, rfl, p1, p2⟩ := q1
    obtain ⟨v, e, o⟩ := o.pure
    obtain ⟨z, hz, rz⟩ := p2.nth e
    rw [show y = _ from q2] at ry
    exact ix_tup value slice pins s σ H _ _ _ _ Q I rx ry ⟨a, vs, _, z, rfl, rfl, p1.sq, hz, o.ok R rz⟩ hs
  case kdk kvs =>
    obtain ⟨v, e, o'⟩ := o.pure
    obtain ⟨ov, e1, e2⟩ := Option.bind_eq_some_iff.mp e
    cases u <;> simp only [kdget, reduceCtorEq, Option.some.injEq] at e1
    subst e1
    obtain ⟨a, rfl, p1, p2⟩ := q1
    obtain ⟨y', k1, k2⟩ := p2.val e2
    rw [show y = _ from q2] at ry
    rw [hw] at k1
    exact ix_kdict value slice pins s σ H _ _ _ _ Q I rx ry ⟨a, _, y', rfl, rfl, k1, o'.ok R k2⟩ hs
  case kls ys =>
    cases u <;> simp only [] at o <;> try exact False.elim o
    obtain ⟨a, vs, rfl, p1, p2⟩ := q1
    obtain ⟨v, e, o⟩ := o.pure
    obtain ⟨z, hz, rz⟩ := p2.nth e
    rw [show y = _ from q2] at ry
    exact ix_list value slice pins s σ H _ _ _ _ Q I rx ry ⟨a, vs, _, z, rfl, rfl, p1.sq, hz, o.ok R rz⟩ hs
  case str z =>
    cases u <;> simp only [] at o <;> try exact False.elim o
    rename_i i
    split at o
    · rename_i hl
      obtain ⟨v, e, o⟩ := o.pure
      obtain ⟨c, hc, rfl⟩ := Option.map_eq_some_iff.mp e
      rw [show x = _ from q1] at rx; rw [show y = _ from q2] at ry
      exact ix_str value slice pins s σ H _ _ _ _ Q I rx ry ⟨_, i, c.toNat, rfl, rfl, by rw [toStr_length]; exact hl, ix_txt (K := X.K) hc, o.ok R rfl⟩ hs
    · exact False.elim o
  all_goals exact viaC o
theorem ixV_dict {v u : Val} {z : Val} {c : Con} (e1 : conV h v = some c) (hd : isDct c = true) (e : ixV v u h = .ok z h) : cget c u = some (some z) := by
  have g : pure h ((conV h v).bind fun c => cix c u) = .ok z h := by
    cases v <;> simp only [conV, reduceCtorEq] at e1 <;> exact e
  rw [e1] at g
  simp only [Option.bind_some] at g
  cases c <;> simp only [isDct, reduceCtorEq] at hd <;> simp only [cix] at g
  all_goals
    cases hh : cget _ u with
    | none => rw [hh] at g; cases g
    | some o =>
      rw [hh] at g
      cases o with
      | none => cases g
      | some w => cases g; rfl
theorem pure_ok {α : Type} {h h1 : Mem} {p : Option α} {z : α} (e : pure h p = .ok z h1) : p = some z ∧ h1 = h := by
  cases p with
  | none => cases e
  | some a => cases e; exact ⟨rfl, rfl⟩
theorem ixV_mem {v u z : Val} {h1 : Mem} (e : ixV v u h = .ok z h1) : h1 = h := by
  cases v <;> simp only [ixV] at e <;> first | exact (pure_ok e).2 | skip
  all_goals
    cases u <;> simp only [reduceCtorEq] at e <;> first | exact (pure_ok e).2 | skip
  split at e
  · exact (pure_ok e).2
  · cases e
theorem ixV_exc {v u : Val} {d : Nat} {h1 : Mem} (e : ixV v u h = .exc d h1) : False := by
  have np : ∀ {p : Option Val}, pure h p ≠ .exc d h1 := fun {p} z => by cases p <;> cases z
  cases v <;> simp only [ixV] at e <;> first | exact np e | skip
  all_goals
    cases u <;> simp only [reduceCtorEq] at e <;> first | exact np e | skip
  split at e
  · exact np e
  · cases e
end
section
variable {P : Pg} {G : Gam} {T : Tab2} {c : SC} {X : Cx} {call callI : Nat → List Val → Mem → Res Ret} {W : WX} {k : Nat}
theorem s_ix (C : Ctx P G T c X call callI W k) {a i : Ex} {l r : Expr} {pos : Pos} (hs : notSlice r = true) (ha : SE P T X call callI W a l) (hi : SE P T X call callI W i r) : SE P T X call callI W (.ix a i) (.Subscript l r pos) := by
  refine peI (peOr (pe_ix (ixL_ok (T := T.toTab) C.tw) ha hi (plainIx_of hs)) (pe_dget (by have := C.un; omega) ha hi (noSl_of hs))) fun σ H Q ⟨φ, h, fr, R, F, o⟩ => ?_
  by_cases hd : ∃ v h1 u h2 cc, ev P call callI a fr h = .ok v h1 ∧ ev P call callI i fr h1 = .ok u h2 ∧ conV h2 v = some cc ∧ isDct cc = true
  · obtain ⟨v, h1, u, h2, cc, e1, e2, e5, hc⟩ := hd
    refine .inr ⟨φ, h, fr, R, F, o.bindE.mono fun x H1 ⟨v', ψ, h1', e3, x1, R1, q1, o1⟩ => ?_⟩
    rw [e1] at e3; cases e3
    refine ⟨ψ, h1, fr, R1, F.mono x1, o1.bindE.mono fun y H2 ⟨u', χ, h2', e4, x2, R2, q2, o2⟩ => ?_⟩
    rw [e2] at e4; cases e4
    obtain ⟨b, rfl, ca⟩ := R2.conV (q1.mono x2 _ _) e5
    cases hr : ixV v u h2 with
    | bad => rw [hr] at o2; exact False.elim o2
    | exc d hh => exact (ixV_exc hr).elim
    | ok z hh =>
      have := ixV_mem hr
      subst this
      obtain ⟨p, dg, g1, _⟩ := ca.get q2 (ixV_dict e5 hc hr)
      obtain ⟨z', rfl, rz⟩ := g1 z rfl
      rw [hr] at o2
      exact ⟨b, z', rfl, dg, o2.ok R2 rz⟩
  · refine .inl ⟨φ, h, fr, R, F, o.bindE.mono fun x H1 ⟨v, ψ, h1, e3, x1, R1, q1, o1⟩ => ?_⟩
    refine ⟨ψ, h1, fr, R1, F.mono x1, o1.bindE.mono fun y H2 ⟨u, χ, h2, e4, x2, R2, q2, o2⟩ => ?_⟩
    refine ⟨_, v, u, χ, h2, R2, q1.mono x2 _ _, q2, o2, fun cc e5 => ?_⟩
    cases hc : isDct cc with
    | false => rfl
    | true => exact absurd ⟨v, h1, u, h2, cc, e3, e4, e5, hc⟩ hd
/-! ### slices -/
def RO (_ : Ix) (_ : L2.Hp) (b c : Option Int) : Prop := c = b
abbrev SOE (P : Pg) (T : Tab2) (X : Cx) (call callI : Nat → List Val → Mem → Res Ret) (W : WX) (e : OEx) (x : Option Expr) : Prop :=
  PO X x (tR X.K T.toTab W RO (evo P call callI e))
theorem s_ono (C : Ctx P G T c X call callI W k) : SOE P T X call callI W .no none := by
  refine ⟨fun pins s σ H Q I ⟨φ, h, fr, R, F, o⟩ => po_none.run pins s σ H Q I ?_⟩
  exact okR.ok (v := (none : Option Int)) o R rfl
theorem s_oso (C : Ctx P G T c X call callI W k) {e : Ex} {x : Expr} (ha : SE P T X call callI W e x) : SOE P T X call callI W (.so e) (some x) := by
  refine ⟨fun pins s σ H Q I h => (po_some ha).run pins s σ H Q I ?_⟩
  refine (tR.bind1 (R1 := RV X.K T.toTab) (f := fun _ (v : Val) h1 => (match v with | .int i => Res.ok (some i) h1 | _ => Res.bad : Res (Option Int))) h).mono fun x H1 ⟨v, φ, h1, fr, R, F, q, o⟩ => ?_
  cases v <;> first | exact False.elim o | skip
  exact ⟨_, q, o.ok R rfl⟩
theorem slP_ok : SlR X (fun x lo hi H Q => ∃ E v φ h, Rel X.K T.toTab φ H h ∧ RV X.K T.toTab φ H v x ∧ okR X.K T.toTab (RV X.K T.toTab) φ H Q E (slP v lo hi h)) := by
  intro pins s σ H x v vl vu lo hi sl Q I rx hs pl pu ⟨E, u, φ, h, R, q1, o⟩
  cases u <;> simp only [slP] at o <;> try exact False.elim o
  · rename_i z
    rw [show x = _ from q1] at rx
    split at o
    · rename_i hl
      refine sl_str pins s σ H _ v vl vu lo hi sl Q I rx hs pl pu ⟨_, rfl, by rw [toStr_length]; exact hl, ?_⟩
      have : cutS (toStr z) lo hi = toStr (cut z lo hi) := by
        unfold cutS cut
        rw [toStr_length, sIx_eq, sIx_eq]
        unfold toStr
        simp [List.map_take, List.map_drop]
      rw [this]
      exact o.ok R rfl
    · exact False.elim o
  · rename_i ys
    obtain ⟨a, vs, rfl, p1, p2⟩ := id q1
    refine sl_tupA pins s σ H _ v vl vu lo hi sl Q I rx hs pl pu ⟨a, vs, rfl, .of p1, fun ⟨h1, h2⟩ => ?_, fun _ => o.newT R (p2.cut lo hi)⟩
    rw [p2.length, sIx_eq] at h1 h2
    rw [cut_whole ys lo hi h1 h2] at o
    exact o.ok R q1
theorem slL_ok : SlR X (fun x lo hi H Q => ∃ E v φ h, Rel X.K T.toTab φ H h ∧ RV X.K T.toTab φ H v x ∧ okR X.K T.toTab (RA X.K T.toTab) φ H Q E (pure h (slL v lo hi h))) := by
  intro pins s σ H x v vl vu lo hi sl Q I rx hs pl pu ⟨E, u, φ, h, R, q1, o⟩
  obtain ⟨d, e, o⟩ := o.pure
  obtain ⟨ys, e1, rfl⟩ := Option.map_eq_some_iff.mp e
  obtain ⟨a, vs, rfl, p1, p2⟩ := R.lsA q1 e1
  exact sl_list pins s σ H _ v vl vu lo hi sl Q I rx hs pl pu ⟨a, vs, rfl, p1, o.newL R (p2.cut lo hi)⟩
theorem sl_ok : SlR X (fun x lo hi H Q => ∃ E v φ h, Rel X.K T.toTab φ H h ∧ RV X.K T.toTab φ H v x ∧ okR X.K T.toTab (RV X.K T.toTab) φ H Q E (slV v lo hi h)) := by
  intro pins s σ H x v vl vu lo hi sl Q I rx hs pl pu ⟨E, u, φ, h, R, q1, o⟩
  unfold slV at o
  split at o
  · rename_i c e
    exact slL_ok (T := T) pins s σ H x v vl vu lo hi sl Q I rx hs pl pu ⟨E, u, φ, h, R, q1, by rw [e]; exact o.frzA⟩
  · exact slP_ok (T := T) pins s σ H x v vl vu lo hi sl Q I rx hs pl pu ⟨E, u, φ, h, R, q1, o⟩
theorem s_sl (C : Ctx P G T c X call callI W k) {a : Ex} {lo hi : OEx} {l : Expr} {u v : Option Expr} {p2 pos : Pos} (ha : SE P T X call callI W a l) (hl : SOE P T X call callI W lo u) (hh : SOE P T X call callI W hi v) :
    SE P T X call callI W (.sl a lo hi) (.Subscript l (.Slice u v none p2) pos) := by
  refine peI (pe_slice (sl_ok (T := T)) ha hl hh) fun σ H Q ⟨φ, h, fr, R, F, o⟩ => ?_
  refine ⟨φ, h, fr, R, F, o.bindE.mono fun x H1 ⟨v, ψ, h1, e1, x1, R1, q1, o1⟩ => ?_⟩
  refine ⟨ψ, h1, fr, R1, F.mono x1, o1.bindE.mono fun y H2 ⟨lv, χ, h2, e2, x2, R2, q2, o2⟩ => ?_⟩
  refine ⟨χ, h2, fr, R2, (F.mono x1).mono x2, o2.bindE.mono fun z H3 ⟨uv, ω, h3, e3, x3, R3, q3, o3⟩ => ?_⟩
  rw [show y = lv from q2, show z = uv from q3]
  exact ⟨_, v, ω, h3, R3, (q1.mono x2 _ _).mono x3 _ _, o3⟩
theorem a_sl (C : Ctx P G T c X call callI W k) {a : Ex} {lo hi : OEx} {l : Expr} {u v : Option Expr} {p2 pos : Pos} (ha : SE P T X call callI W a l) (hl : SOE P T X call callI W lo u) (hh : SOE P T X call callI W hi v) :
    SA P T X call callI W (.sl a lo hi) (.Subscript l (.Slice u v none p2) pos) := by
  refine peI (pe_slice (slL_ok (T := T)) ha hl hh) fun σ H Q ⟨φ, h, fr, R, F, o⟩ => ?_
  refine ⟨φ, h, fr, R, F, o.bindE.mono fun x H1 ⟨v, ψ, h1, e1, x1, R1, q1, o1⟩ => ?_⟩
  refine ⟨ψ, h1, fr, R1, F.mono x1, o1.bindE.mono fun y H2 ⟨lv, χ, h2, e2, x2, R2, q2, o2⟩ => ?_⟩
  refine ⟨χ, h2, fr, R2, (F.mono x1).mono x2, o2.bindE.mono fun z H3 ⟨uv, ω, h3, e3, x3, R3, q3, o3⟩ => ?_⟩
  rw [show y = lv from q2, show z = uv from q3]
  exact ⟨_, v, ω, h3, R3, (q1.mono x2 _ _).mono x3 _ _, o3⟩
theorem a_slP (C : Ctx P G T c X call callI W k) {i : Nat} {n : Str} {lo hi : OEx} {u v : Option Expr} {p1 p2 pos : Pos} (ha : c.slot i n = true) (hl : SOE P T X call callI W lo u) (hh : SOE P T X call callI W hi v) :
    SA P T X call callI W (.slP i lo hi) (.Subscript (.Name n p1) (.Slice u v none p2) pos) := by
  refine peI (pe_slice (sl_list (X := X)) (C.var ha) hl hh) fun σ H Q ⟨φ, h, fr, R, F, o⟩ => ?_
  simp only [evA, slO] at o
  split at o <;> try exact o.elim
  rename_i xs ex
  obtain ⟨a, uu, e1, e2, e3, rc⟩ := F.o i _ ex
  refine ⟨.ref a, e1, φ, h, fr, R, F, o.bindE.mono fun y H2 ⟨lv, χ, h2, e2', x2, R2, q2, o2⟩ => ?_⟩
  refine ⟨χ, h2, fr, R2, F.mono x2, o2.bindE.mono fun z H3 ⟨uv, ω, h3, e3', x3, R3, q3, o3⟩ => ?_⟩
  rw [show y = lv from q2, show z = uv from q3]
  obtain ⟨vs, rfl, rv⟩ := rc
  have m2 : χ.M a := by rw [x2.eM]; exact e2
  have g3 : H3 a = some (.lst vs) := by rw [x3.keM a m2, x2.keM a e2]; exact e3
  have rv3 := (rv.mono x2 _ _).mono x3 _ _
  exact ⟨a, vs, rfl, .of g3, okR.newL o3 R3 (rv3.cut lv uv)⟩
/-! ### lists by operators, by built-ins -/
theorem a_op (C : Ctx P G T c X call callI W k) {f : Val → Val → Mem → Option Con} {op : Operator} {az : Az} {a b : Ex} {l r : Expr} {pos : Pos} (hop : OpR X (binaryOp op) (rA2 X.K T.toTab f))
    (he : ∀ fr h, evA P call callI az fr h = (ev P call callI a fr h).bind fun v h1 => (ev P call callI b fr h1).bind fun w h2 => pure h2 (f v w h2)) (ha : SE P T X call callI W a l) (hb : SE P T X call callI W b r) :
    SA P T X call callI W az (.BinOp l op r pos) := by
  refine peI (pe_op hop ha hb) fun σ H Q ⟨φ, h, fr, R, F, o⟩ => ?_
  rw [he] at o
  refine (tR.bind2 (R1 := RV X.K T.toTab) (R2' := RV X.K T.toTab) (RR := RA X.K T.toTab) (f := fun _ v u h => pure h (f v u h)) rvmono ⟨φ, h, fr, R, F, o⟩).mono fun x H1 q => q.mono fun y H2 ⟨v, u, φ, h2, fr, R, F, q1, q2, o⟩ => ?_
  exact ⟨_, v, u, φ, h2, R, q1, q2, o⟩
end
end PyI
namespace PyI
open PySem PySem.Spec PyProof.Rows L2
theorem RKs.look {K : PySem.W.Frag} {T : Tab} {φ : Ix} {H : L2.Hp} {nm : Nat → Str} (inj : ∀ i j, nm i = nm j → i = j) : ∀ {fs : List (Nat × Val)} {ks : List (Str × V)} {f : Nat}, RKs K T nm φ H fs ks →
    (∀ v, fs.lookup f = some v → ∃ x, ks.lookup (nm f) = some x ∧ RV K T φ H v x) ∧ (fs.lookup f = none → ks.lookup (nm f) = none)
  | [], ks, f, q => by rw [show ks = [] from q]; exact ⟨fun v e => by simp at e, fun _ => rfl⟩
  | p :: r, ks, f, q => by
    obtain ⟨x, s, rfl, q1, q2⟩ := q
    have ih := RKs.look inj (f := f) q2
    rw [List.lookup_cons, List.lookup_cons]
    by_cases e : f = p.1
    · subst e
      simp only [beq_self_eq_true]
      exact ⟨fun v e => by cases e; exact ⟨x, rfl, q1⟩, fun e => by cases e⟩
    · have e1 : (f == p.1) = false := by simp [e]
      have e2 : (nm f == nm p.1) = false := by
        rw [beq_eq_false_iff_ne]; exact fun z => e (inj _ _ z)
      rw [e1, e2]
      exact ih
theorem RSs.look {K : PySem.W.Frag} {T : Tab} {φ : Ix} {H : L2.Hp} {n : Nat} (inj : ∀ i j, T.nm i = T.nm j → i = j) : ∀ {fs : List (Nat × Sl)} {ks : List (Str × V)} {f : Nat}, RSs K T φ H n fs ks →
    (∀ v, fs.lookup f = some v → ∃ x, ks.lookup (T.nm f) = some x ∧ RSl K T φ H (φ.o n f) (φ.w n f) v x) ∧ (fs.lookup f = none → ks.lookup (T.nm f) = none)
  | [], ks, f, q => by rw [show ks = [] from q]; exact ⟨fun v e => by simp at e, fun _ => rfl⟩
  | p :: r, ks, f, q => by
    obtain ⟨x, s, rfl, q1, q2⟩ := q
    have ih := RSs.look inj (f := f) q2
    rw [List.lookup_cons, List.lookup_cons]
    by_cases e : f = p.1
    · subst e
      simp only [beq_self_eq_true]
      exact ⟨fun v e => by cases e; exact ⟨x, rfl, q1⟩, fun e => by cases e⟩
    · have e1 : (f == p.1) = false := by simp [e]
      have e2 : (T.nm f == T.nm p.1) = false := by
        rw [beq_eq_false_iff_ne]; exact fun z => e (inj _ _ z)
      rw [e1, e2]
      exact ih
/-! ### into a function, and back -/
def Ix.call (φ : Ix) : Ix := { φ with S := fun a => φ.S a ∨ φ.M a, M := fun _ => False }
def Ix.back (φ ψ : Ix) : Ix := { ψ with S := φ.S, M := φ.M }
section
variable {K : PySem.W.Frag} {T : Tab} {φ ψ : Ix} {H G : L2.Hp} {h h1 : Mem} {Q : VK} {E : Nat → L2.Hp → Prop}
theorem Rel.call (R : Rel K T φ H h) : Rel K T φ.call H h :=
  R.side rfl rfl rfl (fun a q => q.elim (R.iS a) fun q => ⟨(R.iM a q).1, (R.iM a q).2.1, (R.iM a q).2.2.2⟩) fun a q => q.elim
theorem ve_side (ec : ψ.c = φ.c) (eL : ψ.L = φ.L) : VExt φ H ψ H := ⟨fun _ _ q => by rw [ec]; exact q, fun _ q => by rw [eL]; exact q, fun _ _ q => q, fun _ _ => .refl⟩
theorem call_ve : VExt φ H φ.call H := ve_side rfl rfl
theorem back_ve : VExt ψ H (φ.back ψ) H := ve_side rfl rfl
theorem ext_back (R0 : Rel K T φ H h) (e : Ext φ.call H ψ G) (R : Rel K T ψ G h1) : Ext φ H (φ.back ψ) G ∧ Rel K T (φ.back ψ) G h1 := by
  have eS : ∀ a, φ.S a ∨ φ.M a → ψ.S a := fun a q => by rw [e.eS]; exact q
  refine ⟨{ pre := e.pre, eS := rfl, eL := e.eL, tup := e.tup, keL := e.keL, keS := fun a q => e.keS a (.inl q), eM := rfl, keM := fun a q => e.keS a (.inr q), fz := e.fz, eW := e.eW }, ?_⟩
  exact R.side rfl rfl rfl (fun a q => R.iS a (eS a (.inl q))) fun a q => ⟨(R.iS a (eS a (.inr q))).1, (R.iS a (eS a (.inr q))).2.1, (R0.iM a q).2.2.1, (R.iS a (eS a (.inr q))).2.2⟩
theorem RR.back (e : Ext φ.call H ψ G) : ∀ {r : Ret} {x : V}, RR K T ψ G r x → RR K T (φ.back ψ) G r x
  | .v v, x, q => q.monoV back_ve _ _
  | .f xs, x, q => by
    obtain ⟨a, u, ex, fr, hu, q⟩ := q
    have nS : ¬ (φ.S a ∨ φ.M a) := fun z => fr.S (by rw [e.eS]; exact z)
    exact ⟨a, u, ex, ⟨fr.tr, fr.L, fun z => nS (.inl z), fun z => nS (.inr z)⟩, hu, q.monoV back_ve⟩
/-- a function's answer, told at the caller's places -/
theorem okR.call {r : Res Ret} (o : okR K T (RR K T) φ H Q E r) (R : Rel K T φ H h) : okR K T (RR K T) φ.call H Q E r := by
  cases r with
  | ok v h1 => exact fun ψ G x e R1 q => let ⟨e', R'⟩ := ext_back R e R1; o _ G x e' R' (q.back e)
  | exc d h1 => exact fun ψ G e R1 => let ⟨e', R'⟩ := ext_back R e R1; o _ G e' R'
  | bad => exact o
/-- its value -/
theorem okR.val {r : Res Ret} (o : okR K T (RV K T) φ H Q E (r.bind fun x h => .ok x.val h)) : okR K T (RR K T) φ H Q E r := by
  cases r with
  | ok v h1 =>
    intro ψ G x e R1 q
    cases v with
    | v v => exact o ψ G x e R1 q
    | f xs =>
      obtain ⟨χ, e2, R2, q2⟩ := q.frz R1 (v := .lst xs) rfl
      exact o χ G x (e.trans e2) R2 q2
  | exc d h1 => exact o
  | bad => exact o
/-- a new list that it gives -/
theorem okR.valA {r : Res Ret} (o : okR K T (RA K T) φ H Q E (r.bind fun x h => match x with | .f xs => .ok (.lst xs) h | .v _ => .bad)) : okR K T (RR K T) φ H Q E r := by
  cases r with
  | ok v h1 =>
    intro ψ G x e R1 q
    cases v with
    | v v => exact o.elim
    | f xs => exact o ψ G x e R1 q
  | exc d h1 => exact o
  | bad => exact o
end
section
variable {P : Pg} {G : Gam} {T : Tab2} {c : SC} {X : Cx} {call callI : Nat → List Val → Mem → Res Ret} {W : WX} {k : Nat}
theorem Rel.ins {K : PySem.W.Frag} {T : Tab} {φ : Ix} {H : L2.Hp} {h : Mem} (R : Rel K T φ H h) {n d : Nat} {fs : List (Nat × Sl)} {x : V} (r : RV K T φ H (.ref n) x) (e : h[n]? = some (.ins d fs)) :
    ∃ a dx ks, x = .ref a ∧ φ.c[n]? = some a ∧ H a = some (.ins (T.cls d) dx ks) ∧ RSs K T φ H n fs ks := by
  obtain ⟨a, u, rfl, e1, q1, dx, ks, rfl, q2⟩ := R.ref r e
  exact ⟨a, dx, ks, rfl, e1, q1, q2⟩
/-- what an instance is -/
def insV (h : Mem) : Val → Option Nat
  | .ref n => match h[n]? with
    | some (.ins d _) => some d
    | _ => none
  | .ins d _ => some d
  | _ => none
theorem Rel.insV {K : PySem.W.Frag} {T : Tab} {φ : Ix} {H : L2.Hp} {h : Mem} (R : Rel K T φ H h) {v : Val} {d : Nat} {x : V} (r : RV K T φ H v x) (e : insV h v = some d) : ∃ a dx ks, x = .ref a ∧ H a = some (.ins (T.cls d) dx ks) := by
  cases v <;> simp only [PyI.insV, reduceCtorEq] at e
  · split at e <;> cases e
    rename_i he
    obtain ⟨a, dx, ks, rfl, _, p1, _⟩ := R.ins r he
    exact ⟨a, dx, ks, rfl, p1⟩
  · cases e
    obtain ⟨a, dx, ks, rfl, p1, _⟩ := r
    exact ⟨a, dx, ks, rfl, p1.2⟩
theorem fields_of {P : Pg} {d f : Nat} (h : fldF P d f = true) : ∃ C, P.cl d = some C ∧ f ∈ C.fs := by
  unfold fldF at h
  split at h
  · rename_i C e
    exact ⟨C, e, by simpa using h⟩
  · cases h
theorem s_att (C : Ctx P G T c X call callI W k) {a : Ex} {f : Nat} {l : Expr} {n : Str} {pos : Pos} (hn : G.nms.lookup f = some n) (hb : plainBase l = true) (ha : SE P T X call callI W a l) : SE P T X call callI W (.att a f) (.Attribute l n pos) := by
  have en := C.wd.nms f n hn
  subst en
  refine ⟨fun pins s σ H Q I ⟨φ, h, fr, R, F, o⟩ => ?_⟩
  have fld : (∀ v h1 d, ev P call callI a fr h = .ok v h1 → PyI.insV h1 v = some d → prpF P d f = none) → wpAny (model X.prog X.w) X.A (eval (.Attribute l (T.nm f) pos) X.env) (EP X pins σ Q) X.xe s := fun np => by
    refine (pe_fld ha (base_of hb _ _)).run pins s σ H Q I ⟨φ, h, fr, R, F, o.bindE.mono fun x H1 ⟨v, ψ, h1, e1, x1, R1, q1, o1⟩ => ?_⟩
    cases v <;> simp only [attV] at o1 <;> try exact False.elim o1
    · split at o1 <;> try exact False.elim o1
      rename_i m d fs hm
      rw [np _ _ d e1 (by simp [PyI.insV, hm])] at o1
      simp only [] at o1
      split at o1
      · rename_i hf
        obtain ⟨z, e2, o1⟩ := o1.pure
        obtain ⟨sl, e2, e3⟩ := Option.bind_eq_some_iff.mp e2
        obtain ⟨Cd, hc, hf⟩ := fields_of hf
        obtain ⟨b, dx, ks, rfl, _, p1, p2⟩ := R1.ins q1 hm
        obtain ⟨y, e4, r3⟩ := (RSs.look T.inj p2).1 sl e2
        cases sl <;> simp only [slV?, reduceCtorEq, Option.some.injEq] at e3
        subst e3
        obtain ⟨c1, c2, _⟩ := C.wd.cls d Cd hc
        exact ⟨b, _, dx, ks, y, rfl, p1, c1, c2 f hf, e4, o1.ok R1 r3⟩
      · exact False.elim o1
    · rename_i d fs
      rw [np _ _ d e1 rfl] at o1
      simp only [] at o1
      split at o1
      · rename_i hf
        obtain ⟨z, e2, o1⟩ := o1.pure
        obtain ⟨Cd, hc, hf⟩ := fields_of hf
        obtain ⟨b, dx, ks, rfl, p1, p2⟩ := q1
        obtain ⟨y, e4, r3⟩ := (RKs.look T.inj (RFl_iff.mp p2)).1 z e2
        obtain ⟨c1, c2, _⟩ := C.wd.cls d Cd hc
        exact ⟨b, _, dx, ks, y, rfl, p1.2, c1, c2 f hf, e4, o1.ok R1 r3⟩
      · exact False.elim o1
  cases hv : ev P call callI a fr h with
  | bad => exact fld fun v h1 d e => by rw [hv] at e; cases e
  | exc cc hc => exact fld fun v h1 d e => by rw [hv] at e; cases e
  | ok v h1 =>
    by_cases hp : ∃ d g, PyI.insV h1 v = some d ∧ prpF P d f = some g
    · obtain ⟨d, g, hm, hp⟩ := hp
      obtain ⟨j, hj, FI⟩ := C.callI
      have hp' := hp
      unfold prpF at hp
      obtain ⟨Cd, hc, hp⟩ := Option.bind_eq_some_iff.mp hp
      obtain ⟨c1, c2, c3, c4, c5⟩ := C.wd.cls d Cd hc
      obtain ⟨⟨Fg, hFg, hdf⟩, p, hpr⟩ := c4 f g hp
      refine (pe_prop (E := fun _ _ _ => False) ha c1 hpr (FI g Fg hFg) (C.room.mono (by omega)) (C.wd.bnd g Fg hFg hdf) .nil passL (base_of hb _ _)).run pins s σ H Q I ⟨φ, h, fr, R, F, o.bindE.mono fun x H1 ⟨v', ψ, h2, e1, x1, R1, q1, o1⟩ => ?_⟩
      rw [hv] at e1; cases e1
      obtain ⟨b, dx, ks, rfl, p1⟩ := R1.insV q1 hm
      refine ⟨b, dx, ks, rfl, p1, ψ.call, h1, [v], R1.call, ⟨_, _, rfl, q1.monoV call_ve _ _, rfl⟩, ?_⟩
      have o2 : okR X.K T.toTab (RV X.K T.toTab) ψ H1 Q (fun c G => W (T.exn c) none σ G) (match callI g [v] h1 with | .ok x h1 => .ok x.val h1 | _ => .bad) := by
        cases v <;> simp only [PyI.insV, reduceCtorEq] at hm
        · split at hm <;> cases hm
          rename_i he
          simp only [attV, he, hp'] at o1
          exact o1
        · cases hm
          simp only [attV, hp'] at o1
          exact o1
      cases hr : callI g [v] h1 with
      | bad => rw [hr] at o2; exact False.elim o2
      | exc cc hc => rw [hr] at o2; exact False.elim o2
      | ok z hz =>
        rw [hr] at o2
        have o3 : okR X.K T.toTab (RV X.K T.toTab) ψ H1 Q (fun c G => False) ((Res.ok z hz : Res Ret).bind fun x h => .ok x.val h) := o2
        exact o3.val.call R1
    · refine fld fun v' h1' d e hm => ?_
      rw [hv] at e; cases e
      cases hpr : prpF P d f with
      | none => rfl
      | some g => exact absurd ⟨d, g, hm, hpr⟩ hp
/-! ### calls -/
def WE' (W : WX) : L2.St → XK := fun σ cls d H => W cls d σ H
theorem passW (C : Ctx P G T c X call callI W k) (σ : L2.St) : PassesAt (CX X.prog X.w) X σ (WE' W σ) := passAt C.tk σ
theorem call_gen (C : Ctx P G T c X call callI W k) {f : Nat} {es : Exs} {n : Str} {xs : List Expr} {p pos : Pos} {t : TE} (hf : G.fnm.lookup f = some n) (hd : ∀ F, P.fn f = some F → F.df = []) (hg : c.gl n = true) (st : xs.all notStar = true) (hz : xs = [] → es = .nil) (ha : SEs P T X call callI W es xs)
    (ht : ∀ σ H Q, t σ H Q → ∃ φ h fr, Rel X.K T.toTab φ H h ∧ RFr X.K T.toTab φ H fr σ ∧ okR X.K T.toTab (RR X.K T.toTab) φ H Q (fun c G => W (T.exn c) none σ G) ((evs P call callI es fr h).bind fun vs h1 => call f vs h1)) :
    PE X (.Call (.Name n p) xs [] pos) t := by
  obtain ⟨fl, fm, fk⟩ := C.wd.fns f n hf
  obtain ⟨F, hF⟩ := Option.isSome_iff_exists.mp fl
  obtain ⟨g1, g2, g3⟩ := C.gl hg
  have rd : ∀ σ H Q, t σ H Q → tCallS (spR X.K T.toTab (call f)) (WE' W) (tVs X.K T.toTab W (evs P call callI es)) σ H Q := fun σ H Q h => by
    obtain ⟨φ, h, fr, R, F, o⟩ := ht σ H Q h
    exact ⟨φ, h, fr, R, F, (okR.bind (RR' := RVs X.K T.toTab) o).mono fun x G ⟨v, ψ, h1, e, R1, q, o1⟩ => ⟨ψ.call, h1, v, R1.call, q.monoV call_ve _ _, o1.call R1⟩⟩
  cases xs with
  | nil =>
    refine peI (pe_callS0 (C.call f F hF) C.room g1 fm fk (C.wd.bnd f F hF (hd F hF)) (passW C) g2) fun σ H Q h => ?_
    obtain ⟨φ, h, fr, R, F, o⟩ := ht σ H Q h
    rw [hz rfl] at o
    exact ⟨φ.call, h, [], R.call, rfl, okR.call o R⟩
  | cons x xs =>
    simp only [List.all_cons, Bool.and_eq_true] at st
    exact peI (pe_callS (C.call f F hF) C.room g1 fm fk (C.wd.bnd f F hF (hd F hF)) (passW C) ha g2 (star_of st.1 _ _) (noneStar _ _ st.2)) rd
theorem res_assoc {α β γ : Type} (r : Res α) (f : α → Mem → Res β) (g : β → Mem → Res γ) : (r.bind f).bind g = r.bind fun a h => (f a h).bind g := by cases r <;> rfl
theorem s_cal (C : Ctx P G T c X call callI W k) {q : Ck} {f : Nat} {es : Exs} {n : Str} {xs : List Expr} {p pos : Pos} (hf : G.fnm.lookup f = some n) (hd : ∀ F, P.fn f = some F → F.df = []) (hg : c.gl n = true) (st : xs.all notStar = true) (hz : xs = [] → es = .nil) (ha : SEs P T X call callI W es xs) :
    SE P T X call callI W (.cal q f es) (.Call (.Name n p) xs [] pos) := by
  refine call_gen C hf hd hg st hz ha fun σ H Q ⟨φ, h, fr, R, F, o⟩ => ⟨φ, h, fr, R, F, okR.val ?_⟩
  rw [res_assoc]
  exact o
theorem a_cal (C : Ctx P G T c X call callI W k) {q : Ck} {f : Nat} {es : Exs} {n : Str} {xs : List Expr} {p pos : Pos} (hf : G.fnm.lookup f = some n) (hd : ∀ F, P.fn f = some F → F.df = []) (hg : c.gl n = true) (st : xs.all notStar = true) (hz : xs = [] → es = .nil) (ha : SEs P T X call callI W es xs) :
    SA P T X call callI W (.cal q f es) (.Call (.Name n p) xs [] pos) := by
  refine call_gen C hf hd hg st hz ha fun σ H Q ⟨φ, h, fr, R, F, o⟩ => ⟨φ, h, fr, R, F, okR.valA ?_⟩
  rw [res_assoc]
  exact o
/-- a new instance: its dict is not ours to see -/
theorem Rel.made {K : PySem.W.Frag} {T : Tab} {φ : Ix} {H : L2.Hp} {h : Mem} (R : Rel K T φ H h) {d : Nat} {x dx : Addr} (hx : H x = none) (hd : H dx = none) (ne : dx ≠ x) :
    Ext φ H (φ.push x) (upd (upd H dx (.own x)) x (.ins (T.cls d) dx [])) ∧ Rel K T (φ.push x) (upd (upd H dx (.own x)) x (.ins (T.cls d) dx [])) (h ++ [.ins d []]) := by
  have R1 : Rel K T φ (upd H dx (.own x)) h := R.tup hd
  have hx1 : upd H dx (.own x) x = none := by rw [upd_ne (Ne.symm ne)]; exact hx
  exact ⟨(ext_tup R hd).trans (ext_new R1 hx1), R1.new hx1 ⟨dx, [], rfl, rfl⟩⟩
theorem s_mk (C : Ctx P G T c X call callI W k) {d q : Nat} {es : Exs} {n : Str} {xs : List Expr} {p pos : Pos} (hf : G.cnm.lookup d = some n) (hg : c.gl n = true) (st : xs.all notStar = true) (hz : xs = [] → es = .nil) (ha : SEs P T X call callI W es xs) :
    SE P T X call callI W (.mk d q es) (.Call (.Name n p) xs [] pos) := by
  obtain ⟨dl, dm⟩ := C.wd.cnm d n hf
  obtain ⟨Cd, hC⟩ := Option.isSome_iff_exists.mp dl
  obtain ⟨g1, g2, g3⟩ := C.gl hg
  obtain ⟨c1, c2, c3, c4, ⟨F, hF, hdf⟩, c6⟩ := C.wd.cls d Cd hC
  have main : ∀ {φ : Ix} {H : L2.Hp} {h1 : Mem} {vs : List Val} {xs : List V} {σ : L2.St} {Q : VK}, Rel X.K T.toTab φ H h1 → RVs X.K T.toTab φ H vs xs →
      okR X.K T.toTab (RV X.K T.toTab) φ H Q (fun c G => W (T.exn c) none σ G) (match P.cl d with
        | some C => (callI C.ini (.ref h1.length :: vs) (h1 ++ [.ins d []])).bind fun x h2 => match x with
          | .v .non => .ok (.ref h1.length) h2
          | _ => .bad
        | none => .bad) → ∀ x dx, H x = none → H dx = none → dx ≠ x → spR X.K T.toTab (callI Cd.ini) (.ref x :: xs) (upd (upd H dx (.own x)) x (.ins (T.cls d) dx [])) (fun v H2 => v = .non ∧ Q (.ref x) H2) (WE' W σ) := fun {φ H h1 vs xs σ Q} R q o x dx hx hd ne => by
    obtain ⟨e1, R1⟩ := R.made (d := d) hx hd ne
    rw [hC] at o
    simp only [] at o
    refine ⟨(φ.push x).call, _, .ref h1.length :: vs, R1.call, ⟨_, _, rfl, R.new_ref.monoV call_ve _ _, (q.mono e1 _ _).monoV call_ve _ _⟩, ?_⟩
    have o1 := o.ext e1
    refine okR.call ?_ R1
    cases hr : callI Cd.ini (.ref h1.length :: vs) (h1 ++ [.ins d []]) with
    | bad => rw [hr] at o1; exact o1
    | exc cc hc => rw [hr] at o1; exact o1
    | ok z hh =>
      rw [hr] at o1
      simp only [Res.bind_ok] at o1
      split at o1 <;> first | exact False.elim o1 | skip
      exact fun χ L y e2 R2 q2 => ⟨q2, o1 χ L (.ref x) e2 R2 ⟨x, e2.get (by rw [← R.len]; simp [Ix.push]), rfl⟩⟩
  obtain ⟨j, hj, FI⟩ := C.callI
  cases xs with
  | nil =>
    refine peI (pe_makeS0 c6 (FI Cd.ini F hF) (C.room.mono hj) g1 dm (C.wd.bnd _ F hF hdf) (passW C) g2) fun σ H Q ⟨φ, h, fr, R, F, o⟩ => ?_
    rw [hz rfl] at o
    exact main R (show RVs X.K T.toTab φ H [] [] from rfl) o
  | cons x xs =>
    simp only [List.all_cons, Bool.and_eq_true] at st
    refine peI (pe_makeS c6 (FI Cd.ini F hF) (C.room.mono hj) g1 dm (C.wd.bnd _ F hF hdf) (passW C) ha g2 (star_of st.1 _ _) (noneStar _ _ st.2)) fun σ H Q h => ?_
    exact (tR.bind1 (R1 := RVs X.K T.toTab) h).mono fun x H1 ⟨v, φ, h1, fr, R, F, q, o⟩ => main R q o
end
end PyI
namespace PyI
open PySem PySem.Spec PyProof.Rows L2
theorem allStar : ∀ {es : List Expr} (pos : Pos) (env : Env), es.all notStar = true → (backTo pos (starEach es env)).all (fun x => !x.1) = true
  | [], _, _, _ => rfl
  | e :: es, pos, env, h => by
    simp only [List.all_cons, Bool.and_eq_true] at h
    have ih := allStar pos env h.2
    rw [star_of h.1]
    cases es with
    | nil => rfl
    | cons e2 es2 =>
      simp only [List.all_cons, Bool.and_eq_true] at h
      rw [star_of h.2.1] at ih ⊢
      exact ih
theorem few_of {es : List Expr} (pos : Pos) (env : Env) (h : es.all notStar = true) (hl : es.length < 20) :
    ((backTo pos (starEach es env)).all (fun x => !x.1) && (backToKw pos (keywordEach [] env)).all (fun x => x.1.isSome) && decide (es.length + ([] : List Keyword).length + (if ([] : List Keyword).isEmpty then 0 else 1) < 30)) = true := by
  rw [allStar pos env h, Bool.true_and]
  show (true && decide (es.length + 0 + 0 < 30)) = true
  rw [decide_eq_true (by omega)]; rfl
theorem eval_method {o : Expr} {args : List Expr} {name : Str} {apos pos : Pos} {env : Env} (st : args.all notStar = true) (hl : args.length < 20) (hbase : plainBase o = true) (hline : (apos.endLine == pos.line) = true) :
    eval (.Call (.Attribute o name apos) args [] pos) env = (do
      let ov ← eval o env
      standAt apos.atName
      let (f, first) ← holding [ov] (getMethod ov name (do return (← importBound o env).getD true))
      callWith pos f first (backTo pos (starEach args env)) (backToKw pos (keywordEach [] env))) := by
  have e1 : methodCallForm (args.length + ([] : List Keyword).length) (backTo pos (starEach args env)) (backToKw pos (keywordEach [] env)) = true := few_of pos env st hl
  show (do
    let ov ← attributeBase o name env (eval o env)
    standAt apos.atName
    methodCall o name apos pos env ov (args.length + ([] : List Keyword).length) (backTo pos (starEach args env)) (backToKw pos (keywordEach [] env))) = _
  rw [base_of hbase]
  unfold methodCall
  rw [e1]
  have e2 : methodCallPos true o env apos pos = Pure.pure pos := by
    unfold methodCallPos
    rw [hline]; rfl
  rw [e2]
  rfl
theorem eval_methodK {o x1 x2 : Expr} {name kw : Str} {apos pos kp : Pos} {env : Env} (st : notStar x1 = true) (hbase : plainBase o = true) (hline : (apos.endLine == pos.line) = true) :
    eval (.Call (.Attribute o name apos) [x1] [⟨some kw, x2, kp⟩] pos) env = (do
      let ov ← eval o env
      standAt apos.atName
      let (f, first) ← holding [ov] (getMethod ov name (do return (← importBound o env).getD true))
      callWith pos f first (backTo pos (starEach [x1] env)) (backToKw pos (keywordEach [⟨some kw, x2, kp⟩] env))) := by
  have e1 : methodCallForm (([x1] : List Expr).length + ([⟨some kw, x2, kp⟩] : List Keyword).length) (backTo pos (starEach [x1] env)) (backToKw pos (keywordEach [⟨some kw, x2, kp⟩] env)) = true := by
    have h := allStar (es := [x1]) pos env (by simp [st])
    show ((backTo pos (starEach [x1] env)).all (fun x => !x.1) && true && _) = true
    rw [h]; rfl
  show (do
    let ov ← attributeBase o name env (eval o env)
    standAt apos.atName
    methodCall o name apos pos env ov (([x1] : List Expr).length + ([⟨some kw, x2, kp⟩] : List Keyword).length) (backTo pos (starEach [x1] env)) (backToKw pos (keywordEach [⟨some kw, x2, kp⟩] env))) = _
  rw [base_of hbase]
  unfold methodCall
  rw [e1]
  have e2 : methodCallPos true o env apos pos = Pure.pure pos := by
    unfold methodCallPos
    rw [hline]; rfl
  rw [e2]
  rfl
section
variable {X : Cx} {o e : Expr} {es : List Expr} {to : TE} {name : Str} {apos cpos : Pos}
/-- the receiver never comes -/
theorem pe_noRecv (ho : PE X o to) (st : es.all notStar = true) (hl : es.length < 20) (hbase : plainBase o = true) (hline : (apos.endLine == cpos.line) = true) :
    PE X (.Call (.Attribute o name apos) es [] cpos) (fun σ H Q => to σ H fun _ _ => False) := by
  refine ⟨fun pins s σ H Q I h => ?_⟩
  cases es with
  | nil => exact wpAny_Call_method0_late (base_of hbase _ _) hline (thn (ho.run pins s σ H _ I h) fun v s1 ⟨x, H1, I1, r1, q⟩ => q.elim)
  | cons e es => exact wpAny_Call_method_late (base_of hbase _ _) (few_of _ _ st hl) hline rfl (thn (ho.run pins s σ H _ I h) fun v s1 ⟨x, H1, I1, r1, q⟩ => q.elim)
end
section
variable {P : Pg} {G : Gam} {T : Tab2} {c : SC} {X : Cx} {call callI : Nat → List Val → Mem → Res Ret} {W : WX} {k : Nat}
/-- what the receiver and the arguments lead to -/
noncomputable def mrest (P : Pg) (call callI : Nat → List Val → Mem → Res Ret) (m : Nat) (b : Bm) (es : Exs) (fr : PyI.Fr) (v : Val) (h1 : Mem) : Res Ret :=
  if noFld h1 m v && hasM P h1 m b v then (evs P call callI es fr h1).bind fun vs h2 => if kindV h1 v = kindV h2 v then metV P call m b v vs h2 else .bad else .bad
/-- a built-in's method -/
theorem bm_run (C : Ctx P G T c X call callI W k) {a : Ex} {m : Nat} {b : Bm} {es : Exs} {l : Expr} {n : Str} {xs : List Expr} {ap pos : Pos} {T0 id : String} {r : V → List V → L2.Hp → VK → Prop}
    (pa : PlainAttrs T0) (slot : Slot T0 n id) (hty : typeOf (.builtin id) = Pure.pure (.type "method_descriptor")) (hm : MtR X id r)
    (hl : (ap.endLine == pos.line) = true) (hn : xs.length < 20) (hb : plainBase l = true) (st : xs.all notStar = true) (hz : xs = [] → es = .nil) (ha : SE P T X call callI W a l) (hs : SEs P T X call callI W es xs)
    {pins : List (Addr × Obj)} {s : Shared} {σ : L2.St} {H : L2.Hp} {Q : VK} (I : Inv X pins σ H s) {φ : Ix} {h : Mem} {fr : PyI.Fr} (R : Rel X.K T.toTab φ H h) (F : RFr X.K T.toTab φ H fr σ)
    (o : okR X.K T.toTab (RR X.K T.toTab) φ H Q (fun c G => W (T.exn c) none σ G) ((ev P call callI a fr h).bind (mrest P call callI m b es fr)))
    {v : Val} {h1 : Mem} (hv : ev P call callI a fr h = .ok v h1) (ty : ∀ ψ G x, Rel X.K T.toTab ψ G h1 → RV X.K T.toTab ψ G v x → tyV X.K T0 x G)
    (rr : ∀ ψ G h2 vs x ys E, Rel X.K T.toTab ψ G h2 → RV X.K T.toTab ψ G v x → RVs X.K T.toTab ψ G vs ys → kindV h1 v = kindV h2 v → okR X.K T.toTab (RR X.K T.toTab) ψ G Q E (metV P call m b v vs h2) → r x ys G Q) :
    wpAny (model X.prog X.w) X.A (eval (.Call (.Attribute l n ap) xs [] pos) X.env) (EP X pins σ Q) X.xe s := by
  have step : ∀ {x : V} {H1 : L2.Hp} {v' : Val} {ψ : Ix} {h1' : Mem}, ev P call callI a fr h = .ok v' h1' → Ext φ H ψ H1 → Rel X.K T.toTab ψ H1 h1' → RV X.K T.toTab ψ H1 v' x →
      okR X.K T.toTab (RR X.K T.toTab) ψ H1 Q (fun c G => W (T.exn c) none σ G) (mrest P call callI m b es fr v' h1') → tyV X.K T0 x H1 ∧
        tVs X.K T.toTab W (evs P call callI es) σ H1 fun ys H2 => r x ys H2 Q := fun {x H1 v' ψ h1'} e1 x1 R1 q1 o1 => by
    rw [hv] at e1; cases e1
    refine ⟨ty _ _ _ R1 q1, ?_⟩
    unfold mrest at o1
    split at o1
    · refine ⟨ψ, h1, fr, R1, F.mono x1, o1.bind.mono fun ys H2 ⟨vs, χ, h2, x2, R2, q2, o2⟩ => ?_⟩
      split at o2
      · rename_i hk
        exact rr χ H2 h2 vs x ys _ R2 (q1.mono x2 _ _) q2 hk o2
      · exact False.elim o2
    · exact False.elim o1
  cases xs with
  | nil =>
    refine (pe_bm0 pa slot hty hm ha (base_of hb _ _) hl).run pins s σ H Q I ⟨φ, h, fr, R, F, o.bindE.mono fun x H1 ⟨v', ψ, h1', e1, x1, R1, q1, o1⟩ => ?_⟩
    obtain ⟨t1, ψ2, h2, fr2, R2, F2, o2⟩ := step e1 x1 R1 q1 o1
    rw [hz rfl] at o2
    exact ⟨t1, okR.ok (v := ([] : List Val)) o2 R2 (show RVs X.K T.toTab _ _ [] [] from rfl)⟩
  | cons x xs =>
    have st' := st
    simp only [List.all_cons, Bool.and_eq_true] at st
    exact (pe_bm pa slot hty hm ha hs (base_of hb _ _) (few_of _ _ st' hn) hl (star_of st.1 _ _) (noneStar _ _ st.2)).run pins s σ H Q I ⟨φ, h, fr, R, F, o.bindE.mono fun x H1 ⟨v', ψ, h1', e1, x1, R1, q1, o1⟩ => step e1 x1 R1 q1 o1⟩
/-! ### methods of lists and dicts -/
theorem mt_dget (hu : X.A.units + 1 < cLine) : MtR X "dict.get" (fun x ys H Q => ∃ a y o, x = .ref a ∧ DGet H a y o ∧ ((ys = [y] ∧ Q (o.getD .non) H) ∨ ∃ d, ys = [y, d] ∧ Q (o.getD d) H)) := by
  intro pins s σ H x ys v us Q I rx rys h
  obtain ⟨a, y, o, rfl, g, ⟨rfl, q⟩ | ⟨d, rfl, q⟩⟩ := h
  · obtain ⟨u, rfl, ru⟩ := vals1 rys
    obtain rfl : v = Value.ref a := rx
    exact d_get1 hu I g ru fun w' s' I' rw' => ⟨_, H, I', rw', q⟩
  · obtain ⟨u, u', rfl, ru, ru'⟩ := vals2 rys
    obtain rfl : v = Value.ref a := rx
    exact d_get2 hu I g ru ru' fun w' s' I' rw' => ⟨_, H, I', rw', q⟩
theorem mt_dpop : MtR X "dict.pop" (fun x ys H Q => ∃ a kvs k v, x = .ref a ∧ ys = [kV k] ∧ H a = some (.dK kvs) ∧ valV kvs k = some v ∧ Q v (upd H a (.dK (L2.dropK kvs k)))) := by
  intro pins s σ H x ys v us Q I rx rys h
  obtain ⟨a, kvs, k, z, rfl, rfl, e, l, q⟩ := h
  obtain ⟨u, rfl, ru⟩ := vals1 rys
  obtain rfl : v = Value.ref a := rx
  exact d_pop I e ru l (.inl rfl) fun w' s' I' rw' => ⟨z, _, I', rw', q⟩
theorem mt_extendR : MtM X "list.extend" (fun x vs H Q => ∃ a b xs ys, x = .ref a ∧ vs = [.ref b] ∧ H a = some (.lst xs) ∧ Rd H b (.lst ys) ∧ xs.length + ys.length ≤ szl ∧ Q .non (upd H a (.lst (xs ++ ys)))) := by
  intro pins s σ H x vs v us Q I rx rv ⟨a, b, xs, ys, ex, ev, ha, rb, hz, q⟩
  subst ex ev
  cases rx
  obtain ⟨u, rfl, ru⟩ := rv.one
  cases ru
  obtain ⟨z1, i1, n1, r1, hl1, e1⟩ := I.lstM ha
  obtain ⟨z2, i2, n2, r2, e2⟩ := rb.ok I.hok
  have hl2 := r2.length
  have sz : i1.toArray.size + i2.toArray.size ≤ sizeLine := by rw [List.size_toArray, List.size_toArray, ← hl1, ← hl2]; exact hz
  have lng : ¬ (!i1.toArray.isEmpty && Builtin.List.listTooLong (i1.toArray.size + i2.toArray.size)) = true := by rw [notLongL sz, Bool.and_false]; simp
  have mm := AutoSeq1.list_extend_list_list_0 a i1.toArray n1 b i2.toArray n2 lng (by simp only [List.size_toArray] at *; omega) (by simp only [List.size_toArray] at *; omega)
  refine call_meets F.slot_list_extend ⟨_, e1, rfl⟩ F.entry_list_extend (F.args_list_extend_2 _ _) mm ⟨e1, e2, ?_⟩
  refine ⟨.non, _, I.lset (its' := i1 ++ i2) ha e1 (by simp) (r1.append r2) ?_, rfl, q⟩
  rw [List.length_append]
  exact hz
theorem lext_tup (l : Addr) (items : Array Value) (n : Nat) (b : Addr) (od : Option Addr) (sl : Array (Option Value)) (items2 : Array Value) (n2 : Nat) (hs0 : ¬(!items.isEmpty && Builtin.List.listTooLong (items.size + items2.size)) = true) (hs1 : items.size ≤ sizeLine) (hs2 : items.size + items2.size ≤ sizeLine + 1) :
    Meets (Builtin.«list.extend» ⟨[.ref l, .ref b], []⟩) (fun _ R s => s.heap.get? l = some { cls := .type "list", dict := none, data := .seq items n, slots := #[] } ∧ s.heap.get? b = some { cls := .type "tuple", dict := od, data := .seq items2 n2, slots := sl } ∧ R (.ok (.ret Value.none)) { s with heap := s.heap.update l (Obj.mapSeq fun x => x ++ items2), toks := s.toks }) :=
  .of_wp fun prog w A R s h => by
    obtain ⟨hp, g, d, tk, os⟩ := s; obtain ⟨hl, hb, h⟩ := h; have f1 := AutoSeq1.idx_int; have f2 := AutoSeq1.sub_tuple_tuple; have f3 := AutoSeq1.sub_list_list; have f4 := AutoSeq1.sub_tuple_list; have f5 := AutoSeq1.sub_list_tuple;
    have hz' : (items ++ items2).size ≤ sizeLine + 1 := by rw [Array.size_append]; exact hs2
    wp_walk using (wpAny_updateSeq hl rfl (hz := hs1) (_hz' := hz')), AutoSeq1.wpAny_loadPart' hl, AutoSeq1.wpAny_loadPart' hb; exact ⟨_, rfl, h⟩
theorem mt_extendT : MtM X "list.extend" (fun x vs H Q => ∃ a b xs ys, x = .ref a ∧ vs = [.ref b] ∧ H a = some (.lst xs) ∧ (Rd H b (.lst ys) ∨ H b = some (.tup ys)) ∧ xs.length + ys.length ≤ szl ∧ Q .non (upd H a (.lst (xs ++ ys)))) := by
  intro pins s σ H x vs v us Q I rx rv ⟨a, b, xs, ys, ex, ev, ha, rb, hz, q⟩
  rcases rb with rb | hb
  · exact mt_extendR pins s σ H x vs v us Q I rx rv ⟨a, b, xs, ys, ex, ev, ha, rb, hz, q⟩
  subst ex ev
  cases rx
  obtain ⟨u, rfl, ru⟩ := rv.one
  cases ru
  obtain ⟨z1, i1, n1, r1, hl1, e1⟩ := I.lstM ha
  obtain ⟨_, i2, r2, ob, h1, h2, n2, h3⟩ := (show ObjOk X.prog X.w H s.heap b (.tup ys) from I.hok b _ hb)
  obtain ⟨oc, od, dt, sl⟩ := ob
  simp only at h2 h3
  subst h2 h3
  have hl2 := r2.length
  have sz : i1.toArray.size + i2.toArray.size ≤ sizeLine := by rw [List.size_toArray, List.size_toArray, ← hl1, ← hl2]; exact hz
  have lng : ¬ (!i1.toArray.isEmpty && Builtin.List.listTooLong (i1.toArray.size + i2.toArray.size)) = true := by rw [notLongL sz, Bool.and_false]; simp
  have mm := lext_tup a i1.toArray n1 b od sl i2.toArray n2 lng (by simp only [List.size_toArray] at *; omega) (by simp only [List.size_toArray] at *; omega)
  refine call_meets F.slot_list_extend ⟨_, e1, rfl⟩ F.entry_list_extend (F.args_list_extend_2 _ _) mm ⟨e1, h1, ?_⟩
  refine ⟨.non, _, I.lset (its' := i1 ++ i2) ha e1 (by simp) (r1.append r2) ?_, rfl, q⟩
  rw [List.length_append]
  exact hz
theorem okR.set {φ : Ix} {H : L2.Hp} {h : Mem} {n : Nat} {a : Addr} {u : HO} {v : Val} {x : V} {ob : Ob} {o : HO} {Q : VK} {E : Nat → L2.Hp → Prop} {K : PySem.W.Frag} {T : Tab} (q : okR K T (RV K T) φ H Q E (.ok v (h.set n ob))) (R : Rel K T φ H h) (e : φ.c[n]? = some a) (hu : H a = some u) (nt : notTup u)
    (ro : ROb K T φ (upd H a o) n a ob o) (rv : RV K T φ (upd H a o) v x) : Q x (upd H a o) := q φ (upd H a o) x (ext_set R (tr_of e) hu nt) (R.set e hu nt ro) rv
/-- a list's method does what it does -/
theorem bm_list {φ : Ix} {H : L2.Hp} {h : Mem} {n : Nat} {xs : List Val} {vs : List Val} {x : V} {ys : List V} {b : Bm} {Q : VK} {E : Nat → L2.Hp → Prop} {K : PySem.W.Frag} {T : Tab}
    (R : Rel K T φ H h) (q1 : RV K T φ H (.ref n) x) (q2 : RVs K T φ H vs ys) (e : h[n]? = some (.con (.lst xs))) (o : okR K T (RV K T) φ H Q E (bmV b n vs h)) :
    (b = .append ∧ rAppend x ys H Q) ∨ (b = .extend ∧ ∃ a b xs us, x = .ref a ∧ ys = [.ref b] ∧ H a = some (.lst xs) ∧ Rd H b (.lst us) ∧ xs.length + us.length ≤ szl ∧ Q .non (upd H a (.lst (xs ++ us)))) ∨ (b = .pop ∧ (rPop x ys H Q ∨ rPopAt x ys H Q)) ∨
    (b = .insert ∧ ∃ (l : Addr) (xs : List V) (i : Int) (y : V), x = .ref l ∧ ys = [.int i, y] ∧ H l = some (.lst xs) ∧ xs.length < sizeLine ∧ 0 ≤ i ∧ i < 2 ^ 63 ∧ Q .non (upd H l (.lst (xs.take i.toNat ++ [y] ++ xs.drop i.toNat)))) ∨ (b = .clear ∧ rClear x ys H Q) := by
  obtain ⟨a, ws, rfl, e0, p1, p2⟩ := R.lst q1 e
  have ex : ∀ o, Ext φ H φ (upd H a o) := fun o => ext_set R (tr_of e0) p1 trivial
  simp only [bmV, e] at o
  split at o
  · rename_i z
    obtain ⟨y, rfl, qy⟩ := rvs1 q2
    split at o
    · rename_i hl
      exact .inl ⟨rfl, a, ws, y, rfl, rfl, p1, by rw [p2.length]; exact hl, o.set R e0 p1 trivial ⟨_, rfl, (p2.append (.one qy)).mono (ex _) _ _⟩ rfl⟩
    · exact False.elim o
  · rename_i m
    obtain ⟨y, rfl, qy⟩ := rvs1 q2
    split at o
    · rename_i zs ez
      obtain ⟨b, us, rfl, r1, r2⟩ := R.lsR qy ez
      split at o
      · rename_i hl
        exact .inr (.inl ⟨rfl, a, b, ws, us, rfl, rfl, p1, r1, by rw [p2.length, r2.length]; exact hl, o.set R e0 p1 trivial ⟨_, rfl, (p2.append r2).mono (ex _) _ _⟩ rfl⟩)
      · exact False.elim o
    · exact False.elim o
  · rw [show ys = [] from q2]
    split at o
    · rename_i z ez
      obtain ⟨y, ey, ry⟩ := p2.get ez
      refine .inr (.inr (.inl ⟨rfl, .inl ⟨a, ws, y, rfl, rfl, p1, by rw [p2.length]; exact ey, o.set R e0 p1 trivial ⟨_, rfl, ?_⟩ (ry.mono (ex _) _ _)⟩⟩))
      rw [List.dropLast_eq_take, List.dropLast_eq_take, p2.length]
      exact (p2.take _).mono (ex _) _ _
    · exact False.elim o
  · rename_i i
    obtain ⟨y, rfl, qy⟩ := rvs1 q2
    rw [show y = _ from qy]
    split at o
    · rename_i kk ek
      split at o
      · rename_i z ez
        obtain ⟨y', ey, ry⟩ := p2.get ez
        have hbg : big i = true := by
          cases hb : big i with
          | true => rfl
          | false => rw [hb] at ek; cases ek
        rw [if_pos hbg] at ek
        rw [big_eq] at hbg
        simp only [Bool.and_eq_true, decide_eq_true_eq] at hbg
        have es := (ixN_seq (n := xs.length) (i := i) (j := kk) ek).1
        exact .inr (.inr (.inl ⟨rfl, .inr ⟨a, ws, i, kk, y', rfl, rfl, p1, by omega, by omega, by rw [p2.length]; exact es, ey, o.set R e0 p1 trivial ⟨_, rfl, (p2.eraseIdx _).mono (ex _) _ _⟩ (ry.mono (ex _) _ _)⟩⟩))
      · exact False.elim o
    · exact False.elim o
  · rename_i i z
    obtain ⟨y, y', rfl, qy, qz⟩ := rvs2 q2
    rw [show y = _ from qy]
    split at o
    · rename_i hl
      exact .inr (.inr (.inr (.inl ⟨rfl, a, ws, i, y', rfl, rfl, p1, by rw [p2.length]; exact hl.1, hl.2.1, by have := hl.2.2; omega, o.set R e0 p1 trivial ⟨_, rfl, (((p2.take _).append (.one qz)).append (p2.drop _)).mono (ex _) _ _⟩ rfl⟩)))
    · exact False.elim o
  · rw [show ys = [] from q2]
    exact .inr (.inr (.inr (.inr ⟨rfl, a, ws, rfl, rfl, p1, o.set R e0 p1 trivial ⟨_, rfl, rfl⟩ rfl⟩)))
  · exact False.elim o
end
end PyI
namespace PyI
open PySem PySem.Spec PyProof.Rows L2
section
variable {K : PySem.W.Frag} {T : Tab} {φ : Ix} {H : L2.Hp} {h : Mem} {Q : VK} {E : Nat → L2.Hp → Prop}
theorem okR.vv {r : Res Val} (o : okR K T (RR K T) φ H Q E (r.bind fun x h => .ok (.v x) h)) : okR K T (RV K T) φ H Q E r := by
  cases r with
  | ok v h1 => exact o
  | exc d h1 => exact o
  | bad => exact o
theorem getD_R {o : Option Val} {p : Option V} {d : Val} {y : V} (g1 : ∀ v, o = some v → ∃ z, p = some z ∧ RV K T φ H v z) (g2 : o = none → p = none) (rd : RV K T φ H d y) : RV K T φ H (o.getD d) (p.getD y) := by
  cases o with
  | none => rw [g2 rfl]; exact rd
  | some v => obtain ⟨z, e, r⟩ := g1 v rfl; rw [e]; exact r
def rGet : V → List V → L2.Hp → VK → Prop := fun x ys H Q => ∃ a y o, x = .ref a ∧ DGet H a y o ∧ ((ys = [y] ∧ Q (o.getD .non) H) ∨ ∃ d, ys = [y, d] ∧ Q (o.getD d) H)
/-- d.get of a container -/
theorem get_ok {c : Con} {a : Addr} {x : V} {ys : List V} {vs : List Val} (R : Rel K T φ H h) (ca : CAt K T φ H c a) (ex : x = .ref a) (q2 : RVs K T φ H vs ys)
    (o : (∃ k, vs = [k] ∧ okR K T (RV K T) φ H Q E (PyI.pure h ((cget c k).map fun g => g.getD .non))) ∨ ∃ k d, vs = [k, d] ∧ okR K T (RV K T) φ H Q E (PyI.pure h ((cget c k).map fun g => g.getD d))) : rGet x ys H Q := by
  subst ex
  rcases o with ⟨k, rfl, o⟩ | ⟨k, d, rfl, o⟩
  · obtain ⟨y, rfl, qy⟩ := rvs1 q2
    obtain ⟨v, e2, o⟩ := o.pure
    obtain ⟨g, e3, rfl⟩ := Option.map_eq_some_iff.mp e2
    obtain ⟨p, dg, g1, g2⟩ := ca.get qy e3
    exact ⟨a, y, p, rfl, dg, .inl ⟨rfl, o.ok R (getD_R g1 g2 rfl)⟩⟩
  · obtain ⟨y, y2, rfl, qy, qd⟩ := rvs2 q2
    obtain ⟨v, e2, o⟩ := o.pure
    obtain ⟨g, e3, rfl⟩ := Option.map_eq_some_iff.mp e2
    obtain ⟨p, dg, g1, g2⟩ := ca.get qy e3
    exact ⟨a, y, p, rfl, dg, .inr ⟨y2, rfl, o.ok R (getD_R g1 g2 qd)⟩⟩
/-- a dict's method -/
theorem bm_dict {n : Nat} {vs : List Val} {x : V} {ys : List V} {b : Bm}
    (R : Rel K T φ H h) (q1 : RV K T φ H (.ref n) x) (q2 : RVs K T φ H vs ys) (e : (∃ kvs, h[n]? = some (.con (.dik kvs))) ∨ ∃ kvs, h[n]? = some (.con (.dit kvs))) (o : okR K T (RV K T) φ H Q E (bmV b n vs h)) :
    (b = .get ∧ rGet x ys H Q) ∨
    (b = .pop ∧ ∃ a kvs k v, x = .ref a ∧ ys = [kV k] ∧ H a = some (.dK kvs) ∧ valV kvs k = some v ∧ Q v (upd H a (.dK (L2.dropK kvs k)))) := by
  rcases e with ⟨kvs, e⟩ | ⟨kvs, e⟩
  · obtain ⟨a, u, rfl, e0, p1, p2⟩ := R.con q1 e
    simp only [bmV, e] at o
    split at o
    · rename_i k
      exact .inl ⟨rfl, get_ok R (.of p1 p2) rfl q2 (.inl ⟨k, rfl, by rw [cget, Option.map_map]; exact o⟩)⟩
    · rename_i k d
      exact .inl ⟨rfl, get_ok R (.of p1 p2) rfl q2 (.inr ⟨k, d, rfl, by rw [cget, Option.map_map]; exact o⟩)⟩
    · rename_i k
      obtain ⟨y, rfl, qy⟩ := rvs1 q2
      split at o
      · rename_i k' ek
        split at o
        · rename_i v ev
          obtain ⟨ks, rfl, p2⟩ := p2
          obtain ⟨z, ez, rz⟩ := (RKs.val kTi p2).1 v ev
          have ex := ext_set (o := .dK (L2.dropK ks (kT k'))) R (tr_of e0) p1 trivial
          exact .inr ⟨rfl, a, ks, kT k', z, rfl, by rw [keyOf_V ek qy], p1, ez, o.set R e0 p1 trivial ⟨_, rfl, (RKs.dropK kTi p2).mono ex⟩ (rz.mono ex _ _)⟩
        · exact False.elim o
      · exact False.elim o
    · exact False.elim o
  · obtain ⟨a, u, rfl, e0, p1, p2⟩ := R.con q1 e
    simp only [bmV, e] at o
    split at o
    · rename_i k
      exact .inl ⟨rfl, get_ok R (.of p1 p2) rfl q2 (.inl ⟨k, rfl, by rw [cget, Option.map_map]; exact o⟩)⟩
    · rename_i k d
      exact .inl ⟨rfl, get_ok R (.of p1 p2) rfl q2 (.inr ⟨k, d, rfl, by rw [cget, Option.map_map]; exact o⟩)⟩
    · exact False.elim o
theorem join_toStr (s : Txt) : ∀ ys : List Txt, Txt.join (toStr s) (ys.map toStr) = toStr (joinT s ys) := by
  intro ys
  rw [TL.join_eq]
  induction ys with
  | nil => rfl
  | cons x r ih =>
    cases r with
    | nil => rfl
    | cons y r =>
      show toStr x ++ toStr s ++ Str.join (toStr s) ((y :: r).map toStr) = toStr (x ++ s ++ joinT s (y :: r))
      rw [ih, toStr_append, toStr_append]
end
section
variable {P : Pg} {G : Gam} {T : Tab2} {c : SC} {X : Cx} {call callI : Nat → List Val → Mem → Res Ret} {W : WX} {k : Nat}
theorem insV_kind {h1 h2 : Mem} {v : Val} {d : Nat} (e : insV h1 v = some d) (hk : kindV h1 v = kindV h2 v) : insV h2 v = some d := by
  cases v <;> simp only [insV, reduceCtorEq] at e
  · split at e <;> cases e
    rename_i he
    simp only [kindV, he] at hk
    split at hk
    · rename_i d' fs' e'
      simp only [insV, e']
      congr 1; omega
    all_goals omega
  · exact e
/-- a method call -/
theorem met_gen (C : Ctx P G T c X call callI W k) {a : Ex} {m : Nat} {b : Bm} {es : Exs} {l : Expr} {n : Str} {xs : List Expr} {ap pos : Pos} {t : TE} (hn : G.nms.lookup m = some n) (hbn : n = b.name ∨ b = .none)
    (hkm : m ∉ G.kwm.map (·.1)) (hl : (ap.endLine == pos.line) = true) (hlen : xs.length < 20) (hb : plainBase l = true) (st : xs.all notStar = true) (hz : xs = [] → es = .nil) (ha : SE P T X call callI W a l) (hs : SEs P T X call callI W es xs)
    (ht : ∀ σ H Q, t σ H Q → ∃ φ h fr, Rel X.K T.toTab φ H h ∧ RFr X.K T.toTab φ H fr σ ∧ okR X.K T.toTab (RR X.K T.toTab) φ H Q (fun c G => W (T.exn c) none σ G) ((ev P call callI a fr h).bind (mrest P call callI m b es fr))) :
    PE X (.Call (.Attribute l n ap) xs [] pos) t := by
  have en := C.wd.nms m n hn
  refine ⟨fun pins s σ H Q I ht' => ?_⟩
  obtain ⟨φ, h, fr, R, F, o'⟩ := ht σ H Q ht'
  -- where the receiver leads to nothing
  have off : (∀ v h1, ev P call callI a fr h = .ok v h1 → mrest P call callI m b es fr v h1 = .bad) → wpAny (model X.prog X.w) X.A (eval (.Call (.Attribute l n ap) xs [] pos) X.env) (EP X pins σ Q) X.xe s := fun hh => by
    refine (pe_noRecv ha st hlen hb hl).run pins s σ H Q I ⟨φ, h, fr, R, F, o'.bindE.mono fun x H1 ⟨v', ψ, h1', e1, x1, R1, q1, o1⟩ => ?_⟩
    rw [hh _ _ e1] at o1
    exact o1
  cases hv : ev P call callI a fr h with
  | bad => exact off fun v h1 e => by rw [hv] at e; cases e
  | exc cc hc => exact off fun v h1 e => by rw [hv] at e; cases e
  | ok v h1 =>
    by_cases hnf : (noFld h1 m v && hasM P h1 m b v) = true
    case neg => exact off fun v' h1' e => by rw [hv] at e; cases e; unfold mrest; rw [if_neg hnf]
    have hnf' := hnf
    simp only [Bool.and_eq_true] at hnf
    obtain ⟨hnf, hm⟩ := hnf
    cases hi : insV h1 v with
    | some d =>
      -- an instance
      have hg : ∃ g, metF P d m = some g := by
        cases v <;> simp only [insV, reduceCtorEq] at hi
        · split at hi <;> cases hi
          rename_i he
          simp only [hasM, he] at hm
          exact Option.isSome_iff_exists.mp hm
        · cases hi
          exact Option.isSome_iff_exists.mp hm
      obtain ⟨g, hg⟩ := hg
      have hg' := hg
      unfold metF at hg
      obtain ⟨Cd, hc, hg⟩ := Option.bind_eq_some_iff.mp hg
      obtain ⟨c1, c2, c3, c4, c5⟩ := C.wd.cls d Cd hc
      obtain ⟨⟨Fg, hFg, hdf', _⟩, hme⟩ := c3 m g hg
      have hdf := hdf' hkm
      rw [en] at hme
      have step : ∀ {x : V} {H1 : L2.Hp} {v' : Val} {ψ : Ix} {h1' : Mem}, ev P call callI a fr h = .ok v' h1' → Ext φ H ψ H1 → Rel X.K T.toTab ψ H1 h1' → RV X.K T.toTab ψ H1 v' x →
          okR X.K T.toTab (RR X.K T.toTab) ψ H1 Q (fun c G => W (T.exn c) none σ G) (mrest P call callI m b es fr v' h1') → ∃ a dx fs, x = .ref a ∧ H1 a = some (.ins (T.cls d) dx fs) ∧ fs.lookup n = none ∧
            tVs X.K T.toTab W (evs P call callI es) σ H1 fun ys H2 => spR X.K T.toTab (call g) (x :: ys) H2 Q (WE' W σ) := fun {x H1 v' ψ h1'} e1 x1 R1 q1 o1 => by
        rw [hv] at e1; cases e1
        have pl : ∃ a dx ks, x = .ref a ∧ H1 a = some (.ins (T.cls d) dx ks) ∧ ks.lookup n = none := by
          rw [← en]
          cases v <;> simp only [insV, reduceCtorEq] at hi
          · split at hi <;> cases hi
            rename_i he
            obtain ⟨a', dx, ks, rfl, _, p1, p2⟩ := R1.ins q1 he
            exact ⟨a', dx, ks, rfl, p1, (RSs.look T.inj p2).2 (by simpa [noFld, he] using hnf)⟩
          · cases hi
            obtain ⟨a', dx, ks, rfl, p1, p2⟩ := q1
            exact ⟨a', dx, ks, rfl, p1.2, (RKs.look T.inj (RFl_iff.mp p2)).2 (by simpa [noFld] using hnf)⟩
        obtain ⟨a', dx, ks, rfl, p1, p2⟩ := pl
        refine ⟨a', dx, ks, rfl, p1, p2, ?_⟩
        unfold mrest at o1
        rw [if_pos hnf'] at o1
        refine ⟨ψ, h1, fr, R1, F.mono x1, o1.bind.mono fun ys H2 ⟨vs, χ, h2, x2, R2, q2, o2⟩ => ?_⟩
        split at o2
        · rename_i hk
          have hi2 := insV_kind hi hk
          have o3 : okR X.K T.toTab (RR X.K T.toTab) χ H2 Q (fun c G => W (T.exn c) none σ G) (call g (v :: vs) h2) := by
            cases v <;> simp only [insV, reduceCtorEq] at hi2
            · split at hi2 <;> cases hi2
              rename_i he
              simp only [metV, he, hg'] at o2
              exact o2
            · cases hi2
              simp only [metV, hg'] at o2
              exact o2
          exact ⟨χ.call, h2, v :: vs, R2.call, ⟨_, _, rfl, (q1.mono x2 _ _).monoV call_ve _ _, q2.monoV call_ve _ _⟩, o3.call R2⟩
        · exact False.elim o2
      cases xs with
      | nil =>
        refine (pe_methS0 ha c1 hme (C.call g Fg hFg) C.room (C.wd.bnd g Fg hFg hdf) (passW C) (eval_method st hlen hb hl)).run pins s σ H Q I ⟨φ, h, fr, R, F, o'.bindE.mono fun x H1 ⟨v', ψ, h1', e1, x1, R1, q1, o1⟩ => ?_⟩
        obtain ⟨a', dx, ks, e2, e3, e4, ψ2, h2, fr2, R2, F2, o2⟩ := step e1 x1 R1 q1 o1
        rw [hz rfl] at o2
        exact ⟨a', dx, ks, e2, e3, e4, okR.ok (v := ([] : List Val)) o2 R2 (show RVs X.K T.toTab _ _ [] [] from rfl)⟩
      | cons x xs =>
        have st' := st
        simp only [List.all_cons, Bool.and_eq_true] at st
        exact (pe_methS' ha c1 hme (C.call g Fg hFg) C.room (C.wd.bnd g Fg hFg hdf) (passW C) hs (star_of st.1 _ _) (noneStar _ _ st.2) (eval_method st' hlen hb hl)).run pins s σ H Q I ⟨φ, h, fr, R, F, o'.bindE.mono fun x H1 ⟨v', ψ, h1', e1, x1, R1, q1, o1⟩ => step e1 x1 R1 q1 o1⟩
    | none =>
    cases v with
    | str z =>
      have nb : n = b.name := by
        rcases hbn with h | h
        · exact h
        · rw [h] at hm; simp [hasM] at hm
      have eb : b = .join := by simpa [hasM] using hm
      subst eb
      subst nb
      refine bm_run C (T0 := "str") PySem.F.plainAttrs_str PySem.F.slot_str_join PySem.F.type_str_join mt_join hl hlen hb st hz ha hs I R F o' hv (fun ψ G x R1 q1 => by rw [show x = _ from q1]; rfl) fun ψ G h2 vs x ys E R1 q1 q2 hk o => ?_
      rw [show x = _ from q1]
      simp only [metV] at o
      have o := o.vv
      unfold strM at o
      split at o
      · rename_i u _
        obtain ⟨y, rfl, qy⟩ := rvs1 q2
        split at o
        · rename_i ts et
          obtain ⟨us, eu, et⟩ := Option.bind_eq_some_iff.mp et
          obtain ⟨a, ws, rfl, p1, p2⟩ := R1.seqA qy eu
          rw [p2.strs et] at p1
          split at o
          · rename_i hz
            refine ⟨_, a, ts.map toStr, rfl, rfl, by simpa [List.map_map, Function.comp_def] using p1, ?_, ?_⟩
            · rw [List.map_map, List.length_map, toStr_length]
              simp only [Function.comp_def, toStr_length]
              exact hz
            · rw [join_toStr]; exact o.ok R1 rfl
          · exact False.elim o
        · exact False.elim o
      · exact False.elim o
    | ref nn =>
      simp only [hasM] at hm
      split at hm
      · rename_i he; simp [insV, he] at hi
      · -- a list
        rename_i ys0 he
        have tyl : ∀ ψ G x, Rel X.K T.toTab ψ G h1 → RV X.K T.toTab ψ G (.ref nn) x → tyV X.K "list" x G := fun ψ G x R1 q1 => by
          obtain ⟨a', ws, rfl, _, p1, _⟩ := R1.lst q1 he
          exact .inl ⟨rfl, ws, .of p1⟩
        have cls : ∀ {ψ : Ix} {G : L2.Hp} {h2 : Mem} {vs : List Val} {x : V} {ys : List V} {E : Nat → L2.Hp → Prop}, Rel X.K T.toTab ψ G h2 → RV X.K T.toTab ψ G (.ref nn) x → RVs X.K T.toTab ψ G vs ys → kindV h1 (.ref nn) = kindV h2 (.ref nn) →
            okR X.K T.toTab (RR X.K T.toTab) ψ G Q E (metV P call m b (.ref nn) vs h2) → (∃ xs, h2[nn]? = some (.con (.lst xs))) ∧ okR X.K T.toTab (RV X.K T.toTab) ψ G Q E (bmV b nn vs h2) := fun {ψ G h2 vs x ys E} R1 q1 q2 hk o => by
          simp only [kindV, he] at hk
          split at hk <;> first | omega | skip
          rename_i xs e'
          simp only [metV, e'] at o
          exact ⟨⟨xs, e'⟩, o.vv⟩
        simp only [decide_eq_true_eq] at hm
        have nb : n = b.name := by
          rcases hbn with h | h
          · exact h
          · rw [h] at hm; simp at hm
        rcases hm with rfl | rfl | rfl | rfl | rfl
        · cases nb
          refine bm_run C (T0 := "list") PySem.F.plainAttrs_list PySem.F.slot_list_append PySem.F.type_list_append mt_append hl hlen hb st hz ha hs I R F o' hv tyl fun ψ G h2 vs x ys E R1 q1 q2 hk o => ?_
          obtain ⟨⟨zs, e'⟩, o⟩ := cls R1 q1 q2 hk o
          rcases bm_list R1 q1 q2 e' o with ⟨_, h⟩ | ⟨h, _⟩ | ⟨h, _⟩ | ⟨h, _⟩ | ⟨h, _⟩ <;> first | exact h | cases h
        · cases nb
          refine bm_run C (T0 := "list") PySem.F.plainAttrs_list PySem.F.slot_list_extend PySem.F.type_list_extend mt_extendR hl hlen hb st hz ha hs I R F o' hv tyl fun ψ G h2 vs x ys E R1 q1 q2 hk o => ?_
          obtain ⟨⟨zs, e'⟩, o⟩ := cls R1 q1 q2 hk o
          rcases bm_list R1 q1 q2 e' o with ⟨h, _⟩ | ⟨_, h⟩ | ⟨h, _⟩ | ⟨h, _⟩ | ⟨h, _⟩ <;> first | exact h | cases h
        · cases nb
          refine bm_run C (T0 := "list") PySem.F.plainAttrs_list PySem.F.slot_list_pop PySem.F.type_list_pop (MtR.or mt_pop mt_popAt) hl hlen hb st hz ha hs I R F o' hv tyl fun ψ G h2 vs x ys E R1 q1 q2 hk o => ?_
          obtain ⟨⟨zs, e'⟩, o⟩ := cls R1 q1 q2 hk o
          rcases bm_list R1 q1 q2 e' o with ⟨h, _⟩ | ⟨h, _⟩ | ⟨_, h⟩ | ⟨h, _⟩ | ⟨h, _⟩ <;> first | exact h | cases h
        · cases nb
          refine bm_run C (T0 := "list") PySem.F.plainAttrs_list PySem.F.slot_list_insert PySem.F.type_list_insert mt_insert hl hlen hb st hz ha hs I R F o' hv tyl fun ψ G h2 vs x ys E R1 q1 q2 hk o => ?_
          obtain ⟨⟨zs, e'⟩, o⟩ := cls R1 q1 q2 hk o
          rcases bm_list R1 q1 q2 e' o with ⟨h, _⟩ | ⟨h, _⟩ | ⟨h, _⟩ | ⟨_, h⟩ | ⟨h, _⟩ <;> first | exact h | cases h
        · cases nb
          refine bm_run C (T0 := "list") PySem.F.plainAttrs_list PySem.F.slot_list_clear PySem.F.type_list_clear mt_clear hl hlen hb st hz ha hs I R F o' hv tyl fun ψ G h2 vs x ys E R1 q1 q2 hk o => ?_
          obtain ⟨⟨zs, e'⟩, o⟩ := cls R1 q1 q2 hk o
          rcases bm_list R1 q1 q2 e' o with ⟨h, _⟩ | ⟨h, _⟩ | ⟨h, _⟩ | ⟨h, _⟩ | ⟨_, h⟩ <;> first | exact h | cases h
      · -- a dict
        rename_i ks0 he
        have tyl : ∀ ψ G x, Rel X.K T.toTab ψ G h1 → RV X.K T.toTab ψ G (.ref nn) x → tyV X.K "dict" x G := fun ψ G x R1 q1 => by
          obtain ⟨a', ws, rfl, _, p1, _⟩ := R1.dik q1 he
          exact .inr (.inr (.inl ⟨rfl, .inl ⟨ws, p1⟩⟩))
        have cls : ∀ {ψ : Ix} {G : L2.Hp} {h2 : Mem} {vs : List Val} {E : Nat → L2.Hp → Prop}, kindV h1 (.ref nn) = kindV h2 (.ref nn) →
            okR X.K T.toTab (RR X.K T.toTab) ψ G Q E (metV P call m b (.ref nn) vs h2) → (∃ xs, h2[nn]? = some (.con (.dik xs))) ∧ okR X.K T.toTab (RV X.K T.toTab) ψ G Q E (bmV b nn vs h2) := fun {ψ G h2 vs E} hk o => by
          simp only [kindV, he] at hk
          split at hk <;> first | omega | skip
          rename_i xs e'
          simp only [metV, e'] at o
          exact ⟨⟨xs, e'⟩, o.vv⟩
        simp only [decide_eq_true_eq] at hm
        have nb : n = b.name := by
          rcases hbn with h | h
          · exact h
          · rw [h] at hm; simp at hm
        rcases hm with rfl | rfl
        · cases nb
          refine bm_run C (T0 := "dict") PySem.F.plainAttrs_dict PySem.F.slot_dict_get PySem.F.type_dict_get (mt_dget (by have := C.un; omega)) hl hlen hb st hz ha hs I R F o' hv tyl fun ψ G h2 vs x ys E R1 q1 q2 hk o => ?_
          obtain ⟨e', o⟩ := cls hk o
          rcases bm_dict R1 q1 q2 (.inl e') o with ⟨_, h⟩ | ⟨h, _⟩ <;> first | exact h | cases h
        · cases nb
          refine bm_run C (T0 := "dict") PySem.F.plainAttrs_dict PySem.F.slot_dict_pop PySem.F.type_dict_pop mt_dpop hl hlen hb st hz ha hs I R F o' hv tyl fun ψ G h2 vs x ys E R1 q1 q2 hk o => ?_
          obtain ⟨e', o⟩ := cls hk o
          rcases bm_dict R1 q1 q2 (.inl e') o with ⟨h, _⟩ | ⟨_, h⟩ <;> first | exact h | cases h
      · -- a dict of tuples
        rename_i ks0 he
        have tyl : ∀ ψ G x, Rel X.K T.toTab ψ G h1 → RV X.K T.toTab ψ G (.ref nn) x → tyV X.K "dict" x G := fun ψ G x R1 q1 => by
          obtain ⟨a', ws, rfl, _, p1, _⟩ := R1.dit q1 he
          exact .inr (.inr (.inl ⟨rfl, .inr ⟨ws, p1⟩⟩))
        have cls : ∀ {ψ : Ix} {G : L2.Hp} {h2 : Mem} {vs : List Val} {E : Nat → L2.Hp → Prop}, kindV h1 (.ref nn) = kindV h2 (.ref nn) →
            okR X.K T.toTab (RR X.K T.toTab) ψ G Q E (metV P call m b (.ref nn) vs h2) → (∃ xs, h2[nn]? = some (.con (.dit xs))) ∧ okR X.K T.toTab (RV X.K T.toTab) ψ G Q E (bmV b nn vs h2) := fun {ψ G h2 vs E} hk o => by
          simp only [kindV, he] at hk
          split at hk <;> first | omega | skip
          rename_i xs e'
          simp only [metV, e'] at o
          exact ⟨⟨xs, e'⟩, o.vv⟩
        have eb : b = .get := by simpa using hm
        subst eb
        have nb : n = Bm.get.name := by rcases hbn with h | h; exact h; cases h
        cases nb
        refine bm_run C (T0 := "dict") PySem.F.plainAttrs_dict PySem.F.slot_dict_get PySem.F.type_dict_get (mt_dget (by have := C.un; omega)) hl hlen hb st hz ha hs I R F o' hv tyl fun ψ G h2 vs x ys E R1 q1 q2 hk o => ?_
        obtain ⟨e', o⟩ := cls hk o
        rcases bm_dict R1 q1 q2 (.inr e') o with ⟨_, h⟩ | ⟨h, _⟩ <;> first | exact h | cases h
      · cases hm
    | ins d fs => simp [insV] at hi
    | non => simp [hasM] at hm
    | bl b => simp [hasM] at hm
    | int b => simp [hasM] at hm
    | tup b => simp [hasM] at hm
    | fn b => simp [hasM] at hm
    | lst b => simp [hasM] at hm
    | dik b => simp [hasM] at hm
    | ktp b => simp [hasM] at hm
    | kdk b => simp [hasM] at hm
    | kls b => simp [hasM] at hm
theorem mrest_eq {m : Nat} {b : Bm} {es : Exs} {fr : PyI.Fr} {v : Val} {h1 : Mem} {β : Type} (f : Ret → Mem → Res β) :
    (if noFld h1 m v && hasM P h1 m b v then (evs P call callI es fr h1).bind fun vs h2 => if kindV h1 v = kindV h2 v then (metV P call m b v vs h2).bind f else .bad else .bad) = (mrest P call callI m b es fr v h1).bind f := by
  unfold mrest
  split
  · rw [res_assoc]
    congr 1; funext vs h2
    split <;> rfl
  · rfl
theorem s_met (C : Ctx P G T c X call callI W k) {a : Ex} {m q : Nat} {b : Bm} {es : Exs} {l : Expr} {n : Str} {xs : List Expr} {ap pos : Pos} (hn : G.nms.lookup m = some n) (hbn : n = b.name ∨ b = .none)
    (hkm : m ∉ G.kwm.map (·.1)) (hl : (ap.endLine == pos.line) = true) (hlen : xs.length < 20) (hb : plainBase l = true) (st : xs.all notStar = true) (hz : xs = [] → es = .nil) (ha : SE P T X call callI W a l) (hs : SEs P T X call callI W es xs) :
    SE P T X call callI W (.met a m q b es) (.Call (.Attribute l n ap) xs [] pos) := by
  refine met_gen C hn hbn hkm hl hlen hb st hz ha hs fun σ H Q ⟨φ, h, fr, R, F, o⟩ => ⟨φ, h, fr, R, F, okR.val ?_⟩
  rw [res_assoc]
  simp only [ev, mrest_eq] at o
  exact o
theorem a_met (C : Ctx P G T c X call callI W k) {a : Ex} {m q : Nat} {es : Exs} {l : Expr} {n : Str} {xs : List Expr} {ap pos : Pos} (hn : G.nms.lookup m = some n)
    (hkm : m ∉ G.kwm.map (·.1)) (hl : (ap.endLine == pos.line) = true) (hlen : xs.length < 20) (hb : plainBase l = true) (st : xs.all notStar = true) (hz : xs = [] → es = .nil) (ha : SE P T X call callI W a l) (hs : SEs P T X call callI W es xs) :
    SA P T X call callI W (.met a m q es) (.Call (.Attribute l n ap) xs [] pos) := by
  refine met_gen (b := .none) C hn (.inr rfl) hkm hl hlen hb st hz ha hs fun σ H Q ⟨φ, h, fr, R, F, o⟩ => ⟨φ, h, fr, R, F, okR.valA ?_⟩
  rw [res_assoc]
  simp only [evA, mrest_eq] at o
  exact o
/-! ### methods with a keyword-only parameter, static methods -/
theorem hasM_ins {h : Mem} {m : Nat} {v : Val} (q : hasM P h m .none v = true) : ∃ d, insV h v = some d ∧ (metF P d m).isSome = true := by
  cases v with
  | ref a =>
    simp only [hasM] at q
    split at q
    · rename_i e; exact ⟨_, by simp only [PyI.insV, e], q⟩
    all_goals simp at q
  | ins c fs => exact ⟨_, rfl, q⟩
  | _ => simp [hasM] at q
theorem noM {ea eb : Ex} {m : Nat} {fr : PyI.Fr} {v : Val} {h1 : Mem} {es : Exs} (q : insV h1 v = none) : mrest P call callI m .none es fr v h1 = .bad := by
  unfold mrest
  by_cases z : (noFld h1 m v && hasM P h1 m .none v) = true
  · simp only [Bool.and_eq_true] at z
    obtain ⟨d, e, _⟩ := hasM_ins z.2
    rw [q] at e; cases e
  · rw [if_neg z]
theorem ev2 {ea eb : Ex} {fr : PyI.Fr} {h1 : Mem} {K : List Val → Mem → Res Ret} : (evs P call callI (.cons ea (.cons eb .nil)) fr h1).bind K = (ev P call callI ea fr h1).bind fun v h2 => (ev P call callI eb fr h2).bind fun w h3 => K [v, w] h3 := by
  show ((ev P call callI ea fr h1).bind fun v h2 => ((ev P call callI eb fr h2).bind fun w h3 => (Res.ok [] h3).bind fun vs h4 => .ok (w :: vs) h4).bind fun vs h4 => .ok (v :: vs) h4).bind K = _
  cases ev P call callI ea fr h1 with
  | ok v h2 =>
    show (((ev P call callI eb fr h2).bind fun w h3 => (Res.ok [] h3).bind fun vs h4 => .ok (w :: vs) h4).bind fun vs h4 => .ok (v :: vs) h4).bind K = (ev P call callI eb fr h2).bind fun w h3 => K [v, w] h3
    cases ev P call callI eb fr h2 <;> rfl
  | exc c h => rfl
  | bad => rfl
/-- the receiver, when the arguments are two -/
theorem two_args (C : Ctx P G T c X call callI W k) {ea eb : Ex} {m d g : Nat} {n : Str} {σ : L2.St} {Q : VK} {ψ : Ix} {H1 : L2.Hp} {h1 : Mem} {v : Val} {x : V} {fr : PyI.Fr} {E : Nat → L2.Hp → Prop} (en : T.nm m = n) (hi : insV h1 v = some d) (hg : metF P d m = some g) (hnf : noFld h1 m v = true) (R1 : Rel X.K T.toTab ψ H1 h1) (q1 : RV X.K T.toTab ψ H1 v x)
    (o1 : okR X.K T.toTab (RR X.K T.toTab) ψ H1 Q (fun c G => W (T.exn c) none σ G) (mrest P call callI m .none (.cons ea (.cons eb .nil)) fr v h1)) :
    (∃ a dx fs, x = .ref a ∧ H1 a = some (.ins (T.cls d) dx fs) ∧ fs.lookup n = none) ∧ okR X.K T.toTab (RR X.K T.toTab) ψ H1 Q (fun c G => W (T.exn c) none σ G) ((ev P call callI ea fr h1).bind fun v1 h2 => (ev P call callI eb fr h2).bind fun v2 h3 => if kindV h1 v = kindV h3 v then metV P call m .none v [v1, v2] h3 else .bad) := by
  constructor
  · rw [← en]
    cases v <;> simp only [insV, reduceCtorEq] at hi
    · split at hi <;> cases hi
      rename_i he
      obtain ⟨a', dx, ks, rfl, _, p1, p2⟩ := R1.ins q1 he
      exact ⟨a', dx, ks, rfl, p1, (RSs.look T.inj p2).2 (by simpa [noFld, he] using hnf)⟩
    · cases hi
      obtain ⟨a', dx, ks, rfl, p1, p2⟩ := q1
      exact ⟨a', dx, ks, rfl, p1.2, (RKs.look T.inj (RFl_iff.mp p2)).2 (by simpa [noFld] using hnf)⟩
  · unfold mrest at o1
    by_cases z : (noFld h1 m v && hasM P h1 m .none v) = true
    · rw [if_pos z, ev2] at o1
      exact o1
    · rw [if_neg z] at o1
      exact False.elim o1
theorem metV_ins {m d g : Nat} {v : Val} {vs : List Val} {h : Mem} (hi : insV h v = some d) (hg : metF P d m = some g) : metV P call m .none v vs h = call g (v :: vs) h := by
  cases v <;> simp only [insV, reduceCtorEq] at hi
  · split at hi <;> cases hi
    rename_i he
    simp only [metV, he, hg]
  · cases hi
    simp only [metV, hg]
theorem metK_gen (C : Ctx P G T c X call callI W k) {a ea eb : Ex} {m : Nat} {l x1 x2 : Expr} {n kw : Str} {ap pos kp : Pos} {t : TE} (hn : G.nms.lookup m = some n) (hkm : G.kwm.any (fun q => decide (q.1 = m) && decide (q.2.1 = kw)) = true)
    (hl : (ap.endLine == pos.line) = true) (hb : plainBase l = true) (st : notStar x1 = true) (ha : SE P T X call callI W a l) (h1 : SE P T X call callI W ea x1) (h2 : SE P T X call callI W eb x2)
    (ht : ∀ σ H Q, t σ H Q → ∃ φ h fr, Rel X.K T.toTab φ H h ∧ RFr X.K T.toTab φ H fr σ ∧ okR X.K T.toTab (RR X.K T.toTab) φ H Q (fun c G => W (T.exn c) none σ G) ((ev P call callI a fr h).bind (mrest P call callI m .none (.cons ea (.cons eb .nil)) fr))) :
    PE X (.Call (.Attribute l n ap) [x1] [⟨some kw, x2, kp⟩] pos) t := by
  have en := C.wd.nms m n hn
  refine ⟨fun pins s σ H Q I ht' => ?_⟩
  obtain ⟨φ, h, fr, R, F, o'⟩ := ht σ H Q ht'
  have off : (∀ v h1, ev P call callI a fr h = .ok v h1 → mrest P call callI m .none (.cons ea (.cons eb .nil)) fr v h1 = .bad) → wpAny (model X.prog X.w) X.A (eval (.Call (.Attribute l n ap) [x1] [⟨some kw, x2, kp⟩] pos) X.env) (EP X pins σ Q) X.xe s := fun hh => by
    refine PySem.W.methodCall_KW (thn (ha.run pins s σ H (fun _ _ => False) I ⟨φ, h, fr, R, F, o'.bindE.mono fun x H1 ⟨v', ψ, h1', e1, x1, R1, q1, o1⟩ => ?_⟩) fun v s1 ⟨x, H1, I1, r1, q⟩ => q.elim) (eval_methodK st hb hl)
    rw [hh _ _ e1] at o1
    exact o1
  cases hv : ev P call callI a fr h with
  | bad => exact off fun v h1 e => by rw [hv] at e; cases e
  | exc cc hc => exact off fun v h1 e => by rw [hv] at e; cases e
  | ok v h1' =>
    cases hi : insV h1' v with
    | none => exact off fun v' h1'' e => by rw [hv] at e; cases e; exact noM (ea := ea) (eb := eb) hi
    | some d =>
      by_cases hnf : (noFld h1' m v && hasM P h1' m .none v) = true
      case neg => exact off fun v' h1'' e => by rw [hv] at e; cases e; unfold mrest; rw [if_neg hnf]
      simp only [Bool.and_eq_true] at hnf
      obtain ⟨hnf, hm⟩ := hnf
      obtain ⟨d', hd', hgs⟩ := hasM_ins hm
      rw [hi] at hd'; cases hd'
      obtain ⟨g, hg⟩ := Option.isSome_iff_exists.mp hgs
      have hg' := hg
      unfold metF at hg
      obtain ⟨Cd, hc, hg⟩ := Option.bind_eq_some_iff.mp hg
      obtain ⟨c1, c2, c3, c4, c5⟩ := C.wd.cls d Cd hc
      obtain ⟨⟨Fg, hFg, _, hkb⟩, hme⟩ := c3 m g hg
      rw [en] at hme
      obtain ⟨⟨mm, kw', i⟩, hmem, hq⟩ := List.any_eq_true.mp hkm
      simp only [Bool.and_eq_true, decide_eq_true_eq] at hq
      obtain ⟨rfl, rfl⟩ := hq
      have kb := (hkb _ _ hmem).kb
      refine (pe_methKS ha c1 hme (C.call g Fg hFg) C.room kb (passW C) (pa_cons h1 pa_nil (star_of st _ _)) (pk_cons h2 pk_nil) rfl rfl (star_of st _ _) (by
        have h := allStar (es := [x1]) pos X.env (by simp [st])
        rw [Bool.or_eq_false_iff]
        refine ⟨?_, rfl⟩
        rw [List.any_eq_false]
        intro z hz
        have := List.all_eq_true.mp h z hz
        simpa using this) (eval_methodK st hb hl)).run pins s σ H Q I ⟨φ, h, fr, R, F, o'.bindE.mono fun x H1 ⟨v', ψ, h1'', e1, y1, R1, q1, o1⟩ => ?_⟩
      rw [hv] at e1; cases e1
      obtain ⟨⟨a', dx, fs, e2, e3, e4⟩, o2⟩ := two_args (E := fun _ _ => False) C en hi hg' hnf R1 q1 o1
      refine ⟨a', dx, fs, e2, e3, e4, ψ, _, fr, R1, F.mono y1, o2.bind.mono fun y H2 ⟨v1, χ, h2, y2, R2, q2, o3⟩ => ?_⟩
      refine ⟨χ, h2, fr, R2, (F.mono y1).mono y2, o3.bind.mono fun z H3 ⟨v2, ω, h3, y3, R3, q3, o4⟩ => ?_⟩
      split at o4
      · rename_i hk
        rw [metV_ins (insV_kind hi hk) hg'] at o4
        exact ⟨rfl, rfl, ω.call, h3, [v, v1, v2], R3.call, ⟨_, _, rfl, ((q1.mono y2 _ _).mono y3 _ _).monoV call_ve _ _, ⟨_, _, rfl, (q2.mono y3 _ _).monoV call_ve _ _, ⟨_, _, rfl, q3.monoV call_ve _ _, rfl⟩⟩⟩, o4.call R3⟩
      · exact False.elim o4
theorem metD_gen (C : Ctx P G T c X call callI W k) {a ea : Ex} {m : Nat} {i : Int} {l x1 : Expr} {n : Str} {ap pos : Pos} {t : TE} (hn : G.nms.lookup m = some n) (hkm : G.kwm.any (fun q => decide (q.1 = m) && decide (q.2.2 = i)) = true)
    (hl : (ap.endLine == pos.line) = true) (hb : plainBase l = true) (st : notStar x1 = true) (ha : SE P T X call callI W a l) (h1 : SE P T X call callI W ea x1)
    (ht : ∀ σ H Q, t σ H Q → ∃ φ h fr, Rel X.K T.toTab φ H h ∧ RFr X.K T.toTab φ H fr σ ∧ okR X.K T.toTab (RR X.K T.toTab) φ H Q (fun c G => W (T.exn c) none σ G) ((ev P call callI a fr h).bind (mrest P call callI m .none (.cons ea (.cons (.lit (.int i)) .nil)) fr))) :
    PE X (.Call (.Attribute l n ap) [x1] [] pos) t := by
  have en := C.wd.nms m n hn
  have sta : ([x1] : List Expr).all notStar = true := by simp [st]
  refine ⟨fun pins s σ H Q I ht' => ?_⟩
  obtain ⟨φ, h, fr, R, F, o'⟩ := ht σ H Q ht'
  have off : (∀ v h1, ev P call callI a fr h = .ok v h1 → mrest P call callI m .none (.cons ea (.cons (.lit (.int i)) .nil)) fr v h1 = .bad) → wpAny (model X.prog X.w) X.A (eval (.Call (.Attribute l n ap) [x1] [] pos) X.env) (EP X pins σ Q) X.xe s := fun hh => by
    refine (pe_noRecv ha sta (by simp) hb hl).run pins s σ H Q I ⟨φ, h, fr, R, F, o'.bindE.mono fun x H1 ⟨v', ψ, h1', e1, x1, R1, q1, o1⟩ => ?_⟩
    rw [hh _ _ e1] at o1
    exact o1
  cases hv : ev P call callI a fr h with
  | bad => exact off fun v h1 e => by rw [hv] at e; cases e
  | exc cc hc => exact off fun v h1 e => by rw [hv] at e; cases e
  | ok v h1' =>
    cases hi : insV h1' v with
    | none => exact off fun v' h1'' e => by rw [hv] at e; cases e; exact noM (ea := ea) (eb := ea) hi
    | some d =>
      by_cases hnf : (noFld h1' m v && hasM P h1' m .none v) = true
      case neg => exact off fun v' h1'' e => by rw [hv] at e; cases e; unfold mrest; rw [if_neg hnf]
      simp only [Bool.and_eq_true] at hnf
      obtain ⟨hnf, hm⟩ := hnf
      obtain ⟨d', hd', hgs⟩ := hasM_ins hm
      rw [hi] at hd'; cases hd'
      obtain ⟨g, hg⟩ := Option.isSome_iff_exists.mp hgs
      have hg' := hg
      unfold metF at hg
      obtain ⟨Cd, hc, hg⟩ := Option.bind_eq_some_iff.mp hg
      obtain ⟨c1, c2, c3, c4, c5⟩ := C.wd.cls d Cd hc
      obtain ⟨⟨Fg, hFg, _, hkb⟩, hme⟩ := c3 m g hg
      rw [en] at hme
      obtain ⟨⟨mm, kw', i'⟩, hmem, hq⟩ := List.any_eq_true.mp hkm
      simp only [Bool.and_eq_true, decide_eq_true_eq] at hq
      obtain ⟨rfl, rfl⟩ := hq
      obtain ⟨ds, hds, hbn⟩ := (hkb _ _ hmem).df
      refine (pe_methDS ha c1 hme (C.call g Fg hFg) C.room hbn hds (passW C) (pa_cons h1 pa_nil (star_of st _ _)) (star_of st _ _) rfl (eval_method sta (by simp) hb hl)).run pins s σ H Q I ⟨φ, h, fr, R, F, o'.bindE.mono fun x H1 ⟨v', ψ, h1'', e1, y1, R1, q1, o1⟩ => ?_⟩
      rw [hv] at e1; cases e1
      obtain ⟨⟨a', dx, fs, e2, e3, e4⟩, o2⟩ := two_args (E := fun _ _ => False) C en hi hg' hnf R1 q1 o1
      refine ⟨a', dx, fs, e2, e3, e4, ψ, _, fr, R1, F.mono y1, o2.bind.mono fun y H2 ⟨v1, χ, h2, y2, R2, q2, o3⟩ => ?_⟩
      have o4 : okR X.K T.toTab (RR X.K T.toTab) χ H2 Q (fun c G => W (T.exn c) none σ G) (if kindV h1' v = kindV h2 v then metV P call mm .none v [v1, .int i'] h2 else .bad) := o3
      split at o4
      · rename_i hk
        rw [metV_ins (insV_kind hi hk) hg'] at o4
        exact ⟨χ.call, h2, [v, v1, .int i'], R2.call, ⟨_, _, rfl, (q1.mono y2 _ _).monoV call_ve _ _, ⟨_, _, rfl, q2.monoV call_ve _ _, ⟨_, _, rfl, rfl, rfl⟩⟩⟩, o4.call R2⟩
      · exact False.elim o4
theorem s_metK (C : Ctx P G T c X call callI W k) {a ea eb : Ex} {m q : Nat} {l x1 x2 : Expr} {n kw : Str} {ap pos kp : Pos} (hn : G.nms.lookup m = some n) (hkm : G.kwm.any (fun q => decide (q.1 = m) && decide (q.2.1 = kw)) = true)
    (hl : (ap.endLine == pos.line) = true) (hb : plainBase l = true) (st : notStar x1 = true) (ha : SE P T X call callI W a l) (h1 : SE P T X call callI W ea x1) (h2 : SE P T X call callI W eb x2) :
    SE P T X call callI W (.met a m q .none (.cons ea (.cons eb .nil))) (.Call (.Attribute l n ap) [x1] [⟨some kw, x2, kp⟩] pos) := by
  refine metK_gen C hn hkm hl hb st ha h1 h2 fun σ H Q ⟨φ, h, fr, R, F, o⟩ => ⟨φ, h, fr, R, F, okR.val ?_⟩
  rw [res_assoc]
  simp only [ev, mrest_eq] at o
  exact o
theorem s_metD (C : Ctx P G T c X call callI W k) {a ea : Ex} {m q : Nat} {i : Int} {l x1 : Expr} {n : Str} {ap pos : Pos} (hn : G.nms.lookup m = some n) (hkm : G.kwm.any (fun q => decide (q.1 = m) && decide (q.2.2 = i)) = true)
    (hl : (ap.endLine == pos.line) = true) (hb : plainBase l = true) (st : notStar x1 = true) (ha : SE P T X call callI W a l) (h1 : SE P T X call callI W ea x1) :
    SE P T X call callI W (.met a m q .none (.cons ea (.cons (.lit (.int i)) .nil))) (.Call (.Attribute l n ap) [x1] [] pos) := by
  refine metD_gen C hn hkm hl hb st ha h1 fun σ H Q ⟨φ, h, fr, R, F, o⟩ => ⟨φ, h, fr, R, F, okR.val ?_⟩
  rw [res_assoc]
  simp only [ev, mrest_eq] at o
  exact o
theorem smeth_gen (C : Ctx P G T c X call callI W k) {d m f : Nat} {es : Exs} {cn n : Str} {xs : List Expr} {p ap pos : Pos} {t : TE} (hc : G.cnm.lookup d = some cn) (hg : c.gl cn = true) (hn : G.nms.lookup m = some n) (hs : (d, m, f) ∈ G.sts)
    (hl : (ap.endLine == pos.line) = true) (hlen : xs.length < 20) (h0 : xs.length ≠ 0) (st : xs.all notStar = true) (ha : SEs P T X call callI W es xs)
    (ht : ∀ σ H Q, t σ H Q → ∃ φ h fr, Rel X.K T.toTab φ H h ∧ RFr X.K T.toTab φ H fr σ ∧ okR X.K T.toTab (RR X.K T.toTab) φ H Q (fun c G => W (T.exn c) none σ G) ((evs P call callI es fr h).bind fun vs h1 => call f vs h1)) :
    PE X (.Call (.Attribute (.Name cn p) n ap) xs [] pos) t := by
  obtain ⟨_, dm⟩ := C.wd.cnm d cn hc
  obtain ⟨⟨F, hF, hdf⟩, S⟩ := C.wd.st d m f hs
  rw [C.wd.nms m n hn] at S
  obtain ⟨g1, g2, g3⟩ := C.gl hg
  cases xs with
  | nil => exact absurd rfl h0
  | cons x xs =>
    have st' := st
    simp only [List.all_cons, Bool.and_eq_true] at st
    refine peI (pe_smethS g1 dm S (C.call f F hF) C.room (C.wd.bnd f F hF hdf) (passW C) ha (star_of st.1 _ _) (noneStar _ _ st.2) (eval_method st' hlen rfl hl) g2) fun σ H Q h => ?_
    obtain ⟨φ, h, fr, R, F, o⟩ := ht σ H Q h
    exact ⟨φ, h, fr, R, F, (okR.bind (RR' := RVs X.K T.toTab) o).mono fun x G ⟨v, ψ, h1, e, R1, q, o1⟩ => ⟨ψ.call, h1, v, R1.call, q.monoV call_ve _ _, o1.call R1⟩⟩
theorem s_smeth (C : Ctx P G T c X call callI W k) {q : Ck} {d m f : Nat} {es : Exs} {cn n : Str} {xs : List Expr} {p ap pos : Pos} (hc : G.cnm.lookup d = some cn) (hg : c.gl cn = true) (hn : G.nms.lookup m = some n) (hs : (d, m, f) ∈ G.sts)
    (hl : (ap.endLine == pos.line) = true) (hlen : xs.length < 20) (h0 : xs.length ≠ 0) (st : xs.all notStar = true) (ha : SEs P T X call callI W es xs) : SE P T X call callI W (.cal q f es) (.Call (.Attribute (.Name cn p) n ap) xs [] pos) := by
  refine smeth_gen C hc hg hn hs hl hlen h0 st ha fun σ H Q ⟨φ, h, fr, R, F, o⟩ => ⟨φ, h, fr, R, F, okR.val ?_⟩
  rw [res_assoc]
  exact o
theorem a_smeth (C : Ctx P G T c X call callI W k) {q : Ck} {d m f : Nat} {es : Exs} {cn n : Str} {xs : List Expr} {p ap pos : Pos} (hc : G.cnm.lookup d = some cn) (hg : c.gl cn = true) (hn : G.nms.lookup m = some n) (hs : (d, m, f) ∈ G.sts)
    (hl : (ap.endLine == pos.line) = true) (hlen : xs.length < 20) (h0 : xs.length ≠ 0) (st : xs.all notStar = true) (ha : SEs P T X call callI W es xs) : SA P T X call callI W (.cal q f es) (.Call (.Attribute (.Name cn p) n ap) xs [] pos) := by
  refine smeth_gen C hc hg hn hs hl hlen h0 st ha fun σ H Q ⟨φ, h, fr, R, F, o⟩ => ⟨φ, h, fr, R, F, okR.valA ?_⟩
  rw [res_assoc]
  exact o
end
end PyI
namespace PyI
open PySem PySem.Spec PyProof.Rows L2
section
variable {P : Pg} {G : Gam} {T : Tab2} {c : SC} {X : Cx} {call callI : Nat → List Val → Mem → Res Ret} {W : WX} {k : Nat}
/-! ### built-ins -/
theorem s_bltB (C : Ctx P G T c X call callI W k) {b : Blt} {es : Exs} {n id : String} {x : Str} {y : Expr} {xs : List Expr} {p pos : Pos} (hr : CallR X (.builtin id) (rBl X.K T.toTab b)) (hx : G.bl c x (n : Str) = true) (hv : bootBuiltins (n : Str) = some (.builtin id))
    (st : (y :: xs).all notStar = true) (hs : SEs P T X call callI W es (y :: xs)) : SE P T X call callI W (.blt b es) (.Call (.Name x p) (y :: xs) [] pos) := by
  obtain ⟨rfl, g1, g2, g3, g4⟩ := C.blt hx
  simp only [List.all_cons, Bool.and_eq_true] at st
  refine peI (pe_callB hr g1 g2 hv hs g4 g3 (star_of st.1 _ _) (noneStar _ _ st.2)) fun σ H Q h => ?_
  exact (tR.bind1 (R1 := RVs X.K T.toTab) (f := fun _ vs h1 => bltV b vs h1) h).mono fun x H1 ⟨v, φ, h1, fr, R, F, q, o⟩ => ⟨_, v, φ, h1, R, q, o⟩
theorem s_bltT (C : Ctx P G T c X call callI W k) {b : Blt} {es : Exs} {n id : String} {x : Str} {y : Expr} {xs : List Expr} {p pos : Pos} (hr : CallR X (.type id) (rBl X.K T.toTab b)) (hx : G.bl c x (n : Str) = true) (hv : bootBuiltins (n : Str) = some (.type id))
    (st : (y :: xs).all notStar = true) (hs : SEs P T X call callI W es (y :: xs)) : SE P T X call callI W (.blt b es) (.Call (.Name x p) (y :: xs) [] pos) := by
  obtain ⟨rfl, g1, g2, g3, g4⟩ := C.blt hx
  simp only [List.all_cons, Bool.and_eq_true] at st
  refine peI (pe_callTy hr g1 g2 hv hs g4 g3 (star_of st.1 _ _) (noneStar _ _ st.2)) fun σ H Q h => ?_
  exact (tR.bind1 (R1 := RVs X.K T.toTab) (f := fun _ vs h1 => bltV b vs h1) h).mono fun x H1 ⟨v, φ, h1, fr, R, F, q, o⟩ => ⟨_, v, φ, h1, R, q, o⟩
/-! ### places -/
/-- whose it is -/
def plA (φ : Ix) (q : Option (Nat × Nat)) (a : Addr) : Prop := match q with
  | none => φ.M a
  | some (n, f) => φ.o n f = some a
def RP (K : PySem.W.Frag) (T : Tab) (φ : Ix) (H : L2.Hp) (p : Px) (σ : L2.St) (q : Option (Nat × Nat)) (c : Con) (x : V) : Prop := ∃ a u, x = .ref a ∧ H a = some u ∧ RCo K T φ H a c u ∧ plA φ q a ∧ ∀ i, p = .s i → σ[i]? = some (some (.ref a))
/-- which field it is -/
def plF (p : Px) (fr : PyI.Fr) : Option (Option (Nat × Nat)) := match p with
  | .s _ => some none
  | .f i f => match fr[i]? with
    | some (.v (.ref n)) => some (some (n, f))
    | _ => none
theorem s_px (C : Ctx P G T c X call callI W k) {p : Px} {x : Expr} (h : G.px c p x = true) : PE X x (fun σ H Q => ∃ φ h fr c', Rel X.K T.toTab φ H h ∧ RFr X.K T.toTab φ H fr σ ∧ evp P p fr h = some c' ∧ ∀ q x, plF p fr = some q → RP X.K T.toTab φ H p σ q c' x → Q x H) := by
  unfold Gam.px at h
  split at h
  · rename_i i n pos
    refine peI (C.var h) fun σ H Q ⟨φ, h, fr, c', R, F, e, q⟩ => ?_
    simp only [evp] at e
    split at e <;> cases e
    rename_i e
    obtain ⟨a, u, h1, h2, h3, h4⟩ := F.o i _ e
    exact ⟨.ref a, h1, q none _ rfl ⟨a, u, rfl, h3, h4, h2, fun i e => by cases e; exact h1⟩⟩
  · rename_i i f n p1 a p2
    simp only [Bool.and_eq_true, decide_eq_true_eq] at h
    have en := C.wd.nms f a h.2
    subst en
    refine peI (pe_fld (C.var h.1) (base_of rfl _ _)) fun σ H Q ⟨φ, h, fr, c', R, F, e, q⟩ => ?_
    simp only [evp] at e
    split at e <;> try cases e
    rename_i n' en
    obtain ⟨y, ey, ry⟩ := F.v i _ en
    refine ⟨y, ey, ?_⟩
    unfold fldC at e
    split at e <;> try cases e
    rename_i d fs hm
    split at e <;> try cases e
    rename_i hl
    split at e <;> cases e
    rename_i hf
    simp only [Bool.and_eq_true] at hf
    obtain ⟨Cd, hc, hf⟩ := fields_of hf.1
    obtain ⟨c1, c2, _⟩ := C.wd.cls d Cd hc
    obtain ⟨b, dx, ks, rfl, _, p1', p2'⟩ := R.ins ry hm
    obtain ⟨z, e4, aa, u, g1, rfl, g3, g4⟩ := (RSs.look T.inj p2').1 _ hl
    exact ⟨b, _, dx, ks, .ref aa, rfl, p1', c1, c2 f hf, e4, q (some (n', f)) _ (by simp [plF, en]) ⟨aa, u, rfl, g3, g4, g1, fun i e => by cases e⟩⟩
  · cases h
theorem a_blt1 (C : Ctx P G T c X call callI W k) {az : Az} {f : Mem → Val → Option Con} {a : Ex} {n : String} {v : Value} {x : Str} {y : Expr} {p pos : Pos} (hr : (∃ id, v = .type id ∧ CallR X (.type id) (rBc X.K T.toTab f)) ∨ ∃ id, v = .builtin id ∧ CallR X (.builtin id) (rBc X.K T.toTab f)) (hx : G.bl c x (n : Str) = true) (hv : bootBuiltins (n : Str) = some v)
    (he : ∀ fr h, evA P call callI az fr h = (ev P call callI a fr h).bind fun v h1 => pure h1 (f h1 v)) (st : notStar y = true) (hs : SE P T X call callI W a y) : SA P T X call callI W az (.Call (.Name x p) [y] [] pos) := by
  obtain ⟨rfl, g1, g2, g3, g4⟩ := C.blt hx
  have pa : PA X [y] _ := pa_cons hs pa_nil (star_of st _ _)
  have rd : ∀ σ H Q, tA X.K T.toTab W (evA P call callI az) σ H Q → tCons (tV X.K T.toTab W (ev P call callI a)) tNil σ H fun xs H1 => rBc X.K T.toTab f xs H1 Q := fun σ H Q ⟨φ, h, fr, R, F, o⟩ => by
    rw [he] at o
    refine ⟨φ, h, fr, R, F, (okR.bind (RR' := RV X.K T.toTab) o).mono fun x G ⟨v, ψ, h1, e, R1, q, o1⟩ => ?_⟩
    exact ⟨_, v, ψ, h1, R1, ⟨_, _, rfl, q, rfl⟩, o1⟩
  rcases hr with ⟨id, rfl, hr⟩ | ⟨id, rfl, hr⟩
  · exact peI (pe_callTy hr g1 g2 hv pa g4 g3 (star_of st _ _) (noneStar _ _ rfl)) rd
  · exact peI (pe_callB hr g1 g2 hv pa g4 g3 (star_of st _ _) (noneStar _ _ rfl)) rd
theorem a_srtR (C : Ctx P G T c X call callI W k) {a : Ex} {x r : Str} {y : Expr} {j : Nat} {p p1 p2 pos : Pos} (hx : G.bl c x "sorted" = true) (hk : r = "reverse") (st : notStar y = true) (hs : SE P T X call callI W a y) :
    SA P T X call callI W (.srtR a) (.Call (.Name x p) [y] [⟨some r, .Constant (.bool true) j p1, p2⟩] pos) := by
  obtain ⟨rfl, g1, g2, g3, g4⟩ := C.blt hx
  subst hk
  refine peI (pe_callBK (srtR_ok (T := T.toTab)) g1 g2 (by decide +kernel) (pa_cons hs pa_nil (star_of st _ _)) (pk_cons pe_bl pk_nil) g4 g3 (by rw [star_of st]; rfl) (noneStar _ _ (by simp [st])) rfl rfl rfl) fun σ H Q ⟨φ, h, fr, R, F, o⟩ => ?_
  refine ⟨φ, h, fr, R, F, (okR.bind (RR' := RV X.K T.toTab) o).mono fun x G ⟨v, ψ, h1, e, R1, q, o1⟩ => ?_⟩
  exact ⟨rfl, _, v, ψ, h1, R1, ⟨_, _, rfl, q, rfl⟩, o1⟩
theorem a_set (C : Ctx P G T c X call callI W k) {x : Str} {p pos : Pos} (hx : G.bl c x "set" = true) : SA P T X call callI W .set (.Call (.Name x p) [] [] pos) := by
  obtain ⟨rfl, g1, g2, g3, g4⟩ := C.blt hx
  refine peI (pe_callTy0 cr_set0 g1 g2 (by decide +kernel) g4 g3) fun σ H Q ⟨φ, h, fr, R, F, o⟩ => ?_
  exact ⟨rfl, okR.newA (c := .set []) (o := fun _ p => SetO X.w p (fun _ => false) 0) o R fun p hp => ⟨fun _ => false, by rw [C.tw]; rfl, fun i => by simp⟩⟩
theorem spl_go (c : Char) : ∀ (s cur : Txt), TL.spl [c.toNat] 0 (cur.reverse.map Char.toNat) (s.map Char.toNat) = (splitGo c s cur).map (List.map Char.toNat)
  | [], cur => by simp [TL.spl, splitGo]
  | d :: r, cur => by
    simp only [List.map_cons, splitGo]
    by_cases h : d = c
    · subst h
      rw [if_pos rfl, TL.spl_hit (by simp [TL.pre]), List.map_cons]
      have ih := spl_go d r []
      simp only [List.reverse_nil, List.map_nil] at ih
      rw [← ih]
      rfl
    · rw [if_neg h]
      have hn : ¬ (d.toNat = c.toNat) := fun z => h (toNat_inj z)
      have ih := spl_go c r (d :: cur)
      rw [← ih]
      have : TL.pre [c.toNat] (d.toNat :: r.map Char.toNat) = false := by simp [TL.pre, Ne.symm hn, hn]
      simp [TL.spl, this]
theorem split_toStr {s : Txt} {c : Char} (hc : c.toNat < 256) : Txt.split (toStr s) (toStr [c]) = (splitGo c s []).map toStr := by
  have := SX.split_S (a := s.map Char.toNat) (b := [c.toNat]) (by simp) (by simpa using hc)
  have h2 := spl_go c s []
  simp only [List.reverse_nil, List.map_nil] at h2
  rw [h2, List.map_map] at this
  exact this
theorem a_split (C : Ctx P G T c X call callI W k) {a b : Ex} {l y : Expr} {ap pos : Pos} (hl : (ap.endLine == pos.line) = true) (hb : plainBase l = true) (st : notStar y = true) (ha : SE P T X call callI W a l) (hy : SE P T X call callI W b y) :
    SA P T X call callI W (.split a b) (.Call (.Attribute l "split" ap) [y] [] pos) := by
  refine peI (pe_split ha hy (by rw [star_of st]; rfl) (base_of hb _ _) hl) fun σ H Q ⟨φ, h, fr, R, F, o⟩ => ?_
  refine ⟨φ, h, fr, R, F, (okR.bind (RR' := RV X.K T.toTab) o).mono fun x G ⟨v, ψ, h1, e, R1, q, o1⟩ => ?_⟩
  by_cases hv : ∃ z, v = .str z
  · obtain ⟨z, rfl⟩ := hv
    refine ⟨⟨_, q⟩, ψ, h1, fr, R1, F.mono e, (okR.bind (RR' := RV X.K T.toTab) o1).mono fun y G2 ⟨w, χ, h2, e2, R2, q2, o2⟩ => ?_⟩
    obtain ⟨d, ed, o2⟩ := o2.pure
    unfold splitV at ed
    split at ed <;> try cases ed
    rename_i s0 c0 hs0
    cases hs0
    split at ed <;> cases ed
    rename_i hl
    refine ⟨_, _, q, by rw [show y = _ from q2], rfl, by rw [toStr_length]; exact hl.1, fun p hp => ?_⟩
    rw [split_toStr hl.2, List.map_map]
    exact o2.newL R2 (RVs.of_strs _) p hp
  · have : (strOf v).isSome = false := by
      cases v <;> first | rfl | exact absurd ⟨_, rfl⟩ hv
    rw [this] at o1
    exact False.elim o1
theorem rgV_R {K : PySem.W.Frag} {T : Tab} {φ : Ix} {H : L2.Hp} (a b : Int) : RVs K T φ H (rngL a (b - a).toNat) (rgV a b) := by
  have e1 : rngL a (b - a).toNat = ((List.range (b - a).toNat).map fun (i : Nat) => a + (i : Int)).map Val.int := by
    unfold rngL; rw [List.map_map]; rfl
  have e2 : rgV a b = ((List.range (b - a).toNat).map fun (i : Nat) => a + (i : Int)).map V.int := by
    unfold rgV; rw [List.map_map]; rfl
  rw [e1, e2]
  exact RVs.of_ints _
theorem a_lr1 (C : Ctx P G T c X call callI W k) {e : Ex} {x r : Str} {y : Expr} {p p1 p2 pos : Pos} (hx : G.bl c x "list" = true) (hr : G.bl c r "range" = true) (st : notStar y = true) (hs : SE P T X call callI W e y) :
    SA P T X call callI W (.lr1 e) (.Call (.Name x p) [.Call (.Name r p1) [y] [] p2] [] pos) := by
  obtain ⟨rfl, g1, g2, g3, g4⟩ := C.blt hx
  obtain ⟨rfl, k1, k2, k3, k4⟩ := C.blt hr
  refine peI (pe_listRg C.calm g1 g2 (prg_1 k1 k2 hs (star_of st _ _)) (star_of rfl _ _)) fun σ H Q ⟨φ, h, fr, R, F, o⟩ => ?_
  refine ⟨φ, h, fr, R, F, o.bind.mono fun z H1 hh => ?_⟩
  obtain ⟨v, ψ, h1, x1, R1, q1, o1⟩ := hh
  clear o
  cases v <;> simp only [] at o1 <;> try exact False.elim o1
  rename_i n
  split at o1
  · rename_i hb
    simp only [big_eq, Bool.and_eq_true, decide_eq_true_eq] at hb
    refine ⟨n, q1, ⟨by omega, by omega, by omega, by omega, by omega⟩, ?_⟩
    exact o1.newL R1 (by have := rgV_R (K := X.K) (T := T.toTab) (φ := ψ) (H := H1) 0 n; simpa using this)
  · exact False.elim o1
theorem a_lr2 (C : Ctx P G T c X call callI W k) {e d : Ex} {x r : Str} {y z : Expr} {p p1 p2 pos : Pos} (hx : G.bl c x "list" = true) (hr : G.bl c r "range" = true) (st : notStar y = true) (st2 : notStar z = true) (hs : SE P T X call callI W e y) (hd : SE P T X call callI W d z) :
    SA P T X call callI W (.lr2 e d) (.Call (.Name x p) [.Call (.Name r p1) [y, z] [] p2] [] pos) := by
  obtain ⟨rfl, g1, g2, g3, g4⟩ := C.blt hx
  obtain ⟨rfl, k1, k2, k3, k4⟩ := C.blt hr
  refine peI (pe_listRg C.calm g1 g2 (prg_2 k1 k2 hs hd (star_of st _ _) (star_of st2 _ _) (noneStar _ _ (by simp [st2]))) (star_of rfl _ _)) fun σ H Q ⟨φ, h, fr, R, F, o⟩ => ?_
  refine ⟨φ, h, fr, R, F, o.bind.mono fun z H1 hh => ?_⟩
  obtain ⟨v, ψ, h1, x1, R1, q1, o1⟩ := hh
  refine ⟨ψ, h1, fr, R1, F.mono x1, o1.bind.mono fun z H2 hh => ?_⟩
  obtain ⟨u, χ, h2, x2, R2, q2, o2⟩ := hh
  clear o o1
  cases v <;> cases u <;> simp only [] at o2 <;> try exact False.elim o2
  rename_i n m
  split at o2
  · rename_i hb
    simp only [big_eq, Bool.and_eq_true, decide_eq_true_eq] at hb
    refine ⟨n, m, q1, q2, ⟨by omega, by omega, by omega, by omega, by omega⟩, ?_⟩
    exact o2.newL R2 (rgV_R n m)
  · exact False.elim o2
theorem isi_ok {P : Pg} {K : PySem.W.Frag} {T : Tab} {φ : Ix} {H : L2.Hp} {h : Mem} (R : Rel K T φ H h) {v : Val} {x : V} {t : Ty} {s : String} {b : Bool} (ht : t.name = some s) (q : RV K T φ H v x) (e : isiV P.ist h t v = some b) :
    ∃ u, TyX K H x u ∧ PySem.W.kitOne K u (.type s) = some b := by
  have fin : ∀ {a : String}, kitB a s = some b → PySem.W.kitOne K (.type a) (.type s) = some b := fun h => kit_ty h
  cases v with
  | non =>
    refine ⟨_, .base (by rw [show x = _ from q]; exact .non), fin ?_⟩
    cases t <;> simp only [Ty.name, Option.some.injEq, reduceCtorEq] at ht <;> subst ht <;> simp only [isiV, Option.some.injEq] at e <;> subst e <;> decide +kernel
  | bl k =>
    refine ⟨_, .base (by rw [show x = _ from q]; exact .bl k), fin ?_⟩
    cases t <;> simp only [Ty.name, Option.some.injEq, reduceCtorEq] at ht <;> subst ht <;> simp only [isiV, Option.some.injEq] at e <;> subst e <;> decide +kernel
  | int i =>
    refine ⟨_, .base (by rw [show x = _ from q]; exact .int i), fin ?_⟩
    cases t <;> simp only [Ty.name, Option.some.injEq, reduceCtorEq] at ht <;> subst ht <;> simp only [isiV, Option.some.injEq] at e <;> subst e <;> decide +kernel
  | str z =>
    refine ⟨_, .base (by rw [show x = _ from q]; exact .str _), fin ?_⟩
    cases t <;> simp only [Ty.name, Option.some.injEq, reduceCtorEq] at ht <;> subst ht <;> simp only [isiV, Option.some.injEq] at e <;> subst e <;> decide +kernel
  | tup xs =>
    obtain ⟨a, vs, rfl, p1, p2⟩ := q
    refine ⟨_, .base (.tup p1), fin ?_⟩
    cases t <;> simp only [Ty.name, Option.some.injEq, reduceCtorEq] at ht <;> subst ht <;> simp only [isiV, Option.some.injEq] at e <;> subst e <;> decide +kernel
  | lst xs =>
    obtain ⟨a, vs, rfl, p1, p2⟩ := q
    have tl : TyX K H (.ref a) (.type "list") := by
      rcases ct_lst p1.2 with p | ⟨o, p⟩
      · exact .base (.lst p)
      · exact .base (.frz p)
    refine ⟨_, tl, fin ?_⟩
    cases t <;> simp only [Ty.name, Option.some.injEq, reduceCtorEq] at ht <;> subst ht <;> simp only [isiV, Option.some.injEq] at e <;> subst e <;> decide +kernel
  | dik xs =>
    obtain ⟨a, vs, rfl, p1, p2⟩ := q
    have tl : TyX K H (.ref a) (.type "dict") := by
      rcases ct_dK p1.2 with p | ⟨o, p⟩
      · exact .base (.dK p)
      · exact .fDict p
    refine ⟨_, tl, fin ?_⟩
    cases t <;> simp only [Ty.name, Option.some.injEq, reduceCtorEq] at ht <;> subst ht <;> simp only [isiV, Option.some.injEq] at e <;> subst e <;> decide +kernel
  | ref n =>
    simp only [isiV] at e
    split at e
    · rename_i he
      obtain ⟨a, vs, rfl, _, p1, p2⟩ := R.lst q he
      refine ⟨_, .base (.lst p1), fin ?_⟩
      cases t <;> simp only [Ty.name, Option.some.injEq, reduceCtorEq] at ht <;> subst ht <;> simp only [Option.some.injEq] at e <;> subst e <;> decide +kernel
    · rename_i he
      obtain ⟨a, vs, rfl, _, p1, p2⟩ := R.dik q he
      refine ⟨_, .base (.dK p1), fin ?_⟩
      cases t <;> simp only [Ty.name, Option.some.injEq, reduceCtorEq] at ht <;> subst ht <;> simp only [Option.some.injEq] at e <;> subst e <;> decide +kernel
    · cases t <;> simp only [Ty.name, Option.some.injEq, reduceCtorEq] at ht <;> cases e
    · cases e
  | fn f => cases e
  | ktp xs => cases e
  | kdk xs => cases e
  | kls xs => cases e
  | ins d fs => cases t <;> simp only [Ty.name, Option.some.injEq, reduceCtorEq] at ht <;> cases e
theorem s_isi (C : Ctx P G T c X call callI W k) {a : Ex} {t : Ty} {s : String} {x tn : Str} {y : Expr} {p p1 pos : Pos} (hx : G.bl c x "isinstance" = true) (st : notStar y = true) (ht : t.name = some s) (htn : G.bl c tn (s : Str) = true) (ha : SE P T X call callI W a y) :
    SE P T X call callI W (.isi a t) (.Call (.Name x p) [y, .Name tn p1] [] pos) := by
  obtain ⟨rfl, g1, g2, g3, g4⟩ := C.blt hx
  obtain ⟨rfl, k1, k2, k3, k4⟩ := C.blt htn
  have hv : bootBuiltins (s : Str) = some (.type s) := by
    cases t <;> simp only [Ty.name, Option.some.injEq, reduceCtorEq] at ht <;> subst ht <;> decide +kernel
  refine peI (pe_callB call_isi g1 g2 (by decide +kernel) (pa_cons ha (pa_cons (pe_bltn (v := .ty s) k1 k2 hv rfl k4 k3) pa_nil (star_of rfl _ _)) (star_of st _ _)) g4 g3 (star_of st _ _) (noneStar _ _ rfl)) fun σ H Q h => ?_
  refine (tR.bind1 (R1 := RV X.K T.toTab) (f := fun _ v h1 => pure h1 ((isiV P.ist h1 t v).map Val.bl)) h).mono fun z H1 ⟨v, φ, h1, fr, R, F, q, o⟩ => ?_
  obtain ⟨u, e, o⟩ := o.pure
  cases hi : isiV P.ist h1 t v with
  | none => rw [hi] at e; cases e
  | some b =>
    rw [hi] at e; cases e
    obtain ⟨u, e1, e2⟩ := isi_ok R ht q hi
    exact ⟨z, .ty s, u, .type s, b, rfl, ClsV.ty s, e1, e2, o.ok R rfl⟩
theorem isi_tl {P : Pg} {K : PySem.W.Frag} {T : Tab} {φ : Ix} {H : L2.Hp} {h : Mem} (R : Rel K T φ H h) {v : Val} {x : V} {b : Bool} (q : RV K T φ H v x) (e : isiV P.ist h .tl v = some b) :
    ∃ u, TyX K H x u ∧ PySem.W.kitAny K u [.type "tuple", .type "list"] = some b := by
  have fin : ∀ {a : String} {b1 b2 : Bool}, kitB a "tuple" = some b1 → kitB a "list" = some b2 → b = (b1 || b2) → PySem.W.kitAny K (.type a) [.type "tuple", .type "list"] = some b := fun {a b1 b2} h1 h2 e => by
    subst e
    refine kitAny_cons (kit_ty h1) (fun hb => ?_) (fun hb => by rw [hb]; rfl)
    refine kitAny_cons (kit_ty h2) (fun hb2 => ?_) (fun hb2 => by rw [hb, hb2]; rfl)
    rw [hb, hb2]; exact kitAny_nil
  cases v with
  | non =>
    simp only [isiV, Option.some.injEq] at e
    exact ⟨_, .base (by rw [show x = _ from q]; exact .non), fin (b1 := false) (b2 := false) (by decide +kernel) (by decide +kernel) e.symm⟩
  | bl k =>
    simp only [isiV, Option.some.injEq] at e
    exact ⟨_, .base (by rw [show x = _ from q]; exact .bl k), fin (b1 := false) (b2 := false) (by decide +kernel) (by decide +kernel) e.symm⟩
  | int i =>
    simp only [isiV, Option.some.injEq] at e
    exact ⟨_, .base (by rw [show x = _ from q]; exact .int i), fin (b1 := false) (b2 := false) (by decide +kernel) (by decide +kernel) e.symm⟩
  | str z =>
    simp only [isiV, Option.some.injEq] at e
    exact ⟨_, .base (by rw [show x = _ from q]; exact .str _), fin (b1 := false) (b2 := false) (by decide +kernel) (by decide +kernel) e.symm⟩
  | tup xs =>
    simp only [isiV, Option.some.injEq] at e
    obtain ⟨a, vs, rfl, p1, p2⟩ := q
    exact ⟨_, .base (.tup p1), fin (b1 := true) (b2 := false) (by decide +kernel) (by decide +kernel) e.symm⟩
  | lst xs =>
    simp only [isiV, Option.some.injEq] at e
    obtain ⟨a, vs, rfl, p1, p2⟩ := q
    have tl : TyX K H (.ref a) (.type "list") := by
      rcases ct_lst p1.2 with p | ⟨o, p⟩
      · exact .base (.lst p)
      · exact .base (.frz p)
    exact ⟨_, tl, fin (b1 := false) (b2 := true) (by decide +kernel) (by decide +kernel) e.symm⟩
  | dik xs =>
    simp only [isiV, Option.some.injEq] at e
    obtain ⟨a, vs, rfl, p1, p2⟩ := q
    have tl : TyX K H (.ref a) (.type "dict") := by
      rcases ct_dK p1.2 with p | ⟨o, p⟩
      · exact .base (.dK p)
      · exact .fDict p
    exact ⟨_, tl, fin (b1 := false) (b2 := false) (by decide +kernel) (by decide +kernel) e.symm⟩
  | ref n =>
    simp only [isiV] at e
    split at e
    · rename_i he
      obtain ⟨a, vs, rfl, _, p1, p2⟩ := R.lst q he
      simp only [Option.some.injEq] at e
      exact ⟨_, .base (.lst p1), fin (b1 := false) (b2 := true) (by decide +kernel) (by decide +kernel) e.symm⟩
    · rename_i he
      obtain ⟨a, vs, rfl, _, p1, p2⟩ := R.dik q he
      simp only [Option.some.injEq] at e
      exact ⟨_, .base (.dK p1), fin (b1 := false) (b2 := false) (by decide +kernel) (by decide +kernel) e.symm⟩
    · cases e
    · cases e
  | fn f => cases e
  | ktp xs => cases e
  | kdk xs => cases e
  | kls xs => cases e
  | ins d fs => cases e
/-- .. of a tuple or a list -/
theorem s_isiTl (C : Ctx P G T c X call callI W k) {a : Ex} {x t1 t2 : Str} {y : Expr} {j : Nat} {p p1 p2 p3 pos : Pos} (hx : G.bl c x "isinstance" = true) (st : notStar y = true) (h1 : G.bl c t1 "tuple" = true) (h2 : G.bl c t2 "list" = true) (ha : SE P T X call callI W a y) :
    SE P T X call callI W (.isi a .tl) (.Call (.Name x p) [y, .Tuple [.Name t1 p1, .Name t2 p2] j p3] [] pos) := by
  obtain ⟨rfl, g1, g2, g3, g4⟩ := C.blt hx
  obtain ⟨rfl, k1, k2, k3, k4⟩ := C.blt h1
  obtain ⟨rfl, l1, l2, l3, l4⟩ := C.blt h2
  refine peI (pe_callB call_isiT g1 g2 (by decide +kernel) (pa_cons ha (pa_cons (pe_tup (pa_cons (pe_bltn (v := .ty "tuple") k1 k2 (by decide +kernel) rfl k4 k3) (pa_cons (pe_bltn (v := .ty "list") l1 l2 (by decide +kernel) rfl l4 l3) pa_nil (star_of rfl _ _)) (star_of rfl _ _))) pa_nil (star_of rfl _ _)) (star_of st _ _)) g4 g3 (star_of st _ _) (noneStar _ _ rfl)) fun σ H Q h => ?_
  refine (tR.bind1 (R1 := RV X.K T.toTab) (f := fun _ v h1 => pure h1 ((isiV P.ist h1 .tl v).map Val.bl)) h).mono fun z H1 ⟨v, φ, h1, fr, R, F, q, o⟩ => ?_
  obtain ⟨u, e, o⟩ := o.pure
  cases hi : isiV P.ist h1 .tl v with
  | none => rw [hi] at e; cases e
  | some b =>
    rw [hi] at e; cases e
    refine ⟨by decide, fun tp hp => ?_⟩
    have x1 := ext_tup (o := .tup [.ty "tuple", .ty "list"]) R hp
    obtain ⟨u, e1, e2⟩ := isi_tl (R.tup hp) (q.mono x1 _ _) hi
    exact ⟨z, tp, [.ty "tuple", .ty "list"], u, [.type "tuple", .type "list"], b, rfl, upd_same, .cons (ClsV.ty _) (.cons (ClsV.ty _) .nil), e1, e2, o φ _ _ x1 (R.tup hp) rfl⟩
/-- .. of an own class -/
theorem s_isiC (C : Ctx P G T c X call callI W k) {a : Ex} {d : Nat} {x tn : Str} {y : Expr} {p p1 pos : Pos} (hx : G.bl c x "isinstance" = true) (st : notStar y = true) (ht : G.cnm.lookup d = some tn) (htn : c.gl tn = true) (ha : SE P T X call callI W a y) :
    SE P T X call callI W (.isi a (.cls d)) (.Call (.Name x p) [y, .Name tn p1] [] pos) := by
  obtain ⟨rfl, g1, g2, g3, g4⟩ := C.blt hx
  obtain ⟨k1, k2, k3⟩ := C.gl htn
  obtain ⟨dl, dm⟩ := C.wd.cnm d tn ht
  obtain ⟨Cd, hC⟩ := Option.isSome_iff_exists.mp dl
  refine peI (pe_callB call_isi g1 g2 (by decide +kernel) (pa_cons ha (pa_cons (pe_glob (v := V.ref (T.cls d)) k1 dm rfl k2) pa_nil (star_of rfl _ _)) (star_of st _ _)) g4 g3 (star_of st _ _) (noneStar _ _ rfl)) fun σ H Q h => ?_
  refine (tR.bind1 (R1 := RV X.K T.toTab) (f := fun _ v h1 => pure h1 ((isiV P.ist h1 (.cls d) v).map Val.bl)) h).mono fun z H1 ⟨v, φ, h1, fr, R, F, q, o⟩ => ?_
  obtain ⟨u, e, o⟩ := o.pure
  obtain ⟨b, hi, rfl⟩ := Option.map_eq_some_iff.mp e
  have go : ∃ d', insV h1 v = some d' ∧ (d', d) ∈ P.ist ∧ b = decide (d' = d) := by
    cases v <;> simp only [isiV, reduceCtorEq] at hi
    · split at hi <;> first | cases hi | skip
      rename_i d' fs he
      split at hi <;> cases hi
      rename_i hm
      exact ⟨d', by simp [insV, he], by simpa using hm, rfl⟩
    · split at hi <;> cases hi
      rename_i hm
      exact ⟨_, rfl, by simpa using hm, rfl⟩
  obtain ⟨d', hv, hm, rfl⟩ := go
  obtain ⟨a', dx, ks, rfl, p1⟩ := R.insV q hv
  obtain ⟨hs, iF, kO⟩ := C.wd.isi d' d hm
  obtain ⟨Cd', hC'⟩ := Option.isSome_iff_exists.mp hs
  exact ⟨_, .ref (T.cls d), .ref (T.cls d'), .ref (T.cls d), _, rfl, ClsV.own _, .base (TyOf.ins p1 (C.wd.cls d' Cd' hC').1 iF.ha iF.hn iF.htk iF.hm), kO, o.ok R rfl⟩
end
end PyI
namespace PyI
open PySem PySem.Spec PyProof.Rows L2
section
variable {P : Pg} {G : Gam} {T : Tab2} {c : SC} {X : Cx} {call callI : Nat → List Val → Mem → Res Ret} {W : WX} {k : Nat}
/-! ### targets -/
def gT (K : PySem.W.Frag) (T : Tab) (tg : Tgt) : TG := fun x σ H Q =>
  ∃ φ h fr v fr', Rel K T φ H h ∧ RFr K T φ H fr σ ∧ RV K T φ H v x ∧ tg.put h v fr = some fr' ∧ ∀ σ', RFr K T φ H fr' σ' → σ'.length = σ.length → (∀ i, i ∉ tg.slots → σ'[i]? = σ[i]?) → Q σ' H
def gTs (K : PySem.W.Frag) (T : Tab) (ts : List Tgt) : TGs := fun xs σ H Q =>
  ∃ φ h fr vs fr', Rel K T φ H h ∧ RFr K T φ H fr σ ∧ RVs K T φ H vs xs ∧ Tgt.puts h ts vs fr = some fr' ∧ ∀ σ', RFr K T φ H fr' σ' → σ'.length = σ.length → (∀ i, i ∉ Tgt.slotss ts → σ'[i]? = σ[i]?) → Q σ' H
theorem set_get {α : Type} {l : List α} {i j : Nat} {s t : α} (e : (l.set i s)[j]? = some t) : (i = j ∧ s = t ∧ i < l.length) ∨ (i ≠ j ∧ l[j]? = some t) := by
  by_cases hj : i = j
  · subst hj
    by_cases hl : i < l.length
    · rw [List.getElem?_set_self hl] at e
      cases e
      exact .inl ⟨rfl, rfl, hl⟩
    · rw [List.getElem?_eq_none (by simpa using hl)] at e; cases e
  · rw [List.getElem?_set_ne hj] at e
    exact .inr ⟨hj, e⟩
theorem RFr.set {K : PySem.W.Frag} {T : Tab} {φ : Ix} {H : L2.Hp} {fr : PyI.Fr} {σ : L2.St} (F : RFr K T φ H fr σ) {v : Val} {x : V} (q : RV K T φ H v x) (i : Nat) : RFr K T φ H (fr.set i (.v v)) (σ.set i (some x)) := by
  refine ⟨by simp [F.len], fun j u e => ?_, fun j u e => ?_, fun j j' u u' a hne e e' s s' => ?_⟩
  · rcases set_get e with ⟨rfl, e1, hl⟩ | ⟨hj, e1⟩
    · cases e1
      exact ⟨x, List.getElem?_set_self (by rw [← F.len]; exact hl), q⟩
    · rw [List.getElem?_set_ne hj]
      exact F.v j u e1
  · rcases set_get e with ⟨rfl, e1, hl⟩ | ⟨hj, e1⟩
    · cases e1
    · rw [List.getElem?_set_ne hj]
      exact F.o j u e1
  · rcases set_get e with ⟨rfl, e1, hl⟩ | ⟨hj, e1⟩
    · cases e1
    rcases set_get e' with ⟨rfl, e2, hl⟩ | ⟨hj', e2⟩
    · cases e2
    rw [List.getElem?_set_ne hj] at s
    rw [List.getElem?_set_ne hj'] at s'
    exact F.d j j' u u' a hne e1 e2 s s'
theorem Ctx.st (C : Ctx P G T c X call callI W k) {i : Nat} {x : Str} {pos : Pos} (h : c.loc i x = true) : PG X (.Name x pos) (gName i) := by
  unfold SC.loc at h
  simp only [Bool.and_eq_true, decide_eq_true_eq, Bool.or_eq_true] at h
  obtain ⟨h1, h2⟩ := h
  refine pg_name (by rw [C.N]; exact C.nd) (by rw [C.N]; exact h1) ?_ ?_
  · unfold L2.Loc; rw [C.sc]; exact h2.imp id (·.2)
  · rcases h2 with h2 | ⟨h2, h3⟩
    · exact .inr (by rw [C.sc]; exact h2)
    · exact .inl (by rw [C.fnt h2])
theorem each_star {x : Expr} (h : notStar x = true) (xs : List Expr) (env : Env) : assignEach (x :: xs) env = (false, assign x env) :: assignEach xs env := by
  cases x <;> first | rfl | cases h
mutual
theorem s_tg (C : Ctx P G T c X call callI W k) : ∀ (tg : Tgt) (x : Expr), mTg c tg x = true → PG X x (gT X.K T.toTab tg)
  | .v i, x, h => by
    cases x <;> simp only [mTg, Bool.false_eq_true] at h
    refine ⟨fun pins s σ H y u Q I r ⟨φ, hh, fr, v, fr', R, F, q, e, fin⟩ => (C.st h).run pins s σ H y u Q I r ?_⟩
    simp only [Tgt.put, Option.some.injEq] at e
    subst e
    exact fin _ (F.set q i) (by simp) fun j hj => List.getElem?_set_ne (by simpa [Tgt.slots, eq_comm] using hj)
  | .t ts, x, h => by
    cases x <;> simp only [mTg, Bool.false_eq_true] at h
    obtain ⟨p1, p2, p3⟩ := s_tgs C ts _ h
    refine ⟨fun pins s σ H y u Q I r ⟨φ, hh, fr, v, fr', R, F, q, e, fin⟩ => ?_⟩
    simp only [Tgt.put] at e
    split at e
    · rename_i xs hs
      obtain ⟨a, ys, rfl, sq, qs⟩ := R.seqA q hs
      have hl : ys.length = ts.length := by rw [qs.length, puts_len ts xs fr e]
      have go : gTs X.K T.toTab ts ys σ H Q := ⟨φ, hh, fr, xs, fr', R, F, qs, e, fun σ' F' l' k' => fin σ' F' l' fun i hi => k' i (by simpa [Tgt.slots] using hi)⟩
      rcases sq with sq | sq
      · exact (pg_lst C.calm p1 p2 p3).run pins s σ H _ u Q I r ⟨a, ys, rfl, sq, hl, go⟩
      · exact (pg_tup C.calm p1 p2 p3).run pins s σ H _ u Q I r ⟨a, ys, rfl, sq, hl, go⟩
    · cases e
theorem s_tgs (C : Ctx P G T c X call callI W k) : ∀ (ts : List Tgt) (xs : List Expr), mTgs c ts xs = true →
    PGs X xs (gTs X.K T.toTab ts) ∧ (assignEach xs X.env).length = ts.length ∧ (assignEach xs X.env).findIdx? (·.1) = none
  | [], [], _ => by
    refine ⟨⟨fun pins s σ H vs us Q I r ⟨φ, hh, fr, ws, fr', R, F, q, e, fin⟩ => ?_⟩, rfl, rfl⟩
    cases ws with
    | nil =>
      simp only [Tgt.puts, Option.some.injEq] at e
      subst e
      rw [show vs = [] from q] at r
      exact pgs_nil.run pins s σ H [] us Q I r ⟨rfl, fin σ F rfl fun _ _ => rfl⟩
    | cons w ws => simp [Tgt.puts] at e
  | [], _ :: _, h => by simp [mTgs] at h
  | _ :: _, [], h => by simp [mTgs] at h
  | t :: ts, x :: xs, h => by
    simp only [mTgs, Bool.and_eq_true] at h
    obtain ⟨ih1, ih2, ih3⟩ := s_tgs C ts xs h.2
    have i1 := s_tg C t x h.1.2
    have es := each_star h.1.1 xs X.env
    refine ⟨⟨fun pins s σ H vs us Q I r ⟨φ, hh, fr, ws, fr', R, F, q, e, fin⟩ => ?_⟩, by rw [es]; simp [ih2], by rw [es, List.findIdx?_cons]; simp [ih3]⟩
    cases ws with
    | nil => simp [Tgt.puts] at e
    | cons w ws =>
      simp only [Tgt.puts] at e
      split at e
      · rename_i fr1 e1
        obtain ⟨y, ys, rfl, q1, q2⟩ := q
        refine (pgs_cons i1 ih1 (by rw [es]; rfl)).run pins s σ H _ us Q I r ⟨y, ys, rfl, φ, hh, fr, w, fr1, R, F, q1, e1, fun σ' F' l' k' => ⟨φ, hh, fr1, ws, fr', R, F', q2, e, fun σ'' F'' l'' k'' => fin σ'' F'' (l''.trans l') fun i hi => ?_⟩⟩
        simp only [Tgt.slotss, List.mem_append, not_or] at hi
        rw [k'' i hi.2, k' i hi.1]
      · cases e
theorem puts_len : ∀ (ts : List Tgt) (xs : List Val) (fr : PyI.Fr) {h : Mem} {fr' : PyI.Fr}, Tgt.puts h ts xs fr = some fr' → xs.length = ts.length
  | [], [], _, _, _, _ => rfl
  | [], _ :: _, _, _, _, e => by simp [Tgt.puts] at e
  | _ :: _, [], _, _, _, e => by simp [Tgt.puts] at e
  | t :: ts, x :: xs, fr, h, fr', e => by
    simp only [Tgt.puts] at e
    split at e
    · simpa using puts_len ts xs _ e
    · cases e
end
/-! ### what is walked -/
def ItOk (K : PySem.W.Frag) (T : Tab) (φ : Ix) (H : L2.Hp) (t : Itr) (J : It) : Prop := ∀ ψ G h i, ExtS φ H ψ G → Rel K T ψ G h →
  (∀ v, t.at i h = some v → J.go i G ∧ ∀ x G', J.yld i G x G' → Ext ψ G ψ G' ∧ Rel K T ψ G' h ∧ RV K T ψ G' v x) ∧ (t.fin i h = true → J.stop i G)
theorem ItOk.monoS {K : PySem.W.Frag} {T : Tab} {φ ψ : Ix} {H G : L2.Hp} {t : Itr} {J : It} (o : ItOk K T φ H t J) (e : ExtS φ H ψ G) : ItOk K T ψ G t J := fun χ F h i e2 R => o χ F h i (e.trans e2) R
abbrev tItr (K : PySem.W.Frag) (T : Tab) (W : WX) (r : PyI.Fr → Mem → Res Itr) : TI := tR K T W (ItOk K T) r
theorem piI {X : Cx} {tg it : Expr} {wi wi' : TI} (p : PI X tg it wi) (i : ∀ σ H R, wi' σ H R → wi σ H R) : PI X tg it wi' := ⟨fun pins s σ H R I h => p.run pins s σ H R I (i _ _ _ h)⟩
theorem piOr {X : Cx} {tg it : Expr} {wi wi' : TI} (p : PI X tg it wi) (q : PI X tg it wi') : PI X tg it (fun σ H R => wi σ H R ∨ wi' σ H R) := ⟨fun pins s σ H R I h => h.elim (p.run pins s σ H R I) (q.run pins s σ H R I)⟩
section
variable {K : PySem.W.Frag} {T : Tab} {φ : Ix} {H : L2.Hp} {h : Mem}
theorem sqL_inj {ψ : Ix} {G : L2.Hp} {h : Mem} {n : Nat} {xs : List Val} {a : Addr} {i : Nat} {v : Val} (R : Rel K T ψ G h) (e : ψ.c[n]? = some a) (hl : lsN h n = some xs) (hv : xs[i]? = some v) : ∃ ys y, SqL K G a ys ∧ ys[i]? = some y ∧ RV K T ψ G v y := by
  obtain ⟨a', ys, e1, e2, q1, q2⟩ := R.lsN (x := .ref a) ⟨a, e, rfl⟩ hl
  cases e1
  obtain ⟨y, ey, ry⟩ := q2.get hv
  exact ⟨ys, y, .of q1, ey, ry⟩
theorem itl_ok {n : Nat} {a : Addr} (e : φ.c[n]? = some a) : ItOk K T φ H (.lst n) (Itl K a) := fun ψ G h i ext R => by
  refine ⟨fun v hv => ?_, fun hf => ?_⟩
  · simp only [Itr.at] at hv
    obtain ⟨xs, hl, hv⟩ := Option.bind_eq_some_iff.mp hv
    obtain ⟨ys, y, q1, ey, ry⟩ := sqL_inj R (ext.get e) hl hv
    refine ⟨⟨ys, y, q1, ey⟩, fun x G' ⟨eg, hx⟩ => ?_⟩
    subst eg
    have := hx ys q1
    rw [ey] at this; cases this
    exact ⟨.refl, R, ry⟩
  · simp only [Itr.fin] at hf
    split at hf
    · rename_i xs hl
      obtain ⟨a', ys, e1, e2, q1, q2⟩ := R.lsN (x := .ref a) ⟨a, ext.get e, rfl⟩ hl
      cases e1
      exact ⟨ys, .of q1, by rw [q2.length]; simpa using hf⟩
    · cases hf
/-- a pair that a turn makes -/
theorem pair_ok {ψ : Ix} {G : L2.Hp} {h : Mem} {u v : Val} {x y : V} {D : Addr} (R : Rel K T ψ G h) (hn : G D = none) (q1 : RV K T ψ G u x) (q2 : RV K T ψ G v y) :
    Ext ψ G ψ (upd G D (.tup [x, y])) ∧ Rel K T ψ (upd G D (.tup [x, y])) h ∧ RV K T ψ (upd G D (.tup [x, y])) (.tup [u, v]) (.ref D) :=
  have e := ext_tup (o := .tup [x, y]) R hn
  ⟨e, R.tup hn, D, _, rfl, upd_same, _, _, rfl, q1.mono e _ _, _, _, rfl, q2.mono e _ _, rfl⟩
theorem ite_ok {n : Nat} {a : Addr} (e : φ.c[n]? = some a) : ItOk K T φ H (.enum n) (Ite K a) := fun ψ G h i ext R => by
  refine ⟨fun v hv => ?_, fun hf => ?_⟩
  · simp only [Itr.at] at hv
    obtain ⟨u, hv, ev⟩ := Option.map_eq_some_iff.mp hv
    obtain ⟨xs, hl, hv⟩ := Option.bind_eq_some_iff.mp hv
    obtain ⟨ys, y, q1, ey, ry⟩ := sqL_inj R (ext.get e) hl hv
    refine ⟨⟨ys, y, q1, ey⟩, fun x G' ⟨T1, y1, ex, hn, eg, hx⟩ => ?_⟩
    subst eg ex ev
    have := hx ys q1
    rw [ey] at this; cases this
    exact pair_ok R hn rfl ry
  · simp only [Itr.fin] at hf
    split at hf
    · rename_i xs hl
      obtain ⟨a', ys, e1, e2, q1, q2⟩ := R.lsN (x := .ref a) ⟨a, ext.get e, rfl⟩ hl
      cases e1
      exact ⟨ys, .of q1, by rw [q2.length]; simpa using hf⟩
    · cases hf
theorem itv_ok {n m : Nat} {a : Addr} (e : φ.c[n]? = some a) : ItOk K T φ H (.rev n m) (Itv K a m) := fun ψ G h i ext R => by
  refine ⟨fun v hv => ?_, fun hf => (show m ≤ i by simpa [Itr.fin] using hf)⟩
  simp only [Itr.at] at hv
  split at hv
  · rename_i hi
    obtain ⟨xs, hl, hv⟩ := Option.bind_eq_some_iff.mp hv
    obtain ⟨ys, y, q1, ey, ry⟩ := sqL_inj R (ext.get e) hl hv
    refine ⟨⟨hi, ys, y, q1, ey⟩, fun x G' ⟨eg, hx⟩ => ?_⟩
    subst eg
    have := hx ys q1
    rw [ey] at this; cases this
    exact ⟨.refl, R, ry⟩
  · cases hv
/-- what stays as it is -/
def StT (K : PySem.W.Frag) (T : Tab) (φ : Ix) (H : L2.Hp) (a : Addr) (xs : List Val) : Prop := ∃ ys, ∀ ψ G, ExtS φ H ψ G → SqT K G a ys ∧ RVs K T ψ G xs ys
def StL (K : PySem.W.Frag) (T : Tab) (φ : Ix) (H : L2.Hp) (a : Addr) (xs : List Val) : Prop := ∃ ys, ∀ ψ G, ExtS φ H ψ G → SqL K G a ys ∧ RVs K T ψ G xs ys
theorem itt_ok {xs : List Val} {a : Addr} (hs : StT K T φ H a xs) : ItOk K T φ H (.sn xs) (Itt K a) := fun ψ G h i ext R => by
  obtain ⟨ys, hs⟩ := hs
  obtain ⟨q1, q2⟩ := hs ψ G ext
  refine ⟨fun v hv => ?_, fun hf => ⟨ys, q1, by rw [q2.length]; simpa [Itr.fin] using hf⟩⟩
  obtain ⟨y, ey, ry⟩ := q2.get (show xs[i]? = some v from hv)
  refine ⟨⟨ys, y, q1, ey⟩, fun x G' ⟨eg, hx⟩ => ?_⟩
  subst eg
  have := hx ys q1
  rw [ey] at this; cases this
  exact ⟨.refl, R, ry⟩
theorem itkl_ok {xs : List Val} {a : Addr} (hs : StL K T φ H a xs) : ItOk K T φ H (.sn xs) (Itl K a) := fun ψ G h i ext R => by
  obtain ⟨ys, hs⟩ := hs
  obtain ⟨q1, q2⟩ := hs ψ G ext
  refine ⟨fun v hv => ?_, fun hf => ⟨ys, q1, by rw [q2.length]; simpa [Itr.fin] using hf⟩⟩
  obtain ⟨y, ey, ry⟩ := q2.get (show xs[i]? = some v from hv)
  refine ⟨⟨ys, y, q1, ey⟩, fun x G' ⟨eg, hx⟩ => ?_⟩
  subst eg
  have := hx ys q1
  rw [ey] at this; cases this
  exact ⟨.refl, R, ry⟩
theorem itke_ok {xs : List Val} {a : Addr} (hs : StL K T φ H a xs) : ItOk K T φ H (.sn (enumL xs)) (Ite K a) := fun ψ G h i ext R => by
  obtain ⟨ys, hs⟩ := hs
  obtain ⟨q1, q2⟩ := hs ψ G ext
  have hl : (enumL xs).length = xs.length := by simp [enumL]
  refine ⟨fun v hv => ?_, fun hf => ⟨ys, q1, by rw [q2.length]; simpa [Itr.fin, hl] using hf⟩⟩
  have hv : (enumL xs)[i]? = some v := hv
  have hi : i < xs.length := by have := (List.getElem?_eq_some_iff.mp hv).1; omega
  unfold enumL at hv
  rw [List.getElem?_zipWith, List.getElem?_range hi, List.getElem?_eq_getElem hi] at hv
  cases hv
  obtain ⟨y, ey, ry⟩ := q2.get (List.getElem?_eq_getElem hi)
  refine ⟨⟨ys, y, q1, ey⟩, fun x G' ⟨T1, y1, ex, hn, eg, hx⟩ => ?_⟩
  subst eg ex
  have := hx ys q1
  rw [ey] at this; cases this
  exact pair_ok R hn rfl ry
theorem itkv_ok {xs : List Val} {a : Addr} (hs : StL K T φ H a xs) : ItOk K T φ H (.sn xs.reverse) (Itv K a xs.length) := fun ψ G h i ext R => by
  obtain ⟨ys, hs⟩ := hs
  obtain ⟨q1, q2⟩ := hs ψ G ext
  refine ⟨fun v hv => ?_, fun hf => (show xs.length ≤ i by simpa [Itr.fin] using hf)⟩
  have hv : xs.reverse[i]? = some v := hv
  have hi : i < xs.length := by simpa using (List.getElem?_eq_some_iff.mp hv).1
  rw [List.getElem?_reverse hi] at hv
  obtain ⟨y, ey, ry⟩ := q2.get hv
  refine ⟨⟨hi, ys, y, q1, ey⟩, fun x G' ⟨eg, hx⟩ => ?_⟩
  subst eg
  have := hx ys q1
  rw [ey] at this; cases this
  exact ⟨.refl, R, ry⟩
def zipL (xs ys : List Val) : List Val := xs.zipWith (fun x y => .tup [x, y]) ys
theorem zipL_get {xs ys : List Val} {i : Nat} {v : Val} (e : (zipL xs ys)[i]? = some v) : ∃ x y, xs[i]? = some x ∧ ys[i]? = some y ∧ v = .tup [x, y] := by
  unfold zipL at e
  rw [List.getElem?_zipWith] at e
  split at e
  · rename_i x y e1 e2
    cases e
    exact ⟨x, y, e1, e2, rfl⟩
  · cases e
theorem zipL_fin {xs ys : List Val} {i : Nat} (e : (zipL xs ys).length ≤ i) : xs.length ≤ i ∨ ys.length ≤ i := by
  simp [zipL] at e; omega
theorem itz_ok {xs ys : List Val} {a b : Addr} (hs : StL K T φ H a xs) (ht : StL K T φ H b ys) : ItOk K T φ H (.sn (zipL xs ys)) (Itz K a b) := fun ψ G h i ext R => by
  obtain ⟨us, hs⟩ := hs
  obtain ⟨q1, q2⟩ := hs ψ G ext
  obtain ⟨ws, ht⟩ := ht
  obtain ⟨r1, r2⟩ := ht ψ G ext
  refine ⟨fun v hv => ?_, fun hf => ⟨us, ws, q1, r1, by rw [q2.length, r2.length]; exact zipL_fin (by simpa [Itr.fin] using hf)⟩⟩
  obtain ⟨x, y, e1, e2, rfl⟩ := zipL_get (show (zipL xs ys)[i]? = some v from hv)
  obtain ⟨x', ex, rx⟩ := q2.get e1
  obtain ⟨y', ey, ry⟩ := r2.get e2
  refine ⟨⟨us, ws, x', y', q1, r1, ex, ey⟩, fun z G' ⟨D, x1, y1, ez, hn, eg, hx, hy⟩ => ?_⟩
  subst ez eg
  have := hx us q1; rw [ex] at this; cases this
  have := hy ws r1; rw [ey] at this; cases this
  exact pair_ok R hn rx ry
theorem itzt_ok {xs ys : List Val} {a b : Addr} (hs : StT K T φ H a xs) (ht : StT K T φ H b ys) : ItOk K T φ H (.sn (zipL xs ys)) (RZ.ItzT K a b) := fun ψ G h i ext R => by
  obtain ⟨us, hs⟩ := hs
  obtain ⟨q1, q2⟩ := hs ψ G ext
  obtain ⟨ws, ht⟩ := ht
  obtain ⟨r1, r2⟩ := ht ψ G ext
  refine ⟨fun v hv => ?_, fun hf => ⟨us, ws, q1, r1, by rw [q2.length, r2.length]; exact zipL_fin (by simpa [Itr.fin] using hf)⟩⟩
  obtain ⟨x, y, e1, e2, rfl⟩ := zipL_get (show (zipL xs ys)[i]? = some v from hv)
  obtain ⟨x', ex, rx⟩ := q2.get e1
  obtain ⟨y', ey, ry⟩ := r2.get e2
  refine ⟨⟨us, ws, x', y', q1, r1, ex, ey⟩, fun z G' ⟨D, x1, y1, ez, hn, eg, hx, hy⟩ => ?_⟩
  subst ez eg
  have := hx us q1; rw [ex] at this; cases this
  have := hy ws r1; rw [ey] at this; cases this
  exact pair_ok R hn rx ry
theorem itr_ok (lo : Int) (n : Nat) : ItOk K T φ H (.sn (rngL lo n)) (L2.Itr lo n) := fun ψ G h i ext R => by
  have hl : (rngL lo n).length = n := by simp [rngL]
  refine ⟨fun v hv => ?_, fun hf => (show n ≤ i by simpa [PyI.Itr.fin, hl] using hf)⟩
  have hv : (rngL lo n)[i]? = some v := hv
  have hi : i < n := by have := (List.getElem?_eq_some_iff.mp hv).1; omega
  refine ⟨hi, fun x G' ⟨eg, hx⟩ => ?_⟩
  subst eg hx
  refine ⟨.refl, R, ?_⟩
  unfold rngL at hv
  rw [List.getElem?_map, List.getElem?_range hi] at hv
  cases hv
  rfl
theorem its_ok (s : Txt) : ItOk K T φ H (.sn (s.map fun c => .str [c])) (Its (toStr s)) := fun ψ G h i ext R => by
  refine ⟨fun v hv => ?_, fun hf => (show (toStr s).cps.size ≤ i by simpa [PyI.Itr.fin, toStr] using hf)⟩
  have hv : (s.map fun c => Val.str [c])[i]? = some v := hv
  rw [List.getElem?_map] at hv
  obtain ⟨c, hc, rfl⟩ := Option.map_eq_some_iff.mp hv
  have hi : i < s.length := (List.getElem?_eq_some_iff.mp hc).1
  refine ⟨by simpa [Its, toStr] using hi, fun x G' ⟨eg, d, hd, ex⟩ => ?_⟩
  subst eg ex
  refine ⟨.refl, R, ?_⟩
  have : (toStr s).cps[i]? = some c.toNat := by simp [toStr, hc]
  rw [this] at hd; cases hd
  rfl
end
theorem stT_of {K : PySem.W.Frag} {T : Tab} {φ : Ix} {H : L2.Hp} {v : Val} {xs : List Val} {y : V} (e : v = .tup xs ∨ v = .ktp xs) (q : RV K T φ H v y) : ∃ a ys, y = .ref a ∧ SqT K H a ys ∧ StT K T φ H a xs := by
  rcases e with rfl | rfl
  · obtain ⟨a, ys, rfl, p1, p2⟩ := q
    exact ⟨a, ys, rfl, .of p1, ys, fun ψ G e => ⟨.of (e.tup _ _ p1), p2.monoV e.ve _ _⟩⟩
  · obtain ⟨a, ys, rfl, p1, p2⟩ := q
    exact ⟨a, ys, rfl, p1.sq, ys, fun ψ G e => ⟨p1.sq, p2.monoV e.ve _ _⟩⟩
theorem stL_of {K : PySem.W.Frag} {T : Tab} {φ : Ix} {H : L2.Hp} {xs : List Val} {y : V} (q : RV K T φ H (.lst xs) y) : ∃ a ys, y = .ref a ∧ SqL K H a ys ∧ ys.length = xs.length ∧ StL K T φ H a xs := by
  obtain ⟨a, ys, rfl, p1, p2⟩ := q
  exact ⟨a, ys, rfl, p1.sq, p2.length, ys, fun ψ G e => ⟨PL.sq (φ := ψ) ⟨e.eL _ p1.1, (e.keL _ p1.1).1.trans p1.2⟩, p2.monoV e.ve _ _⟩⟩
theorem stK_of {K : PySem.W.Frag} {T : Tab} {φ : Ix} {H : L2.Hp} {xs : List Val} {y : V} (q : RV K T φ H (.kls xs) y) : ∃ a ys, y = .ref a ∧ SqL K H a ys ∧ ys.length = xs.length ∧ StL K T φ H a xs := by
  obtain ⟨a, ys, rfl, p1, p2⟩ := q
  exact ⟨a, ys, rfl, p1.sq, p2.length, ys, fun ψ G e => ⟨KL.sq (φ := ψ) (p1.imp (fun p1 => ⟨e.eL _ p1.1, (e.keL _ p1.1).1.trans p1.2⟩) id), p2.monoV e.ve _ _⟩⟩
abbrev SI (P : Pg) (T : Tab2) (X : Cx) (call callI : Nat → List Val → Mem → Res Ret) (W : WX) (it : Itx) (t x : Expr) : Prop := PI X t x (tItr X.K T.toTab W (evi P call callI it))
theorem i_val (C : Ctx P G T c X call callI W k) {e : Ex} {t x : Expr} (ha : SE P T X call callI W e x) : SI P T X call callI W (.val e) t x := by
  refine piI (piOr (pi_list ha) (piOr (pi_tup ha) (pi_str ha))) fun σ H R' ⟨φ, h, fr, R, F, o⟩ => ?_
  by_cases h1 : ∃ v h1 xs, ev P call callI e fr h = .ok v h1 ∧ (v = .tup xs ∨ v = .ktp xs)
  · obtain ⟨v, h1, xs, e1, e2⟩ := h1
    refine .inr (.inl ⟨φ, h, fr, R, F, o.bindE.mono fun y H1 ⟨v', ψ, h2, e3, x1, R1, q1, o1⟩ => ?_⟩)
    rw [e1] at e3; cases e3
    obtain ⟨a, ys, rfl, q2, ok⟩ := stT_of e2 q1
    refine ⟨a, rfl, ⟨ys, q2⟩, ?_⟩
    rcases e2 with rfl | rfl <;> exact o1.ok R1 (itt_ok ok)
  · by_cases h2 : ∃ s h1, ev P call callI e fr h = .ok (.str s) h1
    · obtain ⟨s, h1, e1⟩ := h2
      refine .inr (.inr ⟨φ, h, fr, R, F, o.bindE.mono fun y H1 ⟨v', ψ, h2, e3, x1, R1, q1, o1⟩ => ?_⟩)
      rw [e1] at e3; cases e3
      exact ⟨toStr s, q1, okR.ok (v := PyI.Itr.sn (s.map fun c => .str [c])) o1 R1 (its_ok s)⟩
    · refine .inl ⟨φ, h, fr, R, F, o.bindE.mono fun y H1 ⟨v, ψ, h3, e3, x1, R1, q1, o1⟩ => ?_⟩
      cases v <;> simp only [] at o1 <;> try exact False.elim o1
      · exact absurd ⟨_, _, e3⟩ h2
      · exact absurd ⟨_, _, _, e3, .inl rfl⟩ h1
      · rename_i n
        split at o1
        · rename_i he
          obtain ⟨a, ws, rfl, e4, p1, p2⟩ := R1.lst q1 he
          exact ⟨a, rfl, ⟨ws, .of p1⟩, o1.ok R1 (itl_ok e4)⟩
        · exact False.elim o1
      · obtain ⟨a, ws, rfl, p1, _, st⟩ := stL_of q1
        exact ⟨a, rfl, ⟨ws, p1⟩, o1.ok R1 (itkl_ok st)⟩
      · exact absurd ⟨_, _, _, e3, .inr rfl⟩ h1
      · obtain ⟨a, ws, rfl, p1, _, st⟩ := stK_of q1
        exact ⟨a, rfl, ⟨ws, p1⟩, o1.ok R1 (itkl_ok st)⟩
theorem i_rng1 (C : Ctx P G T c X call callI W k) {e : Ex} {t y : Expr} {r : Str} {p pos : Pos} (hr : G.bl c r "range" = true) (st : notStar y = true) (ha : SE P T X call callI W e y) : SI P T X call callI W (.rng1 e) t (.Call (.Name r p) [y] [] pos) := by
  obtain ⟨rfl, k1, k2, k3, k4⟩ := C.blt hr
  refine piI (pi_range1 k1 k2 (pa_cons ha pa_nil (star_of st _ _)) (star_of st _ _)) fun σ H R' ⟨φ, h, fr, R, F, o⟩ => ?_
  refine ⟨φ, h, fr, R, F, o.bind.mono fun y H1 ⟨v, ψ, h2, x1, R1, q1, o1⟩ => ?_⟩
  cases v <;> simp only [] at o1 <;> try exact False.elim o1
  rename_i n
  split at o1
  · rename_i hb
    simp only [big_eq, Bool.and_eq_true, decide_eq_true_eq] at hb
    exact ⟨n, by rw [show y = _ from q1], hb.1, hb.2, o1.ok R1 (itr_ok 0 _)⟩
  · exact False.elim o1
theorem i_rng2 (C : Ctx P G T c X call callI W k) {a b : Ex} {t y z : Expr} {r : Str} {p pos : Pos} (hr : G.bl c r "range" = true) (st : notStar y = true) (st2 : notStar z = true) (ha : SE P T X call callI W a y) (hb : SE P T X call callI W b z) : SI P T X call callI W (.rng2 a b) t (.Call (.Name r p) [y, z] [] pos) := by
  obtain ⟨rfl, k1, k2, k3, k4⟩ := C.blt hr
  refine piI (pi_range2 k1 k2 (pa_cons ha (pa_cons hb pa_nil (star_of st2 _ _)) (star_of st _ _)) (by rw [star_of st, star_of st2]; rfl) (star_of st2 _ _)) fun σ H R' ⟨φ, h, fr, R, F, o⟩ => ?_
  refine ⟨φ, h, fr, R, F, o.bind.mono fun y H1 hh => ?_⟩
  obtain ⟨v, ψ, h2, x1, R1, q1, o1⟩ := hh
  refine ⟨ψ, h2, fr, R1, F.mono x1, o1.bind.mono fun z H2 hh => ?_⟩
  obtain ⟨u, χ, h3, x2, R2, q2, o2⟩ := hh
  clear o o1
  cases v <;> cases u <;> simp only [] at o2 <;> try exact False.elim o2
  rename_i i j
  split at o2
  · rename_i hb
    simp only [big_eq, Bool.and_eq_true, decide_eq_true_eq] at hb
    exact ⟨i, j, by rw [show y = _ from q1, show z = _ from q2], by omega, o2.ok R2 (itr_ok i _)⟩
  · exact False.elim o2
theorem its3_ok {K : PySem.W.Frag} {T : Tab} {φ : Ix} {H : L2.Hp} (lo st : Int) (n : Nat) : ItOk K T φ H (.sn (rngS lo st n)) (L2.Itc lo st n) := fun ψ G h i ext R => by
  have hl : (rngS lo st n).length = n := by simp [rngS]
  refine ⟨fun v hv => ?_, fun hf => (show n ≤ i by simpa [PyI.Itr.fin, hl] using hf)⟩
  have hv : (rngS lo st n)[i]? = some v := hv
  have hi : i < n := by have := (List.getElem?_eq_some_iff.mp hv).1; omega
  refine ⟨hi, fun x G' ⟨eg, hx⟩ => ?_⟩
  subst eg hx
  refine ⟨.refl, R, ?_⟩
  unfold rngS at hv
  rw [List.getElem?_map, List.getElem?_range hi] at hv
  cases hv
  rfl
theorem rgC_of {i j l : Int} (h1 : -(2 ^ 62) ≤ i) (h2 : i < 2 ^ 62) (h3 : -(2 ^ 62) ≤ j) (h4 : j < 2 ^ 62) (h0 : 0 < l) (hk : l < 1000000) : RgC i j l ((j - i + l - 1) / l).toNat := by
  have sz : PySem.Builtin.Range.rangeSize i j l = (((j - i + l - 1) / l).toNat : Int) := by
    unfold PySem.Builtin.Range.rangeSize
    rw [if_pos h0]
    split
    · rename_i hij
      have e : (j - i + l - 1) / l = (j - i - 1) / l + 1 := by
        rw [show j - i + l - 1 = (j - i - 1) + 1 * l by omega, Int.add_mul_ediv_right _ _ (by omega)]
      have : 0 ≤ (j - i - 1) / l := Int.ediv_nonneg (by omega) (by omega)
      rw [e]; omega
    · have : (j - i + l - 1) / l ≤ 0 := by
        have := Int.ediv_le_ediv h0 (show j - i + l - 1 ≤ l - 1 by omega)
        rw [Int.ediv_eq_zero_of_lt (show 0 ≤ l - 1 by omega) (by omega)] at this
        exact this
      omega
  refine ⟨by omega, by omega, ?_, sz⟩
  have bd : ∀ n, n = (((j - i + l - 1) / l).toNat : Int) → 0 ≤ n ∧ n ≤ 2 ^ 63 - 1 ∧ (i < j → n * l ≤ j - i + l - 1) := fun n e => by
    subst e
    have d1 := Int.mul_ediv_self_le (x := j - i + l - 1) (k := l) (by omega)
    refine ⟨by omega, ?_, fun hij => ?_⟩
    · by_cases hij : i < j
      · have e : (j - i + l - 1) / l = (j - i - 1) / l + 1 := by
          rw [show j - i + l - 1 = (j - i - 1) + 1 * l by omega, Int.add_mul_ediv_right _ _ (by omega)]
        have := Int.ediv_le_self (a := j - i - 1) l (by omega)
        rw [e]; omega
      · have := Int.ediv_le_ediv h0 (show j - i + l - 1 ≤ l - 1 by omega)
        rw [Int.ediv_eq_zero_of_lt (show 0 ≤ l - 1 by omega) (by omega)] at this
        omega
    · have : 0 ≤ (j - i + l - 1) / l := Int.ediv_nonneg (by omega) (by omega)
      rw [Int.toNat_of_nonneg this, Int.mul_comm]; exact d1
  obtain ⟨b1, b2, b3⟩ := bd _ sz
  unfold PySem.Builtin.Range.small
  simp only [PySem.Builtin.Range.rangeFitsLong, Bool.and_eq_true, Bool.or_eq_true, decide_eq_true_eq, beq_iff_eq, gt_iff_lt, h0, if_true]
  omega
theorem i_rng3 (C : Ctx P G T c X call callI W k) {a b d : Ex} {t y z w : Expr} {r : Str} {p pos : Pos} (hr : G.bl c r "range" = true) (st : notStar y = true) (st2 : notStar z = true) (st3 : notStar w = true) (ha : SE P T X call callI W a y) (hb : SE P T X call callI W b z) (hd : SE P T X call callI W d w) : SI P T X call callI W (.rng3 a b d) t (.Call (.Name r p) [y, z, w] [] pos) := by
  obtain ⟨rfl, k1, k2, k3, k4⟩ := C.blt hr
  refine piI (pi_range3 k1 k2 (pa_cons ha (pa_cons hb (pa_cons hd pa_nil (star_of st3 _ _)) (star_of st2 _ _)) (star_of st _ _)) (by rw [star_of st]) (noneStar _ _ (by simp [st2, st3]))) fun σ H R' ⟨φ, h, fr, R, F, o⟩ => ?_
  refine ⟨φ, h, fr, R, F, o.bind.mono fun y H1 hh => ?_⟩
  obtain ⟨v, ψ, h2, x1, R1, q1, o1⟩ := hh
  refine ⟨ψ, h2, fr, R1, F.mono x1, o1.bind.mono fun z H2 hh => ?_⟩
  obtain ⟨u, χ, h3, x2, R2, q2, o2⟩ := hh
  refine ⟨χ, h3, fr, R2, (F.mono x1).mono x2, o2.bind.mono fun z' H3 hh => ?_⟩
  obtain ⟨u3, ω, h4, x3, R3, q3, o3⟩ := hh
  clear o o1 o2
  cases v <;> cases u <;> cases u3 <;> simp only [] at o3 <;> try exact False.elim o3
  rename_i i j l
  split at o3
  · rename_i hb
    simp only [big_eq, Bool.and_eq_true, decide_eq_true_eq] at hb
    obtain ⟨⟨⟨hi, hj⟩, h0⟩, hk⟩ := hb
    refine ⟨i, j, l, _, by rw [show y = _ from q1, show z = _ from q2, show z' = _ from q3], rgC_of hi.1 hi.2 hj.1 hj.2 h0 hk, o3.ok R3 (its3_ok i l _)⟩
  · exact False.elim o3
theorem i_enum (C : Ctx P G T c X call callI W k) {e : Ex} {t y : Expr} {r : Str} {p pos : Pos} (ht : isTup t = true) (hr : G.bl c r "enumerate" = true) (st : notStar y = true) (ha : SE P T X call callI W e y) : SI P T X call callI W (.enum e) t (.Call (.Name r p) [y] [] pos) := by
  obtain ⟨rfl, k1, k2, k3, k4⟩ := C.blt hr
  cases t <;> simp only [isTup, Bool.false_eq_true] at ht
  refine piI (pi_enum k1 k2 (pa_cons ha pa_nil (star_of st _ _)) (star_of st _ _)) fun σ H R' ⟨φ, h, fr, R, F, o⟩ => ?_
  refine ⟨φ, h, fr, R, F, o.bind.mono fun y H1 ⟨v, ψ, h2, x1, R1, q1, o1⟩ => ?_⟩
  cases v <;> simp only [] at o1 <;> try exact False.elim o1
  · rename_i n
    split at o1
    · rename_i he
      obtain ⟨a, ws, rfl, e4, p1, p2⟩ := R1.lst q1 he
      exact ⟨a, ws, rfl, .of p1, o1.ok R1 (ite_ok e4)⟩
    · exact False.elim o1
  · obtain ⟨a, ws, rfl, p1, _, st⟩ := stL_of q1
    exact ⟨a, ws, rfl, p1, o1.ok R1 (itke_ok st)⟩
  · obtain ⟨a, ws, rfl, p1, _, st⟩ := stK_of q1
    exact ⟨a, ws, rfl, p1, o1.ok R1 (itke_ok st)⟩
theorem i_rev (C : Ctx P G T c X call callI W k) {e : Ex} {t y : Expr} {r : Str} {p pos : Pos} (hr : G.bl c r "reversed" = true) (st : notStar y = true) (ha : SE P T X call callI W e y) : SI P T X call callI W (.rev e) t (.Call (.Name r p) [y] [] pos) := by
  obtain ⟨rfl, k1, k2, k3, k4⟩ := C.blt hr
  refine piI (pi_reversed k1 k2 (pa_cons ha pa_nil (star_of st _ _)) (star_of st _ _)) fun σ H R' ⟨φ, h, fr, R, F, o⟩ => ?_
  refine ⟨φ, h, fr, R, F, o.bind.mono fun y H1 ⟨v, ψ, h2, x1, R1, q1, o1⟩ => ?_⟩
  cases v <;> simp only [] at o1 <;> try exact False.elim o1
  · rename_i n
    split at o1
    · rename_i ys hl
      obtain ⟨a, ws, rfl, e4, p1, p2⟩ := R1.lsN q1 hl
      refine ⟨a, ws, rfl, .of p1, ?_⟩
      rw [p2.length]
      exact o1.ok R1 (itv_ok e4)
    · exact False.elim o1
  · obtain ⟨a, ws, rfl, p1, hl, st⟩ := stL_of q1
    refine ⟨a, ws, rfl, p1, ?_⟩
    rw [hl]
    exact o1.ok R1 (itkv_ok st)
theorem i_zip (C : Ctx P G T c X call callI W k) {a b : Ex} {t y z : Expr} {r : Str} {p pos : Pos} (ht : isTup t = true) (hr : G.bl c r "zip" = true) (st : notStar y = true) (st2 : notStar z = true) (ha : SE P T X call callI W a y) (hb : SE P T X call callI W b z) : SI P T X call callI W (.zip a b) t (.Call (.Name r p) [y, z] [] pos) := by
  obtain ⟨rfl, k1, k2, k3, k4⟩ := C.blt hr
  cases t <;> simp only [isTup, Bool.false_eq_true] at ht
  refine piI (RZ.pi_zipA k1 k2 (pa_cons ha (pa_cons hb pa_nil (star_of st2 _ _)) (star_of st _ _)) (by rw [star_of st, star_of st2]) (noneStar _ _ (by simp [st2]))) fun σ H R' ⟨φ, h, fr, R, F, o⟩ => ?_
  refine ⟨φ, h, fr, R, F, o.bind.mono fun y H1 hh => ?_⟩
  obtain ⟨v, ψ, h2, x1, R1, q1, o1⟩ := hh
  refine ⟨ψ, h2, fr, R1, F.mono x1, o1.bind.mono fun z H2 hh => ?_⟩
  obtain ⟨u, χ, h3, x2, R2, q2, o2⟩ := hh
  clear o o1
  have q1 := q1.mono x2 _ _
  cases v <;> cases u <;> simp only [] at o2 <;> try exact False.elim o2
  · obtain ⟨a, us, rfl, s1, t1⟩ := stT_of (.inl rfl) q1
    obtain ⟨b, ws, rfl, s2, t2⟩ := stT_of (.inl rfl) q2
    exact ⟨a, b, us, ws, rfl, .inr ⟨s1, s2, o2.ok R2 (itzt_ok t1 t2)⟩⟩
  · obtain ⟨a, us, rfl, s1, _, t1⟩ := stL_of q1
    obtain ⟨b, ws, rfl, s2, _, t2⟩ := stL_of q2
    exact ⟨a, b, us, ws, rfl, .inl ⟨s1, s2, o2.ok R2 (itz_ok t1 t2)⟩⟩
  · obtain ⟨a, us, rfl, s1, t1⟩ := stT_of (.inr rfl) q1
    obtain ⟨b, ws, rfl, s2, t2⟩ := stT_of (.inl rfl) q2
    exact ⟨a, b, us, ws, rfl, .inr ⟨s1, s2, o2.ok R2 (itzt_ok t1 t2)⟩⟩
end
end PyI
namespace PyI
open PySem PySem.Spec PyProof.Rows L2
section
variable {P : Pg} {G : Gam} {T : Tab2} {c : SC} {X : Cx} {call callI : Nat → List Val → Mem → Res Ret} {W : WX} {k : Nat}
abbrev ST (P : Pg) (T : Tab2) (X : Cx) (call callI : Nat → List Val → Mem → Res Ret) (W : WX) (e : Te) (x : Expr) : Prop := PT X x (tBl X.K T.toTab W (evt P call callI e))
/-- a truth value is asked for its truth -/
theorem boolV {a : Ex} {σ : L2.St} {H : L2.Hp} {Q : Bool → L2.Hp → Prop} (bl : ∀ fr h v h1, ev P call callI a fr h = .ok v h1 → ∃ b, v = .bl b) (o : tBl X.K T.toTab W (evt P call callI (.e a)) σ H Q) :
    tV X.K T.toTab W (ev P call callI a) σ H (fun x H' => ∃ k, x = .bl k ∧ Q k H') := by
  obtain ⟨φ, h, fr, R, F, o⟩ := o
  refine ⟨φ, h, fr, R, F, ?_⟩
  simp only [evt] at o
  cases hv : ev P call callI a fr h with
  | bad => rw [hv] at o; exact o
  | exc cc hc => rw [hv] at o; exact o
  | ok v h1 =>
    rw [hv] at o
    obtain ⟨b, rfl⟩ := bl _ _ _ _ hv
    intro ψ G x e R1 q
    exact ⟨b, q, o ψ G b e R1 rfl⟩
theorem bind_inv {α β : Type} {r : Res α} {f : α → Mem → Res β} {v : β} {h : Mem} (e : r.bind f = .ok v h) : ∃ a h1, r = .ok a h1 ∧ f a h1 = .ok v h := by
  cases r with
  | ok a h1 => exact ⟨a, h1, rfl, e⟩
  | exc c h => cases e
  | bad => cases e
theorem pure_inv {α : Type} {p : Option α} {v : α} {h h1 : Mem} (e : pure h p = .ok v h1) : p = some v ∧ h1 = h := by
  cases p with
  | none => cases e
  | some a => cases e; exact ⟨rfl, rfl⟩
theorem bl_cmp {o : Cop} {a b : Ex} : ∀ fr h v h1, ev P call callI (.cmp o a b) fr h = .ok v h1 → ∃ b, v = .bl b := fun fr h v h1 e => by
  simp only [ev] at e
  obtain ⟨_, _, _, e⟩ := bind_inv e
  obtain ⟨_, _, _, e⟩ := bind_inv e
  obtain ⟨t, _, _, e⟩ := bind_inv e
  cases e; exact ⟨t, rfl⟩
theorem bl_chn {o p : Cop} {a b d : Ex} : ∀ fr h v h1, ev P call callI (.chn o p a b d) fr h = .ok v h1 → ∃ b, v = .bl b := fun fr h v h1 e => by
  simp only [ev] at e
  obtain ⟨_, _, _, e⟩ := bind_inv e
  obtain ⟨_, _, _, e⟩ := bind_inv e
  obtain ⟨t, _, _, e⟩ := bind_inv e
  split at e
  · obtain ⟨_, _, _, e⟩ := bind_inv e
    obtain ⟨t, _, _, e⟩ := bind_inv e
    cases e; exact ⟨t, rfl⟩
  · cases e; exact ⟨false, rfl⟩
theorem t_cmp (C : Ctx P G T c X call callI W k) {o : Cop} {a b : Ex} {l r : Expr} {pos : Pos} (hs : notSet r = true) (ha : SE P T X call callI W a l) (hb : SE P T X call callI W b r) :
    ST P T X call callI W (.e (.cmp o a b)) (.Compare l [copOf o] [r] pos) :=
  ptI (pt_cmpR (cmp_ok (T := T.toTab) C.un C.tw o) ha hb (behind_of hs _)) fun σ H Q h => r_cmp (boolV bl_cmp h)
theorem t_chn (C : Ctx P G T c X call callI W k) {o p : Cop} {a b d : Ex} {l r s : Expr} {pos : Pos} (hs : notSet s = true) (ha : SE P T X call callI W a l) (hb : SE P T X call callI W b r) (hd : SE P T X call callI W d s) :
    ST P T X call callI W (.e (.chn o p a b d)) (.Compare l [copOf o, copOf p] [r, s] pos) :=
  ptI (pt_chain (cmp_ok (T := T.toTab) C.un C.tw o) (cmp_ok (T := T.toTab) C.un C.tw p) ha hb hd (behind_of hs _)) fun σ H Q h => r_chn (boolV bl_chn h)
theorem t_isN (C : Ctx P G T c X call callI W k) {n : Bool} {a : Ex} {l : Expr} {j : Nat} {p1 pos : Pos} (ha : SE P T X call callI W a l) :
    ST P T X call callI W (.e (.isN n a)) (.Compare l [if n then .IsNot else .Is] [.Constant .none j p1] pos) := by
  cases n with
  | true =>
    refine ptI (pt_cmp (pc_notN ha)) fun σ H Q h => ?_
    refine (tR.bind1 (R1 := RV X.K T.toTab) (f := fun _ (v : Val) h1 => (Res.ok (Val.bl (match v with | .non => !true | _ => true)) h1 : Res Val)) (boolV (a := .isN true a) (fun fr h v h1 e => by simp only [ev] at e; obtain ⟨_, _, _, e⟩ := bind_inv e; cases e; exact ⟨_, rfl⟩) h)).mono fun x H1 ⟨v, φ, h1, fr, R, F, q, o⟩ => ?_
    have := o.ok R rfl
    show ∃ k, V.bl (!decide (x = V.non)) = .bl k ∧ Q k H1
    rw [nonV q]
    cases v <;> exact this
  | false =>
    refine ptI (pt_cmp (pc_isN ha)) fun σ H Q h => ?_
    refine (tR.bind1 (R1 := RV X.K T.toTab) (f := fun _ (v : Val) h1 => (Res.ok (Val.bl (match v with | .non => !false | _ => false)) h1 : Res Val)) (boolV (a := .isN false a) (fun fr h v h1 e => by simp only [ev] at e; obtain ⟨_, _, _, e⟩ := bind_inv e; cases e; exact ⟨_, rfl⟩) h)).mono fun x H1 ⟨v, φ, h1, fr, R, F, q, o⟩ => ?_
    have := o.ok R rfl
    show ∃ k, V.bl (decide (x = V.non)) = .bl k ∧ Q k H1
    rw [nonV q]
    cases v <;> exact this
theorem t_isB (C : Ctx P G T c X call callI W k) {n b : Bool} {a : Ex} {l : Expr} {j : Nat} {p1 pos : Pos} (ha : SE P T X call callI W a l) :
    ST P T X call callI W (.e (.isB n b a)) (.Compare l [if n then .IsNot else .Is] [.Constant (.bool b) j p1] pos) := by
  have bl : ∀ fr h v h1, ev P call callI (.isB n b a) fr h = .ok v h1 → ∃ b, v = .bl b := fun fr h v h1 e => by
    simp only [ev] at e
    obtain ⟨u, _, _, e⟩ := bind_inv e
    cases u <;> cases e
    exact ⟨_, rfl⟩
  cases n with
  | true =>
    refine ptI (pt_cmpR op_notBl ha pe_bl (nomark _)) fun σ H Q h => ?_
    refine (tR.bind1 (R1 := RV X.K T.toTab) (f := fun _ (v : Val) h1 => (match v with | .bl c => Res.ok (Val.bl (if true then !decide (c = b) else decide (c = b))) h1 | _ => Res.bad : Res Val)) (boolV bl h)).mono fun x H1 ⟨v, φ, h1, fr, R, F, q, o⟩ => ?_
    cases v <;> first | exact False.elim o | skip
    rw [show x = _ from q]
    exact ⟨_, b, rfl, rfl, o.ok R rfl⟩
  | false =>
    refine ptI (pt_cmpR op_isBl ha pe_bl (nomark _)) fun σ H Q h => ?_
    refine (tR.bind1 (R1 := RV X.K T.toTab) (f := fun _ (v : Val) h1 => (match v with | .bl c => Res.ok (Val.bl (if false then !decide (c = b) else decide (c = b))) h1 | _ => Res.bad : Res Val)) (boolV bl h)).mono fun x H1 ⟨v, φ, h1, fr, R, F, q, o⟩ => ?_
    cases v <;> first | exact False.elim o | skip
    rw [show x = _ from q]
    exact ⟨_, b, rfl, rfl, o.ok R rfl⟩
def plainT : Expr → Bool
  | .UnaryOp .Not _ _ => false
  | .BoolOp _ _ _ => false
  | .IfExp _ _ _ _ => false
  | .Compare _ _ _ _ => false
  | _ => true
theorem t_plain (C : Ctx P G T c X call callI W k) {a : Ex} {x : Expr} (hp : plainT x = true) (ha : SE P T X call callI W a x) : ST P T X call callI W (.e a) x := by
  refine ptI (pt_truth ha ?_) fun σ H Q h => ?_
  · intro whole
    cases x <;> first | rfl | (simp [plainT] at hp) | skip
    rename_i op o p
    cases op <;> first | rfl | (simp [plainT] at hp)
  · refine (tR.bind1 (R1 := RV X.K T.toTab) (f := fun _ v h1 => pure h1 (tru h1 v)) h).mono fun x H1 ⟨v, φ, h1, fr, R, F, q, o⟩ => ?_
    obtain ⟨t, e, o⟩ := o.pure
    exact ⟨t, tru_V R q e, o.ok R rfl⟩
theorem t_nt (C : Ctx P G T c X call callI W k) {a : Te} {x : Expr} {pos : Pos} (ha : ST P T X call callI W a x) : ST P T X call callI W (.nt a) (.UnaryOp .Not x pos) :=
  ptI (pt_not ha) fun σ H Q h => (tR.bind1 (R1 := RB) (f := fun _ (t : Bool) h1 => (Res.ok (!t) h1 : Res Bool)) h).mono fun x H1 ⟨v, φ, h1, fr, R, F, q, o⟩ => by
    rw [show x = v from q]; exact o.ok R rfl
/-- with whatever whole -/
abbrev SW (P : Pg) (T : Tab2) (X : Cx) (call callI : Nat → List Val → Mem → Res Ret) (W : WX) (e : Te) (x : Expr) : Prop := PW X x (tBl X.K T.toTab W (evt P call callI e))
theorem t_and (C : Ctx P G T c X call callI W k) {a b : Te} {l r : Expr} {rest : List Expr} {pos : Pos} (ha : ST P T X call callI W a l) (hb : SW P T X call callI W b (.BoolOp .And (r :: rest) pos)) : SW P T X call callI W (.and a b) (.BoolOp .And (l :: r :: rest) pos) :=
  pwI (pw_and ha hb) fun σ H Q h => (tR.bind1 (R1 := RB) (f := fun fr (t : Bool) h1 => (if t then evt P call callI b fr h1 else Res.ok false h1 : Res Bool)) h).mono fun x H1 ⟨v, φ, h1, fr, R, F, q, o⟩ => by
    obtain rfl : x = v := q
    cases x with
    | true => exact ⟨φ, h1, fr, R, F, o⟩
    | false => exact o.ok R rfl
theorem t_or (C : Ctx P G T c X call callI W k) {a b : Te} {l r : Expr} {rest : List Expr} {pos : Pos} (ha : ST P T X call callI W a l) (hb : SW P T X call callI W b (.BoolOp .Or (r :: rest) pos)) : SW P T X call callI W (.or a b) (.BoolOp .Or (l :: r :: rest) pos) :=
  pwI (pw_or ha hb) fun σ H Q h => (tR.bind1 (R1 := RB) (f := fun fr (t : Bool) h1 => (if t then Res.ok true h1 else evt P call callI b fr h1 : Res Bool)) h).mono fun x H1 ⟨v, φ, h1, fr, R, F, q, o⟩ => by
    obtain rfl : x = v := q
    cases x with
    | false => exact ⟨φ, h1, fr, R, F, o⟩
    | true => exact o.ok R rfl
/-- and, or are tests whatever stands for the whole -/
theorem pw_of {x : Expr} {t : TT} (h : ∃ op xs p, x = .BoolOp op xs p) (p : PT X x t) : PW X x t := by
  obtain ⟨op, xs, p', rfl⟩ := h
  exact ⟨fun wh pins s σ H Q I hh => p.run pins s σ H Q I hh⟩
/-! ### comprehensions -/
theorem wipe_set {σ σ' : L2.St} {vs : List Nat} (hl : σ'.length = σ.length) (h : ∀ i, i ∉ vs → σ'[i]? = (wipe σ vs)[i]?) : wipe σ' vs = wipe σ vs := by
  have g : ∀ (τ : L2.St) (vs : List Nat) (i : Nat), (wipe τ vs)[i]? = if i ∈ vs ∧ i < τ.length then some none else τ[i]? := fun τ vs => by
    induction vs with
    | nil => intro i; simp [wipe]
    | cons v r ih =>
      intro i
      unfold wipe
      rw [List.getElem?_set, ih, wipe_length]
      by_cases e : v = i
      · subst e
        by_cases hv : v < τ.length
        · simp [hv]
        · simp [hv]
      · rw [if_neg e]
        have : i ≠ v := Ne.symm e
        simp [this]
  apply List.ext_getElem?
  intro i
  by_cases hi : i ∈ vs
  · rw [g, g, hl]
    by_cases h2 : i < σ.length
    · simp [hi, h2]
    · simp [hi, h2, List.getElem?_eq_none (show σ'.length ≤ i by omega), List.getElem?_eq_none (show σ.length ≤ i by omega)]
  · rw [g σ', if_neg (fun z => hi z.1)]
    exact h i hi
theorem RFr.unset {K : PySem.W.Frag} {T : Tab} {φ : Ix} {H : L2.Hp} {fr : PyI.Fr} {σ : L2.St} (F : RFr K T φ H fr σ) (i : Nat) (y : Option V) : RFr K T φ H (fr.set i .e) (σ.set i y) := by
  refine ⟨by simp [F.len], fun j u e => ?_, fun j u e => ?_, fun j j' u u' a hne e e' s s' => ?_⟩
  · rcases set_get e with ⟨rfl, e1, hl⟩ | ⟨hj, e1⟩
    · cases e1
    · rw [List.getElem?_set_ne hj]
      exact F.v j u e1
  · rcases set_get e with ⟨rfl, e1, hl⟩ | ⟨hj, e1⟩
    · cases e1
    · rw [List.getElem?_set_ne hj]
      exact F.o j u e1
  · rcases set_get e with ⟨rfl, e1, hl⟩ | ⟨hj, e1⟩
    · cases e1
    rcases set_get e' with ⟨rfl, e2, hl⟩ | ⟨hj', e2⟩
    · cases e2
    rw [List.getElem?_set_ne hj] at s
    rw [List.getElem?_set_ne hj'] at s'
    exact F.d j j' u u' a hne e1 e2 s s'
theorem RFr.wipe {K : PySem.W.Frag} {T : Tab} {φ : Ix} {H : L2.Hp} {fr : PyI.Fr} {σ : L2.St} (F : RFr K T φ H fr σ) : ∀ vs : List Nat, RFr K T φ H (wipeF fr vs) (L2.wipe σ vs)
  | [] => F
  | v :: vs => (RFr.wipe F vs).unset v none
mutual
theorem tg_loc {c : SC} : ∀ (tg : Tgt) (x : Expr), mTg c tg x = true → ∀ i ∈ tg.slots, ∃ x, c.N[i]? = some x
  | .v i, x, h => by
    cases x <;> simp only [mTg, Bool.false_eq_true] at h
    intro j hj
    have : j = i := by simpa [Tgt.slots] using hj
    subst this
    unfold SC.loc at h
    simp only [Bool.and_eq_true, decide_eq_true_eq] at h
    exact ⟨_, h.1⟩
  | .t ts, x, h => by
    cases x <;> simp only [mTg, Bool.false_eq_true] at h
    exact tgs_loc ts _ h
theorem tgs_loc {c : SC} : ∀ (ts : List Tgt) (xs : List Expr), mTgs c ts xs = true → ∀ i ∈ Tgt.slotss ts, ∃ x, c.N[i]? = some x
  | [], _, _ => by intro i hi; simp [Tgt.slotss] at hi
  | t :: ts, xs, h => by
    cases xs with
    | nil => simp [mTgs] at h
    | cons x xs =>
      simp only [mTgs, Bool.and_eq_true] at h
      intro i hi
      rcases List.mem_append.mp (show i ∈ t.slots ++ Tgt.slotss ts from hi) with hi | hi
      · exact tg_loc t x h.1.2 i hi
      · exact tgs_loc ts xs h.2 i hi
end
theorem own_slots {c : SC} {tg : Tgt} {x : Expr} {c' : SC} (hc : c'.N = c.N) (h : mTg c' tg x = true) : (mOwn c tg).map (·.2) = tg.slots := by
  have go : ∀ (is : List Nat), (∀ i ∈ is, ∃ x, c.N[i]? = some x) → (is.filterMap fun i => (c.N[i]?).map fun x => (x, i)).map (·.2) = is := fun is => by
    induction is with
    | nil => intro _; rfl
    | cons i is ih =>
      intro hh
      obtain ⟨x, hx⟩ := hh i (by simp)
      rw [List.filterMap_cons, hx]
      simp only [Option.map_some, List.map_cons]
      rw [ih fun j hj => hh j (by simp [hj])]
  exact go _ fun i hi => by rw [← hc]; exact tg_loc tg x h i hi
/-- a place's truth -/
theorem tru_C {K : PySem.W.Frag} {T : Tab} {φ : Ix} {H : L2.Hp} {a : Addr} {u : HO} {c : Con} {b : Bool} (hu : H a = some u) (q : RCo K T φ H a c u) (e : truC c = some b) : TruV K (.ref a) H b := by
  cases c <;> simp only [truC, reduceCtorEq, Option.some.injEq] at e
  · obtain ⟨vs, rfl, q⟩ := q
    have := q.length
    refine .inl ⟨vs, .of hu, ?_⟩
    subst e
    rename_i xs
    cases vs <;> cases xs <;> simp_all
  · obtain ⟨vs, rfl, q⟩ := q
    have := q.length
    refine .inr (.inr ⟨vs, hu, ?_⟩)
    subst e
    rename_i xs
    cases vs <;> cases xs <;> simp_all
theorem t_pt (C : Ctx P G T c X call callI W k) {p : Px} {x : Expr} (h : G.px c p x = true) : ST P T X call callI W (.pt p) x := by
  have hp : plainT x = true := by
    cases p <;> cases x <;> first | rfl | (simp only [Gam.px, Bool.false_eq_true] at h)
  refine ptI (pt_truth (s_px C h) ?_) fun σ H Q ⟨φ, hh, fr, R, F, o⟩ => ?_
  · intro whole
    cases x <;> first | rfl | (simp [plainT] at hp) | skip
    rename_i op o p
    cases op <;> first | rfl | (simp [plainT] at hp)
  · simp only [evt] at o
    obtain ⟨t, e, o⟩ := o.pure
    obtain ⟨c', e1, e2⟩ := Option.bind_eq_some_iff.mp e
    refine ⟨φ, hh, fr, c', R, F, e1, fun q x hq ⟨a, u, ex, hu, rc, _⟩ => ?_⟩
    subst ex
    exact ⟨t, tru_C hu rc e2, o.ok R rfl⟩
end
end PyI
namespace PyI
open PySem PySem.Spec PyProof.Rows L2
/-! ### arguments that change nothing -/
/-- nothing that was is changed -/
def Gr (H G : L2.Hp) : Prop := ∀ b u, H b = some u → G b = some u
theorem Gr.refl {H : L2.Hp} : Gr H H := fun _ _ q => q
theorem Gr.trans {H G F : L2.Hp} (a : Gr H G) (b : Gr G F) : Gr H F := fun x u q => b x u (a x u q)
theorem Gr.upd {H : L2.Hp} {a : Addr} {o : HO} (hn : H a = none) : Gr H (upd H a o) := fun b u q => by rw [upd_ne (ne_of_none q hn)]; exact q
/-- no change, no error -/
def Quiet {α : Type} (r : PyI.Fr → Mem → Res α) : Prop := ∀ fr h, r fr h = .bad ∨ ∃ v, r fr h = .ok v h
section
variable {P : Pg} {call callI : Nat → List Val → Mem → Res Ret}
mutual
theorem quiet_E : ∀ (e : Ex), simE e = true → Quiet (ev P call callI e)
  | .lit l, _ => fun fr h => .inr ⟨_, rfl⟩
  | .var i, _ => fun fr h => by
    simp only [ev]
    split
    · exact .inr ⟨_, rfl⟩
    · exact .inl rfl
  | .tup es, hs => fun fr h => by
    simp only [ev]
    rcases quiet_Es es (by simpa [simE] using hs) fr h with e | ⟨vs, e⟩
    · rw [e]; exact .inl rfl
    · rw [e]
      simp only [Res.bind_ok]
      split
      · exact .inr ⟨_, rfl⟩
      · exact .inl rfl
  | .con _, h => by simp [simE] at h
  | .bin _ _ _, h => by simp [simE] at h
  | .neg _, h => by simp [simE] at h
  | .nt _, h => by simp [simE] at h
  | .and _ _, h => by simp [simE] at h
  | .or _ _, h => by simp [simE] at h
  | .cmp _ _ _, h => by simp [simE] at h
  | .chn _ _ _ _ _, h => by simp [simE] at h
  | .isN _ _, h => by simp [simE] at h
  | .isB _ _ _, h => by simp [simE] at h
  | .ix _ _, h => by simp [simE] at h
  | .sl _ _ _, h => by simp [simE] at h
  | .att _ _, h => by simp [simE] at h
  | .cal _ _ _, h => by simp [simE] at h
  | .mk _ _ _, h => by simp [simE] at h
  | .mkI _ _, h => by simp [simE] at h
  | .met _ _ _ _ _, h => by simp [simE] at h
  | .blt _ _, h => by simp [simE] at h
  | .isi _ _, h => by simp [simE] at h
  | .az _, h => by simp [simE] at h
  | .hp _, h => by simp [simE] at h
  | .pl _ _ _, h => by simp [simE] at h
  | .pin _ _ _, h => by simp [simE] at h
  | .len1 _ _, h => by simp [simE] at h
theorem quiet_Es : ∀ (es : Exs), simEs es = true → Quiet (evs P call callI es)
  | .nil, _ => fun fr h => .inr ⟨_, rfl⟩
  | .cons e es, hs => fun fr h => by
    simp only [simEs, Bool.and_eq_true] at hs
    simp only [evs]
    rcases quiet_E e hs.1 fr h with e1 | ⟨v, e1⟩
    · rw [e1]; exact .inl rfl
    rw [e1]
    rcases quiet_Es es hs.2 fr h with e2 | ⟨vs, e2⟩
    · simp only [Res.bind_ok, e2]; exact .inl rfl
    · simp only [Res.bind_ok, e2]; exact .inr ⟨_, rfl⟩
end
end
def tSm {α β : Type} (K : PySem.W.Frag) (T : Tab) (RR : Ix → L2.Hp → α → β → Prop) (r : PyI.Fr → Mem → Res α) : L2.St → L2.Hp → (β → L2.Hp → Prop) → Prop := fun σ H Q =>
  ∃ φ h fr v, Rel K T φ H h ∧ RFr K T φ H fr σ ∧ r fr h = .ok v h ∧ ∀ G y, Gr H G → Ext φ H φ G → Rel K T φ G h → RR φ G v y → Q y G
section
variable {P : Pg} {G : Gam} {T : Tab2} {c : SC} {X : Cx} {call callI : Nat → List Val → Mem → Res Ret} {W : WX} {k : Nat}
mutual
theorem sm_E (C : Ctx P G T c X call callI W k) : ∀ (e : Ex) (x : Expr), simE e = true → mE G c e x = true → PE X x (tSm X.K T.toTab (RV X.K T.toTab) (ev P call callI e))
  | .lit l, x, _, h => by
    simp only [mE] at h
    split at h
    · rename_i kk a b
      have fin : ∀ {y : V}, (∀ φ H, RV X.K T.toTab φ H l.val y) → ∀ σ H Q, tSm X.K T.toTab (RV X.K T.toTab) (ev P call callI (.lit l)) σ H Q → Q y H := fun {y} hy σ H Q ⟨φ, h, fr, v, R, F, e, q⟩ => by
        simp only [ev] at e
        cases e
        exact q H y .refl .refl R (hy φ H)
      cases l <;> cases kk <;> simp only [mLit, Bool.false_eq_true, beq_iff_eq, decide_eq_true_eq] at h
      · exact peI pe_non (fin fun _ _ => rfl)
      · subst h; exact peI pe_bl (fin fun _ _ => rfl)
      · subst h; exact peI pe_int (fin fun _ _ => rfl)
      · subst h; exact peI pe_str (fin fun _ _ => rfl)
    · cases h
  | .var i, x, _, h => by
    simp only [mE] at h
    split at h
    · refine peI (C.var h) fun σ H Q ⟨φ, h, fr, v, R, F, e, q⟩ => ?_
      simp only [ev] at e
      split at e <;> cases e
      rename_i e
      obtain ⟨y, e2, r⟩ := F.2 i v e
      exact ⟨y, e2, q H y .refl .refl R r⟩
    · cases h
  | .tup es, x, s, h => by
    simp only [mE] at h
    split at h <;> try cases h
    have s' : simEs es = true := by simpa [simE] using s
    refine peI (pe_tup (sm_Es C es _ s' h)) fun σ H Q ⟨φ, h, fr, v, R, F, e, q⟩ => ?_
    simp only [ev] at e
    rcases quiet_Es (P := P) (call := call) (callI := callI) es s' fr h with e1 | ⟨vs, e1⟩
    · rw [e1] at e; cases e
    · rw [e1] at e
      simp only [Res.bind_ok] at e
      split at e <;> cases e
      rename_i hl
      refine ⟨φ, h, fr, vs, R, F, e1, fun G1 ys gr ex R1 qs => ⟨by rw [qs.length]; exact hl, fun p hp => ?_⟩⟩
      have ex2 := ext_tup (o := .tup ys) R1 hp
      exact q _ _ (gr.trans (.upd hp)) (ex.trans ex2) (R1.tup hp) ⟨p, ys, rfl, upd_same, qs.mono ex2 _ _⟩
  | .con _, _, h, _ => by simp [simE] at h
  | .bin _ _ _, _, h, _ => by simp [simE] at h
  | .neg _, _, h, _ => by simp [simE] at h
  | .nt _, _, h, _ => by simp [simE] at h
  | .and _ _, _, h, _ => by simp [simE] at h
  | .or _ _, _, h, _ => by simp [simE] at h
  | .cmp _ _ _, _, h, _ => by simp [simE] at h
  | .chn _ _ _ _ _, _, h, _ => by simp [simE] at h
  | .isN _ _, _, h, _ => by simp [simE] at h
  | .isB _ _ _, _, h, _ => by simp [simE] at h
  | .ix _ _, _, h, _ => by simp [simE] at h
  | .sl _ _ _, _, h, _ => by simp [simE] at h
  | .att _ _, _, h, _ => by simp [simE] at h
  | .cal _ _ _, _, h, _ => by simp [simE] at h
  | .mk _ _ _, _, h, _ => by simp [simE] at h
  | .mkI _ _, _, h, _ => by simp [simE] at h
  | .met _ _ _ _ _, _, h, _ => by simp [simE] at h
  | .blt _ _, _, h, _ => by simp [simE] at h
  | .isi _ _, _, h, _ => by simp [simE] at h
  | .az _, _, h, _ => by simp [simE] at h
  | .hp _, _, h, _ => by simp [simE] at h
  | .pl _ _ _, _, h, _ => by simp [simE] at h
  | .pin _ _ _, _, h, _ => by simp [simE] at h
  | .len1 _ _, _, h, _ => by simp [simE] at h
theorem sm_Es (C : Ctx P G T c X call callI W k) : ∀ (es : Exs) (xs : List Expr), simEs es = true → mEs G c es xs = true → PA X xs (tSm X.K T.toTab (RVs X.K T.toTab) (evs P call callI es))
  | .nil, xs, _, h => by
    simp only [mEs] at h
    split at h <;> try cases h
    exact paI pa_nil fun σ H Q ⟨φ, h, fr, v, R, F, e, q⟩ => by
      simp only [evs] at e
      cases e
      exact q H [] .refl .refl R rfl
  | .cons e es, xs, s, h => by
    simp only [mEs] at h
    split at h <;> try cases h
    simp only [Bool.and_eq_true] at h
    simp only [simEs, Bool.and_eq_true] at s
    refine paI (pa_cons (sm_E C e _ s.1 h.1.2) (sm_Es C es _ s.2 h.2) (star_of h.1.1 _ _)) fun σ H Q ⟨φ, hh, fr, v, R, F, er, q⟩ => ?_
    simp only [evs] at er
    rcases quiet_E (P := P) (call := call) (callI := callI) e s.1 fr hh with e1 | ⟨u, e1⟩
    · rw [e1] at er; cases er
    rw [e1] at er
    rcases quiet_Es (P := P) (call := call) (callI := callI) es s.2 fr hh with e2 | ⟨us, e2⟩
    · simp only [Res.bind_ok, e2] at er; cases er
    simp only [Res.bind_ok, e2] at er
    cases er
    refine ⟨φ, hh, fr, u, R, F, e1, fun G1 y gr ex R1 q1 => ⟨φ, hh, fr, us, R1, F.mono ex, e2, fun G2 ys gr2 ex2 R2 q2 => ?_⟩⟩
    exact q _ _ (gr.trans gr2) (ex.trans ex2) R2 ⟨y, ys, rfl, q1.mono ex2 _ _, q2⟩
end
theorem paOr {X : Cx} {es : List Expr} {t u : TA} (p : PA X es t) (q : PA X es u) : PA X es (fun σ H Q => t σ H Q ∨ u σ H Q) := ⟨fun pos pins s σ H Q I h => h.elim (p.run pos pins s σ H Q I) (q.run pos pins s σ H Q I)⟩
/-- arguments at a place -/
def tPl {α β : Type} (K : PySem.W.Frag) (T : Tab) (W : WX) (RR : Ix → L2.Hp → α → β → Prop) (b : Bool) (r : PyI.Fr → Mem → Res α) : L2.St → L2.Hp → (β → L2.Hp → Prop) → Prop := fun σ H Q =>
  tR K T W RR r σ H Q ∨ (b = true ∧ tSm K T RR r σ H Q)
theorem pl_E (C : Ctx P G T c X call callI W k) {e : Ex} {x : Expr} (h : mE G c e x = true) (ih : SE P T X call callI W e x) : PE X x (tPl X.K T.toTab W (RV X.K T.toTab) (simE e) (ev P call callI e)) := by
  refine peI (peOr ih (t := _) (u := fun σ H Q => simE e = true ∧ tSm X.K T.toTab (RV X.K T.toTab) (ev P call callI e) σ H Q) ?_) fun σ H Q hh => hh
  exact ⟨fun pins s σ H Q I ⟨hs, q⟩ => (sm_E C e x hs h).run pins s σ H Q I q⟩
theorem pl_Es (C : Ctx P G T c X call callI W k) {es : Exs} {xs : List Expr} (h : mEs G c es xs = true) (ih : SEs P T X call callI W es xs) : PA X xs (tPl X.K T.toTab W (RVs X.K T.toTab) (simEs es) (evs P call callI es)) := by
  refine paI (paOr ih (t := _) (u := fun σ H Q => simEs es = true ∧ tSm X.K T.toTab (RVs X.K T.toTab) (evs P call callI es) σ H Q) ?_) fun σ H Q hh => hh
  exact ⟨fun pos pins s σ H Q I ⟨hs, q⟩ => (sm_Es C es xs hs h).run pos pins s σ H Q I q⟩
abbrev tPx (P : Pg) (T : Tab2) (X : Cx) (p : Px) : TE := fun σ H Q => ∃ φ h fr c', Rel X.K T.toTab φ H h ∧ RFr X.K T.toTab φ H fr σ ∧ evp P p fr h = some c' ∧ ∀ q x, plF p fr = some q → RP X.K T.toTab φ H p σ q c' x → Q x H
theorem any_some {α : Type} {o : Option α} {g : α → Bool} (h : o.any g = true) : ∃ a, o = some a ∧ g a = true := by
  cases o with
  | none => cases h
  | some a => exact ⟨a, rfl, h⟩
/-- an own place, then what is asked of it -/
theorem px_then {α β γ δ : Type} {RR : Ix → L2.Hp → α → β → Prop} {R2 : Ix → L2.Hp → γ → δ → Prop} {r : PyI.Fr → Mem → Res α} {f : Mem → Con → α → Res γ} {g : Con → Bool} {b : Bool} {p : Px} {σ : L2.St} {φ : Ix} {H : L2.Hp} {h : Mem} {fr : PyI.Fr} {Q : δ → L2.Hp → Prop} {E : Nat → L2.Hp → Prop}
    (hq : (∃ i, p = .s i) ∨ (b = true ∧ Quiet r)) (he : E = fun c G => W (T.exn c) none σ G) (R : Rel X.K T.toTab φ H h) (F : RFr X.K T.toTab φ H fr σ)
    (o : okR X.K T.toTab R2 φ H Q E (if (evp P p fr h).any g then (r fr h).bind fun w h1 => match evp P p fr h1 with | some c' => f h1 c' w | none => .bad else .bad)) :
    ∃ c', evp P p fr h = some c' ∧ g c' = true ∧ ∀ q x, plF p fr = some q → RP X.K T.toTab φ H p σ q c' x → (fun x H1 => tPl X.K T.toTab W RR b r σ H1 fun y H2 => ∃ ψ h2 c' a w u, x = .ref a ∧ (∀ i, p = .s i → σ[i]? = some (some (.ref a))) ∧ Ext φ H ψ H2 ∧ Rel X.K T.toTab ψ H2 h2 ∧ H2 a = some u ∧ RCo X.K T.toTab ψ H2 a c' u ∧ RR ψ H2 w y ∧ evp P p fr h = some c' ∧ evp P p fr h2 = some c' ∧ (∀ q, plF p fr = some q → plA ψ q a) ∧ okR X.K T.toTab R2 ψ H2 Q E (f h2 c' w)) x H := by
  subst he
  split at o
  · rename_i hs
    obtain ⟨c', ec, gc⟩ := any_some hs
    refine ⟨c', ec, gc, fun q x hpl ⟨a, u, ex, hu, rc, hw⟩ => ?_⟩
    rcases hq with ⟨i, rfl⟩ | ⟨hb, hq⟩
    · cases hpl
      have ef : ∀ h1, evp P (.s i) fr h1 = some c' := fun h1 => ec
      refine .inl ⟨φ, h, fr, R, F, o.bind.mono fun y H2 ⟨w, ψ, h2, e, R2', q2, o2⟩ => ?_⟩
      rw [ef] at o2
      refine ⟨ψ, h2, c', a, w, u, ex, hw.2, e, R2', by rw [e.keM a hw.1]; exact hu, rc.mono e, q2, ec, ef h2, fun q hq => ?_, o2⟩
      cases hq
      show ψ.M a
      rw [e.eM]; exact hw.1
    · rcases hq fr h with er | ⟨w, er⟩
      · rw [er] at o; exact o.elim
      · rw [er] at o
        simp only [Res.bind_ok, ec] at o
        refine .inr ⟨hb, φ, h, fr, w, R, F, er, fun G1 y gr e R2' q2 => ⟨φ, h, c', a, w, u, ex, hw.2, e, R2', gr a u hu, rc.mono e, q2, ec, ec, fun q' hq' => ?_, o.ext e⟩⟩
        rw [hpl] at hq'; cases hq'
        exact hw.1
  · exact o.elim
theorem px_star {p : Px} {x : Expr} (h : G.px c p x = true) : notStar x = true ∧ plainBase x = true := by
  unfold Gam.px at h
  split at h
  · exact ⟨rfl, rfl⟩
  · exact ⟨rfl, rfl⟩
  · cases h
theorem bind_some {α β γ : Type} {o : Option α} {g : α → Option β} {h : Mem} : PyI.pure h (o.bind g) = (match o with | some a => PyI.pure h (g a) | none => .bad) := by cases o <;> rfl
/-! ### reading a place -/
section
variable {K : PySem.W.Frag} {φ : Ix} {H : L2.Hp} {h : Mem}
theorem len_C (hw : T.w = X.w) : CallR X (.builtin "len") (fun xs H Q => ∃ φ cc a u n, xs = [.ref a] ∧ H a = some u ∧ RCo X.K T.toTab φ H a cc u ∧ clen cc = some n ∧ Q (.int (n : Nat)) H) := by
  intro pins s σ H xs us Q I rx ⟨φ, cc, a, u, n, ex, hu, rc, e2, q⟩
  subst ex
  cases cc <;> simp only [clen, reduceCtorEq, Option.some.injEq] at e2
  · subst e2
    obtain ⟨ws, p1, p2⟩ := (CAt.of hu rc).sq
    exact call_len pins s σ H _ us Q I rx ⟨.ref a, _, rfl, .inl ⟨ws, p1, rfl⟩, by rw [p2.length]; exact q⟩
  · subst e2
    obtain ⟨ws, p1, p2⟩ := (CAt.of hu rc).dk
    exact call_lenR pins s σ H _ us Q I rx ⟨a, ws, rfl, p1, by rw [p2.length]; exact q⟩
  · subst e2
    obtain ⟨S, eS, hS⟩ := rc
    subst eS
    rw [show T.toTab.w = X.w from hw] at hu
    exact call_lenSet pins s σ H _ us Q I rx ⟨a, S, _, rfl, hu, q⟩
theorem tup_C : CallR X (.type "tuple") (fun xs H Q => ∃ a ws, xs = [.ref a] ∧ H a = some (.lst ws) ∧ ∀ p, H p = none → Q (.ref p) (upd H p (.tup ws))) := by
  intro pins s σ H xs us Q I rx ⟨a, ws, ex, hu, q⟩
  subst ex
  exact call_tuple_of pins s σ H _ us Q I rx ⟨a, ws, rfl, .inl ⟨.of hu, q⟩⟩
theorem ix_C : IxR X (fun x y H Q => ∃ φ a vs xs u z, x = .ref a ∧ H a = some (.lst vs) ∧ RVs X.K T.toTab φ H xs vs ∧ RV X.K T.toTab φ H u y ∧ cix (.lst xs) u = some z ∧ ∀ w, RV X.K T.toTab φ H z w → Q w H) := by
  intro value slice pins s σ H x y xv yv Q I rx ry ⟨φ, a, vs, xs, u, z, ex, hu, p2, q2, e2, q⟩ hs
  subst ex
  simp only [cix] at e2
  cases u <;> simp only [reduceCtorEq] at e2
  obtain ⟨y', hz, rz⟩ := p2.nth e2
  rw [show y = _ from q2] at ry
  exact ix_list value slice pins s σ H _ _ _ _ Q I rx ry ⟨a, vs, _, y', rfl, rfl, .of hu, hz, q _ rz⟩ hs
end
theorem pl_norm {p : Px} {op : Pop} {es : Exs} {fr : PyI.Fr} {h : Mem} : ev P call callI (.pl p op es) fr h = (if (evp P p fr h).any (popOk op) then (evs P call callI es fr h).bind fun w h1 => match evp P p fr h1 with | some c' => PyI.pure h1 (plV op c' w) | none => .bad else .bad) := by
  simp only [ev]
  split
  · congr 1
    funext w h1
    cases evp P p fr h1 <;> rfl
  · rfl
/-! ### len of an instance, by its own method -/
theorem call_lenI {CX : CXT} {k : Nat} {C g : Addr} {fd : FuncData} {ps : List Str} {sp : Sp} {E : XK} (hm : Meth X.K C "__len__" g) (F : FnOk X.prog X.w X.K X.mg X.base CX k g fd ps sp) (hr : Room (k + 1) X.A) (hb : Binds X.K fd ps []) (hx : Passes CX X.nox E) :
    CallR X (.builtin "len") (fun xs H Q => ∃ a dx fs, xs = [.ref a] ∧ H a = some (.ins C dx fs) ∧ sp [.ref a] H (fun v H' => ∃ n : Int, v = .int n ∧ 0 ≤ n ∧ n < 2 ^ 62 ∧ Q (.int n) H') E) := by
  intro pins s σ H xs us Q I r h
  obtain ⟨a, dx, fs, rfl, ea, h⟩ := h
  obtain ⟨u, rfl, ru⟩ := r.one
  cases ru
  obtain ⟨mA, O, _⟩ := ins_get I.hok ea
  obtain ⟨od, J, _⟩ := O.look
  refine Calls.call_function_entry PySem.kind_len PySem.plain_len PySem.entry_len (PySem.args_len1 _) ?_
  unfold Builtin.«len»
  refine wpAny_bind (m := oneArg "len" _) (wpAny_pure ?_)
  refine wpAny_bind (m := callSpecial? _ (Str.ofString "__len__")) (PySem.W.special_fn (name := "__len__") (args := []) I.kIn J hm.at_ (beq_iff_eq.mp hm.fn) ?_)
  refine wpAny_call (codeAny_mono (F.run X.A.in1 X.stack s H ⟨[.ref a], []⟩ [.ref a] [.ref a] _ E hr.in1 I.env0.in1 (by
    have := hb s [.ref a] I.kIn (by simpa using F.len _ _ _ _ h)
    simpa using this) (.cons rfl .nil) h) fun r s' hq => ?_)
  cases r with
  | error er => exact False.elim (hx pins σ H s er s' (I.wish _) hq)
  | ok fl =>
    cases fl with
    | next => exact False.elim hq
    | brk => exact False.elim hq
    | cont => exact False.elim hq
    | ret u =>
      obtain ⟨v, H', I3, rv, n, rfl, n0, n1, q⟩ := I.after hq
      obtain ⟨t, rfl⟩ := rv
      show wpAny _ _ _ _ _ s'
      refine wpAny_bind (wpAny_holding (wpAny_pure ?_))
      refine wpAny_bind (wpAny_letGo ?_)
      show wpAny _ _ (if n < 0 then _ else _) _ _ _
      rw [if_neg (by omega)]
      show wpAny _ _ (if n ≥ 2 ^ 63 then _ else _) _ _ _
      rw [if_neg (by omega)]
      exact wpAny_bind (wpAny_mkInt (wpAny_pure ⟨_, rfl, .int n, H', I3.tok _, ⟨_, rfl⟩, q⟩))
theorem Rel.insC {K : PySem.W.Frag} {T : Tab} {φ : Ix} {H : L2.Hp} {h : Mem} (R : Rel K T φ H h) {v : Val} {d : Nat} {x : V} (r : RV K T φ H v x) (e : insC h v = some d) : ∃ a dx ks, x = .ref a ∧ H a = some (.ins (T.cls d) dx ks) := by
  cases v <;> simp only [PyI.insC, reduceCtorEq] at e
  · split at e <;> cases e
    rename_i he
    obtain ⟨a, dx, ks, rfl, _, p1, _⟩ := R.ins r he
    exact ⟨a, dx, ks, rfl, p1⟩
  · cases e
    obtain ⟨a, dx, ks, rfl, p1, _⟩ := r
    exact ⟨a, dx, ks, rfl, p1.2⟩
theorem s_len1 (C : Ctx P G T c X call callI W k) {a : Ex} {m : Nat} {n : Str} {y : Expr} {p0 pos : Pos} (hx : G.bl c n "len" = true) (hn : G.nms.lookup m = some "__len__") (hkm : m ∉ G.kwm.map (·.1)) (st : notStar y = true) (ha : SE P T X call callI W a y) :
    SE P T X call callI W (.len1 a m) (.Call (.Name n p0) [y] [] pos) := by
  obtain ⟨rfl, g1, g2, g3, g4⟩ := C.blt hx
  have en := C.wd.nms m _ hn
  refine ⟨fun pins s σ H Q I ⟨φ, h, fr, R, F, o⟩ => ?_⟩
  have off : (∀ v h1, ev P call callI a fr h = .ok v h1 → lenI P callI m v h1 = .bad) → wpAny (model X.prog X.w) X.A (eval (.Call (.Name "len" p0) [y] [] pos) X.env) (EP X pins σ Q) X.xe s := fun hh => by
    refine (pe_callB (id := "len") (r := fun _ _ _ => False) (fun _ _ _ _ _ _ _ _ _ q => q.elim) g1 g2 (by decide +kernel) (pa_cons ha pa_nil (star_of st _ _)) g4 g3 (star_of st _ _) (noneStar _ _ rfl)).run pins s σ H Q I ⟨φ, h, fr, R, F, o.bindE.mono fun x H1 ⟨v', ψ, h2, e1, x1, R1, q1, o1⟩ => ?_⟩
    rw [hh _ _ e1] at o1
    exact False.elim o1
  cases hv : ev P call callI a fr h with
  | bad => exact off fun v h1 e => by rw [hv] at e; cases e
  | exc cc hc => exact off fun v h1 e => by rw [hv] at e; cases e
  | ok v h1 =>
    cases hi : PyI.insC h1 v with
    | none => exact off fun v' h1' e => by rw [hv] at e; cases e; simp only [lenI, hi]
    | some d =>
      cases hg : metF P d m with
      | none => exact off fun v' h1' e => by rw [hv] at e; cases e; simp only [lenI, hi, hg]
      | some g =>
        obtain ⟨j, hj, FI⟩ := C.callI
        have hg' := hg
        unfold metF at hg
        obtain ⟨Cd, hc, hg⟩ := Option.bind_eq_some_iff.mp hg
        obtain ⟨c1, c2, c3, c4, c5⟩ := C.wd.cls d Cd hc
        obtain ⟨⟨Fg, hFg, hdf', _⟩, hme⟩ := c3 m g hg
        have hdf := hdf' hkm
        rw [en] at hme
        refine (pe_callB (call_lenI (E := fun _ _ _ => False) hme (FI g Fg hFg) (C.room.mono (by omega)) (C.wd.bnd g Fg hFg hdf) passL) g1 g2 (by decide +kernel) (pa_cons ha pa_nil (star_of st _ _)) g4 g3 (star_of st _ _) (noneStar _ _ rfl)).run pins s σ H Q I ⟨φ, h, fr, R, F, o.bindE.mono fun x H1 ⟨v', ψ, h2, e1, x1, R1, q1, o1⟩ => ?_⟩
        rw [hv] at e1; cases e1
        obtain ⟨b, dx, ks, rfl, p1⟩ := Rel.insC R1 q1 hi
        refine ⟨b, dx, ks, rfl, p1, ψ.call, h1, [v], R1.call, ⟨_, _, rfl, q1.monoV call_ve _ _, rfl⟩, ?_⟩
        simp only [lenI, hi, hg'] at o1
        cases hr : callI g [v] h1 with
        | bad => rw [hr] at o1; exact False.elim o1
        | exc cc hc => rw [hr] at o1; exact False.elim o1
        | ok z hz =>
          rw [hr] at o1
          cases z with
          | f xs => exact False.elim o1
          | v z =>
            cases z <;> first | exact False.elim o1 | skip
            rename_i n
            simp only [lenR] at o1
            split at o1
            · rename_i hb
              simp only [Bool.and_eq_true, decide_eq_true_eq, big_eq] at hb
              refine okR.call (fun χ F' x e2 R2 q2 => ⟨n, q2, hb.1, hb.2.2, o1 χ F' (.int n) e2 R2 rfl⟩) R1
            · exact False.elim o1
theorem s_plen (C : Ctx P G T c X call callI W k) {p : Px} {n : Str} {y : Expr} {p0 pos : Pos} (hx : G.bl c n "len" = true) (hp : G.px c p y = true) : SE P T X call callI W (.pl p .len .nil) (.Call (.Name n p0) [y] [] pos) := by
  obtain ⟨rfl, g1, g2, g3, g4⟩ := C.blt hx
  have st := (px_star hp).1
  refine peI (pe_callB (len_C (T := T) C.tw) g1 g2 (by decide +kernel) (pa_cons (s_px C hp) pa_nil (star_of st _ _)) g4 g3 (star_of st _ _) (noneStar _ _ rfl)) fun σ H Q ⟨φ, h, fr, R, F, o⟩ => ?_
  rw [pl_norm] at o
  split at o
  · rename_i hs
    obtain ⟨c', ec, _⟩ := any_some hs
    simp only [evs, Res.bind_ok, ec] at o
    obtain ⟨z, ez, o⟩ := o.pure
    simp only [plV] at ez
    obtain ⟨m, em, rfl⟩ := Option.map_eq_some_iff.mp ez
    exact ⟨φ, h, fr, c', R, F, ec, fun q x hpl ⟨a, u, ex, hu, rc, hw⟩ => ⟨φ, c', a, u, m, by rw [ex], hu, rc, em, o.ok R rfl⟩⟩
  · exact o.elim
theorem s_ptup (C : Ctx P G T c X call callI W k) {p : Px} {n : Str} {y : Expr} {p0 pos : Pos} (hx : G.bl c n "tuple" = true) (hp : G.px c p y = true) : SE P T X call callI W (.pl p .tup .nil) (.Call (.Name n p0) [y] [] pos) := by
  obtain ⟨rfl, g1, g2, g3, g4⟩ := C.blt hx
  have st := (px_star hp).1
  refine peI (pe_callTy tup_C g1 g2 (by decide +kernel) (pa_cons (s_px C hp) pa_nil (star_of st _ _)) g4 g3 (star_of st _ _) (noneStar _ _ rfl)) fun σ H Q ⟨φ, h, fr, R, F, o⟩ => ?_
  rw [pl_norm] at o
  split at o
  · rename_i hs
    obtain ⟨c', ec, _⟩ := any_some hs
    simp only [evs, Res.bind_ok, ec] at o
    obtain ⟨z, ez, o⟩ := o.pure
    refine ⟨φ, h, fr, c', R, F, ec, fun q x hpl ⟨a, u, ex, hu, rc, hw⟩ => ?_⟩
    cases c' <;> simp only [plV, reduceCtorEq, Option.some.injEq] at ez
    subst ez
    obtain ⟨vs, rfl, q2⟩ := rc
    exact ⟨a, vs, by rw [ex], hu, okR.newT o R q2⟩
  · exact o.elim
theorem simP_or {p : Px} {es : Exs} (h : simP p es = true) : (∃ i, p = .s i) ∨ (simEs es = true ∧ Quiet (evs P call callI es)) := by
  cases p with
  | s i => exact .inl ⟨i, rfl⟩
  | f i f => exact .inr ⟨h, quiet_Es es h⟩
theorem simP1_or {p : Px} {e : Ex} (h : simP1 p e = true) : (∃ i, p = .s i) ∨ (simE e = true ∧ Quiet (ev P call callI e)) := by
  cases p with
  | s i => exact .inl ⟨i, rfl⟩
  | f i f => exact .inr ⟨h, quiet_E e h⟩
theorem s_pix (C : Ctx P G T c X call callI W k) {p : Px} {i : Ex} {l r : Expr} {pos : Pos} (hs : notSlice r = true) (hp : G.px c p l = true) (sim : simP p (.cons i .nil) = true) (hm : mE G c i r = true) (hi : SE P T X call callI W i r) : SE P T X call callI W (.pl p .ix (.cons i .nil)) (.Subscript l r pos) := by
  have hsim : (∃ j, p = .s j) ∨ (simE i = true ∧ Quiet (ev P call callI i)) := by
    cases p with
    | s j => exact .inl ⟨j, rfl⟩
    | f j f => have hh : simE i = true := by simpa [simP, simEs] using sim
               exact .inr ⟨hh, quiet_E i hh⟩
  refine peI (peOr (pe_ix (ix_C (T := T)) (s_px C hp) (pl_E C hm hi) (plainIx_of hs)) (pe_dget (by have := C.un; omega) (s_px C hp) (pl_E C hm hi) (noSl_of hs))) fun σ H Q ⟨φ, h, fr, R, F, o⟩ => ?_
  have en : ev P call callI (.pl p .ix (.cons i .nil)) fr h = (if (evp P p fr h).any (popOk .ix) then (ev P call callI i fr h).bind fun w h1 => match evp P p fr h1 with | some c' => PyI.pure h1 (cix c' w) | none => .bad else .bad) := by
    rw [pl_norm]
    split
    · simp only [evs]
      cases ev P call callI i fr h <;> rfl
    · rfl
  rw [en] at o
  obtain ⟨c1, ec1, gc1, g1⟩ := px_then (RR := RV X.K T.toTab) (b := simE i) (W := W) (σ := σ) hsim rfl R F o
  have mono : ∀ {Q1 Q2 : V → L2.Hp → Prop} {H1 : L2.Hp}, (∀ y H2, Q1 y H2 → Q2 y H2) → tPl X.K T.toTab W (RV X.K T.toTab) (simE i) (ev P call callI i) σ H1 Q1 → tPl X.K T.toTab W (RV X.K T.toTab) (simE i) (ev P call callI i) σ H1 Q2 := fun m hh =>
    hh.imp (fun ⟨φ, h, fr, R, F, o⟩ => ⟨φ, h, fr, R, F, o.mono m⟩) (fun ⟨b, φ, h, fr, v, R, F, e, q⟩ => ⟨b, φ, h, fr, v, R, F, e, fun G y a1 a2 a3 a4 => m _ _ (q G y a1 a2 a3 a4)⟩)
  by_cases hd : ∃ c', evp P p fr h = some c' ∧ isDct c' = true
  · obtain ⟨c0, e0, d0⟩ := hd
    refine .inr ⟨φ, h, fr, c1, R, F, ec1, fun q x hpl rp => mono (fun y H2 ⟨ψ, h2, c', a, w, u, ex, _, e, R2, hu, rc, q2, ep0, ep, _, o2⟩ => ?_) (g1 q x hpl rp)⟩
    rw [e0] at ep0; cases ep0
    obtain ⟨z, ez, o3⟩ := o2.pure
    have ez' : cget c0 w = some (some z) := by
      cases c0 <;> simp only [isDct, reduceCtorEq] at d0 <;> simp only [cix] at ez <;> (
        obtain ⟨o', e1, e2⟩ := Option.bind_eq_some_iff.mp ez
        rw [e1]; exact congrArg some e2)
    obtain ⟨pp, dg, g2, _⟩ := (CAt.of hu rc).get q2 ez'
    obtain ⟨z', rfl, rz⟩ := g2 z rfl
    exact ⟨a, z', ex, dg, o3.ok R2 rz⟩
  · refine .inl ⟨φ, h, fr, c1, R, F, ec1, fun q x hpl rp => mono (fun y H2 ⟨ψ, h2, c', a, w, u, ex, _, e, R2, hu, rc, q2, ep0, ep, _, o2⟩ => ?_) (g1 q x hpl rp)⟩
    obtain ⟨z, ez, o3⟩ := o2.pure
    cases c' with
    | lst xs =>
      obtain ⟨vs, rfl, rc⟩ := rc
      exact ⟨ψ, a, vs, xs, w, z, ex, hu, rc, q2, ez, fun w' rw' => o3.ok R2 rw'⟩
    | dik _ => exact absurd ⟨_, ep0, rfl⟩ hd
    | dit _ => exact absurd ⟨_, ep0, rfl⟩ hd
    | set _ => exact absurd ⟨_, ep0, rfl⟩ hd
theorem tPl.mono {α β : Type} {K : PySem.W.Frag} {T : Tab} {RR : Ix → L2.Hp → α → β → Prop} {b : Bool} {r : PyI.Fr → Mem → Res α} {σ : L2.St} {H1 : L2.Hp} {Q1 Q2 : β → L2.Hp → Prop} (hh : tPl K T W RR b r σ H1 Q1) (m : ∀ y H2, Q1 y H2 → Q2 y H2) : tPl K T W RR b r σ H1 Q2 :=
  hh.imp (fun ⟨φ, h, fr, R, F, o⟩ => ⟨φ, h, fr, R, F, o.mono m⟩) (fun ⟨b, φ, h, fr, v, R, F, e, q⟩ => ⟨b, φ, h, fr, v, R, F, e, fun G y a1 a2 a3 a4 => m _ _ (q G y a1 a2 a3 a4)⟩)
theorem cget_D {K : PySem.W.Frag} {T : Tab} {φ : Ix} {H : L2.Hp} {a : Addr} {u : HO} {cc : Con} {w : Val} {o : Option Val} (hu : H a = some u) (rc : RCo K T φ H a cc u) (e : cget cc w = some o) : tyV K "dict" (.ref a) H := by
  cases cc <;> simp only [cget, reduceCtorEq] at e
  · obtain ⟨ks, rfl, _⟩ := rc
    exact .inr (.inr (.inl ⟨rfl, .inl ⟨ks, hu⟩⟩))
  · obtain ⟨ks, rfl, _⟩ := rc
    exact .inr (.inr (.inl ⟨rfl, .inr ⟨ks, hu⟩⟩))
theorem s_pget (C : Ctx P G T c X call callI W k) {p : Px} {op : Pop} {es : Exs} {l y : Expr} {xs : List Expr} {ap pos : Pos} (hop : op = .get1 ∨ op = .get2) (hl : (ap.endLine == pos.line) = true) (hp : G.px c p l = true) (sim : simP p es = true) (hn : (y :: xs).length < 20) (hm : mEs G c es (y :: xs) = true) (st : (y :: xs).all notStar = true) (hi : SEs P T X call callI W es (y :: xs)) :
    SE P T X call callI W (.pl p op es) (.Call (.Attribute l "get" ap) (y :: xs) [] pos) := by
  have st' := st
  simp only [List.all_cons, Bool.and_eq_true] at st
  refine peI (pe_bm (T := "dict") (id := "dict.get") PySem.F.plainAttrs_dict PySem.F.slot_dict_get PySem.F.type_dict_get (mt_dget (X := X) (by have := C.un; omega)) (s_px C hp) (pl_Es C hm hi) (base_of (px_star hp).2 _ _) (few_of _ _ st' hn) hl (star_of st.1 _ _) (noneStar _ _ st.2)) fun σ H Q ⟨φ, h, fr, R, F, o⟩ => ?_
  rw [pl_norm] at o
  obtain ⟨c1, ec1, gc1, g1⟩ := px_then (RR := RVs X.K T.toTab) (b := simEs es) (W := W) (σ := σ) (simP_or sim) rfl R F o
  refine ⟨φ, h, fr, c1, R, F, ec1, fun q x hpl rp => ?_⟩
  have g2 := g1 q x hpl rp
  obtain ⟨a0, u0, ex0, hu0, rc0, _⟩ := id rp
  refine ⟨?_, g2.mono fun ys H2 ⟨ψ, h2, c', a, w, u, ex, _, e, R2, hu, rc, q2, ep0, ep, _, o2⟩ => ?_⟩
  · subst ex0
    rcases hop with rfl | rfl <;> cases c1 <;> simp only [popOk, Bool.false_eq_true] at gc1 <;> (obtain ⟨ks, rfl, _⟩ := rc0) <;> first | exact .inr (.inr (.inl ⟨rfl, .inl ⟨ks, hu0⟩⟩)) | exact .inr (.inr (.inl ⟨rfl, .inr ⟨ks, hu0⟩⟩))
  · have go : rGet x ys H2 Q := by
      refine get_ok (E := fun c G => W (T.exn c) none σ G) R2 (.of hu rc) ex q2 ?_
      rcases hop with rfl | rfl
      · cases w with
        | nil => exact o2.elim
        | cons w0 ws =>
          cases ws with
          | nil => exact .inl ⟨w0, rfl, o2⟩
          | cons _ _ => exact o2.elim
      · cases w with
        | nil => exact o2.elim
        | cons w0 ws =>
          cases ws with
          | nil => exact o2.elim
          | cons w1 ws =>
            cases ws with
            | nil => exact .inr ⟨w0, w1, rfl, o2⟩
            | cons _ _ => exact o2.elim
    exact go
def rPin (K : PySem.W.Frag) (T : Tab) (n : Bool) : R2 := fun x y H Q => ∃ φ h v cc a t u, Rel K T φ H h ∧ RV K T φ H v x ∧ y = .ref a ∧ H a = some u ∧ RCo K T φ H a cc u ∧ cin h v cc = some t ∧ Q (.bl (if n then !t else t)) H
theorem pin_ok (C : Ctx P G T c X call callI W k) (n : Bool) : OpR X (compareOp (if n then .NotIn else .In)) (rPin X.K T.toTab n) := by
  intro pins s σ H x y xv yv Q I rx ry ⟨φ, h, v, cc, a, t, u, R, q1, ey, hu, rc, e, q⟩
  subst ey
  cases ry
  cases n with
  | true => exact (cin_in C.un R q1 (.of hu rc) e C.tw I rx).2 Q q
  | false => exact (cin_in C.un R q1 (.of hu rc) e C.tw I rx).1 Q q
theorem r_pin {p : Px} {n : Bool} {a : Ex} {σ : L2.St} {H : L2.Hp} {Q : VK} (h : tV X.K T.toTab W (ev P call callI (.pin n a p)) σ H Q) : tOp (rPin X.K T.toTab n) (tV X.K T.toTab W (ev P call callI a)) (tPx P T X p) σ H Q := by
  obtain ⟨φ, h, fr, R, F, o⟩ := h
  refine ⟨φ, h, fr, R, F, (okR.bind (RR' := RV X.K T.toTab) o).mono fun x H1 ⟨v, ψ, h1, e, R1, q1, o1⟩ => ?_⟩
  obtain ⟨z, ez, o2⟩ := o1.pure
  obtain ⟨t, et, rfl⟩ := Option.map_eq_some_iff.mp ez
  obtain ⟨cc, ec, et⟩ := Option.bind_eq_some_iff.mp et
  exact ⟨ψ, h1, fr, cc, R1, F.mono e, ec, fun q y hpl ⟨a, u, ey, hu, rc, _⟩ => ⟨ψ, h1, v, cc, a, t, u, R1, q1, ey, hu, rc, et, o2.ok R1 rfl⟩⟩
theorem s_pin (C : Ctx P G T c X call callI W k) {p : Px} {n : Bool} {a : Ex} {l r : Expr} {pos : Pos} (hs : notSet r = true) (hp : G.px c p r = true) (ha : SE P T X call callI W a l) : SE P T X call callI W (.pin n a p) (.Compare l [if n then .NotIn else .In] [r] pos) :=
  peI (pe_cmpR (pin_ok C n) ha (s_px C hp) (behind_of hs _)) fun σ H Q h => r_pin h
theorem t_pin (C : Ctx P G T c X call callI W k) {p : Px} {n : Bool} {a : Ex} {l r : Expr} {pos : Pos} (hs : notSet r = true) (hp : G.px c p r = true) (ha : SE P T X call callI W a l) : ST P T X call callI W (.e (.pin n a p)) (.Compare l [if n then .NotIn else .In] [r] pos) :=
  ptI (pt_cmpR (pin_ok C n) ha (s_px C hp) (behind_of hs _)) fun σ H Q h => r_pin (boolV (fun fr h v h1 e => by
    simp only [ev] at e
    obtain ⟨u, _, _, e⟩ := bind_inv e
    obtain ⟨ez, _⟩ := pure_inv e
    obtain ⟨t, _, rfl⟩ := Option.map_eq_some_iff.mp ez
    exact ⟨_, rfl⟩) h)
/-- a container made of a place's -/
theorem a_plc (C : Ctx P G T c X call callI W k) {az : Az} {f : Mem → Con → Option Con} {p : Px} {n : String} {v : Value} {x : Str} {y : Expr} {p0 pos : Pos} (hr : (∃ id, v = .type id ∧ CallR X (.type id) (rBp X.K T.toTab f)) ∨ ∃ id, v = .builtin id ∧ CallR X (.builtin id) (rBp X.K T.toTab f)) (hx : G.bl c x (n : Str) = true) (hv : bootBuiltins (n : Str) = some v)
    (he : ∀ fr h, evA P call callI az fr h = PyI.pure h ((evp P p fr h).bind (f h))) (hp : G.px c p y = true) : SA P T X call callI W az (.Call (.Name x p0) [y] [] pos) := by
  obtain ⟨rfl, g1, g2, g3, g4⟩ := C.blt hx
  have st := (px_star hp).1
  have rd : ∀ σ H Q, tA X.K T.toTab W (evA P call callI az) σ H Q → tCons (tPx P T X p) tNil σ H fun xs H1 => rBp X.K T.toTab f xs H1 Q := fun σ H Q ⟨φ, h, fr, R, F, o⟩ => by
    rw [he] at o
    obtain ⟨z, ez, o2⟩ := o.pure
    obtain ⟨cc, ec, et⟩ := Option.bind_eq_some_iff.mp ez
    refine ⟨φ, h, fr, cc, R, F, ec, fun q x hpl ⟨a, u, ex, hu, rc, _⟩ => ⟨fun c G => W (T.exn c) none σ G, cc, a, φ, h, R, .of hu rc, by rw [ex], ?_⟩⟩
    rw [et]; exact o2
  have pa : PA X [y] _ := pa_cons (s_px C hp) pa_nil (star_of st _ _)
  rcases hr with ⟨id, rfl, hr⟩ | ⟨id, rfl, hr⟩
  · exact peI (pe_callTy hr g1 g2 hv pa g4 g3 (star_of st _ _) (noneStar _ _ rfl)) rd
  · exact peI (pe_callB hr g1 g2 hv pa g4 g3 (star_of st _ _) (noneStar _ _ rfl)) rd
end
end PyI
namespace PyI
open PySem PySem.Spec PyProof.Rows L2
/-! ### what is protected, put otherwise -/
def Ix.sm (χ ψ : Ix) : Ix := { χ with S := ψ.S, M := ψ.M }
section
variable {K : PySem.W.Frag} {T : Tab} {φ ψ χ ω : Ix} {H G : L2.Hp} {h : Mem}
theorem Ext.sm (e : Ext χ H ω G) (hS : ∀ a, ψ.S a → χ.S a) (hM : ∀ a, ψ.M a → χ.M a) : Ext (χ.sm ψ) H (ω.sm ψ) G :=
  { pre := e.pre, eS := rfl, eL := e.eL, tup := e.tup, keL := e.keL, keS := fun a q => e.keS a (hS a q), eM := rfl, keM := fun a q => e.keM a (hM a q), fz := e.fz, eW := e.eW }
theorem Rel.sm (R : Rel K T χ H h) (hS : ∀ a, ψ.S a → χ.S a) (hM : ∀ a, ψ.M a → χ.M a) : Rel K T (χ.sm ψ) H h :=
  R.side rfl rfl rfl (fun a q => R.iS a (hS a q)) fun a q => ⟨(R.iM a (hM a q)).1, (R.iM a (hM a q)).2.1, fun z => (R.iM a (hM a q)).2.2.1 (hS a z), (R.iM a (hM a q)).2.2.2⟩
theorem sm_ve : VExt χ H (χ.sm ψ) H := ve_side rfl rfl
theorem RFr.monoM {fr : PyI.Fr} {σ : L2.St} (q : RFr K T φ H fr σ) (e : VExt φ H ψ G) (hM : ∀ a, φ.M a → ψ.M a ∧ G a = H a) : RFr K T ψ G fr σ where
  len := q.len
  v := fun i v hv => let ⟨x, h1, h2⟩ := q.v i v hv; ⟨x, h1, h2.monoV e _ _⟩
  o := fun i c hc => let ⟨a, u, h1, h2, h3, h4⟩ := q.o i c hc; ⟨a, u, h1, (hM a h2).1, by rw [(hM a h2).2]; exact h3, h4.monoV e⟩
  d := q.d
end
section
variable {P : Pg} {G : Gam} {T : Tab2} {c : SC} {X : Cx} {call callI : Nat → List Val → Mem → Res Ret} {W : WX} {k : Nat}
abbrev W0 : WX := fun _ _ _ _ => False
theorem Ctx.blk (C : Ctx P G T c X call callI W k) (s : Shared) (H : L2.Hp) (scope : Scope) (A : Addr) (cl : List (Str × Addr)) (fp : List Addr) : Ctx P G T (c.blk scope) (X.blk s H scope (compEnvC scope cl A X.env) fp) call callI W0 k where
  N := C.N
  nd := C.nd
  sc := by
    show relabel scope X.env = relS scope c.sc
    rw [← C.sc]; rfl
  calm := C.calm
  room := C.room
  wd := C.wd
  tw := C.tw
  call := C.call
  callI := C.callI
  tk := takes0
  fnt := fun h => by cases h
/-- the loop of a comprehension -/
theorem r_comp {tg : Tgt} {it : Itx} {cond : OTe} {e : Ex} {σ : L2.St} {H : L2.Hp} {Q : VK} (h : tA X.K T.toTab W (evA P call callI (.comp tg it cond e)) σ H Q) :
    tLc (tItr X.K T.toTab W (evi P call callI it)) (gT X.K T.toTab tg) (tBl X.K T.toTab W0 (evc P call callI cond)) (tV X.K T.toTab W0 (ev P call callI e)) tg.slots σ H Q := by
  obtain ⟨φ, h, fr, R, F, o⟩ := h
  refine ⟨φ, h, fr, R, F, o.bind.mono fun J H1 hh => ?_⟩
  obtain ⟨t, ψ, h1, x1, R1, iok, o1⟩ := hh
  intro D hD
  have fD := R1.fresh hD
  have F1 := F.mono x1
  -- what holds at each turn
  let Inv' : Nat → Nat → L2.Hp → Prop := fun i m L => ∃ χ h2 acc ws, χ.M = (ψ.addM D).M ∧ χ.S = ψ.S ∧ Ext ψ H1 (χ.sm ψ) L ∧ Rel X.K T.toTab χ L h2 ∧ L D = some (.lst ws) ∧ RVs X.K T.toTab χ L acc ws ∧
    okR X.K T.toTab (RA X.K T.toTab) (χ.sm ψ) L Q (fun c G => W (T.exn c) none σ G) ((compG t tg (evc P call callI cond) (ev P call callI e) (wipeF fr tg.slots) m i acc h2).bind fun xs h2 => .ok (.lst xs) h2)
  have hSM : ∀ {χ : Ix}, χ.S = ψ.S → (∀ a, ψ.S a → χ.S a) := fun e a q => by rw [e]; exact q
  have hMM : ∀ {χ : Ix}, χ.M = (ψ.addM D).M → (∀ a, ψ.M a → χ.M a) := fun e a q => by rw [e]; exact .inl q
  refine ⟨Inv', ⟨t.cnt h1, ψ.addM D, h1, [], [], rfl, rfl, ?_, ?_, upd_same, rfl, ?_⟩, fun i m L hw => ?_⟩
  · exact ext_tup R1 hD
  · exact (R1.tup hD).addM fD (by rw [upd_same]; simp)
  · exact o1.ext (ext_tup R1 hD)
  obtain ⟨χ, h2, acc, ws, eM, eS, e3, R3, hL, hacc, o3⟩ := hw
  have eS' : ExtS ψ H1 χ L := { pre := e3.pre, eS := eS, eL := e3.eL, tup := e3.tup, keL := e3.keL, keS := e3.keS, fz := e3.fz, eW := e3.eW }
  have FL : RFr X.K T.toTab χ L (wipeF fr tg.slots) (wipe σ tg.slots) := (F1.monoM eS'.ve fun a q => ⟨hMM eM a q, e3.keM a q⟩).wipe _
  have itk := iok χ L h2 i eS' R3
  have MD : χ.M D := by rw [eM]; exact .inr rfl
  cases m with
  | zero =>
    simp only [compG] at o3
    split at o3
    · rename_i hf
      refine .inl ⟨itk.2 hf, o3.ok (R3.sm (hSM eS) (hMM eM)) ⟨D, _, rfl, ⟨(R3.iM D MD).1, (R3.iM D MD).2.1, fun z => (R3.iM D MD).2.2.1 (hSM eS D z), fD.M⟩, hL, ws, rfl, hacc.monoV sm_ve _ _⟩⟩
    · exact False.elim o3
  | succ r =>
    simp only [compG] at o3
    split at o3
    · exact False.elim o3
    · rename_i v hv
      obtain ⟨g1, g2⟩ := itk.1 v hv
      refine .inr ⟨g1, Inv' (i + 1) r, fun L' hL => ⟨r, Nat.lt_succ_self r, hL⟩, fun x L' hy => ?_⟩
      obtain ⟨e4, R4, rv⟩ := g2 x L' hy
      split at o3
      · exact False.elim o3
      · rename_i fr1 hp
        have o4 := o3.ext (e4.sm (hSM eS) (hMM eM))
        have hL4 : L' D = some (.lst ws) := by rw [e4.keM D MD]; exact hL
        refine ⟨χ, h2, wipeF fr tg.slots, v, fr1, R4, FL.mono e4, rv, hp, fun σ2 F5 hl hag => ⟨wipe_set (by rw [hl, wipe_length]) hag, χ, h2, fr1, R4, F5, ?_⟩⟩
        cases hc : evc P call callI cond fr1 h2 with
        | bad => rw [hc] at o4; exact o4
        | exc cc hc' => rw [hc] at o4; exact False.elim o4
        | ok b h3 =>
          rw [hc] at o4
          intro ω M b' e5 R5 hb
          obtain rfl : b' = b := hb
          have o5 := o4.ext (e5.sm (hSM eS) (hMM eM))
          have eMω : ω.M = (ψ.addM D).M := e5.eM.trans eM
          have eSω : ω.S = ψ.S := e5.eS.trans eS
          have e35 : Ext ψ H1 (ω.sm ψ) M := (e3.trans (e4.sm (hSM eS) (hMM eM))).trans (e5.sm (hSM eS) (hMM eM))
          have MDω : ω.M D := by rw [eMω]; exact .inr rfl
          have hL5 : M D = some (.lst ws) := by rw [e5.keM D MD]; exact hL4
          have hacc5 := (hacc.mono e4 _ _).mono e5 _ _
          cases b' with
          | false =>
            rw [if_neg Bool.false_ne_true]
            exact ⟨ω, h3, acc, ws, eMω, eSω, e35, R5, hL5, hacc5, o5⟩
          | true =>
            rw [if_pos rfl]
            refine ⟨ω, h3, fr1, R5, F5.mono e5, ?_⟩
            cases he : ev P call callI e fr1 h3 with
            | bad => simp only [he] at o5; exact False.elim o5
            | exc cc hc' => simp only [he] at o5; exact False.elim o5
            | ok y h4 =>
              simp only [he] at o5
              intro υ N y' e6 R6 ry
              have o6 := o5.ext (e6.sm (hSM eSω) (hMM eMω))
              have eMυ : υ.M = (ψ.addM D).M := e6.eM.trans eMω
              have eSυ : υ.S = ψ.S := e6.eS.trans eSω
              have MDυ : υ.M D := by rw [eMυ]; exact .inr rfl
              have hL6 : N D = some (.lst ws) := by rw [e6.keM D MDω]; exact hL5
              have hacc6 := hacc5.mono e6 _ _
              split at o6
              · rename_i hl2
                have e7 := exts_setM (o := .lst (ws ++ [y'])) R6 MDυ hL6 trivial
                have e7' : Ext (υ.sm ψ) N (υ.sm ψ) (upd N D (.lst (ws ++ [y']))) := { pre := ⟨[], by simp⟩, eS := rfl, eL := fun _ q => q, tup := e7.tup, keL := e7.keL, keS := fun a q => e7.keS a (hSM eSυ a q), eM := rfl, keM := fun a q => upd_ne fun z => fD.M (z ▸ q), fz := e7.fz }
                refine ⟨ws, hL6, by rw [hacc6.length]; exact hl2, υ, h4, acc ++ [y], ws ++ [y'], eMυ, eSυ, (e35.trans (e6.sm (hSM eSω) (hMM eMω))).trans e7', R6.setM MDυ hL6 trivial, upd_same, ?_, o6.ext e7'⟩
                exact (hacc6.append (.one ry)).monoV e7.ve _ _
              · exact False.elim o6
theorem folded_of {e : Expr} (h : notSet e = true) (env : Env) (x : Value) : foldedSetIterable e env x = Pure.pure x := by
  cases e <;> first | rfl | (simp [notSet] at h)
abbrev SOT (P : Pg) (T : Tab2) (X : Cx) (call callI : Nat → List Val → Mem → Res Ret) (W : WX) (e : OTe) (x : List Expr) : Prop := PTs X x (tBl X.K T.toTab W (evc P call callI e))
theorem s_otno : SOT P T X call callI W .no [] :=
  ⟨fun pins s σ H Q I ⟨φ, h, fr, R, F, o⟩ => pts_nil.run pins s σ H Q I (okR.ok (v := true) o R rfl)⟩
theorem s_otso {e : Te} {x : Expr} (h : ST P T X call callI W e x) : SOT P T X call callI W (.so e) [x] :=
  ⟨fun pins s σ H Q I hh => (pts_one h).run pins s σ H Q I hh⟩
theorem a_comp (C : Ctx P G T c X call callI W k) {tg : Tgt} {it : Itx} {cond : OTe} {e : Ex} {t i elt : Expr} {ifs : List Expr} {scope : Scope} {pos : Pos} (hs : notSet i = true) (hb : blkC c.N c.sc scope (mOwn c tg) = true) (ht : mTg (c.blk scope) tg t = true)
    (hi : SI P T X call callI W it t i) (he : ∀ X' , Ctx P G T (c.blk scope) X' call callI W0 k → SE P T X' call callI W0 e elt) (hc : ∀ X', Ctx P G T (c.blk scope) X' call callI W0 k → SOT P T X' call callI W0 cond ifs) :
    SA P T X call callI W (.comp tg it cond e) (.ListComp elt [⟨t, i, ifs, 0⟩] scope pos) := by
  have hN : X.N.Nodup := by rw [C.N]; exact C.nd
  have ok : BlkOk X.N X.env.scope scope (mOwn c tg) := by rw [C.N, C.sc]; exact blkOk_by hb
  refine peI (pe_lc (g := gT X.K T.toTab tg) (tt := tBl X.K T.toTab W0 (evc P call callI cond)) (te := tV X.K T.toTab W0 (ev P call callI e)) C.calm hN hi ok (fun s H A cl fp => s_tg (C.blk s H scope A cl fp) _ _ ht) (fun s H A cl fp => hc _ (C.blk s H scope A cl fp)) (fun s H A cl fp => he _ (C.blk s H scope A cl fp)) (folded_of hs _)) fun σ H Q h => ?_
  rw [own_slots (c := c) (c' := c.blk scope) rfl ht]
  exact r_comp h
theorem mEs_star {c : SC} : ∀ {es : Exs} {xs : List Expr}, mEs G c es xs = true → xs.all notStar = true ∧ (xs = [] → es = .nil)
  | .nil, [], _ => ⟨rfl, fun _ => rfl⟩
  | .nil, _ :: _, h => by simp [mEs] at h
  | .cons e es, [], h => by simp [mEs] at h
  | .cons e es, x :: xs, h => by
    simp only [mEs, Bool.and_eq_true] at h
    exact ⟨by rw [List.all_cons, h.1.1, (mEs_star h.2).1]; rfl, fun z => by cases z⟩
end
end PyI
namespace PyI
open PySem PySem.Spec PyProof.Rows L2
/-! ### a new instance becomes a value -/
structure Drop (φ χ ω : Ix) : Prop where
  ref : ∀ (n : Nat) (a a' : Addr), φ.c[n]? = some a' → χ.c[n]? = some a → ω.c[n]? = some a
  L : ∀ a, χ.L a → ω.L a
section
variable {K : PySem.W.Frag} {T : Tab} {φ χ ω : Ix} {H J : L2.Hp} {h : Mem}
mutual
theorem RV.unc (D : Drop φ χ ω) : ∀ (v : Val) (y' y : V), RV K T φ H v y' → RV K T χ J v y → RV K T ω J v y
  | .non, _, _, _, q => q
  | .bl _, _, _, _, q => q
  | .int _, _, _, _, q => q
  | .str _, _, _, _, q => q
  | .tup xs, _, _, p, q => by
    obtain ⟨a', vs', _, _, p⟩ := p
    obtain ⟨a, vs, e, h1, q⟩ := q
    exact ⟨a, vs, e, h1, RVs.unc D xs vs' vs p q⟩
  | .ref n, _, _, p, q => by
    obtain ⟨a', p1, _⟩ := p
    obtain ⟨a, q1, q2⟩ := q
    exact ⟨a, D.ref n a a' p1 q1, q2⟩
  | .fn _, _, _, _, q => q
  | .lst xs, _, _, p, q => by
    obtain ⟨a', vs', _, _, p⟩ := p
    obtain ⟨a, vs, e, h1, q⟩ := q
    exact ⟨a, vs, e, ⟨D.L _ h1.1, h1.2⟩, RVs.unc D xs vs' vs p q⟩
  | .dik xs, _, _, p, q => by
    obtain ⟨a', vs', _, _, p⟩ := p
    obtain ⟨a, vs, e, h1, q⟩ := q
    exact ⟨a, vs, e, ⟨D.L _ h1.1, h1.2⟩, RKl.unc D xs vs' vs p q⟩
  | .ins _ xs, _, _, p, q => by
    obtain ⟨a', dx', vs', _, _, p⟩ := p
    obtain ⟨a, dx, vs, e, h1, q⟩ := q
    exact ⟨a, dx, vs, e, ⟨D.L _ h1.1, h1.2⟩, RFl.unc D xs vs' vs p q⟩
  | .ktp xs, _, _, p, q => by
    obtain ⟨a', vs', _, _, p⟩ := p
    obtain ⟨a, vs, e, h1, q⟩ := q
    exact ⟨a, vs, e, h1, RVs.unc D xs vs' vs p q⟩
  | .kdk xs, _, _, p, q => by
    obtain ⟨a', _, _, p⟩ := p
    obtain ⟨a, e, h1, q⟩ := q
    exact ⟨a, e, h1, RDl.unc D a' a xs p q⟩
  | .kls xs, _, _, p, q => by
    obtain ⟨a', vs', _, _, p⟩ := p
    obtain ⟨a, vs, e, h1, q⟩ := q
    exact ⟨a, vs, e, h1.imp (fun h1 => ⟨D.L _ h1.1, h1.2⟩) id, RVs.unc D xs vs' vs p q⟩
theorem RVs.unc (D : Drop φ χ ω) : ∀ (vs : List Val) (ys' ys : List V), RVs K T φ H vs ys' → RVs K T χ J vs ys → RVs K T ω J vs ys
  | [], _, _, _, q => q
  | v :: vs, _, _, p, q => by
    obtain ⟨y', r', _, p1, p2⟩ := p
    obtain ⟨y, r, e, q1, q2⟩ := q
    exact ⟨y, r, e, RV.unc D v y' y p1 q1, RVs.unc D vs r' r p2 q2⟩
theorem RKl.unc (D : Drop φ χ ω) : ∀ (vs : List (PyI.Key × Val)) (ys' ys : List (L2.Key × V)), RKl K T φ H vs ys' → RKl K T χ J vs ys → RKl K T ω J vs ys
  | [], _, _, _, q => q
  | v :: vs, _, _, p, q => by
    obtain ⟨y', r', _, p1, p2⟩ := p
    obtain ⟨y, r, e, q1, q2⟩ := q
    exact ⟨y, r, e, RKp.unc D v y' y p1 q1, RKl.unc D vs r' r p2 q2⟩
theorem RKp.unc (D : Drop φ χ ω) : ∀ (p : PyI.Key × Val) (y' y : L2.Key × V), RKp K T φ H p y' → RKp K T χ J p y → RKp K T ω J p y
  | (k, v), y', y, p, q => ⟨q.1, RV.unc D v y'.2 y.2 p.2 q.2⟩
theorem RFl.unc (D : Drop φ χ ω) : ∀ (vs : List (Nat × Val)) (ys' ys : List (Str × V)), RFl K T φ H vs ys' → RFl K T χ J vs ys → RFl K T ω J vs ys
  | [], _, _, _, q => q
  | v :: vs, _, _, p, q => by
    obtain ⟨y', r', _, p1, p2⟩ := p
    obtain ⟨y, r, e, q1, q2⟩ := q
    exact ⟨y, r, e, RFp.unc D v y' y p1 q1, RFl.unc D vs r' r p2 q2⟩
theorem RFp.unc (D : Drop φ χ ω) : ∀ (p : Nat × Val) (y' y : Str × V), RFp K T φ H p y' → RFp K T χ J p y → RFp K T ω J p y
  | (k, v), y', y, p, q => ⟨q.1, RV.unc D v y'.2 y.2 p.2 q.2⟩
theorem RDl.unc (D : Drop φ χ ω) (a' a : Addr) : ∀ (vs : List (PyI.Key × Val)), RDl K T φ H a' vs → RDl K T χ J a vs → RDl K T ω J a vs
  | [], _, q => q
  | v :: vs, p, q => ⟨RDp.unc D a' a v p.1 q.1, RDl.unc D a' a vs p.2 q.2⟩
theorem RDp.unc (D : Drop φ χ ω) (a' a : Addr) : ∀ (p : PyI.Key × Val), RDp K T φ H a' p → RDp K T χ J a p → RDp K T ω J a p
  | (k, v), p, q => by
    obtain ⟨_, y', _, _, p⟩ := p
    obtain ⟨s, y, e1, q1, q⟩ := q
    exact ⟨s, y, e1, q1, RV.unc D v y' y p q⟩
end
theorem RKs.unc {κ κ' : Type} {k : κ → κ'} (D : Drop φ χ ω) : ∀ {vs : List (κ × Val)} {ys' ys : List (κ' × V)}, RKs K T k φ H vs ys' → RKs K T k χ J vs ys → RKs K T k ω J vs ys
  | [], _, _, _, q => q
  | v :: vs, _, _, p, q => by
    obtain ⟨y', r', _, p1, p2⟩ := p
    obtain ⟨y, r, e, q1, q2⟩ := q
    exact ⟨y, r, e, RV.unc D _ y' y p1 q1, RKs.unc D p2 q2⟩
theorem RCo.unc (D : Drop φ χ ω) {a a' : Addr} : ∀ {c : Con} {u' u : HO}, RCo K T φ H a' c u' → RCo K T χ J a c u → RCo K T ω J a c u
  | .lst _, _, _, p, q => by obtain ⟨vs', _, p1⟩ := p; obtain ⟨vs, e1, q1⟩ := q; exact ⟨vs, e1, RVs.unc D _ vs' vs p1 q1⟩
  | .dik _, _, _, p, q => by obtain ⟨vs', _, p1⟩ := p; obtain ⟨vs, e1, q1⟩ := q; exact ⟨vs, e1, RKs.unc D p1 q1⟩
  | .dit _, _, _, p, q => by obtain ⟨vs', _, p1⟩ := p; obtain ⟨vs, e1, q1⟩ := q; exact ⟨vs, e1, RKs.unc D p1 q1⟩
  | .set _, _, _, _, q => q
theorem RSs.unc (D : Drop φ χ ω) {n : Nat} (ho : ∀ f, ω.o n f = χ.o n f) (hw : ω.w = χ.w) : ∀ {fs : List (Nat × Sl)} {ks' ks : List (Str × V)}, RSs K T φ H n fs ks' → RSs K T χ J n fs ks → RSs K T ω J n fs ks
  | [], _, _, _, q => q
  | (f, s) :: fs, _, _, p, q => by
    obtain ⟨y', r', _, p1, p2⟩ := p
    obtain ⟨y, r, e, q1, q2⟩ := q
    refine ⟨y, r, e, ?_, RSs.unc D ho hw p2 q2⟩
    cases s with
    | e => exact fun a z => q1 a (by rw [← hw]; exact z)
    | v x => exact RV.unc D x y' y p1 q1
    | o c =>
      obtain ⟨a', u', _, _, _, p1⟩ := p1
      obtain ⟨a, u, e1, e2, e3, q1⟩ := q1
      exact ⟨a, u, (ho _).trans e1, e2, e3, RCo.unc D p1 q1⟩
theorem ROb.unc (D : Drop φ χ ω) {n : Nat} (ho : ∀ f, ω.o n f = χ.o n f) (hw : ω.w = χ.w) {a a' : Addr} : ∀ {o : Ob} {u' u : HO}, ROb K T φ H n a' o u' → ROb K T χ J n a o u → ROb K T ω J n a o u
  | .con _, _, _, p, q => RCo.unc D p q
  | .lck _, _, _, p, q => by obtain ⟨_, v', _, p1⟩ := p; obtain ⟨ob, v, e1, q1⟩ := q; exact ⟨ob, v, e1, RCo.unc D p1 q1⟩
  | .ins _ _, _, _, p, q => by obtain ⟨_, ks', _, p1⟩ := p; obtain ⟨dx, ks, e1, q1⟩ := q; exact ⟨dx, ks, e1, RSs.unc D ho hw p1 q1⟩
theorem RSs.vals (D : Drop φ χ ω) {n : Nat} : ∀ {fl : List Nat} {vs : List Val} {xs : List V} {ks : List (Str × V)}, RVs K T φ H vs xs → RSs K T χ J n (fl.zip (vs.map Sl.v)) ks → RFl K T ω J (fl.zip vs) ks
  | [], _, _, _, _, q => q
  | _ :: _, [], _, _, _, q => q
  | f :: fl, v :: vs, _, _, p, q => by
    obtain ⟨y', r', _, p1, p2⟩ := p
    obtain ⟨y, r, e, q1, q2⟩ := q
    exact ⟨_, r, e, ⟨rfl, RV.unc D v y' y p1 q1⟩, RSs.vals D p2 q2⟩
theorem Rel.unc {h : Mem} {x : Addr} {d : Nat} {fl : List Nat} {vs : List Val} {xs : List V} (R : Rel K T φ H h) (qs : RVs K T φ H vs xs) (fx : Fresh φ x) (e : Ext φ H χ J) (hx : χ.c[h.length]? = some x) (R2 : Rel K T χ J (h ++ [.ins d (fl.zip (vs.map Sl.v))])) :
    ∃ ω, Ext φ H ω J ∧ Rel K T ω J h ∧ RV K T ω J (.ins d (fl.zip vs)) (.ref x) := by
  have hc : χ.c = φ.c ++ [x] := by
    obtain ⟨l, hl⟩ := e.pre
    have h1 := R2.len
    rw [hl] at h1
    simp [R.len] at h1
    obtain ⟨y, rfl⟩ := List.length_eq_one_iff.mp h1
    rw [hl, List.getElem?_append_right (by rw [R.len]; exact Nat.le_refl _)] at hx
    simp [R.len] at hx
    rw [hl, hx]
  have xc : χ.tr x := tr_of hx
  have nd := R2.nd
  rw [hc, List.nodup_append] at nd
  have xn : x ∉ φ.c := fun z => nd.2.2 x z x (by simp) rfl
  let ω : Ix := { χ with c := φ.c, o := fun n f => if n < φ.c.length then χ.o n f else none, L := fun a => χ.L a ∨ a = x }
  have oi' : ∀ n f a, ω.o n f = some a → n < φ.c.length ∧ χ.o n f = some a := fun n f a q => by
    have q : (if n < φ.c.length then χ.o n f else none) = some a := q
    split at q
    · rename_i hl; exact ⟨hl, q⟩
    · cases q
  have tr : ∀ a, ω.tr a → χ.tr a := fun a q => by
    rcases q with q | ⟨n, f, q⟩
    · exact .inl (by rw [hc]; exact List.mem_append_left _ q)
    · exact .inr ⟨n, f, (oi' n f a q).2⟩
  have ntx : ¬ ω.tr x := fun q => by
    rcases q with q | ⟨n, f, q⟩
    · exact xn q
    · exact R2.oc n f x (oi' n f x q).2 (by rw [hc]; simp)
  have D : Drop φ χ ω := ⟨fun n a a' p q => by
    have hl := (List.getElem?_eq_some_iff.mp p).1
    rw [hc, List.getElem?_append_left hl] at q
    exact q, fun a q => .inl q⟩
  have hlt : ∀ {n : Nat} {ob : Ob}, h[n]? = some ob → n < φ.c.length := fun e => by rw [R.len]; exact (List.getElem?_eq_some_iff.mp e).1
  obtain ⟨ux, hux, rx⟩ := R2.at_ h.length x (.ins d (fl.zip (vs.map Sl.v))) hx (by simp)
  obtain ⟨dx, ks, rfl, rx⟩ := rx
  refine ⟨ω, { pre := ⟨[], by simp [ω]⟩, eS := e.eS, eL := fun a q => .inl (e.eL a q), tup := e.tup, keL := e.keL, keS := e.keS, eM := e.eM, keM := e.keM, fz := e.fz, eW := e.eW }, ?_, x, dx, ks, rfl, ⟨.inr rfl, hux⟩, RSs.vals D qs rx⟩
  refine ⟨R.len, R.nd, fun n f a q => ?_, fun n f m g a q1 q2 => R2.oi n f m g a (oi' n f a q1).2 (oi' m g a q2).2, fun n f a q => ⟨(oi' n f a q).1, (R2.on n f a (oi' n f a q).2).2⟩, fun a q => ?_, fun a q => ?_, fun a q => ?_, fun n a ob e1 e2 => ?_⟩
  · have := R2.oc n f a (oi' n f a q).2
    rw [hc] at this
    exact fun z => this (List.mem_append_left _ z)
  · rcases q with q | rfl
    · exact ⟨fun z => (R2.iL a q).1 (tr a z), (R2.iL a q).2⟩
    · exact ⟨ntx, by rw [hux]; simp⟩
  · refine ⟨fun z => (R2.iS a q).1 (tr a z), fun z => ?_, (R2.iS a q).2.2⟩
    rcases z with z | rfl
    · exact (R2.iS a q).2.1 z
    · exact (R2.iS _ q).1 xc
  · refine ⟨fun z => (R2.iM a q).1 (tr a z), fun z => ?_, (R2.iM a q).2.2⟩
    rcases z with z | rfl
    · exact (R2.iM a q).2.1 z
    · exact (R2.iM _ q).1 xc
  · have e1 : φ.c[n]? = some a := e1
    have hl := hlt e2
    obtain ⟨u', q1, q2⟩ := R.at_ n a ob e1 e2
    obtain ⟨u, q3, q4⟩ := R2.at_ n a ob (by rw [hc, List.getElem?_append_left hl]; exact e1) (by rw [List.getElem?_append_left (by rw [← R.len]; exact hl)]; exact e2)
    exact ⟨u, q3, ROb.unc D (fun f => if_pos hl) rfl q2 q4⟩
end
section
variable {P : Pg} {G : Gam} {T : Tab2} {c : SC} {X : Cx} {call callI : Nat → List Val → Mem → Res Ret} {W : WX} {k : Nat}
theorem s_mkI (C : Ctx P G T c X call callI W k) {d : Nat} {es : Exs} {n : Str} {xs : List Expr} {p pos : Pos} (hf : G.cnm.lookup d = some n) (hg : c.gl n = true) (st : xs.all notStar = true) (hz : xs = [] → es = .nil) (ha : SEs P T X call callI W es xs) :
    SE P T X call callI W (.mkI d es) (.Call (.Name n p) xs [] pos) := by
  obtain ⟨dl, dm⟩ := C.wd.cnm d n hf
  obtain ⟨Cd, hC⟩ := Option.isSome_iff_exists.mp dl
  obtain ⟨g1, g2, g3⟩ := C.gl hg
  obtain ⟨c1, c2, c3, c4, ⟨F, hF, hdf⟩, c6⟩ := C.wd.cls d Cd hC
  have main : ∀ {φ : Ix} {H : L2.Hp} {h1 : Mem} {vs : List Val} {xs : List V} {σ : L2.St} {Q : VK}, Rel X.K T.toTab φ H h1 → RVs X.K T.toTab φ H vs xs →
      okR X.K T.toTab (RV X.K T.toTab) φ H Q (fun c G => W (T.exn c) none σ G) (match P.cl d with
        | some C => (match C.rc with
          | some fl => if vs.length = fl.length then (match callI C.ini (.ref h1.length :: vs) (h1 ++ [.ins d []]) with
            | .ok (.v .non) h2 => @ite _ (h2 = h1 ++ [.ins d (fl.zip (vs.map Sl.v))]) (Classical.propDecidable _) (.ok (.ins d (fl.zip vs)) h1) .bad
            | _ => .bad) else .bad
          | none => .bad)
        | none => .bad) → ∀ x dx, H x = none → H dx = none → dx ≠ x → spR X.K T.toTab (callI Cd.ini) (.ref x :: xs) (upd (upd H dx (.own x)) x (.ins (T.cls d) dx [])) (fun v H2 => v = .non ∧ Q (.ref x) H2) (WE' W σ) := fun {φ H h1 vs xs σ Q} R q o x dx hx hd ne => by
    obtain ⟨e1, R1⟩ := R.made (d := d) hx hd ne
    rw [hC] at o
    simp only [] at o
    split at o <;> try exact False.elim o
    rename_i fl hfl
    split at o <;> try exact False.elim o
    refine ⟨(φ.push x).call, _, .ref h1.length :: vs, R1.call, ⟨_, _, rfl, R.new_ref.monoV call_ve _ _, (q.mono e1 _ _).monoV call_ve _ _⟩, ?_⟩
    refine okR.call ?_ R1
    cases hr : callI Cd.ini (.ref h1.length :: vs) (h1 ++ [.ins d []]) with
    | bad => rw [hr] at o; exact False.elim o
    | exc cc hc => rw [hr] at o; exact False.elim o
    | ok z hh =>
      rw [hr] at o
      split at o <;> try exact False.elim o
      rename_i heq
      cases heq
      by_cases hh2 : hh = h1 ++ [.ins d (fl.zip (vs.map Sl.v))]
      · rw [if_pos hh2] at o
        subst hh2
        refine fun χ L y e2 R2 q2 => ⟨q2, ?_⟩
        obtain ⟨ω, e3, R3, q3⟩ := Rel.unc R q (R.fresh hx) (e1.trans e2) (e2.get (by rw [← R.len]; simp [Ix.push])) R2
        exact o ω L (.ref x) e3 R3 q3
      · rw [if_neg hh2] at o
        exact False.elim o
  obtain ⟨j, hj, FI⟩ := C.callI
  cases xs with
  | nil =>
    refine peI (pe_makeS0 c6 (FI Cd.ini F hF) (C.room.mono hj) g1 dm (C.wd.bnd _ F hF hdf) (passW C) g2) fun σ H Q ⟨φ, h, fr, R, F, o⟩ => ?_
    rw [hz rfl] at o
    exact main R (show RVs X.K T.toTab φ H [] [] from rfl) o
  | cons x xs =>
    simp only [List.all_cons, Bool.and_eq_true] at st
    refine peI (pe_makeS c6 (FI Cd.ini F hF) (C.room.mono hj) g1 dm (C.wd.bnd _ F hF hdf) (passW C) ha g2 (star_of st.1 _ _) (noneStar _ _ st.2)) fun σ H Q h => ?_
    exact (tR.bind1 (R1 := RVs X.K T.toTab) h).mono fun x H1 ⟨v, φ, h1, fr, R, F, q, o⟩ => main R q o
end
end PyI
namespace PyI
open PySem PySem.Spec PyProof.Rows L2
theorem kwm_any {m : Nat} {r : Str × Int} : ∀ {l : List (Nat × Str × Int)}, l.lookup m = some r → l.any (fun q => decide (q.1 = m) && decide (q.2.1 = r.1)) = true ∧ l.any (fun q => decide (q.1 = m) && decide (q.2.2 = r.2)) = true
  | [], h => by simp at h
  | (a, b) :: l, h => by
    rw [List.lookup_cons] at h
    by_cases e : m = a
    · subst e
      simp only [beq_self_eq_true, Option.some.injEq] at h
      subst h; simp
    · have : (m == a) = false := by simpa using e
      rw [this] at h
      have ih := kwm_any (l := l) h
      constructor
      · rw [List.any_cons, ih.1, Bool.or_true]
      · rw [List.any_cons, ih.2, Bool.or_true]
mutual
theorem sE {P : Pg} {G : Gam} {T : Tab2} {call callI : Nat → List Val → Mem → Res Ret} {k : Nat} : ∀ (e : Ex) {c : SC} {X : Cx} {W : WX} (C : Ctx P G T c X call callI W k) (x : Expr), mE G c e x = true → SE P T X call callI W e x
  | .lit l, _, _, _, C, x, h => s_lit C l x h
  | .var i, _, _, _, C, x, h => s_var C i x h
  | .con g, _, _, _, C, x, h => s_con C g x h
  | .bin o a b, _, _, _, C, x, h => by
    simp only [mE] at h
    split at h <;> try cases h
    simp only [Bool.and_eq_true, decide_eq_true_eq] at h
    obtain ⟨⟨h1, h2⟩, h3⟩ := h
    subst h1
    exact s_bin C (sE a C _ h2) (sE b C _ h3)
  | .neg a, _, _, _, C, x, h => by
    simp only [mE] at h
    split at h <;> try cases h
    exact s_neg C (sE a C _ h)
  | .nt a, _, _, _, C, x, h => by
    simp only [mE] at h
    split at h <;> try cases h
    exact s_nt C (sE a C _ h)
  | .and a b, _, _, _, C, x, h => by
    simp only [mE] at h
    split at h <;> try cases h
    · simp only [Bool.and_eq_true] at h
      exact s_and C (sE a C _ h.1) (pe_one (sE b C _ h.2))
    · simp only [Bool.and_eq_true] at h
      exact s_and C (sE a C _ h.1) (sE b C _ h.2)
  | .or a b, _, _, _, C, x, h => by
    simp only [mE] at h
    split at h <;> try cases h
    · simp only [Bool.and_eq_true] at h
      exact s_or C (sE a C _ h.1) (pe_one (sE b C _ h.2))
    · simp only [Bool.and_eq_true] at h
      exact s_or C (sE a C _ h.1) (sE b C _ h.2)
  | .cmp o a b, _, _, _, C, x, h => by
    simp only [mE] at h
    split at h <;> try cases h
    simp only [Bool.and_eq_true, decide_eq_true_eq] at h
    obtain ⟨⟨⟨h1, h2⟩, h3⟩, h4⟩ := h
    subst h1
    exact s_cmp C h2 (sE a C _ h3) (sE b C _ h4)
  | .chn o p a b d, _, _, _, C, x, h => by
    simp only [mE] at h
    split at h <;> try cases h
    simp only [Bool.and_eq_true, decide_eq_true_eq] at h
    obtain ⟨⟨⟨⟨⟨h1, h2⟩, h3⟩, h4⟩, h5⟩, h6⟩ := h
    subst h1; subst h2
    exact s_chn C h3 (sE a C _ h4) (sE b C _ h5) (sE d C _ h6)
  | .isN n a, _, _, _, C, x, h => by
    simp only [mE] at h
    split at h <;> try cases h
    simp only [Bool.and_eq_true, decide_eq_true_eq] at h
    obtain ⟨h1, h2⟩ := h
    subst h1
    exact s_isN C (sE a C _ h2)
  | .isB n b a, _, _, _, C, x, h => by
    simp only [mE] at h
    split at h <;> try cases h
    simp only [Bool.and_eq_true, decide_eq_true_eq] at h
    obtain ⟨⟨h1, h2⟩, h3⟩ := h
    subst h1; subst h2
    exact s_isB C (sE a C _ h3)
  | .tup es, _, _, _, C, x, h => by
    simp only [mE] at h
    split at h <;> try cases h
    exact s_tup C (sEs es C _ h)
  | .ix a i, _, _, _, C, x, h => by
    simp only [mE] at h
    split at h <;> try cases h
    simp only [Bool.and_eq_true] at h
    exact s_ix C h.1.1 (sE a C _ h.1.2) (sE i C _ h.2)
  | .sl a lo hi, _, _, _, C, x, h => by
    simp only [mE] at h
    split at h <;> try cases h
    simp only [Bool.and_eq_true] at h
    exact s_sl C (sE a C _ h.1.1) (sOE lo C _ h.1.2) (sOE hi C _ h.2)
  | .att a f, _, _, _, C, x, h => by
    simp only [mE] at h
    split at h <;> try cases h
    simp only [Bool.and_eq_true, decide_eq_true_eq] at h
    exact s_att C h.1.1 h.1.2 (sE a C _ h.2)
  | .cal q f es, _, _, _, C, x, h => by
    simp only [mE] at h
    split at h <;> try cases h
    · split at h <;> try cases h
      simp only [Bool.and_eq_true, decide_eq_true_eq] at h
      exact s_cal C h.1.1 (C.wd.fdf _ _ h.1.1) h.1.2 (mEs_star h.2).1 (mEs_star h.2).2 (sEs es C _ h.2)
    · split at h <;> try cases h
      simp only [Bool.and_eq_true, decide_eq_true_eq] at h
      obtain ⟨⟨⟨⟨⟨⟨⟨h1, h2⟩, h3⟩, h4⟩, h5⟩, h6⟩, h7⟩, h8⟩ := h
      exact s_smeth C h1 h2 h3 h4 h5 h6 h7 (mEs_star h8).1 (sEs es C _ h8)
  | .mk d q es, _, _, _, C, x, h => by
    simp only [mE] at h
    split at h <;> try cases h
    split at h <;> try cases h
    simp only [Bool.and_eq_true, decide_eq_true_eq] at h
    exact s_mk C h.1.1 h.1.2 (mEs_star h.2).1 (mEs_star h.2).2 (sEs es C _ h.2)
  | .mkI d es, _, _, _, C, x, h => by
    simp only [mE] at h
    split at h <;> try cases h
    simp only [Bool.and_eq_true, decide_eq_true_eq] at h
    exact s_mkI C h.1.1 h.1.2 (mEs_star h.2).1 (mEs_star h.2).2 (sEs es C _ h.2)
  | .met a m q b es, _, _, _, C, x, h => by
    simp only [mE] at h
    split at h <;> try cases h
    · split at h <;> try cases h
      simp only [Bool.and_eq_true, decide_eq_true_eq, Bool.or_eq_true] at h
      obtain ⟨⟨⟨⟨⟨⟨⟨h1, h2⟩, h3⟩, h4⟩, h5⟩, h6⟩, h7⟩, h8⟩ := h
      exact s_met C h1 h2 h8 h3 h4 h5 (mEs_star h7).1 (mEs_star h7).2 (sE a C _ h6) (sEs es C _ h7)
    · split at h <;> try cases h
      split at h <;> try cases h
      rename_i r hr
      simp only [Bool.and_eq_true, decide_eq_true_eq] at h
      obtain ⟨⟨⟨⟨⟨⟨⟨h1, h2⟩, h3⟩, h4⟩, h5⟩, h6⟩, h7⟩, h8⟩ := h
      subst h2
      have hk := kwm_any hr
      rw [h6] at hk
      cases es with
      | nil => simp [mEs] at h8
      | cons e1 es =>
        cases es with
        | nil => simp [mEs] at h8
        | cons e2 es =>
          cases es with
          | cons e3 es => simp [mEs] at h8
          | nil =>
            simp only [mEs, Bool.and_eq_true] at h8
            exact s_metK C h1 hk.1 h3 h4 h5 (sE a C _ h7) (sE e1 C _ h8.1.2) (sE e2 C _ h8.2.1.2)
    · split at h <;> try cases h
      split at h <;> try cases h
      rename_i r hr
      simp only [Bool.and_eq_true, decide_eq_true_eq] at h
      obtain ⟨⟨⟨⟨⟨⟨⟨h1, h2⟩, h3⟩, h4⟩, h5⟩, h6⟩, h7⟩, h8⟩ := h
      subst h2
      have hk := kwm_any hr
      unfold isL2 at h6
      split at h6
      · rename_i e1 j
        simp only [decide_eq_true_eq] at h6
        subst h6
        simp only [mEs, Bool.and_eq_true] at h8
        exact s_metD C h1 hk.2 h3 h4 h5 (sE a C _ h7) (sE e1 C _ h8.1.2)
      · cases h6
  | .blt b es, c, X, W, C, x, h => by
    have key : ∀ {s : Str} {n : Str} {xs : List Expr} {p pos : Pos}, b.name = some s → mEs G c es xs = true → (match xs with | [] => false | _ => true) = true → G.bl c n s = true → SE P T X call callI W (.blt b es) (.Call (.Name n p) xs [] pos) := fun {s n xs p pos} hs hes hne hn => by
      cases xs with
      | nil => cases hne
      | cons y ys =>
        have st := (mEs_star hes).1
        have ih := sEs es C _ hes
        cases b <;> simp only [Blt.name, Option.some.injEq, reduceCtorEq] at hs <;> subst hs
        · exact s_bltB C (len_ok C.tw) hn (by decide +kernel) st ih
        · exact s_bltT C int_ok hn (by decide +kernel) st ih
        · exact s_bltT C tup_ok hn (by decide +kernel) st ih
        · exact s_bltB C (max2_ok C.calm) hn (by decide +kernel) st ih
        · exact s_bltB C (min2_ok C.calm) hn (by decide +kernel) st ih
        · exact s_bltB C (max1_ok C.calm) hn (by decide +kernel) st ih
        · exact s_bltB C (sum_ok C.calm) hn (by decide +kernel) st ih
        · exact s_bltB C ord_ok hn (by decide +kernel) st ih
        · exact s_bltT C str_ok hn (by decide +kernel) st ih
    unfold mE at h
    split at h <;> try cases h
    split at h <;> try cases h
    rename_i s hs
    simp only [Bool.and_eq_true] at h
    exact key hs h.1.2 h.2 h.1.1
  | .isi a t, _, _, _, C, x, h => by
    simp only [mE] at h
    split at h <;> try cases h
    · simp only [Bool.and_eq_true] at h
      obtain ⟨⟨⟨h1, h2⟩, h3⟩, h4⟩ := h
      split at h4
      · simp only [Bool.and_eq_true, decide_eq_true_eq] at h4
        exact s_isiC C h1 h2 h4.1 h4.2 (sE a C _ h3)
      · split at h4 <;> try cases h4
        rename_i s hs
        exact s_isi C h1 h2 hs h4 (sE a C _ h3)
    · simp only [Bool.and_eq_true] at h
      obtain ⟨⟨⟨⟨⟨h0, h1⟩, h2⟩, h3⟩, h4⟩, h5⟩ := h
      cases t <;> first | (cases h0; done) | skip
      exact s_isiTl C h1 h2 h4 h5 (sE a C _ h3)
  | .az a, _, _, _, C, x, h => s_az C (sA a C x (by simpa only [mE] using h))
  | .hp a, _, _, _, C, x, h => s_hp C (sA a C x (by simpa only [mE] using h))
  | .pl p op es, c, X, W, C, x, h => by
    unfold mE at h
    simp only [Bool.and_eq_true] at h
    obtain ⟨hsim, h⟩ := h
    cases op with
    | len =>
      simp only [] at h
      split at h <;> try cases h
      simp only [Bool.and_eq_true] at h
      exact s_plen C h.1.1 h.2
    | tup =>
      simp only [] at h
      split at h <;> try cases h
      simp only [Bool.and_eq_true] at h
      exact s_ptup C h.1.1 h.2
    | ix =>
      simp only [] at h
      split at h <;> try cases h
      simp only [Bool.and_eq_true] at h
      exact s_pix C h.1.1 h.1.2 hsim h.2 (sE _ C _ h.2)
    | get1 =>
      simp only [] at h
      split at h <;> try cases h
      simp only [Bool.and_eq_true, decide_eq_true_eq] at h
      obtain ⟨⟨⟨⟨h1, h2⟩, h3⟩, h4⟩, h5⟩ := h
      subst h1
      rename_i k0 _ i0
      have he : mEs G c (.cons i0 .nil) [k0] = true := by simp only [mEs, Bool.and_eq_true]; exact ⟨⟨h3, h5⟩, trivial⟩
      exact s_pget C (.inl rfl) h2 h4 hsim (by simp) he (mEs_star he).1 (sEs _ C _ he)
    | get2 =>
      simp only [] at h
      split at h <;> try cases h
      simp only [Bool.and_eq_true, decide_eq_true_eq] at h
      obtain ⟨⟨⟨⟨⟨⟨h1, h2⟩, h3⟩, h3'⟩, h4⟩, h5⟩, h6⟩ := h
      subst h1
      rename_i k0 d0 _ i0 j0
      have he : mEs G c (.cons i0 (.cons j0 .nil)) [k0, d0] = true := by simp only [mEs, Bool.and_eq_true]; exact ⟨⟨h3, h5⟩, ⟨h3', h6⟩, trivial⟩
      exact s_pget C (.inr rfl) h2 h4 hsim (by simp) he (mEs_star he).1 (sEs _ C _ he)
  | .pin n a p, _, _, _, C, x, h => by
    simp only [mE] at h
    split at h <;> try cases h
    simp only [Bool.and_eq_true, decide_eq_true_eq] at h
    obtain ⟨⟨⟨h1, h2⟩, h3⟩, h4⟩ := h
    subst h1
    exact s_pin C h2 h4 (sE a C _ h3)
  | .len1 a m, _, _, _, C, x, h => by
    simp only [mE] at h
    split at h <;> try cases h
    simp only [Bool.and_eq_true, decide_eq_true_eq] at h
    obtain ⟨⟨⟨⟨h1, h2⟩, h3⟩, h4⟩, h5⟩ := h
    exact s_len1 C h1 h2 h3 h4 (sE a C _ h5)
theorem sA {P : Pg} {G : Gam} {T : Tab2} {call callI : Nat → List Val → Mem → Res Ret} {k : Nat} : ∀ (a : Az) {c : SC} {X : Cx} {W : WX} (C : Ctx P G T c X call callI W k) (x : Expr), mA G c a x = true → SA P T X call callI W a x
  | .dsp es, _, _, _, C, x, h => by
    simp only [mA] at h
    split at h <;> try cases h
    exact a_dsp C (sEs es C _ h)
  | .dd ks es, _, _, _, C, x, h => by
    simp only [mA] at h
    split at h <;> try cases h
    · split at h <;> try cases h
      exact a_dd0 C
    · split at h <;> try cases h
      simp only [Bool.and_eq_true] at h
      exact a_dd1 C h.1.1 h.1.2 h.2
  | .dt, _, _, _, C, x, h => by
    simp only [mA] at h
    split at h <;> try cases h
    exact a_dt C
  | .set, _, _, _, C, x, h => by
    simp only [mA] at h
    split at h <;> try cases h
    exact a_set C h
  | .sl a lo hi, _, _, _, C, x, h => by
    simp only [mA] at h
    split at h <;> try cases h
    simp only [Bool.and_eq_true] at h
    exact a_sl C (sE a C _ h.1.1) (sOE lo C _ h.1.2) (sOE hi C _ h.2)
  | .slP i lo hi, _, _, _, C, x, h => by
    simp only [mA] at h
    split at h <;> try cases h
    simp only [Bool.and_eq_true] at h
    exact a_slP C h.1.1 (sOE lo C _ h.1.2) (sOE hi C _ h.2)
  | .slr a, _, _, _, C, x, h => by simp [mA] at h
  | .add a b, _, _, _, C, x, h => by
    simp only [mA] at h
    split at h <;> try cases h
    simp only [Bool.and_eq_true, decide_eq_true_eq] at h
    obtain ⟨⟨h1, h2⟩, h3⟩ := h
    subst h1
    exact a_op C (addL_ok (T := T.toTab)) (fun fr h => by simp only [evA]) (sE a C _ h2) (sE b C _ h3)
  | .mul a b, _, _, _, C, x, h => by
    simp only [mA] at h
    split at h <;> try cases h
    simp only [Bool.and_eq_true, decide_eq_true_eq] at h
    obtain ⟨⟨h1, h2⟩, h3⟩ := h
    subst h1
    exact a_op C (mulL_ok (T := T.toTab)) (fun fr h => by simp only [evA]) (sE a C _ h2) (sE b C _ h3)
  | .lof a, _, _, _, C, x, h => by
    simp only [mA] at h
    split at h <;> try cases h
    simp only [Bool.and_eq_true] at h
    exact a_blt1 C (.inl ⟨_, rfl, lof_ok (T := T.toTab) C.calm⟩) h.1.1 (by decide +kernel) (fun fr h => by simp only [evA]) h.1.2 (sE a C _ h.2)
  | .dof a, _, _, _, C, x, h => by
    simp only [mA] at h
    split at h <;> try cases h
    simp only [Bool.and_eq_true] at h
    exact a_blt1 C (.inl ⟨_, rfl, dof_ok (T := T.toTab)⟩) h.1.1 (by decide +kernel) (fun fr h => by simp only [evA]) h.1.2 (sE a C _ h.2)
  | .lofP p, _, _, _, C, x, h => by
    simp only [mA] at h
    split at h <;> try cases h
    simp only [Bool.and_eq_true] at h
    exact a_plc C (.inl ⟨_, rfl, cLof_ok (T := T.toTab) C.calm⟩) h.1.1 (by decide +kernel) (fun fr h => by simp only [evA]) h.2
  | .dofP p, _, _, _, C, x, h => by
    simp only [mA] at h
    split at h <;> try cases h
    simp only [Bool.and_eq_true] at h
    exact a_plc C (.inl ⟨_, rfl, cDof_ok (T := T.toTab)⟩) h.1.1 (by decide +kernel) (fun fr h => by simp only [evA]) h.2
  | .srt a, _, _, _, C, x, h => by
    simp only [mA] at h
    split at h <;> try cases h
    simp only [Bool.and_eq_true] at h
    exact a_blt1 C (.inr ⟨_, rfl, srt_ok (T := T.toTab) C.calm⟩) h.1.1 (by decide +kernel) (fun fr h => by simp only [evA]) h.1.2 (sE a C _ h.2)
  | .srtP p, _, _, _, C, x, h => by
    simp only [mA] at h
    split at h <;> try cases h
    simp only [Bool.and_eq_true] at h
    exact a_plc C (.inr ⟨_, rfl, cSrt_ok (T := T.toTab) C.calm⟩) h.1.1 (by decide +kernel) (fun fr h => by simp only [evA]) h.2
  | .srtR a, _, _, _, C, x, h => by
    simp only [mA] at h
    split at h <;> try cases h
    simp only [Bool.and_eq_true, decide_eq_true_eq] at h
    exact a_srtR C h.1.1.1 h.1.1.2 h.1.2 (sE a C _ h.2)
  | .split a b, _, _, _, C, x, h => by
    simp only [mA] at h
    split at h <;> try cases h
    simp only [Bool.and_eq_true, decide_eq_true_eq] at h
    obtain ⟨⟨⟨⟨⟨h1, h2⟩, h3⟩, h4⟩, h5⟩, h6⟩ := h
    subst h1
    exact a_split C h2 h3 h4 (sE a C _ h5) (sE b C _ h6)
  | .lr1 e, _, _, _, C, x, h => by
    simp only [mA] at h
    split at h <;> try cases h
    simp only [Bool.and_eq_true] at h
    exact a_lr1 C h.1.1.1 h.1.1.2 h.1.2 (sE e C _ h.2)
  | .lr2 a b, _, _, _, C, x, h => by
    simp only [mA] at h
    split at h <;> try cases h
    simp only [Bool.and_eq_true] at h
    obtain ⟨⟨⟨⟨⟨h1, h2⟩, h3⟩, h4⟩, h5⟩, h6⟩ := h
    exact a_lr2 C h1 h2 h3 h4 (sE a C _ h5) (sE b C _ h6)
  | .comp tg it cond e, _, _, _, C, x, h => by
    simp only [mA] at h
    split at h <;> try cases h
    simp only [Bool.and_eq_true] at h
    obtain ⟨⟨⟨⟨⟨h1, h2⟩, h3⟩, h4⟩, h5⟩, h6⟩ := h
    exact a_comp C h1 h3 h4 (sI it C _ _ h2) (fun X' C' => sE e C' _ h5) (fun X' C' => sOT cond C' _ h6)
  | .cal q f es, _, _, _, C, x, h => by
    simp only [mA] at h
    split at h <;> try cases h
    · split at h <;> try cases h
      simp only [Bool.and_eq_true, decide_eq_true_eq] at h
      exact a_cal C h.1.1 (C.wd.fdf _ _ h.1.1) h.1.2 (mEs_star h.2).1 (mEs_star h.2).2 (sEs es C _ h.2)
    · split at h <;> try cases h
      simp only [Bool.and_eq_true, decide_eq_true_eq] at h
      obtain ⟨⟨⟨⟨⟨⟨⟨h1, h2⟩, h3⟩, h4⟩, h5⟩, h6⟩, h7⟩, h8⟩ := h
      exact a_smeth C h1 h2 h3 h4 h5 h6 h7 (mEs_star h8).1 (sEs es C _ h8)
  | .met a m q es, _, _, _, C, x, h => by
    simp only [mA] at h
    split at h <;> try cases h
    split at h <;> try cases h
    simp only [Bool.and_eq_true, decide_eq_true_eq] at h
    obtain ⟨⟨⟨⟨⟨⟨h1, h2⟩, h3⟩, h4⟩, h5⟩, h6⟩, h7⟩ := h
    exact a_met C h1 h7 h2 h3 h4 (mEs_star h6).1 (mEs_star h6).2 (sE a C _ h5) (sEs es C _ h6)
theorem sEs {P : Pg} {G : Gam} {T : Tab2} {call callI : Nat → List Val → Mem → Res Ret} {k : Nat} : ∀ (es : Exs) {c : SC} {X : Cx} {W : WX} (C : Ctx P G T c X call callI W k) (xs : List Expr), mEs G c es xs = true → SEs P T X call callI W es xs
  | .nil, _, _, _, C, xs, h => by
    simp only [mEs] at h
    split at h <;> try cases h
    exact paI pa_nil fun σ H Q ⟨φ, h, fr, R, F, o⟩ => okR.ok (v := ([] : List Val)) o R (show RVs _ _ _ _ [] [] from rfl)
  | .cons e es, _, X, W, C, xs, h => by
    simp only [mEs] at h
    split at h <;> try cases h
    simp only [Bool.and_eq_true] at h
    refine paI (pa_cons (sE e C _ h.1.2) (sEs es C _ h.2) (star_of h.1.1 _ _)) fun σ H Q hh => ?_
    refine (tR.bind2 (R1 := RV X.K T.toTab) (R2' := RVs X.K T.toTab) (f := fun _ v vs h2 => (Res.ok (v :: vs) h2 : Res (List Val))) rvmono hh).mono fun x H1 q => q.mono fun y H2 ⟨v, u, φ, h2, fr, R, F, q1, q2, o⟩ => ?_
    exact o.ok R ⟨x, y, rfl, q1, q2⟩
theorem sOE {P : Pg} {G : Gam} {T : Tab2} {call callI : Nat → List Val → Mem → Res Ret} {k : Nat} : ∀ (e : OEx) {c : SC} {X : Cx} {W : WX} (C : Ctx P G T c X call callI W k) (x : Option Expr), mOE G c e x = true → SOE P T X call callI W e x
  | .no, _, _, _, C, x, h => by
    simp only [mOE] at h
    split at h <;> try cases h
    exact s_ono C
  | .so e, _, _, _, C, x, h => by
    simp only [mOE] at h
    split at h <;> try cases h
    exact s_oso C (sE e C _ h)
theorem sOT {P : Pg} {G : Gam} {T : Tab2} {call callI : Nat → List Val → Mem → Res Ret} {k : Nat} : ∀ (e : OTe) {c : SC} {X : Cx} {W : WX} (C : Ctx P G T c X call callI W k) (x : List Expr), mOT G c e x = true → SOT P T X call callI W e x
  | .no, _, _, _, C, x, h => by
    simp only [mOT] at h
    split at h <;> try cases h
    exact s_otno
  | .so e, _, _, _, C, x, h => by
    simp only [mOT] at h
    split at h <;> try cases h
    exact s_otso (sT e C _ h)
theorem sT {P : Pg} {G : Gam} {T : Tab2} {call callI : Nat → List Val → Mem → Res Ret} {k : Nat} : ∀ (e : Te) {c : SC} {X : Cx} {W : WX} (C : Ctx P G T c X call callI W k) (x : Expr), mT G c e x = true → ST P T X call callI W e x
  | .e a, c, X, W, C, x, h => by
    have h' : mE G c a x = true ∧ (plainT x = true ∨ (isCm a = true ∧ ∃ l o r p, x = .Compare l o r p)) := by
      cases x with
      | BoolOp op xs p => simp [mT] at h
      | IfExp a b c p => simp [mT] at h
      | UnaryOp op o p =>
        cases op with
        | Not => simp [mT] at h
        | _ => exact ⟨by simpa only [mT] using h, .inl rfl⟩
      | Compare l o r p =>
        have h2 : isCm a = true ∧ mE G c a (.Compare l o r p) = true := by simpa only [mT, Bool.and_eq_true] using h
        exact ⟨h2.2, .inr ⟨h2.1, _, _, _, _, rfl⟩⟩
      | _ => exact ⟨by simpa only [mT] using h, .inl rfl⟩
    obtain ⟨hm, hp | ⟨hcm, l, o, r, p, rfl⟩⟩ := h'
    · exact t_plain C hp (sE a C x hm)
    · cases a <;> simp only [isCm, Bool.false_eq_true] at hcm <;> simp only [mE] at hm
      · split at hm <;> try cases hm
        rename_i heq
        cases heq
        simp only [Bool.and_eq_true, decide_eq_true_eq] at hm
        obtain ⟨⟨⟨h1, h2⟩, h3⟩, h4⟩ := hm
        subst h1
        exact t_cmp C h2 (sE _ C _ h3) (sE _ C _ h4)
      · split at hm <;> try cases hm
        rename_i heq
        cases heq
        simp only [Bool.and_eq_true, decide_eq_true_eq] at hm
        obtain ⟨⟨⟨⟨⟨h1, h2⟩, h3⟩, h4⟩, h5⟩, h6⟩ := hm
        subst h1; subst h2
        exact t_chn C h3 (sE _ C _ h4) (sE _ C _ h5) (sE _ C _ h6)
      · split at hm <;> try cases hm
        rename_i heq
        cases heq
        simp only [Bool.and_eq_true, decide_eq_true_eq] at hm
        obtain ⟨h1, h2⟩ := hm
        subst h1
        exact t_isN C (sE _ C _ h2)
      · split at hm <;> try cases hm
        rename_i heq
        cases heq
        simp only [Bool.and_eq_true, decide_eq_true_eq] at hm
        obtain ⟨⟨h1, h2⟩, h3⟩ := hm
        subst h1; subst h2
        exact t_isB C (sE _ C _ h3)
      · split at hm <;> try cases hm
        rename_i heq
        cases heq
        simp only [Bool.and_eq_true, decide_eq_true_eq] at hm
        obtain ⟨⟨⟨h1, h2⟩, h3⟩, h4⟩ := hm
        subst h1
        exact t_pin C h2 h4 (sE _ C _ h3)
  | .nt a, _, _, _, C, x, h => by
    simp only [mT] at h
    split at h <;> try cases h
    exact t_nt C (sT a C _ h)
  | .and a b, _, _, _, C, x, h => by
    simp only [mT] at h
    split at h <;> try cases h
    · simp only [Bool.and_eq_true] at h
      exact (t_and C (sT a C _ h.1) (pw_and1 (sT b C _ h.2))).pt
    · simp only [Bool.and_eq_true] at h
      exact (t_and C (sT a C _ h.1) (pw_of ⟨_, _, _, rfl⟩ (sT b C _ h.2))).pt
  | .or a b, _, _, _, C, x, h => by
    simp only [mT] at h
    split at h <;> try cases h
    · simp only [Bool.and_eq_true] at h
      exact (t_or C (sT a C _ h.1) (pw_or1 (sT b C _ h.2))).pt
    · simp only [Bool.and_eq_true] at h
      exact (t_or C (sT a C _ h.1) (pw_of ⟨_, _, _, rfl⟩ (sT b C _ h.2))).pt
  | .pt p, _, _, _, C, x, h => t_pt C (by simpa only [mT] using h)
theorem sI {P : Pg} {G : Gam} {T : Tab2} {call callI : Nat → List Val → Mem → Res Ret} {k : Nat} : ∀ (it : Itx) {c : SC} {X : Cx} {W : WX} (C : Ctx P G T c X call callI W k) (t x : Expr), mI G c it t x = true → SI P T X call callI W it t x
  | .val e, _, _, _, C, t, x, h => i_val C (sE e C _ (by simpa only [mI] using h))
  | .rng1 e, _, _, _, C, t, x, h => by
    simp only [mI] at h
    split at h <;> try cases h
    simp only [Bool.and_eq_true] at h
    exact i_rng1 C h.1.1 h.1.2 (sE e C _ h.2)
  | .rng2 a b, _, _, _, C, t, x, h => by
    simp only [mI] at h
    split at h <;> try cases h
    simp only [Bool.and_eq_true] at h
    obtain ⟨⟨⟨⟨h1, h2⟩, h3⟩, h4⟩, h5⟩ := h
    exact i_rng2 C h1 h2 h3 (sE a C _ h4) (sE b C _ h5)
  | .enum e, _, _, _, C, t, x, h => by
    simp only [mI] at h
    split at h <;> try cases h
    simp only [Bool.and_eq_true] at h
    exact i_enum C h.1.1.1 h.1.1.2 h.1.2 (sE e C _ h.2)
  | .zip a b, _, _, _, C, t, x, h => by
    simp only [mI] at h
    split at h <;> try cases h
    simp only [Bool.and_eq_true] at h
    obtain ⟨⟨⟨⟨⟨h1, h2⟩, h3⟩, h4⟩, h5⟩, h6⟩ := h
    exact i_zip C h1 h2 h3 h4 (sE a C _ h5) (sE b C _ h6)
  | .rng3 a b e, _, _, _, C, t, x, h => by
    simp only [mI] at h
    split at h <;> try cases h
    simp only [Bool.and_eq_true] at h
    obtain ⟨⟨⟨⟨h1, ⟨h2, h3⟩, h4⟩, h5⟩, h6⟩, h7⟩ := h
    exact i_rng3 C h1 h2 h3 h4 (sE a C _ h5) (sE b C _ h6) (sE e C _ h7)
  | .keys e, _, _, _, C, t, x, h => by simp [mI] at h
  | .rev e, _, _, _, C, t, x, h => by
    simp only [mI] at h
    split at h <;> try cases h
    simp only [Bool.and_eq_true] at h
    exact i_rev C h.1.1 h.1.2 (sE e C _ h.2)
  | .items e, _, _, _, C, t, x, h => by simp [mI] at h
end
end PyI
namespace PyI
open PySem PySem.Spec PyProof.Rows L2
/-! ### statements -/
def okS (K : PySem.W.Frag) (T : Tab) (φ : Ix) (H : L2.Hp) (D : Ends) (W : WX) : SR → Prop
  | .ok .nx fr h => ∀ ψ G σ, ExtS φ H ψ G → Rel K T ψ G h → RFr K T ψ G fr σ → D.nx σ G
  | .ok .bk fr h => ∀ ψ G σ, ExtS φ H ψ G → Rel K T ψ G h → RFr K T ψ G fr σ → D.bk σ G
  | .ok .ct fr h => ∀ ψ G σ, ExtS φ H ψ G → Rel K T ψ G h → RFr K T ψ G fr σ → D.ct σ G
  | .ok (.rt v) fr h => ∀ ψ G x, ExtS φ H ψ G → Rel K T ψ G h → RR K T ψ G v x → D.rt x G
  | .exc c fr h => ∀ ψ G σ, ExtS φ H ψ G → Rel K T ψ G h → RFr K T ψ G fr σ → W (T.exn c) none σ G
  | .bad => False
def tSt (K : PySem.W.Frag) (T : Tab) (W : WX) (r : PyI.Fr → Mem → SR) : TS := fun D σ H =>
  ∃ φ h fr, Rel K T φ H h ∧ RFr K T φ H fr σ ∧ okS K T φ H D W (r fr h)
section
variable {K : PySem.W.Frag} {T : Tab} {φ ψ : Ix} {H G : L2.Hp} {h : Mem} {D : Ends} {W : WX} {fr : PyI.Fr} {σ : L2.St}
theorem okS.ext {r : SR} (o : okS K T φ H D W r) (e : ExtS φ H ψ G) : okS K T ψ G D W r := by
  cases r with
  | ok f fr h => cases f <;> exact fun χ F x e2 => o χ F x (e.trans e2)
  | exc c fr h => exact fun χ F x e2 => o χ F x (e.trans e2)
  | bad => exact o
theorem okS.lift {γ δ : Type} {R1 : Ix → L2.Hp → γ → δ → Prop} {r : Res γ} {k : γ → Mem → SR} (o : okS K T φ H D W (PyI.lift r fr k)) (F : RFr K T φ H fr σ) :
    okR K T R1 φ H (fun x H1 => ∃ v ψ h1, r = .ok v h1 ∧ Ext φ H ψ H1 ∧ Rel K T ψ H1 h1 ∧ RFr K T ψ H1 fr σ ∧ R1 ψ H1 v x ∧ okS K T ψ H1 D W (k v h1)) (fun c G => W (T.exn c) none σ G) r := by
  cases r with
  | ok v h => exact fun χ F' x e2 R q => ⟨v, χ, h, rfl, e2, R, F.mono e2, q, okS.ext o e2.toExtS⟩
  | exc c h => exact fun χ F' e2 R => o χ F' σ e2.toExtS R (F.mono e2)
  | bad => exact o
theorem tS.lift {γ δ : Type} {R1 : Ix → L2.Hp → γ → δ → Prop} {r : PyI.Fr → Mem → Res γ} {k : PyI.Fr → γ → Mem → SR} (o : tSt K T W (fun fr h => PyI.lift (r fr h) fr (k fr)) D σ H) :
    tR K T W R1 r σ H fun x H1 => ∃ v φ h1 fr, Rel K T φ H1 h1 ∧ RFr K T φ H1 fr σ ∧ R1 φ H1 v x ∧ okS K T φ H1 D W (k fr v h1) := by
  obtain ⟨φ, h, fr, R, F, o⟩ := o
  exact ⟨φ, h, fr, R, F, (okS.lift o F).mono fun x G ⟨v, ψ, h1, _, e, R', F', q, o'⟩ => ⟨v, ψ, h1, fr, R', F', q, o'⟩⟩
theorem okS.nx (o : okS K T φ H D W (.ok .nx fr h)) (R : Rel K T φ H h) (F : RFr K T φ H fr σ) : D.nx σ H := o φ H σ .refl R F
theorem okS.nxE (o : okS K T φ H D W (.ok .nx fr h)) (e : ExtS φ H ψ G) (R : Rel K T ψ G h) (F : RFr K T ψ G fr σ) : D.nx σ G := o ψ G σ e R F
theorem okS.rt {v : Ret} {x : V} (o : okS K T φ H D W (.ok (.rt v) fr h)) (R : Rel K T φ H h) (q : RR K T φ H v x) : D.rt x H := o φ H x .refl R q
/-! ### fields -/
theorem RSs.putV {n f : Nat} {v : Val} {x : V} (inj : ∀ i j, T.nm i = T.nm j → i = j) (qv : RV K T φ H v x) : ∀ {fs : List (Nat × Sl)} {ks : List (Str × V)}, RSs K T φ H n fs ks → RSs K T φ H n (fput f (.v v) fs) (putF (T.nm f) x ks)
  | [], ks, q => by
    rw [show ks = [] from q]
    exact ⟨x, [], rfl, qv, rfl⟩
  | p :: r, ks, q => by
    obtain ⟨y, s, rfl, q1, q2⟩ := q
    unfold fput putF
    by_cases e : p.1 = f
    · rw [if_pos e, if_pos (by rw [e])]
      exact ⟨x, s, by rw [e], qv, q2⟩
    · rw [if_neg e, if_neg fun z => e (inj _ _ z)]
      exact ⟨y, _, rfl, q1, RSs.putV inj qv q2⟩
/-- what stands at some keys alone -/
theorem RSs.monoK (e : VExt φ H ψ G) {n : Nat} : ∀ {fs : List (Nat × Sl)} {ks : List (Str × V)}, (∀ p ∈ fs, (∀ a, φ.o n p.1 = some a → ψ.o n p.1 = some a ∧ G a = H a) ∧ ψ.w n p.1 = φ.w n p.1) → RSs K T φ H n fs ks → RSs K T ψ G n fs ks
  | [], _, _, q => q
  | p :: fs, ks, hk, q => by
    obtain ⟨v, r, e1, q1, q2⟩ := q
    exact ⟨v, r, e1, q1.monoV e (hk p (by simp)).2 fun a c _ h => (hk p (by simp)).1 a h, RSs.monoK e (fun p' hp' => hk p' (by simp [hp'])) q2⟩
theorem nodup_head {α : Type} {p : Nat × α} {r : List (Nat × α)} (h : nodupF (p :: r) = true) : (∀ q ∈ r, q.1 ≠ p.1) ∧ nodupF r = true := by
  unfold nodupF at h
  simp only [Bool.and_eq_true, Bool.not_eq_true', List.any_eq_false, beq_iff_eq] at h
  exact ⟨fun q hq => h.1 q hq, h.2⟩
/-- a field's own container is another, or changed: where it stands -/
theorem RSs.putO (e : VExt φ H ψ G) {n f : Nat} {s : Sl} {x : V} (inj : ∀ i j, T.nm i = T.nm j → i = j) (qs : RSl K T ψ G (ψ.o n f) (ψ.w n f) s x) : ∀ {fs : List (Nat × Sl)} {ks : List (Str × V)}, nodupF fs = true → (∀ g, g ≠ f → (∀ a, φ.o n g = some a → ψ.o n g = some a ∧ G a = H a) ∧ ψ.w n g = φ.w n g) → RSs K T φ H n fs ks → RSs K T ψ G n (fput f s fs) (putF (T.nm f) x ks)
  | [], ks, _, hk, q => by
    rw [show ks = [] from q]
    exact ⟨x, [], rfl, qs, rfl⟩
  | p :: r, ks, nd, hk, q => by
    obtain ⟨y, t, rfl, q1, q2⟩ := q
    obtain ⟨n1, n2⟩ := nodup_head nd
    unfold fput putF
    by_cases ef : p.1 = f
    · rw [if_pos ef, if_pos (by rw [ef])]
      exact ⟨x, t, by rw [ef], qs, q2.monoK e fun p' hp' => hk _ (by rw [← ef]; exact n1 p' hp')⟩
    · rw [if_neg ef, if_neg fun z => ef (inj _ _ z)]
      exact ⟨y, _, rfl, q1.monoV e (hk _ ef).2 fun a c _ h => (hk _ ef).1 a h, RSs.putO e inj qs n2 hk q2⟩
/-- the address stays -/
theorem RSs.putS (e : VExt φ H ψ G) {n f : Nat} {s s0 : Sl} (qs : ∀ x, RSl K T φ H (φ.o n f) (φ.w n f) s0 x → RSl K T ψ G (ψ.o n f) (ψ.w n f) s x) : ∀ {fs : List (Nat × Sl)} {ks : List (Str × V)}, nodupF fs = true → fs.lookup f = some s0 → (∀ g, g ≠ f → (∀ a, φ.o n g = some a → ψ.o n g = some a ∧ G a = H a) ∧ ψ.w n g = φ.w n g) → RSs K T φ H n fs ks → RSs K T ψ G n (fput f s fs) ks
  | [], ks, _, hl, hk, q => by simp at hl
  | p :: r, ks, nd, hl, hk, q => by
    obtain ⟨y, t, rfl, q1, q2⟩ := q
    obtain ⟨n1, n2⟩ := nodup_head nd
    rw [List.lookup_cons] at hl
    unfold fput
    by_cases ef : p.1 = f
    · subst ef
      simp only [beq_self_eq_true, Option.some.injEq] at hl
      rw [if_pos rfl]
      exact ⟨y, t, rfl, qs y (hl ▸ q1), q2.monoK e fun p' hp' => hk _ (n1 p' hp')⟩
    · have : (f == p.1) = false := by simpa using Ne.symm ef
      rw [this] at hl
      rw [if_neg ef]
      exact ⟨y, t, rfl, q1.monoV e (hk _ ef).2 fun a c _ h => (hk _ ef).1 a h, RSs.putS e qs n2 hl hk q2⟩
/-! ### a place is changed -/
theorem place_set {p : Px} {a : Addr} {u o : HO} {c' : Con} {q : Option (Nat × Nat)} {fr' : PyI.Fr} {h' : Mem} (R : Rel K T φ H h) (F : RFr K T φ H fr σ) (hq : plF p fr = some q) (ha : plA φ q a) (hs : ∀ i, p = .s i → σ[i]? = some (some (.ref a)))
    (hu : H a = some u) (nt : notTup u) (rc : ∀ ψ G, VExt φ H ψ G → RCo K T ψ G a c' o) (hp : putp p c' fr h = some (fr', h')) : ExtS φ H φ (upd H a o) ∧ Rel K T φ (upd H a o) h' ∧ RFr K T φ (upd H a o) fr' σ := by
  cases p with
  | s i =>
    cases hq
    have ha : φ.M a := ha
    have e := exts_setM (o := o) R ha hu nt
    simp only [putp] at hp
    split at hp <;> cases hp
    rename_i c0 ec
    refine ⟨e, R.setM ha hu nt, by simpa using F.len, fun j v ej => ?_, fun j d ej => ?_, fun j j' d d' b hne ej ej' s s' => ?_⟩
    · rcases set_get ej with ⟨rfl, e1, _⟩ | ⟨hj, e1⟩
      · cases e1
      · obtain ⟨x, h1, h2⟩ := F.v j v e1
        exact ⟨x, h1, h2.monoV e.ve _ _⟩
    · rcases set_get ej with ⟨rfl, e1, _⟩ | ⟨hj, e1⟩
      · cases e1
        exact ⟨a, o, hs _ rfl, ha, upd_same, rc _ _ e.ve⟩
      · obtain ⟨b, u', h1, h2, h3, h4⟩ := F.o j d e1
        have hb : b ≠ a := fun z => F.d i j _ _ a hj ec e1 (hs i rfl) (by rw [h1, z])
        exact ⟨b, u', h1, h2, by rw [upd_ne hb]; exact h3, h4.monoV e.ve⟩
    · have g : ∀ {j : Nat} {d : Con}, (fr.set i (.o c'))[j]? = some (.o d) → ∃ d', fr[j]? = some (.o d') := fun {j d} ej => by
        rcases set_get ej with ⟨rfl, e1, _⟩ | ⟨hj, e1⟩
        · exact ⟨_, ec⟩
        · exact ⟨_, e1⟩
      obtain ⟨d1, e1⟩ := g ej
      obtain ⟨d2, e2⟩ := g ej'
      exact F.d j j' d1 d2 b hne e1 e2 s s'
  | f i f =>
    simp only [plF] at hq
    split at hq <;> cases hq
    rename_i n ei
    have ha : φ.o n f = some a := ha
    simp only [putp, ei] at hp
    split at hp <;> try cases hp
    rename_i d fs hm
    split at hp <;> try cases hp
    rename_i c0 hl
    split at hp <;> cases hp
    rename_i nd
    have tr : φ.tr a := .inr ⟨n, f, ha⟩
    have e := ext_set (o := o) R tr hu nt
    refine ⟨e.toExtS, ?_, F.mono e⟩
    refine ⟨by simp [R.len], R.nd, R.oc, R.oi, fun n f b q => ⟨(R.on n f b q).1, upd_some (R.on n f b q).2⟩, fun b q => ⟨(R.iL b q).1, upd_some (R.iL b q).2⟩, fun b q => ⟨(R.iS b q).1, (R.iS b q).2.1, upd_some (R.iS b q).2.2⟩, fun b q => ⟨(R.iM b q).1, (R.iM b q).2.1, (R.iM b q).2.2.1, upd_some (R.iM b q).2.2.2⟩, fun m b ob e1 e2 => ?_⟩
    have hb : b ≠ a := fun z => R.oc n f a ha (z ▸ List.mem_of_getElem? e1)
    rcases set_get e2 with ⟨rfl, e3, _⟩ | ⟨hj, e3⟩
    · subst e3
      obtain ⟨u', q1, q2⟩ := R.at_ n b _ e1 hm
      obtain ⟨dx, ks, rfl, q2⟩ := q2
      refine ⟨_, by rw [upd_ne hb]; exact q1, dx, ks, rfl, q2.putS e.toExtS.ve (s := .o c') (s0 := .o c0) (fun x qx => ?_) nd hl fun g hg => ⟨fun b' q => ⟨q, upd_ne fun z => hg (R.oi n g n f a (z ▸ q) ha).2⟩, rfl⟩⟩
      obtain ⟨a', u'', e4, rfl, _, _⟩ := qx
      rw [ha] at e4; cases e4
      exact ⟨a, o, ha, rfl, upd_same, rc _ _ e.toExtS.ve⟩
    · obtain ⟨u', q1, q2⟩ := R.at_ m b ob e1 e3
      exact ⟨u', by rw [upd_ne hb]; exact q1, q2.monoV e.toExtS.ve fun g b' q => ⟨q, upd_ne fun z => hj (R.oi m g n f a (z ▸ q) ha).1.symm⟩⟩
/-- a slot takes a new container -/
theorem RFr.own {a : Addr} {u : HO} {c : Con} (F : RFr K T φ H fr σ) (i : Nat) (hf : ¬ φ.M a) (hu : H a = some u) (rc : RCo K T φ H a c u) : RFr K T (φ.addM a) H (fr.set i (.o c)) (σ.set i (some (.ref a))) := by
  have ve : VExt φ H (φ.addM a) H := ⟨fun _ _ q => q, fun _ q => q, fun _ _ q => q, fun _ _ => .refl⟩
  refine ⟨by simp [F.len], fun j v e => ?_, fun j d e => ?_, fun j j' d d' b hne e e' s s' => ?_⟩
  · rcases set_get e with ⟨rfl, e1, hl⟩ | ⟨hj, e1⟩
    · cases e1
    · rw [List.getElem?_set_ne hj]
      obtain ⟨x, h1, h2⟩ := F.v j v e1
      exact ⟨x, h1, h2.monoV ve _ _⟩
  · rcases set_get e with ⟨rfl, e1, hl⟩ | ⟨hj, e1⟩
    · cases e1
      exact ⟨a, u, List.getElem?_set_self (by rw [← F.len]; exact hl), .inr rfl, hu, rc.monoV ve⟩
    · rw [List.getElem?_set_ne hj]
      obtain ⟨b, u', h1, h2, h3, h4⟩ := F.o j d e1
      exact ⟨b, u', h1, .inl h2, h3, h4.monoV ve⟩
  · have own : ∀ {j : Nat} {d : Con}, i ≠ j → fr[j]? = some (.o d) → σ[j]? = some (some (.ref a)) → False := fun {j d} hj e1 s1 => by
      obtain ⟨b', u', h1, h2, _⟩ := F.o j d e1
      rw [s1] at h1; cases h1
      exact hf h2
    rcases set_get e with ⟨rfl, e1, hl⟩ | ⟨hj, e1⟩
    · rcases set_get e' with ⟨rfl, e2, _⟩ | ⟨hj', e2⟩
      · exact hne rfl
      · rw [List.getElem?_set_self (by rw [← F.len]; exact hl)] at s
        cases s
        rw [List.getElem?_set_ne hj'] at s'
        exact own hj' e2 s'
    · rw [List.getElem?_set_ne hj] at s
      rcases set_get e' with ⟨rfl, e2, hl⟩ | ⟨hj', e2⟩
      · rw [List.getElem?_set_self (by rw [← F.len]; exact hl)] at s'
        cases s'
        exact own hj e1 s
      · rw [List.getElem?_set_ne hj'] at s'
        exact F.d j j' d d' b hne e1 e2 s s'
/-- a slot's container is given away -/
def Ix.delM (φ : Ix) (a : Addr) : Ix := { φ with M := fun b => φ.M b ∧ b ≠ a }
theorem Rel.delM (R : Rel K T φ H h) (a : Addr) : Rel K T (φ.delM a) H h := R.side rfl rfl rfl (fun b q => R.iS b q) fun b q => R.iM b q.1
theorem RFr.take {a : Addr} {c : Con} (F : RFr K T φ H fr σ) (i : Nat) (ec : fr[i]? = some (.o c)) (es : σ[i]? = some (some (.ref a))) : RFr K T (φ.delM a) H (fr.set i .e) σ := by
  have ve : VExt φ H (φ.delM a) H := ⟨fun _ _ q => q, fun _ q => q, fun _ _ q => q, fun _ _ => .refl⟩
  refine ⟨by simpa using F.len, fun j v e => ?_, fun j d e => ?_, fun j j' d d' b hne e e' s s' => ?_⟩
  · rcases set_get e with ⟨rfl, e1, hl⟩ | ⟨hj, e1⟩
    · cases e1
    · obtain ⟨x, h1, h2⟩ := F.v j v e1
      exact ⟨x, h1, h2.monoV ve _ _⟩
  · rcases set_get e with ⟨rfl, e1, hl⟩ | ⟨hj, e1⟩
    · cases e1
    · obtain ⟨b, u', h1, h2, h3, h4⟩ := F.o j d e1
      exact ⟨b, u', h1, ⟨h2, fun z => F.d i j c d a hj ec e1 es (by rw [h1, z])⟩, h3, h4.monoV ve⟩
  · rcases set_get e with ⟨rfl, e1, hl⟩ | ⟨hj, e1⟩
    · cases e1
    · rcases set_get e' with ⟨rfl, e2, hl⟩ | ⟨hj', e2⟩
      · cases e2
      · exact F.d j j' d d' b hne e1 e2 s s'
theorem sideS {χ : Ix} (hc : χ.c = φ.c) (hS : χ.S = φ.S) (hL : χ.L = φ.L) (hW : χ.w = φ.w := by rfl) : ExtS φ H χ H :=
  { pre := ⟨[], by simp [hc]⟩, eS := hS, eL := fun a q => by rw [hL]; exact q, tup := fun _ _ q => q, keL := fun _ _ => .refl, keS := fun _ _ => rfl, fz := fun _ _ _ q => q, eW := hW }
/-- given away, it is fresh -/
theorem Rel.takeR {a : Addr} {u : HO} {c : Con} (R : Rel K T φ H h) (hm : φ.M a) (hu : H a = some u) (rc : RCo K T φ H a c u) : RA K T (φ.delM a) H c (.ref a) :=
  ⟨a, u, rfl, ⟨(R.iM a hm).1, (R.iM a hm).2.1, (R.iM a hm).2.2.1, fun z => z.2 rfl⟩, hu, RCo.monoV (φ := φ) (ψ := φ.delM a) (H := H) (G := H) ⟨fun _ _ q => q, fun _ q => q, fun _ _ q => q, fun _ _ => .refl⟩ rc⟩
end
end PyI
namespace PyI
open PySem PySem.Spec PyProof.Rows L2
section
variable {P : Pg} {G : Gam} {T : Tab2} {c : SC} {X : Cx} {call callI : Nat → List Val → Mem → Res Ret} {W : WX} {k : Nat}
abbrev SS (P : Pg) (T : Tab2) (X : Cx) (call callI : Nat → List Val → Mem → Res Ret) (W : WX) (s : Sm) (x : Stmt) : Prop := PS X x (tSt X.K T.toTab W (ex P call callI s))
abbrev SSs (P : Pg) (T : Tab2) (X : Cx) (call callI : Nat → List Val → Mem → Res Ret) (W : WX) (s : Sms) (x : List Stmt) : Prop := PSs X x (tSt X.K T.toTab W (exs P call callI s))
/-- the comprehension's value is stored by itself -/
def swB (c : SC) (y : Str) (py pos : Pos) (scope : Scope) : Bool := decide (c.sc.names.lookup y = some .local) && (py.line == pos.line) && !(scope.names.any fun (n, k) => n == y && (k == .local || k == .cell))
theorem sw_false {elt : Expr} {gs : List Comprehension} {scope : Scope} {pos py : Pos} {y : Str} {l : Nat} {env : Env} {c : SC} (hc : env.scope = c.sc) (h : swB c y py pos scope = false) : swapsWith (.ListComp elt gs scope pos) (some (.Name y py)) l env = Pure.pure false := by
  unfold swB at h
  rw [← hc] at h
  unfold swapsWith
  simp only [Expr.pos]
  congr 1
  have ky : env.kindOf y = env.scope.names.lookup y := rfl
  rw [ky]
  by_cases h1 : env.scope.names.lookup y = some .local
  · rw [decide_eq_true h1, Bool.true_and] at h
    rw [Bool.and_assoc, h, Bool.and_false]
  · have : (env.scope.names.lookup y == some NameKind.local) = false := by
      simpa using h1
    rw [this]
    simp
theorem tg_each {tg : Tgt} {x : Expr} {env : Env} (h : mTg c tg x = true) : (assignEach [x] env).map (·.2) = [assign x env] := by
  cases x <;> cases tg <;> first | rfl | (simp [mTg] at h)
def notTupX : Expr → Bool
  | .Tuple _ _ _ => false
  | _ => true
theorem tg_sw {tg : Tgt} {x e : Expr} {env : Env} (h : mTg c tg x = true) (ht : (notTupX x || notTupX e) = true) : swappedStores [x] e env = Pure.pure none := by
  cases x <;> cases tg <;> first | (simp [mTg] at h; done) | skip
  · rfl
  · cases e <;> first | rfl | (simp [notTupX] at ht)
theorem r_asg {tg : Tgt} {e : Ex} {D : Ends} {σ : L2.St} {H : L2.Hp} (o : tSt X.K T.toTab W (ex P call callI (.asg tg e)) D σ H) :
    tV X.K T.toTab W (ev P call callI e) σ H fun x H1 => gT X.K T.toTab tg x σ H1 D.nx :=
  (tS.lift (R1 := RV X.K T.toTab) (k := fun fr v h1 => match tg.put h1 v fr with | some fr1 => .ok .nx fr1 h1 | none => .bad) o).mono fun x H1 ⟨v, φ, h1, fr, R, F, q, o⟩ => by
    cases hp : tg.put h1 v fr with
    | none => rw [hp] at o; exact o.elim
    | some fr1 =>
      rw [hp] at o
      exact ⟨φ, h1, fr, v, fr1, R, F, q, hp, fun σ' F' _ _ => okS.nx o R F'⟩
theorem s_asg (C : Ctx P G T c X call callI W k) {tg : Tgt} {e : Ex} {x t : Expr} {pos : Pos} (ht : mTg c tg t = true) (hn : notComp x = true) (hs : (notTupX t || notTupX x) = true) (he : SE P T X call callI W e x) : SS P T X call callI W (.asg tg e) (.Assign [t] x pos) :=
  psI (ps_asg he (s_tg C _ _ ht) (swaps_of hn _ _ _) (tg_sw ht hs) (tg_each ht)) fun D σ H o => r_asg o
theorem s_asgC (C : Ctx P G T c X call callI W k) {i : Nat} {e : Ex} {y : Str} {elt : Expr} {gs : List Comprehension} {scope : Scope} {py p2 pos : Pos} (ht : mTg c (.v i) (.Name y py) = true) (hs : swB c y py p2 scope = false) (he : SE P T X call callI W e (.ListComp elt gs scope p2)) : SS P T X call callI W (.asg (.v i) e) (.Assign [.Name y py] (.ListComp elt gs scope p2) pos) :=
  psI (ps_asg he (s_tg C _ _ ht) (sw_false (l := pos.line) C.sc hs) rfl rfl) fun D σ H o => r_asg o
/-- a container that is frozen, put in the memory, at its making -/
theorem az_tA {a : Az} {σ : L2.St} {H : L2.Hp} {Q : VK} (h : tV X.K T.toTab W (ev P call callI (.az a)) σ H Q) : tA X.K T.toTab W (evA P call callI a) σ H Q := by
  obtain ⟨φ, h, fr, R, F, o⟩ := h
  refine ⟨φ, h, fr, R, F, okR.mono (okR.bind (RR' := RA X.K T.toTab) o) fun x G ⟨c', ψ, h1, e, R1, q, o1⟩ => ?_⟩
  obtain ⟨v, ev, o1⟩ := o1.pure
  obtain ⟨χ, e2, R2, q2⟩ := q.frz R1 ev
  exact o1 χ G x e2 R2 q2
theorem hp_tA {a : Az} {σ : L2.St} {H : L2.Hp} {Q : VK} (h : tV X.K T.toTab W (ev P call callI (.hp a)) σ H Q) : tA X.K T.toTab W (evA P call callI a) σ H Q := by
  obtain ⟨φ, h, fr, R, F, o⟩ := h
  refine ⟨φ, h, fr, R, F, okR.mono (okR.bind (RR' := RA X.K T.toTab) o) fun x G ⟨c', ψ, h1, e, R1, q, o1⟩ => ?_⟩
  obtain ⟨χ, e2, R2, q2⟩ := q.heap R1
  exact o1 χ G x e2 R2 q2
theorem gT_name {K : PySem.W.Frag} {T : Tab} {i : Nat} {x : V} {σ : L2.St} {H : L2.Hp} {Q : L2.St → L2.Hp → Prop} (hg : gT K T (.v i) x σ H Q) : gName i x σ H Q := by
  obtain ⟨φ, h1, fr, v, fr1, R, F, q, hp, fin⟩ := hg
  simp only [Tgt.put, Option.some.injEq] at hp
  subst hp
  exact fin _ (F.set q i) (by simp) fun j hj => List.getElem?_set_ne (by simpa [Tgt.slots, eq_comm] using hj)
theorem r_own {i : Nat} {a : Az} {D : Ends} {σ : L2.St} {H : L2.Hp} (o : tSt X.K T.toTab W (ex P call callI (.own i a)) D σ H) :
    tA X.K T.toTab W (evA P call callI a) σ H fun x H1 => gName i x σ H1 D.nx :=
  (tS.lift (R1 := RA X.K T.toTab) (k := fun fr c h1 => .ok .nx (fr.set i (.o c)) h1) o).mono fun x H1 ⟨c', φ, h1, fr, R, F, ⟨b, u, ex, fh, hu, rc⟩, o⟩ => by
    subst ex
    exact okS.nxE (ψ := φ.addM b) o (sideS rfl rfl rfl) (R.addM fh (by rw [hu]; simp)) (F.own i fh.M hu rc)
theorem s_own (C : Ctx P G T c X call callI W k) {i : Nat} {a : Az} {x : Expr} {y : Str} {py pos : Pos} (ht : mTg c (.v i) (.Name y py) = true) (hn : notComp x = true) (he : SA P T X call callI W a x) : SS P T X call callI W (.own i a) (.Assign [.Name y py] x pos) :=
  psI (ps_asg he (C.st (by simpa only [mTg] using ht)) (swaps_of hn (some (.Name y py)) pos.line X.env) rfl rfl) fun D σ H o => r_own o
theorem s_ownC (C : Ctx P G T c X call callI W k) {i : Nat} {a : Az} {y : Str} {elt : Expr} {gs : List Comprehension} {scope : Scope} {py p2 pos : Pos} (ht : mTg c (.v i) (.Name y py) = true) (hs : swB c y py p2 scope = false) (he : SA P T X call callI W a (.ListComp elt gs scope p2)) : SS P T X call callI W (.own i a) (.Assign [.Name y py] (.ListComp elt gs scope p2) pos) :=
  psI (ps_asg he (C.st (by simpa only [mTg] using ht)) (sw_false (l := pos.line) C.sc hs) rfl rfl) fun D σ H o => r_own o
theorem s_lc (C : Ctx P G T c X call callI W k) {i : Nat} {y : Str} {tg : Tgt} {it : Itx} {cond : OTe} {e : Ex} {t iter elt : Expr} {ifs : List Expr} {scope : Scope} {py p2 pos : Pos} {s : Sm} (ht0 : mTg c (.v i) (.Name y py) = true) (hk : c.sc.kind = .function) (hw : swB c y py p2 scope = true)
    (hs : notSet iter = true) (hb : blkC c.N c.sc scope (mOwn c tg) = true) (ht : mTg (c.blk scope) tg t = true)
    (hi : SI P T X call callI W it t iter) (he : ∀ X' , Ctx P G T (c.blk scope) X' call callI W0 k → SE P T X' call callI W0 e elt) (hc : ∀ X', Ctx P G T (c.blk scope) X' call callI W0 k → SOT P T X' call callI W0 cond ifs)
    (rd : ∀ D σ H, tSt X.K T.toTab W (ex P call callI s) D σ H → tA X.K T.toTab W (evA P call callI (.comp tg it cond e)) σ H fun x H1 => gName i x σ H1 D.nx) :
    SS P T X call callI W s (.Assign [.Name y py] (.ListComp elt [⟨t, iter, ifs, 0⟩] scope p2) pos) := by
  have hN : X.N.Nodup := by rw [C.N]; exact C.nd
  have ok : BlkOk X.N X.env.scope scope (mOwn c tg) := by rw [C.N, C.sc]; exact blkOk_by hb
  unfold swB at hw
  simp only [Bool.and_eq_true, decide_eq_true_eq, Bool.not_eq_true'] at hw
  obtain ⟨⟨w1, w2⟩, w3⟩ := hw
  have hy : X.N[i]? = some y := by
    rw [C.N]
    simp only [mTg, SC.loc, Bool.and_eq_true, decide_eq_true_eq] at ht0
    exact ht0.1
  refine psI (ps_setLc (i := i) (g := gT X.K T.toTab tg) (tt := tBl X.K T.toTab W0 (evc P call callI cond)) (te := tV X.K T.toTab W0 (ev P call callI e)) C.calm hN hy (by rw [C.sc]; exact w1) (sw_true (by rw [C.sc]; exact hk) (by rw [C.sc]; exact w1) w2 w3) hi ok (fun s H A cl fp => s_tg (C.blk s H scope A cl fp) _ _ ht) (fun s H A cl fp => hc _ (C.blk s H scope A cl fp)) (fun s H A cl fp => he _ (C.blk s H scope A cl fp)) (folded_of hs _)) fun D σ H o => ?_
  rw [own_slots (c := c) (c' := c.blk scope) rfl ht]
  exact r_comp (rd D σ H o)
theorem sw_att {e o : Expr} {f : Str} {p : Pos} {l : Nat} {env : Env} : swapsWith e (some (.Attribute o f p)) l env = Pure.pure false := by cases e <;> rfl
theorem sw_sub {e o i : Expr} {p : Pos} {l : Nat} {env : Env} : swapsWith e (some (.Subscript o i p)) l env = Pure.pure false := by cases e <;> rfl
/-- an attribute is written -/
theorem setA_ok (C : Ctx P G T c X call callI W k) {f : Nat} {x y : Val} {z u : V} {φ : Ix} {H : L2.Hp} {h h' : Mem} (R : Rel X.K T.toTab φ H h) (qx : RV X.K T.toTab φ H x z) (qy : RV X.K T.toTab φ H y u) (o : setA P f x y h = some h') :
    ∃ a A dx fs, z = .ref a ∧ H a = some (.ins A dx fs) ∧ Cls X.K A ∧ NoAttr X.K A (T.nm f) ∧ fs.length < 1000 ∧ Ext φ H φ (upd H a (.ins A dx (putF (T.nm f) u fs))) ∧ Rel X.K T.toTab φ (upd H a (.ins A dx (putF (T.nm f) u fs))) h' := by
  unfold setA at o
  cases x <;> simp only [reduceCtorEq] at o
  rename_i m
  split at o <;> try cases o
  rename_i d fs he
  split at o <;> cases o
  rename_i hc
  simp only [Bool.and_eq_true, decide_eq_true_eq] at hc
  obtain ⟨Cd, e1, e2⟩ := fields_of hc.1
  obtain ⟨c1, c2, _⟩ := C.wd.cls d Cd e1
  obtain ⟨a, dx, ks, rfl, ea, p1, p2⟩ := R.ins qx he
  have e := ext_set (o := .ins (T.cls d) dx (putF (T.nm f) u ks)) R (tr_of ea) p1 trivial
  refine ⟨a, T.cls d, dx, ks, rfl, p1, c1, c2 f e2, by rw [p2.length]; exact hc.2, e, R.set ea p1 trivial ⟨dx, _, rfl, ?_⟩⟩
  exact (RSs.putV T.inj qy p2).monoV e.toExtS.ve fun g b q => ⟨q, upd_ne fun z => R.oc m g b q (z ▸ List.mem_of_getElem? ea)⟩
theorem s_asgA (C : Ctx P G T c X call callI W k) {o e : Ex} {f : Nat} {n : Str} {l x : Expr} {p pos : Pos} (hn : G.nms.lookup f = some n) (ho : SE P T X call callI W o l) (he : SE P T X call callI W e x) : SS P T X call callI W (.asgA o f e) (.Assign [.Attribute l n p] x pos) := by
  have en := C.wd.nms _ _ hn
  subst en
  refine psI (ps_fld ho he sw_att) fun D σ H hh => ?_
  refine (tS.lift (R1 := RV X.K T.toTab) (k := fun fr y h1 => PyI.lift (ev P call callI o fr h1) fr fun x h2 => SR.of fr (setA P f x y h2)) hh).mono fun u H1 ⟨y, φ, h1, fr, R, F, q, o1⟩ => ?_
  refine ⟨φ, h1, fr, R, F, (okS.lift (R1 := RV X.K T.toTab) o1 F).mono fun z H2 ⟨x, ψ, h2, _, e2, R2, F2, q2, o2⟩ => ?_⟩
  cases hs : setA P f x y h2 with
  | none => rw [hs] at o2; exact o2.elim
  | some h3 =>
    rw [hs] at o2
    obtain ⟨a, A, dx, fs, ez, g1, g2, g3, g4, g5, g6⟩ := setA_ok C R2 q2 (q.mono e2 _ _) hs
    exact ⟨a, A, dx, fs, ez, g1, g2, g3, g4, okS.nxE o2 g5.toExtS g6 (F2.mono g5)⟩
/-! ### o[i] = v -/
def rPut : V → V → V → L2.Hp → (L2.Hp → Prop) → Prop := fun o i v H Q => rSetL o i v H Q ∨ ∃ a H4, o = .ref a ∧ DPut H a i v H4 ∧ Q H4
theorem put_ok (hu : X.A.units + 1 < cLine) : PSet X rPut := by
  intro pins s σ H o i v ov iv u Q I ro ri rv h
  rcases h with h | ⟨a, H4, rfl, g, q⟩
  · exact set_list pins s σ H o i v ov iv u Q I ro ri rv h
  · cases ro
    exact d_setItem hu I g ri rv fun s4 I4 => ⟨H4, I4, q⟩
def sPut (to ti tv : TE) : TS := fun D σ H => tv σ H fun v H1 => to σ H1 fun x H2 => ti σ H2 fun y H3 => rPut x y v H3 fun H4 => D.nx σ H4
theorem ps_put {o i value : Expr} {pos pos' : Pos} {to ti tv : TE} (hu : X.A.units + 1 < cLine) (ho : PE X o to) (hi : PE X i ti) (hv : PE X value tv) : PS X (.Assign [.Subscript o i pos'] value pos) (sPut to ti tv) := by
  refine ⟨fun pins s σ H D I h => ?_⟩
  refine wpAny_Assign_Subscript (thn (hv.run pins s σ H _ I h) fun r s1 ⟨v, H1, I1, rv, q1⟩ => thn (ho.run pins s1 σ H1 _ I1 q1) fun u s2 ⟨x, H2, I2, rx, q2⟩ => thn (hi.run pins s2 σ H2 _ I2 q2) fun iv s3 ⟨y, H3, I3, ry, q3⟩ => ?_) sw_sub
  exact thn (put_ok hu pins s3 σ H3 x y v u iv r _ I3 rx ry rv q3) fun _ s4 ⟨H4, I4, q4⟩ => ⟨σ, H4, I4, q4⟩
/-- what a container becomes, where it stands -/
theorem cset_ok {K : PySem.W.Frag} {T : Tab} {φ : Ix} {H : L2.Hp} {a : Addr} {u : HO} {c d : Con} {i v : Val} {y w : V} (hu : H a = some u) (rc : RCo K T φ H a c u) (qi : RV K T φ H i y) (qv : RV K T φ H v w) (e : cset c i v = some d) :
    ∃ o, notTup u ∧ (∀ ψ G, VExt φ H ψ G → RCo K T ψ G a d o) ∧ ∀ Q : L2.Hp → Prop, Q (upd H a o) → rPut (.ref a) y w H Q := by
  cases c <;> simp only [cset, reduceCtorEq] at e
  · rename_i xs
    obtain ⟨ws, rfl, p2⟩ := rc
    cases i <;> simp only [reduceCtorEq] at e
    rename_i j
    obtain ⟨q, hj, rfl⟩ := Option.map_eq_some_iff.mp e
    refine ⟨.lst (ws.set q w), trivial, fun ψ G ve => ⟨_, rfl, (p2.set qv q).monoV ve _ _⟩, fun Q hQ => .inl ⟨a, ws, j, q, rfl, qi, hu, by rw [p2.length]; exact hj, hQ⟩⟩
  · rename_i kvs
    obtain ⟨ks, rfl, p2⟩ := rc
    split at e <;> try cases e
    rename_i kk hk
    split at e <;> cases e
    rename_i hl
    refine ⟨.dK (putK ks (kT kk) w), trivial, fun ψ G ve => ⟨_, rfl, (RKs.put kTi qv p2).monoV ve⟩, fun Q hQ => .inr ⟨a, _, rfl, ?_, hQ⟩⟩
    rw [keyOf_V hk qi]
    exact DPut.k hu (by rw [p2.length]; exact hl)
  · rename_i kvs
    obtain ⟨ks, rfl, p2⟩ := rc
    split at e <;> try cases e
    rename_i kk hk
    split at e <;> cases e
    rename_i hl
    obtain ⟨b, rfl, eb⟩ := keysOf_V hk qi
    exact ⟨.dT (putK ks (kk.map kT) w), trivial, fun ψ G ve => ⟨_, rfl, (RKs.put kTsi qv p2).monoV ve⟩, fun Q hQ => .inr ⟨a, _, rfl, DPut.t hu eb (by rw [p2.length]; exact hl), hQ⟩⟩
theorem s_asgI (C : Ctx P G T c X call callI W k) {o i e : Ex} {l r x : Expr} {p pos : Pos} (ho : SE P T X call callI W o l) (hi : SE P T X call callI W i r) (he : SE P T X call callI W e x) : SS P T X call callI W (.asgI o i e) (.Assign [.Subscript l r p] x pos) := by
  refine psI (ps_put (by have := C.un; omega) ho hi he) fun D σ H hh => ?_
  refine (tS.lift (R1 := RV X.K T.toTab) (k := fun fr y h1 => PyI.lift (ev P call callI o fr h1) fr fun x h2 => PyI.lift (ev P call callI i fr h2) fr fun z h3 => SR.of fr (setV x z y h3)) hh).mono fun u H1 ⟨y, φ, h1, fr, R, F, q, o1⟩ => ?_
  refine ⟨φ, h1, fr, R, F, (okS.lift (R1 := RV X.K T.toTab) o1 F).mono fun z H2 ⟨x, ψ, h2, _, e2, R2, F2, q2, o2⟩ => ?_⟩
  refine ⟨ψ, h2, fr, R2, F2, (okS.lift (R1 := RV X.K T.toTab) o2 F2).mono fun z3 H3 ⟨x3, χ, h3, _, e3, R3, F3, q3, o3⟩ => ?_⟩
  have qx := q2.mono e3 _ _
  have qy := (q.mono e2 _ _).mono e3 _ _
  cases hs : setV x x3 y h3 with
  | none => rw [hs] at o3; exact o3.elim
  | some h4 =>
    rw [hs] at o3
    unfold setV at hs
    cases x <;> simp only [reduceCtorEq] at hs
    rename_i m
    split at hs <;> try cases hs
    rename_i c0 he0
    obtain ⟨d, hd, rfl⟩ := Option.map_eq_some_iff.mp hs
    obtain ⟨a, u', rfl, ea, hu, rc⟩ := R3.con qx he0
    obtain ⟨ob, nt, rc', fin⟩ := cset_ok hu rc q3 qy hd
    have e := ext_set (o := ob) R3 (tr_of ea) hu nt
    exact fin _ (okS.nxE o3 e.toExtS (R3.set ea hu nt (rc' _ _ e.toExtS.ve)) (F3.mono e))
end
end PyI
namespace PyI
open PySem PySem.Spec PyProof.Rows L2
section
variable {P : Pg} {G : Gam} {T : Tab2} {c : SC} {X : Cx} {call callI : Nat → List Val → Mem → Res Ret} {W : WX} {k : Nat}
def augOp (sub : Bool) : Operator := if sub then .Sub else .Add
def rAug (sub : Bool) : V → V → L2.Hp → VK → Prop := if sub then rSub else rAdd
theorem aug_in (sub : Bool) : InOp X (augOp sub) (rAug sub) := by cases sub; exact in_add; exact in_sub
theorem augI_inv {sub : Bool} {u y z : Val} (h : augI sub u y = some z) : ∃ i j, u = .int i ∧ y = .int j ∧ z = .int (if sub then i - j else i + j) := by
  cases u <;> cases y <;> simp only [augI, Option.some.injEq, reduceCtorEq] at h
  exact ⟨_, _, rfl, rfl, h.symm⟩
theorem s_augA (C : Ctx P G T c X call callI W k) {o e : Ex} {f : Nat} {sub : Bool} {n : Str} {l x : Expr} {p pos : Pos} (hn : G.nms.lookup f = some n) (ho : SE P T X call callI W o l) (he : SE P T X call callI W e x) : SS P T X call callI W (.augA o f sub e) (.AugAssign (.Attribute l n p) (augOp sub) x pos) := by
  have en := C.wd.nms _ _ hn
  subst en
  refine psI (ps_fldaug ho he (aug_in sub)) fun D σ H hh => ?_
  refine (tS.lift (R1 := RV X.K T.toTab) (k := fun fr (x : Val) h1 => (match x with
    | .ref a => (match h1[a]? with
      | some (.ins c fs) => (match if fldF P c f then (fs.lookup f).bind slV? else none with
        | some u => PyI.lift (ev P call callI e fr h1) fr fun y h2 => (match augI sub u y with
          | some z => if kindV h2 x = 10 + c then SR.of fr (setA P f x z h2) else .bad
          | none => .bad)
        | none => .bad)
      | _ => .bad)
    | _ => .bad : SR)) hh).mono fun z H1 ⟨xx, φ, h1, fr, R, F, q, o1⟩ => ?_
  cases xx <;> simp only [] at o1 <;> try exact False.elim o1
  rename_i m
  split at o1
  · rename_i d fs hh1
    split at o1
    · rename_i u hu
      obtain ⟨a, dx, ks, rfl, ea, p1, p2⟩ := R.ins q hh1
      have hf : fldF P d f = true ∧ (fs.lookup f).bind slV? = some u := by
        by_cases hf : fldF P d f = true
        · rw [if_pos hf] at hu; exact ⟨hf, hu⟩
        · rw [if_neg hf] at hu; cases hu
      obtain ⟨Cd, e1, e2⟩ := fields_of hf.1
      obtain ⟨c1, c2, _⟩ := C.wd.cls d Cd e1
      obtain ⟨sl, hsl, hsv⟩ := Option.bind_eq_some_iff.mp hf.2
      obtain ⟨w', hw, rw'⟩ := (RSs.look T.inj p2).1 sl hsl
      cases sl <;> simp only [slV?, reduceCtorEq, Option.some.injEq] at hsv
      subst hsv
      refine ⟨a, T.cls d, dx, ks, w', rfl, p1, c1, c2 f e2, hw, φ, h1, fr, R, F, (okS.lift (R1 := RV X.K T.toTab) o1 F).mono fun y2 H2 ⟨y, ψ, h2, _, ee, R2, F2, q2, o2⟩ => ?_⟩
      split at o2
      · rename_i zz hz
        have rw2 := RV.mono ee _ _ rw'
        obtain ⟨i, j, rfl, rfl, rfl⟩ := augI_inv hz
        have qx := q.mono ee _ _
        split at o2
        · rename_i hk
          have qz : RV X.K T.toTab ψ H2 (.int (if sub then i - j else i + j)) (.int (if sub then i - j else i + j)) := rfl
          cases hs : setA P f (.ref m) (.int (if sub then i - j else i + j)) h2 with
          | none => rw [hs] at o2; exact o2.elim
          | some h3 =>
            rw [hs] at o2
            obtain ⟨a', A, dx', fs', ez, g1, g2, g3, g4, g5, g6⟩ := setA_ok C R2 qx qz hs
            cases ez
            have eA : A = T.cls d := by
              simp only [kindV] at hk
              split at hk <;> first | omega | skip
              rename_i d2 fs2 he2
              have : d2 = d := by omega
              subst this
              obtain ⟨a'', dx'', ks'', ez, _, k1, _⟩ := R2.ins qx he2
              cases ez
              rw [g1] at k1; cases k1; rfl
            subst eA
            have fin := okS.nxE o2 g5.toExtS g6 (F2.mono g5)
            have ht : ∃ dx' fs', H2 a = some (.ins (T.cls d) dx' fs') ∧ fs'.length < 1000 ∧ D.nx σ (upd H2 a (.ins (T.cls d) dx' (putF (T.nm f) (.int (if sub then i - j else i + j)) fs'))) := ⟨dx', fs', g1, g4, fin⟩
            rw [show w' = _ from rw2, show y2 = _ from q2]
            unfold rAug
            cases sub
            · exact ⟨i, j, rfl, rfl, ht⟩
            · exact ⟨i, j, rfl, rfl, ht⟩
        · exact False.elim o2
      · exact False.elim o2
    · exact False.elim o1
  · exact False.elim o1
/-- an own field takes a new container -/
theorem Rel.ownF {K : PySem.W.Frag} {T : Tab2} {φ : Ix} {H : L2.Hp} {h : Mem} {n d f : Nat} {fs : List (Nat × Sl)} {c' : Con} {a b : Addr} {dx : Addr} {ks : List (Str × V)} {u : HO} (R : Rel K T.toTab φ H h) (he : h[n]? = some (.ins d fs)) (ea : φ.c[n]? = some a) (p1 : H a = some (.ins (T.cls d) dx ks)) (p2 : RSs K T.toTab φ H n fs ks) (nd : nodupF fs = true)
    (fh : Fresh φ b) (hu : H b = some u) (rc : RCo K T.toTab φ H b c' u) :
    ∃ ω : Ix, ω.S = φ.S ∧ ω.M = φ.M ∧ Ext φ H ω (upd H a (.ins (T.cls d) dx (putF (T.nm f) (.ref b) ks))) ∧ Rel K T.toTab ω (upd H a (.ins (T.cls d) dx (putF (T.nm f) (.ref b) ks))) (h.set n (.ins d (fput f (.o c') fs))) := by
  let ω : Ix := { φ with o := fun m g => if m = n ∧ g = f then some b else φ.o m g }
  have on : ω.o n f = some b := if_pos ⟨rfl, rfl⟩
  have off : ∀ {m g}, ¬ (m = n ∧ g = f) → ω.o m g = φ.o m g := fun h => if_neg h
  have tra := tr_of ea
  have e := ext_set (o := .ins (T.cls d) dx (putF (T.nm f) (.ref b) ks)) R tra p1 trivial
  have hba : b ≠ a := fun z => fh.tr (z ▸ tra)
  have tr : ∀ {x}, ω.tr x → φ.tr x ∨ x = b := fun {x} q => by
    rcases q with q | ⟨m, g, q⟩
    · exact .inl (.inl q)
    · by_cases h1 : m = n ∧ g = f
      · obtain ⟨rfl, rfl⟩ := h1
        rw [on] at q; cases q; exact .inr rfl
      · rw [off h1] at q; exact .inl (.inr ⟨m, g, q⟩)
  have nb : ∀ {m g x}, ω.o m g = some x → (m = n ∧ g = f ∧ x = b) ∨ (¬ (m = n ∧ g = f) ∧ φ.o m g = some x) := fun {m g x} q => by
    by_cases h1 : m = n ∧ g = f
    · obtain ⟨rfl, rfl⟩ := h1
      rw [on] at q; cases q; exact .inl ⟨rfl, rfl, rfl⟩
    · rw [off h1] at q; exact .inr ⟨h1, q⟩
  have ve : VExt φ H ω (upd H a (.ins (T.cls d) dx (putF (T.nm f) (.ref b) ks))) := ⟨fun _ _ q => q, fun _ q => q, e.tup, e.keL⟩
  refine ⟨ω, rfl, rfl, { pre := ⟨[], by simp [ω]⟩, eS := rfl, eL := fun _ q => q, tup := e.tup, keL := e.keL, keS := e.keS, fz := e.fz, eM := rfl, keM := e.keM }, ?_⟩
  refine ⟨by simp [R.len, ω], R.nd, fun m g x q hm => ?_, fun m g m' g' x q1 q2 => ?_, fun m g x q => ?_, fun x q => ?_, fun x q => ?_, fun x q => ?_, fun m x ob e1 e2 => ?_⟩
  · rcases nb q with ⟨_, _, rfl⟩ | ⟨_, q⟩
    · exact fh.tr (.inl hm)
    · exact R.oc m g x q hm
  · rcases nb q1 with ⟨e1, e2, e3⟩ | ⟨_, k1⟩
    · rcases nb q2 with ⟨e4, e5, _⟩ | ⟨_, k2⟩
      · exact ⟨e1.trans e4.symm, e2.trans e5.symm⟩
      · exact absurd (.inr ⟨m', g', e3 ▸ k2⟩) fh.tr
    · rcases nb q2 with ⟨_, _, e3⟩ | ⟨_, k2⟩
      · exact absurd (.inr ⟨m, g, e3 ▸ k1⟩) fh.tr
      · exact R.oi m g m' g' x k1 k2
  · rcases nb q with ⟨rfl, rfl, rfl⟩ | ⟨_, q⟩
    · exact ⟨(List.getElem?_eq_some_iff.mp ea).1, upd_some (by rw [hu]; simp)⟩
    · exact ⟨(R.on m g x q).1, upd_some (R.on m g x q).2⟩
  · exact ⟨fun z => (tr z).elim (R.iL x q).1 fun z => fh.L (z ▸ q), upd_some (R.iL x q).2⟩
  · exact ⟨fun z => (tr z).elim (R.iS x q).1 fun z => fh.S (z ▸ q), (R.iS x q).2.1, upd_some (R.iS x q).2.2⟩
  · exact ⟨fun z => (tr z).elim (R.iM x q).1 fun z => fh.M (z ▸ q), (R.iM x q).2.1, (R.iM x q).2.2.1, upd_some (R.iM x q).2.2.2⟩
  · have e1 : φ.c[m]? = some x := e1
    rcases set_get e2 with ⟨rfl, e3, _⟩ | ⟨hj, e3⟩
    · subst e3
      rw [ea] at e1; cases e1
      refine ⟨_, upd_same, dx, _, rfl, p2.putO ve T.inj ?_ nd fun g hg => ⟨fun y q => ⟨by rw [off fun z => hg z.2]; exact q, upd_ne fun z => R.oc n g y q (z ▸ List.mem_of_getElem? ea)⟩, rfl⟩⟩
      exact ⟨b, u, on, rfl, by rw [upd_ne hba]; exact hu, rc.monoV ve⟩
    · obtain ⟨u', q1, q2⟩ := R.at_ m x ob e1 e3
      have hxa : x ≠ a := fun z => hj (by
        subst z
        obtain ⟨l1, g1⟩ := List.getElem?_eq_some_iff.mp e1
        obtain ⟨l2, g2⟩ := List.getElem?_eq_some_iff.mp ea
        exact ((List.getElem_inj R.nd).mp (g1.trans g2.symm)).symm)
      exact ⟨u', by rw [upd_ne hxa]; exact q1, q2.monoV ve fun g y q => ⟨by rw [off fun z => hj z.1.symm]; exact q, upd_ne fun z => R.oc m g y q (z ▸ List.mem_of_getElem? ea)⟩⟩
theorem s_ownA (C : Ctx P G T c X call callI W k) {i f : Nat} {a : Az} {n : Str} {nm : Str} {x : Expr} {p0 p pos : Pos} (hn : G.nms.lookup f = some n) (hi : c.slot i nm = true) (he : SA P T X call callI W a x) : SS P T X call callI W (.ownA i f a) (.Assign [.Attribute (.Name nm p0) n p] x pos) := by
  have en := C.wd.nms _ _ hn
  subst en
  refine psI (ps_fld (C.var hi) he sw_att) fun D σ H hh => ?_
  refine (tS.lift (R1 := RA X.K T.toTab) (k := fun fr c h1 => match fr[i]? with
    | some (.v (.ref n)) => (match h1[n]? with
      | some (.ins d fs) => if fldF P d f && decide (fs.length < 1000) && nodupF fs then .ok .nx fr (h1.set n (.ins d (fput f (.o c) fs))) else .bad
      | _ => .bad)
    | _ => .bad) hh).mono fun u H1 ⟨c', φ, h1, fr, R, F, ⟨b, u', ex, fh, hu, rc⟩, o1⟩ => ?_
  subst ex
  split at o1 <;> try exact o1.elim
  rename_i m em
  split at o1 <;> try exact o1.elim
  rename_i d fs hm
  split at o1 <;> try exact o1.elim
  rename_i hc
  simp only [Bool.and_eq_true, decide_eq_true_eq] at hc
  obtain ⟨⟨hc1, hc2⟩, hc3⟩ := hc
  obtain ⟨y, ey, ry⟩ := F.v i _ em
  refine ⟨y, ey, ?_⟩
  obtain ⟨Cd, e1, e2⟩ := fields_of hc1
  obtain ⟨c1, c2, _⟩ := C.wd.cls d Cd e1
  obtain ⟨a', dx, ks, rfl, ea, p1, p2⟩ := R.ins ry hm
  obtain ⟨ω, _, _, e3, R3⟩ := R.ownF (f := f) hm ea p1 p2 hc3 fh hu rc
  exact ⟨a', T.cls d, dx, ks, rfl, p1, c1, c2 f e2, by rw [p2.length]; exact hc2, okS.nxE o1 e3.toExtS R3 (F.mono e3)⟩
/-! ### a place is changed -/
theorem mtpl {α β : Type} {K : PySem.W.Frag} {T : Tab} {RR : Ix → L2.Hp → α → β → Prop} {b : Bool} {r : PyI.Fr → Mem → Res α} {σ : L2.St} {H1 : L2.Hp} {Q1 Q2 : β → L2.Hp → Prop} (m : ∀ y H2, Q1 y H2 → Q2 y H2) (hh : tPl K T W RR b r σ H1 Q1) : tPl K T W RR b r σ H1 Q2 := hh.mono m
/-- a place, what is asked of it, a change -/
theorem px_stm {α β : Type} {RR : Ix → L2.Hp → α → β → Prop} {r : PyI.Fr → Mem → Res α} {f : PyI.Fr → Mem → α → SR} {g : Con → Bool} {b : Bool} {p : Px} {σ : L2.St} {φ : Ix} {H : L2.Hp} {h : Mem} {fr : PyI.Fr} {D : Ends}
    (hq : (∃ i, p = .s i) ∨ (b = true ∧ Quiet r)) (R : Rel X.K T.toTab φ H h) (F : RFr X.K T.toTab φ H fr σ)
    (o : okS X.K T.toTab φ H D W (if !(evp P p fr h).any g then .bad else PyI.lift (r fr h) fr fun w h1 => f fr h1 w)) :
    ∃ c0, evp P p fr h = some c0 ∧ g c0 = true ∧ ∀ q x, plF p fr = some q → RP X.K T.toTab φ H p σ q c0 x → tPl X.K T.toTab W RR b r σ H fun y H2 => ∃ ψ h2 a w u, x = .ref a ∧ (∀ i, p = .s i → σ[i]? = some (some (.ref a))) ∧ ExtS φ H ψ H2 ∧ Rel X.K T.toTab ψ H2 h2 ∧ RFr X.K T.toTab ψ H2 fr σ ∧ H2 a = some u ∧ RCo X.K T.toTab ψ H2 a c0 u ∧ RR ψ H2 w y ∧ evp P p fr h2 = some c0 ∧ plA ψ q a ∧ okS X.K T.toTab ψ H2 D W (f fr h2 w) := by
  split at o
  · exact o.elim
  rename_i hs
  simp only [Bool.not_eq_true', Bool.not_eq_false] at hs
  obtain ⟨c', ec, gc⟩ := any_some hs
  refine ⟨c', ec, gc, fun q x hpl ⟨a, u, ex, hu, rc, hw⟩ => ?_⟩
  rcases hq with ⟨i, rfl⟩ | ⟨hb, hq⟩
  · cases hpl
    have ef : ∀ h1, evp P (.s i) fr h1 = some c' := fun h1 => ec
    refine .inl ⟨φ, h, fr, R, F, (okS.lift (R1 := RR) o F).mono fun y H2 ⟨w, ψ, h2, _, e, R2', F2, q2, o2⟩ => ?_⟩
    refine ⟨ψ, h2, a, w, u, ex, hw.2, e.toExtS, R2', F2, by rw [e.keM a hw.1]; exact hu, rc.mono e, q2, ef h2, ?_, o2⟩
    show ψ.M a
    rw [e.eM]; exact hw.1
  · rcases hq fr h with er | ⟨w, er⟩
    · rw [er] at o; exact o.elim
    · rw [er] at o
      refine .inr ⟨hb, φ, h, fr, w, R, F, er, fun G1 y gr e R2' q2 => ⟨φ, h, a, w, u, ex, hw.2, e.toExtS, R2', F.mono e, gr a u hu, rc.mono e, q2, ec, hw.1, okS.ext o e.toExtS⟩⟩
theorem s_papp (C : Ctx P G T c X call callI W k) {p : Px} {e : Ex} {l y : Expr} {ap p1 pos : Pos} (hl : (ap.endLine == p1.line) = true) (hp : G.px c p l = true) (sim : simP1 p e = true) (hm : mE G c e y = true) (st : notStar y = true) (hi : SE P T X call callI W e y) :
    SS P T X call callI W (.papp p e) (.Expr (.Call (.Attribute l "append" ap) [y] [] p1) pos) := by
  refine psI (ps_expr (pe_bm (T := "list") (id := "list.append") PySem.F.plainAttrs_list PySem.F.slot_list_append PySem.F.type_list_append (mt_append (X := X)) (s_px C hp) (pa_cons (pl_E C hm hi) pa_nil (star_of st _ _)) (base_of (px_star hp).2 _ _) (few_of _ _ (by simp [st]) (by simp)) hl (star_of st _ _) (noneStar _ _ rfl)) rfl) fun D σ H ⟨φ, h, fr, R, F, o⟩ => ?_
  obtain ⟨c0, ec, gc, go⟩ := px_stm (RR := RV X.K T.toTab) (r := ev P call callI e) (b := simE e) (f := fun fr h1 v => SR.of2 (((evp P p fr h1).bind fun c => capp c v).bind fun c => putp p c fr h1)) (simP1_or sim) R F o
  cases c0 <;> simp only [isLst, Bool.false_eq_true] at gc
  rename_i xs
  refine ⟨φ, h, fr, _, R, F, ec, fun q x hpl rp => ⟨?_, mtpl (fun y H2 ⟨ψ, h2, a, w, u, ex, hs, e3, R2, F2, hu, rc, q2, ep, hw, o2⟩ => ?_) (go q x hpl rp)⟩⟩
  · obtain ⟨a, u, rfl, hu, ⟨vs, rfl, _⟩, _⟩ := rp
    exact .inl ⟨rfl, vs, .inl (.inl hu)⟩
  · subst ex
    rw [ep] at o2
    simp only [Option.bind_some, capp] at o2
    split at o2
    · rename_i hlen
      obtain ⟨vs, rfl, rc⟩ := rc
      cases hpp : putp p (.lst (xs ++ [w])) fr h2 with
      | none => simp only [Option.bind_some, hpp] at o2; exact o2.elim
      | some r =>
        simp only [Option.bind_some, hpp] at o2
        obtain ⟨g1, g2, g3⟩ := place_set (c' := .lst (xs ++ [w])) (o := .lst (vs ++ [y])) R2 F2 hpl hw hs hu trivial (fun ψ' G' ve => ⟨_, rfl, (rc.append (.one q2)).monoV ve _ _⟩) (h' := r.2) (fr' := r.1) hpp
        exact ⟨a, vs, y, rfl, rfl, hu, by rw [rc.length]; exact hlen, okS.nxE o2 g1 g2 g3⟩
    · exact o2.elim
theorem s_pext (C : Ctx P G T c X call callI W k) {p : Px} {e : Ex} {l y : Expr} {ap p1 pos : Pos} (hl : (ap.endLine == p1.line) = true) (hp : G.px c p l = true) (sim : simP1 p e = true) (hm : mE G c e y = true) (st : notStar y = true) (hi : SE P T X call callI W e y) :
    SS P T X call callI W (.pext p e) (.Expr (.Call (.Attribute l "extend" ap) [y] [] p1) pos) := by
  refine psI (ps_expr (pe_bm (T := "list") (id := "list.extend") PySem.F.plainAttrs_list PySem.F.slot_list_extend PySem.F.type_list_extend (mt_extendT (X := X)) (s_px C hp) (pa_cons (pl_E C hm hi) pa_nil (star_of st _ _)) (base_of (px_star hp).2 _ _) (few_of _ _ (by simp [st]) (by simp)) hl (star_of st _ _) (noneStar _ _ rfl)) rfl) fun D σ H ⟨φ, h, fr, R, F, o⟩ => ?_
  obtain ⟨c0, ec, gc, go⟩ := px_stm (RR := RV X.K T.toTab) (r := ev P call callI e) (b := simE e) (f := fun fr h1 v => SR.of2 (((evp P p fr h1).bind fun c => cext h1 c v).bind fun c => putp p c fr h1)) (simP1_or sim) R F o
  cases c0 <;> simp only [isLst, Bool.false_eq_true] at gc
  rename_i xs
  refine ⟨φ, h, fr, _, R, F, ec, fun q x hpl rp => ⟨?_, mtpl (fun y H2 ⟨ψ, h2, a, w, u, ex, hs, e3, R2, F2, hu, rc, q2, ep, hw, o2⟩ => ?_) (go q x hpl rp)⟩⟩
  · obtain ⟨a, u, rfl, hu, ⟨vs, rfl, _⟩, _⟩ := rp
    exact .inl ⟨rfl, vs, .inl (.inl hu)⟩
  · subst ex
    rw [ep] at o2
    simp only [Option.bind_some] at o2
    cases hce : cext h2 (.lst xs) w with
    | none => rw [hce] at o2; exact o2.elim
    | some c1 =>
      rw [hce] at o2
      simp only [cext] at hce
      split at hce <;> try cases hce
      rename_i xs' zs hc1 hls
      cases hc1
      split at hce <;> cases hce
      rename_i hlen
      obtain ⟨vs, rfl, rc⟩ := rc
      obtain ⟨b, ws, rb, rws, rvw⟩ : ∃ b ws, y = .ref b ∧ (Rd H2 b (.lst ws) ∨ H2 b = some (.tup ws)) ∧ RVs X.K T.toTab ψ H2 zs ws := by
        cases w <;> simp only [PyI.tlA, PyI.lsA, reduceCtorEq] at hls
        · cases hls
          obtain ⟨b, ws, rfl, q1, q2⟩ := q2
          exact ⟨b, ws, rfl, .inr q1, q2⟩
        · obtain ⟨b, ws, rfl, _, q1, q2⟩ := R2.lsN q2 hls
          exact ⟨b, ws, rfl, .inl (.inl q1), q2⟩
        · cases hls
          obtain ⟨b, ws, rfl, q1, q2⟩ := q2
          exact ⟨b, ws, rfl, .inl (ct_lst q1.2), q2⟩
      subst rb
      cases hpp : putp p (.lst (xs ++ zs)) fr h2 with
      | none => simp only [Option.bind_some, hpp] at o2; exact o2.elim
      | some r =>
        simp only [Option.bind_some, hpp] at o2
        obtain ⟨g1, g2, g3⟩ := place_set (c' := .lst (xs ++ zs)) (o := .lst (vs ++ ws)) R2 F2 hpl hw hs hu trivial (fun ψ' G' ve => ⟨_, rfl, (rc.append rvw).monoV ve _ _⟩) (h' := r.2) (fr' := r.1) hpp
        exact ⟨a, b, vs, ws, rfl, rfl, hu, rws, by rw [rc.length, rvw.length]; exact hlen, okS.nxE o2 g1 g2 g3⟩
theorem s_padd (C : Ctx P G T c X call callI W k) {p : Px} {e : Ex} {l y : Expr} {ap p1 pos : Pos} (hl : (ap.endLine == p1.line) = true) (hp : G.px c p l = true) (sim : simP1 p e = true) (hm : mE G c e y = true) (st : notStar y = true) (hi : SE P T X call callI W e y) :
    SS P T X call callI W (.padd p e) (.Expr (.Call (.Attribute l "add" ap) [y] [] p1) pos) := by
  refine psI (ps_expr (pe_sadd (s_px C hp) (pa_cons (pl_E C hm hi) pa_nil (star_of st _ _)) (base_of (px_star hp).2 _ _) (few_of _ _ (by simp [st]) (by simp)) hl (star_of st _ _) (noneStar _ _ rfl)) rfl) fun D σ H ⟨φ, h, fr, R, F, o⟩ => ?_
  obtain ⟨c0, ec, gc, go⟩ := px_stm (RR := RV X.K T.toTab) (r := ev P call callI e) (b := simE e) (f := fun fr h1 v => SR.of2 (((evp P p fr h1).bind fun c => cadd c v).bind fun c => putp p c fr h1)) (simP1_or sim) R F o
  cases c0 <;> simp only [isSet, Bool.false_eq_true] at gc
  rename_i xs
  refine ⟨φ, h, fr, _, R, F, ec, fun q x hpl rp => ⟨?_, mtpl (fun y H2 ⟨ψ, h2, a, w, u, ex, hs, e3, R2, F2, hu, rc, q2, ep, hw, o2⟩ => ?_) (go q x hpl rp)⟩⟩
  · obtain ⟨a, u, rfl, hu, ⟨S, rfl, _⟩, _⟩ := rp
    exact ⟨a, S, _, rfl, by rw [← C.tw]; exact hu⟩
  · subst ex
    rw [ep] at o2
    simp only [Option.bind_some] at o2
    cases w <;> simp only [cadd, Option.bind_none] at o2 <;> try exact o2.elim
    rename_i i
    split at o2
    · rename_i hlen
      obtain ⟨S, rfl, rc⟩ := rc
      rw [C.tw] at hu
      have sb : xs.length + 1 < scanBound := by show _ < 4096; omega
      have fin : ∀ (xs' : List Int), SetO X.w a (fun j => S j || decide (j = i)) (if S i = true then xs.length else xs.length + 1) = SetO X.w a (fun j => decide (j ∈ xs')) xs'.length → okS X.K T.toTab ψ H2 D W (SR.of2 (putp p (.set xs') fr h2)) → rSAdd X.w (.ref a) [y] H2 fun v H3 => D.nx σ H3 := fun xs' es o2 => by
        cases hpp : putp p (.set xs') fr h2 with
        | none => rw [hpp] at o2; exact o2.elim
        | some r =>
          rw [hpp] at o2
          obtain ⟨g1, g2, g3⟩ := place_set (c' := .set xs') (o := SetO X.w a (fun j => decide (j ∈ xs')) xs'.length) R2 F2 hpl hw hs hu trivial (fun ψ' G' ve => ⟨_, by rw [C.tw], fun _ => rfl⟩) (h' := r.2) (fr' := r.1) hpp
          exact ⟨a, i, S, xs.length, rfl, by rw [show y = V.int i from q2], hu, sb, by rw [es]; exact okS.nxE o2 g1 g2 g3⟩
      split at o2
      · rename_i hin
        refine fin xs ?_ o2
        have e1 : S i = true := by rw [rc i]; exact decide_eq_true hin
        rw [if_pos e1]
        congr 1
        funext j
        rw [rc j]
        by_cases hj : j = i
        · subst hj; simp [hin]
        · simp [hj]
      · rename_i hin
        refine fin (xs ++ [i]) ?_ o2
        have e1 : ¬ S i = true := by rw [rc i]; simpa using hin
        rw [if_neg e1]
        congr 1
        · funext j
          rw [rc j]
          simp [List.mem_append, Bool.decide_or]
        · simp
    · exact o2.elim
theorem s_pset (C : Ctx P G T c X call callI W k) {p : Px} {i e : Ex} {l r x : Expr} {p1 pos : Pos} (hp : G.px c p l = true) (sim : simP1 p i = true) (hm : mE G c i r = true) (hi : SE P T X call callI W i r) (he : SE P T X call callI W e x) :
    SS P T X call callI W (.pset p i e) (.Assign [.Subscript l r p1] x pos) := by
  refine psI (ps_put (by have := C.un; omega) (s_px C hp) (pl_E C hm hi) he) fun D σ H hh => ?_
  refine (tS.lift (R1 := RV X.K T.toTab) (k := fun fr v h1 => if !(evp P p fr h1).isSome then .bad else PyI.lift (ev P call callI i fr h1) fr fun w h2 => SR.of2 (((evp P p fr h2).bind fun c => cset c w v).bind fun c => putp p c fr h2)) hh).mono fun z H1 ⟨v, φ, h1, fr, R, F, qv, o⟩ => ?_
  have o' : okS X.K T.toTab φ H1 D W (if !(evp P p fr h1).any (fun _ => true) then .bad else PyI.lift (ev P call callI i fr h1) fr fun w h2 => SR.of2 (((evp P p fr h2).bind fun c => cset c w v).bind fun c => putp p c fr h2)) := by
    have : (evp P p fr h1).any (fun _ => true) = (evp P p fr h1).isSome := by cases evp P p fr h1 <;> rfl
    rw [this]; exact o
  obtain ⟨c0, ec, gc, go⟩ := px_stm (RR := fun ψ G w y => RV X.K T.toTab ψ G w y) (r := ev P call callI i) (b := simE i) (f := fun fr h1 w => SR.of2 (((evp P p fr h1).bind fun c => cset c w v).bind fun c => putp p c fr h1)) (simP1_or sim) R F o'
  refine ⟨φ, h1, fr, c0, R, F, ec, fun q x hpl rp => mtpl (fun y H2 ⟨ψ, h2, a, w, u, ex, hs, e3, R2, F2, hu, rc, q2, ep, hw, o2⟩ => ?_) (go q x hpl rp)⟩
  subst ex
  rw [ep] at o2
  simp only [Option.bind_some] at o2
  cases hcs : cset c0 w v with
  | none => rw [hcs] at o2; exact o2.elim
  | some d =>
    rw [hcs] at o2
    obtain ⟨ob, nt, rc', fin⟩ := cset_ok hu rc q2 (qv.monoV e3.ve _ _) hcs
    cases hpp : putp p d fr h2 with
    | none => simp only [Option.bind_some, hpp] at o2; exact o2.elim
    | some r =>
      simp only [Option.bind_some, hpp] at o2
      obtain ⟨g1, g2, g3⟩ := place_set (o := ob) R2 F2 hpl hw hs hu nt rc' (h' := r.2) (fr' := r.1) hpp
      exact fin _ (okS.nxE o2 g1 g2 g3)
theorem cdel_inv {c : Con} {w : Val} {d : Con} (h : cdel c w = some d) : ∃ kvs k, c = .dik kvs ∧ keyOf w = some k ∧ (kget kvs k).isSome = true ∧ d = .dik (kdrop kvs k) := by
  cases c <;> simp only [cdel, reduceCtorEq] at h
  split at h <;> try cases h
  rename_i kk hk
  split at h <;> cases h
  rename_i hs
  exact ⟨_, kk, rfl, hk, hs, rfl⟩
theorem s_pdel (C : Ctx P G T c X call callI W k) {p : Px} {i : Ex} {l r : Expr} {p1 pos : Pos} (hp : G.px c p l = true) (sim : simP1 p i = true) (hm : mE G c i r = true) (hi : SE P T X call callI W i r) :
    SS P T X call callI W (.pdel p i) (.Delete [.Subscript l r p1] pos) := by
  refine psI (ps_ddel (s_px C hp) (pl_E C hm hi)) fun D σ H ⟨φ, h1, fr, R, F, o⟩ => ?_
  have o' : okS X.K T.toTab φ H D W (if !(evp P p fr h1).any (fun _ => true) then .bad else PyI.lift (ev P call callI i fr h1) fr fun w h2 => SR.of2 (((evp P p fr h2).bind fun c => cdel c w).bind fun c => putp p c fr h2)) := by
    have : (evp P p fr h1).any (fun _ => true) = (evp P p fr h1).isSome := by cases evp P p fr h1 <;> rfl
    rw [this]; exact o
  obtain ⟨c0, ec, gc, go⟩ := px_stm (RR := RV X.K T.toTab) (r := ev P call callI i) (b := simE i) (f := fun fr h1 w => SR.of2 (((evp P p fr h1).bind fun c => cdel c w).bind fun c => putp p c fr h1)) (simP1_or sim) R F o'
  refine ⟨φ, h1, fr, c0, R, F, ec, fun q x hpl rp => mtpl (fun y H2 ⟨ψ, h2, a, w, u, ex, hs, e3, R2, F2, hu, rc, q2, ep, hw, o2⟩ => ?_) (go q x hpl rp)⟩
  subst ex
  rw [ep] at o2
  simp only [Option.bind_some] at o2
  cases hcs : cdel c0 w with
  | none => rw [hcs] at o2; exact o2.elim
  | some d =>
    rw [hcs] at o2
    obtain ⟨kvs0, kk, rfl, hk, hsm, rfl⟩ := cdel_inv hcs
    obtain ⟨ks, rfl, p2⟩ := rc
    obtain ⟨vv, hv⟩ := Option.isSome_iff_exists.mp hsm
    obtain ⟨zz, ez, _⟩ := (RKs.val kTi p2).1 vv hv
    cases hpp : putp p (.dik (kdrop kvs0 kk)) fr h2 with
    | none => simp only [Option.bind_some, hpp] at o2; exact o2.elim
    | some r =>
      simp only [Option.bind_some, hpp] at o2
      obtain ⟨g1, g2, g3⟩ := place_set (c' := .dik (kdrop kvs0 kk)) (o := .dK (L2.dropK ks (kT kk))) R2 F2 hpl hw hs hu trivial (fun ψ' G' ve => ⟨_, rfl, (RKs.dropK kTi p2).monoV ve⟩) (h' := r.2) (fr' := r.1) hpp
      exact ⟨a, ks, kT kk, rfl, hu, keyOf_V hk q2, by rw [ez]; rfl, okS.nxE o2 g1 g2 g3⟩
theorem s_del (C : Ctx P G T c X call callI W k) {o i : Ex} {l r : Expr} {p pos : Pos} (ho : SE P T X call callI W o l) (hi : SE P T X call callI W i r) : SS P T X call callI W (.del o i) (.Delete [.Subscript l r p] pos) := by
  refine psI (ps_ddel ho hi) fun D σ H hh => ?_
  refine (tS.lift (R1 := RV X.K T.toTab) (k := fun fr x h1 => PyI.lift (ev P call callI i fr h1) fr fun z h2 => SR.of fr (delV x z h2)) hh).mono fun u H1 ⟨x, φ, h1, fr, R, F, q, o1⟩ => ?_
  refine ⟨φ, h1, fr, R, F, (okS.lift (R1 := RV X.K T.toTab) o1 F).mono fun y H2 ⟨z, ψ, h2, _, e2, R2, F2, q2, o2⟩ => ?_⟩
  unfold delV at o2
  cases x <;> simp only [] at o2 <;> try exact False.elim o2
  rename_i m
  split at o2 <;> try exact False.elim o2
  rename_i c0 he
  cases hcs : cdel c0 z with
  | none => rw [hcs] at o2; exact o2.elim
  | some d =>
    rw [hcs] at o2
    obtain ⟨a, u', rfl, ea, p1, rc⟩ := R2.con (q.mono e2 _ _) he
    cases c0 <;> simp only [cdel, reduceCtorEq] at hcs
    split at hcs <;> try cases hcs
    rename_i kk hk
    split at hcs <;> cases hcs
    rename_i hsm
    obtain ⟨ks, rfl, p2⟩ := rc
    obtain ⟨vv, hv⟩ := Option.isSome_iff_exists.mp hsm
    obtain ⟨zz, ez, _⟩ := (RKs.val kTi p2).1 vv hv
    have e := ext_set (o := .dK (L2.dropK ks (kT kk))) R2 (tr_of ea) p1 trivial
    exact ⟨a, ks, kT kk, rfl, p1, keyOf_V hk q2, by rw [ez]; rfl, okS.nxE o2 e.toExtS (R2.set ea p1 trivial ⟨_, rfl, (RKs.dropK kTi p2).mono e⟩) (F2.mono e)⟩
/-! ### several attributes at once -/
theorem wpAny_assign_Att {M : Model} {A : Around} {E : Value → Shared → Prop} {s : Shared} {env : Env} {o : Expr} {attr : Str} {pos : Pos} {v : Value} {Q : Unit → Shared → Prop}
    (h : wpAny M A (eval o env) (fun w t => wpAny M A (setAttr w attr v) Q E t) E s) : wpAny M A (assign (.Attribute o attr pos) env v) Q E s := fun Γ p hΓ => by
  simp only [assign_Attribute, Sem.wp_bind', Sem.wp_holding, Sem.wp_cmd_standAt, Sem.wp_release]
  have base := h Γ p hΓ
  exact Sem.wp_mono M Γ _ (fun w _ t k => k Γ _ hΓ) (fun _ _ _ k => k) _ _ base
def gAtt (K : PySem.W.Frag) (ta : TE) (f : Str) : TG := fun y σ H Q => ta σ H fun x H2 => ∃ a A dx fs, x = .ref a ∧ H2 a = some (.ins A dx fs) ∧ Cls K A ∧ NoAttr K A f ∧ fs.length < 1000 ∧ Q σ (upd H2 a (.ins A dx (putF f y fs)))
theorem pg_att {o : Expr} {f : Str} {pos : Pos} {ta : TE} (ho : PE X o ta) : PG X (.Attribute o f pos) (gAtt X.K ta f) := by
  refine ⟨fun pins s σ H y u Q I ry h => ?_⟩
  refine wpAny_assign_Att (thn (ho.run pins s σ H _ I h) fun w t ⟨x, G2, J2, rx, a, A, dx, fs, ex, ea, k1, k2, k3, q2⟩ => ?_)
  subst ex
  obtain rfl : w = Value.ref a := rx
  exact setattr_ok J2 ea k1 k2 k3 ry fun t2 J3 => ⟨σ, _, J3, q2⟩
def mAtts (G : Gam) (c : SC) : List (Nat × Nat) → List Expr → Bool
  | [], [] => true
  | (i, f) :: as, .Attribute (.Name n _) a _ :: xs => c.slot i n && decide (G.nms.lookup f = some a) && mAtts G c as xs
  | _, _ => false
def gAtts (P : Pg) (K : PySem.W.Frag) (T : Tab) (as : List (Nat × Nat)) : TGs := fun xs σ H Q =>
  ∃ φ h fr vs h', Rel K T φ H h ∧ RFr K T φ H fr σ ∧ RVs K T φ H vs xs ∧ setT P fr as vs h = some h' ∧ ∀ ψ G, Ext φ H ψ G → Rel K T ψ G h' → Q σ G
theorem s_atts (C : Ctx P G T c X call callI W k) : ∀ (as : List (Nat × Nat)) (xs : List Expr), mAtts G c as xs = true →
    PGs X xs (gAtts P X.K T.toTab as) ∧ (assignEach xs X.env).length = as.length ∧ (assignEach xs X.env).findIdx? (·.1) = none
  | [], [], _ => by
    refine ⟨⟨fun pins s σ H vs us Q I r ⟨φ, hh, fr, ws, h', R, F, q, e, fin⟩ => ?_⟩, rfl, rfl⟩
    cases ws with
    | nil =>
      simp only [setT, Option.some.injEq] at e
      subst e
      rw [show vs = [] from q] at r
      exact pgs_nil.run pins s σ H [] us Q I r ⟨rfl, fin φ H .refl R⟩
    | cons w ws => simp [setT] at e
  | [], _ :: _, h => by simp [mAtts] at h
  | _ :: _, [], h => by simp [mAtts] at h
  | (i, f) :: as, x :: xs, h => by
    cases x <;> try (simp [mAtts] at h; done)
    rename_i o n p
    cases o <;> try (simp [mAtts] at h; done)
    rename_i nm p0
    simp only [mAtts, Bool.and_eq_true, decide_eq_true_eq] at h
    obtain ⟨⟨h1, h2⟩, h3⟩ := h
    have en := C.wd.nms _ _ h2
    subst en
    obtain ⟨ih1, ih2, ih3⟩ := s_atts C as xs h3
    have es := each_star (x := .Attribute (.Name nm p0) (T.nm f) p) rfl xs X.env
    refine ⟨⟨fun pins s σ H vs us Q I r ⟨φ, hh, fr, ws, h', R, F, q, e, fin⟩ => ?_⟩, by rw [es]; simp [ih2], by rw [es, List.findIdx?_cons]; simp [ih3]⟩
    cases ws with
    | nil => simp [setT] at e
    | cons w ws =>
      simp only [setT] at e
      split at e <;> try cases e
      rename_i xv ex
      obtain ⟨h1', ha, e⟩ := Option.bind_eq_some_iff.mp e
      obtain ⟨y, ys, rfl, q1, q2⟩ := q
      obtain ⟨z, ez, rz⟩ := F.v i _ ex
      obtain ⟨a, A, dx, fs, rfl, g1, g2, g3, g4, g5, g6⟩ := setA_ok C R rz q1 ha
      exact (pgs_cons (pg_att (C.var h1)) ih1 (by rw [es]; rfl)).run pins s σ H _ us Q I r ⟨y, ys, rfl, .ref a, ez, a, A, dx, fs, rfl, g1, g2, g3, g4, φ, h1', fr, ws, h', g6, F.mono g5, q2.mono g5 _ _, e, fun ψ M e2 R2 => fin ψ M (g5.trans e2) R2⟩
theorem setT_len {fr : PyI.Fr} : ∀ {as : List (Nat × Nat)} {vs : List Val} {h h' : Mem}, setT P fr as vs h = some h' → vs.length = as.length
  | [], [], _, _, _ => rfl
  | [], _ :: _, _, _, e => by simp [setT] at e
  | _ :: _, [], _, _, e => by simp [setT] at e
  | (i, f) :: as, v :: vs, h, h', e => by
    simp only [setT] at e
    split at e <;> try cases e
    obtain ⟨h1, _, e⟩ := Option.bind_eq_some_iff.mp e
    simpa using setT_len e
theorem s_asgT (C : Ctx P G T c X call callI W k) {as : List (Nat × Nat)} {e : Ex} {ts : List Expr} {j : Nat} {x : Expr} {p1 pos : Pos} (ht : mAtts G c as ts = true) (hn : notComp x = true) (hs : notTupX x = true) (he : SE P T X call callI W e x) : SS P T X call callI W (.asgT as e) (.Assign [.Tuple ts j p1] x pos) := by
  obtain ⟨p1', p2, p3⟩ := s_atts C as ts ht
  refine psI (ps_asg he (pg_tup C.calm p1' p2 p3) (swaps_of hn (some (.Tuple ts j p1)) pos.line X.env) (by cases x <;> first | rfl | (simp [notTupX] at hs)) rfl) fun D σ H o => ?_
  refine (tS.lift (R1 := RV X.K T.toTab) (k := fun fr v h1 => match v with
    | .tup vs => SR.of fr (setT P fr as vs h1)
    | _ => .bad) o).mono fun y H1 ⟨v, φ, h1, fr, R, F, q, o1⟩ => ?_
  cases v <;> simp only [] at o1 <;> try exact o1.elim
  rename_i vs
  obtain ⟨a, ys, rfl, q1, q2⟩ := q
  cases hst : setT P fr as vs h1 with
  | none => rw [hst] at o1; exact o1.elim
  | some h2 =>
    rw [hst] at o1
    exact ⟨a, ys, rfl, .of q1, by rw [q2.length, setT_len hst], φ, h1, fr, vs, h2, R, F, q2, hst, fun ψ M e2 R2 => okS.nxE o1 e2.toExtS R2 (F.mono e2)⟩
end
end PyI
namespace PyI
open PySem PySem.Spec PyProof.Rows L2
/-! ### except suites -/
section
variable (G : Gam)
mutual
def mX (c : SC) (en : Option (Nat × Str)) : XEx → Expr → Bool
  | .lit l, x => match x with
    | .Constant k _ _ => mLit l k
    | _ => false
  | .var i, x => match x with
    | .Name n _ => c.slot i n
    | _ => false
  | .exi d, x => match x with
    | .Call (.Name n _) [.Name e _, .Name t _] [] _ => G.bl c n "isinstance" && (match en with | some (i, e') => decide (e = e') && c.slot i e | none => false) && decide (G.xnm.lookup d = some t) && c.gl t
    | _ => false
  | .and a b, x => match x with
    | .BoolOp .And [l, r] _ => mX c en a l && mX c en b r
    | .BoolOp .And (l :: r :: s :: rest) p => mX c en a l && mX c en b (.BoolOp .And (r :: s :: rest) p)
    | _ => false
  | .or a b, x => match x with
    | .BoolOp .Or [l, r] _ => mX c en a l && mX c en b r
    | .BoolOp .Or (l :: r :: s :: rest) p => mX c en a l && mX c en b (.BoolOp .Or (r :: s :: rest) p)
    | _ => false
  | .nt a, x => match x with
    | .UnaryOp .Not l _ => mX c en a l
    | _ => false
  | .tup es, x => match x with
    | .Tuple xs _ _ => mXs c en es xs
    | _ => false
  | .lst es, x => match x with
    | .List xs _ => mXs c en es xs
    | _ => false
def mXs (c : SC) (en : Option (Nat × Str)) : XExs → List Expr → Bool
  | .nil, xs => match xs with
    | [] => true
    | _ => false
  | .cons e es, xs => match xs with
    | x :: r => notStar x && mX c en e x && mXs c en es r
    | [] => false
end
/-- as a test -/
def isTst : Expr → Bool
  | .BoolOp _ _ _ => true
  | .UnaryOp .Not _ _ => true
  | .Call _ _ _ _ => true
  | _ => false
mutual
def mXS (c : SC) (en : Option (Nat × Str)) : XSm → Stmt → Bool
  | .ret e, s => match s with
    | .Return (some x) _ => mX G c en e x
    | _ => false
  | .ite t a b, s => match s with
    | .If x p q _ => mX G c en t x && mXSs c en a p && mXSs c en b q
    | _ => false
  | .asg i e, s => match s with
    | .Assign [.Name y _] x _ => c.loc i y && notComp x && mX G c en e x && (match en with | some (j, _) => decide (i ≠ j) | none => true)
    | _ => false
  | .pass, s => match s with
    | .Pass _ => true
    | _ => false
def mXSs (c : SC) (en : Option (Nat × Str)) : XSms → List Stmt → Bool
  | .nil, xs => match xs with
    | [] => true
    | _ => false
  | .cons s ss, xs => match xs with
    | x :: r => mXS c en s x && mXSs c en ss r
    | [] => false
end
end
/-- an except suite's context, the error of class e at a -/
structure CtxH (P : Pg) (G : Gam) (T : Tab2) (c : SC) (X : Cx) (e : Nat) (a : Addr) : Prop where
  N : X.N = c.N
  nd : c.N.Nodup
  sc : X.env.scope = c.sc
  wd : Wd P G T X.K X.mg
  fnt : c.top = true → X.fn = fun _ => true
  isi : (∃ d b, P.exc e d = some b) → ∃ D, T.exn e = .ref D ∧ CallR X (.builtin "isinstance") (rIsE X.K D a)
def enOk (en : Option (Nat × Str)) (a : Addr) (σ : L2.St) : Prop := ∀ i e, en = some (i, e) → σ[i]? = some (some (.ref a))
def okX (K : PySem.W.Frag) (T : Tab) (φ : Ix) (H : L2.Hp) (Z : L2.St → Prop) (D : Ends) : SR → Prop
  | .ok .nx fr h => ∀ ψ G σ, Ext φ H ψ G → Rel K T ψ G h → RFr K T ψ G fr σ → Z σ → D.nx σ G
  | .ok (.rt v) fr h => ∀ ψ G x, Ext φ H ψ G → Rel K T ψ G h → RR K T ψ G v x → D.rt x G
  | _ => False
def tXe (K : PySem.W.Frag) (T : Tab) (Z : L2.St → Prop) (r : PyI.Fr → Option Val) : TE := fun σ H Q =>
  Z σ ∧ ∃ φ h fr v, Rel K T φ H h ∧ RFr K T φ H fr σ ∧ r fr = some v ∧ ∀ ψ G x, Ext φ H ψ G → Rel K T ψ G h → RV K T ψ G v x → Q x G
def tXt (K : PySem.W.Frag) (T : Tab) (Z : L2.St → Prop) (r : PyI.Fr → Option Val) : TT := fun σ H Q =>
  Z σ ∧ ∃ φ h fr b, Rel K T φ H h ∧ RFr K T φ H fr σ ∧ r fr = some (.bl b) ∧ ∀ ψ G, Ext φ H ψ G → Rel K T ψ G h → Q b G
def tXes (K : PySem.W.Frag) (T : Tab) (Z : L2.St → Prop) (r : PyI.Fr → Option (List Val)) : TA := fun σ H Q =>
  Z σ ∧ ∃ φ h fr v, Rel K T φ H h ∧ RFr K T φ H fr σ ∧ r fr = some v ∧ ∀ ψ G x, Ext φ H ψ G → Rel K T ψ G h → RVs K T ψ G v x → Q x G
def tXS (K : PySem.W.Frag) (T : Tab) (Z : L2.St → Prop) (r : PyI.Fr → Mem → SR) : TS := fun D σ H =>
  Z σ ∧ ∃ φ h fr, Rel K T φ H h ∧ RFr K T φ H fr σ ∧ okX K T φ H Z D (r fr h)
section
variable {P : Pg} {G : Gam} {T : Tab2} {c : SC} {X : Cx} {e : Nat} {a : Addr} {en : Option (Nat × Str)}
theorem CtxH.var (C : CtxH P G T c X e a) {i : Nat} {x : Str} {pos : Pos} (h : c.slot i x = true) : PE X (.Name x pos) (tVar i) := by
  unfold SC.slot at h
  simp only [Bool.and_eq_true, decide_eq_true_eq, Bool.not_eq_true'] at h
  refine pe_var (by rw [C.N]; exact h.1.1.1) ?_ h.1.2 h.2
  have hv := h.1.1.2
  rw [C.sc]
  unfold SC.vis at hv
  unfold Vis
  split at hv <;> first | contradiction | simp_all
theorem CtxH.gl (C : CtxH P G T c X e a) {x : Str} (h : c.gl x = true) : Gl X x ∧ (x == ("__debug__" : Str)) = false ∧ x ≠ "__name__" := by
  unfold SC.gl at h
  simp only [Bool.and_eq_true, decide_eq_true_eq, Bool.not_eq_true'] at h
  refine ⟨?_, h.1.2, h.2⟩
  show X.env.scope.names.lookup x = _
  rw [C.sc]; exact h.1.1
theorem CtxH.blt (C : CtxH P G T c X e a) {x n : Str} (h : G.bl c x n = true) : x = n ∧ Gl X x ∧ X.mg x = none ∧ (x == ("__debug__" : Str)) = false ∧ x ≠ "__name__" := by
  unfold Gam.bl at h
  simp only [Bool.and_eq_true, decide_eq_true_eq] at h
  obtain ⟨g, d, n⟩ := C.gl h.1.2
  exact ⟨h.1.1, g, C.wd.blt _ h.2, d, n⟩
theorem x_exi (C : CtxH P G T c X e a) {d : Nat} {x : Expr} (h : mX G c en (.exi d) x = true) : PE X x (tXe X.K T.toTab (enOk en a) (evX P e (.exi d))) ∧ plainT x = true := by
  simp only [mX] at h
  split at h <;> try cases h
  rename_i n p1 ex p2 t p3 pos
  refine ⟨?_, rfl⟩
  simp only [Bool.and_eq_true, decide_eq_true_eq] at h
  obtain ⟨⟨⟨h1, h2⟩, h3⟩, h4⟩ := h
  cases en with
  | none => cases h2
  | some q =>
  obtain ⟨i, e'⟩ := q
  simp only [Bool.and_eq_true, decide_eq_true_eq] at h2
  obtain ⟨rfl, h2⟩ := h2
  obtain ⟨rfl, g1, g2, g3, g4⟩ := C.blt h1
  obtain ⟨k1, k2, k3⟩ := C.gl h4
  obtain ⟨u, ru, uu⟩ := C.wd.exv _ _ h3
  have pn : PE X (.Name t p3) (tC u) := by
    rcases C.wd.exn _ _ h3 with m | ⟨m, b⟩
    · exact pe_glob k1 m ru k2
    · exact pe_bltn k1 m b ru k3 k2
  by_cases hex : ∃ d b, P.exc e d = some b
  · obtain ⟨D, eD, isi⟩ := C.isi hex
    refine peI (pe_callB isi g1 g2 (by decide +kernel) (pa_cons (C.var h2) (pa_cons pn pa_nil (star_of rfl _ _)) (star_of rfl _ _)) g4 g3 (star_of rfl _ _) (noneStar _ _ rfl)) fun σ H Q hh => ?_
    obtain ⟨z, φ, h, fr, v, R, F, ev, fin⟩ := hh
    simp only [evX] at ev
    obtain ⟨b, eb, rfl⟩ := Option.map_eq_some_iff.mp ev
    obtain ⟨_, e2, _⟩ := C.wd.exm _ _ _ eb
    rw [eD] at e2
    refine ⟨_, z i ex rfl, ?_⟩
    exact ⟨u, T.exn d, b, rfl, uu, e2, fin φ H _ .refl R rfl⟩
  · refine ⟨fun pins s σ H Q I hh => ?_⟩
    obtain ⟨z, φ, h, fr, v, R, F, ev, fin⟩ := hh
    simp only [evX] at ev
    obtain ⟨b, eb, rfl⟩ := Option.map_eq_some_iff.mp ev
    exact absurd ⟨d, b, eb⟩ hex
/-- from the value on -/
theorem tXe.of {K : PySem.W.Frag} {T : Tab} {Z : L2.St → Prop} {r : PyI.Fr → Option Val} {φ : Ix} {H : L2.Hp} {h : Mem} {fr : PyI.Fr} {σ : L2.St} {v : Val} {Q : VK} (z : Z σ) (R : Rel K T φ H h) (F : RFr K T φ H fr σ) (e : r fr = some v)
    (fin : ∀ ψ G x, Ext φ H ψ G → Rel K T ψ G h → RV K T ψ G v x → Q x G) : tXe K T Z r σ H Q := ⟨z, φ, h, fr, v, R, F, e, fin⟩
theorem pe_bool_one {op : BoolOp} {x : Expr} {p : Pos} {t : TE} (h : PE X x t) : PE X (.BoolOp op [x] p) t := pe_one h
mutual
theorem xE (C : CtxH P G T c X e a) : ∀ (x : XEx) (y : Expr), mX G c en x y = true → PE X y (tXe X.K T.toTab (enOk en a) (evX P e x))
  | .lit l, y, h => by
    simp only [mX] at h
    split at h <;> try cases h
    rename_i kk q1 q2
    have fin : ∀ {y : V}, (∀ φ H, RV X.K T.toTab φ H l.val y) → ∀ σ H Q, tXe X.K T.toTab (enOk en a) (evX P e (.lit l)) σ H Q → Q y H := fun {y} hy σ H Q ⟨z, φ, h, fr, v, R, F, ev, fin⟩ => by
      simp only [evX, Option.some.injEq] at ev
      subst ev
      exact fin φ H y .refl R (hy φ H)
    cases l <;> cases kk <;> simp only [mLit, Bool.false_eq_true, beq_iff_eq, decide_eq_true_eq] at h
    · exact peI pe_non (fin fun _ _ => rfl)
    · subst h; exact peI pe_bl (fin fun _ _ => rfl)
    · subst h; exact peI pe_int (fin fun _ _ => rfl)
    · subst h; exact peI pe_str (fin fun _ _ => rfl)
  | .var i, y, h => by
    simp only [mX] at h
    split at h <;> try cases h
    refine peI (C.var h) fun σ H Q ⟨z, φ, h, fr, v, R, F, ev, fin⟩ => ?_
    simp only [evX] at ev
    split at ev <;> cases ev
    rename_i eq
    obtain ⟨x, e2, r⟩ := F.2 i _ eq
    exact ⟨x, e2, fin φ H x .refl R r⟩
  | .exi d, y, h => (x_exi C h).1
  | .nt b, y, h => by
    simp only [mX] at h
    split at h <;> try cases h
    refine peI (pe_notT (xE C b _ h)) fun σ H Q ⟨z, φ, h, fr, v, R, F, ev, fin⟩ => ?_
    simp only [evX] at ev
    split at ev <;> cases ev
    rename_i t et
    refine tXe.of z R F et fun ψ G x ex R' q => ⟨t, ?_, fin ψ G _ ex R' rfl⟩
    exact tru_V R' q rfl
  | .and b d, y, h => by
    have go : ∀ {l r : Expr} {rest : List Expr} {p : Pos}, PE X l (tXe X.K T.toTab (enOk en a) (evX P e b)) → PE X (.BoolOp .And (r :: rest) p) (tXe X.K T.toTab (enOk en a) (evX P e d)) → PE X (.BoolOp .And (l :: r :: rest) p) (tXe X.K T.toTab (enOk en a) (evX P e (.and b d))) := fun {l r rest p} hl hr => by
      refine peI (pe_andT hl hr) fun σ H Q ⟨z, φ, h, fr, v, R, F, ev, fin⟩ => ?_
      simp only [evX] at ev
      split at ev <;> try cases ev
      rename_i t et
      refine tXe.of z R F et fun ψ G x ex R' q => ⟨t, tru_V R' q rfl, ?_⟩
      cases t with
      | true =>
        rw [if_pos rfl] at ev ⊢
        exact tXe.of z R' (F.mono ex) ev fun χ M y e2 R2 q2 => fin χ M y (ex.trans e2) R2 q2
      | false =>
        rw [if_neg Bool.false_ne_true] at ev ⊢
        cases ev
        exact fin ψ G x ex R' q
    simp only [mX] at h
    split at h <;> try cases h
    · simp only [Bool.and_eq_true] at h
      exact go (xE C b _ h.1) (pe_one (xE C d _ h.2))
    · simp only [Bool.and_eq_true] at h
      exact go (xE C b _ h.1) (xE C d _ h.2)
  | .or b d, y, h => by
    have go : ∀ {l r : Expr} {rest : List Expr} {p : Pos}, PE X l (tXe X.K T.toTab (enOk en a) (evX P e b)) → PE X (.BoolOp .Or (r :: rest) p) (tXe X.K T.toTab (enOk en a) (evX P e d)) → PE X (.BoolOp .Or (l :: r :: rest) p) (tXe X.K T.toTab (enOk en a) (evX P e (.or b d))) := fun {l r rest p} hl hr => by
      refine peI (pe_orT hl hr) fun σ H Q ⟨z, φ, h, fr, v, R, F, ev, fin⟩ => ?_
      simp only [evX] at ev
      split at ev <;> try cases ev
      rename_i t et
      refine tXe.of z R F et fun ψ G x ex R' q => ⟨t, tru_V R' q rfl, ?_⟩
      cases t with
      | false =>
        rw [if_neg Bool.false_ne_true] at ev ⊢
        exact tXe.of z R' (F.mono ex) ev fun χ M y e2 R2 q2 => fin χ M y (ex.trans e2) R2 q2
      | true =>
        rw [if_pos rfl] at ev ⊢
        cases ev
        exact fin ψ G x ex R' q
    simp only [mX] at h
    split at h <;> try cases h
    · simp only [Bool.and_eq_true] at h
      exact go (xE C b _ h.1) (pe_one (xE C d _ h.2))
    · simp only [Bool.and_eq_true] at h
      exact go (xE C b _ h.1) (xE C d _ h.2)
  | .tup es, y, h => by
    simp only [mX] at h
    split at h <;> try cases h
    refine peI (pe_tup (xEs C es _ h)) fun σ H Q ⟨z, φ, h, fr, v, R, F, ev, fin⟩ => ?_
    simp only [evX] at ev
    obtain ⟨vs, e1, e2⟩ := Option.bind_eq_some_iff.mp ev
    split at e2 <;> cases e2
    rename_i hl
    refine ⟨z, φ, h, fr, vs, R, F, e1, fun ψ G x ex R' q => ⟨by rw [q.length]; exact hl, fun p hp => ?_⟩⟩
    exact fin ψ (upd G p (.tup x)) (.ref p) (ex.trans (ext_tup R' hp)) (R'.tup hp) ⟨p, x, rfl, upd_same, q.mono (ext_tup R' hp) _ _⟩
  | .lst es, y, h => by
    simp only [mX] at h
    split at h <;> try cases h
    refine peI (pe_lst (xEs C es _ h)) fun σ H Q ⟨z, φ, h, fr, v, R, F, ev, fin⟩ => ?_
    simp only [evX] at ev
    obtain ⟨vs, e1, e2⟩ := Option.bind_eq_some_iff.mp ev
    split at e2 <;> cases e2
    rename_i hl
    refine ⟨z, φ, h, fr, vs, R, F, e1, fun ψ G x ex R' q => ⟨by rw [q.length]; exact hl, fun p hp => ?_⟩⟩
    have e3 := ext_tup (o := .lst x) R' hp
    have ra : RA X.K T.toTab ψ (upd G p (.lst x)) (.lst vs) (.ref p) := ⟨p, _, rfl, R'.fresh hp, upd_same, x, rfl, q.mono e3 _ _⟩
    obtain ⟨χ, e4, R4, q4⟩ := ra.frz (R'.tup hp) (v := .lst vs) rfl
    exact fin χ _ (.ref p) ((ex.trans e3).trans e4) R4 q4
theorem xEs (C : CtxH P G T c X e a) : ∀ (x : XExs) (y : List Expr), mXs G c en x y = true → PA X y (tXes X.K T.toTab (enOk en a) (evXs P e x))
  | .nil, y, h => by
    simp only [mXs] at h
    split at h <;> try cases h
    exact paI pa_nil fun σ H Q ⟨z, φ, h, fr, v, R, F, ev, fin⟩ => by
      simp only [evXs, Option.some.injEq] at ev
      subst ev
      exact fin φ H [] .refl R rfl
  | .cons b bs, y, h => by
    simp only [mXs] at h
    split at h <;> try cases h
    simp only [Bool.and_eq_true] at h
    refine paI (pa_cons (xE C b _ h.1.2) (xEs C bs _ h.2) (star_of h.1.1 _ _)) fun σ H Q ⟨z, φ, h, fr, v, R, F, ev, fin⟩ => ?_
    simp only [evXs] at ev
    obtain ⟨u, e1, e2⟩ := Option.bind_eq_some_iff.mp ev
    obtain ⟨us, e3, rfl⟩ := Option.map_eq_some_iff.mp e2
    refine tXe.of z R F e1 fun ψ G x ex R' q => ⟨z, ψ, h, fr, us, R', F.mono ex, e3, fun χ M y e4 R2 q2 => ?_⟩
    exact fin χ M (x :: y) (ex.trans e4) R2 ⟨x, y, rfl, q.mono e4 _ _, q2⟩
end
/-- a truth value of the suite as a test -/
theorem xT_plain {x : XEx} {y : Expr} (hp : plainT y = true) (h : PE X y (tXe X.K T.toTab (enOk en a) (evX P e x))) : PT X y (tXt X.K T.toTab (enOk en a) (evX P e x)) := by
  refine ptI (pt_truth h ?_) fun σ H Q ⟨z, φ, h, fr, b, R, F, ev, fin⟩ => ?_
  · intro whole
    cases y <;> first | rfl | (simp [plainT] at hp) | skip
    rename_i op o p
    cases op <;> first | rfl | (simp [plainT] at hp)
  · exact tXe.of z R F ev fun ψ G x ex R' q => ⟨b, tru_V R' q rfl, fin ψ G ex R'⟩
theorem xT (C : CtxH P G T c X e a) : ∀ (x : XEx) (y : Expr), mX G c en x y = true → PT X y (tXt X.K T.toTab (enOk en a) (evX P e x))
  | .lit l, y, h => xT_plain (by simp only [mX] at h; split at h <;> first | rfl | cases h) (xE C _ _ h)
  | .var i, y, h => xT_plain (by simp only [mX] at h; split at h <;> first | rfl | cases h) (xE C _ _ h)
  | .exi d, y, h => xT_plain (x_exi C h).2 (x_exi C h).1
  | .tup es, y, h => xT_plain (by simp only [mX] at h; split at h <;> first | rfl | cases h) (xE C _ _ h)
  | .lst es, y, h => xT_plain (by simp only [mX] at h; split at h <;> first | rfl | cases h) (xE C _ _ h)
  | .nt b, y, h => by
    simp only [mX] at h
    split at h <;> try cases h
    refine ptI (pt_not (xT C b _ h)) fun σ H Q ⟨z, φ, h, fr, v, R, F, ev, fin⟩ => ?_
    simp only [evX] at ev
    split at ev <;> cases ev
    rename_i t et
    exact ⟨z, φ, h, fr, t, R, F, et, fin⟩
  | .and b d, y, h => by
    have go : ∀ {l r : Expr} {rest : List Expr} {p : Pos}, PT X l (tXt X.K T.toTab (enOk en a) (evX P e b)) → PW X (.BoolOp .And (r :: rest) p) (tXt X.K T.toTab (enOk en a) (evX P e d)) → PT X (.BoolOp .And (l :: r :: rest) p) (tXt X.K T.toTab (enOk en a) (evX P e (.and b d))) := fun {l r rest p} hl hr => by
      refine ptI (pw_and hl hr).pt fun σ H Q ⟨z, φ, h, fr, v, R, F, ev, fin⟩ => ?_
      simp only [evX] at ev
      split at ev <;> try cases ev
      rename_i t et
      refine ⟨z, φ, h, fr, t, R, F, et, fun ψ G ex R' => ?_⟩
      cases t with
      | true =>
        rw [if_pos rfl] at ev
        exact ⟨z, ψ, h, fr, v, R', F.mono ex, ev, fun χ M e2 R2 => fin χ M (ex.trans e2) R2⟩
      | false =>
        rw [if_neg Bool.false_ne_true] at ev
        cases ev
        exact fin ψ G ex R'
    simp only [mX] at h
    split at h <;> try cases h
    · simp only [Bool.and_eq_true] at h
      exact go (xT C b _ h.1) (pw_and1 (xT C d _ h.2))
    · simp only [Bool.and_eq_true] at h
      exact go (xT C b _ h.1) (pw_of ⟨_, _, _, rfl⟩ (xT C d _ h.2))
  | .or b d, y, h => by
    have go : ∀ {l r : Expr} {rest : List Expr} {p : Pos}, PT X l (tXt X.K T.toTab (enOk en a) (evX P e b)) → PW X (.BoolOp .Or (r :: rest) p) (tXt X.K T.toTab (enOk en a) (evX P e d)) → PT X (.BoolOp .Or (l :: r :: rest) p) (tXt X.K T.toTab (enOk en a) (evX P e (.or b d))) := fun {l r rest p} hl hr => by
      refine ptI (pw_or hl hr).pt fun σ H Q ⟨z, φ, h, fr, v, R, F, ev, fin⟩ => ?_
      simp only [evX] at ev
      split at ev <;> try cases ev
      rename_i t et
      refine ⟨z, φ, h, fr, t, R, F, et, fun ψ G ex R' => ?_⟩
      cases t with
      | false =>
        rw [if_neg Bool.false_ne_true] at ev
        exact ⟨z, ψ, h, fr, v, R', F.mono ex, ev, fun χ M e2 R2 => fin χ M (ex.trans e2) R2⟩
      | true =>
        rw [if_pos rfl] at ev
        cases ev
        exact fin ψ G ex R'
    simp only [mX] at h
    split at h <;> try cases h
    · simp only [Bool.and_eq_true] at h
      exact go (xT C b _ h.1) (pw_or1 (xT C d _ h.2))
    · simp only [Bool.and_eq_true] at h
      exact go (xT C b _ h.1) (pw_of ⟨_, _, _, rfl⟩ (xT C d _ h.2))
mutual
theorem xS (C : CtxH P G T c X e a) : ∀ (x : XSm) (y : Stmt), mXS G c en x y = true → PS X y (tXS X.K T.toTab (enOk en a) (exX P e x))
  | .ret b, y, h => by
    simp only [mXS] at h
    split at h <;> try cases h
    refine psI (ps_ret (xE C b _ h)) fun D σ H ⟨z, φ, h, fr, R, F, o⟩ => ?_
    simp only [exX] at o
    split at o
    · rename_i v ev
      exact tXe.of z R F ev fun ψ G x ex R' q => o ψ G x ex R' q
    · exact o.elim
  | .ite t p q, y, h => by
    simp only [mXS] at h
    split at h <;> try cases h
    simp only [Bool.and_eq_true] at h
    refine psI (ps_if (xT C t _ h.1.1) (xSs C p _ h.1.2) (xSs C q _ h.2)) fun D σ H ⟨z, φ, h, fr, R, F, o⟩ => ?_
    simp only [exX] at o
    split at o
    · rename_i k ek
      refine ⟨z, φ, h, fr, k, R, F, ek, fun ψ G ex R' => ?_⟩
      cases k with
      | true =>
        rw [if_pos rfl] at o ⊢
        refine ⟨z, ψ, h, fr, R', F.mono ex, ?_⟩
        generalize exXs P e p fr h = rr at o
        cases rr with
        | ok f fr' h' => cases f <;> first | exact False.elim o | exact fun χ M x e2 => o χ M x (ex.trans e2)
        | exc _ _ _ => exact False.elim o
        | bad => exact False.elim o
      | false =>
        rw [if_neg Bool.false_ne_true] at o ⊢
        refine ⟨z, ψ, h, fr, R', F.mono ex, ?_⟩
        generalize exXs P e q fr h = rr at o
        cases rr with
        | ok f fr' h' => cases f <;> first | exact False.elim o | exact fun χ M x e2 => o χ M x (ex.trans e2)
        | exc _ _ _ => exact False.elim o
        | bad => exact False.elim o
    · exact o.elim
  | .asg i b, y, h => by
    simp only [mXS] at h
    split at h <;> try cases h
    rename_i y0 p0 x0 pos
    simp only [Bool.and_eq_true] at h
    obtain ⟨⟨⟨h1, h2⟩, h3⟩, h4⟩ := h
    unfold SC.loc at h1
    simp only [Bool.and_eq_true, decide_eq_true_eq, Bool.or_eq_true] at h1
    obtain ⟨g1, g2⟩ := h1
    have hl : L2.Loc X.env.scope y0 := by unfold L2.Loc; rw [C.sc]; exact g2.imp id (·.2)
    have hf : X.fn y0 = true ∨ X.env.scope.names.lookup y0 = some .local := by
      rcases g2 with q | ⟨q1, q2⟩
      · exact .inr (by rw [C.sc]; exact q)
      · exact .inl (by rw [C.fnt q1])
    refine psI (ps_set (by rw [C.N]; exact C.nd) (by rw [C.N]; exact g1) hl (xE C b _ h3) (swaps_of h2 _ _ _) hf) fun D σ H ⟨z, φ, h, fr, R, F, o⟩ => ?_
    simp only [exX] at o
    split at o
    · rename_i v ev
      refine tXe.of z R F ev fun ψ G x ex R' q => o ψ G (σ.set i (some x)) ex R' ((F.mono ex).set q i) fun j n ej => ?_
      subst ej
      have hne : i ≠ j := by simpa using h4
      rw [List.getElem?_set_ne hne]
      exact z j n rfl
    · exact o.elim
  | .pass, y, h => by
    simp only [mXS] at h
    split at h <;> try cases h
    exact psI ps_pass fun D σ H ⟨z, φ, h, fr, R, F, o⟩ => o φ H σ .refl R F z
theorem xSs (C : CtxH P G T c X e a) : ∀ (x : XSms) (y : List Stmt), mXSs G c en x y = true → PSs X y (tXS X.K T.toTab (enOk en a) (exXs P e x))
  | .nil, y, h => by
    simp only [mXSs] at h
    split at h <;> try cases h
    exact pssI pss_nil fun D σ H ⟨z, φ, h, fr, R, F, o⟩ => o φ H σ .refl R F z
  | .cons s ss, y, h => by
    simp only [mXSs] at h
    split at h <;> try cases h
    simp only [Bool.and_eq_true] at h
    refine pssI (pss_cons (xS C s _ h.1) (xSs C ss _ h.2)) fun D σ H ⟨z, φ, h, fr, R, F, o⟩ => ?_
    refine ⟨z, φ, h, fr, R, F, ?_⟩
    simp only [exXs] at o
    cases hr : exX P e s fr h with
    | ok f fr1 h1 =>
      rw [hr] at o
      cases f with
      | nx => 
        intro ψ G σ' ex R' F' z'
        refine ⟨z', ψ, h1, fr1, R', F', ?_⟩
        have o' : okX X.K T.toTab φ H (enOk en a) D (exXs P e ss fr1 h1) := o
        generalize exXs P e ss fr1 h1 = rr at o'
        cases rr with
        | ok f fr' h' => cases f <;> first | exact False.elim o' | exact fun χ M x e2 => o' χ M x (ex.trans e2)
        | exc _ _ _ => exact False.elim o'
        | bad => exact False.elim o'
      | rt v => exact o
      | bk => exact False.elim o
      | ct => exact False.elim o
    | exc _ _ _ => rw [hr] at o; exact False.elim o
    | bad => rw [hr] at o; exact False.elim o
end
end
end PyI
namespace PyI
open PySem PySem.Spec PyProof.Rows L2
/-! ### an own list, lent to a loop -/
def Ix.lend (φ : Ix) (n f : Nat) (a : Addr) : Ix := { φ with o := fun m g => if m = n ∧ g = f then none else φ.o m g, w := fun m g => if m = n ∧ g = f then some a else φ.w m g, S := fun b => φ.S b ∨ b = a }
def Ix.unlend (φ ψ : Ix) (n f : Nat) (a : Addr) : Ix := { ψ with o := fun m g => if m = n ∧ g = f then some a else ψ.o m g, w := φ.w, S := φ.S }
section
variable {K : PySem.W.Frag} {T : Tab} {φ ψ : Ix} {H G : L2.Hp} {h h1 : Mem} {n f d : Nat} {a : Addr} {fs : List (Nat × Sl)} {c : Con}
theorem Rel.lend (R : Rel K T φ H h) (he : h[n]? = some (.ins d fs)) (nd : nodupF fs = true) (hl : fs.lookup f = some (.o c)) (ha : φ.o n f = some a) : Rel K T (φ.lend n f a) H (h.set n (.ins d (fput f .e fs))) := by
  have off : ∀ {m g}, ¬ (m = n ∧ g = f) → (φ.lend n f a).o m g = φ.o m g := fun h => if_neg h
  have on : (φ.lend n f a).o n f = none := if_pos ⟨rfl, rfl⟩
  have oo : ∀ {m g x}, (φ.lend n f a).o m g = some x → φ.o m g = some x ∧ x ≠ a := fun {m g x} q => by
    by_cases h1 : m = n ∧ g = f
    · obtain ⟨rfl, rfl⟩ := h1
      rw [on] at q; cases q
    · rw [off h1] at q
      exact ⟨q, fun z => h1 (R.oi m g n f a (z ▸ q) ha)⟩
  have tr : ∀ {x}, (φ.lend n f a).tr x → φ.tr x ∧ x ≠ a := fun {x} q => by
    rcases q with q | ⟨m, g, q⟩
    · exact ⟨.inl q, fun z => R.oc n f a ha (z ▸ q)⟩
    · exact ⟨.inr ⟨m, g, (oo q).1⟩, (oo q).2⟩
  have tra : φ.tr a := .inr ⟨n, f, ha⟩
  have ve : VExt φ H (φ.lend n f a) H := ⟨fun _ _ q => q, fun _ q => q, fun _ _ q => q, fun _ _ => .refl⟩
  refine ⟨by simp [R.len, Ix.lend], R.nd, fun m g x q => R.oc m g x (oo q).1, fun m g m' g' x q1 q2 => R.oi m g m' g' x (oo q1).1 (oo q2).1, fun m g x q => R.on m g x (oo q).1, fun x q => ⟨fun z => (R.iL x q).1 (tr z).1, (R.iL x q).2⟩, fun x q => ?_, fun x q => ?_, fun m x ob e1 e2 => ?_⟩
  · rcases q with q | rfl
    · exact ⟨fun z => (R.iS x q).1 (tr z).1, (R.iS x q).2⟩
    · exact ⟨fun z => (tr z).2 rfl, fun z => (R.iL x z).1 tra, (R.on n f x ha).2⟩
  · have q : φ.M x := q
    refine ⟨fun z => (R.iM x q).1 (tr z).1, (R.iM x q).2.1, fun z => ?_, (R.iM x q).2.2.2⟩
    rcases z with z | rfl
    · exact (R.iM x q).2.2.1 z
    · exact (R.iM _ q).1 tra
  · have e1 : φ.c[m]? = some x := e1
    rcases set_get e2 with ⟨rfl, e3, _⟩ | ⟨hj, e3⟩
    · subst e3
      obtain ⟨u, q1, q2⟩ := R.at_ n x _ e1 he
      obtain ⟨dx, ks, rfl, q2⟩ := q2
      refine ⟨_, q1, dx, ks, rfl, q2.putS ve (s := .e) (s0 := .o c) (fun y qy => ?_) nd hl fun g hg => ⟨fun y q => ⟨by rw [off fun z => hg z.2]; exact q, rfl⟩, if_neg fun z => hg z.2⟩⟩
      obtain ⟨a', u', e4, rfl, _, _⟩ := qy
      rw [ha] at e4; cases e4
      intro b hb
      have : (some a : Option Addr) = some b := by
        have := hb
        simpa [Ix.lend] using this
      cases this; rfl
    · obtain ⟨u, q1, q2⟩ := R.at_ m x ob e1 e3
      exact ⟨u, q1, q2.monoV ve (fun g y q => ⟨by rw [off fun z => hj z.1.symm]; exact q, rfl⟩) fun g => if_neg fun z => hj z.1.symm⟩
theorem Rel.unlend {u : HO} {h0 : Mem} (R0 : Rel K T φ H h0) (ha : φ.o n f = some a) (hu : H a = some u) (rc : RCo K T φ H a c u) (e : ExtS (φ.lend n f a) H ψ G) (R : Rel K T ψ G h) (hb : backM n f c h = some h1) :
    ExtS φ H (φ.unlend ψ n f a) G ∧ Rel K T (φ.unlend ψ n f a) G h1 ∧ VExt ψ G (φ.unlend ψ n f a) G ∧ ψ.S a ∧ (∀ x, φ.S x → ψ.S x) ∧ ∀ x, (φ.unlend ψ n f a).tr x → ψ.tr x ∨ x = a := by
  have Sa : ψ.S a := by rw [e.eS]; exact .inr rfl
  have Ss : ∀ x, φ.S x → ψ.S x := fun x q => by rw [e.eS]; exact .inl q
  have on : (φ.unlend ψ n f a).o n f = some a := if_pos ⟨rfl, rfl⟩
  have off : ∀ {m g}, ¬ (m = n ∧ g = f) → (φ.unlend ψ n f a).o m g = ψ.o m g := fun h => if_neg h
  have oo : ∀ {m g x}, (φ.unlend ψ n f a).o m g = some x → (m = n ∧ g = f ∧ x = a) ∨ (¬ (m = n ∧ g = f) ∧ ψ.o m g = some x) := fun {m g x} q => by
    by_cases h1 : m = n ∧ g = f
    · obtain ⟨rfl, rfl⟩ := h1
      rw [on] at q; cases q; exact .inl ⟨rfl, rfl, rfl⟩
    · rw [off h1] at q; exact .inr ⟨h1, q⟩
  have tr : ∀ x, (φ.unlend ψ n f a).tr x → ψ.tr x ∨ x = a := fun x q => by
    rcases q with q | ⟨m, g, q⟩
    · exact .inl (.inl q)
    · rcases oo q with ⟨_, _, z⟩ | ⟨_, q⟩
      · exact .inr z
      · exact .inl (.inr ⟨m, g, q⟩)
  have Ga : G a = H a := e.keS a (.inr rfl)
  have ve : VExt ψ G (φ.unlend ψ n f a) G := ⟨fun _ _ q => q, fun _ q => q, fun _ _ q => q, fun _ _ => .refl⟩
  have ve0 : VExt φ H (φ.unlend ψ n f a) G := ⟨fun _ _ q => e.get q, e.eL, e.tup, e.keL⟩
  have tra : φ.tr a := .inr ⟨n, f, ha⟩
  refine ⟨{ pre := e.pre, eS := rfl, eL := e.eL, tup := e.tup, keL := e.keL, keS := fun x q => e.keS x (.inl q), fz := e.fz, eW := rfl }, ?_, ve, Sa, Ss, tr⟩
  unfold backM at hb
  split at hb <;> try cases hb
  rename_i d' fs' hn
  split at hb <;> try cases hb
  rename_i hl
  split at hb <;> cases hb
  rename_i nd
  have hlt : n < ψ.c.length := by rw [R.len]; exact (List.getElem?_eq_some_iff.mp hn).1
  refine ⟨by simp [R.len, Ix.unlend], R.nd, fun m g x q => ?_, fun m g m' g' x q1 q2 => ?_, fun m g x q => ?_, fun x q => ?_, fun x q => ?_, fun x q => ?_, fun m x ob e1 e2 => ?_⟩
  · rcases oo q with ⟨_, _, z⟩ | ⟨_, q⟩
    · exact fun hm => (R.iS a Sa).1 (.inl (z ▸ hm))
    · exact R.oc m g x q
  · rcases oo q1 with ⟨e1, e2, e3⟩ | ⟨_, k1⟩
    · rcases oo q2 with ⟨e4, e5, _⟩ | ⟨_, k2⟩
      · exact ⟨e1.trans e4.symm, e2.trans e5.symm⟩
      · exact absurd (.inr ⟨m', g', e3 ▸ k2⟩) (R.iS a Sa).1
    · rcases oo q2 with ⟨_, _, e3⟩ | ⟨_, k2⟩
      · exact absurd (.inr ⟨m, g, e3 ▸ k1⟩) (R.iS a Sa).1
      · exact R.oi m g m' g' x k1 k2
  · rcases oo q with ⟨e1, _, e3⟩ | ⟨_, k⟩
    · exact ⟨e1 ▸ hlt, e3 ▸ (R.iS a Sa).2.2⟩
    · exact R.on m g x k
  · exact ⟨fun z => (tr x z).elim (R.iL x q).1 fun z => (R.iS a Sa).2.1 (z ▸ q), (R.iL x q).2⟩
  · have q : φ.S x := q
    exact ⟨fun z => (tr x z).elim (R.iS x (Ss x q)).1 fun z => (R0.iS x q).1 (z ▸ tra), (R.iS x (Ss x q)).2⟩
  · have q : ψ.M x := q
    exact ⟨fun z => (tr x z).elim (R.iM x q).1 fun z => (R.iM x q).2.2.1 (z ▸ Sa), (R.iM x q).2.1, fun z => (R.iM x q).2.2.1 (Ss x z), (R.iM x q).2.2.2⟩
  · have e1 : ψ.c[m]? = some x := e1
    rcases set_get e2 with ⟨rfl, e3, _⟩ | ⟨hj, e3⟩
    · subst e3
      obtain ⟨u', q1, q2⟩ := R.at_ n x _ e1 hn
      obtain ⟨dx, ks, rfl, q2⟩ := q2
      refine ⟨_, q1, dx, ks, rfl, q2.putS ve (s := .o c) (s0 := .e) (fun y qy => ?_) nd hl fun g hg => ⟨fun y q => ⟨by rw [off fun z => hg z.2]; exact q, rfl⟩, ?_⟩⟩
      · have hy : y = .ref a := qy a (by rw [e.eW]; exact if_pos ⟨rfl, rfl⟩)
        exact ⟨a, u, on, hy, Ga.trans hu, rc.monoV ve0⟩
      · show φ.w n g = ψ.w n g
        rw [e.eW]; exact (if_neg fun z => hg z.2).symm
    · obtain ⟨u', q1, q2⟩ := R.at_ m x ob e1 e3
      refine ⟨u', q1, q2.monoV ve (fun g y q => ⟨by rw [off fun z => hj z.1.symm]; exact q, rfl⟩) fun g => ?_⟩
      show φ.w m g = ψ.w m g
      rw [e.eW]; exact (if_neg fun z => hj z.1.symm).symm
theorem back_S {u : HO} {h0 : Mem} {D : Ends} {W : WX} {r : SR} (R0 : Rel K T φ H h0) (ha : φ.o n f = some a) (hu : H a = some u) (rc : RCo K T φ H a c u) (o : okS K T φ H D W (backF n f c r)) : okS K T (φ.lend n f a) H D W r := by
  have fr : ∀ {ψ : Ix} {G : L2.Hp} {h h1 : Mem} {fr : PyI.Fr} {σ : L2.St}, ExtS (φ.lend n f a) H ψ G → Rel K T ψ G h → backM n f c h = some h1 → RFr K T ψ G fr σ → ExtS φ H (φ.unlend ψ n f a) G ∧ Rel K T (φ.unlend ψ n f a) G h1 ∧ RFr K T (φ.unlend ψ n f a) G fr σ := fun e R hb F => by
    obtain ⟨g1, g2, g3, _⟩ := Rel.unlend R0 ha hu rc e R hb
    exact ⟨g1, g2, F.monoM g3 fun x q => ⟨q, rfl⟩⟩
  cases r with
  | bad => exact o
  | exc e fr' h' =>
    simp only [backF] at o
    split at o
    · rename_i h1 hb
      exact fun ψ G σ ex R F => let ⟨g1, g2, g3⟩ := fr ex R hb F; o _ G σ g1 g2 g3
    · exact o.elim
  | ok fl fr' h' =>
    simp only [backF] at o
    split at o
    · rename_i h1 hb
      cases fl with
      | nx => exact fun ψ G σ ex R F => let ⟨g1, g2, g3⟩ := fr ex R hb F; o _ G σ g1 g2 g3
      | bk => exact fun ψ G σ ex R F => let ⟨g1, g2, g3⟩ := fr ex R hb F; o _ G σ g1 g2 g3
      | ct => exact fun ψ G σ ex R F => let ⟨g1, g2, g3⟩ := fr ex R hb F; o _ G σ g1 g2 g3
      | rt v =>
        intro ψ G x ex R q
        obtain ⟨g1, g2, g3, Sa, Ss, tr⟩ := Rel.unlend R0 ha hu rc ex R hb
        refine o _ G x g1 g2 ?_
        cases v with
        | v v => exact RV.monoV g3 _ _ q
        | f xs =>
          obtain ⟨b, u', ex', fh, hu', q⟩ := q
          exact ⟨b, u', ex', ⟨fun z => (tr b z).elim fh.tr fun z => fh.S (z ▸ Sa), fh.L, fun z => fh.S (Ss b z), fh.M⟩, hu', RCo.monoV g3 q⟩
    · exact o.elim
end
end PyI
namespace PyI
open PySem PySem.Spec PyProof.Rows L2
/-! ### a dict, locked while it is walked -/
theorem psOr {X : Cx} {st : Stmt} {s t : TS} (p : PS X st s) (q : PS X st t) : PS X st (fun D σ H => s D σ H ∨ t D σ H) := ⟨fun pins s σ H D I h => h.elim (p.run pins s σ H D I) (q.run pins s σ H D I)⟩
section
variable {K : PySem.W.Frag} {T : Tab} {φ ψ : Ix} {H G : L2.Hp} {h : Mem}
theorem RKs.get : ∀ {kvs : List (PyI.Key × Val)} {ks : List (L2.Key × V)} {i : Nat} {k : PyI.Key} {v : Val}, RKs K T kT φ H kvs ks → kvs[i]? = some (k, v) → ∃ y, ks[i]? = some (kT k, y) ∧ RV K T φ H v y
  | [], _, _, _, _, _, e => by simp at e
  | p :: r, ks, i, k, v, q, e => by
    obtain ⟨x, s, rfl, q1, q2⟩ := q
    cases i with
    | zero => simp at e; subst e; exact ⟨x, rfl, q1⟩
    | succ i =>
      have e' : r[i]? = some (k, v) := by simpa using e
      obtain ⟨y, e2, q3⟩ := RKs.get q2 e'
      exact ⟨y, by simpa using e2, q3⟩
theorem RVk (k : PyI.Key) : RV K T φ H (kval k) (kV (kT k)) := by cases k <;> rfl
theorem dItems_get {p : Bool} {kvs : List (PyI.Key × Val)} {i : Nat} {v : Val} (e : (dItems p kvs)[i]? = some v) : ∃ k w, kvs[i]? = some (k, w) ∧ v = if p then .tup [kval k, w] else kval k := by
  cases p <;> simp only [dItems, if_true, Bool.false_eq_true, if_false] at e ⊢ <;> rw [List.getElem?_map] at e <;> obtain ⟨⟨k, w⟩, e1, rfl⟩ := Option.map_eq_some_iff.mp e <;> exact ⟨k, w, e1, rfl⟩
theorem dItems_len (p : Bool) (kvs : List (PyI.Key × Val)) : (dItems p kvs).length = kvs.length := by cases p <;> simp [dItems]
theorem itk_ok {kvs : List (PyI.Key × Val)} {ks : List (L2.Key × V)} {a : Addr} {o : Obj} (ha : H a = some (.frz o (.dK ks))) (rk : RKs K T kT φ H kvs ks) : ItOk K T φ H (.sn (dItems false kvs)) (Itk a o ks) := fun ψ G h i ext R => by
  have ga := ext.fz _ _ _ ha
  refine ⟨fun v hv => ?_, fun hf => ⟨ga, by rw [rk.length]; simpa [PyI.Itr.fin, dItems_len] using hf⟩⟩
  obtain ⟨k, w, e1, rfl⟩ := dItems_get hv
  obtain ⟨y, e2, q⟩ := rk.get e1
  refine ⟨⟨ga, (List.getElem?_eq_some_iff.mp e2).1⟩, fun x G' ⟨eg, k', v', e3, ex⟩ => ?_⟩
  subst eg ex
  rw [e2] at e3; cases e3
  exact ⟨.refl, R, RVk k⟩
theorem iti_ok {kvs : List (PyI.Key × Val)} {ks : List (L2.Key × V)} {a : Addr} {o : Obj} (ha : H a = some (.frz o (.dK ks))) (rk : RKs K T kT φ H kvs ks) : ItOk K T φ H (.sn (dItems true kvs)) (Iti a o ks) := fun ψ G h i ext R => by
  have ga := ext.fz _ _ _ ha
  refine ⟨fun v hv => ?_, fun hf => ⟨ga, by rw [rk.length]; simpa [PyI.Itr.fin, dItems_len] using hf⟩⟩
  obtain ⟨k, w, e1, rfl⟩ := dItems_get hv
  obtain ⟨y, e2, q⟩ := rk.get e1
  refine ⟨⟨ga, (List.getElem?_eq_some_iff.mp e2).1⟩, fun x G' ⟨D, k', v', e3, ex, hn, eg⟩ => ?_⟩
  subst eg ex
  rw [e2] at e3; cases e3
  exact pair_ok R hn (RVk k) (q.monoV ext.ve _ _)
/-- a cell is changed -/
theorem Rel.setC (R : Rel K T φ H h) {n : Nat} {a : Addr} {ob : Ob} {o : HO} (e : φ.c[n]? = some a) (ve : VExt φ H φ (upd H a o)) (q : ROb K T φ (upd H a o) n a ob o) : Rel K T φ (upd H a o) (h.set n ob) := by
  refine ⟨by simp [R.len], R.nd, R.oc, R.oi, fun n f b e => ⟨(R.on n f b e).1, upd_some (R.on n f b e).2⟩, fun b q => ⟨(R.iL b q).1, upd_some (R.iL b q).2⟩, fun b q => ⟨(R.iS b q).1, (R.iS b q).2.1, upd_some (R.iS b q).2.2⟩, fun b q => ⟨(R.iM b q).1, (R.iM b q).2.1, (R.iM b q).2.2.1, upd_some (R.iM b q).2.2.2⟩, fun m b ob' e1 e2 => ?_⟩
  by_cases hm : m = n
  · subst hm
    rw [e] at e1; cases e1
    have hl : m < h.length := by rw [← R.len]; exact (List.getElem?_eq_some_iff.mp e).1
    rw [List.getElem?_set_self hl] at e2
    cases e2
    exact ⟨o, upd_same, q⟩
  · rw [List.getElem?_set_ne (Ne.symm hm)] at e2
    obtain ⟨v, q1, q2⟩ := R.at_ m b ob' e1 e2
    have hne : b ≠ a := fun z => hm (by
      subst z
      obtain ⟨l1, g1⟩ := List.getElem?_eq_some_iff.mp e1
      obtain ⟨l2, g2⟩ := List.getElem?_eq_some_iff.mp e
      exact (List.getElem_inj R.nd).mp (g1.trans g2.symm))
    refine ⟨v, by rw [upd_ne hne]; exact q1, q2.monoV ve fun f c ec => ⟨ec, upd_ne fun z => R.oc m f c ec (z ▸ List.mem_of_getElem? e)⟩⟩
theorem exts_lockC (R : Rel K T φ H h) {n : Nat} {a : Addr} {od : Obj} {u : HO} (e : φ.c[n]? = some a) (hu : H a = some u) (nt : notTup u) (ni : ∀ C dx fs, u ≠ .ins C dx fs) : ExtS φ H φ (upd H a (.frz od u)) where
  pre := ⟨[], by simp⟩
  eS := rfl
  eL := fun _ q => q
  tup := (ve_lock (φ := φ) hu nt ni).tup
  keL := (ve_lock (φ := φ) hu nt ni).keL
  keS := fun b q => upd_ne fun z => (R.iS b q).1 (z ▸ tr_of e)
  fz := fun b o v q => by
    rw [upd_ne]
    · exact q
    rintro rfl
    rw [hu] at q; cases q; exact nt.elim
/-- the ends within a lock -/
def lkD (D : Ends) (d : Addr) (od : Obj) (u : HO) : Ends := ⟨fun σ' H' => H' d = some (.frz od u) ∧ D.nx σ' (upd H' d u), fun v H' => H' d = some (.frz od u) ∧ D.rt v (upd H' d u), fun σ' H' => H' d = some (.frz od u) ∧ D.bk σ' (upd H' d u), fun σ' H' => H' d = some (.frz od u) ∧ D.ct σ' (upd H' d u)⟩
theorem RR.monoV {v : Ret} {x : V} (e : VExt φ H ψ G) (ht : ∀ b, ψ.tr b → φ.tr b) (hL : ∀ b, ψ.L b → φ.L b) (hS : ∀ b, ψ.S b → φ.S b) (hM : ∀ b, ψ.M b → φ.M b) {a : Addr} (ha : φ.tr a ∨ φ.L a) (hG : ∀ b, b ≠ a → G b = H b) (q : RR K T φ H v x) : RR K T ψ G v x := by
  cases v with
  | v v => exact RV.monoV e _ _ q
  | f xs =>
    obtain ⟨b, u', ex', fh, hu', q⟩ := q
    have hb : b ≠ a := fun z => by subst z; exact ha.elim fh.tr fh.L
    exact ⟨b, u', ex', ⟨fun z => fh.tr (ht b z), fun z => fh.L (hL b z), fun z => fh.S (hS b z), fun z => fh.M (hM b z)⟩, by rw [hG b hb]; exact hu', RCo.monoV e q⟩
/-- what never changes is locked -/
theorem okS_lockL {a : Addr} {od : Obj} {u : HO} {D : Ends} {W : WX} {r : SR} (R : Rel K T φ H h) (hL : φ.L a) (hu : H a = some u) (nt : notTup u) (ni : ∀ C dx fs, u ≠ .ins C dx fs) (o : okS K T φ H D W r) : okS K T φ (upd H a (.frz od u)) (lkD D a od u) W r := by
  have nS : ¬ φ.S a := fun z => (R.iS a z).2.1 hL
  have un : ∀ {ψ : Ix} {G : L2.Hp} {h' : Mem}, ExtS φ (upd H a (.frz od u)) ψ G → Rel K T ψ G h' → G a = some (.frz od u) ∧ ExtS φ H ψ (upd G a u) ∧ Rel K T ψ (upd G a u) h' ∧ VExt ψ G ψ (upd G a u) ∧ ψ.L a := fun {ψ G h'} e R' => by
    have ga := e.fz _ _ _ upd_same
    have v2 := ve_unlock (φ := ψ) ga nt
    exact ⟨ga, e.unlock hu nt ni nS, R'.setL (e.eL _ hL) v2, v2, e.eL _ hL⟩
  have fr : ∀ {ψ : Ix} {G : L2.Hp} {h' : Mem} {fr : PyI.Fr} {σ : L2.St}, Rel K T ψ G h' → ψ.L a → VExt ψ G ψ (upd G a u) → RFr K T ψ G fr σ → RFr K T ψ (upd G a u) fr σ := fun R' hl ve F => F.monoM ve fun b q => ⟨q, upd_ne fun z => (R'.iM b q).2.1 (z ▸ hl)⟩
  cases r with
  | bad => exact o
  | exc e fr' h' => exact fun ψ G σ ex R' F => o ψ G σ ((exts_lockL R hL hu nt ni).trans ex) R' F
  | ok fl fr' h' =>
    cases fl with
    | nx => exact fun ψ G σ ex R' F => let ⟨g1, g2, g3, g4, g5⟩ := un ex R'; ⟨g1, o ψ _ σ g2 g3 (fr R' g5 g4 F)⟩
    | bk => exact fun ψ G σ ex R' F => let ⟨g1, g2, g3, g4, g5⟩ := un ex R'; ⟨g1, o ψ _ σ g2 g3 (fr R' g5 g4 F)⟩
    | ct => exact fun ψ G σ ex R' F => let ⟨g1, g2, g3, g4, g5⟩ := un ex R'; ⟨g1, o ψ _ σ g2 g3 (fr R' g5 g4 F)⟩
    | rt v => exact fun ψ G x ex R' q => let ⟨g1, g2, g3, g4, g5⟩ := un ex R'; ⟨g1, o ψ _ x g2 g3 (RR.monoV g4 (fun _ z => z) (fun _ z => z) (fun _ z => z) (fun _ z => z) (.inr g5) (fun b hb => upd_ne hb) q)⟩
/-- a cell is locked -/
theorem okS_lockC {n : Nat} {c : Con} {a : Addr} {od : Obj} {u : HO} {D : Ends} {W : WX} {r : SR} (R : Rel K T φ H h) (ec : φ.c[n]? = some a) (rc : RCo K T φ H a c u) (hu : H a = some u) (nt : notTup u) (ni : ∀ C dx fs, u ≠ .ins C dx fs) (o : okS K T φ H D W (unlk n c r)) : okS K T φ (upd H a (.frz od u)) (lkD D a od u) W r := by
  have nS : ¬ φ.S a := fun z => (R.iS a z).1 (tr_of ec)
  have un : ∀ {ψ : Ix} {G : L2.Hp} {h' : Mem}, ExtS φ (upd H a (.frz od u)) ψ G → Rel K T ψ G h' → G a = some (.frz od u) ∧ ExtS φ H ψ (upd G a u) ∧ Rel K T ψ (upd G a u) (h'.set n (.con c)) ∧ VExt ψ G ψ (upd G a u) ∧ ψ.tr a := fun {ψ G h'} e R' => by
    have ga := e.fz _ _ _ upd_same
    have v2 := ve_unlock (φ := ψ) ga nt
    have e2 := e.unlock hu nt ni nS
    exact ⟨ga, e2, R'.setC (e2.get ec) v2 (rc.monoV e2.ve), v2, tr_of (e2.get ec)⟩
  have fr : ∀ {ψ : Ix} {G : L2.Hp} {h' : Mem} {fr : PyI.Fr} {σ : L2.St}, Rel K T ψ G h' → ψ.tr a → VExt ψ G ψ (upd G a u) → RFr K T ψ G fr σ → RFr K T ψ (upd G a u) fr σ := fun R' hl ve F => F.monoM ve fun b q => ⟨q, upd_ne fun z => (R'.iM b q).1 (z ▸ hl)⟩
  cases r with
  | bad => exact o
  | exc e fr' h' => exact fun ψ G σ ex R' F => o ψ G σ ((exts_lockC R ec hu nt ni).trans ex) R' F
  | ok fl fr' h' =>
    simp only [unlk] at o
    split at o
    · cases fl with
      | nx => exact fun ψ G σ ex R' F => let ⟨g1, g2, g3, g4, g5⟩ := un ex R'; ⟨g1, o ψ _ σ g2 g3 (fr R' g5 g4 F)⟩
      | bk => exact fun ψ G σ ex R' F => let ⟨g1, g2, g3, g4, g5⟩ := un ex R'; ⟨g1, o ψ _ σ g2 g3 (fr R' g5 g4 F)⟩
      | ct => exact fun ψ G σ ex R' F => let ⟨g1, g2, g3, g4, g5⟩ := un ex R'; ⟨g1, o ψ _ σ g2 g3 (fr R' g5 g4 F)⟩
      | rt v => exact fun ψ G x ex R' q => let ⟨g1, g2, g3, g4, g5⟩ := un ex R'; ⟨g1, o ψ _ x g2 g3 (RR.monoV g4 (fun _ z => z) (fun _ z => z) (fun _ z => z) (fun _ z => z) (.inl g5) (fun b hb => upd_ne hb) q)⟩
    · exact o.elim
end
/-! the dict's expression -/
def mDe (G : Gam) (c : SC) (e : Ex) (x : Expr) : Bool := match e, x with
  | .var i, .Name n _ => c.slot i n
  | .att (.var i) f, .Attribute (.Name nm _) a _ => c.slot i nm && decide (G.nms.lookup f = some a)
  | _, _ => false
def mDD (G : Gam) (c : SC) (p : Bool) (e : Ex) (t x : Expr) : Bool := match p with
  | false => mDe G c e x
  | true => (match x with
    | .Call (.Attribute y n ap) [] [] cp => decide (n = "items") && (ap.endLine == cp.line) && isTup t && mDe G c e y
    | _ => false)
def ddY (K : PySem.W.Frag) (T : Tab) (e : Ex) (σ : L2.St) (H : L2.Hp) (y : V) : Prop := match e with
  | .var i => σ[i]? = some (some y)
  | .att (.var i) f => ∃ b A dx ks, σ[i]? = some (some (.ref b)) ∧ H b = some (.ins A dx ks) ∧ Cls K A ∧ NoAttr K A (T.nm f) ∧ ks.lookup (T.nm f) = some y
  | _ => False
section
variable {P : Pg} {G : Gam} {T : Tab2} {c : SC} {X : Cx} {call callI : Nat → List Val → Mem → Res Ret} {W : WX} {k : Nat}
theorem mDe_star {e : Ex} {x : Expr} (h : mDe G c e x = true) : plainBase x = true ∧ notSet x = true := by
  unfold mDe at h
  split at h <;> first | exact ⟨rfl, rfl⟩ | cases h
theorem pe_dd (C : Ctx P G T c X call callI W k) {e : Ex} {x : Expr} (h : mDe G c e x = true) : PE X x (fun σ H Q => ∃ y, ddY X.K T.toTab e σ H y ∧ Q y H) := by
  unfold mDe at h
  split at h
  · refine peI (C.var h) fun σ H Q ⟨y, e, q⟩ => ⟨y, e, q⟩
  · simp only [Bool.and_eq_true, decide_eq_true_eq] at h
    have en := C.wd.nms _ _ h.2
    subst en
    refine peI (pe_fld (C.var h.1) (base_of rfl _ _)) fun σ H Q ⟨y, ⟨b, A, dx, ks, e1, e2, e3, e4, e5⟩, q⟩ => ⟨_, e1, b, A, dx, ks, y, rfl, e2, e3, e4, e5, q⟩
  · cases h
theorem dd_rv (C : Ctx P G T c X call callI W k) {e : Ex} {φ : Ix} {H : L2.Hp} {h : Mem} {fr : PyI.Fr} {σ : L2.St} {v : Val} (R : Rel X.K T.toTab φ H h) (F : RFr X.K T.toTab φ H fr σ) (hd : ddV P e fr h = some v) : ∃ y, ddY X.K T.toTab e σ H y ∧ RV X.K T.toTab φ H v y := by
  unfold ddV at hd
  split at hd
  · split at hd <;> cases hd
    rename_i en
    exact F.v _ _ en
  · split at hd <;> try cases hd
    rename_i en
    split at hd <;> try cases hd
    rename_i hm
    split at hd <;> try cases hd
    rename_i hc
    simp only [Bool.and_eq_true] at hc
    obtain ⟨s, hl, hs⟩ := Option.bind_eq_some_iff.mp hd
    obtain ⟨y, ey, ry⟩ := F.v _ _ en
    obtain ⟨Cd, e1, e2⟩ := fields_of hc.2
    obtain ⟨c1, c2, _⟩ := C.wd.cls _ Cd e1
    obtain ⟨b, dx, ks, rfl, _, p1, p2⟩ := R.ins ry hm
    obtain ⟨z, e4, rs⟩ := (RSs.look T.inj p2).1 _ hl
    cases s <;> simp only [slV?, reduceCtorEq, Option.some.injEq] at hs
    subst hs
    exact ⟨z, ⟨b, _, dx, ks, ey, p1, c1, c2 _ e2, e4⟩, rs⟩
  · cases hd
theorem ddY_upd {e : Ex} {K : PySem.W.Frag} {T : Tab} {σ : L2.St} {H : L2.Hp} {y : V} {a : Addr} {u o : HO} (hu : H a = some u) (ni : ∀ C dx fs, u ≠ .ins C dx fs) (h : ddY K T e σ H y) : ddY K T e σ (upd H a o) y := by
  unfold ddY at h ⊢
  split at h
  · exact h
  · obtain ⟨b, A, dx, ks, e1, e2, e3, e4, e5⟩ := h
    refine ⟨b, A, dx, ks, e1, ?_, e3, e4, e5⟩
    rw [upd_ne]
    · exact e2
    rintro rfl
    rw [hu] at e2; cases e2; exact absurd rfl (ni _ _ _)
  · exact h
end
end PyI
namespace PyI
open PySem PySem.Spec PyProof.Rows L2
/-! ### all statements -/
def noOne : Hds → Bool
  | .nil => true
  | .cons _ _ r => noOne r
  | .one _ _ _ => false
section
variable (G : Gam)
def mHds (c : SC) : Hds → List ExceptHandler → Bool
  | .nil, hs => match hs with
    | [] => true
    | _ => false
  | .cons d b r, hs => match hs with
    | .ExceptHandler (some (.Name x _)) none (b₀ :: suite) _ :: rest => decide (G.xnm.lookup d = some x) && c.gl x && mXSs G c none b (b₀ :: suite) && (noOne r && mHds c r rest)
    | _ => false
  | .one d i b, hs => match hs with
    | [.ExceptHandler (some (.Name x _)) (some n) (b₀ :: suite) _] => decide (G.xnm.lookup d = some x) && c.gl x && decide (c.N[i]? = some n) && decide (c.sc.names.lookup n = some .local) && mXSs G c (some (i, n)) b (b₀ :: suite)
    | _ => false
def isSub : Operator → Bool → Bool
  | .Add, false => true
  | .Sub, true => true
  | _, _ => false
end
/-- an own list is walked -/
def mFF (G : Gam) (c : SC) (r : Bool) (i f : Nat) (x : Expr) : Bool := match r, x with
  | false, .Attribute (.Name nm _) a _ => c.slot i nm && decide (G.nms.lookup f = some a)
  | true, .Call (.Name rv _) [.Attribute (.Name nm _) a _] [] _ => G.bl c rv "reversed" && c.slot i nm && decide (G.nms.lookup f = some a)
  | _, _ => false
section
variable (G : Gam)
def isComp : Ex → Bool
  | .az (.comp _ _ _ _) => true
  | .hp (.comp _ _ _ _) => true
  | _ => false
def isCompA : Az → Bool
  | .comp _ _ _ _ => true
  | _ => false
def isFrz : Sm → Bool
  | .frz _ => true
  | _ => false
mutual
def mS (c : SC) : Sm → Stmt → Bool
  | .asg tg e, s => match s with
    | .Assign [t] x _ => (match x with
      | .ListComp elt gs scope p2 => (match t, tg with
        | .Name y py, .v i => c.loc i y && mE G c e (.ListComp elt gs scope p2) && (!swB c y py p2 scope || (decide (c.sc.kind = .function) && isComp e))
        | _, _ => false)
      | x => mTg c tg t && notComp x && (notTupX t || notTupX x) && mE G c e x)
    | _ => false
  | .asgT as e, s => match s with
    | .Assign [.Tuple ts _ _] x _ => mAtts G c as ts && notTupX x && notComp x && mE G c e x
    | _ => false
  | .asgA o f e, s => match s with
    | .Assign [.Attribute l n _] x _ => decide (G.nms.lookup f = some n) && mE G c o l && mE G c e x
    | _ => false
  | .asgI o i e, s => match s with
    | .Assign [.Subscript l r _] x _ => mE G c o l && mE G c i r && mE G c e x
    | _ => false
  | .augA o f sub e, s => match s with
    | .AugAssign (.Attribute l n _) op x _ => decide (G.nms.lookup f = some n) && isSub op sub && mE G c o l && mE G c e x
    | _ => false
  | .own i a, s => match s with
    | .Assign [.Name y py] x _ => (match x with
      | .ListComp elt gs scope p2 => c.loc i y && mA G c a (.ListComp elt gs scope p2) && (!swB c y py p2 scope || (decide (c.sc.kind = .function) && isCompA a))
      | x => c.loc i y && notComp x && mA G c a x)
    | _ => false
  | .ownA i f a, s => match s with
    | .Assign [.Attribute (.Name nm _) n _] x _ => decide (G.nms.lookup f = some n) && c.slot i nm && mA G c a x
    | _ => false
  | .frz _, _ => false
  | .papp p e, s => match s with
    | .Expr (.Call (.Attribute l n ap) [y] [] p1) _ => decide (n = "append") && (ap.endLine == p1.line) && G.px c p l && simP1 p e && notStar y && mE G c e y
    | _ => false
  | .pext p e, s => match s with
    | .Expr (.Call (.Attribute l n ap) [y] [] p1) _ => decide (n = "extend") && (ap.endLine == p1.line) && G.px c p l && simP1 p e && notStar y && mE G c e y
    | _ => false
  | .pset p i e, s => match s with
    | .Assign [.Subscript l r _] x _ => G.px c p l && simP1 p i && mE G c i r && mE G c e x
    | _ => false
  | .pdel p i, s => match s with
    | .Delete [.Subscript l r _] _ => G.px c p l && simP1 p i && mE G c i r
    | _ => false
  | .exp e, s => match s with
    | .Expr x _ => notComp x && mE G c e x
    | _ => false
  | .ret e, s => match s with
    | .Return (some x) _ => mE G c e x
    | _ => false
  | .retA a, s => match s with
    | .Return (some x) _ => mA G c a x
    | _ => false
  | .retO i, s => match s with
    | .Return (some (.Name n _)) _ => c.slot i n
    | _ => false
  | .retN, s => match s with
    | .Return none _ => true
    | _ => false
  | .ite t a b, s => match s with
    | .If x p q _ => mT G c t x && mSs c a p && mSs c b q
    | _ => false
  | .whl t b, s => match s with
    | .While x p [] _ => mT G c t x && mSs c b p
    | _ => false
  | .for tg it b, s => match s with
    | .For t x p [] _ => notSet x && mTg c tg t && mI G c it t x && mSs c b p
    | _ => false
  | .forF r tg i f b, s => match s with
    | .For t x p [] _ => mFF G c r i f x && mTg c tg t && mSs c b p
    | _ => false
  | .forD p tg e b, s => match s with
    | .For t x q [] _ => mDD G c p e t x && mTg c tg t && mSs c b q
    | _ => false
  | .padd p e, s => match s with
    | .Expr (.Call (.Attribute l n ap) [y] [] p1) _ => decide (n = "add") && (ap.endLine == p1.line) && notStar y && G.px c p l && simP1 p e && mE G c e y
    | _ => false
  | .raise d, s => match s with
    | .Raise (some (.Call (.Name x _) [.Constant (.str _) _ _] [] _)) none _ => decide (G.xnm.lookup d = some x) && decide (d ∈ G.rz) && c.gl x
    | _ => false
  | .try b hs, s => match s with
    | .Try p (h₀ :: hds) [] [] _ => mSs c b p && mHds G c hs (h₀ :: hds)
    | _ => false
  | .pass, s => match s with
    | .Pass _ => true
    | .Expr (.Constant (.str _) _ _) _ => true
    | _ => false
  | .brk, s => match s with
    | .Break _ => true
    | _ => false
  | .cnt, s => match s with
    | .Continue _ => true
    | _ => false
  | .del o i, s => match s with
    | .Delete [.Subscript l r _] _ => mE G c o l && mE G c i r
    | _ => false
def mSs (c : SC) : Sms → List Stmt → Bool
  | .nil, xs => match xs with
    | [] => true
    | _ => false
  | .cons s ss, xs => (isFrz s && mSs c ss xs) || (match xs with
    | x :: r => mS c s x && mSs c ss r
    | [] => false)
end
end
structure CtxS (P : Pg) (G : Gam) (T : Tab2) (c : SC) (X : Cx) (call callI : Nat → List Val → Mem → Res Ret) (W : WX) (k : Nat) : Prop extends Ctx P G T c X call callI W k where
  own : PassesOwn (model X.prog X.w) X.A X.env X.xe
  stk : X.stack = X.env :: X.outer
  frm : X.env.frame = some X.env.locals
section
variable {P : Pg} {G : Gam} {T : Tab2} {c : SC} {X : Cx} {call callI : Nat → List Val → Mem → Res Ret} {W : WX} {k : Nat}
theorem CtxS.tr (C : CtxS P G T c X call callI W k) {W' : WX} {pn : List (Addr × Obj)} {xe : Value → Shared → Prop} (tk : Takes (X.tr pn xe) W') (ow : PassesOwn (model X.prog X.w) X.A X.env xe) : CtxS P G T c (X.tr pn xe) call callI W' k where
  N := C.N
  nd := C.nd
  sc := C.sc
  calm := C.calm
  room := C.room
  wd := C.wd
  tw := C.tw
  call := C.call
  callI := C.callI
  tk := tk
  fnt := C.fnt
  own := ow
  stk := C.stk
  frm := C.frm
theorem CtxS.suite (C : CtxS P G T c X call callI W k) {e : Nat} {a : Addr} {oe : Obj} {pn : List (Addr × Obj)} (z : Zc (T.exn e) none oe) (hf : ∃ vs, oe.data = .fields vs) : CtxH P G T c (X.suite a ((a, oe) :: pn)) e a where
  N := C.N
  nd := C.nd
  sc := C.sc
  wd := C.wd
  fnt := C.fnt
  isi := fun ⟨d, b, he⟩ => by
    obtain ⟨_, _, D, eD, ec⟩ := C.wd.exm _ _ _ he
    exact ⟨D, eD, call_isE ec (eD ▸ z) hf⟩
theorem CtxS.names (C : CtxS P G T c X call callI W k) {d : Nat} {x : Str} (h1 : G.xnm.lookup d = some x) (h2 : c.gl x = true) : Names X x (T.exn d) := by
  obtain ⟨g1, g2, g3⟩ := C.toCtx.gl h2
  refine ⟨g1, g2, ?_⟩
  rcases C.wd.exn _ _ h1 with m | ⟨m, b⟩
  · exact .inl m
  · exact .inr ⟨m, b, g3⟩
/-- a while's invariant -/
theorem s_whl (C : CtxS P G T c X call callI W k) {t : Te} {b : Sms} {x : Expr} {p : List Stmt} {pos : Pos} (ht : ST P T X call callI W t x) (hb : SSs P T X call callI W b p) : SS P T X call callI W (.whl t b) (.While x p [] pos) := by
  refine psI (ps_while C.own ht hb) fun D σ H ⟨φ, h, fr, R, F, o⟩ => ?_
  refine ⟨fun m σ H => ∃ φ h fr, Rel X.K T.toTab φ H h ∧ RFr X.K T.toTab φ H fr σ ∧ okS X.K T.toTab φ H D W (whlG (evt P call callI t) (exs P call callI b) m fr h), ⟨P.lim, φ, h, fr, R, F, o⟩, fun m σ H hw => ?_⟩
  clear R F o φ h fr
  obtain ⟨φ, h, fr, R, F, o⟩ := hw
  cases m with
  | zero => exact False.elim o
  | succ m =>
    simp only [whlG] at o
    refine ⟨φ, h, fr, R, F, ?_⟩
    cases he : evt P call callI t fr h with
    | bad => rw [he] at o; exact False.elim o
    | exc e h1 =>
      rw [he] at o
      exact fun ψ G ex R' => o ψ G σ ex.toExtS R' (F.mono ex)
    | ok v h1 =>
      rw [he] at o
      intro ψ G v' ex R' hv
      obtain rfl : v' = v := hv
      cases v' with
      | false =>
        rw [if_neg Bool.false_ne_true]
        exact o ψ G σ ex.toExtS R' (F.mono ex)
      | true =>
        rw [if_pos rfl]
        refine ⟨fun σ' H' => ∃ φ h fr, Rel X.K T.toTab φ H' h ∧ RFr X.K T.toTab φ H' fr σ' ∧ okS X.K T.toTab φ H' D W (whlG (evt P call callI t) (exs P call callI b) m fr h), fun σ' H' q => ⟨m, Nat.lt_succ_self m, q⟩, ψ, h1, fr, R', F.mono ex, ?_⟩
        simp only [] at o
        cases hr : exs P call callI b fr h1 with
        | bad => rw [hr] at o; exact False.elim o
        | exc e fr2 h2 => rw [hr] at o; exact fun χ M τ e2 => o χ M τ (ex.toExtS.trans e2)
        | ok f fr2 h2 =>
          rw [hr] at o
          cases f with
          | nx => exact fun χ M τ e2 R2 F2 => ⟨χ, h2, fr2, R2, F2, okS.ext o (ex.toExtS.trans e2)⟩
          | ct => exact fun χ M τ e2 R2 F2 => ⟨χ, h2, fr2, R2, F2, okS.ext o (ex.toExtS.trans e2)⟩
          | bk => exact fun χ M τ e2 R2 F2 => o χ M τ (ex.toExtS.trans e2) R2 F2
          | rt v => exact fun χ M τ e2 R2 F2 => o χ M τ (ex.toExtS.trans e2) R2 F2
/-- the turns of a for -/
theorem for_loop {tg : Tgt} {b : Sms} {tt : Itr} {J : It} {ψ : Ix} {H1 : L2.Hp} {h1 : Mem} {fr : PyI.Fr} {σ : L2.St} {D : Ends} (m0 : Nat) (R1 : Rel X.K T.toTab ψ H1 h1) (F1 : RFr X.K T.toTab ψ H1 fr σ) (iok : ItOk X.K T.toTab ψ H1 tt J) (o1 : okS X.K T.toTab ψ H1 D W (forG tt tg (exs P call callI b) m0 0 fr h1)) :
    ∃ Wf : Nat → Nat → L2.St → L2.Hp → Prop, (∃ m, Wf 0 m σ H1) ∧ ∀ i m σ H, Wf i m σ H →
      (J.stop i H ∧ D.nx σ H) ∨ (J.go i H ∧ ∃ N : L2.St → L2.Hp → Prop, (∀ σ' H', N σ' H' → ∃ m', m' < m ∧ Wf (i + 1) m' σ' H') ∧ ∀ x H', J.yld i H x H' → gT X.K T.toTab tg x σ H' fun σ2 H2 => tSt X.K T.toTab W (exs P call callI b) { D with nx := N, ct := N, bk := D.nx } σ2 H2) := by
  refine ⟨fun i m σ L => ∃ χ h2 fr2, ExtS ψ H1 χ L ∧ Rel X.K T.toTab χ L h2 ∧ RFr X.K T.toTab χ L fr2 σ ∧ okS X.K T.toTab χ L D W (forG tt tg (exs P call callI b) m i fr2 h2),
    ⟨m0, ψ, h1, fr, .refl, R1, F1, o1⟩, fun i m σ L hw => ?_⟩
  obtain ⟨χ, h2, fr2, e3, R3, F3, o3⟩ := hw
  cases m with
  | zero =>
    simp only [forG] at o3
    split at o3
    · rename_i hf
      exact .inl ⟨(iok χ L h2 i e3 R3).2 hf, okS.nx o3 R3 F3⟩
    · exact False.elim o3
  | succ r =>
    simp only [forG] at o3
    split at o3
    · exact False.elim o3
    · rename_i v hv
      obtain ⟨g1, g2⟩ := (iok χ L h2 i e3 R3).1 v hv
      refine .inr ⟨g1, fun σ' L' => ∃ χ h2 fr2, ExtS ψ H1 χ L' ∧ Rel X.K T.toTab χ L' h2 ∧ RFr X.K T.toTab χ L' fr2 σ' ∧ okS X.K T.toTab χ L' D W (forG tt tg (exs P call callI b) r (i + 1) fr2 h2),
        fun σ' L' hL => ⟨r, Nat.lt_succ_self r, hL⟩, fun y L' hy => ?_⟩
      obtain ⟨e4, R4, rv⟩ := g2 y L' hy
      split at o3
      · exact False.elim o3
      · rename_i fr3 hp
        have o4 := okS.ext o3 e4.toExtS
        refine ⟨χ, h2, fr2, v, fr3, R4, F3.mono e4, rv, hp, fun σ5 F5 hl hag => ⟨χ, h2, fr3, R4, F5, ?_⟩⟩
        cases hr : exs P call callI b fr3 h2 with
        | bad => rw [hr] at o4; exact False.elim o4
        | exc e fr6 h6 => rw [hr] at o4; exact o4
        | ok f fr6 h6 =>
          rw [hr] at o4
          cases f with
          | nx => exact fun ω M τ e2 R2 F2 => ⟨ω, h6, fr6, (e3.trans e4.toExtS).trans e2, R2, F2, okS.ext o4 e2⟩
          | ct => exact fun ω M τ e2 R2 F2 => ⟨ω, h6, fr6, (e3.trans e4.toExtS).trans e2, R2, F2, okS.ext o4 e2⟩
          | bk => exact o4
          | rt v => exact o4
theorem s_for (C : CtxS P G T c X call callI W k) {tg : Tgt} {it : Itx} {b : Sms} {t x : Expr} {p : List Stmt} {pos : Pos} (hs : notSet x = true) (ht : mTg c tg t = true) (hi : SI P T X call callI W it t x) (hb : SSs P T X call callI W b p) : SS P T X call callI W (.for tg it b) (.For t x p [] pos) := by
  refine psI (ps_for C.own C.calm hi (s_tg C.toCtx _ _ ht) hb (folded_of hs _)) fun D σ H hh => ?_
  obtain ⟨φ, h, fr, R, F, o⟩ := hh
  refine ⟨φ, h, fr, R, F, (okS.lift (R1 := ItOk X.K T.toTab) o F).mono fun J H1 hq => ?_⟩
  obtain ⟨tt, ψ, h1, _, x1, R1, F1, iok, o1⟩ := hq
  exact for_loop _ R1 F1 iok o1
theorem s_forF (C : CtxS P G T c X call callI W k) {tg : Tgt} {r : Bool} {i f : Nat} {b : Sms} {t x : Expr} {p : List Stmt} {pos : Pos} (hx : mFF G c r i f x = true) (ht : mTg c tg t = true) (hb : SSs P T X call callI W b p) : SS P T X call callI W (.forF r tg i f b) (.For t x p [] pos) := by
  have main : ∀ {D : Ends} {σ : L2.St} {H : L2.Hp}, tSt X.K T.toTab W (ex P call callI (.forF r tg i f b)) D σ H → ∃ y a0 A dx ks a vs, σ[i]? = some (some y) ∧ y = .ref a0 ∧ H a0 = some (.ins A dx ks) ∧ Cls X.K A ∧ NoAttr X.K A (T.nm f) ∧ ks.lookup (T.nm f) = some (.ref a) ∧ SqL X.K H a vs ∧
      ∀ J, (∀ ψ xs, vs.length = xs.length → StL X.K T.toTab ψ H a xs → ItOk X.K T.toTab ψ H (.sn (if r then xs.reverse else xs)) J) → ∃ Wf : Nat → Nat → L2.St → L2.Hp → Prop, (∃ m, Wf 0 m σ H) ∧ ∀ i m σ H, Wf i m σ H →
      (J.stop i H ∧ D.nx σ H) ∨ (J.go i H ∧ ∃ N : L2.St → L2.Hp → Prop, (∀ σ' H', N σ' H' → ∃ m', m' < m ∧ Wf (i + 1) m' σ' H') ∧ ∀ x H', J.yld i H x H' → gT X.K T.toTab tg x σ H' fun σ2 H2 => tSt X.K T.toTab W (exs P call callI b) { D with nx := N, ct := N, bk := D.nx } σ2 H2) := fun {D σ H} ⟨φ, h, fr, R, F, o⟩ => by
    simp only [ex] at o
    split at o <;> try exact o.elim
    rename_i n en
    split at o <;> try exact o.elim
    rename_i d fs hm
    split at o <;> try exact o.elim
    rename_i xs hl
    split at o
    · exact o.elim
    rename_i hc
    simp only [Bool.not_eq_true', Bool.not_eq_false, Bool.and_eq_true] at hc
    obtain ⟨y, ey, ry⟩ := F.v i _ en
    obtain ⟨Cd, e1, e2⟩ := fields_of hc.1
    obtain ⟨c1, c2, _⟩ := C.wd.cls d Cd e1
    obtain ⟨a0, dx, ks, rfl, ea, p1, p2⟩ := R.ins ry hm
    obtain ⟨z, e4, a, u, g1, rfl, g3, vs, rfl, g4⟩ := (RSs.look T.inj p2).1 _ hl
    refine ⟨_, a0, T.cls d, dx, ks, a, vs, ey, rfl, p1, c1, c2 f e2, e4, .of g3, fun J hJ => ?_⟩
    have R' := R.lend hm hc.2 hl g1
    have ve : VExt φ H (φ.lend n f a) H := ⟨fun _ _ q => q, fun _ q => q, fun _ _ q => q, fun _ _ => .refl⟩
    have F' : RFr X.K T.toTab (φ.lend n f a) H fr σ := F.monoM ve fun x q => ⟨q, rfl⟩
    have st : StL X.K T.toTab (φ.lend n f a) H a xs := ⟨vs, fun ψ M e => ⟨.of ((e.keS a (.inr rfl)).trans g3), (RVs.monoV ve _ _ g4).monoV e.ve _ _⟩⟩
    have o' := back_S (u := .lst vs) R g1 g3 (show RCo X.K T.toTab φ H a (.lst xs) (.lst vs) from ⟨vs, rfl, g4⟩) o
    exact for_loop _ R' F' (hJ _ xs g4.length st) o'
  cases r with
  | false =>
    cases x <;> try (simp [mFF] at hx; done)
    rename_i o0 a0 p0
    cases o0 <;> try (simp [mFF] at hx; done)
    rename_i nm p1
    simp only [mFF, Bool.and_eq_true, decide_eq_true_eq] at hx
    have en := C.wd.nms _ _ hx.2
    subst en
    refine psI (ps_for C.own C.calm (pi_list (pe_fld (C.toCtx.var hx.1) (base_of rfl _ _))) (s_tg C.toCtx _ _ ht) hb (folded_of rfl _)) fun D σ H hh => ?_
    obtain ⟨y, a0, A, dx, ks, a, vs, ey, rfl, p1, c1, c2, e4, sq, go⟩ := main hh
    exact ⟨.ref a0, ey, a0, A, dx, ks, .ref a, rfl, p1, c1, c2, e4, a, rfl, ⟨vs, sq⟩, go _ fun ψ xs _ st => itkl_ok st⟩
  | true =>
    cases x <;> try (simp [mFF] at hx; done)
    rename_i fn as kws p0
    unfold mFF at hx
    split at hx <;> try cases hx
    · rename_i h; cases h
    · rename_i heq1 heq2
      cases heq2
      simp only [Bool.and_eq_true, decide_eq_true_eq] at hx
      have en := C.wd.nms _ _ hx.2
      subst en
      obtain ⟨rfl, k1, k2, k3, k4⟩ := C.toCtx.blt hx.1.1
      refine psI (ps_for C.own C.calm (pi_reversed k1 k2 (pa_cons (pe_fld (C.toCtx.var hx.1.2) (base_of rfl _ _)) pa_nil (star_of rfl _ _)) (star_of rfl _ _)) (s_tg C.toCtx _ _ ht) hb (folded_of rfl _)) fun D σ H hh => ?_
      obtain ⟨y, a0, A, dx, ks, a, vs, ey, rfl, p1, c1, c2, e4, sq, go⟩ := main hh
      refine ⟨.ref a0, ey, a0, A, dx, ks, .ref a, rfl, p1, c1, c2, e4, a, vs, rfl, sq, go _ fun ψ xs hl st => ?_⟩
      rw [hl]
      exact itkv_ok st
theorem s_forDl (C : CtxS P G T c X call callI W k) {p : Bool} {tg : Tgt} {e : Ex} {b : Sms} {t x : Expr} {q : List Stmt} {pos : Pos} (hx : mDD G c p e t x = true) (ht : mTg c tg t = true) (hb : SSs P T X call callI W b q) :
    PS X (.For t x q [] pos) (fun D σ H => ∃ φ h fr a o kvs ks, Rel X.K T.toTab φ H h ∧ RFr X.K T.toTab φ H fr σ ∧ ddY X.K T.toTab e σ H (.ref a) ∧ H a = some (.frz o (.dK ks)) ∧ RKs X.K T.toTab kT φ H kvs ks ∧ okS X.K T.toTab φ H D W (forG (.sn (dItems p kvs)) tg (exs P call callI b) kvs.length 0 fr h)) := by
  cases p with
  | false =>
    have hx : mDe G c e x = true := hx
    refine psI (ps_for C.own C.calm (pi_keys (pe_dd C.toCtx hx)) (s_tg C.toCtx _ _ ht) hb (folded_of (mDe_star hx).2 _)) fun D σ H ⟨φ, h, fr, a, o, kvs, ks, R, F, ey, ha, rk, ok⟩ => ?_
    exact ⟨_, ey, a, o, rfl, .inl ⟨ks, ha, for_loop _ R F (itk_ok ha rk) ok⟩⟩
  | true =>
    unfold mDD at hx
    simp only at hx
    split at hx <;> try cases hx
    simp only [Bool.and_eq_true, decide_eq_true_eq] at hx
    obtain ⟨⟨⟨h1, h2⟩, h3⟩, h4⟩ := hx
    subst h1
    cases t <;> simp only [isTup, Bool.false_eq_true] at h3
    refine psI (ps_for C.own C.calm (pi_items (pe_dd C.toCtx h4) (base_of (mDe_star h4).1 _ _) h2) (s_tg C.toCtx _ _ ht) hb (folded_of rfl _)) fun D σ H ⟨φ, h, fr, a, o, kvs, ks, R, F, ey, ha, rk, ok⟩ => ?_
    exact ⟨_, ey, a, o, ks, rfl, ha, for_loop _ R F (iti_ok ha rk) ok⟩
theorem s_forD (C : CtxS P G T c X call callI W k) {p : Bool} {tg : Tgt} {e : Ex} {b : Sms} {t x : Expr} {q : List Stmt} {pos : Pos} (hx : mDD G c p e t x = true) (ht : mTg c tg t = true) (hb : SSs P T X call callI W b q) : SS P T X call callI W (.forD p tg e b) (.For t x q [] pos) := by
  have dl := s_forDl (pos := pos) C hx ht hb
  refine psI (psOr dl (ps_lock dl)) fun D σ H ⟨φ, h, fr, R, F, o⟩ => ?_
  simp only [ex] at o
  split at o <;> try exact o.elim
  · rename_i kvs hd
    obtain ⟨y, ey, a, ks, rfl, ⟨hL, hc⟩, rk⟩ := dd_rv C.toCtx R F hd
    have rk := RKl_iff.mp rk
    rcases ct_dK hc with hu | ⟨ob, hu⟩
    · refine .inr ⟨a, _, hu, trivial, fun od => ?_⟩
      have ni : ∀ C dx fs, HO.dK ks ≠ .ins C dx fs := fun _ _ _ z => nomatch z
      have ve := ve_lock (φ := φ) (od := od) hu trivial ni
      exact ⟨φ, h, fr, a, od, kvs, ks, R.setL hL ve, F.monoM ve fun b q => ⟨q, upd_ne fun z => (R.iM b q).2.1 (z ▸ hL)⟩, ddY_upd hu ni ey, upd_same, rk.monoV ve, okS_lockL R hL hu trivial ni o⟩
    · exact .inl ⟨φ, h, fr, a, ob, kvs, ks, R, F, ey, hu, rk, o⟩
  · rename_i n hd
    obtain ⟨y, ey, ry⟩ := dd_rv C.toCtx R F hd
    split at o <;> try exact o.elim
    · rename_i kvs hn
      obtain ⟨a, u, rfl, ec, hu, rc⟩ := R.con ry hn
      obtain ⟨ks, rfl, rk⟩ := id rc
      refine .inr ⟨a, _, hu, trivial, fun od => ?_⟩
      have ni : ∀ C dx fs, HO.dK ks ≠ .ins C dx fs := fun _ _ _ z => nomatch z
      have ve := ve_lock (φ := φ) (od := od) hu trivial ni
      exact ⟨φ, _, fr, a, od, kvs, ks, R.setC (ob := .lck (.dik kvs)) ec ve ⟨od, _, rfl, rc.monoV ve⟩, F.monoM ve fun b q => ⟨q, upd_ne fun z => (R.iM b q).1 (z ▸ tr_of ec)⟩, ddY_upd hu ni ey, upd_same, rk.monoV ve, okS_lockC R ec rc hu trivial ni o⟩
    · rename_i kvs hn
      obtain ⟨a, u, rfl, ec, hu, ob, v, rfl, ks, rfl, rk⟩ := R.ref ry hn
      exact .inl ⟨φ, h, fr, a, ob, kvs, ks, R, F, ey, hu, rk, o⟩
theorem s_raise (C : CtxS P G T c X call callI W k) {d : Nat} {x m : Str} {j : Nat} {p1 p2 p3 pos : Pos} (h1 : G.xnm.lookup d = some x) (h2 : d ∈ G.rz) (h3 : c.gl x = true) : SS P T X call callI W (.raise d) (.Raise (some (.Call (.Name x p1) [.Constant (.str m) j p2] [] p3)) none pos) := by
  obtain ⟨A, B, newId, initId, bmB, eA, mA, kA, FB, qA, s1, s2⟩ := C.wd.rse _ _ h2 h1
  obtain ⟨g1, g2, g3⟩ := C.toCtx.gl h3
  refine psI (ps_raise C.calm C.tk (pmk_own FB qA mA kA (raises_own s1 s2) g1 g2)) fun D σ H ⟨φ, h, fr, R, F, o⟩ => ?_
  have := o φ H σ .refl R F
  rw [eA] at this
  exact this
/-- the clauses -/
def tH (P : Pg) (T : Tab2) (K : PySem.W.Frag) (w : World) (b : XSms) (en : Option (Nat × Str)) : Addr → Value → Option Addr → TS := fun a cls d D σ H => ∃ e, cls = T.exn e ∧ d = none ∧ tXS K T.toTab (enOk en a) (exXs P e b) D σ H
theorem hsu_ok (C : CtxS P G T c X call callI W k) {b : XSms} {en : Option (Nat × Str)} {sts : List Stmt} (h : mXSs G c en b sts = true) (a : Addr) (oe : Obj) (cls : Value) (d : Option Addr) (pn : List (Addr × Obj)) (z : Zc cls d oe) (hf : ∃ vs, oe.data = .fields vs) :
    PSs (X.suite a ((a, oe) :: pn)) sts (tH P T X.K X.w b en a cls d) := by
  refine ⟨fun pins s σ H D I ⟨e, e1, e2, q⟩ => ?_⟩
  subst e1 e2
  exact (xSs (C.suite z hf) b sts h).run pins s σ H D I q
def hdsL (P : Pg) (T : Tab2) (K : PySem.W.Frag) (w : World) : Hds → List (Value × (Addr → Value → Option Addr → TS))
  | .nil => []
  | .cons d b r => (T.exn d, tH P T K w b none) :: hdsL P T K w r
  | .one _ _ _ => []
theorem hds_ok (C : CtxS P G T c X call callI W k) : ∀ (hs : Hds) (l : List ExceptHandler), noOne hs = true → mHds G c hs l = true → HdsOk X l (hdsL P T X.K X.w hs)
  | .nil, l, _, h => by
    simp only [mHds] at h
    split at h <;> try cases h
    exact .nil
  | .cons d b r, l, n, h => by
    simp only [mHds] at h
    split at h <;> try cases h
    simp only [Bool.and_eq_true, decide_eq_true_eq] at h
    obtain ⟨⟨⟨h1, h2⟩, h3⟩, h4⟩ := h
    exact .cons (C.names h1 h2) (fun a oe cls d pn z hf => hsu_ok C h3 a oe cls d pn z hf) (hds_ok C r _ n h4.2)
  | .one _ _ _, l, n, h => by cases n
theorem okX_of {K : PySem.W.Frag} {T : Tab} {φ : Ix} {H : L2.Hp} {Z : L2.St → Prop} {D : Ends} {r : SR} (o : okS K T φ H D W r) (hb : ∀ e, r ≠ .bad ∧ (∀ fr h, r ≠ .exc e fr h) ∧ (∀ fr h, r ≠ .ok .bk fr h) ∧ (∀ fr h, r ≠ .ok .ct fr h)) : okX K T φ H Z D r := by
  obtain ⟨n1, n2, n3, n4⟩ := hb 0
  cases r with
  | ok f fr h =>
    cases f with
    | nx => exact fun ψ G σ a b c _ => o ψ G σ a.toExtS b c
    | rt v => exact fun ψ G x a b c => o ψ G x a.toExtS b c
    | bk => exact absurd rfl (n3 fr h)
    | ct => exact absurd rfl (n4 fr h)
  | exc e fr h => exact absurd rfl ((hb e).2.1 fr h)
  | bad => exact absurd rfl n1
mutual
theorem exX_fl (e : Nat) : ∀ (s : XSm) (fr : PyI.Fr) (h : Mem), (∀ c fr' h', exX P e s fr h ≠ .exc c fr' h') ∧ (∀ fr' h', exX P e s fr h ≠ .ok .bk fr' h') ∧ (∀ fr' h', exX P e s fr h ≠ .ok .ct fr' h')
  | .ret b, fr, h => by
    simp only [exX]
    split <;> simp
  | .ite t a b, fr, h => by
    simp only [exX]
    split
    · split
      · exact exXs_fl e a fr h
      · exact exXs_fl e b fr h
    · simp
  | .asg i b, fr, h => by
    simp only [exX]
    split <;> simp
  | .pass, fr, h => by simp [exX]
theorem exXs_fl (e : Nat) : ∀ (s : XSms) (fr : PyI.Fr) (h : Mem), (∀ c fr' h', exXs P e s fr h ≠ .exc c fr' h') ∧ (∀ fr' h', exXs P e s fr h ≠ .ok .bk fr' h') ∧ (∀ fr' h', exXs P e s fr h ≠ .ok .ct fr' h')
  | .nil, fr, h => by simp [exXs]
  | .cons s ss, fr, h => by
    simp only [exXs]
    have h1 := exX_fl e s fr h
    cases hr : exX P e s fr h with
    | ok f fr1 h2 =>
      cases f with
      | nx => exact exXs_fl e ss fr1 h2
      | rt v => simp [SR.andThen]
      | bk => exact absurd hr (h1.2.1 _ _)
      | ct => exact absurd hr (h1.2.2 _ _)
    | exc c fr1 h2 => exact absurd hr (h1.1 _ _ _)
    | bad => simp [SR.andThen]
end
theorem okX_ss {K : PySem.W.Frag} {T : Tab} {φ : Ix} {H : L2.Hp} {Z : L2.St → Prop} {D : Ends} {e : Nat} {b : XSms} {fr : PyI.Fr} {h : Mem} (o : okS K T φ H D W (exXs P e b fr h)) : okX K T φ H Z D (exXs P e b fr h) := by
  have := exXs_fl (P := P) e b fr h
  refine okX_of o fun e' => ⟨fun z => by rw [z] at o; exact o, this.1 e', this.2.1, this.2.2⟩
/-- the clauses take what they take -/
theorem many_ok (C : CtxS P G T c X call callI W k) {D : Ends} {e : Nat} {fr : PyI.Fr} {h : Mem} {φ : Ix} {H : L2.Hp} {σ : L2.St} (R : Rel X.K T.toTab φ H h) (F : RFr X.K T.toTab φ H fr σ) : ∀ (hs : Hds), noOne hs = true →
    okS X.K T.toTab φ H D W (hand P e hs fr h) → wMany X.K W D (hdsL P T X.K X.w hs) (T.exn e) none σ H
  | .nil, _, o => o φ H σ .refl R F
  | .cons d b r, n, o => by
    simp only [hand] at o
    split at o
    · rename_i he
      exact ⟨true, (C.wd.exm _ _ _ he).1, fun _ a ha => ⟨e, rfl, rfl, ⟨(fun i n z => nomatch z), ⟨φ, h, fr, R, F, okX_ss o⟩⟩⟩, (fun z => nomatch z)⟩
    · rename_i he
      exact ⟨false, (C.wd.exm _ _ _ he).1, (fun z => nomatch z), fun _ => many_ok C R F r n o⟩
    · exact False.elim o
  | .one _ _ _, n, _ => by cases n
theorem s_try (C : CtxS P G T c X call callI W k) {b : Sms} {hs : Hds} {body : List Stmt} {h₀ : ExceptHandler} {hds : List ExceptHandler} {pos : Pos}
    (hb : ∀ (X' : Cx) (W' : WX), X'.K = X.K → X'.w = X.w → CtxS P G T c X' call callI W' k → SSs P T X' call callI W' b body) (hh : mHds G c hs (h₀ :: hds) = true) : SS P T X call callI W (.try b hs) (.Try body (h₀ :: hds) [] [] pos) := by
  by_cases hn : noOne hs = true
  · refine psI (ps_try_many (tb := fun W' => tSt X.K T.toTab W' (exs P call callI b)) C.stk C.frm C.tk (fun W' pn xe tk ow => hb (X.tr pn xe) W' rfl rfl (C.tr tk ow)) (hds_ok C hs _ hn hh)) fun D σ H ⟨φ, h, fr, R, F, o⟩ => ?_
    refine ⟨φ, h, fr, R, F, ?_⟩
    simp only [ex] at o
    cases hr : exs P call callI b fr h with
    | bad => rw [hr] at o; exact o
    | ok f fr1 h1 => rw [hr] at o; cases f <;> exact o
    | exc e fr1 h1 =>
      rw [hr] at o
      exact fun ψ G τ ex R' F' => many_ok C R' F' hs hn (okS.ext o ex)
  · cases hs with
    | nil => exact absurd rfl hn
    | one d i bb =>
      simp only [mHds] at hh
      split at hh <;> try cases hh
      rename_i heq
      cases heq
      simp only [Bool.and_eq_true, decide_eq_true_eq] at hh
      obtain ⟨⟨⟨⟨h1, h2⟩, h3⟩, h4⟩, h5⟩ := hh
      refine psI (ps_try_as (tb := fun W' => tSt X.K T.toTab W' (exs P call callI b)) C.stk C.frm (by rw [C.N]; exact C.nd) (by rw [C.N]; exact h3) (by show X.env.scope.names.lookup _ = _; rw [C.sc]; exact h4) (C.names h1 h2) C.tk
        (fun W' pn xe tk ow => hb (X.tr pn xe) W' rfl rfl (C.tr tk ow)) (fun a oe cls d pn z hf => hsu_ok C h5 a oe cls d pn z hf)) fun D σ H ⟨φ, h, fr, R, F, o⟩ => ?_
      refine ⟨φ, h, fr, R, F, ?_⟩
      simp only [ex] at o
      cases hr : exs P call callI b fr h with
      | bad => rw [hr] at o; exact o
      | ok f fr1 h1 => rw [hr] at o; cases f <;> exact o
      | exc e fr1 h1 =>
        rw [hr] at o
        intro ψ M τ ex R' F'
        have o' := okS.ext o ex
        simp only [hand] at o'
        split at o'
        · rename_i he
          split at o'
          · rename_i hi
            have hl : i < τ.length := by rw [← F'.len]; exact hi
            refine ⟨true, (C.wd.exm _ _ _ he).1, fun _ a ha => ⟨e, rfl, rfl, ⟨?_, ⟨ψ, h1, fr1.set i .e, R', F'.unset i _, ?_⟩⟩⟩, (fun z => nomatch z)⟩
            · intro j n ej
              cases ej
              exact List.getElem?_set_self hl
            · have fl := exXs_fl (P := P) e bb (fr1.set i .e) h1
              generalize hrr : exXs P e bb (fr1.set i .e) h1 = rr at o' fl
              cases rr with
              | ok f fr2 h2 =>
                cases f with
                | nx => exact fun χ L τ' e2 R2 F2 _ => o' χ L _ e2.toExtS R2 (F2.unset i _)
                | rt v => exact fun χ L x e2 => o' χ L x e2.toExtS
                | bk => exact absurd rfl (fl.2.1 _ _)
                | ct => exact absurd rfl (fl.2.2 _ _)
              | exc c' fr2 h2 => exact absurd rfl (fl.1 _ _ _)
              | bad => exact o'
          · exact False.elim o'
        · rename_i he
          exact ⟨false, (C.wd.exm _ _ _ he).1, (fun z => nomatch z), fun _ => o' ψ M τ .refl R' F'⟩
        · exact False.elim o'
    | cons d bb r =>
      simp only [mHds] at hh
      split at hh <;> try cases hh
      simp only [Bool.and_eq_true] at hh
      exact absurd hh.2.1 hn
end
mutual
theorem sS {P : Pg} {G : Gam} {T : Tab2} {call callI : Nat → List Val → Mem → Res Ret} {k : Nat} : ∀ (s : Sm) {c : SC} {X : Cx} {W : WX} (C : CtxS P G T c X call callI W k) (x : Stmt), mS G c s x = true → SS P T X call callI W s x
  | .asg tg e, c, X, W, C, x, h => by
    simp only [mS] at h
    split at h <;> try cases h
    split at h
    · split at h <;> try cases h
      rename_i elt gs scope p2 _ _ y py i
      simp only [Bool.and_eq_true, Bool.or_eq_true, Bool.not_eq_true', decide_eq_true_eq] at h
      obtain ⟨⟨h1, h2⟩, h3⟩ := h
      by_cases hw : swB c y py p2 scope = true
      · obtain ⟨hk, hcm⟩ : c.sc.kind = .function ∧ isComp e = true := by
          rcases h3 with h3 | h3
          · rw [hw] at h3; cases h3
          · exact h3
        cases e <;> simp only [isComp, Bool.false_eq_true] at hcm
        · rename_i az
          cases az <;> simp only [isComp, Bool.false_eq_true] at hcm
          rename_i tg2 it cond e2
          simp only [mE, mA, Bool.and_eq_true] at h2
          split at h2 <;> try cases h2
          rename_i heq
          cases heq
          simp only [Bool.and_eq_true] at h2
          obtain ⟨⟨⟨⟨⟨g1, g2⟩, g3⟩, g4⟩, g5⟩, g6⟩ := h2
          exact s_lc C.toCtx h1 hk hw g1 g3 g4 (sI it C.toCtx _ _ g2) (fun X' C' => sE e2 C' _ g5) (fun X' C' => sOT cond C' _ g6) fun D σ H o => az_tA ((r_asg o).mono fun x H1 hg => gT_name hg)
        · rename_i az
          cases az <;> simp only [isComp, Bool.false_eq_true] at hcm
          rename_i tg2 it cond e2
          simp only [mE, mA, Bool.and_eq_true] at h2
          split at h2 <;> try cases h2
          rename_i heq
          cases heq
          simp only [Bool.and_eq_true] at h2
          obtain ⟨⟨⟨⟨⟨g1, g2⟩, g3⟩, g4⟩, g5⟩, g6⟩ := h2
          exact s_lc C.toCtx h1 hk hw g1 g3 g4 (sI it C.toCtx _ _ g2) (fun X' C' => sE e2 C' _ g5) (fun X' C' => sOT cond C' _ g6) fun D σ H o => hp_tA ((r_asg o).mono fun x H1 hg => gT_name hg)
      · exact s_asgC C.toCtx h1 (by simpa using hw) (sE e C.toCtx _ h2)
    · simp only [Bool.and_eq_true] at h
      exact s_asg C.toCtx h.1.1.1 h.1.1.2 h.1.2 (sE e C.toCtx _ h.2)
  | .asgT as e, c, X, W, C, x, h => by
    simp only [mS] at h
    split at h <;> try cases h
    simp only [Bool.and_eq_true] at h
    obtain ⟨⟨⟨h1, h2⟩, h3⟩, h4⟩ := h
    exact s_asgT C.toCtx h1 h3 h2 (sE e C.toCtx _ h4)
  | .own i a, c, X, W, C, x, h => by
    simp only [mS] at h
    split at h <;> try cases h
    split at h
    · rename_i y py _ _ elt gs scope p2
      simp only [Bool.and_eq_true, Bool.or_eq_true, Bool.not_eq_true', decide_eq_true_eq] at h
      obtain ⟨⟨h1, h2⟩, h3⟩ := h
      by_cases hw : swB c y py p2 scope = true
      · obtain ⟨hk, hcm⟩ : c.sc.kind = .function ∧ isCompA a = true := by
          rcases h3 with h3 | h3
          · rw [hw] at h3; cases h3
          · exact h3
        cases a <;> simp only [isCompA, Bool.false_eq_true] at hcm
        rename_i tg2 it cond e2
        simp only [mA] at h2
        split at h2 <;> try cases h2
        rename_i heq
        cases heq
        simp only [Bool.and_eq_true] at h2
        obtain ⟨⟨⟨⟨⟨g1, g2⟩, g3⟩, g4⟩, g5⟩, g6⟩ := h2
        exact s_lc C.toCtx h1 hk hw g1 g3 g4 (sI it C.toCtx _ _ g2) (fun X' C' => sE e2 C' _ g5) (fun X' C' => sOT cond C' _ g6) fun D σ H o => r_own o
      · exact s_ownC C.toCtx h1 (by simpa using hw) (sA a C.toCtx _ h2)
    · simp only [Bool.and_eq_true] at h
      exact s_own C.toCtx h.1.1 h.1.2 (sA a C.toCtx _ h.2)
  | .ownA i f a, c, X, W, C, x, h => by
    simp only [mS] at h
    split at h <;> try cases h
    simp only [Bool.and_eq_true, decide_eq_true_eq] at h
    exact s_ownA C.toCtx h.1.1 h.1.2 (sA a C.toCtx _ h.2)
  | .frz _, c, X, W, C, x, h => by simp [mS] at h
  | .padd p e, c, X, W, C, x, h => by
    simp only [mS] at h
    split at h <;> try cases h
    simp only [Bool.and_eq_true, decide_eq_true_eq] at h
    obtain ⟨⟨⟨⟨⟨h1, h2⟩, h3⟩, h4⟩, h5⟩, h6⟩ := h
    subst h1
    exact s_padd C.toCtx h2 h4 h5 h6 h3 (sE e C.toCtx _ h6)
  | .forD p tg e b, c, X, W, C, x, h => by
    simp only [mS] at h
    split at h <;> try cases h
    simp only [Bool.and_eq_true] at h
    exact s_forD C h.1.1 h.1.2 (sSs b C _ h.2)
  | .forF r tg i f b, c, X, W, C, x, h => by
    simp only [mS] at h
    split at h <;> try cases h
    simp only [Bool.and_eq_true] at h
    exact s_forF C h.1.1 h.1.2 (sSs b C _ h.2)
  | .papp p e, c, X, W, C, x, h => by
    simp only [mS] at h
    split at h <;> try cases h
    simp only [Bool.and_eq_true, decide_eq_true_eq] at h
    obtain ⟨⟨⟨⟨⟨h1, h2⟩, h3⟩, h4⟩, h5⟩, h6⟩ := h
    subst h1
    exact s_papp C.toCtx h2 h3 h4 h6 h5 (sE e C.toCtx _ h6)
  | .pext p e, c, X, W, C, x, h => by
    simp only [mS] at h
    split at h <;> try cases h
    simp only [Bool.and_eq_true, decide_eq_true_eq] at h
    obtain ⟨⟨⟨⟨⟨h1, h2⟩, h3⟩, h4⟩, h5⟩, h6⟩ := h
    subst h1
    exact s_pext C.toCtx h2 h3 h4 h6 h5 (sE e C.toCtx _ h6)
  | .pset p i e, c, X, W, C, x, h => by
    simp only [mS] at h
    split at h <;> try cases h
    simp only [Bool.and_eq_true] at h
    obtain ⟨⟨⟨h1, h2⟩, h3⟩, h4⟩ := h
    exact s_pset C.toCtx h1 h2 h3 (sE i C.toCtx _ h3) (sE e C.toCtx _ h4)
  | .pdel p i, c, X, W, C, x, h => by
    simp only [mS] at h
    split at h <;> try cases h
    simp only [Bool.and_eq_true] at h
    obtain ⟨⟨h1, h2⟩, h3⟩ := h
    exact s_pdel C.toCtx h1 h2 h3 (sE i C.toCtx _ h3)
  | .retA a, c, X, W, C, x, h => by
    simp only [mS] at h
    split at h <;> try cases h
    refine psI (ps_ret (sA a C.toCtx _ h)) fun D σ H o => ?_
    refine (tS.lift (R1 := RA X.K T.toTab) (k := fun fr c h1 => match c with
      | .lst xs => .ok (.rt (.f xs)) fr h1
      | _ => .bad) o).mono fun u H1 ⟨x, φ, h1, fr, R, F, q, o1⟩ => ?_
    cases x <;> simp only [] at o1 <;> try exact o1.elim
    exact okS.rt o1 R q
  | .retO i, c, X, W, C, x, h => by
    simp only [mS] at h
    split at h <;> try cases h
    refine psI (ps_ret (C.toCtx.var h)) fun D σ H ⟨φ, h, fr, R, F, o⟩ => ?_
    simp only [ex] at o
    split at o <;> try exact o.elim
    rename_i xs ei
    obtain ⟨a, u, es, hm, hu, rc⟩ := F.o i _ ei
    exact ⟨.ref a, es, okS.rt (okS.ext o (sideS (χ := φ.delM a) rfl rfl rfl)) (R.delM a) (R.takeR hm hu rc)⟩
  | .asgA o f e, c, X, W, C, x, h => by
    simp only [mS] at h
    split at h <;> try cases h
    simp only [Bool.and_eq_true, decide_eq_true_eq] at h
    exact s_asgA C.toCtx h.1.1 (sE o C.toCtx _ h.1.2) (sE e C.toCtx _ h.2)
  | .asgI o i e, c, X, W, C, x, h => by
    simp only [mS] at h
    split at h <;> try cases h
    simp only [Bool.and_eq_true] at h
    exact s_asgI C.toCtx (sE o C.toCtx _ h.1.1) (sE i C.toCtx _ h.1.2) (sE e C.toCtx _ h.2)
  | .augA o f sub e, c, X, W, C, x, h => by
    simp only [mS] at h
    split at h <;> try cases h
    rename_i l n p op y pos
    simp only [Bool.and_eq_true, decide_eq_true_eq] at h
    obtain ⟨⟨⟨h1, h2⟩, h3⟩, h4⟩ := h
    have eo : op = augOp sub := by cases op <;> cases sub <;> first | rfl | (simp [isSub] at h2)
    subst eo
    exact s_augA C.toCtx h1 (sE o C.toCtx _ h3) (sE e C.toCtx _ h4)
  | .exp e, c, X, W, C, x, h => by
    simp only [mS] at h
    split at h <;> try cases h
    simp only [Bool.and_eq_true] at h
    refine psI (ps_expr (sE e C.toCtx _ h.2) (swaps_of h.1 _ _ _)) fun D σ H o => ?_
    exact (tS.lift (R1 := RV X.K T.toTab) (k := fun fr _ h1 => .ok .nx fr h1) o).mono fun u H1 ⟨x, φ, h1, fr, R, F, q, o1⟩ => okS.nx o1 R F
  | .ret e, c, X, W, C, x, h => by
    simp only [mS] at h
    split at h <;> try cases h
    refine psI (ps_ret (sE e C.toCtx _ h)) fun D σ H o => ?_
    exact (tS.lift (R1 := RV X.K T.toTab) (k := fun fr v h1 => .ok (.rt (.v v)) fr h1) o).mono fun u H1 ⟨x, φ, h1, fr, R, F, q, o1⟩ => okS.rt o1 R q
  | .retN, c, X, W, C, x, h => by
    simp only [mS] at h
    split at h <;> try cases h
    exact psI ps_retN fun D σ H ⟨φ, h, fr, R, F, o⟩ => okS.rt (v := .v .non) o R rfl
  | .ite t a b, c, X, W, C, x, h => by
    simp only [mS] at h
    split at h <;> try cases h
    simp only [Bool.and_eq_true] at h
    refine psI (ps_if (sT t C.toCtx _ h.1.1) (sSs a C _ h.1.2) (sSs b C _ h.2)) fun D σ H o => ?_
    refine (tS.lift (R1 := RB) (k := fun fr t h1 => if t then exs P call callI a fr h1 else exs P call callI b fr h1) o).mono fun u H1 ⟨x, φ, h1, fr, R, F, q, o1⟩ => ?_
    obtain rfl : u = x := q
    cases u with
    | true => exact ⟨φ, h1, fr, R, F, o1⟩
    | false => exact ⟨φ, h1, fr, R, F, o1⟩
  | .whl t b, c, X, W, C, x, h => by
    simp only [mS] at h
    split at h <;> try cases h
    simp only [Bool.and_eq_true] at h
    exact s_whl C (sT t C.toCtx _ h.1) (sSs b C _ h.2)
  | .for tg it b, c, X, W, C, x, h => by
    simp only [mS] at h
    split at h <;> try cases h
    simp only [Bool.and_eq_true] at h
    exact s_for C h.1.1.1 h.1.1.2 (sI it C.toCtx _ _ h.1.2) (sSs b C _ h.2)
  | .raise d, c, X, W, C, x, h => by
    simp only [mS] at h
    split at h <;> try cases h
    simp only [Bool.and_eq_true, decide_eq_true_eq] at h
    exact s_raise C h.1.1 h.1.2 h.2
  | .try b hs, c, X, W, C, x, h => by
    simp only [mS] at h
    split at h <;> try cases h
    simp only [Bool.and_eq_true] at h
    exact s_try C (fun X' W' _ _ C' => sSs b C' _ h.1) h.2
  | .pass, c, X, W, C, x, h => by
    simp only [mS] at h
    split at h <;> try cases h
    · exact psI ps_pass fun D σ H ⟨φ, h, fr, R, F, o⟩ => okS.nx o R F
    · exact psI ps_doc fun D σ H ⟨φ, h, fr, R, F, o⟩ => okS.nx o R F
  | .brk, c, X, W, C, x, h => by
    simp only [mS] at h
    split at h <;> try cases h
    exact psI ps_break fun D σ H ⟨φ, h, fr, R, F, o⟩ => o φ H σ .refl R F
  | .cnt, c, X, W, C, x, h => by
    simp only [mS] at h
    split at h <;> try cases h
    exact psI ps_continue fun D σ H ⟨φ, h, fr, R, F, o⟩ => o φ H σ .refl R F
  | .del o i, c, X, W, C, x, h => by
    simp only [mS] at h
    split at h <;> try cases h
    simp only [Bool.and_eq_true] at h
    exact s_del C.toCtx (sE o C.toCtx _ h.1) (sE i C.toCtx _ h.2)
theorem sSs {P : Pg} {G : Gam} {T : Tab2} {call callI : Nat → List Val → Mem → Res Ret} {k : Nat} : ∀ (s : Sms) {c : SC} {X : Cx} {W : WX} (C : CtxS P G T c X call callI W k) (x : List Stmt), mSs G c s x = true → SSs P T X call callI W s x
  | .nil, c, X, W, C, x, h => by
    simp only [mSs] at h
    split at h <;> try cases h
    exact pssI pss_nil fun D σ H ⟨φ, h, fr, R, F, o⟩ => okS.nx o R F
  | .cons s ss, c, X, W, C, x, h => by
    simp only [mSs, Bool.or_eq_true, Bool.and_eq_true] at h
    rcases h with ⟨hz, h⟩ | h
    · cases s <;> simp only [isFrz, Bool.false_eq_true] at hz
      rename_i i
      refine pssI (sSs ss C _ h) fun D σ H ⟨φ, h, fr, R, F, o⟩ => ?_
      simp only [exs, ex] at o
      cases hi : fr[i]? with
      | none => rw [hi] at o; exact o.elim
      | some sl =>
        rw [hi] at o
        cases sl with
        | e => exact o.elim
        | v _ => exact o.elim
        | o cc =>
          simp only [] at o
          cases hv : cVal cc with
          | none => rw [hv] at o; exact o.elim
          | some v =>
            rw [hv] at o
            obtain ⟨a, u, es, hm, hu, rc⟩ := F.o i _ hi
            obtain ⟨ω, e2, R2, q2⟩ := (R.takeR hm hu rc).frz (R.delM a) hv
            have F2 := ((F.take i hi es).mono e2).set q2 i
            have eS : ExtS φ H ω H := (sideS (φ := φ) (χ := φ.delM a) rfl rfl rfl).trans e2.toExtS
            have eσ : σ.set i (some (.ref a)) = σ := by
              apply List.ext_getElem?
              intro j
              by_cases hj : i = j
              · subst hj
                rw [List.getElem?_set_self (List.getElem?_eq_some_iff.mp es).1, es]
              · rw [List.getElem?_set_ne hj]
            rw [eσ] at F2
            have ef : (fr.set i .e).set i (.v v) = fr.set i (.v v) := by rw [List.set_set]
            rw [ef] at F2
            exact ⟨ω, h, _, R2, F2, okS.ext (r := exs P call callI ss (fr.set i (.v v)) h) o eS⟩
    split at h <;> try cases h
    simp only [Bool.and_eq_true] at h
    refine pssI (pss_cons (sS s C _ h.1) (sSs ss C _ h.2)) fun D σ H ⟨φ, h, fr, R, F, o⟩ => ?_
    refine ⟨φ, h, fr, R, F, ?_⟩
    simp only [exs] at o
    cases hr : ex P call callI s fr h with
    | ok f fr1 h1 =>
      rw [hr] at o
      cases f with
      | nx => exact fun ψ M τ e2 R2 F2 => ⟨ψ, h1, fr1, R2, F2, okS.ext (r := exs P call callI ss fr1 h1) o e2⟩
      | rt v => exact o
      | bk => exact o
      | ct => exact o
    | exc c fr1 h1 => rw [hr] at o; exact o
    | bad => rw [hr] at o; exact o
end
end PyI
namespace PyI
open PySem PySem.Spec PyProof.Rows L2
/-! ### the whole program -/
def FnsK (P : Pg) (T : Tab2) (p : Program) (w : World) (K : PySem.W.Frag) (mg : Str → Option Value) (base : Heap) (k : Nat) (call : Nat → List Val → Mem → Res Ret) : Prop :=
  ∀ i F, P.fn i = some F → FnOk p w K mg base (CX p w) k (T.fn i) (T.fd i) (T.ps i) (spR K T.toTab (call i))
structure FnF (P : Pg) (G : Gam) (T : Tab2) (K : PySem.W.Frag) : Prop where
  fn : ∀ (i : Nat) (F : Fn), P.fn i = some F → ∃ (x qual : Str) (st : Stmt) (N : List Str), Fun K x qual st (T.fn i) (T.fd i) ∧ FnScope N (T.ps i) (defScope st) ∧ (T.ps i).length = F.np ∧ N.length = F.ns ∧
    mSs G ⟨N, defScope st, true⟩ F.body (defBody st) = true
theorem start_no {F : Fn} {vs : List Val} {i : Nat} {c : Con} (e : (PyI.start F vs)[i]? = some (.o c)) : False := by
  unfold PyI.start at e
  by_cases hi : i < vs.length
  · rw [List.getElem?_append_left (by simpa using hi), List.getElem?_map] at e
    obtain ⟨u, eu, ev⟩ := Option.map_eq_some_iff.mp e
    cases ev
  · rw [List.getElem?_append_right (by simpa using hi)] at e
    have := List.mem_of_getElem? e
    simp at this
theorem RFr.start {K : PySem.W.Frag} {T : Tab} {φ : Ix} {H : L2.Hp} {F : Fn} {N : List Str} {vs : List Val} {xs : List V} (q : RVs K T φ H vs xs) (hn : N.length = F.ns) : RFr K T φ H (PyI.start F vs) (L2.start N xs) := by
  refine ⟨?_, fun i v e => ?_, fun i c e => (start_no e).elim, fun i j c d a _ e => (start_no e).elim⟩
  · unfold PyI.start L2.start
    rw [q.length, hn]
    simp [q.length]
  · unfold PyI.start at e
    unfold L2.start
    rw [q.length, hn]
    by_cases hi : i < vs.length
    · rw [List.getElem?_append_left (by simpa using hi)] at e
      rw [List.getElem?_append_left (by simpa [q.length] using hi)]
      rw [List.getElem?_map] at e
      obtain ⟨u, eu, ev⟩ := Option.map_eq_some_iff.mp e
      cases ev
      obtain ⟨x, ex, rx⟩ := q.get eu
      exact ⟨x, by rw [List.getElem?_map, ex]; rfl, rx⟩
    · rw [List.getElem?_append_right (by simpa using hi)] at e
      have := List.mem_of_getElem? e
      simp at this
section
variable {K : PySem.W.Frag} {T : Tab} {φ ψ : Ix} {H G : L2.Hp} {h : Mem} {Q : VK} {E : XK}
/-- the locals' own are gone -/
def Ix.noM (φ : Ix) : Ix := { φ with M := fun _ => False }
theorem ext_noM (e : ExtS φ.call H ψ G) : Ext φ.call H ψ.noM G := { pre := e.pre, eS := e.eS, eL := e.eL, tup := e.tup, keL := e.keL, keS := e.keS, eM := rfl, keM := fun _ q => q.elim, fz := e.fz, eW := e.eW }
theorem Rel.noM (R : Rel K T ψ G h) : Rel K T ψ.noM G h := R.side rfl rfl rfl (fun a q => R.iS a q) fun a q => q.elim
theorem RR.noM : ∀ {r : Ret} {x : V}, RR K T ψ G r x → RR K T ψ.noM G r x
  | .v v, x, q => RV.monoV (ve_side (φ := ψ) (ψ := ψ.noM) rfl rfl) _ _ q
  | .f xs, x, q => by
    obtain ⟨a, u, ex, fr, hu, q⟩ := q
    exact ⟨a, u, ex, ⟨fr.tr, fr.L, fr.S, fun z => z⟩, hu, RCo.monoV (ve_side (φ := ψ) (ψ := ψ.noM) rfl rfl) q⟩
theorem fin_S {r : SR} (o : okR K T (RR K T) φ.call H Q (fun c G => E (T.exn c) none G) (fin r)) : okS K T φ.call H { nx := fun _ H' => Q .non H', rt := Q } (fun cls d _ H => E cls d H) r := by
  cases r with
  | ok f fr h =>
    cases f with
    | nx => exact fun ψ G σ e R F => o ψ.noM G .non (ext_noM e) R.noM rfl
    | rt v => exact fun ψ G x e R q => o ψ.noM G x (ext_noM e) R.noM q.noM
    | bk => exact False.elim o
    | ct => exact False.elim o
  | exc c fr h => exact fun ψ G σ e R F => o ψ.noM G (ext_noM e) R.noM
  | bad => exact o
end
theorem argsF_nil {F : Fn} {vs ws : List Val} (e : argsF F vs = some ws) : ws = vs ∧ vs.length = F.np := by
  unfold argsF at e
  split at e
  · rename_i h
    cases e
    exact ⟨rfl, h⟩
  · cases e
theorem fns_ok {P : Pg} {G : Gam} {T : Tab2} {p : Program} {w : World} {K : PySem.W.Frag} {mg : Str → Option Value} {base : Heap} (hw : Wd P G T K mg) (htw : T.w = w) (hF : FnF P G T K) : ∀ k, FnsK P T p w K mg base k (run P k) ∧ FnsK P T p w K mg base (k + 1) (run P (k + 1))
  | 0 => by
    refine ⟨fun i F hi => ⟨fun vs H Q E h => ?_, fun A outer s H args us vs Q E _ _ _ _ h => ?_⟩, fun i F hi => ⟨fun vs H Q E h => ?_, fun A outer s H args us vs Q E _ _ _ _ h => ?_⟩⟩
    all_goals
      obtain ⟨φ, h, vs, R, q, o⟩ := h
      exact False.elim o
  | k + 1 => by
    obtain ⟨ih1, ih2⟩ := fns_ok (p := p) (w := w) (base := base) hw htw hF k
    refine ⟨ih2, fun i F hi => ?_⟩
    obtain ⟨x, qual, st, N, fu, S, hp, hn, hm⟩ := hF.fn i F hi
    have inv : ∀ {vs : List V} {H : L2.Hp} {Q : VK} {E : XK}, spR K T.toTab (run P (k + 2) i) vs H Q E → ∃ (φ : Ix) (h : Mem) (us : List Val), Rel K T.toTab φ.call H h ∧ RVs K T.toTab φ.call H us vs ∧ us.length = F.np ∧
        okR K T.toTab (RR K T.toTab) φ.call H Q (fun c G => E (T.exn c) none G) (fin (exs P (run P (k + 1)) (run P k) F.body (PyI.start F us) h)) := fun {vs H Q E} q => by
      obtain ⟨φ, h, us, R, r, o⟩ := q
      unfold run at o
      rw [hi] at o
      simp only [] at o
      split at o
      · rename_i ws ha
        obtain ⟨rfl, hl⟩ := argsF_nil ha
        exact ⟨φ, h, ws, R.call, r.monoV call_ve _ _, hl, o.call R⟩
      · exact False.elim o
    refine fu.okX S (fun vs H Q E q => ?_) fun cdv A outer s H vs Q E hr q => ?_
    · obtain ⟨φ, h, us, R, r, hl, o⟩ := inv q
      rw [r.length, hl, hp]
    · obtain ⟨φ, h, us, R, r, hl, o⟩ := inv q
      have C : CtxS P G T ⟨N, defScope st, true⟩ (cxOf (L2.CX p w) p w K mg base N qual (defScope st) (T.fn i) cdv A outer s H E) (run P (k + 1)) (run P k) (fun cls d _ H => E cls d H) (k + 1) :=
        { N := rfl, nd := S.nd, sc := rfl, calm := rfl, room := hr, wd := hw, tw := htw, call := ih2, callI := ⟨k, Nat.le_refl _, ih1⟩, tk := takes_of rfl rfl rfl rfl, fnt := fun _ => rfl, own := passes_of rfl, stk := rfl, frm := rfl }
      exact ⟨_, sSs F.body C _ hm, φ.call, h, PyI.start F us, R, RFr.start r hn, fin_S o⟩
/-! ### a law's end -/
def memAll {α : Type} (R : α → Prop) : List α → Prop
  | [] => True
  | x :: xs => R x ∧ memAll R xs
theorem memAll.get {α : Type} {R : α → Prop} : ∀ {xs : List α}, memAll R xs → ∀ x ∈ xs, R x
  | [], _, x, h => nomatch h
  | y :: ys, h, x, hx => by
    rcases List.mem_cons.mp hx with rfl | hx
    · exact h.1
    · exact memAll.get h.2 x hx
theorem memAll.look {α β : Type} [BEq α] [LawfulBEq α] {R : α × β → Prop} : ∀ {xs : List (α × β)}, memAll R xs → ∀ m g, xs.lookup m = some g → R (m, g)
  | [], _, m, g, h => by simp at h
  | (a, b) :: ys, h, m, g, hx => by
    rw [List.lookup_cons] at hx
    by_cases e : m = a
    · subst e
      simp only [beq_self_eq_true] at hx
      cases hx
      exact h.1
    · have : (m == a) = false := by simpa using e
      rw [this] at hx
      exact memAll.look h.2 m g hx
/-- the table of errors: e, d, whether e is a d -/
theorem exc_tab {R : Nat → Nat → Bool → Prop} {tab : List (Nat × List (Nat × Bool))} (h : memAll (fun p => memAll (fun q => R p.1 q.1 q.2) p.2) tab) : ∀ e d b, excT tab e d = some b → R e d b := fun e d b hb => by
  unfold excT at hb
  obtain ⟨row, h1, h2⟩ := Option.bind_eq_some_iff.mp hb
  exact memAll.look (memAll.look h e row h1) d b h2
def RseF (K : PySem.W.Frag) (mg : Str → Option Value) (T : Tab2) (d : Nat) (x : Str) : Prop := ∃ A B newId initId bmB, T.exn d = .ref A ∧ mg x = some (.ref A) ∧ PySem.W.keepIn K (.ref A) = true ∧ ExcBaseFacts B newId initId bmB ∧ PySem.W.excIn K A bmB newId = true ∧
  PySem.W.subIn K (.ref A) (.type "BaseException") = some true ∧ PySem.W.typeIn K (.ref A) = some (.type "type")
theorem exv_own (a : Addr) : ∃ u, RelV u (Value.ref a) ∧ ∀ z, RelV u z → z = Value.ref a := ⟨.ref a, rfl, fun z h => h⟩
theorem exv_ty (s : String) : ∃ u, RelV u (Value.type s) ∧ ∀ z, RelV u z → z = Value.type s := ⟨.ty s, rfl, fun z h => h⟩
/-- names -/
def nmF (l : List (Nat × Str)) (i : Nat) : Str := (l.lookup i).getD ⟨Array.replicate (1000 + i) 0⟩
def nmsOk (l : List (Nat × Str)) : Bool := decide (l.map (·.2)).Nodup && l.all fun x => decide (x.2.length < 1000)
theorem look_mem {α : Type} {i : Nat} {x : α} : ∀ {l : List (Nat × α)}, l.lookup i = some x → (i, x) ∈ l
  | [], h => by simp at h
  | (a, b) :: l, h => by
    rw [List.lookup_cons] at h
    by_cases e : i = a
    · subst e
      simp only [beq_self_eq_true, Option.some.injEq] at h
      subst h; simp
    · have : (i == a) = false := by simpa using e
      rw [this] at h
      exact List.mem_cons_of_mem _ (look_mem h)
theorem nodup_snd {i j : Nat} {x : Str} : ∀ {l : List (Nat × Str)}, (l.map (·.2)).Nodup → (i, x) ∈ l → (j, x) ∈ l → i = j
  | [], _, h, _ => nomatch h
  | p :: l, nd, h1, h2 => by
    simp only [List.map_cons, List.nodup_cons] at nd
    rcases List.mem_cons.mp h1 with e1 | h1
    · rcases List.mem_cons.mp h2 with e2 | h2
      · rw [← e1] at e2; cases e2; rfl
      · exact absurd (List.mem_map.mpr ⟨_, h2, by rw [← e1]⟩) nd.1
    · rcases List.mem_cons.mp h2 with e2 | h2
      · exact absurd (List.mem_map.mpr ⟨_, h1, by rw [← e2]⟩) nd.1
      · exact nodup_snd nd.2 h1 h2
theorem nmF_inj {l : List (Nat × Str)} (h : nmsOk l = true) (i j : Nat) (e : nmF l i = nmF l j) : i = j := by
  unfold nmsOk at h
  simp only [Bool.and_eq_true, decide_eq_true_eq, List.all_eq_true] at h
  obtain ⟨h1, h2⟩ := h
  have big : ∀ k, (⟨Array.replicate (1000 + k) 0⟩ : Str).length = 1000 + k := fun k => by simp [Str.length]
  unfold nmF at e
  cases hi : l.lookup i with
  | none =>
    cases hj : l.lookup j with
    | none =>
      rw [hi, hj] at e
      have := congrArg Str.length e
      simp only [Option.getD_none, big] at this
      omega
    | some y =>
      rw [hi, hj] at e
      have := congrArg Str.length e
      have b := h2 _ (look_mem hj)
      simp only [Option.getD_none, Option.getD_some, big] at this b
      omega
  | some x =>
    cases hj : l.lookup j with
    | none =>
      rw [hi, hj] at e
      have := congrArg Str.length e
      have b := h2 _ (look_mem hi)
      simp only [Option.getD_none, Option.getD_some, big] at this b
      omega
    | some y =>
      rw [hi, hj] at e
      simp only [Option.getD_some] at e
      subst e
      exact nodup_snd h1 (look_mem hi) (look_mem hj)
theorem nmF_of {l : List (Nat × Str)} {i : Nat} {x : Str} (h : l.lookup i = some x) : nmF l i = x := by unfold nmF; rw [h]; rfl
def mkT (w : World) (cls : List (Nat × Addr)) (exn : List (Nat × Value)) (fn : List (Nat × Addr)) (nms : List (Nat × Str)) (d : FuncData) (fd : List (Nat × FuncData)) (ps : List (Nat × List Str)) (h : nmsOk nms = true) : Tab2 where
  cls := fun i => (cls.lookup i).getD 0
  exn := fun i => (exn.lookup i).getD .none
  fn := fun i => (fn.lookup i).getD 0
  nm := nmF nms
  w := w
  fd := fun i => (fd.lookup i).getD d
  ps := fun i => (ps.lookup i).getD []
  inj := nmF_inj h
/-- a constant of the text's top as the model has it -/
def konV : Val → Value → Bool
  | .non, .none => true
  | .bl b, .bool c => b == c
  | .int i, .int j _ => decide (i = j)
  | .str s, .str x _ => decide (toStr s = x)
  | _, _ => false
theorem konV_of {v : Val} {u : Value} (h : konV v u = true) : ∃ y, RelV y u ∧ ∀ (K : PySem.W.Frag) (T : Tab) φ H, RV K T φ H v y := by
  cases v <;> cases u <;> simp only [konV, Bool.false_eq_true, decide_eq_true_eq, beq_iff_eq] at h
  · exact ⟨.non, rfl, fun _ _ _ _ => rfl⟩
  · subst h; exact ⟨.bl _, rfl, fun _ _ _ _ => rfl⟩
  · subst h; exact ⟨.int _, ⟨_, rfl⟩, fun _ _ _ _ => rfl⟩
  · subst h; exact ⟨.str _, ⟨_, rfl⟩, fun _ _ _ _ => rfl⟩
def konVs : List Val → List Value → Bool
  | [], [] => true
  | v :: vs, u :: us => konV v u && konVs vs us
  | _, _ => false
theorem konVs_of : ∀ {vs : List Val} {us : List Value}, konVs vs us = true → ∃ ys, Vals ys us ∧ ∀ (K : PySem.W.Frag) (T : Tab) φ H, RVs K T φ H vs ys
  | [], [], _ => ⟨[], .nil, fun _ _ _ _ => rfl⟩
  | [], _ :: _, h => by simp [konVs] at h
  | _ :: _, [], h => by simp [konVs] at h
  | v :: vs, u :: us, h => by
    simp only [konVs, Bool.and_eq_true] at h
    obtain ⟨y, r, q⟩ := konV_of h.1
    obtain ⟨ys, rs, qs⟩ := konVs_of h.2
    exact ⟨y :: ys, .cons r rs, fun K T φ H => ⟨y, ys, rfl, q K T φ H, qs K T φ H⟩⟩
def tupIs (its : Array Value) (vs : List Val) : Bool := decide (its.size ≤ sizeLine) && konVs vs its.toList
theorem kon_of {K : PySem.W.Frag} {T : Tab} {mg : Str → Option Value} {x : Str} {u : Value} {v : Val} (h : mg x = some u) (c : konV v u = true) {P : Pg} {g : Nat} (e : P.kn g = some v) : ∃ v u y, P.kn g = some v ∧ mg x = some u ∧ RelV y u ∧ ∀ φ H, RV K T φ H v y := by
  obtain ⟨y, r, q⟩ := konV_of c
  exact ⟨v, u, y, e, h, r, fun φ H => q K T φ H⟩
theorem kon_tup {K : PySem.W.Frag} {T : Tab} {mg : Str → Option Value} {x : Str} {a : Addr} {vs : List Val} {od : Option Addr} {its : Array Value} {n : Nat} {sl : Array (Option Value)} (h : mg x = some (.ref a)) (l : K.lookup a = some ⟨.type "tuple", od, .seq its n, sl⟩) (c : tupIs its vs = true) {P : Pg} {g : Nat} (e : P.kn g = some (.ktp vs)) :
    ∃ v u y, P.kn g = some v ∧ mg x = some u ∧ RelV y u ∧ ∀ φ H, RV K T φ H v y := by
  unfold tupIs at c
  simp only [Bool.and_eq_true, decide_eq_true_eq] at c
  obtain ⟨ys, r, q⟩ := konVs_of c.2
  exact ⟨.ktp vs, .ref a, .ref a, e, h, rfl, fun φ H => ⟨a, ys, rfl, ⟨_, its, n, l, rfl, rfl, c.1, r⟩, q K T φ H⟩⟩
/-- a method with one keyword-only parameter -/
theorem kwd_mk {K : PySem.W.Frag} {st : Stmt} {x qual kw : Str} {i : Int} {f D : Addr} {u : Value} {oc doc pm cdv ct : Value} {od an : Option Addr} {osl : Array (Option Value)} (l : K.lookup f = some ⟨oc, od, .func (PySem.W.fnOf x qual (defArgs st) (defBody st) (defScope st) .none (.ref D) doc pm an cdv ct), osl⟩)
    (c : PySem.W.codeIn K cdv qual = true) (k : PySem.W.keepIn K (.ref f) = true) (hn : PySem.W.nsIn K D kw = some (some u)) (hv : konV (.int i) u = true) :
    FunD K x qual (defArgs st) (defBody st) (defScope st) [] [(kw, V.int i)] f (PySem.W.fnOf x qual (defArgs st) (defBody st) (defScope st) .none (.ref D) doc pm an cdv ct) := by
  refine ⟨⟨oc, od, .none, .ref D, doc, pm, an, cdv, ct, osl, rfl, l, c, .inl ⟨rfl, rfl⟩, .inr ⟨D, rfl, fun q hq => ?_⟩⟩, k⟩
  rw [List.mem_singleton.mp hq]
  refine ⟨u, hn, ?_⟩
  cases u <;> simp only [konV, Bool.false_eq_true, decide_eq_true_eq] at hv
  subst hv
  exact ⟨_, rfl⟩
theorem kwb_mk {K : PySem.W.Frag} {x qual kw : Str} {params : Arguments} {body : List Stmt} {scope : Scope} {i : Int} {f : Addr} {fd : FuncData} {ps : List Str} (F : FunD K x qual params body scope [] [(kw, V.int i)] f fd) (hl : ps.length = 3)
    (h1 : ∀ (D : Addr) (doc pm : Value) (an : Option Addr) (cdv ct : Value) (a b w : Value), bindArgs (PySem.W.fnOf x qual params body scope .none (.ref D) doc pm an cdv ct) ⟨[a, b], [(kw, w)]⟩ = Pure.pure (ps.zip [a, b, w]))
    (h2 : ∀ (D : Addr) (doc pm : Value) (an : Option Addr) (cdv ct : Value) (a b w : Value), KwChain D [(kw, w)] (bindArgs (PySem.W.fnOf x qual params body scope .none (.ref D) doc pm an cdv ct) ⟨[a, b], []⟩) (ps.zip [a, b, w])) : KwB K fd ps kw i where
  kb := by
    obtain ⟨mv, h⟩ := F.kbinds0 (ps := ps) 2 [kw] [] (fun us _ ws => us ++ ws) (by simp) (by simp) (fun r1 _ r3 => r1.append r3) (fun D doc pm an cdv ct us mv ws l1 l2 l3 => by
      match us, ws, l1, l3 with
      | [a, b], [w], _, _ => exact h1 D doc pm an cdv ct a b w)
    exact h
  df := by
    obtain ⟨ds, hv, hb⟩ := F.binds0 (ps := ps) 2 (by simp) (by simp [hl]) fun D doc pm an cdv ct us ks l1 l2 => by
      match us, ks, l1, l2 with
      | [a, b], [w], _, _ => exact h2 D doc pm an cdv ct a b w
    exact ⟨ds, hv, hb⟩
/-- the law's promise -/
def LawL (K : PySem.W.Frag) (H : L2.Hp) (a : Addr) (vs : List V) : Prop := (∃ o, H a = some (.frz o (.lst vs))) ∨ ∃ (o : Obj) (its : Array Value) (n : Nat), K.lookup a = some o ∧ o.cls = .type "list" ∧ o.dict = none ∧ o.data = .seq its n ∧ its.size ≤ sizeLine ∧ Vals vs its.toList
def spLaw (n : Nat) (K : PySem.W.Frag) : Sp := fun vs H Q _ => ∃ (a : Addr) (ns : List Int), vs = [.ref a] ∧ LawL K H a (ns.map V.int) ∧ ns.length ≤ n ∧ ∀ H', Q (.bl true) H'
theorem law_ok {P : Pg} {G : Gam} {T : Tab2} {p : Program} {w : World} {K : PySem.W.Frag} {mg : Str → Option Value} {base : Heap} {k n i : Nat} {F : Fn} (hi : P.fn i = some F) (hw : Wd P G T K mg) (htw : T.w = w) (hF : FnF P G T K)
    (plain : ∀ ns : List Int, ns.length ≤ n → ∃ h, run P k i [.kls (ns.map .int)] [] = .ok (.v (.bl true)) h) : FnOk p w K mg base (CX p w) k (T.fn i) (T.fd i) (T.ps i) (spLaw n K) := by
  refine ((fns_ok (p := p) (w := w) (base := base) hw htw hF k).1 i F hi).imp fun vs H Q E ⟨a, ns, e1, e2, e3, e4⟩ => ?_
  subst e1
  obtain ⟨h, hr⟩ := plain ns e3
  let φ : Ix := { c := [], o := fun _ _ => none, L := fun b => b = a ∧ H a ≠ none, S := fun _ => False, M := fun _ => False, w := fun _ _ => none }
  have nt : ∀ b, ¬ φ.tr b := fun b z => by
    rcases z with z | ⟨_, _, z⟩
    · simp [φ] at z
    · simp [φ] at z
  have R : Rel K T.toTab φ H [] := ⟨rfl, List.nodup_nil, fun _ _ _ z => by simp [φ] at z, fun _ _ _ _ _ z => by simp [φ] at z, fun _ _ _ z => by simp [φ] at z, fun b z => ⟨nt b, by obtain ⟨rfl, z⟩ := z; exact z⟩, fun b z => z.elim, fun b z => z.elim, fun n a o z => by simp [φ] at z⟩
  have q : RV K T.toTab φ H (.kls (ns.map .int)) (.ref a) := by
    refine ⟨a, ns.map V.int, rfl, ?_, RVs.of_ints ns⟩
    rcases e2 with ⟨o, e2⟩ | e2
    · exact .inl ⟨⟨rfl, by rw [e2]; simp⟩, by unfold ct; rw [e2]⟩
    · exact .inr e2
  refine ⟨φ, [], [.kls (ns.map .int)], R, ⟨_, _, rfl, q, rfl⟩, ?_⟩
  rw [hr]
  intro ψ M x ex R q
  rw [show x = _ from q]
  exact e4 M
theorem walk_py {l : PySem.W.OpenLaw} {n k i : Nat} {F0 : Fn} {q : Program} {loose : List Str} {XP : (Str → Option Value) → Heap → Prop} {YP : World → Heap → Prop} {d : DefRec} {K : Params → PySem.W.Frag} {P : Pg} {x : Str}
    (hn : l.most = some n) (hn2 : n ≤ sizeLine) (hdf : d.params.defaults = []) (hr : Room k callerA) (hY : ∀ (w : World) (h : Heap), YP w h → (K w.params).In h) (hi : P.fn i = some F0)
    (plain : ∀ ns : List Int, ns.length ≤ n → ∃ h, run P k i [.kls (ns.map .int)] [] = .ok (.v (.bl true)) h)
    (F : ∀ (w : World) (mg : Str → Option Value) (fa : Addr) (h : Heap), (K w.params).In h → h.Ns mainGlobals mg → mg d.name = some (.ref fa) →
      ∃ (G : Gam) (T : Tab2), T.w = w ∧ Wd P G T (K w.params) mg ∧ FnF P G T (K w.params) ∧ T.fn i = fa ∧ T.ps i = [x] ∧ ∀ (s : Shared) (u : Value), BindsTo s (T.fd i) ⟨[u], []⟩ [(x, u)]) :
    PySem.W.WalkO q loose XP YP l.row.toRowW d [] (fun f vs => PySem.call f vs) := by
  refine walk_of (l := l) (n := n) (k := k) (x := x) (CX := fun w => CX l.prog w) (sp := fun w => spLaw n (K w.params)) hn hn2 hdf hr hY (fun w mg fa h KX G hmg => ?_) (fun w H a ns hl hO hS => ?_) (fun w H s e s' h => ?_)
  · obtain ⟨G', T, htw, hw, hF, e1, e2, hb⟩ := F w mg fa h KX G hmg
    refine ⟨T.fd i, hb, fun base _ _ => ?_⟩
    rw [← e1, ← e2]
    exact law_ok hi hw htw hF plain
  · refine ⟨a, ns, rfl, ?_, hl, fun _ => rfl⟩
    rcases hS with (h | ⟨o, h⟩) | h
    · rcases hO a with z | ⟨o, xs, z⟩
      · rw [z] at h; cases h
      · rw [z] at h; cases h
    · exact .inl ⟨o, h⟩
    · exact .inr h
  · obtain ⟨_, _, _, _, _, _, _, _, _, _, _, _, z⟩ := h
    exact z
end PyI
/-! The programs of PyI without frames: what a block leaves, given the values that it needs. -/
namespace PyI
noncomputable section
/-- what a block leaves: its state, a loop's state at break and continue, what is given back, an error -/
inductive Lo (σ τ : Type) where
  | nx (s : σ) (h : Mem) | bk (s : τ) (h : Mem) | ct (s : τ) (h : Mem) | rt (v : Ret) (h : Mem) | exc (c : Nat) (h : Mem) | bad
section
variable {α σ τ ρ : Type}
def Res.lo (r : Res α) (k : α → Mem → Lo σ τ) : Lo σ τ := match r with
  | .ok a h => k a h
  | .exc c h => .exc c h
  | .bad => .bad
@[simp] theorem Res.lo_ok (a : α) (h : Mem) (k : α → Mem → Lo σ τ) : (Res.ok a h).lo k = k a h := rfl
@[simp] theorem Res.lo_exc (c : Nat) (h : Mem) (k : α → Mem → Lo σ τ) : (Res.exc c h : Res α).lo k = .exc c h := rfl
@[simp] theorem Res.lo_bad (k : α → Mem → Lo σ τ) : (Res.bad : Res α).lo k = .bad := rfl
def Lo.seq (r : Lo σ τ) (k : σ → Mem → Lo ρ τ) : Lo ρ τ := match r with
  | .nx s h => k s h
  | .bk s h => .bk s h
  | .ct s h => .ct s h
  | .rt v h => .rt v h
  | .exc c h => .exc c h
  | .bad => .bad
@[simp] theorem Lo.seq_nx (s : σ) (h : Mem) (k : σ → Mem → Lo ρ τ) : (Lo.nx s h : Lo σ τ).seq k = k s h := rfl
@[simp] theorem Lo.seq_bk (s : τ) (h : Mem) (k : σ → Mem → Lo ρ τ) : (Lo.bk s h : Lo σ τ).seq k = .bk s h := rfl
@[simp] theorem Lo.seq_ct (s : τ) (h : Mem) (k : σ → Mem → Lo ρ τ) : (Lo.ct s h : Lo σ τ).seq k = .ct s h := rfl
@[simp] theorem Lo.seq_rt (v : Ret) (h : Mem) (k : σ → Mem → Lo ρ τ) : (Lo.rt v h : Lo σ τ).seq k = .rt v h := rfl
@[simp] theorem Lo.seq_exc (c : Nat) (h : Mem) (k : σ → Mem → Lo ρ τ) : (Lo.exc c h : Lo σ τ).seq k = .exc c h := rfl
@[simp] theorem Lo.seq_bad (k : σ → Mem → Lo ρ τ) : (Lo.bad : Lo σ τ).seq k = .bad := rfl
def Lo.fin (r : Lo σ τ) : Res Ret := match r with
  | .nx _ h => .ok (.v .non) h
  | .rt v h => .ok v h
  | .exc c h => .exc c h
  | _ => .bad
@[simp] theorem Lo.fin_nx (s : σ) (h : Mem) : (Lo.nx s h : Lo σ τ).fin = .ok (.v .non) h := rfl
@[simp] theorem Lo.fin_rt (v : Ret) (h : Mem) : (Lo.rt v h : Lo σ τ).fin = .ok v h := rfl
@[simp] theorem Lo.fin_exc (c : Nat) (h : Mem) : (Lo.exc c h : Lo σ τ).fin = .exc c h := rfl
@[simp] theorem Lo.fin_bad : (Lo.bad : Lo σ τ).fin = .bad := rfl
/-- the body's state of one turn -/
def forS (t : Itr) (body : Val → σ → Mem → Lo σ σ) : Nat → Nat → σ → Mem → Lo σ τ
  | 0, i, s, h => if t.fin i h then .nx s h else .bad
  | r + 1, i, s, h => match t.at i h with
    | none => .bad
    | some v => match body v s h with
      | .nx s h => forS t body r (i + 1) s h
      | .ct s h => forS t body r (i + 1) s h
      | .bk s h => .nx s h
      | .rt v h => .rt v h
      | .exc c h => .exc c h
      | .bad => .bad
def whlS (c : σ → Mem → Res Bool) (body : σ → Mem → Lo σ σ) : Nat → σ → Mem → Lo σ τ
  | 0, _, _ => .bad
  | n + 1, s, h => match c s h with
    | .ok false h => .nx s h
    | .ok true h => (match body s h with
      | .nx s h => whlS c body n s h
      | .ct s h => whlS c body n s h
      | .bk s h => .nx s h
      | .rt v h => .rt v h
      | .exc c h => .exc c h
      | .bad => .bad)
    | .exc e h => .exc e h
    | .bad => .bad
def compS (t : Itr) (body : Val → Mem → Res (Option Val)) : Nat → Nat → List Val → Mem → Res (List Val)
  | 0, i, acc, h => if t.fin i h then .ok acc h else .bad
  | r + 1, i, acc, h => match t.at i h with
    | none => .bad
    | some v => match body v h with
        | .ok none h => compS t body r (i + 1) acc h
        | .ok (some x) h => if acc.length < szl then compS t body r (i + 1) (acc ++ [x]) h else .bad
        | _ => .bad
def compA (body : Val → Mem → Res (Option Val)) (t : Itr) (h : Mem) : Res (List Val) := compS t body (t.cnt h) 0 [] h
def sm (x : Val) (h : Mem) : Res (Option Val) := .ok (some x) h
/-- what an except clause makes of an error -/
def Lo.try (r : Lo σ τ) (hd : Nat → Mem → Lo σ τ) : Lo σ τ := match r with
  | .exc c h => hd c h
  | r => r
@[simp] theorem Lo.try_nx (s : σ) (h : Mem) (k : Nat → Mem → Lo σ τ) : (Lo.nx s h : Lo σ τ).try k = .nx s h := rfl
@[simp] theorem Lo.try_rt (v : Ret) (h : Mem) (k : Nat → Mem → Lo σ τ) : (Lo.rt v h : Lo σ τ).try k = .rt v h := rfl
@[simp] theorem Lo.try_exc (c : Nat) (h : Mem) (k : Nat → Mem → Lo σ τ) : (Lo.exc c h : Lo σ τ).try k = k c h := rfl
@[simp] theorem Lo.try_bad (k : Nat → Mem → Lo σ τ) : (Lo.bad : Lo σ τ).try k = .bad := rfl
@[simp] theorem Lo.try_bk (s : τ) (h : Mem) (k : Nat → Mem → Lo σ τ) : (Lo.bk s h : Lo σ τ).try k = .bk s h := rfl
@[simp] theorem Lo.try_ct (s : τ) (h : Mem) (k : Nat → Mem → Lo σ τ) : (Lo.ct s h : Lo σ τ).try k = .ct s h := rfl
def Lo.hc (o : Option Bool) (a b : Lo σ τ) : Lo σ τ := match o with
  | some true => a
  | some false => b
  | none => .bad
@[simp] theorem Lo.hc_t (a b : Lo σ τ) : Lo.hc (some true) a b = a := rfl
@[simp] theorem Lo.hc_f (a b : Lo σ τ) : Lo.hc (some false) a b = b := rfl
def Lo.op (o : Option α) (k : α → Lo σ τ) : Lo σ τ := match o with
  | some v => k v
  | none => .bad
@[simp] theorem Lo.op_some (a : α) (k : α → Lo σ τ) : Lo.op (some a) k = k a := rfl
@[simp] theorem Lo.op_none (k : α → Lo σ τ) : Lo.op none k = .bad := rfl
def Lo.ob (o : Option Val) (a b : Lo σ τ) : Lo σ τ := match o with
  | some (.bl k) => if k then a else b
  | _ => .bad
@[simp] theorem Lo.ob_some (k : Bool) (a b : Lo σ τ) : Lo.ob (some (.bl k)) a b = if k then a else b := rfl
end
/-! ### the operations by names -/
def negS (v : Val) (h : Mem) : Res Val := match v with
  | .int i => .ok (.int (-i)) h
  | _ => .bad
@[simp] theorem negS_int (i : Int) (h : Mem) : negS (.int i) h = .ok (.int (-i)) h := rfl
def truS (v : Val) (h : Mem) : Res Bool := pure h (tru h v)
def ntS (v : Val) (h : Mem) : Res Val := (pure h (tru h v)).bind fun t h => .ok (.bl (!t)) h
def isNS (n : Bool) (v : Val) : Bool := match v with
  | .non => !n
  | _ => n
def isBS (n b : Bool) (v : Val) (h : Mem) : Res Val := match v with
  | .bl c => .ok (.bl (if n then !decide (c = b) else decide (c = b))) h
  | _ => .bad
def cmpS (o : Cop) (v w : Val) (h : Mem) : Res Val := (pure h (cmpV h o v w)).bind fun t h => .ok (.bl t) h
def cmpB (o : Cop) (v w : Val) (h : Mem) : Res Bool := pure h (cmpV h o v w)
def isiS (ist : List (Nat × Nat)) (t : Ty) (v : Val) (h : Mem) : Res Val := pure h ((isiV ist h t v).map .bl)
def tupS (vs : List Val) (h : Mem) : Res Val := if vs.length ≤ szl then .ok (.tup vs) h else .bad
def dspS (vs : List Val) (h : Mem) : Res Con := if vs.length ≤ szl then .ok (.lst vs) h else .bad
def ddS (ks : List Lit) (vs : List Val) (h : Mem) : Res Con := match ks.mapM Lit.key with
    | some kk => if kk.length = vs.length ∧ kk.Nodup ∧ kk.length ≤ 1000 then .ok (.dik (kk.zip vs)) h else .bad
    | none => .bad
def ixoS (v : Val) (h : Mem) : Res (Option Int) := match v with
    | .int i => .ok (some i) h
    | _ => .bad
def slS? (x : Sl) (h : Mem) : Res Val := match x with
  | .v v => .ok v h
  | _ => .bad
def itrS (v : Val) (h : Mem) : Res Itr := match v with
    | .ref a => (match h[a]? with
      | some (.con (.lst _)) => .ok (.lst a) h
      | _ => .bad)
    | .tup xs => .ok (.sn xs) h
    | .ktp xs => .ok (.sn xs) h
    | .lst xs => .ok (.sn xs) h
    | .kls xs => .ok (.sn xs) h
    | .str s => .ok (.sn (s.map fun c => .str [c])) h
    | _ => .bad
def rng1S (v : Val) (h : Mem) : Res Itr := match v with
    | .int n => if big n then .ok (.sn (rngL 0 n.toNat)) h else .bad
    | _ => .bad
def rng2S (v w : Val) (h : Mem) : Res Itr := match v, w with
    | .int i, .int j => if big i && big j then .ok (.sn (rngL i (j - i).toNat)) h else .bad
    | _, _ => .bad
def rng3S (v w u : Val) (h : Mem) : Res Itr := match v, w, u with
    | .int i, .int j, .int k => if big i && big j && decide (0 < k) && decide (k < 1000000) then .ok (.sn (rngS i k ((j - i + k - 1) / k).toNat)) h else .bad
    | _, _, _ => .bad
def enumS (v : Val) (h : Mem) : Res Itr := match v with
    | .ref a => (match h[a]? with
      | some (.con (.lst _)) => .ok (.enum a) h
      | _ => .bad)
    | .lst xs => .ok (.sn (enumL xs)) h
    | .kls xs => .ok (.sn (enumL xs)) h
    | _ => .bad
def zipS (v w : Val) (h : Mem) : Res Itr := match v, w with
    | .tup xs, .tup ys => .ok (.sn (xs.zipWith (fun x y => .tup [x, y]) ys)) h
    | .ktp xs, .tup ys => .ok (.sn (xs.zipWith (fun x y => .tup [x, y]) ys)) h
    | .lst xs, .lst ys => .ok (.sn (xs.zipWith (fun x y => .tup [x, y]) ys)) h
    | _, _ => .bad
def revS (v : Val) (h : Mem) : Res Itr := match v with
    | .ref a => (match lsN h a with
      | some xs => .ok (.rev a xs.length) h
      | none => .bad)
    | .lst xs => .ok (.sn xs.reverse) h
    | _ => .bad
def keysS (v : Val) (h : Mem) : Res Itr := match v with
    | .dik kvs => .ok (.sn (kvs.map fun kv => kval kv.1)) h
    | _ => .bad
def itemsS (v : Val) (h : Mem) : Res Itr := match v with
    | .dik kvs => .ok (.sn (kvs.map fun kv => .tup [kval kv.1, kv.2])) h
    | _ => .bad
@[simp] theorem slO_lst {α : Type} (xs : List Val) (k : List Val → Res α) : slO (some (.o (.lst xs))) k = k xs := rfl
def lr1S (v : Val) (h : Mem) : Res Con := match v with
    | .int n => if big n && decide (n ≤ 1000000) then .ok (.lst (rngL 0 n.toNat)) h else .bad
    | _ => .bad
def lr2S (v w : Val) (h : Mem) : Res Con := match v, w with
    | .int i, .int j => if big i && big j && decide (j - i ≤ 1000000) then .ok (.lst (rngL i (j - i).toNat)) h else .bad
    | _, _ => .bad
def splS (v : Val) (h : Mem) (w : Mem → Res Val) : Res Con := if (strOf v).isSome then (w h).bind fun w h => pure h (splitV v w) else .bad
def conS (c : Con) (h : Mem) : Res Val := pure h (cVal c)
def retC {σ τ : Type} (c : Con) (h : Mem) : Lo σ τ := match c with
  | .lst xs => .rt (.f xs) h
  | _ => .bad
@[simp] theorem retC_lst {σ τ : Type} (xs : List Val) (h : Mem) : (retC (.lst xs) h : Lo σ τ) = .rt (.f xs) h := rfl
def lstS (xs : List Val) (h : Mem) : Res Con := .ok (.lst xs) h
section
variable (P : Pg) (call callI : Nat → List Val → Mem → Res Ret)
def calS (f : Nat) (vs : List Val) (h : Mem) : Res Val := (call f vs h).bind fun r h => .ok r.val h
def frsS (r : Ret) (h : Mem) : Res Con := match r with
    | .f xs => .ok (.lst xs) h
    | .v _ => .bad
def mkS (c : Nat) (vs : List Val) (h : Mem) : Res Val := match P.cl c with
    | some C => (callI C.ini (.ref h.length :: vs) (h ++ [.ins c []])).bind fun x h2 => match x with
      | .v .non => .ok (.ref h.length) h2
      | _ => .bad
    | none => .bad
def mkIS (c : Nat) (vs : List Val) (h : Mem) : Res Val := match P.cl c with
    | some C => (match C.rc with
      | some fl => if vs.length = fl.length then (match callI C.ini (.ref h.length :: vs) (h ++ [.ins c []]) with
        | .ok (.v .non) h2 => @ite _ (h2 = h ++ [.ins c (fl.zip (vs.map Sl.v))]) (Classical.propDecidable _) (.ok (.ins c (fl.zip vs)) h) .bad
        | _ => .bad) else .bad
      | none => .bad)
    | none => .bad
def metS (m : Nat) (b : Bm) (v : Val) (h1 : Mem) (vs : Mem → Res (List Val)) : Res Val :=
  if noFld h1 m v && hasM P h1 m b v then (vs h1).bind fun vs h2 => if kindV h1 v = kindV h2 v then (metV P call m b v vs h2).bind fun r h3 => .ok r.val h3 else .bad else .bad
def metF' (m : Nat) (v : Val) (h1 : Mem) (vs : Mem → Res (List Val)) : Res Con :=
  if noFld h1 m v && hasM P h1 m .none v then (vs h1).bind fun vs h2 => if kindV h1 v = kindV h2 v then (metV P call m .none v vs h2).bind fun r h3 => match r with
      | .f xs => .ok (.lst xs) h3
      | .v _ => .bad else .bad else .bad
/-- what an own field holds -/
def fldS (f : Nat) (x : Val) (h : Mem) : Option Con := evp P (.f 0 f) [.v x] h
@[simp] theorem fldS_ref (f n : Nat) (h : Mem) : fldS P f (.ref n) h = fldC P h n f := rfl
def dfS (f : Nat) (x : Val) (h : Mem) : Option Val := ddV P (.att (.var 0) f) [.v x] h
def putS (f : Nat) (x : Val) (c : Con) (h : Mem) : Option Mem := match x with
  | .ref n => (match h[n]? with
      | some (.ins d fs) => (match fs.lookup f with
        | some (.o _) => if nodupF fs then some (h.set n (.ins d (fput f (.o c) fs))) else none
        | _ => none)
      | _ => none)
  | _ => none
/-- reading off an own place -/
def plS (o : Option Con) (op : Pop) (h : Mem) (vs : Mem → Res (List Val)) (o2 : Mem → Option Con) : Res Val :=
  if o.any (popOk op) then (vs h).bind fun vs h => pure h ((o2 h).bind fun c => plV op c vs) else .bad
def pinS (n : Bool) (v : Val) (o : Option Con) (h : Mem) : Res Val := pure h ((o.bind fun c => cin h v c).map fun t => .bl (if n then !t else t))
def ownS (f : Nat) (x : Val) (c : Con) (h : Mem) : Option Mem := match x with
  | .ref n => (match h[n]? with
      | some (.ins d fs) => if fldF P d f && decide (fs.length < 1000) && nodupF fs then some (h.set n (.ins d (fput f (.o c) fs))) else none
      | _ => none)
  | _ => none
def setTS : List (Val × Nat) → List Val → Mem → Option Mem
  | [], [], h => some h
  | (x, f) :: as, v :: vs, h => (setA P f x v h).bind fun h1 => setTS as vs h1
  | _, _, _ => none
def augS {σ τ : Type} (f : Nat) (sub : Bool) (x : Val) (h : Mem) (e : Mem → Res Val) (k : Mem → Lo σ τ) : Lo σ τ := match x with
  | .ref a => (match h[a]? with
      | some (.ins c fs) => (match if fldF P c f then (fs.lookup f).bind slV? else none with
        | some u => (e h).lo fun y h2 => (match augI sub u y with
          | some z => if kindV h2 x = 10 + c then Lo.op (setA P f x z h2) k else .bad
          | none => .bad)
        | none => .bad)
      | _ => .bad)
  | _ => .bad
end
/-! ### except suites -/
def xAnd (a b : Option Val) : Option Val := match a with
    | some (.bl t) => if t then b else some (.bl false)
    | _ => none
def xOr (a b : Option Val) : Option Val := match a with
    | some (.bl t) => if t then some (.bl true) else b
    | _ => none
def xNt (a : Option Val) : Option Val := match a with
    | some (.bl t) => some (.bl (!t))
    | _ => none
def xTup (o : Option (List Val)) : Option Val := o.bind fun vs => if vs.length ≤ szl then some (.tup vs) else none
def xLst (o : Option (List Val)) : Option Val := o.bind fun vs => if vs.length ≤ szl then some (.lst vs) else none
def xCons (a : Option Val) (b : Option (List Val)) : Option (List Val) := a.bind fun v => b.map fun vs => v :: vs
@[simp] theorem xAnd_some (t : Bool) (b : Option Val) : xAnd (some (.bl t)) b = if t then b else some (.bl false) := rfl
@[simp] theorem xOr_some (t : Bool) (b : Option Val) : xOr (some (.bl t)) b = if t then some (.bl true) else b := rfl
@[simp] theorem xNt_some (t : Bool) : xNt (some (.bl t)) = some (.bl (!t)) := rfl
@[simp] theorem xCons_some (a : Val) (b : List Val) : xCons (some a) (some b) = some (a :: b) := rfl
/-! ### targets -/
section
variable {σ τ : Type}
def un1 (h : Mem) (v : Val) (k : Val → Lo σ τ) : Lo σ τ := match seqA h v with
  | some [a] => k a
  | _ => .bad
def un2 (h : Mem) (v : Val) (k : Val → Val → Lo σ τ) : Lo σ τ := match seqA h v with
  | some [a, b] => k a b
  | _ => .bad
def un3 (h : Mem) (v : Val) (k : Val → Val → Val → Lo σ τ) : Lo σ τ := match seqA h v with
  | some [a, b, c] => k a b c
  | _ => .bad
def un4 (h : Mem) (v : Val) (k : Val → Val → Val → Val → Lo σ τ) : Lo σ τ := match seqA h v with
  | some [a, b, c, d] => k a b c d
  | _ => .bad
def un5 (h : Mem) (v : Val) (k : Val → Val → Val → Val → Val → Lo σ τ) : Lo σ τ := match seqA h v with
  | some [a, b, c, d, e] => k a b c d e
  | _ => .bad
/-- the second one is a pair, too -/
def un2b (h : Mem) (v : Val) (k : Val → Val → Val → Lo σ τ) : Lo σ τ := match seqA h v with
  | some [a, w] => (match seqA h w with
    | some [b, c] => k a b c
    | _ => .bad)
  | _ => .bad
variable (h : Mem)
@[simp] theorem un1_tup (a : Val) (k : Val → Lo σ τ) : un1 h (.tup [a]) k = k a := rfl
@[simp] theorem un2_tup (a b : Val) (k : Val → Val → Lo σ τ) : un2 h (.tup [a, b]) k = k a b := rfl
@[simp] theorem un3_tup (a b c : Val) (k : Val → Val → Val → Lo σ τ) : un3 h (.tup [a, b, c]) k = k a b c := rfl
@[simp] theorem un4_tup (a b c d : Val) (k : Val → Val → Val → Val → Lo σ τ) : un4 h (.tup [a, b, c, d]) k = k a b c d := rfl
@[simp] theorem un5_tup (a b c d e : Val) (k : Val → Val → Val → Val → Val → Lo σ τ) : un5 h (.tup [a, b, c, d, e]) k = k a b c d e := rfl
@[simp] theorem un2b_tup (a b c : Val) (k : Val → Val → Val → Lo σ τ) : un2b h (.tup [a, .tup [b, c]]) k = k a b c := rfl
end
section
variable {α : Type}
def um1 (h : Mem) (v : Val) (k : Val → Res α) : Res α := match seqA h v with
  | some [a] => k a
  | _ => .bad
def um2 (h : Mem) (v : Val) (k : Val → Val → Res α) : Res α := match seqA h v with
  | some [a, b] => k a b
  | _ => .bad
def um3 (h : Mem) (v : Val) (k : Val → Val → Val → Res α) : Res α := match seqA h v with
  | some [a, b, c] => k a b c
  | _ => .bad
def um4 (h : Mem) (v : Val) (k : Val → Val → Val → Val → Res α) : Res α := match seqA h v with
  | some [a, b, c, d] => k a b c d
  | _ => .bad
variable (h : Mem)
@[simp] theorem um1_tup (a : Val) (k : Val → Res α) : um1 h (.tup [a]) k = k a := rfl
@[simp] theorem um2_tup (a b : Val) (k : Val → Val → Res α) : um2 h (.tup [a, b]) k = k a b := rfl
@[simp] theorem um3_tup (a b c : Val) (k : Val → Val → Val → Res α) : um3 h (.tup [a, b, c]) k = k a b c := rfl
@[simp] theorem um4_tup (a b c d : Val) (k : Val → Val → Val → Val → Res α) : um4 h (.tup [a, b, c, d]) k = k a b c d := rfl
end
end
end PyI
/-! A block with frames and a block without do the same. -/
namespace PyI
noncomputable section
section
variable {σ τ ρ α : Type}
def Rl (R : σ → Fr → Prop) (R2 : τ → Fr → Prop) (X : Fr → Prop) (a : SR) (b : Lo σ τ) : Prop := match a, b with
  | .ok .nx fr h, .nx s h' => R s fr ∧ h = h'
  | .ok .bk fr h, .bk s h' => R2 s fr ∧ h = h'
  | .ok .ct fr h, .ct s h' => R2 s fr ∧ h = h'
  | .ok (.rt v) _ h, .rt v' h' => v = v' ∧ h = h'
  | .exc c fr h, .exc c' h' => c = c' ∧ h = h' ∧ X fr
  | .bad, .bad => True
  | _, _ => False
variable {R : σ → Fr → Prop} {R2 : τ → Fr → Prop} {X : Fr → Prop} {fr : Fr} {h : Mem}
theorem rl_fin {a : SR} {b : Lo σ τ} (q : Rl R R2 X a b) : PyI.fin a = b.fin := by
  cases a with
  | ok f fr h => cases f <;> cases b <;> first | exact q.elim | (obtain ⟨rfl, rfl⟩ := q; rfl) | (obtain ⟨_, rfl⟩ := q; rfl)
  | exc c fr h => cases b <;> first | exact q.elim | (obtain ⟨rfl, rfl, _⟩ := q; rfl)
  | bad => cases b <;> first | exact q.elim | rfl
theorem rl_lo {r : Res α} {k : α → Mem → SR} {kS : α → Mem → Lo σ τ} (hx : X fr) (hk : ∀ a h, Rl R R2 X (k a h) (kS a h)) : Rl R R2 X (lift r fr k) (r.lo kS) := by
  cases r with
  | ok a h => exact hk a h
  | exc c h => exact ⟨rfl, rfl, hx⟩
  | bad => trivial
theorem lift_then {r : Res α} {k : α → Mem → SR} {K : Fr → Mem → SR} : (lift r fr k).andThen K = lift r fr fun a h => (k a h).andThen K := by cases r <;> rfl
/-- one block behind another -/
theorem rl_seq {R' : ρ → Fr → Prop} {a : SR} {b : Lo ρ τ} {K : Fr → Mem → SR} {kS : ρ → Mem → Lo σ τ} (q : Rl R' R2 X a b) (hk : ∀ s fr h, R' s fr → Rl R R2 X (K fr h) (kS s h)) : Rl R R2 X (a.andThen K) (b.seq kS) := by
  cases a with
  | ok f fr h => cases f <;> cases b <;> first | exact q.elim | (obtain ⟨q, rfl⟩ := q; exact hk _ _ _ q) | exact q
  | exc c fr h => cases b <;> first | exact q.elim | exact q
  | bad => cases b <;> first | exact q.elim | trivial
def putB (tg : Tgt) (h : Mem) (v : Val) (fr : Fr) (body : Fr → Mem → SR) : SR := match tg.put h v fr with
  | some fr1 => body fr1 h
  | none => .bad
section
variable {P : Pg} {call callI : Nat → List Val → Mem → Res Ret} {ss : Sms}
theorem rl_nil {s : σ} (q : R s fr) : Rl R R2 X (exs P call callI .nil fr h) (.nx s h) := by simp only [exs]; exact ⟨q, rfl⟩
theorem rl_put1 {i : Nat} {v : Val} {B : Fr → Mem → SR} {k : Lo σ τ} (f : Fr) (hf : fr.set i (.v v) = f) (q : Rl R R2 X (B f h) k) : Rl R R2 X (putB (.v i) h v fr B) k := by subst hf; exact q
theorem puts2 {i j : Nat} {a b : Val} : Tgt.puts h [.v i, .v j] [a, b] fr = some ((fr.set i (.v a)).set j (.v b)) := by simp [Tgt.puts, Tgt.put]
theorem rl_put2 {i j : Nat} {v : Val} {B : Fr → Mem → SR} {k : Val → Val → Lo σ τ} (f : Val → Val → Fr) (hf : ∀ a b, (fr.set i (.v a)).set j (.v b) = f a b) (q : ∀ a b, Rl R R2 X (B (f a b) h) (k a b)) : Rl R R2 X (putB (.t [.v i, .v j]) h v fr B) (un2 h v k) := by
  unfold putB un2
  simp only [Tgt.put]
  cases seqA h v with
  | none => trivial
  | some xs =>
    match xs with
    | [] => simp only [Tgt.puts]; trivial
    | [a] => simp only [Tgt.puts, Tgt.put]; trivial
    | [a, b] => simp only [Tgt.puts, Tgt.put, hf]; exact q a b
    | a :: b :: c :: r => simp only [Tgt.puts, Tgt.put]; trivial
theorem rl_put3 {i j l : Nat} {v : Val} {B : Fr → Mem → SR} {k : Val → Val → Val → Lo σ τ} (f : Val → Val → Val → Fr) (hf : ∀ a b c, ((fr.set i (.v a)).set j (.v b)).set l (.v c) = f a b c) (q : ∀ a b c, Rl R R2 X (B (f a b c) h) (k a b c)) : Rl R R2 X (putB (.t [.v i, .v j, .v l]) h v fr B) (un3 h v k) := by
  unfold putB un3
  simp only [Tgt.put]
  cases seqA h v with
  | none => trivial
  | some xs =>
    match xs with
    | [] => simp only [Tgt.puts]; trivial
    | [a] => simp only [Tgt.puts, Tgt.put]; trivial
    | [a, b] => simp only [Tgt.puts, Tgt.put]; trivial
    | [a, b, c] => simp only [Tgt.puts, Tgt.put, hf]; exact q a b c
    | a :: b :: c :: d :: r => simp only [Tgt.puts, Tgt.put]; trivial
theorem rl_put4 {i j l m : Nat} {v : Val} {B : Fr → Mem → SR} {k : Val → Val → Val → Val → Lo σ τ} (f : Val → Val → Val → Val → Fr) (hf : ∀ a b c d, (((fr.set i (.v a)).set j (.v b)).set l (.v c)).set m (.v d) = f a b c d) (q : ∀ a b c d, Rl R R2 X (B (f a b c d) h) (k a b c d)) : Rl R R2 X (putB (.t [.v i, .v j, .v l, .v m]) h v fr B) (un4 h v k) := by
  unfold putB un4
  simp only [Tgt.put]
  cases seqA h v with
  | none => trivial
  | some xs =>
    match xs with
    | [] => simp only [Tgt.puts]; trivial
    | [a] => simp only [Tgt.puts, Tgt.put]; trivial
    | [a, b] => simp only [Tgt.puts, Tgt.put]; trivial
    | [a, b, c] => simp only [Tgt.puts, Tgt.put]; trivial
    | [a, b, c, d] => simp only [Tgt.puts, Tgt.put, hf]; exact q a b c d
    | a :: b :: c :: d :: e :: r => simp only [Tgt.puts, Tgt.put]; trivial
theorem rl_put5 {i j l m n : Nat} {v : Val} {B : Fr → Mem → SR} {k : Val → Val → Val → Val → Val → Lo σ τ} (f : Val → Val → Val → Val → Val → Fr) (hf : ∀ a b c d e, ((((fr.set i (.v a)).set j (.v b)).set l (.v c)).set m (.v d)).set n (.v e) = f a b c d e) (q : ∀ a b c d e, Rl R R2 X (B (f a b c d e) h) (k a b c d e)) : Rl R R2 X (putB (.t [.v i, .v j, .v l, .v m, .v n]) h v fr B) (un5 h v k) := by
  unfold putB un5
  simp only [Tgt.put]
  cases seqA h v with
  | none => trivial
  | some xs =>
    match xs with
    | [] => simp only [Tgt.puts]; trivial
    | [a] => simp only [Tgt.puts, Tgt.put]; trivial
    | [a, b] => simp only [Tgt.puts, Tgt.put]; trivial
    | [a, b, c] => simp only [Tgt.puts, Tgt.put]; trivial
    | [a, b, c, d] => simp only [Tgt.puts, Tgt.put]; trivial
    | [a, b, c, d, e] => simp only [Tgt.puts, Tgt.put, hf]; exact q a b c d e
    | a :: b :: c :: d :: e :: e2 :: r => simp only [Tgt.puts, Tgt.put]; trivial
theorem rl_put1t {i : Nat} {v : Val} {B : Fr → Mem → SR} {k : Val → Lo σ τ} (f : Val → Fr) (hf : ∀ a, fr.set i (.v a) = f a) (q : ∀ a, Rl R R2 X (B (f a) h) (k a)) : Rl R R2 X (putB (.t [.v i]) h v fr B) (un1 h v k) := by
  unfold putB un1
  simp only [Tgt.put]
  cases seqA h v with
  | none => trivial
  | some xs =>
    match xs with
    | [] => simp only [Tgt.puts]; trivial
    | [a] => simp only [Tgt.puts, Tgt.put, hf]; exact q a
    | a :: b :: r => simp only [Tgt.puts, Tgt.put]; trivial
theorem rl_put2b {i j l : Nat} {v : Val} {B : Fr → Mem → SR} {k : Val → Val → Val → Lo σ τ} (f : Val → Val → Val → Fr) (hf : ∀ a b c, ((fr.set i (.v a)).set j (.v b)).set l (.v c) = f a b c) (q : ∀ a b c, Rl R R2 X (B (f a b c) h) (k a b c)) : Rl R R2 X (putB (.t [.v i, .t [.v j, .v l]]) h v fr B) (un2b h v k) := by
  unfold putB un2b
  simp only [Tgt.put]
  cases seqA h v with
  | none => trivial
  | some xs =>
    match xs with
    | [] => simp only [Tgt.puts]; trivial
    | [a] => simp only [Tgt.puts, Tgt.put]; trivial
    | [a, w] =>
      simp only [Tgt.puts, Tgt.put]
      cases seqA h w with
      | none => trivial
      | some ys =>
        match ys with
        | [] => simp only [Tgt.puts]; trivial
        | [a] => simp only [Tgt.puts, Tgt.put]; trivial
        | [b, c] => simp only [Tgt.puts, Tgt.put, hf]; exact q a b c
        | b :: c :: d :: r => simp only [Tgt.puts, Tgt.put]; trivial
    | [a, w, d] =>
      simp only [Tgt.puts, Tgt.put]
      cases seqA h w with
      | none => trivial
      | some ys =>
        match ys with
        | [] => simp only [Tgt.puts]; trivial
        | [a] => simp only [Tgt.puts, Tgt.put]; trivial
        | [b, c] => simp only [Tgt.puts, Tgt.put]; trivial
        | b :: c :: d :: r => simp only [Tgt.puts, Tgt.put]; trivial
    | a :: w :: d :: e :: r =>
      simp only [Tgt.puts, Tgt.put]
      cases seqA h w with
      | none => trivial
      | some ys =>
        match ys with
        | [] => simp only [Tgt.puts]; trivial
        | [a] => simp only [Tgt.puts, Tgt.put]; trivial
        | [b, c] => simp only [Tgt.puts, Tgt.put]; trivial
        | b :: c :: d :: r => simp only [Tgt.puts, Tgt.put]; trivial
theorem rl_asg {tg : Tgt} {e : Ex} {r : Res Val} {k : Val → Mem → Lo σ τ} (he : ev P call callI e fr h = r) (hx : X fr) (hk : ∀ v h, Rl R R2 X (putB tg h v fr (exs P call callI ss)) (k v h)) : Rl R R2 X (exs P call callI (.cons (.asg tg e) ss) fr h) (r.lo k) := by
  simp only [exs, ex, he, lift_then]
  refine rl_lo hx fun v h => ?_
  have := hk v h
  unfold putB at this
  cases e : tg.put h v fr <;> rw [e] at this <;> exact this
theorem rl_own {i : Nat} {a : Az} {r : Res Con} {k : Con → Mem → Lo σ τ} (f : Con → Fr) (he : evA P call callI a fr h = r) (hf : ∀ c, fr.set i (.o c) = f c) (hx : X fr) (hk : ∀ c h, Rl R R2 X (exs P call callI ss (f c) h) (k c h)) : Rl R R2 X (exs P call callI (.cons (.own i a) ss) fr h) (r.lo k) := by
  simp only [exs, ex, he, lift_then]
  refine rl_lo hx fun c h => ?_
  obtain rfl : (fun c => fr.set i (.o c)) = f := funext hf
  exact hk c h
theorem rl_frz {i : Nat} {c : Con} {k : Val → Lo σ τ} (f : Val → Fr) (hc : fr[i]? = some (.o c)) (hf : ∀ v, fr.set i (.v v) = f v) (hk : ∀ v, Rl R R2 X (exs P call callI ss (f v) h) (k v)) : Rl R R2 X (exs P call callI (.cons (.frz i) ss) fr h) (Lo.op (cVal c) k) := by
  simp only [exs, ex, hc]
  cases cVal c with
  | none => trivial
  | some v => obtain rfl : (fun v => fr.set i (.v v)) = f := funext hf; exact hk v
theorem rl_exp {e : Ex} {r : Res Val} {k : Mem → Lo σ τ} (he : ev P call callI e fr h = r) (hx : X fr) (hk : ∀ h, Rl R R2 X (exs P call callI ss fr h) (k h)) : Rl R R2 X (exs P call callI (.cons (.exp e) ss) fr h) (r.lo fun _ h => k h) := by
  simp only [exs, ex, he, lift_then]
  exact rl_lo hx fun v h => hk h
theorem rl_ret {e : Ex} {r : Res Val} (he : ev P call callI e fr h = r) (hx : X fr) : Rl R R2 X (exs P call callI (.cons (.ret e) ss) fr h) (r.lo fun v h => .rt (.v v) h) := by
  simp only [exs, ex, he, lift_then]
  exact rl_lo hx fun v h => ⟨rfl, rfl⟩
theorem rl_retA {a : Az} {r : Res Con} (he : evA P call callI a fr h = r) (hx : X fr) : Rl R R2 X (exs P call callI (.cons (.retA a) ss) fr h) (r.lo retC) := by
  simp only [exs, ex, he, lift_then]
  refine rl_lo hx fun c h => ?_
  cases c <;> first | trivial | exact ⟨rfl, rfl⟩
theorem rl_retO {i : Nat} {c : Con} (hc : fr[i]? = some (.o c)) : Rl R R2 X (exs P call callI (.cons (.retO i) ss) fr h) (retC c h) := by
  simp only [exs, ex, hc]
  cases c <;> first | trivial | exact ⟨rfl, rfl⟩
theorem rl_retN : Rl R R2 X (exs P call callI (.cons .retN ss) fr h) (.rt (.v .non) h) := by
  simp only [exs, ex]; exact ⟨rfl, rfl⟩
theorem rl_raise {c : Nat} (hx : X fr) : Rl R R2 X (exs P call callI (.cons (.raise c) ss) fr h) (.exc c h) := by
  simp only [exs, ex]; exact ⟨rfl, rfl, hx⟩
theorem rl_pass {k : Lo σ τ} (hk : Rl R R2 X (exs P call callI ss fr h) k) : Rl R R2 X (exs P call callI (.cons .pass ss) fr h) k := by
  simp only [exs, ex]; exact hk
theorem rl_brk {s : τ} (q : R2 s fr) : Rl R R2 X (exs P call callI (.cons .brk ss) fr h) (.bk s h) := by
  simp only [exs, ex]; exact ⟨q, rfl⟩
theorem rl_cnt {s : τ} (q : R2 s fr) : Rl R R2 X (exs P call callI (.cons .cnt ss) fr h) (.ct s h) := by
  simp only [exs, ex]; exact ⟨q, rfl⟩
end
end
def Sms.app : Sms → Sms → Sms
  | .nil, t => t
  | .cons s ss, t => .cons s (Sms.app ss t)
theorem andThen_assoc {r : SR} {k l : Fr → Mem → SR} : (r.andThen k).andThen l = r.andThen fun fr h => (k fr h).andThen l := by
  cases r with
  | ok f fr h => cases f <;> rfl
  | exc c fr h => rfl
  | bad => rfl
section
variable {σ τ ρ α : Type} {R : σ → Fr → Prop} {R2 : τ → Fr → Prop} {X : Fr → Prop} {fr : Fr} {h : Mem}
variable {P : Pg} {call callI : Nat → List Val → Mem → Res Ret} {ss : Sms}
theorem exs_app : ∀ (a b : Sms) (fr : Fr) (h : Mem), exs P call callI (Sms.app a b) fr h = (exs P call callI a fr h).andThen (exs P call callI b)
  | .nil, b, fr, h => by simp only [Sms.app, exs, SR.andThen]
  | .cons s ss, b, fr, h => by
    simp only [Sms.app, exs, andThen_assoc]
    congr 1
    funext fr h
    exact exs_app ss b fr h
theorem rl_ite {c : Te} {a b : Sms} {r : Res Bool} {ka kb : Mem → Lo σ τ} (he : evt P call callI c fr h = r) (hx : X fr) (ha : ∀ h, Rl R R2 X (exs P call callI (Sms.app a ss) fr h) (ka h)) (hb : ∀ h, Rl R R2 X (exs P call callI (Sms.app b ss) fr h) (kb h)) :
    Rl R R2 X (exs P call callI (.cons (.ite c a b) ss) fr h) (r.lo fun t h => if t then ka h else kb h) := by
  simp only [exs, ex, he, lift_then]
  refine rl_lo hx fun t h => ?_
  cases t with
  | true => simp only [if_true]; rw [← exs_app]; exact ha h
  | false => simp only [Bool.false_eq_true, if_false]; rw [← exs_app]; exact hb h
/-- both ways go on -/
theorem rl_itej {R' : ρ → Fr → Prop} {c : Te} {a b : Sms} {r : Res Bool} {ka kb : Mem → Lo ρ τ} {kk : ρ → Mem → Lo σ τ} (he : evt P call callI c fr h = r) (hx : X fr) (ha : ∀ h, Rl R' R2 X (exs P call callI a fr h) (ka h)) (hb : ∀ h, Rl R' R2 X (exs P call callI b fr h) (kb h)) (hk : ∀ s fr h, R' s fr → Rl R R2 X (exs P call callI ss fr h) (kk s h)) :
    Rl R R2 X (exs P call callI (.cons (.ite c a b) ss) fr h) (r.lo fun t h => (if t then ka h else kb h).seq kk) := by
  simp only [exs, ex, he, lift_then]
  refine rl_lo hx fun t h => ?_
  cases t with
  | true => simp only [if_true]; exact rl_seq (ha h) hk
  | false => simp only [Bool.false_eq_true, if_false]; exact rl_seq (hb h) hk
theorem rl_forG {t : Itr} {tg : Tgt} {B : Fr → Mem → SR} {k : Val → ρ → Mem → Lo ρ ρ} {I : ρ → Fr → Prop} (hb : ∀ v s fr h, I s fr → Rl I I X (putB tg h v fr B) (k v s h)) : ∀ (r i : Nat) (s : ρ) (fr : Fr) (h : Mem), I s fr → Rl I R2 X (forG t tg B r i fr h) (forS t k r i s h)
  | 0, i, s, fr, h, q => by
    simp only [forG, forS]
    cases t.fin i h with
    | true => exact ⟨q, rfl⟩
    | false => trivial
  | r + 1, i, s, fr, h, q => by
    simp only [forG, forS]
    cases t.at i h with
    | none => trivial
    | some v =>
      have b := hb v s fr h q
      unfold putB at b
      simp only
      cases e : tg.put h v fr with
      | none =>
        rw [e] at b
        cases e2 : k v s h <;> rw [e2] at b <;> first | exact b.elim | trivial
      | some fr1 =>
        rw [e] at b
        simp only at b ⊢
        cases e1 : B fr1 h with
        | ok f fr2 h2 => 
          rw [e1] at b
          cases f <;> cases e2 : k v s h <;> rw [e2] at b <;> first | exact b.elim | (obtain ⟨b, rfl⟩ := b; exact rl_forG hb r (i + 1) _ _ _ b) | exact b
        | exc c fr2 h2 =>
          rw [e1] at b
          cases e2 : k v s h <;> rw [e2] at b <;> first | exact b.elim | exact b
        | bad =>
          rw [e1] at b
          cases e2 : k v s h <;> rw [e2] at b <;> first | exact b.elim | trivial
theorem rl_for {tg : Tgt} {it : Itx} {b : Sms} {r : Res Itr} {k : Val → ρ → Mem → Lo ρ ρ} {kk : ρ → Mem → Lo σ τ} (I : ρ → Fr → Prop) {s : ρ} (he : evi P call callI it fr h = r) (hx : X fr) (h0 : I s fr) (hb : ∀ v s fr h, I s fr → Rl I I X (putB tg h v fr (exs P call callI b)) (k v s h)) (hk : ∀ s fr h, I s fr → Rl R R2 X (exs P call callI ss fr h) (kk s h)) :
    Rl R R2 X (exs P call callI (.cons (.for tg it b) ss) fr h) (r.lo fun t h => (forS t k (t.cnt h) 0 s h).seq kk) := by
  simp only [exs, ex, he, lift_then]
  refine rl_lo hx fun t h => ?_
  exact rl_seq (rl_forG hb _ _ _ _ _ h0) hk
theorem rl_whlG {c : Fr → Mem → Res Bool} {B : Fr → Mem → SR} {cS : ρ → Mem → Res Bool} {k : ρ → Mem → Lo ρ ρ} {I : ρ → Fr → Prop} (hx : ∀ s fr, I s fr → X fr) (hc : ∀ s fr h, I s fr → c fr h = cS s h) (hb : ∀ s fr h, I s fr → Rl I I X (B fr h) (k s h)) : ∀ (n : Nat) (s : ρ) (fr : Fr) (h : Mem), I s fr → Rl I R2 X (whlG c B n fr h) (whlS cS k n s h)
  | 0, s, fr, h, q => trivial
  | n + 1, s, fr, h, q => by
    simp only [whlG, whlS, hc s fr h q]
    cases cS s h with
    | ok t h1 =>
      cases t with
      | false => exact ⟨q, rfl⟩
      | true =>
        have b := hb s fr h1 q
        simp only
        cases e1 : B fr h1 with
        | ok f fr2 h2 => 
          rw [e1] at b
          cases f <;> cases e2 : k s h1 <;> rw [e2] at b <;> first | exact b.elim | (obtain ⟨b, rfl⟩ := b; exact rl_whlG hx hc hb n _ _ _ b) | exact b
        | exc c fr2 h2 =>
          rw [e1] at b
          cases e2 : k s h1 <;> rw [e2] at b <;> first | exact b.elim | exact b
        | bad =>
          rw [e1] at b
          cases e2 : k s h1 <;> rw [e2] at b <;> first | exact b.elim | trivial
    | exc c h1 => exact ⟨rfl, rfl, hx s fr q⟩
    | bad => trivial
theorem rl_whl {c : Te} {b : Sms} {cS : ρ → Mem → Res Bool} {k : ρ → Mem → Lo ρ ρ} {kk : ρ → Mem → Lo σ τ} (I : ρ → Fr → Prop) {s : ρ} (hx : ∀ s fr, I s fr → X fr) (h0 : I s fr) (hc : ∀ s fr h, I s fr → evt P call callI c fr h = cS s h) (hb : ∀ s fr h, I s fr → Rl I I X (exs P call callI b fr h) (k s h)) (hk : ∀ s fr h, I s fr → Rl R R2 X (exs P call callI ss fr h) (kk s h)) :
    Rl R R2 X (exs P call callI (.cons (.whl c b) ss) fr h) ((whlS cS k P.lim s h).seq kk) := by
  simp only [exs, ex]
  exact rl_seq (rl_whlG hx hc hb _ _ _ _ h0) hk
theorem rl_try {R' : ρ → Fr → Prop} (X' : Fr → Prop) {b : Sms} {hs : Hds} {kb : Lo ρ τ} {kh : Nat → Mem → Lo ρ τ} {kk : ρ → Mem → Lo σ τ} (hb : Rl R' R2 X' (exs P call callI b fr h) kb) (hh : ∀ c fr h, X' fr → Rl R' R2 X (hand P c hs fr h) (kh c h)) (hk : ∀ s fr h, R' s fr → Rl R R2 X (exs P call callI ss fr h) (kk s h)) :
    Rl R R2 X (exs P call callI (.cons (.try b hs) ss) fr h) ((kb.try kh).seq kk) := by
  simp only [exs, ex]
  refine rl_seq ?_ hk
  revert hb
  cases exs P call callI b fr h with
  | ok f fr h => intro q; cases f <;> cases kb <;> first | exact q.elim | exact q
  | exc c fr h => intro q; cases kb <;> first | exact q.elim | (obtain ⟨rfl, rfl, q⟩ := q; exact hh _ _ _ q)
  | bad => intro q; cases kb <;> first | exact q.elim | exact q
/-! #### except suites -/
theorem rl_hnil {c : Nat} (hx : X fr) : Rl R R2 X (hand P c .nil fr h) (.exc c h) := by simp only [hand]; exact ⟨rfl, rfl, hx⟩
theorem rl_hcons {c d : Nat} {b : XSms} {hs : Hds} {k1 k2 : Lo σ τ} (h1 : Rl R R2 X (exXs P c b fr h) k1) (h2 : Rl R R2 X (hand P c hs fr h) k2) : Rl R R2 X (hand P c (.cons d b hs) fr h) (Lo.hc (P.exc c d) k1 k2) := by
  simp only [hand]
  cases P.exc c d with
  | none => trivial
  | some t => cases t <;> assumption
theorem rl_hone {c d i : Nat} {b : XSms} {k1 : Lo σ τ} {f : Fr} (hf : fr.set i .e = f) (hl : i < fr.length) (hx : X fr) (h1 : Rl (fun s fr => R s (fr.set i .e)) (fun s fr => R2 s (fr.set i .e)) (fun _ => False) (exXs P c b f h) k1) : Rl R R2 X (hand P c (.one d i b) fr h) (Lo.hc (P.exc c d) k1 (.exc c h)) := by
  simp only [hand]
  cases P.exc c d with
  | none => trivial
  | some t =>
    cases t with
    | false => exact ⟨rfl, rfl, hx⟩
    | true =>
      simp only [hl, if_true, hf]
      cases e : exXs P c b f h with
      | ok fl fr2 h2 => rw [e] at h1; cases fl <;> cases k1 <;> first | exact h1.elim | exact h1
      | exc c fr2 h2 => rw [e] at h1; cases k1 <;> first | exact h1.elim | exact h1.2.2.elim
      | bad => rw [e] at h1; cases k1 <;> first | exact h1.elim | trivial
variable {sx : XSms} {c : Nat}
theorem rl_xnil {s : σ} (q : R s fr) : Rl R R2 X (exXs P c .nil fr h) (.nx s h) := by simp only [exXs]; exact ⟨q, rfl⟩
theorem rl_xret {e : XEx} {o : Option Val} (he : evX P c e fr = o) : Rl R R2 X (exXs P c (.cons (.ret e) sx) fr h) (Lo.op o fun v => .rt (.v v) h) := by
  simp only [exXs, exX, he]
  cases o with
  | none => trivial
  | some v => exact ⟨rfl, rfl⟩
theorem rl_xpass {k : Lo σ τ} (hk : Rl R R2 X (exXs P c sx fr h) k) : Rl R R2 X (exXs P c (.cons .pass sx) fr h) k := by
  simp only [exXs, exX]; exact hk
theorem rl_xasg {i : Nat} {e : XEx} {o : Option Val} {k : Val → Lo σ τ} (f : Val → Fr) (he : evX P c e fr = o) (hf : ∀ v, fr.set i (.v v) = f v) (hk : ∀ v, Rl R R2 X (exXs P c sx (f v) h) (k v)) : Rl R R2 X (exXs P c (.cons (.asg i e) sx) fr h) (Lo.op o k) := by
  simp only [exXs, exX, he]
  cases o with
  | none => trivial
  | some v => obtain rfl : (fun v => fr.set i (.v v)) = f := funext hf; exact hk v
def XSms.app : XSms → XSms → XSms
  | .nil, t => t
  | .cons s ss, t => .cons s (XSms.app ss t)
theorem exXs_app : ∀ (a b : XSms) (fr : Fr) (h : Mem), exXs P c (XSms.app a b) fr h = (exXs P c a fr h).andThen (exXs P c b)
  | .nil, b, fr, h => by simp only [XSms.app, exXs, SR.andThen]
  | .cons s ss, b, fr, h => by
    simp only [XSms.app, exXs, andThen_assoc]
    congr 1
    funext fr h
    exact exXs_app ss b fr h
theorem rl_xite {t : XEx} {a b : XSms} {o : Option Val} {ka kb : Lo σ τ} (he : evX P c t fr = o) (ha : Rl R R2 X (exXs P c (XSms.app a sx) fr h) ka) (hb : Rl R R2 X (exXs P c (XSms.app b sx) fr h) kb) : Rl R R2 X (exXs P c (.cons (.ite t a b) sx) fr h) (Lo.ob o ka kb) := by
  simp only [exXs, exX, he]
  rw [exXs_app] at ha hb
  match o with
  | none => trivial
  | some (.bl true) => exact ha
  | some (.bl false) => exact hb
  | some .non => trivial
  | some (.int _) => trivial
  | some (.str _) => trivial
  | some (.tup _) => trivial
  | some (.ref _) => trivial
  | some (.fn _) => trivial
  | some (.lst _) => trivial
  | some (.dik _) => trivial
  | some (.ins _ _) => trivial
  | some (.ktp _) => trivial
  | some (.kdk _) => trivial
  | some (.kls _) => trivial
end
/-! ### what changes containers -/
section
variable {σ τ ρ α : Type} {R : σ → Fr → Prop} {R2 : τ → Fr → Prop} {X : Fr → Prop} {fr : Fr} {h : Mem}
variable {P : Pg} {call callI : Nat → List Val → Mem → Res Ret} {ss : Sms}
theorem of_op {fr : Fr} {o : Option Mem} {K : Fr → Mem → SR} {k : Mem → Lo σ τ} (hk : ∀ h, Rl R R2 X (K fr h) (k h)) : Rl R R2 X ((SR.of fr o).andThen K) (Lo.op o k) := by
  cases o with
  | none => trivial
  | some h => exact hk h
theorem rl_asgA {o e : Ex} {f : Nat} {ro : Mem → Res Val} {re : Res Val} {k : Mem → Lo σ τ} (he : ev P call callI e fr h = re) (ho : ∀ h, ev P call callI o fr h = ro h) (hx : X fr) (hk : ∀ h, Rl R R2 X (exs P call callI ss fr h) (k h)) :
    Rl R R2 X (exs P call callI (.cons (.asgA o f e) ss) fr h) (re.lo fun y h => (ro h).lo fun x h => Lo.op (setA P f x y h) k) := by
  simp only [exs, ex, he, ho, lift_then]
  exact rl_lo hx fun y h => rl_lo hx fun x h => of_op hk
theorem rl_asgI {o i e : Ex} {ro ri : Mem → Res Val} {re : Res Val} {k : Mem → Lo σ τ} (he : ev P call callI e fr h = re) (ho : ∀ h, ev P call callI o fr h = ro h) (hi : ∀ h, ev P call callI i fr h = ri h) (hx : X fr) (hk : ∀ h, Rl R R2 X (exs P call callI ss fr h) (k h)) :
    Rl R R2 X (exs P call callI (.cons (.asgI o i e) ss) fr h) (re.lo fun y h => (ro h).lo fun x h => (ri h).lo fun z h => Lo.op (setV x z y h) k) := by
  simp only [exs, ex, he, ho, hi, lift_then]
  exact rl_lo hx fun y h => rl_lo hx fun x h => rl_lo hx fun z h => of_op hk
theorem rl_del {o i : Ex} {ri : Mem → Res Val} {ro : Res Val} {k : Mem → Lo σ τ} (ho : ev P call callI o fr h = ro) (hi : ∀ h, ev P call callI i fr h = ri h) (hx : X fr) (hk : ∀ h, Rl R R2 X (exs P call callI ss fr h) (k h)) :
    Rl R R2 X (exs P call callI (.cons (.del o i) ss) fr h) (ro.lo fun x h => (ri h).lo fun z h => Lo.op (delV x z h) k) := by
  simp only [exs, ex, ho, hi, lift_then]
  exact rl_lo hx fun x h => rl_lo hx fun z h => of_op hk
theorem rl_augA {o e : Ex} {f : Nat} {s : Bool} {re : Mem → Res Val} {ro : Res Val} {k : Mem → Lo σ τ} (ho : ev P call callI o fr h = ro) (he : ∀ h, ev P call callI e fr h = re h) (hx : X fr) (hk : ∀ h, Rl R R2 X (exs P call callI ss fr h) (k h)) :
    Rl R R2 X (exs P call callI (.cons (.augA o f s e) ss) fr h) (ro.lo fun x h => augS P f s x h re k) := by
  simp only [exs, ex, ho, he, lift_then]
  refine rl_lo hx fun x h => ?_
  unfold augS
  cases x <;> first | trivial | skip
  rename_i n
  dsimp only
  cases e1 : h[n]? with
  | none => trivial
  | some o =>
    cases o <;> first | trivial | skip
    rename_i c fs
    dsimp only
    cases e2 : (if fldF P c f then (fs.lookup f).bind slV? else none) with
    | none => simp only [e2]; trivial
    | some u =>
      simp only [e2]
      rw [lift_then]
      refine rl_lo hx fun y h2 => ?_
      cases augI s _ y with
      | none => trivial
      | some z =>
        dsimp only
        split
        · exact of_op hk
        · trivial
theorem setT_S {as : List (Nat × Nat)} {bs : List (Val × Nat)} (hb : as.map (fun p => (fr[p.1]?, p.2)) = bs.map (fun p => (some (Sl.v p.1), p.2))) : ∀ (vs : List Val) (h : Mem), setT P fr as vs h = setTS P bs vs h := by
  induction as generalizing bs with
  | nil => intro vs h; cases bs with
    | nil => cases vs <;> rfl
    | cons => simp at hb
  | cons a as ih =>
    intro vs h
    cases bs with
    | nil => simp at hb
    | cons b bs =>
      simp only [List.map_cons, List.cons.injEq, Prod.mk.injEq] at hb
      obtain ⟨⟨h1, h2⟩, h3⟩ := hb
      cases vs with
      | nil => obtain ⟨a1, a2⟩ := a; obtain ⟨b1, b2⟩ := b; rfl
      | cons v vs =>
        obtain ⟨a1, a2⟩ := a
        obtain ⟨b1, b2⟩ := b
        simp only at h1 h2
        subst h2
        simp only [setT, setTS, h1]
        cases setA P a2 b1 v h with
        | none => rfl
        | some h' => exact ih h3 vs h'
def tupO' (v : Val) : Option (List Val) := match v with
  | .tup vs => some vs
  | _ => none
theorem rl_asgT {as : List (Nat × Nat)} {e : Ex} {r : Res Val} {k : Mem → Lo σ τ} (bs : List (Val × Nat)) (he : ev P call callI e fr h = r) (hb : as.map (fun p => (fr[p.1]?, p.2)) = bs.map (fun p => (some (Sl.v p.1), p.2))) (hx : X fr) (hk : ∀ h, Rl R R2 X (exs P call callI ss fr h) (k h)) :
    Rl R R2 X (exs P call callI (.cons (.asgT as e) ss) fr h) (r.lo fun v h => Lo.op ((tupO' v).bind fun vs => setTS P bs vs h) k) := by
  simp only [exs, ex, he, lift_then]
  refine rl_lo hx fun v h => ?_
  cases v <;> first | trivial | skip
  simp only [tupO', Option.bind_some, setT_S hb]
  exact of_op hk
theorem rl_ownA {i f : Nat} {a : Az} {x : Val} {r : Res Con} {k : Mem → Lo σ τ} (hi : fr[i]? = some (.v x)) (he : evA P call callI a fr h = r) (hx : X fr) (hk : ∀ h, Rl R R2 X (exs P call callI ss fr h) (k h)) :
    Rl R R2 X (exs P call callI (.cons (.ownA i f a) ss) fr h) (r.lo fun c h => Lo.op (ownS P f x c h) k) := by
  simp only [exs, ex, he, lift_then, hi]
  refine rl_lo hx fun c h => ?_
  unfold ownS
  cases x <;> first | trivial | skip
  simp only
  rename_i n
  cases h[n]? with
  | none => trivial
  | some o =>
    cases o <;> first | trivial | skip
    dsimp only
    split
    · exact hk _
    · trivial
theorem rl_papp {i : Nat} {e : Ex} {c : Con} {r : Res Val} {k : Con → Mem → Lo σ τ} (f : Con → Fr) (hc : fr[i]? = some (.o c)) (he : ev P call callI e fr h = r) (hf : ∀ c, fr.set i (.o c) = f c) (hx : X fr) (hk : ∀ c h, Rl R R2 X (exs P call callI ss (f c) h) (k c h)) :
    Rl R R2 X (exs P call callI (.cons (.papp (.s i) e) ss) fr h) (if isLst c then r.lo fun v h => Lo.op (capp c v) fun c => k c h else .bad) := by
  have ep : ∀ h, evp P (.s i) fr h = some c := fun h => by simp only [evp, hc]
  simp only [exs, ex, he, ep, Option.any_some]
  cases isLst c with
  | false => trivial
  | true =>
    simp only [Bool.not_true, Bool.false_eq_true, if_false, if_true, lift_then, Option.bind_some]
    refine rl_lo hx fun v h => ?_
    cases capp c v with
    | none => trivial
    | some c' =>
      simp only [Option.bind_some, putp, hc, SR.of2, hf]
      exact hk c' h
theorem rl_pext {i : Nat} {e : Ex} {c : Con} {r : Res Val} {k : Con → Mem → Lo σ τ} (f : Con → Fr) (hc : fr[i]? = some (.o c)) (he : ev P call callI e fr h = r) (hf : ∀ c, fr.set i (.o c) = f c) (hx : X fr) (hk : ∀ c h, Rl R R2 X (exs P call callI ss (f c) h) (k c h)) :
    Rl R R2 X (exs P call callI (.cons (.pext (.s i) e) ss) fr h) (if isLst c then r.lo fun v h => Lo.op (cext h c v) fun c => k c h else .bad) := by
  have ep : ∀ h, evp P (.s i) fr h = some c := fun h => by simp only [evp, hc]
  simp only [exs, ex, he, ep, Option.any_some]
  cases isLst c with
  | false => trivial
  | true =>
    simp only [Bool.not_true, Bool.false_eq_true, if_false, if_true, lift_then, Option.bind_some]
    refine rl_lo hx fun v h => ?_
    cases cext h c v with
    | none => trivial
    | some c' =>
      simp only [Option.bind_some, putp, hc, SR.of2, hf]
      exact hk c' h
theorem rl_padd {i : Nat} {e : Ex} {c : Con} {r : Res Val} {k : Con → Mem → Lo σ τ} (f : Con → Fr) (hc : fr[i]? = some (.o c)) (he : ev P call callI e fr h = r) (hf : ∀ c, fr.set i (.o c) = f c) (hx : X fr) (hk : ∀ c h, Rl R R2 X (exs P call callI ss (f c) h) (k c h)) :
    Rl R R2 X (exs P call callI (.cons (.padd (.s i) e) ss) fr h) (if isSet c then r.lo fun v h => Lo.op (cadd c v) fun c => k c h else .bad) := by
  have ep : ∀ h, evp P (.s i) fr h = some c := fun h => by simp only [evp, hc]
  simp only [exs, ex, he, ep, Option.any_some]
  cases isSet c with
  | false => trivial
  | true =>
    simp only [Bool.not_true, Bool.false_eq_true, if_false, if_true, lift_then, Option.bind_some]
    refine rl_lo hx fun v h => ?_
    cases cadd c v with
    | none => trivial
    | some c' =>
      simp only [Option.bind_some, putp, hc, SR.of2, hf]
      exact hk c' h
theorem rl_pset {i : Nat} {e j : Ex} {c : Con} {r : Res Val} {rj : Mem → Res Val} {k : Con → Mem → Lo σ τ} (f : Con → Fr) (hc : fr[i]? = some (.o c)) (he : ev P call callI e fr h = r) (hj : ∀ h, ev P call callI j fr h = rj h) (hf : ∀ c, fr.set i (.o c) = f c) (hx : X fr) (hk : ∀ c h, Rl R R2 X (exs P call callI ss (f c) h) (k c h)) :
    Rl R R2 X (exs P call callI (.cons (.pset (.s i) j e) ss) fr h) (r.lo fun v h => (rj h).lo fun w h => Lo.op (cset c w v) fun c => k c h) := by
  have ep : ∀ h, evp P (.s i) fr h = some c := fun h => by simp only [evp, hc]
  simp only [exs, ex, he, hj, ep, Option.isSome_some, Bool.not_true, Bool.false_eq_true, if_false, lift_then, Option.bind_some]
  refine rl_lo hx fun v h => rl_lo hx fun w h => ?_
  cases cset c w v with
  | none => trivial
  | some c' =>
    simp only [Option.bind_some, putp, hc, SR.of2, hf]
    exact hk c' h
theorem rl_pdel {i : Nat} {j : Ex} {c : Con} {r : Res Val} {k : Con → Mem → Lo σ τ} (f : Con → Fr) (hc : fr[i]? = some (.o c)) (hj : ev P call callI j fr h = r) (hf : ∀ c, fr.set i (.o c) = f c) (hx : X fr) (hk : ∀ c h, Rl R R2 X (exs P call callI ss (f c) h) (k c h)) :
    Rl R R2 X (exs P call callI (.cons (.pdel (.s i) j) ss) fr h) (r.lo fun w h => Lo.op (cdel c w) fun c => k c h) := by
  have ep : ∀ h, evp P (.s i) fr h = some c := fun h => by simp only [evp, hc]
  simp only [exs, ex, hj, ep, Option.isSome_some, Bool.not_true, Bool.false_eq_true, if_false, lift_then, Option.bind_some]
  refine rl_lo hx fun w h => ?_
  cases cdel c w with
  | none => trivial
  | some c' =>
    simp only [Option.bind_some, putp, hc, SR.of2, hf]
    exact hk c' h
/-! own fields -/
theorem evp_f {i f : Nat} {x : Val} (hi : fr[i]? = some (.v x)) (h : Mem) : evp P (.f i f) fr h = fldS P f x h := by
  simp only [fldS, evp, hi, List.getElem?_cons_zero]
theorem putp_f {i f : Nat} {x : Val} {c : Con} (hi : fr[i]? = some (.v x)) (h : Mem) : putp (.f i f) c fr h = (putS f x c h).map fun h => (fr, h) := by
  simp only [putp, hi]
  unfold putS
  cases x <;> first | rfl | skip
  rename_i n
  dsimp only
  cases h[n]? with
  | none => rfl
  | some o =>
    cases o <;> first | rfl | skip
    rename_i d fs
    dsimp only
    cases fs.lookup f with
    | none => rfl
    | some s =>
      cases s <;> first | rfl | skip
      dsimp only
      split <;> rfl
theorem of2_op {o : Option Mem} {K : Fr → Mem → SR} {k : Mem → Lo σ τ} (hk : ∀ h, Rl R R2 X (K fr h) (k h)) : Rl R R2 X ((SR.of2 (o.map fun h => (fr, h))).andThen K) (Lo.op o k) := by
  cases o with
  | none => trivial
  | some h => exact hk h
theorem rl_pappF {i g : Nat} {e : Ex} {x : Val} {r : Res Val} {k : Mem → Lo σ τ} (hi : fr[i]? = some (.v x)) (he : ev P call callI e fr h = r) (hx : X fr) (hk : ∀ h, Rl R R2 X (exs P call callI ss fr h) (k h)) :
    Rl R R2 X (exs P call callI (.cons (.papp (.f i g) e) ss) fr h) (if (fldS P g x h).any isLst then r.lo fun v h => Lo.op ((fldS P g x h).bind fun c => capp c v) fun c => Lo.op (putS g x c h) k else .bad) := by
  simp only [exs, ex, he, evp_f hi]
  cases (fldS P g x h).any isLst with
  | false => trivial
  | true =>
    simp only [Bool.not_true, Bool.false_eq_true, if_false, if_true, lift_then]
    refine rl_lo hx fun v h => ?_
    cases (fldS P g x h).bind fun c => capp c v with
    | none => trivial
    | some c' =>
      simp only [Option.bind_some, putp_f hi, Lo.op_some]
      exact of2_op hk
theorem rl_pextF {i g : Nat} {e : Ex} {x : Val} {r : Res Val} {k : Mem → Lo σ τ} (hi : fr[i]? = some (.v x)) (he : ev P call callI e fr h = r) (hx : X fr) (hk : ∀ h, Rl R R2 X (exs P call callI ss fr h) (k h)) :
    Rl R R2 X (exs P call callI (.cons (.pext (.f i g) e) ss) fr h) (if (fldS P g x h).any isLst then r.lo fun v h => Lo.op ((fldS P g x h).bind fun c => cext h c v) fun c => Lo.op (putS g x c h) k else .bad) := by
  simp only [exs, ex, he, evp_f hi]
  cases (fldS P g x h).any isLst with
  | false => trivial
  | true =>
    simp only [Bool.not_true, Bool.false_eq_true, if_false, if_true, lift_then]
    refine rl_lo hx fun v h => ?_
    cases (fldS P g x h).bind fun c => cext h c v with
    | none => trivial
    | some c' =>
      simp only [Option.bind_some, putp_f hi, Lo.op_some]
      exact of2_op hk
theorem rl_psetF {i g : Nat} {e j : Ex} {x : Val} {r : Res Val} {rj : Mem → Res Val} {k : Mem → Lo σ τ} (hi : fr[i]? = some (.v x)) (he : ev P call callI e fr h = r) (hj : ∀ h, ev P call callI j fr h = rj h) (hx : X fr) (hk : ∀ h, Rl R R2 X (exs P call callI ss fr h) (k h)) :
    Rl R R2 X (exs P call callI (.cons (.pset (.f i g) j e) ss) fr h) (r.lo fun v h => if (fldS P g x h).isSome then (rj h).lo fun w h => Lo.op ((fldS P g x h).bind fun c => cset c w v) fun c => Lo.op (putS g x c h) k else .bad) := by
  simp only [exs, ex, he, hj, evp_f hi, lift_then]
  refine rl_lo hx fun v h => ?_
  cases (fldS P g x h).isSome with
  | false => trivial
  | true =>
    simp only [Bool.not_true, Bool.false_eq_true, if_false, if_true, lift_then]
    refine rl_lo hx fun w h => ?_
    cases (fldS P g x h).bind fun c => cset c w v with
    | none => trivial
    | some c' =>
      simp only [Option.bind_some, putp_f hi, Lo.op_some]
      exact of2_op hk
theorem rl_pdelF {i g : Nat} {j : Ex} {x : Val} {r : Res Val} {k : Mem → Lo σ τ} (hi : fr[i]? = some (.v x)) (hj : ev P call callI j fr h = r) (hx : X fr) (hk : ∀ h, Rl R R2 X (exs P call callI ss fr h) (k h)) :
    Rl R R2 X (exs P call callI (.cons (.pdel (.f i g) j) ss) fr h) (if (fldS P g x h).isSome then r.lo fun w h => Lo.op ((fldS P g x h).bind fun c => cdel c w) fun c => Lo.op (putS g x c h) k else .bad) := by
  simp only [exs, ex, hj, evp_f hi]
  cases (fldS P g x h).isSome with
  | false => trivial
  | true =>
    simp only [Bool.not_true, Bool.false_eq_true, if_false, if_true, lift_then]
    refine rl_lo hx fun w h => ?_
    cases (fldS P g x h).bind fun c => cdel c w with
    | none => trivial
    | some c' =>
      simp only [Option.bind_some, putp_f hi, Lo.op_some]
      exact of2_op hk
def backL (n f : Nat) (c : Con) : Lo σ τ → Lo σ τ
  | .nx s h => Lo.op (backM n f c h) fun h => .nx s h
  | .bk s h => Lo.op (backM n f c h) fun h => .bk s h
  | .ct s h => Lo.op (backM n f c h) fun h => .ct s h
  | .rt v h => Lo.op (backM n f c h) fun h => .rt v h
  | .exc e h => Lo.op (backM n f c h) fun h => .exc e h
  | .bad => .bad
theorem rl_back {n f : Nat} {c : Con} {a : SR} {b : Lo σ τ} (q : Rl R R2 X a b) : Rl R R2 X (backF n f c a) (backL n f c b) := by
  cases a with
  | ok fl fr h => cases fl <;> cases b <;> first | exact q.elim | (obtain ⟨q, rfl⟩ := q; simp only [backF, backL]; cases backM n f c h <;> first | trivial | exact ⟨q, rfl⟩)
  | exc e fr h => cases b <;> first | exact q.elim | (obtain ⟨rfl, rfl, q⟩ := q; simp only [backF, backL]; cases backM n f c h <;> first | trivial | exact ⟨rfl, rfl, q⟩)
  | bad => cases b <;> first | exact q.elim | trivial
def forFS (P : Pg) (r : Bool) (f : Nat) (x : Val) (h : Mem) (k : Val → ρ → Mem → Lo ρ ρ) (s : ρ) : Lo ρ τ := match x with
  | .ref n => match h[n]? with
      | some (.ins d fs) => (match fs.lookup f with
        | some (.o (.lst xs)) => if fldF P d f && nodupF fs then backL n f (.lst xs) (forS (.sn (if r then xs.reverse else xs)) k xs.length 0 s (h.set n (.ins d (fput f .e fs)))) else .bad
        | _ => .bad)
      | _ => .bad
  | _ => .bad
theorem rl_forF {rv : Bool} {tg : Tgt} {i f : Nat} {b : Sms} {x : Val} {k : Val → ρ → Mem → Lo ρ ρ} {kk : ρ → Mem → Lo σ τ} (I : ρ → Fr → Prop) {s : ρ} (hi : fr[i]? = some (.v x)) (h0 : I s fr) (hb : ∀ v s fr h, I s fr → Rl I I X (putB tg h v fr (exs P call callI b)) (k v s h)) (hk : ∀ s fr h, I s fr → Rl R R2 X (exs P call callI ss fr h) (kk s h)) :
    Rl R R2 X (exs P call callI (.cons (.forF rv tg i f b) ss) fr h) ((forFS P rv f x h k s).seq kk) := by
  simp only [exs, ex, hi]
  refine rl_seq (R' := I) ?_ hk
  unfold forFS
  cases x <;> first | trivial | skip
  rename_i n
  dsimp only
  cases h[n]? with
  | none => trivial
  | some o =>
    cases o <;> first | trivial | skip
    rename_i d fs
    dsimp only
    cases fs.lookup f with
    | none => trivial
    | some s =>
      cases s <;> first | trivial | skip
      rename_i c
      cases c <;> first | trivial | skip
      dsimp only
      cases fldF P _ f && nodupF _ with
      | false => trivial
      | true => exact rl_back (rl_forG hb _ _ _ _ _ h0)
def unlkL (n : Nat) (c : Con) : Lo σ τ → Lo σ τ
  | .nx s h => match h[n]? with | some (.lck _) => .nx s (h.set n (.con c)) | _ => .bad
  | .bk s h => match h[n]? with | some (.lck _) => .bk s (h.set n (.con c)) | _ => .bad
  | .ct s h => match h[n]? with | some (.lck _) => .ct s (h.set n (.con c)) | _ => .bad
  | .rt v h => match h[n]? with | some (.lck _) => .rt v (h.set n (.con c)) | _ => .bad
  | .exc e h => .exc e h
  | .bad => .bad
theorem rl_unlk {n : Nat} {c : Con} {a : SR} {b : Lo σ τ} (q : Rl R R2 X a b) : Rl R R2 X (unlk n c a) (unlkL n c b) := by
  cases a with
  | ok fl fr h => cases fl <;> cases b <;> first | exact q.elim | (obtain ⟨q, rfl⟩ := q; simp only [unlk, unlkL]; cases h[n]? with | none => trivial | some ob => cases ob <;> first | trivial | exact ⟨q, rfl⟩)
  | exc e fr h => cases b <;> first | exact q.elim | exact q
  | bad => cases b <;> first | exact q.elim | trivial
def forDS (p : Bool) (o : Option Val) (h : Mem) (k : Val → ρ → Mem → Lo ρ ρ) (s : ρ) : Lo ρ τ := match o with
  | some (.dik kvs) => forS (.sn (dItems p kvs)) k kvs.length 0 s h
  | some (.ref n) => (match h[n]? with
    | some (.con (.dik kvs)) => unlkL n (.dik kvs) (forS (.sn (dItems p kvs)) k kvs.length 0 s (h.set n (.lck (.dik kvs))))
    | some (.lck (.dik kvs)) => forS (.sn (dItems p kvs)) k kvs.length 0 s h
    | _ => .bad)
  | _ => .bad
theorem rl_forD {p : Bool} {tg : Tgt} {e : Ex} {b : Sms} {o : Option Val} {k : Val → ρ → Mem → Lo ρ ρ} {kk : ρ → Mem → Lo σ τ} (I : ρ → Fr → Prop) {s : ρ} (hd : ddV P e fr h = o) (h0 : I s fr) (hb : ∀ v s fr h, I s fr → Rl I I X (putB tg h v fr (exs P call callI b)) (k v s h)) (hk : ∀ s fr h, I s fr → Rl R R2 X (exs P call callI ss fr h) (kk s h)) :
    Rl R R2 X (exs P call callI (.cons (.forD p tg e b) ss) fr h) ((forDS p o h k s).seq kk) := by
  simp only [exs, ex, hd]
  refine rl_seq (R' := I) ?_ hk
  unfold forDS
  match o with
  | none => trivial
  | some (.dik kvs) => exact rl_forG hb _ _ _ _ _ h0
  | some (.ref n) =>
    simp only
    cases h[n]? with
    | none => trivial
    | some ob =>
      match ob with
      | .con (.dik kvs) => exact rl_unlk (rl_forG hb _ _ _ _ _ h0)
      | .lck (.dik kvs) => exact rl_forG hb _ _ _ _ _ h0
      | .con (.lst _) => trivial
      | .con (.dit _) => trivial
      | .con (.set _) => trivial
      | .lck (.lst _) => trivial
      | .lck (.dit _) => trivial
      | .lck (.set _) => trivial
      | .ins _ _ => trivial
  | some .non => trivial
  | some (.bl _) => trivial
  | some (.int _) => trivial
  | some (.str _) => trivial
  | some (.tup _) => trivial
  | some (.fn _) => trivial
  | some (.lst _) => trivial
  | some (.ins _ _) => trivial
  | some (.ktp _) => trivial
  | some (.kdk _) => trivial
  | some (.kls _) => trivial
end
/-! ### comprehensions and tests -/
section
variable {P : Pg} {call callI : Nat → List Val → Mem → Res Ret} {fr : Fr} {h : Mem}
theorem comp_eq {tg : Tgt} {cond : Fr → Mem → Res Bool} {elt : Fr → Mem → Res Val} {fr : Fr} (body : Val → Mem → Res (Option Val)) (hb : ∀ v h, (match tg.put h v fr with | none => .bad | some fr1 => (cond fr1 h).bind fun t h => if t then (elt fr1 h).bind sm else .ok none h) = body v h) {t : Itr} : ∀ (r i : Nat) (acc : List Val) (h : Mem), compG t tg cond elt fr r i acc h = compS t body r i acc h
  | 0, i, acc, h => rfl
  | r + 1, i, acc, h => by
    simp only [compG, compS]
    cases t.at i h with
    | none => rfl
    | some v =>
      simp only [← hb v h]
      cases tg.put h v fr with
      | none => rfl
      | some fr1 =>
        simp only
        cases cond fr1 h with
        | bad => rfl
        | exc c h => rfl
        | ok t h1 =>
          cases t with
          | false => simp only [Res.bind_ok, Bool.false_eq_true, if_false]; exact comp_eq body hb _ _ _ _
          | true =>
            simp only [Res.bind_ok, if_true]
            cases elt fr1 h1 with
            | bad => rfl
            | exc c h => rfl
            | ok x h2 => simp only [Res.bind_ok, sm]; split <;> first | rfl | exact comp_eq body hb _ _ _ _
theorem compA_eq {tg : Tgt} {cond : Fr → Mem → Res Bool} {elt : Fr → Mem → Res Val} {fr : Fr} (body : Val → Mem → Res (Option Val)) (hb : ∀ v h, (match tg.put h v fr with | none => .bad | some fr1 => (cond fr1 h).bind fun t h => if t then (elt fr1 h).bind sm else .ok none h) = body v h) : (fun (t : Itr) (h : Mem) => compG t tg cond elt fr (t.cnt h) 0 [] h) = compA body :=
  funext fun t => funext fun h => comp_eq body hb _ _ _ _
theorem evt_cmp {o : Cop} {a b : Ex} : evt P call callI (.e (.cmp o a b)) fr h = (ev P call callI a fr h).bind fun v h => (ev P call callI b fr h).bind fun w h => cmpB o v w h := by
  simp only [evt, ev, cmpB]
  cases ev P call callI a fr h with
  | ok v h =>
    simp only [Res.bind_ok]
    cases ev P call callI b fr h with
    | ok w h =>
      simp only [Res.bind_ok]
      cases cmpV h o v w <;> rfl
    | _ => rfl
  | _ => rfl
theorem evt_isi {a : Ex} {t : Ty} : evt P call callI (.e (.isi a t)) fr h = (ev P call callI a fr h).bind fun v h => pure h (isiV P.ist h t v) := by
  simp only [evt, ev]
  cases ev P call callI a fr h with
  | ok v h =>
    simp only [Res.bind_ok]
    cases isiV P.ist h t v <;> rfl
  | _ => rfl
theorem evt_isN {a : Ex} {n : Bool} : evt P call callI (.e (.isN n a)) fr h = (ev P call callI a fr h).bind fun v h => .ok (isNS n v) h := by
  simp only [evt, ev]
  cases ev P call callI a fr h with
  | ok v h => cases v <;> rfl
  | _ => rfl
theorem evt_nt {a : Ex} : evt P call callI (.e (.nt a)) fr h = evt P call callI (.nt (.e a)) fr h := by
  simp only [evt, ev]
  cases ev P call callI a fr h with
  | ok v h =>
    simp only [Res.bind_ok]
    cases tru h v <;> rfl
  | _ => rfl
theorem evt_and {a b : Ex} : evt P call callI (.e (.and a b)) fr h = evt P call callI (.and (.e a) (.e b)) fr h := by
  simp only [evt, ev]
  cases ev P call callI a fr h with
  | ok v h =>
    simp only [Res.bind_ok]
    cases e : tru h v with
    | none => rfl
    | some t => cases t <;> simp [e]
  | _ => rfl
theorem evt_or {a b : Ex} : evt P call callI (.e (.or a b)) fr h = evt P call callI (.or (.e a) (.e b)) fr h := by
  simp only [evt, ev]
  cases ev P call callI a fr h with
  | ok v h =>
    simp only [Res.bind_ok]
    cases e : tru h v with
    | none => rfl
    | some t => cases t <;> simp [e]
  | _ => rfl
theorem evt_Nt {a : Te} : evt P call callI (.nt a) fr h = (evt P call callI a fr h).bind fun t h => .ok (!t) h := rfl
theorem evt_And {a b : Te} : evt P call callI (.and a b) fr h = (evt P call callI a fr h).bind fun t h => if t then evt P call callI b fr h else .ok false h := rfl
theorem evt_Or {a b : Te} : evt P call callI (.or a b) fr h = (evt P call callI a fr h).bind fun t h => if t then .ok true h else evt P call callI b fr h := rfl
theorem evt_bl {b : Bool} : evt P call callI (.e (.lit (.bl b))) fr h = .ok b h := rfl
theorem evt_chn {o p : Cop} {a b c : Ex} : evt P call callI (.e (.chn o p a b c)) fr h = (ev P call callI a fr h).bind fun v h => (ev P call callI b fr h).bind fun w h => (cmpB o v w h).bind fun t h => if t then (ev P call callI c fr h).bind fun x h => cmpB p w x h else .ok false h := by
  simp only [evt, ev, cmpB]
  cases ev P call callI a fr h with
  | ok v h =>
    simp only [Res.bind_ok]
    cases ev P call callI b fr h with
    | ok w h =>
      simp only [Res.bind_ok]
      cases cmpV h o v w with
      | none => rfl
      | some t =>
        cases t with
        | false => rfl
        | true =>
          simp only [pure_some, Res.bind_ok, if_true]
          cases ev P call callI c fr h with
          | ok x h =>
            simp only [Res.bind_ok]
            cases cmpV h p w x <;> rfl
          | _ => rfl
    | _ => rfl
  | _ => rfl
end
section
variable {α : Type} {fr : Fr} {h : Mem} {v : Val}
theorem um1_put {F : Fr → Res α} {i : Nat} : (match Tgt.put h (.t [.v i]) v fr with | none => .bad | some fr1 => F fr1) = um1 h v fun a => F (fr.set i (.v a)) := by
  unfold um1
  simp only [Tgt.put]
  cases seqA h v with
  | none => rfl
  | some xs =>
    match xs with
    | [] => rfl
    | [a] => rfl
    | a :: b :: r => rfl
theorem um2_put {F : Fr → Res α} {i j : Nat} : (match Tgt.put h (.t [.v i, .v j]) v fr with | none => .bad | some fr1 => F fr1) = um2 h v fun a b => F ((fr.set i (.v a)).set j (.v b)) := by
  unfold um2
  simp only [Tgt.put]
  cases seqA h v with
  | none => rfl
  | some xs =>
    match xs with
    | [] => rfl
    | [a] => rfl
    | [a, b] => rfl
    | a :: b :: c :: r => rfl
theorem um3_put {F : Fr → Res α} {i j l : Nat} : (match Tgt.put h (.t [.v i, .v j, .v l]) v fr with | none => .bad | some fr1 => F fr1) = um3 h v fun a b c => F (((fr.set i (.v a)).set j (.v b)).set l (.v c)) := by
  unfold um3
  simp only [Tgt.put]
  cases seqA h v with
  | none => rfl
  | some xs =>
    match xs with
    | [] => rfl
    | [a] => rfl
    | [a, b] => rfl
    | [a, b, c] => rfl
    | a :: b :: c :: d :: r => rfl
theorem um4_put {F : Fr → Res α} {i j l m : Nat} : (match Tgt.put h (.t [.v i, .v j, .v l, .v m]) v fr with | none => .bad | some fr1 => F fr1) = um4 h v fun a b c d => F ((((fr.set i (.v a)).set j (.v b)).set l (.v c)).set m (.v d)) := by
  unfold um4
  simp only [Tgt.put]
  cases seqA h v with
  | none => rfl
  | some xs =>
    match xs with
    | [] => rfl
    | [a] => rfl
    | [a, b] => rfl
    | [a, b, c] => rfl
    | [a, b, c, d] => rfl
    | a :: b :: c :: d :: e :: r => rfl
end
theorem run_eq {P : Pg} {k i : Nat} {vs : List Val} {h : Mem} {F : Fn} {fr : Fr} {b : Sms} (hP : P.fn i = some F) (ha : argsF F vs = some vs) (hs : start F vs = fr) (hb : F.body = b) : run P (k + 2) i vs h = fin (exs P (run P (k + 1)) (run P k) b fr h) := by
  subst hs hb
  simp only [run, hP, ha]
end
end PyI
/-! What is said of frameless programs. -/
namespace PyI
theorem szlQ : szl = 16777216 := Nat.le_antisymm (Nat.le_refl _) (Nat.le_refl _)
theorem small_lit (n : Nat) : small (no_index (OfNat.ofNat n : Int)) = decide ((OfNat.ofNat n : Nat) < 18446744073709551616) := by
  show small (OfNat.ofNat n : Int) = decide (n < 18446744073709551616)
  rw [small_eq]
  apply decide_eq_decide.mpr
  show _ ∧ ((n : Int) < _) ↔ _
  constructor
  · intro h; omega
  · intro h; constructor
    · show _ < (n : Int); omega
    · omega
theorem small_of {i : Int} (h1 : -18446744073709551616 < i) (h2 : i < 18446744073709551616) : small i = true := by
  rw [small_eq]; exact decide_eq_true ⟨by omega, by omega⟩
theorem big_lit (n : Nat) : big (no_index (OfNat.ofNat n : Int)) = decide ((OfNat.ofNat n : Nat) < 4611686018427387904) := by
  show big (OfNat.ofNat n : Int) = decide (n < 4611686018427387904)
  rw [big_eq]
  have h1 : decide (-(2 ^ 62) ≤ (OfNat.ofNat n : Int)) = true := decide_eq_true (by show _ ≤ (n : Int); omega)
  rw [h1, Bool.true_and]
  apply decide_eq_decide.mpr
  show (n : Int) < _ ↔ _
  constructor <;> intro h <;> omega
theorem big_of {i : Int} (h1 : -4611686018427387904 ≤ i) (h2 : i < 4611686018427387904) : big i = true := by
  rw [big_eq, decide_eq_true (show -(2 ^ 62) ≤ i by omega), decide_eq_true (show i < 2 ^ 62 by omega)]; rfl
theorem wide_lit (n : Nat) (h1 : 0 < n) (h2 : n < 18446744073709551616) : wide (OfNat.ofNat n : Int) = true := by
  rw [wide_eq]
  apply decide_eq_true
  show 0 < (n : Int) ∧ (n : Int).natAbs.log2 < 9000
  refine ⟨by omega, ?_⟩
  have : (n : Int).natAbs = n := rfl
  rw [this]
  have : n.log2 < 64 := (Nat.log2_lt (by omega)).mpr (by omega)
  omega
theorem wide_of {i : Int} (h1 : 0 < i) (h2 : i < 18446744073709551616) : wide i = true := by
  obtain ⟨n, rfl⟩ := Int.eq_ofNat_of_zero_le (Int.le_of_lt h1)
  exact wide_lit n (by omega) (by omega)
/-! ### operators -/
section
variable {h : Mem} {a b : Int} {xs ys : List Val} {s t : Txt}
theorem add_int : binV .add (.int a) (.int b) h = .ok (.int (a + b)) h := rfl
theorem sub_int : binV .sub (.int a) (.int b) h = .ok (.int (a - b)) h := rfl
theorem mul_r (h1 : -18446744073709551616 < b) (h2 : b < 18446744073709551616) : binV .mul (.int a) (.int b) h = .ok (.int (a * b)) h := by
  simp only [binV, mulV, mulL, lsA, mulP, small_of h1 h2, Bool.or_true, Bool.true_or, if_true]
theorem mul_l (h1 : -18446744073709551616 < a) (h2 : a < 18446744073709551616) : binV .mul (.int a) (.int b) h = .ok (.int (a * b)) h := by
  simp only [binV, mulV, mulL, lsA, mulP, small_of h1 h2, Bool.true_or, if_true]
theorem mul_small (hs : small b = true) : binV .mul (.int a) (.int b) h = .ok (.int (a * b)) h := by
  simp only [binV, mulV, mulL, lsA, mulP, hs, Bool.or_true, Bool.true_or, if_true]
theorem log2_100 {a : Int} (h0 : 0 ≤ a) (h1 : a < 1267650600228229401496703205376) : a.natAbs.log2 < 100 := by
  obtain ⟨n, rfl⟩ := Int.eq_ofNat_of_zero_le h0
  have h2 : n < 1267650600228229401496703205376 := by omega
  show n.log2 < 100
  by_cases z : n = 0
  · subst z; decide
  · exact (Nat.log2_lt z).mpr h2
theorem mul_wide (h0 : 0 ≤ a) (h1 : a < 1267650600228229401496703205376) (h2 : 0 ≤ b) (h3 : b < 1267650600228229401496703205376) : binV .mul (.int a) (.int b) h = .ok (.int (a * b)) h := by
  have e : mid a b = true := by
    rw [mid_eq]
    have := log2_100 h0 h1
    have := log2_100 h2 h3
    exact decide_eq_true (by omega)
  simp only [binV, mulV, mulL, lsA, mulP, e, Bool.or_true, if_true]
theorem div_wide (h1 : 0 < b) (h2 : b < 1267650600228229401496703205376) : binV .div (.int a) (.int b) h = .ok (.int (a / b)) h := by
  have e : wide b = true := by
    rw [wide_eq]
    have := log2_100 (Int.le_of_lt h1) h2
    exact decide_eq_true ⟨h1, by omega⟩
  simp only [binV, e, if_true]
theorem div_pos (h1 : 0 < b) (h2 : b < 18446744073709551616) : binV .div (.int a) (.int b) h = .ok (.int (a / b)) h := by
  simp only [binV, wide_of h1 h2, if_true]
theorem mod_pos (h1 : 0 < b) : binV .mod (.int a) (.int b) h = .ok (.int (a % b)) h := by
  simp only [binV, h1, if_true]
theorem pow_int (h1 : -18446744073709551616 < a) (h2 : a < 18446744073709551616) (h3 : 0 ≤ b) (h4 : b ≤ 1000000) : binV .pow (.int a) (.int b) h = .ok (.int (a ^ b.toNat)) h := by
  simp only [binV, small_of h1 h2, h3, h4, decide_true, Bool.and_self, if_true]
theorem add_str (hl : s.length + t.length ≤ szl) : binV .add (.str s) (.str t) h = .ok (.str (s ++ t)) h := by
  simp only [binV, addV, addL, lsA, addP, hl, if_true]
theorem add_tup (hl : xs.length + ys.length ≤ szl) : binV .add (.tup xs) (.tup ys) h = .ok (.tup (xs ++ ys)) h := by
  simp only [binV, addV, addL, lsA, addP, hl, if_true]
theorem add_lst (hl : xs.length + ys.length ≤ szl) : binV .add (.lst xs) (.lst ys) h = .ok (.lst (xs ++ ys)) h := by
  simp only [binV, addV, addL, lsA, hl, if_true, cVal, pure_some]
theorem addL_lst (hl : xs.length + ys.length ≤ szl) : addL (.lst xs) (.lst ys) h = some (.lst (xs ++ ys)) := by
  simp only [addL, lsA, hl, if_true]
theorem mul_str (h1 : 0 ≤ b) (h2 : b < 4611686018427387904) (hl : s.length * b.toNat ≤ szl) : binV .mul (.str s) (.int b) h = .ok (.str (List.replicate b.toNat s).flatten) h := by
  have e1 : decide (-(2 ^ 62) ≤ b) = true := decide_eq_true (by omega)
  have e2 : decide (b < 2 ^ 62) = true := decide_eq_true (by omega)
  simp only [binV, mulV, mulL, lsA, mulP, e1, e2, hl, decide_true, Bool.and_self, if_true]
theorem ntS_bl (b : Bool) : ntS (.bl b) h = .ok (.bl (!b)) h := rfl
theorem truS_bl (b : Bool) : truS (.bl b) h = .ok b h := rfl
theorem truS_int : truS (.int a) h = .ok (a != 0) h := rfl
theorem truS_lst : truS (.lst xs) h = .ok (!xs.isEmpty) h := rfl
theorem truS_tup : truS (.tup xs) h = .ok (!xs.isEmpty) h := rfl
theorem truS_non : truS .non h = .ok false h := rfl
theorem truS_str (hs : s.length ≤ szl) : truS (.str s) h = .ok (!s.isEmpty) h := by simp only [truS, tru, hs, if_true, pure_some]
/-! ### reading -/
theorem ix_tup : ixV (.tup xs) (.int a) h = pure h (nth xs a) := rfl
theorem ix_ktp : ixV (.ktp xs) (.int a) h = pure h (nth xs a) := rfl
theorem ix_lst : ixV (.lst xs) (.int a) h = pure h (nth xs a) := rfl
theorem ix_kls : ixV (.kls xs) (.int a) h = pure h (nth xs a) := rfl
theorem ix_str (hs : s.length ≤ szl) : ixV (.str s) (.int a) h = pure h ((nth s a).map fun c => .str [c]) := by simp only [ixV, hs, if_true]
theorem nth_lit {α : Type} (xs : List α) (n : Nat) : nth xs (no_index (OfNat.ofNat n : Int)) = xs[(OfNat.ofNat n : Nat)]? := by
  unfold nth
  rw [if_pos (show (0 : Int) ≤ OfNat.ofNat n from (show 0 ≤ (n : Int) by omega))]
  rfl
theorem nth_neg1 {α : Type} (xs : List α) : nth xs (-1) = xs.getLast? := by
  unfold nth
  rw [if_neg (by decide)]
  cases xs with
  | nil => simp
  | cons x r =>
    rw [if_pos (by simp; omega)]
    rw [List.getLast?_eq_getElem?]
    congr 1
    simp
    omega
theorem nth_nat {α : Type} (xs : List α) (n : Nat) : nth xs (n : Int) = xs[n]? := by
  unfold nth
  rw [if_pos (by omega)]
  rfl
theorem nth_some {α : Type} {xs : List α} {i : Int} (d : α) (h1 : 0 ≤ i) (h2 : i < xs.length) : ∃ x, nth xs i = some x ∧ x ∈ xs := by
  have : i.toNat < xs.length := by omega
  refine ⟨xs[i.toNat], ?_, List.getElem_mem _⟩
  unfold nth
  rw [if_pos h1, List.getElem?_eq_getElem this]
theorem nth_at {α : Type} {xs : List α} {i : Int} (h1 : 0 ≤ i) : nth xs i = xs[i.toNat]? := by
  unfold nth; rw [if_pos h1]
theorem nth_map {α β : Type} (f : α → β) (xs : List α) (i : Int) : nth (xs.map f) i = (nth xs i).map f := by
  unfold nth
  rw [List.length_map]
  split
  · rw [List.getElem?_map]
  · split
    · rw [List.getElem?_map]
    · rfl
theorem sl_tup {lo hi : Option Int} : slV (.tup xs) lo hi h = .ok (.tup (cut xs lo hi)) h := rfl
theorem sl_lst {lo hi : Option Int} : slV (.lst xs) lo hi h = .ok (.lst (cut xs lo hi)) h := rfl
theorem sl_str {lo hi : Option Int} (hs : s.length ≤ szl) : slV (.str s) lo hi h = .ok (.str (cut s lo hi)) h := by
  simp only [slV, slL, lsA, Option.map_none, slP, hs, if_true]
theorem slL_lst {lo hi : Option Int} : slL (.lst xs) lo hi h = some (.lst (cut xs lo hi)) := rfl
theorem ixo_int : ixoS (.int a) h = .ok (some a) h := rfl
theorem len_lst : bltV .len [.lst xs] h = .ok (.int xs.length) h := rfl
theorem len_tup : bltV .len [.tup xs] h = .ok (.int xs.length) h := rfl
theorem len_ktp : bltV .len [.ktp xs] h = .ok (.int xs.length) h := rfl
theorem len_kls : bltV .len [.kls xs] h = .ok (.int xs.length) h := rfl
theorem len_str (hs : s.length ≤ szl) : bltV .len [.str s] h = .ok (.int s.length) h := by simp only [bltV, lenV, hs, if_true, Option.map_some, pure_some]
theorem int_int : bltV .int [.int a] h = .ok (.int a) h := rfl
theorem int_bl (b : Bool) : bltV .int [.bl b] h = .ok (.int (b2i b)) h := rfl
theorem tup_lst : bltV .tup [.lst xs] h = .ok (.tup xs) h := rfl
theorem tup_tup : bltV .tup [.tup xs] h = .ok (.tup xs) h := rfl
theorem max_int : bltV .max2 [.int a, .int b] h = .ok (.int (max a b)) h := rfl
theorem min_int : bltV .min2 [.int a, .int b] h = .ok (.int (min a b)) h := rfl
theorem lof_lst : lofV h (.lst xs) = some (.lst xs) := rfl
theorem lof_tup : lofV h (.tup xs) = some (.lst xs) := rfl
theorem tupS_ok {vs : List Val} (hl : vs.length ≤ szl) : tupS vs h = .ok (.tup vs) h := by simp only [tupS, hl, if_true]
theorem dspS_ok {vs : List Val} (hl : vs.length ≤ szl) : dspS vs h = .ok (.lst vs) h := by simp only [dspS, hl, if_true]
theorem conS_lst : conS (.lst xs) h = .ok (.lst xs) h := rfl
theorem conS_dik {kvs : List (Key × Val)} : conS (.dik kvs) h = .ok (.dik kvs) h := rfl
theorem lstS_ok : lstS xs h = .ok (.lst xs) h := rfl
theorem frsS_f : frsS (.f xs) h = .ok (.lst xs) h := rfl
theorem cVal_lst : cVal (.lst xs) = some (.lst xs) := rfl
theorem cVal_dik {kvs : List (Key × Val)} : cVal (.dik kvs) = some (.dik kvs) := rfl
theorem capp_lst {v : Val} (hl : xs.length < szl) : capp (.lst xs) v = some (.lst (xs ++ [v])) := by simp only [capp, hl, if_true]
theorem cext_lst (hl : xs.length + ys.length ≤ szl) : cext h (.lst xs) (.lst ys) = some (.lst (xs ++ ys)) := by simp only [cext, tlA, lsA, hl, if_true]
theorem cext_tup (hl : xs.length + ys.length ≤ szl) : cext h (.lst xs) (.tup ys) = some (.lst (xs ++ ys)) := by simp only [cext, tlA, hl, if_true]
theorem cset_lst {v : Val} : cset (.lst xs) (.int a) v = (ixOf xs.length a).map fun j => .lst (xs.set j v) := rfl
theorem isLst_lst : isLst (.lst xs) = true := rfl
theorem isSet_set {xs : List Int} : isSet (.set xs) = true := rfl
theorem pl_len_lst {vs : Mem → Res (List Val)} (hv : vs h = .ok [] h) : plS (some (.lst xs)) .len h vs (fun _ => some (.lst xs)) = .ok (.int xs.length) h := by
  simp only [plS, hv, Option.any_some, popOk, if_true, Res.bind_ok, Option.bind_some, plV, clen, Option.map_some, pure_some]
theorem pl_ix_lst {vs : Mem → Res (List Val)} (hv : vs h = .ok [.int a] h) : plS (some (.lst xs)) .ix h vs (fun _ => some (.lst xs)) = pure h (nth xs a) := by
  simp only [plS, hv, Option.any_some, popOk, if_true, Res.bind_ok, Option.bind_some, plV, cix]
theorem pl_tup_lst {vs : Mem → Res (List Val)} (hv : vs h = .ok [] h) : plS (some (.lst xs)) .tup h vs (fun _ => some (.lst xs)) = .ok (.tup xs) h := by
  simp only [plS, hv, Option.any_some, popOk, if_true, Res.bind_ok, Option.bind_some, plV, pure_some]
theorem truC_lst : truC (.lst xs) = some (!xs.isEmpty) := rfl
/-! ### slices -/
theorem cut_from {α : Type} {xs : List α} {a : Int} (h1 : 0 ≤ a) : cut xs (some a) none = xs.drop a.toNat := by
  simp only [cut, sIx]
  rw [if_neg (by omega), List.take_of_length_le (by simp)]
  by_cases q : a.toNat ≤ xs.length
  · congr 1; omega
  · rw [List.drop_of_length_le (by omega), List.drop_of_length_le (by omega)]
theorem cut_to {α : Type} {xs : List α} {b : Int} (h1 : 0 ≤ b) : cut xs none (some b) = xs.take b.toNat := by
  simp only [cut, sIx, List.drop_zero, Nat.sub_zero]
  rw [if_neg (by omega)]
  by_cases q : b.toNat ≤ xs.length
  · congr 1; omega
  · rw [List.take_of_length_le (by omega), List.take_of_length_le (by omega)]
theorem cut_mid {α : Type} {xs : List α} {a b : Int} (h1 : 0 ≤ a) (h2 : 0 ≤ b) : cut xs (some a) (some b) = (xs.drop a.toNat).take (b.toNat - a.toNat) := by
  simp only [cut, sIx]
  rw [if_neg (by omega), if_neg (by omega)]
  by_cases q : a.toNat ≤ xs.length
  · rw [show min a.toNat xs.length = a.toNat by omega]
    by_cases q2 : b.toNat ≤ xs.length
    · congr 1; omega
    · rw [List.take_of_length_le (by simp; omega), List.take_of_length_le (by simp; omega)]
  · rw [List.drop_of_length_le (by omega), List.drop_of_length_le (by omega)]; simp
/-! ### comparisons -/
theorem lt_int : cmpV h .lt (.int a) (.int b) = some (decide (a < b)) := rfl
theorem le_int : cmpV h .le (.int a) (.int b) = some (decide (a ≤ b)) := rfl
theorem gt_int : cmpV h .gt (.int a) (.int b) = some (decide (b < a)) := rfl
theorem ge_int : cmpV h .ge (.int a) (.int b) = some (decide (b ≤ a)) := rfl
theorem eq_int : cmpV h .eq (.int a) (.int b) = some (decide (a = b)) := rfl
theorem ne_int : cmpV h .ne (.int a) (.int b) = some (!decide (a = b)) := rfl
theorem eq_str : cmpV h .eq (.str s) (.str t) = some (decide (s = t)) := rfl
theorem ne_str : cmpV h .ne (.str s) (.str t) = some (!decide (s = t)) := rfl
theorem eq_gen {v w : Val} : cmpV h .eq v w = eqV h v w := rfl
theorem ne_gen {v w : Val} : cmpV h .ne v w = (eqV h v w).map (!·) := rfl
theorem in_tup {v : Val} : cmpV h .isin v (.tup xs) = (if flat v && xs.all flat then some (xs.any fun z => eqB h 1 z v) else none) := rfl
end
/-! ### plain data -/
def isd : Nat → Val → Bool
  | 0, _ => false
  | n + 1, v => match v with
    | .tup xs => xs.all (isd n)
    | .lst xs => xs.all (isd n)
    | .non => true
    | .bl _ => true
    | .int _ => true
    | .str _ => true
    | _ => false
theorem isd_succ : ∀ (n : Nat) (v : Val), isd n v = true → isd (n + 1) v = true
  | 0, v, e => by simp [isd] at e
  | n + 1, v, e => by
    cases v with
    | tup xs => simp only [isd, List.all_eq_true] at e ⊢; exact fun x hx => isd_succ n x (e x hx)
    | lst xs => simp only [isd, List.all_eq_true] at e ⊢; exact fun x hx => isd_succ n x (e x hx)
    | _ => first | rfl | simp [isd] at e
theorem isd_le {n m : Nat} {v : Val} (e : isd n v = true) (l : n ≤ m) : isd m v = true := by
  induction l with
  | refl => exact e
  | step _ ih => exact isd_succ _ _ ih
/-- data, nested at most 40 deep -/
def datV (v : Val) : Prop := ∀ m, isd (m + 40) v = true
theorem dat_of {n : Nat} {v : Val} (e : isd n v = true) (l : n ≤ 40) : datV v := fun m => isd_le e (by omega)
theorem isd_D {h : Mem} : ∀ (n : Nat) (v : Val), isd n v = true → isD h n v = true
  | 0, v, e => by simp [isd] at e
  | n + 1, v, e => by
    cases v with
    | tup xs => simp only [isd, isD, List.all_eq_true] at e ⊢; exact fun x hx => isd_D n x (e x hx)
    | lst xs => simp only [isd, isD, List.all_eq_true] at e ⊢; exact fun x hx => isd_D n x (e x hx)
    | _ => first | rfl | simp [isd] at e
mutual
def eqv : Val → Val → Bool
  | .non, .non => true
  | .bl a, .bl b => a == b
  | .bl a, .int j => b2i a == j
  | .int i, .bl b => i == b2i b
  | .int i, .int j => i == j
  | .str x, .str y => x == y
  | .tup xs, .tup ys => eqvs xs ys
  | .lst xs, .lst ys => eqvs xs ys
  | _, _ => false
def eqvs : List Val → List Val → Bool
  | [], [] => true
  | x :: xs, y :: ys => eqv x y && eqvs xs ys
  | _, _ => false
end
theorem eqs_eqvs {f : Val → Val → Bool} : ∀ (xs ys : List Val), (∀ x ∈ xs, ∀ y ∈ ys, f x y = eqv x y) → eqs f xs ys = eqvs xs ys
  | [], [], _ => by simp [eqs, eqvs]
  | [], y :: ys, _ => by simp [eqs, eqvs]
  | x :: xs, [], _ => by simp [eqs, eqvs]
  | x :: xs, y :: ys, hh => by
    simp only [eqs, eqvs]
    rw [hh x (by simp) y (by simp), eqs_eqvs xs ys fun a ha b hb => hh a (by simp [ha]) b (by simp [hb])]
theorem eqB_eqv {h : Mem} : ∀ (n : Nat) (v w : Val), isd n v = true → isd n w = true → eqB h n v w = eqv v w
  | 0, v, w, e, _ => by simp [isd] at e
  | n + 1, v, w, e1, e2 => by
    cases v <;> first | (simp [isd] at e1; done) | skip
    all_goals cases w <;> first | (simp [isd] at e2; done) | (simp only [eqB, eqv]; done) | skip
    all_goals simp only [isd, List.all_eq_true] at e1 e2
    all_goals simp only [eqB, eqv]
    all_goals exact eqs_eqvs _ _ fun x hx y hy => eqB_eqv n x y (e1 x hx) (e2 y hy)
theorem eqV_eqv {h : Mem} {v w : Val} (e1 : isd 60 v = true) (e2 : isd 60 w = true) : eqV h v w = some (eqv v w) := by
  unfold eqV
  split
  · simp only [eqv]; congr 1 <;> exact (Bool.beq_eq_decide_eq ..).symm
  · simp only [eqv]; congr 1 <;> exact (Bool.beq_eq_decide_eq ..).symm
  · rw [isd_D _ _ e1, isd_D _ _ e2, eqB_eqv _ _ _ e1 e2, Bool.and_self, if_pos rfl]
mutual
theorem eqv_refl_n : ∀ (n : Nat) (v : Val), isd n v = true → eqv v v = true
  | 0, v, e => by simp [isd] at e
  | n + 1, v, e => by
    cases v <;> first | (simp [isd] at e; done) | (simp only [eqv, beq_self_eq_true]; done) | skip
    · simp only [isd] at e; simp only [eqv]; exact eqvs_refl_n n _ e
    · simp only [isd] at e; simp only [eqv]; exact eqvs_refl_n n _ e
theorem eqvs_refl_n : ∀ (n : Nat) (xs : List Val), xs.all (isd n) = true → eqvs xs xs = true
  | n, [], _ => by simp [eqvs]
  | n, x :: xs, e => by
    simp only [List.all_cons, Bool.and_eq_true] at e
    simp only [eqvs, eqv_refl_n n x e.1, eqvs_refl_n n xs e.2, Bool.and_self]
end
theorem eqv_refl {v : Val} (e : datV v) : eqv v v = true := eqv_refl_n _ _ (e 0)
theorem dat_tup {xs : List Val} (h : ∀ x ∈ xs, isd 39 x = true) : datV (.tup xs) := dat_of (n := 40) (by simp only [isd, List.all_eq_true]; exact h) (Nat.le_refl _)
theorem dat_isd {v : Val} (h : datV v) : isd 60 v = true := h 20
/-! ### loops -/
section
variable {α β σ τ : Type}
def forL (body : α → σ → Mem → Lo σ σ) : List α → σ → Mem → Lo σ τ
  | [], s, h => .nx s h
  | x :: xs, s, h => match body x s h with
      | .nx s h => forL body xs s h
      | .ct s h => forL body xs s h
      | .bk s h => .nx s h
      | .rt v h => .rt v h
      | .exc c h => .exc c h
      | .bad => .bad
theorem forS_go {xs : List Val} {body : Val → σ → Mem → Lo σ σ} : ∀ (r i : Nat) (s : σ) (h : Mem), r + i = xs.length → (forS (.sn xs) body r i s h : Lo σ τ) = forL body (xs.drop i) s h
  | 0, i, s, h, e => by
    have : xs.drop i = [] := by rw [List.drop_eq_nil_iff]; omega
    rw [this]
    simp only [forS, forL, Itr.fin, decide_eq_true (show xs.length ≤ i by omega), if_true]
  | r + 1, i, s, h, e => by
    have hi : i < xs.length := by omega
    rw [List.drop_eq_getElem_cons hi]
    simp only [forS, forL, Itr.at, List.getElem?_eq_getElem hi]
    cases body xs[i] s h <;> first | rfl | exact forS_go r (i + 1) _ _ (by omega)
theorem forS_sn {xs : List Val} {body : Val → σ → Mem → Lo σ σ} {s : σ} {h h' : Mem} : (forS (.sn xs) body ((Itr.sn xs).cnt h') 0 s h : Lo σ τ) = forL body xs s h := forS_go _ _ _ _ rfl
theorem forL_map {f : β → α} {body : α → σ → Mem → Lo σ σ} : ∀ {xs : List β} {s : σ} {h : Mem}, (forL body (xs.map f) s h : Lo σ τ) = forL (fun b => body (f b)) xs s h
  | [], s, h => rfl
  | x :: xs, s, h => by
    simp only [List.map_cons, forL]
    cases body (f x) s h <;> first | rfl | exact forL_map
theorem forL_nil {body : α → σ → Mem → Lo σ σ} {s : σ} {h : Mem} : (forL body [] s h : Lo σ τ) = .nx s h := rfl
def Lo.nxt (r : Lo σ σ) (k : σ → Mem → Lo σ τ) : Lo σ τ := match r with
      | .nx s h => k s h
      | .ct s h => k s h
      | .bk s h => .nx s h
      | .rt v h => .rt v h
      | .exc c h => .exc c h
      | .bad => .bad
@[simp] theorem Lo.nxt_nx {s : σ} {h : Mem} {k : σ → Mem → Lo σ τ} : (Lo.nx s h : Lo σ σ).nxt k = k s h := rfl
@[simp] theorem Lo.nxt_ct {s : σ} {h : Mem} {k : σ → Mem → Lo σ τ} : (Lo.ct s h : Lo σ σ).nxt k = k s h := rfl
@[simp] theorem Lo.nxt_bk {s : σ} {h : Mem} {k : σ → Mem → Lo σ τ} : (Lo.bk s h : Lo σ σ).nxt k = .nx s h := rfl
@[simp] theorem Lo.nxt_rt {v : Ret} {h : Mem} {k : σ → Mem → Lo σ τ} : (Lo.rt v h : Lo σ σ).nxt k = .rt v h := rfl
@[simp] theorem Lo.nxt_exc {c : Nat} {h : Mem} {k : σ → Mem → Lo σ τ} : (Lo.exc c h : Lo σ σ).nxt k = .exc c h := rfl
@[simp] theorem Lo.nxt_bad {k : σ → Mem → Lo σ τ} : (Lo.bad : Lo σ σ).nxt k = .bad := rfl
theorem forL_cons {body : α → σ → Mem → Lo σ σ} {x : α} {xs : List α} {s : σ} {h : Mem} : (forL body (x :: xs) s h : Lo σ τ) = (body x s h).nxt fun s h => forL body xs s h := rfl
/-- nothing changes -/
theorem forL_skip {body : α → σ → Mem → Lo σ σ} {s : σ} {h : Mem} : ∀ {xs : List α}, (∀ x ∈ xs, body x s h = .nx s h) → (forL body xs s h : Lo σ τ) = .nx s h
  | [], _ => rfl
  | x :: xs, q => by
    rw [forL_cons, q x (by simp), Lo.nxt_nx]
    exact forL_skip fun y hy => q y (by simp [hy])
/-- the state is told by a function of what stands for it -/
theorem forL_fold {body : α → σ → Mem → Lo σ σ} {h : Mem} (enc : β → σ) (f : β → α → β) (I : β → Prop) : ∀ {xs : List α} {b : β}, I b → (∀ x ∈ xs, ∀ b, I b → body x (enc b) h = .nx (enc (f b x)) h ∧ I (f b x)) → (forL body xs (enc b) h : Lo σ τ) = .nx (enc (xs.foldl f b)) h ∧ I (xs.foldl f b)
  | [], b, i, _ => ⟨rfl, i⟩
  | x :: xs, b, i, q => by
    obtain ⟨e, i2⟩ := q x (by simp) b i
    rw [forL_cons, e, Lo.nxt_nx]
    exact forL_fold enc f I i2 fun y hy b' i' => q y (by simp [hy]) b' i'
/-- what a block leaves: N behind it, V of what is given back -/
structure Lo.sat (r : Lo σ τ) (N : σ → Mem → Prop) (V : Ret → Mem → Prop) : Prop where
  is : (∃ s h, r = .nx s h ∧ N s h) ∨ (∃ v h, r = .rt v h ∧ V v h)
variable {N : σ → Mem → Prop} {V : Ret → Mem → Prop}
theorem sat_nx {s : σ} {h : Mem} (q : N s h) : (Lo.nx s h : Lo σ τ).sat N V := ⟨.inl ⟨_, _, rfl, q⟩⟩
theorem sat_rt {v : Ret} {h : Mem} (q : V v h) : (Lo.rt v h : Lo σ τ).sat N V := ⟨.inr ⟨_, _, rfl, q⟩⟩
theorem sat_seq {ρ : Type} {r : Lo σ τ} {k : σ → Mem → Lo ρ τ} {M : ρ → Mem → Prop} (q : r.sat N V) (hk : ∀ s h, N s h → (k s h).sat M V) : (r.seq k).sat M V := by
  obtain ⟨⟨s, h, rfl, q⟩ | ⟨v, h, rfl, q⟩⟩ := q
  · exact hk s h q
  · exact sat_rt q
theorem sat_nx_iff {s : σ} {h : Mem} : (Lo.nx s h : Lo σ τ).sat N V ↔ N s h := ⟨fun q => by obtain ⟨⟨_, _, e, q⟩ | ⟨_, _, e, q⟩⟩ := q <;> cases e; exact q, sat_nx⟩
theorem sat_rt_iff {v : Ret} {h : Mem} : (Lo.rt v h : Lo σ τ).sat N V ↔ V v h := ⟨fun q => by obtain ⟨⟨_, _, e, q⟩ | ⟨_, _, e, q⟩⟩ := q <;> cases e; exact q, sat_rt⟩
/-- what a turn leaves -/
structure Lo.turn (r : Lo σ σ) (I : σ → Mem → Prop) (N : σ → Mem → Prop) (V : Ret → Mem → Prop) : Prop where
  is : (∃ s h, (r = .nx s h ∨ r = .ct s h) ∧ I s h) ∨ (∃ s h, r = .bk s h ∧ N s h) ∨ (∃ v h, r = .rt v h ∧ V v h)
theorem turn_nx {I : σ → Mem → Prop} {s : σ} {h : Mem} (q : I s h) : (Lo.nx s h : Lo σ σ).turn I N V := ⟨.inl ⟨_, _, .inl rfl, q⟩⟩
theorem turn_ct {I : σ → Mem → Prop} {s : σ} {h : Mem} (q : I s h) : (Lo.ct s h : Lo σ σ).turn I N V := ⟨.inl ⟨_, _, .inr rfl, q⟩⟩
theorem turn_bk {I : σ → Mem → Prop} {s : σ} {h : Mem} (q : N s h) : (Lo.bk s h : Lo σ σ).turn I N V := ⟨.inr (.inl ⟨_, _, rfl, q⟩)⟩
theorem turn_rt {I : σ → Mem → Prop} {v : Ret} {h : Mem} (q : V v h) : (Lo.rt v h : Lo σ σ).turn I N V := ⟨.inr (.inr ⟨_, _, rfl, q⟩)⟩
/-- an invariant: I i holds ahead of turn i -/
theorem forL_inv {body : α → σ → Mem → Lo σ σ} (I : Nat → σ → Mem → Prop) : ∀ {xs : List α} {s : σ} {h : Mem} (n : Nat), I n s h → (∀ i x s h, xs[i]? = some x → I (n + i) s h → (body x s h).turn (I (n + i + 1)) N V) → (∀ s h, I (n + xs.length) s h → N s h) → (forL body xs s h : Lo σ τ).sat N V
  | [], s, h, n, i, _, d => sat_nx (d _ _ i)
  | x :: xs, s, h, n, i, q, d => by
    rw [forL_cons]
    obtain ⟨⟨s', h', e, q1⟩ | ⟨s', h', e, q1⟩ | ⟨v, h', e, q1⟩⟩ := q 0 x s h rfl i
    · have : (body x s h).nxt (fun s h => (forL body xs s h : Lo σ τ)) = forL body xs s' h' := by rcases e with e | e <;> rw [e] <;> rfl
      rw [this]
      refine forL_inv I (n + 1) q1 (fun j y s h hy hi => ?_) fun s h hi => d s h ?_
      · have := q (j + 1) y s h (by simpa using hy) (by rwa [show n + (j + 1) = n + 1 + j by omega])
        rwa [show n + (j + 1) + 1 = n + 1 + j + 1 by omega] at this
      · rwa [List.length_cons, show n + (xs.length + 1) = n + 1 + xs.length by omega]
    · rw [e]; exact sat_nx q1
    · rw [e]; exact sat_rt q1
/-! while -/
theorem whlS_inv {c : σ → Mem → Res Bool} {body : σ → Mem → Lo σ σ} (I : Nat → σ → Mem → Prop) (step : ∀ m s h, I m s h → ∃ b h1, c s h = .ok b h1 ∧ if b = true then (body s h1).turn (fun s h => ∃ m', m' < m ∧ I m' s h) N V else N s h1) : ∀ (n m : Nat) (s : σ) (h : Mem), m < n → I m s h → (whlS c body n s h : Lo σ τ).sat N V
  | 0, m, s, h, l, _ => absurd l (Nat.not_lt_zero _)
  | n + 1, m, s, h, l, i => by
    obtain ⟨b, h1, e, q⟩ := step m s h i
    cases b with
    | false => simp only [whlS, e]; exact sat_nx (by simpa using q)
    | true =>
      rw [if_pos rfl] at q
      obtain ⟨⟨s', h', e2, m', l', q1⟩ | ⟨s', h', e2, q1⟩ | ⟨v, h', e2, q1⟩⟩ := q
      · rcases e2 with e2 | e2 <;> simp only [whlS, e, e2] <;> exact whlS_inv I step n m' s' h' (by omega) q1
      · simp only [whlS, e, e2]; exact sat_nx q1
      · simp only [whlS, e, e2]; exact sat_rt q1
end
/-! ### comprehensions -/
section
variable {α β : Type}
def compL (body : α → Mem → Res (Option Val)) : List α → List Val → Mem → Res (List Val)
  | [], acc, h => .ok acc h
  | x :: xs, acc, h => match body x h with
        | .ok none h => compL body xs acc h
        | .ok (some y) h => if acc.length < szl then compL body xs (acc ++ [y]) h else .bad
        | _ => .bad
theorem compS_go {xs : List Val} {body : Val → Mem → Res (Option Val)} : ∀ (r i : Nat) (acc : List Val) (h : Mem), r + i = xs.length → compS (.sn xs) body r i acc h = compL body (xs.drop i) acc h
  | 0, i, acc, h, e => by
    have : xs.drop i = [] := by rw [List.drop_eq_nil_iff]; omega
    rw [this]
    simp only [compS, compL, Itr.fin, decide_eq_true (show xs.length ≤ i by omega), if_true]
  | r + 1, i, acc, h, e => by
    have hi : i < xs.length := by omega
    rw [List.drop_eq_getElem_cons hi]
    simp only [compS, compL, Itr.at, List.getElem?_eq_getElem hi]
    cases body xs[i] h with
    | bad => rfl
    | exc c h => rfl
    | ok o h1 =>
      cases o with
      | none => exact compS_go r (i + 1) _ _ (by omega)
      | some y =>
        simp only
        split
        · exact compS_go r (i + 1) _ _ (by omega)
        · rfl
theorem compA_sn {xs : List Val} {body : Val → Mem → Res (Option Val)} {h : Mem} : compA body (.sn xs) h = compL body xs [] h := compS_go _ _ _ _ rfl
theorem compL_lmap {f : β → α} {body : α → Mem → Res (Option Val)} : ∀ {xs : List β} {acc : List Val} {h : Mem}, compL body (xs.map f) acc h = compL (fun b => body (f b)) xs acc h
  | [], acc, h => rfl
  | x :: xs, acc, h => by
    simp only [List.map_cons, compL]
    cases body (f x) h with
    | bad => rfl
    | exc c h => rfl
    | ok o h1 =>
      cases o with
      | none => exact compL_lmap
      | some y =>
        simp only
        split
        · exact compL_lmap
        · rfl
theorem compL_go {body : α → Mem → Res (Option Val)} {h : Mem} (g : α → Option Val) : ∀ {xs : List α} {acc : List Val}, (∀ x ∈ xs, body x h = .ok (g x) h) → acc.length + xs.length ≤ szl → compL body xs acc h = .ok (acc ++ xs.filterMap g) h
  | [], acc, _, _ => by simp [compL]
  | x :: xs, acc, q, l => by
    simp only [List.length_cons] at l
    simp only [compL, q x (by simp), List.filterMap_cons]
    cases g x with
    | none => exact compL_go g (fun y hy => q y (by simp [hy])) (by omega)
    | some y =>
      simp only
      rw [if_pos (by omega), compL_go g (fun y hy => q y (by simp [hy])) (by simp; omega)]
      simp
theorem compL_fm {body : α → Mem → Res (Option Val)} {h : Mem} {xs : List α} (g : α → Option Val) (q : ∀ x ∈ xs, body x h = .ok (g x) h) (l : xs.length ≤ szl) : compL body xs [] h = .ok (xs.filterMap g) h := by
  rw [compL_go g q (by simpa using l)]; rfl
theorem compL_map {body : α → Mem → Res (Option Val)} {h : Mem} {xs : List α} (g : α → Val) (q : ∀ x ∈ xs, body x h = .ok (some (g x)) h) (l : xs.length ≤ szl) : compL body xs [] h = .ok (xs.map g) h := by
  rw [compL_fm (fun x => some (g x)) q l]
  congr 1
  rw [List.filterMap_eq_map']
theorem sm_eq {x : Val} {h : Mem} : sm x h = .ok (some x) h := rfl
/-! ranges -/
def rng (lo : Int) (n : Nat) : List Int := (List.range n).map fun (i : Nat) => lo + i
theorem rngL_eq {lo : Int} {n : Nat} : rngL lo n = (rng lo n).map .int := by simp [rngL, rng, List.map_map, Function.comp_def]
theorem rng_len {lo : Int} {n : Nat} : (rng lo n).length = n := by simp [rng]
theorem mem_rng {lo : Int} {n : Nat} {i : Int} : i ∈ rng lo n ↔ lo ≤ i ∧ i < lo + n := by
  simp only [rng, List.mem_map, List.mem_range]
  constructor
  · rintro ⟨j, hj, rfl⟩; omega
  · intro ⟨h1, h2⟩; exact ⟨(i - lo).toNat, by omega, by omega⟩
theorem rng_get {lo : Int} {n i : Nat} {x : Int} : (rng lo n)[i]? = some x ↔ i < n ∧ x = lo + i := by
  unfold rng
  rw [List.getElem?_map]
  constructor
  · intro e
    obtain ⟨j, e1, e2⟩ := Option.map_eq_some_iff.mp e
    have := (List.getElem?_eq_some_iff.mp e1)
    obtain ⟨hl, e3⟩ := this
    simp at hl e3
    exact ⟨hl, by omega⟩
  · rintro ⟨hl, rfl⟩
    rw [List.getElem?_range hl]; rfl
theorem rng1_ok {n : Int} {h : Mem} (hb : big n = true) : rng1S (.int n) h = .ok (.sn ((rng 0 n.toNat).map .int)) h := by simp only [rng1S, hb, if_true, rngL_eq]
theorem rng2_ok {i j : Int} {h : Mem} (h1 : big i = true) (h2 : big j = true) : rng2S (.int i) (.int j) h = .ok (.sn ((rng i (j - i).toNat).map .int)) h := by simp only [rng2S, h1, h2, Bool.and_self, if_true, rngL_eq]
theorem itr_lst {xs : List Val} {h : Mem} : itrS (.lst xs) h = .ok (.sn xs) h := rfl
theorem itr_tup {xs : List Val} {h : Mem} : itrS (.tup xs) h = .ok (.sn xs) h := rfl
theorem itr_ktp {xs : List Val} {h : Mem} : itrS (.ktp xs) h = .ok (.sn xs) h := rfl
theorem itr_kls {xs : List Val} {h : Mem} : itrS (.kls xs) h = .ok (.sn xs) h := rfl
theorem itr_str {s : Txt} {h : Mem} : itrS (.str s) h = .ok (.sn (s.map fun c => .str [c])) h := rfl
theorem enum_lst {xs : List Val} {h : Mem} : enumS (.lst xs) h = .ok (.sn (enumL xs)) h := rfl
theorem rev_lst {xs : List Val} {h : Mem} : revS (.lst xs) h = .ok (.sn xs.reverse) h := rfl
end
/-! ### choices -/
section
variable {σ τ : Type} {c : Prop} [Decidable c]
theorem ite_nx {a b : σ} {h : Mem} : (if c then (Lo.nx a h : Lo σ τ) else Lo.nx b h) = .nx (if c then a else b) h := by split <;> rfl
theorem ite_int {a b : Int} : (if c then Val.int a else Val.int b) = Val.int (if c then a else b) := by split <;> rfl
theorem ite_str {a b : Txt} : (if c then Val.str a else Val.str b) = Val.str (if c then a else b) := by split <;> rfl
theorem ite_bl {a b : Bool} : (if c then Val.bl a else Val.bl b) = Val.bl (if c then a else b) := by split <;> rfl
theorem ite_lst {a b : List Val} : (if c then Val.lst a else Val.lst b) = Val.lst (if c then a else b) := by split <;> rfl
theorem ite_clst {a b : List Val} : (if c then Con.lst a else Con.lst b) = Con.lst (if c then a else b) := by split <;> rfl
theorem ite_tup {a b : List Val} : (if c then Val.tup a else Val.tup b) = Val.tup (if c then a else b) := by split <;> rfl
theorem ite_fst {α β : Type} {a b : α × β} : (if c then a else b).1 = if c then a.1 else b.1 := by split <;> rfl
theorem ite_snd {α β : Type} {a b : α × β} : (if c then a else b).2 = if c then a.2 else b.2 := by split <;> rfl
theorem ite_okQ {α : Type} {a b : α} {h : Mem} : (if c then (Res.ok a h : Res α) else Res.ok b h) = .ok (if c then a else b) h := by split <;> rfl
theorem ite_ff {a : Bool} : (if c then a else false) = (decide c && a) := by split <;> simp_all
end
/-! ### objects -/
section
variable {P : Pg} {call callI : Nat → List Val → Mem → Res Ret} {h : Mem}
theorem calS_ok {f : Nat} {vs : List Val} {r : Ret} {h' : Mem} (e : call f vs h = .ok r h') : calS call f vs h = .ok r.val h' := by simp only [calS, e, Res.bind_ok]
def attC : Res Ret → Res Val
  | .ok x h1 => .ok x.val h1
  | _ => .bad
@[simp] theorem attC_ok {r : Ret} {h : Mem} : attC (.ok r h) = .ok r.val h := rfl
theorem att_ins {c f : Nat} {fs : List (Nat × Val)} (hp : prpF P c f = none) (hf : fldF P c f = true) : attV P callI f (.ins c fs) h = pure h (fs.lookup f) := by simp only [attV, hp, hf, if_true]
theorem att_prp {c f g : Nat} {fs : List (Nat × Val)} (hp : prpF P c f = some g) : attV P callI f (.ins c fs) h = attC (callI g [.ins c fs] h) := by
  simp only [attV, hp]
  cases callI g [.ins c fs] h <;> rfl
theorem att_ref {a c f : Nat} {fs : List (Nat × Sl)} (ha : h[a]? = some (.ins c fs)) (hp : prpF P c f = none) (hf : fldF P c f = true) : attV P callI f (.ref a) h = pure h ((fs.lookup f).bind slV?) := by simp only [attV, ha, hp, hf, if_true]
theorem att_refp {a c f g : Nat} {fs : List (Nat × Sl)} (ha : h[a]? = some (.ins c fs)) (hp : prpF P c f = some g) : attV P callI f (.ref a) h = attC (callI g [.ref a] h) := by
  simp only [attV, ha, hp]
  cases callI g [.ref a] h <;> rfl
theorem met_ins {c m g : Nat} {b : Bm} {fs : List (Nat × Val)} {vs : Mem → Res (List Val)} (hm : metF P c m = some g) (hn : (fs.lookup m).isNone = true) : metS P call m b (.ins c fs) h vs = (vs h).bind fun vs h => calS call g (.ins c fs :: vs) h := by
  have e2 : ∀ h, hasM P h m b (.ins c fs) = true := fun h => by show (metF P c m).isSome = true; rw [hm]; rfl
  have e1 : noFld h m (.ins c fs) = true := hn
  simp only [metS, e1, e2, Bool.and_self, if_true]
  cases vs h with
  | bad => rfl
  | exc c h => rfl
  | ok vs h2 =>
    simp only [Res.bind_ok]
    rw [if_pos (show kindV h (.ins c fs) = kindV h2 (.ins c fs) from rfl)]
    simp only [metV, hm, calS]
theorem met_ref {a c m g : Nat} {b : Bm} {fs : List (Nat × Sl)} {vs : Mem → Res (List Val)} {ws : List Val} (ha : h[a]? = some (.ins c fs)) (hm : metF P c m = some g) (hn : (fs.lookup m).isNone = true) (hv : vs h = .ok ws h) : metS P call m b (.ref a) h vs = calS call g (.ref a :: ws) h := by
  have e1 : noFld h m (.ref a) = true := by simp only [noFld, ha, hn]
  have e2 : hasM P h m b (.ref a) = true := by simp only [hasM, ha, hm, Option.isSome_some]
  simp only [metS, e1, e2, hv, Bool.and_self, if_true, Res.bind_ok, metV, ha, hm, calS]
theorem metF_ref {a c m g : Nat} {fs : List (Nat × Sl)} {vs : Mem → Res (List Val)} {ws : List Val} (ha : h[a]? = some (.ins c fs)) (hm : metF P c m = some g) (hn : (fs.lookup m).isNone = true) (hv : vs h = .ok ws h) : metF' P call m (.ref a) h vs = (call g (.ref a :: ws) h).bind frsS := by
  have e1 : noFld h m (.ref a) = true := by simp only [noFld, ha, hn]
  have e2 : hasM P h m .none (.ref a) = true := by simp only [hasM, ha, hm, Option.isSome_some]
  simp only [metF', e1, e2, hv, Bool.and_self, if_true, Res.bind_ok, metV, ha, hm]
  rfl
theorem mkIS_ok {c : Nat} {C : Cl} {fl : List Nat} {vs : List Val} (hc : P.cl c = some C) (hr : C.rc = some fl) (hl : vs.length = fl.length) (e : callI C.ini (.ref h.length :: vs) (h ++ [.ins c []]) = .ok (.v .non) (h ++ [.ins c (fl.zip (vs.map Sl.v))])) : mkIS P callI c vs h = .ok (.ins c (fl.zip vs)) h := by
  simp only [mkIS, hc, hr, hl, if_true, e]
end
/-! ### the law's own draws -/
def isDr (d : Int) : Prop := 0 ≤ d ∧ d < 5040
theorem drMod (z : Int) : isDr (z % 5040) := ⟨Int.emod_nonneg _ (by decide), Int.emod_lt_of_pos _ (by decide)⟩
def dr (ds : List Int) (i : Int) : Int := (ds[i.toNat]?).getD 0
theorem dr_is {ds : List Int} (h : ∀ d ∈ ds, isDr d) (i : Int) : isDr (dr ds i) := by
  unfold dr
  cases e : ds[i.toNat]? with
  | none => exact ⟨by decide, by decide⟩
  | some d => exact h d (List.mem_of_getElem? e)
end PyI
namespace PyI
theorem rng3_ok {i j k : Int} {h : Mem} (h1 : big i = true) (h2 : big j = true) (h3 : 0 < k) (h4 : k < 1000000) : rng3S (.int i) (.int j) (.int k) h = .ok (.sn ((List.range ((j - i + k - 1) / k).toNat).map fun (n : Nat) => Val.int (i + n * k))) h := by
  simp only [rng3S, h1, h2, h3, h4, decide_true, Bool.and_self, if_true, rngS]
theorem ne_self {h : Mem} {v : Val} (e : isd 60 v = true) : cmpV h .ne v v = some false := by
  show (eqV h v v).map (!·) = _
  rw [eqV_eqv e e, eqv_refl_n 60 v e]; rfl
theorem eq_self' {h : Mem} {v : Val} (e : isd 60 v = true) : cmpV h .eq v v = some true := by
  show eqV h v v = _
  rw [eqV_eqv e e, eqv_refl_n 60 v e]
theorem isd_tup {n : Nat} {xs : List Val} : isd (n + 1) (.tup xs) = xs.all (isd n) := rfl
theorem isd_lst {n : Nat} {xs : List Val} : isd (n + 1) (.lst xs) = xs.all (isd n) := rfl
theorem isd_int {n : Nat} {i : Int} : isd (n + 1) (.int i) = true := rfl
theorem isd_str {n : Nat} {s : Txt} : isd (n + 1) (.str s) = true := rfl
theorem isd_bl {n : Nat} {b : Bool} : isd (n + 1) (.bl b) = true := rfl
theorem isd_non {n : Nat} : isd (n + 1) .non = true := rfl
theorem all_isd {n m : Nat} {xs : List Val} (h : ∀ x ∈ xs, isd n x = true) (l : n ≤ m) : xs.all (isd m) = true := by
  rw [List.all_eq_true]
  exact fun x hx => isd_le (h x hx) l
theorem turn_seq {σ ρ : Type} {r : Lo ρ σ} {k : ρ → Mem → Lo σ σ} {I : σ → Mem → Prop} {N : σ → Mem → Prop} {V : Ret → Mem → Prop} {M : ρ → Mem → Prop} (q : r.sat M V) (hk : ∀ s h, M s h → (k s h).turn I N V) : (r.seq k).turn I N V := by
  obtain ⟨⟨s, h, rfl, q⟩ | ⟨v, h, rfl, q⟩⟩ := q
  · exact hk s h q
  · exact turn_rt q
/-- the law is kept -/
theorem law_okQ {r : Res Ret} {Q : Mem → Prop} (h : ∃ m, r = .ok (.v (.bl true)) m) : ∃ m, r = .ok (.v (.bl true)) m := h
theorem sat_fin {σ τ : Type} {r : Lo σ τ} {N : σ → Mem → Prop} {V : Ret → Mem → Prop} (q : r.sat N V) (hN : ∀ s h, ¬ N s h) (hV : ∀ v h, V v h → v = .v (.bl true)) : ∃ m, r.fin = .ok (.v (.bl true)) m := by
  obtain ⟨⟨s, h, rfl, q⟩ | ⟨v, h, rfl, q⟩⟩ := q
  · exact (hN _ _ q).elim
  · exact ⟨h, by rw [hV v h q]; rfl⟩
end PyI
namespace PyI
theorem isNS_non (n : Bool) : isNS n .non = !n := rfl
theorem isNS_int (n : Bool) (i : Int) : isNS n (.int i) = n := rfl
theorem isNS_str (n : Bool) (i : Txt) : isNS n (.str i) = n := rfl
theorem isNS_bl (n : Bool) (i : Bool) : isNS n (.bl i) = n := rfl
theorem isNS_tup (n : Bool) (i : List Val) : isNS n (.tup i) = n := rfl
theorem isNS_lst (n : Bool) (i : List Val) : isNS n (.lst i) = n := rfl
theorem isNS_ref (n : Bool) (i : Nat) : isNS n (.ref i) = n := rfl
theorem isNS_ins (n : Bool) (c : Nat) (i : List (Nat × Val)) : isNS n (.ins c i) = n := rfl
end PyI
namespace PyI
section
variable {P : Pg} {call callI : Nat → List Val → Mem → Res Ret} {h : Mem} {a : Nat} {xs : List Val} {i : Int} {v : Val}
theorem ix_ref (ha : h[a]? = some (.con (.lst xs))) : ixV (.ref a) (.int i) h = pure h (nth xs i) := by
  simp only [ixV, conV, ha, Option.bind_some, conO, cix]
theorem set_ref (ha : h[a]? = some (.con (.lst xs))) : setV (.ref a) (.int i) v h = (ixOf xs.length i).map fun j => h.set a (.con (.lst (xs.set j v))) := by
  simp only [setV, ha, cset]
  cases ixOf xs.length i <;> rfl
theorem len_ref (ha : h[a]? = some (.con (.lst xs))) : bltV .len [.ref a] h = .ok (.int xs.length) h := by
  simp only [bltV, lenV, conV, ha, Option.bind_some, conO, clen, Option.map_some, pure_some]
theorem app_ref {m : Nat} {vs : Mem → Res (List Val)} (ha : h[a]? = some (.con (.lst xs))) (hv : vs h = .ok [v] h) (hl : xs.length < szl) : metS P call m .append (.ref a) h vs = .ok .non (h.set a (.con (.lst (xs ++ [v])))) := by
  have e1 : noFld h m (.ref a) = true := by simp only [noFld, ha]
  have e2 : hasM P h m .append (.ref a) = true := by simp only [hasM, ha]; rfl
  simp only [metS, e1, e2, hv, Bool.and_self, if_true, Res.bind_ok, metV, ha, bmV, hl, Ret.val_v]
theorem isi_ref_lst {ist : List (Nat × Nat)} (ha : h[a]? = some (.con (.lst xs))) : isiV ist h .list (.ref a) = some true := by simp only [isiV, ha]
theorem isi_ref_tup {ist : List (Nat × Nat)} (ha : h[a]? = some (.con (.lst xs))) : isiV ist h .tuple (.ref a) = some false := by simp only [isiV, ha]
theorem isi_ref_str {ist : List (Nat × Nat)} (ha : h[a]? = some (.con (.lst xs))) : isiV ist h .str (.ref a) = some false := by simp only [isiV, ha]
theorem isi_ref_int {ist : List (Nat × Nat)} (ha : h[a]? = some (.con (.lst xs))) : isiV ist h .int (.ref a) = some false := by simp only [isiV, ha]
theorem lof_ref (ha : h[a]? = some (.con (.lst xs))) : lofV h (.ref a) = some (.lst xs) := by simp only [lofV, conV, ha, Option.bind_some, conO, cLof]
theorem tup_ref (ha : h[a]? = some (.con (.lst xs))) : bltV .tup [.ref a] h = .ok (.tup xs) h := by simp only [bltV, lsA, lsN, ha, Option.bind_some, lsO, Option.map_some, pure_some]
/-- a list: in the memory, or a value -/
structure IsL (h : Mem) (w : Val) (xs : List Val) : Prop where
  is : w = .lst xs ∨ ∃ a, w = .ref a ∧ h[a]? = some (.con (.lst xs))
theorem IsL.lst {h : Mem} {xs : List Val} : IsL h (.lst xs) xs := ⟨.inl rfl⟩
theorem IsL.ref {h : Mem} {a : Nat} {xs : List Val} (e : h[a]? = some (.con (.lst xs))) : IsL h (.ref a) xs := ⟨.inr ⟨a, rfl, e⟩⟩
variable {w : Val}
theorem IsL.ix (q : IsL h w xs) (i : Int) : ixV w (.int i) h = pure h (nth xs i) := by
  obtain ⟨rfl | ⟨a, rfl, e⟩⟩ := q
  · rfl
  · exact ix_ref e
theorem IsL.len (q : IsL h w xs) : bltV .len [w] h = .ok (.int xs.length) h := by
  obtain ⟨rfl | ⟨a, rfl, e⟩⟩ := q
  · rfl
  · exact len_ref e
theorem IsL.isl {ist : List (Nat × Nat)} (q : IsL h w xs) : isiV ist h .list w = some true ∧ isiV ist h .tuple w = some false ∧ isiV ist h .str w = some false ∧ isiV ist h .int w = some false := by
  obtain ⟨rfl | ⟨a, rfl, e⟩⟩ := q
  · exact ⟨rfl, rfl, rfl, rfl⟩
  · exact ⟨isi_ref_lst e, isi_ref_tup e, isi_ref_str e, isi_ref_int e⟩
theorem IsL.lof (q : IsL h w xs) : lofV h w = some (.lst xs) := by
  obtain ⟨rfl | ⟨a, rfl, e⟩⟩ := q
  · rfl
  · exact lof_ref e
end
/-- what one cell's change leaves -/
structure Chg (a : Nat) (h h' : Mem) : Prop where
  len : h'.length = h.length
  ne : ∀ b, b ≠ a → h'[b]? = h[b]?
theorem Chg.refl {a : Nat} {h : Mem} : Chg a h h := ⟨rfl, fun _ _ => rfl⟩
theorem Chg.trans {a : Nat} {h h1 h2 : Mem} (p : Chg a h h1) (q : Chg a h1 h2) : Chg a h h2 := ⟨q.len.trans p.len, fun b hb => (q.ne b hb).trans (p.ne b hb)⟩
theorem Chg.set {a : Nat} {h : Mem} {o : Ob} : Chg a h (h.set a o) := ⟨List.length_set, fun b hb => List.getElem?_set_ne (Ne.symm hb)⟩
/-- a pool of draws -/
def Pool (h : Mem) (a : Nat) : Prop := ∃ m s, h[a]? = some (.con (.lst [.int m, .int s]))
theorem Pool.chg {a b : Nat} {h h' : Mem} (p : Pool h b) (c : Chg a h h') (hb : b ≠ a) : Pool h' b := by
  obtain ⟨m, s, e⟩ := p
  exact ⟨m, s, by rw [c.ne b hb]; exact e⟩
theorem memSet {a : Nat} {h : Mem} {o p : Ob} (e : h[a]? = some o) : (h.set a p)[a]? = some p := List.getElem?_set_self (List.getElem?_eq_some_iff.mp e).1
end PyI
namespace PyI
/-- a comprehension whose items change the memory -/
theorem compL_mem {α : Type} {body : α → Mem → Res (Option Val)} (I : Mem → Prop) (Q : Val → Prop) : ∀ {xs : List α} {acc : List Val} {h : Mem}, (∀ x h, x ∈ xs → I h → ∃ y h', body x h = .ok (some y) h' ∧ I h' ∧ Q y) → I h → acc.length + xs.length ≤ szl → ∃ ys h', compL body xs acc h = .ok (acc ++ ys) h' ∧ ys.length = xs.length ∧ I h' ∧ ∀ y ∈ ys, Q y
  | [], acc, h, _, i, _ => ⟨[], h, by simp [compL], rfl, i, by simp⟩
  | x :: xs, acc, h, q, i, l => by
    obtain ⟨y, h1, e1, i1, q1⟩ := q x h (by simp) i
    simp only [List.length_cons] at l
    obtain ⟨ys, h2, e2, l2, i2, q2⟩ := compL_mem I Q (xs := xs) (acc := acc ++ [y]) (h := h1) (fun z h hz => q z h (by simp [hz])) i1 (by simp; omega)
    refine ⟨y :: ys, h2, ?_, by simp [l2], i2, ?_⟩
    · simp only [compL, e1]
      rw [if_pos (by omega), e2]
      simp
    · intro z hz
      rcases List.mem_cons.mp hz with rfl | hz
      · exact q1
      · exact q2 z hz
theorem join_str {P : Pg} {call : Nat → List Val → Mem → Res Ret} {m : Nat} {s : Txt} {h h' : Mem} {vs : Mem → Res (List Val)} {ts : List Txt} (hv : vs h = .ok [.lst (ts.map .str)] h') (hl : (ts.map (·.length)).sum + ts.length * s.length ≤ szl) : metS P call m .join (.str s) h vs = .ok (.str (joinT s ts)) h' := by
  have mm : (ts.map Val.str).mapM strOf = some ts := by
    induction ts with
    | nil => rfl
    | cons t ts ih => 
      have hl' : (ts.map (·.length)).sum + ts.length * s.length ≤ szl := by
        have e : ((t :: ts).map (·.length)).sum + (t :: ts).length * s.length = t.length + (ts.map (·.length)).sum + (ts.length * s.length + s.length) := by simp [Nat.add_mul]
        omega
      clear hv
      have : ∀ ts : List Txt, (ts.map Val.str).mapM strOf = some ts := fun ts => by
        induction ts with
        | nil => rfl
        | cons t ts ih => simp only [List.map_cons, List.mapM_cons, strOf, ih]; rfl
      exact this _
  have e2 : hasM P h m .join (.str s) = true := rfl
  have e1 : noFld h m (.str s) = true := rfl
  simp only [metS, e1, e2, hv, Bool.and_self, if_true, Res.bind_ok]
  rw [if_pos (show kindV h (.str s) = kindV h' (.str s) from rfl)]
  simp only [metV, strM, seqA, Option.bind_some, mm, hl, if_true, Res.bind_ok, Ret.val_v]
theorem joinT_nil : ∀ ts : List Txt, joinT [] ts = ts.flatten
  | [] => rfl
  | [x] => by simp [joinT]
  | x :: y :: r => by rw [joinT, joinT_nil (y :: r)]; simp
theorem maxI_snoc : ∀ (ds : List Int) (d : Int), maxI (ds ++ [d]) = some (ds.foldl max d)
  | [], d => rfl
  | x :: r, d => by
    have : ∀ (r : List Int) (x d : Int), (r ++ [d]).foldl max x = r.foldl max (max d x) := fun r => by
      induction r with
      | nil => intro x d; exact Int.max_comm ..
      | cons y r ih =>
        intro x d
        simp only [List.cons_append, List.foldl_cons]
        rw [ih, ← Int.max_assoc]
    show some ((r ++ [d]).foldl max x) = some ((x :: r).foldl max d)
    rw [this]; rfl
theorem mapM_int : ∀ ds : List Int, (ds.map Val.int).mapM intOf = some ds
  | [] => rfl
  | d :: ds => by simp only [List.map_cons, List.mapM_cons, intOf, mapM_int ds]; rfl
theorem max1_lst {ds : List Int} {d : Int} {h : Mem} : bltV .max1 [.lst (ds.map .int ++ [.int d])] h = .ok (.int (ds.foldl max d)) h := by
  have := mapM_int (ds ++ [d])
  rw [List.map_append] at this
  simp only [bltV, lsA, Option.bind_some, List.map_cons, List.map_nil] at this ⊢
  rw [this]
  simp only [Option.bind_some, maxI_snoc, Option.map_some, pure_some]
end PyI
namespace PyI
theorem eq_bl {h : Mem} {a b : Bool} : cmpV h .eq (.bl a) (.bl b) = some (a == b) := rfl
theorem ne_bl {h : Mem} {a b : Bool} : cmpV h .ne (.bl a) (.bl b) = some (!(a == b)) := rfl
end PyI
namespace PyI
theorem compL_pure {α : Type} {h : Mem} {xs : List α} (g : α → Val) (l : xs.length ≤ szl) : compL (fun x h => .ok (some (g x)) h) xs [] h = .ok (xs.map g) h := compL_map g (fun _ _ => rfl) l
end PyI
namespace PyI
theorem isBS_bl {n b c : Bool} {h : Mem} : isBS n b (.bl c) h = .ok (.bl (if n then !decide (c = b) else decide (c = b))) h := rfl
end PyI
namespace PyI
theorem lenI_ref {P : Pg} {callI : Nat → List Val → Mem → Res Ret} {m a c g : Nat} {fs : List (Nat × Sl)} {n : Int} {h h' : Mem} (ha : h[a]? = some (.ins c fs)) (hm : metF P c m = some g) (e : callI g [.ref a] h = .ok (.v (.int n)) h') (n0 : 0 ≤ n) (n1 : n < 4611686018427387904) : lenI P callI m (.ref a) h = .ok (.int n) h' := by
  simp only [lenI, insC, ha, hm, e, lenR, big_of (show -4611686018427387904 ≤ n by omega) n1, n0, decide_true, Bool.and_self, if_true]
theorem lenI_ins {P : Pg} {callI : Nat → List Val → Mem → Res Ret} {m c g : Nat} {fs : List (Nat × Val)} {n : Int} {h h' : Mem} (hm : metF P c m = some g) (e : callI g [.ins c fs] h = .ok (.v (.int n)) h') (n0 : 0 ≤ n) (n1 : n < 4611686018427387904) : lenI P callI m (.ins c fs) h = .ok (.int n) h' := by
  simp only [lenI, insC, hm, e, lenR, big_of (show -4611686018427387904 ≤ n by omega) n1, n0, decide_true, Bool.and_self, if_true]
end PyI
namespace PyLaw
open PySem PySem.Spec PyProof.Rows
def top (i : Nat) : Stmt := PySem.Challenge.pw_appendhall_k51_reads_close_by_majority.main.body.getD i (.Pass ⟨0, 0, 0, 0⟩)
abbrev st_majority : Stmt := top 1
abbrev st_has_majority : Stmt := top 2
abbrev st__law_stream : Stmt := top 6
abbrev st__law_draw : Stmt := top 7
abbrev st__law_same : Stmt := top 8
abbrev st__law_query : Stmt := top 9
abbrev st__law_unanswered : Stmt := top 10
abbrev st__law_due : Stmt := top 11
abbrev st_law : Stmt := top 12
abbrev st_Reads___init__ : Stmt := L2.inClass (top 4) 0
abbrev st_Reads_ask : Stmt := L2.inClass (top 4) 1
abbrev st_Reads_note : Stmt := L2.inClass (top 4) 2
abbrev st_Reads_unanswered : Stmt := L2.inClass (top 4) 3
/- majority: 0:count -/
def b_majority : PyI.Sms := (.cons (.ret (.bin .add (.bin .div (.var 0) (.lit (.int 2))) (.lit (.int 1)))) .nil)
def fn_majority : PyI.Fn := ⟨1, 1, [], b_majority⟩
/- has_majority: 0:members 1:count 2:seen 3:member -/
def b_has_majority : PyI.Sms := (.cons (.own 2 (.set)) (.cons (.for (.v 3) (.val (.var 0)) (.cons (.ite (.e (.chn .le .lt (.lit (.int 0)) (.var 3) (.var 1))) (.cons (.padd (.s 2) (.var 3)) .nil) .nil) .nil)) (.cons (.ret (.cmp .ge (.pl (.s 2) .len .nil) (.cal (.nm 0) 118 (.cons (.var 1) .nil)))) .nil)))
def fn_has_majority : PyI.Fn := ⟨2, 4, [], b_has_majority⟩
/- _law_stream: 0:_law_script 1:_law_many 2:_law_draws 3:_law_cell 4:_law_rest 5:_law_k 6:_law_mixed -/
def b__law_stream : PyI.Sms := (.cons (.own 2 (.dsp .nil)) (.cons (.for (.v 3) (.val (.var 0)) (.cons (.ite (.e (.cmp .ge (.pl (.s 2) .len .nil) (.var 1))) (.cons (.brk) .nil) .nil) (.cons (.ite (.e (.cmp .ge (.var 3) (.bin .pow (.lit (.int 10)) (.lit (.int 18))))) (.cons (.asg (.v 4) (.var 3)) (.cons (.for (.v 5) (.rng1 (.lit (.int 60))) (.cons (.ite (.e (.cmp .gt (.var 4) (.lit (.int 0)))) (.cons (.papp (.s 2) (.bin .mod (.blt .int (.cons (.var 4) .nil)) (.lit (.int 5040)))) (.cons (.asg (.v 4) (.bin .div (.var 4) (.lit (.int 5040)))) .nil)) .nil) .nil)) .nil)) (.cons (.asg (.v 6) (.bin .mod (.blt .int (.cons (.bin .add (.bin .add (.bin .mul (.var 3) (.lit (.int 48271))) (.bin .mul (.pl (.s 2) .len .nil) (.lit (.int 69621)))) (.lit (.int 11))) .nil)) (.lit (.int 2147483647)))) (.cons (.for (.v 5) (.rng1 (.lit (.int 4))) (.cons (.asg (.v 6) (.bin .mod (.blt .int (.cons (.bin .add (.bin .add (.bin .mul (.var 6) (.lit (.int 69621))) (.bin .mul (.lit (.int 7)) (.var 5))) (.lit (.int 3))) .nil)) (.lit (.int 2147483629)))) (.cons (.papp (.s 2) (.bin .mod (.blt .int (.cons (.bin .div (.var 6) (.lit (.int 7))) .nil)) (.lit (.int 5040)))) .nil))) .nil))) .nil))) (.cons (.retO 2) .nil)))
def fn__law_stream : PyI.Fn := ⟨2, 7, [], b__law_stream⟩
/- _law_draw: 0:_law_draws 1:_law_k -/
def b__law_draw : PyI.Sms := (.cons (.ite (.e (.cmp .lt (.var 1) (.blt .len (.cons (.var 0) .nil)))) (.cons (.ret (.ix (.var 0) (.var 1))) .nil) .nil) (.cons (.ret (.lit (.int 0))) .nil))
def fn__law_draw : PyI.Fn := ⟨2, 2, [], b__law_draw⟩
/- _law_same: 0:_law_actual 1:_law_due_here 2:_law_k -/
def b__law_same : PyI.Sms := (.cons (.ite (.e (.isi (.var 1) .tl)) (.cons (.ite (.or (.nt (.e (.isi (.var 0) .tl))) (.e (.cmp .ne (.isi (.var 0) .tuple) (.isi (.var 1) .tuple)))) (.cons (.ret (.lit (.bl false))) .nil) .nil) (.cons (.ite (.e (.cmp .ne (.blt .len (.cons (.var 0) .nil)) (.blt .len (.cons (.var 1) .nil)))) (.cons (.ret (.lit (.bl false))) .nil) .nil) (.cons (.for (.v 2) (.rng1 (.blt .len (.cons (.var 1) .nil))) (.cons (.ite (.nt (.e (.cal (.nm 0) 124 (.cons (.ix (.var 0) (.var 2)) (.cons (.ix (.var 1) (.var 2)) .nil))))) (.cons (.ret (.lit (.bl false))) .nil) .nil) .nil)) (.cons (.ret (.lit (.bl true))) .nil)))) .nil) (.cons (.ite (.e (.isN false (.var 1))) (.cons (.ret (.isN false (.var 0))) .nil) .nil) (.cons (.ite (.or (.e (.isi (.var 1) .bool)) (.e (.isi (.var 0) .bool))) (.cons (.ret (.and (.isi (.var 1) .bool) (.and (.isi (.var 0) .bool) (.cmp .eq (.var 0) (.var 1))))) .nil) .nil) (.cons (.ite (.e (.isi (.var 1) .int)) (.cons (.ret (.and (.isi (.var 0) .int) (.cmp .eq (.var 0) (.var 1)))) .nil) .nil) (.cons (.ret (.and (.isi (.var 0) .str) (.cmp .eq (.var 0) (.var 1)))) .nil)))))
def fn__law_same : PyI.Fn := ⟨2, 3, [], b__law_same⟩
/- _law_query: 0:_law_draw_here 1:_law_queries -/
def b__law_query : PyI.Sms := (.cons (.asg (.v 1) (.tup (.cons (.tup (.cons (.lit (.str ['c', 'o', 'n', 't', 'e', 'n', 't'])) (.cons (.var 0) .nil))) (.cons (.tup (.cons (.lit (.str ['f', 'i', 'n', 'd'])) (.cons (.lit (.str ['/', 'a'])) .nil))) (.cons (.tup (.cons (.lit (.str ['n', 'a', 'm', 'e', 's'])) (.cons (.lit (.str ['/'])) .nil))) (.cons (.tup (.cons (.lit (.str ['x'])) (.cons (.tup (.cons (.lit (.int 1)) (.cons (.tup (.cons (.var 0) (.cons (.tup .nil) .nil))) .nil))) (.cons (.lit (.str ['y'])) .nil)))) (.cons (.lit (.str ['w', 'o', 'r', 'd'])) (.cons (.bin .add (.lit (.int 7)) (.var 0)) (.cons (.tup .nil) .nil))))))))) (.cons (.ret (.ix (.var 1) (.bin .mod (.blt .int (.cons (.var 0) .nil)) (.lit (.int 7))))) .nil))
def fn__law_query : PyI.Fn := ⟨1, 2, [], b__law_query⟩
/- _law_unanswered: 0:_law_opened 1:_law_count 2:_law_due_here 3:_law_entry 4:_law_k -/
def b__law_unanswered : PyI.Sms := (.cons (.own 2 (.dsp .nil)) (.cons (.for (.v 3) (.val (.var 0)) (.cons (.for (.v 4) (.rng1 (.var 1)) (.cons (.ite (.e (.cmp .notin (.var 4) (.ix (.var 3) (.lit (.int 4))))) (.cons (.papp (.s 2) (.tup (.cons (.ix (.var 3) (.lit (.int 0))) (.cons (.var 4) .nil)))) .nil) .nil) .nil)) .nil)) (.cons (.retO 2) .nil)))
def fn__law_unanswered : PyI.Fn := ⟨2, 5, [], b__law_unanswered⟩
/- _law_due: 0:_law_opened 1:_law_count 2:_law_token 3:_law_journal 4:_law_found 5:_law_k 6:_law_entry -/
def b__law_due : PyI.Sms := (.cons (.asg (.v 4) (.neg (.lit (.int 1)))) (.cons (.for (.v 5) (.rng1 (.blt .len (.cons (.var 0) .nil))) (.cons (.ite (.e (.cmp .eq (.ix (.ix (.var 0) (.var 5)) (.lit (.int 0))) (.var 2))) (.cons (.asg (.v 4) (.var 5)) .nil) .nil) .nil)) (.cons (.ite (.e (.cmp .lt (.var 4) (.lit (.int 0)))) (.cons (.ret (.lit .non)) .nil) .nil) (.cons (.asg (.v 6) (.ix (.var 0) (.var 4))) (.cons (.ite (.e (.cmp .notin (.var 3) (.ix (.var 6) (.lit (.int 4))))) (.cons (.exp (.met (.ix (.var 6) (.lit (.int 4))) 7 0 .append (.cons (.var 3) .nil))) .nil) .nil) (.cons (.ite (.e (.cmp .le (.bin .mul (.lit (.int 2)) (.blt .len (.cons (.ix (.var 6) (.lit (.int 4))) .nil))) (.var 1))) (.cons (.ret (.lit .non)) .nil) .nil) (.cons (.exp (.met (.var 0) 93 0 .pop (.cons (.var 4) .nil))) (.cons (.ret (.tup (.cons (.ix (.var 6) (.lit (.int 1))) (.cons (.ix (.var 6) (.lit (.int 2))) (.cons (.ix (.var 6) (.lit (.int 3))) .nil))))) .nil))))))))
def fn__law_due : PyI.Fn := ⟨4, 7, [], b__law_due⟩
/- law: 0:_law_script 1:_law_draws 2:_law_count 3:_law_reads 4:_law_other 5:_law_opened 6:_law_beside 7:_law_last 8:_law_tokens 9:_law_step 10:_law_draw_here 11:_law_more 12:_law_entry 13:_law_token 14:_law_journal 15:_law_due_here 16:_law_told 17:_law_pairs -/
def b_law : PyI.Sms := (.cons (.asg (.v 1) (.az (.cal (.nm 0) 0 (.cons (.var 0) (.cons (.lit (.int 84)) .nil))))) (.cons (.asg (.v 2) (.bin .add (.lit (.int 1)) (.bin .mod (.blt .int (.cons (.cal (.nm 0) 1 (.cons (.var 1) (.cons (.lit (.int 0)) .nil))) .nil)) (.lit (.int 7))))) (.cons (.asg (.v 3) (.mk 11 0 (.cons (.var 2) .nil))) (.cons (.asg (.v 4) (.mk 11 0 (.cons (.var 2) .nil))) (.cons (.asg (.v 5) (.hp (.dsp .nil))) (.cons (.asg (.v 6) (.hp (.dsp .nil))) (.cons (.asg (.v 7) (.lit (.int 0))) (.cons (.asg (.v 8) (.lit (.int 0))) (.cons (.for (.v 9) (.rng1 (.blt .min2 (.cons (.lit (.int 40)) (.cons (.bin .div (.blt .len (.cons (.var 1) .nil)) (.lit (.int 2))) .nil)))) (.cons (.asg (.v 10) (.cal (.nm 0) 1 (.cons (.var 1) (.cons (.bin .add (.lit (.int 1)) (.bin .mul (.lit (.int 2)) (.var 9))) .nil)))) (.cons (.asg (.v 11) (.cal (.nm 0) 1 (.cons (.var 1) (.cons (.bin .add (.lit (.int 2)) (.bin .mul (.lit (.int 2)) (.var 9))) .nil)))) (.cons (.ite (.or (.e (.cmp .eq (.bin .mod (.blt .int (.cons (.var 10) .nil)) (.lit (.int 4))) (.lit (.int 3)))) (.e (.cmp .eq (.var 7) (.lit (.int 0))))) (.cons (.asg (.v 7) (.bin .add (.var 7) (.lit (.int 1)))) (.cons (.asg (.v 12) (.az (.dsp (.cons (.bin .mod (.blt .int (.cons (.bin .div (.var 10) (.lit (.int 4))) .nil)) (.lit (.int 4))) (.cons (.bin .add (.lit (.int 1)) (.bin .mod (.blt .int (.cons (.bin .div (.var 10) (.lit (.int 16))) .nil)) (.lit (.int 5)))) (.cons (.cal (.nm 0) 245 (.cons (.var 11) .nil)) .nil)))))) (.cons (.ite (.nt (.e (.cal (.nm 0) 124 (.cons (.met (.var 3) 32 0 .none (.cons (.ix (.var 12) (.lit (.int 0))) (.cons (.ix (.var 12) (.lit (.int 1))) (.cons (.ix (.var 12) (.lit (.int 2))) .nil)))) (.cons (.var 7) .nil))))) (.cons (.ret (.lit (.bl false))) .nil) .nil) (.cons (.exp (.met (.var 5) 7 0 .append (.cons (.az (.add (.az (.add (.az (.dsp (.cons (.var 7) .nil))) (.var 12))) (.az (.dsp (.cons (.hp (.dsp .nil)) .nil))))) .nil))) (.cons (.ite (.e (.cmp .eq (.bin .mod (.blt .int (.cons (.var 7) .nil)) (.lit (.int 3))) (.lit (.int 1)))) (.cons (.asg (.v 8) (.bin .add (.var 8) (.lit (.int 1)))) (.cons (.ite (.nt (.e (.cal (.nm 0) 124 (.cons (.met (.var 4) 32 0 .none (.cons (.ix (.var 12) (.lit (.int 1))) (.cons (.bin .add (.lit (.int 1)) (.ix (.var 12) (.lit (.int 0)))) (.cons (.ix (.var 12) (.lit (.int 2))) .nil)))) (.cons (.var 8) .nil))))) (.cons (.ret (.lit (.bl false))) .nil) .nil) (.cons (.exp (.met (.var 6) 7 0 .append (.cons (.az (.dsp (.cons (.var 8) (.cons (.ix (.var 12) (.lit (.int 1))) (.cons (.bin .add (.lit (.int 1)) (.ix (.var 12) (.lit (.int 0)))) (.cons (.ix (.var 12) (.lit (.int 2))) (.cons (.hp (.dsp .nil)) .nil))))))) .nil))) .nil))) .nil) .nil))))) (.cons (.asg (.v 13) (.bin .mod (.blt .int (.cons (.bin .div (.var 10) (.lit (.int 4))) .nil)) (.bin .add (.var 7) (.lit (.int 3))))) (.cons (.ite (.and (.e (.cmp .eq (.bin .mod (.blt .int (.cons (.bin .div (.var 11) (.lit (.int 7))) .nil)) (.lit (.int 2))) (.lit (.int 1)))) (.e (.cmp .gt (.blt .len (.cons (.var 5) .nil)) (.lit (.int 0))))) (.cons (.asg (.v 13) (.ix (.ix (.var 5) (.bin .mod (.blt .int (.cons (.bin .div (.var 10) (.lit (.int 4))) .nil)) (.blt .len (.cons (.var 5) .nil)))) (.lit (.int 0)))) .nil) .nil) (.cons (.asg (.v 14) (.bin .mod (.blt .int (.cons (.var 11) .nil)) (.var 2))) (.cons (.asg (.v 15) (.cal (.nm 0) 247 (.cons (.var 5) (.cons (.var 2) (.cons (.var 13) (.cons (.var 14) .nil)))))) (.cons (.ite (.nt (.e (.cal (.nm 0) 124 (.cons (.met (.var 3) 52 0 .none (.cons (.var 13) (.cons (.var 14) .nil))) (.cons (.var 15) .nil))))) (.cons (.ret (.lit (.bl false))) .nil) .nil) .nil)))))) (.cons (.asg (.v 16) (.hp (.met (.var 3) 94 0 .nil))) (.cons (.ite (.nt (.e (.cal (.nm 0) 124 (.cons (.var 16) (.cons (.az (.cal (.nm 0) 246 (.cons (.var 5) (.cons (.var 2) .nil)))) .nil))))) (.cons (.ret (.lit (.bl false))) .nil) .nil) (.cons (.exp (.met (.var 16) 7 0 .append (.cons (.tup (.cons (.lit (.int 0)) (.cons (.lit (.int 0)) .nil))) .nil))) (.cons (.asg (.v 17) (.hp (.met (.var 3) 94 0 .nil))) (.cons (.ite (.nt (.e (.cal (.nm 0) 124 (.cons (.var 17) (.cons (.az (.cal (.nm 0) 246 (.cons (.var 5) (.cons (.var 2) .nil)))) .nil))))) (.cons (.ret (.lit (.bl false))) .nil) .nil) (.cons (.exp (.met (.var 17) 7 0 .append (.cons (.tup (.cons (.lit (.int 0)) (.cons (.lit (.int 0)) .nil))) .nil))) (.cons (.ite (.nt (.e (.cal (.nm 0) 124 (.cons (.az (.met (.var 3) 94 0 .nil)) (.cons (.az (.cal (.nm 0) 246 (.cons (.var 5) (.cons (.var 2) .nil)))) .nil))))) (.cons (.ret (.lit (.bl false))) .nil) .nil) (.cons (.ite (.nt (.e (.cal (.nm 0) 124 (.cons (.az (.met (.var 4) 94 0 .nil)) (.cons (.az (.cal (.nm 0) 246 (.cons (.var 6) (.cons (.var 2) .nil)))) .nil))))) (.cons (.ret (.lit (.bl false))) .nil) .nil) .nil)))))))))))) (.cons (.ret (.cal (.nm 0) 124 (.cons (.az (.dsp (.cons (.att (.var 3) 49) (.cons (.att (.var 4) 49) .nil)))) (.cons (.az (.dsp (.cons (.var 2) (.cons (.var 2) .nil)))) .nil)))) .nil))))))))))
def fn_law : PyI.Fn := ⟨1, 18, [], b_law⟩
/- Reads.__init__: 0:self 1:journals -/
def b_Reads___init__ : PyI.Sms := (.cons (.asgA (.var 0) 49 (.var 1)) (.cons (.asgA (.var 0) 95 (.lit (.int 0))) (.cons (.asgA (.var 0) 96 (.hp (.dd [] .nil))) (.cons (.asgA (.var 0) 97 (.hp (.dd [] .nil))) .nil))))
def fn_Reads___init__ : PyI.Fn := ⟨2, 2, [], b_Reads___init__⟩
/- Reads.ask: 0:self 1:client 2:rid 3:query -/
def b_Reads_ask : PyI.Sms := (.cons (.asgA (.var 0) 95 (.bin .add (.att (.var 0) 95) (.lit (.int 1)))) (.cons (.asgI (.att (.var 0) 96) (.att (.var 0) 95) (.tup (.cons (.var 1) (.cons (.var 2) (.cons (.var 3) .nil))))) (.cons (.asgI (.att (.var 0) 97) (.att (.var 0) 95) (.hp (.dsp .nil))) (.cons (.ret (.att (.var 0) 95)) .nil))))
def fn_Reads_ask : PyI.Fn := ⟨4, 4, [], b_Reads_ask⟩
/- Reads.note: 0:self 1:token 2:journal 3:ponged -/
def b_Reads_note : PyI.Sms := (.cons (.ite (.e (.cmp .notin (.var 1) (.att (.var 0) 96))) (.cons (.ret (.lit .non)) .nil) .nil) (.cons (.asg (.v 3) (.ix (.att (.var 0) 97) (.var 1))) (.cons (.ite (.e (.cmp .notin (.var 2) (.var 3))) (.cons (.exp (.met (.var 3) 7 0 .append (.cons (.var 2) .nil))) .nil) .nil) (.cons (.ite (.nt (.e (.cal (.nm 0) 119 (.cons (.var 3) (.cons (.att (.var 0) 49) .nil))))) (.cons (.ret (.lit .non)) .nil) .nil) (.cons (.del (.att (.var 0) 97) (.var 1)) (.cons (.ret (.met (.att (.var 0) 96) 93 0 .pop (.cons (.var 1) .nil))) .nil))))))
def fn_Reads_note : PyI.Fn := ⟨3, 4, [], b_Reads_note⟩
/- Reads.unanswered: 0:self 1:pairs 2:token 3:journal -/
def b_Reads_unanswered : PyI.Sms := (.cons (.own 1 (.dsp .nil)) (.cons (.for (.v 2) (.val (.az (.srt (.att (.var 0) 96)))) (.cons (.for (.v 3) (.rng1 (.att (.var 0) 49)) (.cons (.ite (.e (.cmp .notin (.var 3) (.ix (.att (.var 0) 97) (.var 2)))) (.cons (.papp (.s 1) (.tup (.cons (.var 2) (.cons (.var 3) .nil)))) .nil) .nil) .nil)) .nil)) (.cons (.retO 1) .nil)))
def fn_Reads_unanswered : PyI.Fn := ⟨1, 4, [], b_Reads_unanswered⟩
def P : PyI.Pg where
  fns := [(118, fn_majority), (119, fn_has_majority), (0, fn__law_stream), (1, fn__law_draw), (124, fn__law_same), (245, fn__law_query), (246, fn__law_unanswered), (247, fn__law_due), (248, fn_law), (249, fn_Reads___init__), (250, fn_Reads_ask), (251, fn_Reads_note), (252, fn_Reads_unanswered)]
  cls := [(11, ⟨249, [(32, 250), (52, 251), (94, 252)], [], [49, 95, 96, 97], none⟩)]
  ist := []
  exc := PyI.excT []
  lim := 1000
  kon := []
def G : PyI.Gam where
  fnm := [(118, ("majority" : PySem.Str)), (119, ("has_majority" : PySem.Str)), (0, ("_law_stream" : PySem.Str)), (1, ("_law_draw" : PySem.Str)), (124, ("_law_same" : PySem.Str)), (245, ("_law_query" : PySem.Str)), (246, ("_law_unanswered" : PySem.Str)), (247, ("_law_due" : PySem.Str)), (248, ("law" : PySem.Str))]
  cnm := [(11, ("Reads" : PySem.Str))]
  xnm := []
  knm := []
  nms := [(7, ("append" : PySem.Str)), (93, ("pop" : PySem.Str)), (32, ("ask" : PySem.Str)), (52, ("note" : PySem.Str)), (94, ("unanswered" : PySem.Str)), (49, ("journals" : PySem.Str)), (95, ("_last" : PySem.Str)), (96, ("_asked" : PySem.Str)), (97, ("_ponged" : PySem.Str)), (6, ("__init__" : PySem.Str))]
  blt := (["set", "len", "range", "int", "isinstance", "tuple", "list", "bool", "str", "min", "sorted"] : List PySem.Str)
  rz := []
  kwm := []
  sts := []
def N_majority : List Str := (["count"] : List PySem.Str)
theorem sc_majority : L2.FnScope N_majority (["count"] : List PySem.Str) (L2.defScope st_majority) := ⟨rfl, rfl, rfl, by decide +kernel, rfl, by decide +kernel, by decide +kernel⟩
theorem mt_majority : PyI.mSs G ⟨N_majority, L2.defScope st_majority, true⟩ b_majority (L2.defBody st_majority) = true := by decide +kernel
def N_has_majority : List Str := (["members", "count", "seen", "member"] : List PySem.Str)
theorem sc_has_majority : L2.FnScope N_has_majority (["members", "count"] : List PySem.Str) (L2.defScope st_has_majority) := ⟨rfl, rfl, rfl, by decide +kernel, rfl, by decide +kernel, by decide +kernel⟩
theorem mt_has_majority : PyI.mSs G ⟨N_has_majority, L2.defScope st_has_majority, true⟩ b_has_majority (L2.defBody st_has_majority) = true := by decide +kernel
def N__law_stream : List Str := (["_law_script", "_law_many", "_law_draws", "_law_cell", "_law_rest", "_law_k", "_law_mixed"] : List PySem.Str)
theorem sc__law_stream : L2.FnScope N__law_stream (["_law_script", "_law_many"] : List PySem.Str) (L2.defScope st__law_stream) := ⟨rfl, rfl, rfl, by decide +kernel, rfl, by decide +kernel, by decide +kernel⟩
theorem mt__law_stream : PyI.mSs G ⟨N__law_stream, L2.defScope st__law_stream, true⟩ b__law_stream (L2.defBody st__law_stream) = true := by decide +kernel
def N__law_draw : List Str := (["_law_draws", "_law_k"] : List PySem.Str)
theorem sc__law_draw : L2.FnScope N__law_draw (["_law_draws", "_law_k"] : List PySem.Str) (L2.defScope st__law_draw) := ⟨rfl, rfl, rfl, by decide +kernel, rfl, by decide +kernel, by decide +kernel⟩
theorem mt__law_draw : PyI.mSs G ⟨N__law_draw, L2.defScope st__law_draw, true⟩ b__law_draw (L2.defBody st__law_draw) = true := by decide +kernel
def N__law_same : List Str := (["_law_actual", "_law_due_here", "_law_k"] : List PySem.Str)
theorem sc__law_same : L2.FnScope N__law_same (["_law_actual", "_law_due_here"] : List PySem.Str) (L2.defScope st__law_same) := ⟨rfl, rfl, rfl, by decide +kernel, rfl, by decide +kernel, by decide +kernel⟩
theorem mt__law_same : PyI.mSs G ⟨N__law_same, L2.defScope st__law_same, true⟩ b__law_same (L2.defBody st__law_same) = true := by decide +kernel
def N__law_query : List Str := (["_law_draw_here", "_law_queries"] : List PySem.Str)
theorem sc__law_query : L2.FnScope N__law_query (["_law_draw_here"] : List PySem.Str) (L2.defScope st__law_query) := ⟨rfl, rfl, rfl, by decide +kernel, rfl, by decide +kernel, by decide +kernel⟩
theorem mt__law_query : PyI.mSs G ⟨N__law_query, L2.defScope st__law_query, true⟩ b__law_query (L2.defBody st__law_query) = true := by decide +kernel
def N__law_unanswered : List Str := (["_law_opened", "_law_count", "_law_due_here", "_law_entry", "_law_k"] : List PySem.Str)
theorem sc__law_unanswered : L2.FnScope N__law_unanswered (["_law_opened", "_law_count"] : List PySem.Str) (L2.defScope st__law_unanswered) := ⟨rfl, rfl, rfl, by decide +kernel, rfl, by decide +kernel, by decide +kernel⟩
theorem mt__law_unanswered : PyI.mSs G ⟨N__law_unanswered, L2.defScope st__law_unanswered, true⟩ b__law_unanswered (L2.defBody st__law_unanswered) = true := by decide +kernel
def N__law_due : List Str := (["_law_opened", "_law_count", "_law_token", "_law_journal", "_law_found", "_law_k", "_law_entry"] : List PySem.Str)
theorem sc__law_due : L2.FnScope N__law_due (["_law_opened", "_law_count", "_law_token", "_law_journal"] : List PySem.Str) (L2.defScope st__law_due) := ⟨rfl, rfl, rfl, by decide +kernel, rfl, by decide +kernel, by decide +kernel⟩
theorem mt__law_due : PyI.mSs G ⟨N__law_due, L2.defScope st__law_due, true⟩ b__law_due (L2.defBody st__law_due) = true := by decide +kernel
def N_law : List Str := (["_law_script", "_law_draws", "_law_count", "_law_reads", "_law_other", "_law_opened", "_law_beside", "_law_last", "_law_tokens", "_law_step", "_law_draw_here", "_law_more", "_law_entry", "_law_token", "_law_journal", "_law_due_here", "_law_told", "_law_pairs"] : List PySem.Str)
theorem sc_law : L2.FnScope N_law (["_law_script"] : List PySem.Str) (L2.defScope st_law) := ⟨rfl, rfl, rfl, by decide +kernel, rfl, by decide +kernel, by decide +kernel⟩
theorem mt_law : PyI.mSs G ⟨N_law, L2.defScope st_law, true⟩ b_law (L2.defBody st_law) = true := by decide +kernel
def N_Reads___init__ : List Str := (["self", "journals"] : List PySem.Str)
theorem sc_Reads___init__ : L2.FnScope N_Reads___init__ (["self", "journals"] : List PySem.Str) (L2.defScope st_Reads___init__) := ⟨rfl, rfl, rfl, by decide +kernel, rfl, by decide +kernel, by decide +kernel⟩
theorem mt_Reads___init__ : PyI.mSs G ⟨N_Reads___init__, L2.defScope st_Reads___init__, true⟩ b_Reads___init__ (L2.defBody st_Reads___init__) = true := by decide +kernel
def N_Reads_ask : List Str := (["self", "client", "rid", "query"] : List PySem.Str)
theorem sc_Reads_ask : L2.FnScope N_Reads_ask (["self", "client", "rid", "query"] : List PySem.Str) (L2.defScope st_Reads_ask) := ⟨rfl, rfl, rfl, by decide +kernel, rfl, by decide +kernel, by decide +kernel⟩
theorem mt_Reads_ask : PyI.mSs G ⟨N_Reads_ask, L2.defScope st_Reads_ask, true⟩ b_Reads_ask (L2.defBody st_Reads_ask) = true := by decide +kernel
def N_Reads_note : List Str := (["self", "token", "journal", "ponged"] : List PySem.Str)
theorem sc_Reads_note : L2.FnScope N_Reads_note (["self", "token", "journal"] : List PySem.Str) (L2.defScope st_Reads_note) := ⟨rfl, rfl, rfl, by decide +kernel, rfl, by decide +kernel, by decide +kernel⟩
theorem mt_Reads_note : PyI.mSs G ⟨N_Reads_note, L2.defScope st_Reads_note, true⟩ b_Reads_note (L2.defBody st_Reads_note) = true := by decide +kernel
def N_Reads_unanswered : List Str := (["self", "pairs", "token", "journal"] : List PySem.Str)
theorem sc_Reads_unanswered : L2.FnScope N_Reads_unanswered (["self"] : List PySem.Str) (L2.defScope st_Reads_unanswered) := ⟨rfl, rfl, rfl, by decide +kernel, rfl, by decide +kernel, by decide +kernel⟩
theorem mt_Reads_unanswered : PyI.mSs G ⟨N_Reads_unanswered, L2.defScope st_Reads_unanswered, true⟩ b_Reads_unanswered (L2.defBody st_Reads_unanswered) = true := by decide +kernel
theorem all_mk {l : PySem.W.OpenLaw} {w : World} {K : PySem.W.Frag} {h : Heap} {mg : Str → Option Value} {fa f0 f1 f2 f3 f4 f5 f6 f7 f8 f9 f10 f11 f12 C0 : Addr} (X : K.In h) (GG : h.Ns mainGlobals mg) (hfa : mg "law" = some (.ref fa))
    {oc0 kV0 dc0 pm0 cd0 ct0 oc1 kV1 dc1 pm1 cd1 ct1 oc2 kV2 dc2 pm2 cd2 ct2 oc3 kV3 dc3 pm3 cd3 ct3 oc4 kV4 dc4 pm4 cd4 ct4 oc5 kV5 dc5 pm5 cd5 ct5 oc6 kV6 dc6 pm6 cd6 ct6 oc7 kV7 dc7 pm7 cd7 ct7 oc8 kV8 dc8 pm8 cd8 ct8 oc9 kV9 dc9 pm9 cd9 ct9 oc10 kV10 dc10 pm10 cd10 ct10 oc11 kV11 dc11 pm11 cd11 ct11 oc12 kV12 dc12 pm12 cd12 ct12 : Value} {od0 an0 od1 an1 od2 an2 od3 an3 od4 an4 od5 an5 od6 an6 od7 an7 od8 an8 od9 an9 od10 an10 od11 an11 od12 an12 : Option Addr} {sl0 sl1 sl2 sl3 sl4 sl5 sl6 sl7 sl8 sl9 sl10 sl11 sl12 : Array (Option Value)}
    (a0 : PySem.W.nsIn K mainGlobals "majority" = some (some (.ref f0)))
    (a1 : PySem.W.nsIn K mainGlobals "has_majority" = some (some (.ref f1)))
    (a2 : PySem.W.nsIn K mainGlobals "_law_stream" = some (some (.ref f2)))
    (a3 : PySem.W.nsIn K mainGlobals "_law_draw" = some (some (.ref f3)))
    (a4 : PySem.W.nsIn K mainGlobals "_law_same" = some (some (.ref f4)))
    (a5 : PySem.W.nsIn K mainGlobals "_law_query" = some (some (.ref f5)))
    (a6 : PySem.W.nsIn K mainGlobals "_law_unanswered" = some (some (.ref f6)))
    (a7 : PySem.W.nsIn K mainGlobals "_law_due" = some (some (.ref f7)))
    (a8 : PySem.W.nsIn K mainGlobals "law" = some (some (.ref f8)))
    (aC0 : PySem.W.nsIn K mainGlobals "Reads" = some (some (.ref C0)))
    (a9 : PySem.W.findIn K (.ref C0) "__init__" = some (some (.ref f9)))
    (i9 : PySem.W.isFn K (.ref f9) = true)
    (a10 : PySem.W.findIn K (.ref C0) "ask" = some (some (.ref f10)))
    (i10 : PySem.W.isFn K (.ref f10) = true)
    (a11 : PySem.W.findIn K (.ref C0) "note" = some (some (.ref f11)))
    (i11 : PySem.W.isFn K (.ref f11) = true)
    (a12 : PySem.W.findIn K (.ref C0) "unanswered" = some (some (.ref f12)))
    (i12 : PySem.W.isFn K (.ref f12) = true)
    (l0 : K.lookup f0 = some ⟨oc0, od0, .func (PySem.W.fnOf "majority" "majority" (L2.defArgs st_majority) (L2.defBody st_majority) (L2.defScope st_majority) .none kV0 dc0 pm0 an0 cd0 ct0), sl0⟩)
    (c0 : PySem.W.codeIn K cd0 "majority" = true)
    (k0 : PySem.W.keepIn K (.ref f0) = true)
    (l1 : K.lookup f1 = some ⟨oc1, od1, .func (PySem.W.fnOf "has_majority" "has_majority" (L2.defArgs st_has_majority) (L2.defBody st_has_majority) (L2.defScope st_has_majority) .none kV1 dc1 pm1 an1 cd1 ct1), sl1⟩)
    (c1 : PySem.W.codeIn K cd1 "has_majority" = true)
    (k1 : PySem.W.keepIn K (.ref f1) = true)
    (l2 : K.lookup f2 = some ⟨oc2, od2, .func (PySem.W.fnOf "_law_stream" "_law_stream" (L2.defArgs st__law_stream) (L2.defBody st__law_stream) (L2.defScope st__law_stream) .none kV2 dc2 pm2 an2 cd2 ct2), sl2⟩)
    (c2 : PySem.W.codeIn K cd2 "_law_stream" = true)
    (k2 : PySem.W.keepIn K (.ref f2) = true)
    (l3 : K.lookup f3 = some ⟨oc3, od3, .func (PySem.W.fnOf "_law_draw" "_law_draw" (L2.defArgs st__law_draw) (L2.defBody st__law_draw) (L2.defScope st__law_draw) .none kV3 dc3 pm3 an3 cd3 ct3), sl3⟩)
    (c3 : PySem.W.codeIn K cd3 "_law_draw" = true)
    (k3 : PySem.W.keepIn K (.ref f3) = true)
    (l4 : K.lookup f4 = some ⟨oc4, od4, .func (PySem.W.fnOf "_law_same" "_law_same" (L2.defArgs st__law_same) (L2.defBody st__law_same) (L2.defScope st__law_same) .none kV4 dc4 pm4 an4 cd4 ct4), sl4⟩)
    (c4 : PySem.W.codeIn K cd4 "_law_same" = true)
    (k4 : PySem.W.keepIn K (.ref f4) = true)
    (l5 : K.lookup f5 = some ⟨oc5, od5, .func (PySem.W.fnOf "_law_query" "_law_query" (L2.defArgs st__law_query) (L2.defBody st__law_query) (L2.defScope st__law_query) .none kV5 dc5 pm5 an5 cd5 ct5), sl5⟩)
    (c5 : PySem.W.codeIn K cd5 "_law_query" = true)
    (k5 : PySem.W.keepIn K (.ref f5) = true)
    (l6 : K.lookup f6 = some ⟨oc6, od6, .func (PySem.W.fnOf "_law_unanswered" "_law_unanswered" (L2.defArgs st__law_unanswered) (L2.defBody st__law_unanswered) (L2.defScope st__law_unanswered) .none kV6 dc6 pm6 an6 cd6 ct6), sl6⟩)
    (c6 : PySem.W.codeIn K cd6 "_law_unanswered" = true)
    (k6 : PySem.W.keepIn K (.ref f6) = true)
    (l7 : K.lookup f7 = some ⟨oc7, od7, .func (PySem.W.fnOf "_law_due" "_law_due" (L2.defArgs st__law_due) (L2.defBody st__law_due) (L2.defScope st__law_due) .none kV7 dc7 pm7 an7 cd7 ct7), sl7⟩)
    (c7 : PySem.W.codeIn K cd7 "_law_due" = true)
    (k7 : PySem.W.keepIn K (.ref f7) = true)
    (l8 : K.lookup f8 = some ⟨oc8, od8, .func (PySem.W.fnOf "law" "law" (L2.defArgs st_law) (L2.defBody st_law) (L2.defScope st_law) .none kV8 dc8 pm8 an8 cd8 ct8), sl8⟩)
    (c8 : PySem.W.codeIn K cd8 "law" = true)
    (k8 : PySem.W.keepIn K (.ref f8) = true)
    (l9 : K.lookup f9 = some ⟨oc9, od9, .func (PySem.W.fnOf "__init__" "Reads.__init__" (L2.defArgs st_Reads___init__) (L2.defBody st_Reads___init__) (L2.defScope st_Reads___init__) .none kV9 dc9 pm9 an9 cd9 ct9), sl9⟩)
    (c9 : PySem.W.codeIn K cd9 "Reads.__init__" = true)
    (k9 : PySem.W.keepIn K (.ref f9) = true)
    (l10 : K.lookup f10 = some ⟨oc10, od10, .func (PySem.W.fnOf "ask" "Reads.ask" (L2.defArgs st_Reads_ask) (L2.defBody st_Reads_ask) (L2.defScope st_Reads_ask) .none kV10 dc10 pm10 an10 cd10 ct10), sl10⟩)
    (c10 : PySem.W.codeIn K cd10 "Reads.ask" = true)
    (k10 : PySem.W.keepIn K (.ref f10) = true)
    (l11 : K.lookup f11 = some ⟨oc11, od11, .func (PySem.W.fnOf "note" "Reads.note" (L2.defArgs st_Reads_note) (L2.defBody st_Reads_note) (L2.defScope st_Reads_note) .none kV11 dc11 pm11 an11 cd11 ct11), sl11⟩)
    (c11 : PySem.W.codeIn K cd11 "Reads.note" = true)
    (k11 : PySem.W.keepIn K (.ref f11) = true)
    (l12 : K.lookup f12 = some ⟨oc12, od12, .func (PySem.W.fnOf "unanswered" "Reads.unanswered" (L2.defArgs st_Reads_unanswered) (L2.defBody st_Reads_unanswered) (L2.defScope st_Reads_unanswered) .none kV12 dc12 pm12 an12 cd12 ct12), sl12⟩)
    (c12 : PySem.W.codeIn K cd12 "Reads.unanswered" = true)
    (k12 : PySem.W.keepIn K (.ref f12) = true)
    (pgC0 : PySem.W.plainGet K C0 Str.empty = true)
    (hdC0 : PySem.W.hasDictIn K C0 = true)
    (poC0 : PySem.W.plainOver K C0 = true)
    (saC0 : PySem.W.findIn K (.ref C0) "__setattr__" = some (some (.builtin "object.__setattr__")))
    (mkC0 : PySem.W.makesIn K C0 = true)
    (kcC0 : PySem.W.keepIn K (.ref C0) = true)
    (nf0_49 : PySem.W.findIn K (.ref C0) "journals" = some none)
    (nf0_95 : PySem.W.findIn K (.ref C0) "_last" = some none)
    (nf0_96 : PySem.W.findIn K (.ref C0) "_asked" = some none)
    (nf0_97 : PySem.W.findIn K (.ref C0) "_ponged" = some none)
    (z0 : PySem.W.nsIn K mainGlobals "set" = some none)
    (z1 : PySem.W.nsIn K mainGlobals "len" = some none)
    (z2 : PySem.W.nsIn K mainGlobals "range" = some none)
    (z3 : PySem.W.nsIn K mainGlobals "int" = some none)
    (z4 : PySem.W.nsIn K mainGlobals "isinstance" = some none)
    (z5 : PySem.W.nsIn K mainGlobals "tuple" = some none)
    (z6 : PySem.W.nsIn K mainGlobals "list" = some none)
    (z7 : PySem.W.nsIn K mainGlobals "bool" = some none)
    (z8 : PySem.W.nsIn K mainGlobals "str" = some none)
    (z9 : PySem.W.nsIn K mainGlobals "min" = some none)
    (z10 : PySem.W.nsIn K mainGlobals "sorted" = some none)
    : ∃ (G : PyI.Gam) (T : PyI.Tab2), T.w = w ∧ PyI.Wd P G T K mg ∧ PyI.FnF P G T K ∧ T.fn 248 = fa ∧ T.ps 248 = ((["_law_script"] : List PySem.Str) : List Str) ∧ ∀ (s : Shared) (u : Value), BindsTo s (T.fd 248) ⟨[u], []⟩ [("_law_script", u)] := by
  have e := hfa.symm.trans (PySem.W.mg_of X GG a8)
  cases e
  have F0 := L2.fun_mk (st := st_majority) l0 c0 k0
  have b0 := F0.binds (ps := (["count"] : List PySem.Str)) fun _ _ _ _ _ _ us hl => match us, hl with | [_], _ => rfl
  have F1 := L2.fun_mk (st := st_has_majority) l1 c1 k1
  have b1 := F1.binds (ps := (["members", "count"] : List PySem.Str)) fun _ _ _ _ _ _ us hl => match us, hl with | [_, _], _ => rfl
  have F2 := L2.fun_mk (st := st__law_stream) l2 c2 k2
  have b2 := F2.binds (ps := (["_law_script", "_law_many"] : List PySem.Str)) fun _ _ _ _ _ _ us hl => match us, hl with | [_, _], _ => rfl
  have F3 := L2.fun_mk (st := st__law_draw) l3 c3 k3
  have b3 := F3.binds (ps := (["_law_draws", "_law_k"] : List PySem.Str)) fun _ _ _ _ _ _ us hl => match us, hl with | [_, _], _ => rfl
  have F4 := L2.fun_mk (st := st__law_same) l4 c4 k4
  have b4 := F4.binds (ps := (["_law_actual", "_law_due_here"] : List PySem.Str)) fun _ _ _ _ _ _ us hl => match us, hl with | [_, _], _ => rfl
  have F5 := L2.fun_mk (st := st__law_query) l5 c5 k5
  have b5 := F5.binds (ps := (["_law_draw_here"] : List PySem.Str)) fun _ _ _ _ _ _ us hl => match us, hl with | [_], _ => rfl
  have F6 := L2.fun_mk (st := st__law_unanswered) l6 c6 k6
  have b6 := F6.binds (ps := (["_law_opened", "_law_count"] : List PySem.Str)) fun _ _ _ _ _ _ us hl => match us, hl with | [_, _], _ => rfl
  have F7 := L2.fun_mk (st := st__law_due) l7 c7 k7
  have b7 := F7.binds (ps := (["_law_opened", "_law_count", "_law_token", "_law_journal"] : List PySem.Str)) fun _ _ _ _ _ _ us hl => match us, hl with | [_, _, _, _], _ => rfl
  have F8 := L2.fun_mk (st := st_law) l8 c8 k8
  have b8 := F8.binds (ps := (["_law_script"] : List PySem.Str)) fun _ _ _ _ _ _ us hl => match us, hl with | [_], _ => rfl
  have F9 := L2.fun_mk (st := st_Reads___init__) l9 c9 k9
  have b9 := F9.binds (ps := (["self", "journals"] : List PySem.Str)) fun _ _ _ _ _ _ us hl => match us, hl with | [_, _], _ => rfl
  have F10 := L2.fun_mk (st := st_Reads_ask) l10 c10 k10
  have b10 := F10.binds (ps := (["self", "client", "rid", "query"] : List PySem.Str)) fun _ _ _ _ _ _ us hl => match us, hl with | [_, _, _, _], _ => rfl
  have F11 := L2.fun_mk (st := st_Reads_note) l11 c11 k11
  have b11 := F11.binds (ps := (["self", "token", "journal"] : List PySem.Str)) fun _ _ _ _ _ _ us hl => match us, hl with | [_, _, _], _ => rfl
  have F12 := L2.fun_mk (st := st_Reads_unanswered) l12 c12 k12
  have b12 := F12.binds (ps := (["self"] : List PySem.Str)) fun _ _ _ _ _ _ us hl => match us, hl with | [_], _ => rfl
  let T : PyI.Tab2 := PyI.mkT w [(11, C0)] [] [(118, f0), (119, f1), (0, f2), (1, f3), (124, f4), (245, f5), (246, f6), (247, f7), (248, fa), (249, f9), (250, f10), (251, f11), (252, f12)] G.nms (PySem.W.fnOf "majority" "majority" (L2.defArgs st_majority) (L2.defBody st_majority) (L2.defScope st_majority) .none kV0 dc0 pm0 an0 cd0 ct0) [(118, PySem.W.fnOf "majority" "majority" (L2.defArgs st_majority) (L2.defBody st_majority) (L2.defScope st_majority) .none kV0 dc0 pm0 an0 cd0 ct0), (119, PySem.W.fnOf "has_majority" "has_majority" (L2.defArgs st_has_majority) (L2.defBody st_has_majority) (L2.defScope st_has_majority) .none kV1 dc1 pm1 an1 cd1 ct1), (0, PySem.W.fnOf "_law_stream" "_law_stream" (L2.defArgs st__law_stream) (L2.defBody st__law_stream) (L2.defScope st__law_stream) .none kV2 dc2 pm2 an2 cd2 ct2), (1, PySem.W.fnOf "_law_draw" "_law_draw" (L2.defArgs st__law_draw) (L2.defBody st__law_draw) (L2.defScope st__law_draw) .none kV3 dc3 pm3 an3 cd3 ct3), (124, PySem.W.fnOf "_law_same" "_law_same" (L2.defArgs st__law_same) (L2.defBody st__law_same) (L2.defScope st__law_same) .none kV4 dc4 pm4 an4 cd4 ct4), (245, PySem.W.fnOf "_law_query" "_law_query" (L2.defArgs st__law_query) (L2.defBody st__law_query) (L2.defScope st__law_query) .none kV5 dc5 pm5 an5 cd5 ct5), (246, PySem.W.fnOf "_law_unanswered" "_law_unanswered" (L2.defArgs st__law_unanswered) (L2.defBody st__law_unanswered) (L2.defScope st__law_unanswered) .none kV6 dc6 pm6 an6 cd6 ct6), (247, PySem.W.fnOf "_law_due" "_law_due" (L2.defArgs st__law_due) (L2.defBody st__law_due) (L2.defScope st__law_due) .none kV7 dc7 pm7 an7 cd7 ct7), (248, PySem.W.fnOf "law" "law" (L2.defArgs st_law) (L2.defBody st_law) (L2.defScope st_law) .none kV8 dc8 pm8 an8 cd8 ct8), (249, PySem.W.fnOf "__init__" "Reads.__init__" (L2.defArgs st_Reads___init__) (L2.defBody st_Reads___init__) (L2.defScope st_Reads___init__) .none kV9 dc9 pm9 an9 cd9 ct9), (250, PySem.W.fnOf "ask" "Reads.ask" (L2.defArgs st_Reads_ask) (L2.defBody st_Reads_ask) (L2.defScope st_Reads_ask) .none kV10 dc10 pm10 an10 cd10 ct10), (251, PySem.W.fnOf "note" "Reads.note" (L2.defArgs st_Reads_note) (L2.defBody st_Reads_note) (L2.defScope st_Reads_note) .none kV11 dc11 pm11 an11 cd11 ct11), (252, PySem.W.fnOf "unanswered" "Reads.unanswered" (L2.defArgs st_Reads_unanswered) (L2.defBody st_Reads_unanswered) (L2.defScope st_Reads_unanswered) .none kV12 dc12 pm12 an12 cd12 ct12)] [(118, (["count"] : List PySem.Str)), (119, (["members", "count"] : List PySem.Str)), (0, (["_law_script", "_law_many"] : List PySem.Str)), (1, (["_law_draws", "_law_k"] : List PySem.Str)), (124, (["_law_actual", "_law_due_here"] : List PySem.Str)), (245, (["_law_draw_here"] : List PySem.Str)), (246, (["_law_opened", "_law_count"] : List PySem.Str)), (247, (["_law_opened", "_law_count", "_law_token", "_law_journal"] : List PySem.Str)), (248, (["_law_script"] : List PySem.Str)), (249, (["self", "journals"] : List PySem.Str)), (250, (["self", "client", "rid", "query"] : List PySem.Str)), (251, (["self", "token", "journal"] : List PySem.Str)), (252, (["self"] : List PySem.Str))] (by decide +kernel)
  refine ⟨G, T, rfl, ?_, ?_, rfl, rfl, fun s v => .of_eq rfl⟩
  · exact {
      blt := PyI.memAll.get (show PyI.memAll _ G.blt from And.intro (PySem.W.mg_none_of X GG z0) (And.intro (PySem.W.mg_none_of X GG z1) (And.intro (PySem.W.mg_none_of X GG z2) (And.intro (PySem.W.mg_none_of X GG z3) (And.intro (PySem.W.mg_none_of X GG z4) (And.intro (PySem.W.mg_none_of X GG z5) (And.intro (PySem.W.mg_none_of X GG z6) (And.intro (PySem.W.mg_none_of X GG z7) (And.intro (PySem.W.mg_none_of X GG z8) (And.intro (PySem.W.mg_none_of X GG z9) (And.intro (PySem.W.mg_none_of X GG z10) (trivial))))))))))))
      fns := fun i x h => PyI.memAll.look (R := fun p => (P.fn p.1).isSome = true ∧ mg p.2 = some (.ref (T.fn p.1)) ∧ PySem.W.keepIn K (.ref (T.fn p.1)) = true) (xs := G.fnm) (And.intro (⟨by decide, PySem.W.mg_of X GG a0, k0⟩) (And.intro (⟨by decide, PySem.W.mg_of X GG a1, k1⟩) (And.intro (⟨by decide, PySem.W.mg_of X GG a2, k2⟩) (And.intro (⟨by decide, PySem.W.mg_of X GG a3, k3⟩) (And.intro (⟨by decide, PySem.W.mg_of X GG a4, k4⟩) (And.intro (⟨by decide, PySem.W.mg_of X GG a5, k5⟩) (And.intro (⟨by decide, PySem.W.mg_of X GG a6, k6⟩) (And.intro (⟨by decide, PySem.W.mg_of X GG a7, k7⟩) (And.intro (⟨by decide, PySem.W.mg_of X GG a8, k8⟩) (trivial)))))))))) i x h
      bnd := fun i F h e => PyI.memAll.look (R := fun p => p.2.df = [] → L2.Binds K (T.fd p.1) (T.ps p.1) []) (xs := P.fns) (And.intro (fun _ => b0) (And.intro (fun _ => b1) (And.intro (fun _ => b2) (And.intro (fun _ => b3) (And.intro (fun _ => b4) (And.intro (fun _ => b5) (And.intro (fun _ => b6) (And.intro (fun _ => b7) (And.intro (fun _ => b8) (And.intro (fun _ => b9) (And.intro (fun _ => b10) (And.intro (fun _ => b11) (And.intro (fun _ => b12) (trivial)))))))))))))) i F h e
      fdf := fun i x hx F h => PyI.memAll.look (R := fun p => ∀ F, P.fn p.1 = some F → F.df = []) (xs := G.fnm) (And.intro (fun F h => by cases h; rfl) (And.intro (fun F h => by cases h; rfl) (And.intro (fun F h => by cases h; rfl) (And.intro (fun F h => by cases h; rfl) (And.intro (fun F h => by cases h; rfl) (And.intro (fun F h => by cases h; rfl) (And.intro (fun F h => by cases h; rfl) (And.intro (fun F h => by cases h; rfl) (And.intro (fun F h => by cases h; rfl) (trivial)))))))))) i x hx F h
      kon := fun i x h => PyI.memAll.look (R := fun p => ∃ v u y, P.kn p.1 = some v ∧ mg p.2 = some u ∧ L2.RelV y u ∧ ∀ φ H, PyI.RV K T.toTab φ H v y) (xs := G.knm) (trivial) i x h
      nms := fun i x h => PyI.nmF_of h
      cls := fun d C h => PyI.memAll.look (R := fun (p : Nat × PyI.Cl) => L2.Cls K (T.cls p.1) ∧ (∀ f ∈ p.2.fs, L2.NoAttr K (T.cls p.1) (T.nm f)) ∧ (∀ m g, p.2.ms.lookup m = some g → (∃ F, P.fn g = some F ∧ (m ∉ G.kwm.map (·.1) → F.df = []) ∧ ∀ kw i, (m, kw, i) ∈ G.kwm → PyI.KwB K (T.fd g) (T.ps g) kw i) ∧ L2.Meth K (T.cls p.1) (T.nm m) (T.fn g)) ∧ (∀ m g, p.2.ps.lookup m = some g → (∃ F, P.fn g = some F ∧ F.df = []) ∧ ∃ q, L2.PropOf K (T.cls p.1) (T.nm m) q (T.fn g)) ∧ (∃ F, P.fn p.2.ini = some F ∧ F.df = []) ∧ L2.Mk K (T.cls p.1) (T.fn p.2.ini)) (xs := P.cls) (And.intro (⟨⟨pgC0, hdC0, poC0, saC0⟩, PyI.memAll.get (R := fun f => L2.NoAttr K C0 (T.nm f)) (xs := [49, 95, 96, 97]) (And.intro (nf0_49) (And.intro (nf0_95) (And.intro (nf0_96) (And.intro (nf0_97) (trivial))))), fun m g h => PyI.memAll.look (R := fun p => (∃ F, P.fn p.2 = some F ∧ (p.1 ∉ G.kwm.map (·.1) → F.df = []) ∧ ∀ kw i, (p.1, kw, i) ∈ G.kwm → PyI.KwB K (T.fd p.2) (T.ps p.2) kw i) ∧ L2.Meth K C0 (T.nm p.1) (T.fn p.2)) (xs := [(32, 250), (52, 251), (94, 252)]) (And.intro (⟨⟨_, rfl, fun _ => rfl, fun kw i h => by simp [G] at h⟩, ⟨a10, i10, k10⟩⟩) (And.intro (⟨⟨_, rfl, fun _ => rfl, fun kw i h => by simp [G] at h⟩, ⟨a11, i11, k11⟩⟩) (And.intro (⟨⟨_, rfl, fun _ => rfl, fun kw i h => by simp [G] at h⟩, ⟨a12, i12, k12⟩⟩) (trivial)))) m g h, fun m g h => PyI.memAll.look (R := fun p => (∃ F, P.fn p.2 = some F ∧ F.df = []) ∧ ∃ q, L2.PropOf K C0 (T.nm p.1) q (T.fn p.2)) (xs := []) (trivial) m g h, ⟨_, rfl, rfl⟩, (show L2.Mk K C0 f9 from ⟨mkC0, a9, i9, kcC0⟩)⟩) (trivial)) d C h
      st := fun d m f h => PyI.memAll.get (R := fun (p : Nat × Nat × Nat) => (∃ F, P.fn p.2.2 = some F ∧ F.df = []) ∧ PyI.StM K (T.cls p.1) (T.nm p.2.1) (T.fn p.2.2)) (xs := []) (trivial) (d, m, f) h
      cnm := fun i x h => PyI.memAll.look (R := fun p => (P.cl p.1).isSome = true ∧ mg p.2 = some (.ref (T.cls p.1))) (xs := G.cnm) (And.intro (⟨by decide, PySem.W.mg_of X GG aC0⟩) (trivial)) i x h
      isi := fun c d h => by simp [P] at h
      rse := fun d x hz h => PyI.memAll.look (R := fun p => p.1 ∈ G.rz → PyI.RseF K mg T p.1 p.2) (xs := G.xnm) (trivial) d x h hz
      exn := fun i x h => PyI.memAll.look (R := fun p => mg p.2 = some (T.exn p.1) ∨ (mg p.2 = none ∧ bootBuiltins p.2 = some (T.exn p.1))) (xs := G.xnm) (trivial) i x h
      exm := PyI.exc_tab (tab := []) (R := fun e d b => PySem.W.exmOne K (T.exn e) (T.exn d) = some b ∧ PySem.W.kitOne K (T.exn e) (T.exn d) = some b ∧ ∃ D, T.exn e = .ref D ∧ L2.ExcC K D) (trivial)
      exv := fun i x h => PyI.memAll.look (R := fun p => ∃ u, L2.RelV u (T.exn p.1) ∧ ∀ z, L2.RelV u z → z = T.exn p.1) (xs := G.xnm) (trivial) i x h }
  · exact ⟨fun i F h => PyI.memAll.look (R := fun (p : Nat × PyI.Fn) => ∃ (x qual : Str) (st : Stmt) (N : List Str), L2.Fun K x qual st (T.fn p.1) (T.fd p.1) ∧ L2.FnScope N (T.ps p.1) (L2.defScope st) ∧ (T.ps p.1).length = p.2.np ∧ N.length = p.2.ns ∧ PyI.mSs G ⟨N, L2.defScope st, true⟩ p.2.body (L2.defBody st) = true) (xs := P.fns) (And.intro (⟨"majority", "majority", st_majority, N_majority, F0, sc_majority, rfl, rfl, mt_majority⟩) (And.intro (⟨"has_majority", "has_majority", st_has_majority, N_has_majority, F1, sc_has_majority, rfl, rfl, mt_has_majority⟩) (And.intro (⟨"_law_stream", "_law_stream", st__law_stream, N__law_stream, F2, sc__law_stream, rfl, rfl, mt__law_stream⟩) (And.intro (⟨"_law_draw", "_law_draw", st__law_draw, N__law_draw, F3, sc__law_draw, rfl, rfl, mt__law_draw⟩) (And.intro (⟨"_law_same", "_law_same", st__law_same, N__law_same, F4, sc__law_same, rfl, rfl, mt__law_same⟩) (And.intro (⟨"_law_query", "_law_query", st__law_query, N__law_query, F5, sc__law_query, rfl, rfl, mt__law_query⟩) (And.intro (⟨"_law_unanswered", "_law_unanswered", st__law_unanswered, N__law_unanswered, F6, sc__law_unanswered, rfl, rfl, mt__law_unanswered⟩) (And.intro (⟨"_law_due", "_law_due", st__law_due, N__law_due, F7, sc__law_due, rfl, rfl, mt__law_due⟩) (And.intro (⟨"law", "law", st_law, N_law, F8, sc_law, rfl, rfl, mt_law⟩) (And.intro (⟨"__init__", "Reads.__init__", st_Reads___init__, N_Reads___init__, F9, sc_Reads___init__, rfl, rfl, mt_Reads___init__⟩) (And.intro (⟨"ask", "Reads.ask", st_Reads_ask, N_Reads_ask, F10, sc_Reads_ask, rfl, rfl, mt_Reads_ask⟩) (And.intro (⟨"note", "Reads.note", st_Reads_note, N_Reads_note, F11, sc_Reads_note, rfl, rfl, mt_Reads_note⟩) (And.intro (⟨"unanswered", "Reads.unanswered", st_Reads_unanswered, N_Reads_unanswered, F12, sc_Reads_unanswered, rfl, rfl, mt_Reads_unanswered⟩) (trivial)))))))))))))) i F h⟩
end PyLaw
namespace PyLaw
open PyI
noncomputable section
def s_majority (call callI : Nat → List Val → Mem → Res Ret) (count : Val) (h : Mem) : Lo Unit Unit :=
  Res.lo (Res.bind (binV .div count (Val.int 2) h) fun t1 h => binV .add t1 (Val.int 1) h) fun v h => .rt (.v v) h
theorem t_majority (call callI : Nat → List Val → Mem → Res Ret) (count : Val) (h : Mem) : PyI.fin (exs P call callI b_majority [.v count] h) = (s_majority call callI count h).fin := by
  refine rl_fin (R := fun _ _ => True) (R2 := fun _ _ => True) (X := fun _ => True) ?_
  unfold b_majority s_majority
  exact rl_ret (by rfl) trivial
theorem e_majority {k : Nat} (count : Val) (h : Mem) : run P (k + 2) 118 [count] h = (s_majority (run P (k + 1)) (run P k) count h).fin :=
  (run_eq (F := fn_majority) (b := b_majority) (fr := [.v count]) rfl rfl rfl rfl).trans (t_majority ..)
def s_has_majority (call callI : Nat → List Val → Mem → Res Ret) (members count : Val) (h : Mem) : Lo Unit Unit :=
  Res.lo (.ok (.set []) h) fun seen h => Res.lo (itrS members h) fun t7 h => Lo.seq (σ := Con) (forS t7 (fun v4 s3 h => Res.lo (Res.bind (cmpB .le (Val.int 0) v4 h) fun t h => if t then (cmpB .lt v4 count h) else .ok false h) fun t h => if t then (if isSet s3 then Res.lo (.ok v4 h) fun v h => Lo.op (cadd s3 v) fun seen => .nx seen h else .bad) else (.nx s3 h)) (t7.cnt h) 0 seen h) fun s3 h => Res.lo (Res.bind (plS (some s3) .len h (fun h => .ok [] h) fun h => some s3) fun t8 h => Res.bind (calS call 118 [count] h) fun t9 h => cmpS .ge t8 t9 h) fun v h => .rt (.v v) h
theorem t_has_majority (call callI : Nat → List Val → Mem → Res Ret) (members count : Val) (h : Mem) : PyI.fin (exs P call callI b_has_majority [.v members, .v count, .e, .e] h) = (s_has_majority call callI members count h).fin := by
  refine rl_fin (R := fun _ _ => True) (R2 := fun _ _ => True) (X := fun _ => True) ?_
  unfold b_has_majority s_has_majority
  refine rl_own (fun seen => [.v members, .v count, .o seen, .e]) (by rfl) (fun _ => rfl) trivial fun seen h => ?_
  refine rl_for (fun (s1 : Con) fr => ∃ d2 : Sl, fr = [.v members, .v count, .o s1, d2]) (by rfl) trivial ⟨_, rfl⟩ (fun v4 s3 fr h q => ?_) (fun s3 fr h q => ?_)
  · obtain ⟨d5, rfl⟩ := q
    refine rl_put1 [.v members, .v count, .o s3, .v v4] rfl ?_
    refine rl_ite (by first | done | (simp only [evt_cmp, evt_isi, evt_isN, evt_nt, evt_and, evt_or, evt_bl, evt_chn, evt_Nt, evt_And, evt_Or]; first | done | rfl) | rfl) trivial (fun h => ?_) (fun h => ?_)
    · -- then
      refine rl_padd (fun seen => [.v members, .v count, .o seen, .v v4]) rfl (by rfl) (fun _ => rfl) trivial fun seen h => ?_
      exact rl_nil ⟨_, rfl⟩
    · -- else
      exact rl_nil ⟨_, rfl⟩
  obtain ⟨d6, rfl⟩ := q
  exact rl_ret (by rfl) trivial
theorem e_has_majority {k : Nat} (members count : Val) (h : Mem) : run P (k + 2) 119 [members, count] h = (s_has_majority (run P (k + 1)) (run P k) members count h).fin :=
  (run_eq (F := fn_has_majority) (b := b_has_majority) (fr := [.v members, .v count, .e, .e]) rfl rfl rfl rfl).trans (t_has_majority ..)
def s_l_stream (call callI : Nat → List Val → Mem → Res Ret) (script many : Val) (h : Mem) : Lo Unit Unit :=
  Res.lo (dspS [] h) fun draws h => Res.lo (itrS script h) fun t49 h => Lo.seq (σ := Con) (forS t49 (fun v7 s6 h => Res.lo (Res.bind (plS (some s6) .len h (fun h => .ok [] h) fun h => some s6) fun t12 h => cmpB .ge t12 many h) fun t h => if t then (.bk s6 h) else (Res.lo (Res.bind (binV .pow (Val.int 10) (Val.int 18) h) fun t13 h => cmpB .ge v7 t13 h) fun t h => if t then (Res.lo (.ok v7 h) fun rest_ h => Res.lo (rng1S (Val.int 60) h) fun t21 h => Lo.seq (σ := Con × Val) (forS t21 (fun v17 s16 h => Res.lo (cmpB .gt s16.2 (Val.int 0) h) fun t h => if t then (if isLst s16.1 then Res.lo (Res.bind (bltV .int [s16.2] h) fun t19 h => binV .mod t19 (Val.int 5040) h) fun v h => Lo.op (capp s16.1 v) fun draws => Res.lo (binV .div s16.2 (Val.int 5040) h) fun rest_ h => .nx (draws, rest_) h else .bad) else (.nx (s16.1, s16.2) h)) (t21.cnt h) 0 (s6, rest_) h) fun s16 h => .nx s16.1 h) else (Res.lo (Res.bind (Res.bind (Res.bind (Res.bind (Res.bind (binV .mul v7 (Val.int 48271) h) fun t26 h => Res.bind (Res.bind (plS (some s6) .len h (fun h => .ok [] h) fun h => some s6) fun t28 h => binV .mul t28 (Val.int 69621) h) fun t27 h => binV .add t26 t27 h) fun t25 h => binV .add t25 (Val.int 11) h) fun t24 h => .ok [t24] h) fun t23 h => bltV .int t23 h) fun t22 h => binV .mod t22 (Val.int 2147483647) h) fun mixed h => Res.lo (rng1S (Val.int 4) h) fun t44 h => Lo.seq (σ := Con × Val) (forS t44 (fun v32 s31 h => Res.lo (Res.bind (Res.bind (Res.bind (Res.bind (Res.bind (binV .mul s31.2 (Val.int 69621) h) fun t38 h => Res.bind (binV .mul (Val.int 7) v32 h) fun t39 h => binV .add t38 t39 h) fun t37 h => binV .add t37 (Val.int 3) h) fun t36 h => .ok [t36] h) fun t35 h => bltV .int t35 h) fun t34 h => binV .mod t34 (Val.int 2147483629) h) fun mixed h => if isLst s31.1 then Res.lo (Res.bind (Res.bind (Res.bind (binV .div mixed (Val.int 7) h) fun t42 h => .ok [t42] h) fun t41 h => bltV .int t41 h) fun t40 h => binV .mod t40 (Val.int 5040) h) fun v h => Lo.op (capp s31.1 v) fun draws => .nx (draws, mixed) h else .bad) (t44.cnt h) 0 (s6, mixed) h) fun s31 h => .nx s31.1 h))) (t49.cnt h) 0 draws h) fun s6 h => retC s6 h
theorem t_l_stream (call callI : Nat → List Val → Mem → Res Ret) (script many : Val) (h : Mem) : PyI.fin (exs P call callI b__law_stream [.v script, .v many, .e, .e, .e, .e, .e] h) = (s_l_stream call callI script many h).fin := by
  refine rl_fin (R := fun _ _ => True) (R2 := fun _ _ => True) (X := fun _ => True) ?_
  unfold b__law_stream s_l_stream
  refine rl_own (fun draws => [.v script, .v many, .o draws, .e, .e, .e, .e]) (by rfl) (fun _ => rfl) trivial fun draws h => ?_
  refine rl_for (fun (s1 : Con) fr => ∃ d2 d3 d4 d5 : Sl, fr = [.v script, .v many, .o s1, d2, d3, d4, d5]) (by rfl) trivial ⟨_, _, _, _, rfl⟩ (fun v7 s6 fr h q => ?_) (fun s6 fr h q => ?_)
  · obtain ⟨d8, d9, d10, d11, rfl⟩ := q
    refine rl_put1 [.v script, .v many, .o s6, .v v7, d9, d10, d11] rfl ?_
    refine rl_ite (by first | done | (simp only [evt_cmp, evt_isi, evt_isN, evt_nt, evt_and, evt_or, evt_bl, evt_chn, evt_Nt, evt_And, evt_Or]; first | done | rfl) | rfl) trivial (fun h => ?_) (fun h => ?_)
    · -- then
      exact rl_brk ⟨_, _, _, _, rfl⟩
    · -- else
      refine rl_ite (by first | done | (simp only [evt_cmp, evt_isi, evt_isN, evt_nt, evt_and, evt_or, evt_bl, evt_chn, evt_Nt, evt_And, evt_Or]; first | done | rfl) | rfl) trivial (fun h => ?_) (fun h => ?_)
      · -- then
        refine rl_asg (by rfl) trivial (fun rest_ h => rl_put1 [.v script, .v many, .o s6, .v v7, .v rest_, d10, d11] rfl ?_)
        refine rl_for (fun (s14 : Con × Val) fr => ∃ d15 : Sl, fr = [.v script, .v many, .o s14.1, .v v7, .v s14.2, d15, d11]) (by rfl) trivial ⟨_, rfl⟩ (fun v17 s16 fr h q => ?_) (fun s16 fr h q => ?_)
        · obtain ⟨d18, rfl⟩ := q
          refine rl_put1 [.v script, .v many, .o s16.1, .v v7, .v s16.2, .v v17, d11] rfl ?_
          refine rl_ite (by first | done | (simp only [evt_cmp, evt_isi, evt_isN, evt_nt, evt_and, evt_or, evt_bl, evt_chn, evt_Nt, evt_And, evt_Or]; first | done | rfl) | rfl) trivial (fun h => ?_) (fun h => ?_)
          · -- then
            refine rl_papp (fun draws => [.v script, .v many, .o draws, .v v7, .v s16.2, .v v17, d11]) rfl (by rfl) (fun _ => rfl) trivial fun draws h => ?_
            refine rl_asg (by rfl) trivial (fun rest_ h => rl_put1 [.v script, .v many, .o draws, .v v7, .v rest_, .v v17, d11] rfl ?_)
            exact rl_nil ⟨_, rfl⟩
          · -- else
            exact rl_nil ⟨_, rfl⟩
        obtain ⟨d20, rfl⟩ := q
        exact rl_nil ⟨_, _, _, _, rfl⟩
      · -- else
        refine rl_asg (by rfl) trivial (fun mixed h => rl_put1 [.v script, .v many, .o s6, .v v7, d9, d10, .v mixed] rfl ?_)
        refine rl_for (fun (s29 : Con × Val) fr => ∃ d30 : Sl, fr = [.v script, .v many, .o s29.1, .v v7, d9, d30, .v s29.2]) (by rfl) trivial ⟨_, rfl⟩ (fun v32 s31 fr h q => ?_) (fun s31 fr h q => ?_)
        · obtain ⟨d33, rfl⟩ := q
          refine rl_put1 [.v script, .v many, .o s31.1, .v v7, d9, .v v32, .v s31.2] rfl ?_
          refine rl_asg (by rfl) trivial (fun mixed h => rl_put1 [.v script, .v many, .o s31.1, .v v7, d9, .v v32, .v mixed] rfl ?_)
          refine rl_papp (fun draws => [.v script, .v many, .o draws, .v v7, d9, .v v32, .v mixed]) rfl (by rfl) (fun _ => rfl) trivial fun draws h => ?_
          exact rl_nil ⟨_, rfl⟩
        obtain ⟨d43, rfl⟩ := q
        exact rl_nil ⟨_, _, _, _, rfl⟩
  obtain ⟨d45, d46, d47, d48, rfl⟩ := q
  exact rl_retO rfl
theorem e_l_stream {k : Nat} (script many : Val) (h : Mem) : run P (k + 2) 0 [script, many] h = (s_l_stream (run P (k + 1)) (run P k) script many h).fin :=
  (run_eq (F := fn__law_stream) (b := b__law_stream) (fr := [.v script, .v many, .e, .e, .e, .e, .e]) rfl rfl rfl rfl).trans (t_l_stream ..)
def s_l_draw (call callI : Nat → List Val → Mem → Res Ret) (draws k_ : Val) (h : Mem) : Lo Unit Unit :=
  Res.lo (Res.bind (bltV .len [draws] h) fun t1 h => cmpB .lt k_ t1 h) fun t h => if t then (Res.lo (ixV draws k_ h) fun v h => .rt (.v v) h) else (Res.lo (.ok (Val.int 0) h) fun v h => .rt (.v v) h)
theorem t_l_draw (call callI : Nat → List Val → Mem → Res Ret) (draws k_ : Val) (h : Mem) : PyI.fin (exs P call callI b__law_draw [.v draws, .v k_] h) = (s_l_draw call callI draws k_ h).fin := by
  refine rl_fin (R := fun _ _ => True) (R2 := fun _ _ => True) (X := fun _ => True) ?_
  unfold b__law_draw s_l_draw
  refine rl_ite (by first | done | (simp only [evt_cmp, evt_isi, evt_isN, evt_nt, evt_and, evt_or, evt_bl, evt_chn, evt_Nt, evt_And, evt_Or]; first | done | rfl) | rfl) trivial (fun h => ?_) (fun h => ?_)
  · -- then
    exact rl_ret (by rfl) trivial
  · -- else
    exact rl_ret (by rfl) trivial
theorem e_l_draw {k : Nat} (draws k_ : Val) (h : Mem) : run P (k + 2) 1 [draws, k_] h = (s_l_draw (run P (k + 1)) (run P k) draws k_ h).fin :=
  (run_eq (F := fn__law_draw) (b := b__law_draw) (fr := [.v draws, .v k_]) rfl rfl rfl rfl).trans (t_l_draw ..)
def s_l_same (call callI : Nat → List Val → Mem → Res Ret) (actual due_here : Val) (h : Mem) : Lo Unit Unit :=
  Res.lo (pure h (isiV P.ist h .tl due_here)) fun t h => if t then (Res.lo (Res.bind (Res.bind (pure h (isiV P.ist h .tl actual)) fun t h => .ok (!t) h) fun t h => if t then .ok true h else (Res.bind (isiS P.ist .tuple actual h) fun t1 h => Res.bind (isiS P.ist .tuple due_here h) fun t2 h => cmpB .ne t1 t2 h)) fun t h => if t then (Res.lo (.ok (Val.bl false) h) fun v h => .rt (.v v) h) else (Res.lo (Res.bind (bltV .len [actual] h) fun t3 h => Res.bind (bltV .len [due_here] h) fun t4 h => cmpB .ne t3 t4 h) fun t h => if t then (Res.lo (.ok (Val.bl false) h) fun v h => .rt (.v v) h) else (Res.lo (Res.bind (bltV .len [due_here] h) fun t10 h => rng1S t10 h) fun t17 h => Lo.seq (σ := Unit) (forS t17 (fun v8 s7 h => Res.lo (Res.bind (Res.bind (Res.bind (Res.bind (ixV actual v8 h) fun t13 h => Res.bind (Res.bind (ixV due_here v8 h) fun t15 h => .ok [t15] h) fun t14 h => .ok (t13 :: t14) h) fun t12 h => calS call 124 t12 h) fun t11 h => truS t11 h) fun t h => .ok (!t) h) fun t h => if t then (Res.lo (.ok (Val.bl false) h) fun v h => .rt (.v v) h) else (.nx () h)) (t17.cnt h) 0 () h) fun s7 h => Res.lo (.ok (Val.bl true) h) fun v h => .rt (.v v) h))) else (Res.lo (.ok (isNS false due_here) h) fun t h => if t then (Res.lo (.ok (.bl (isNS false actual)) h) fun v h => .rt (.v v) h) else (Res.lo (Res.bind (pure h (isiV P.ist h .bool due_here)) fun t h => if t then .ok true h else (pure h (isiV P.ist h .bool actual))) fun t h => if t then (Res.lo (Res.bind (isiS P.ist .bool due_here h) fun t18 h => Res.bind (truS t18 h) fun t h => if t then Res.bind (isiS P.ist .bool actual h) fun t19 h => Res.bind (truS t19 h) fun t h => if t then cmpS .eq actual due_here h else .ok t19 h else .ok t18 h) fun v h => .rt (.v v) h) else (Res.lo (pure h (isiV P.ist h .int due_here)) fun t h => if t then (Res.lo (Res.bind (isiS P.ist .int actual h) fun t20 h => Res.bind (truS t20 h) fun t h => if t then cmpS .eq actual due_here h else .ok t20 h) fun v h => .rt (.v v) h) else (Res.lo (Res.bind (isiS P.ist .str actual h) fun t21 h => Res.bind (truS t21 h) fun t h => if t then cmpS .eq actual due_here h else .ok t21 h) fun v h => .rt (.v v) h))))
theorem t_l_same (call callI : Nat → List Val → Mem → Res Ret) (actual due_here : Val) (h : Mem) : PyI.fin (exs P call callI b__law_same [.v actual, .v due_here, .e] h) = (s_l_same call callI actual due_here h).fin := by
  refine rl_fin (R := fun _ _ => True) (R2 := fun _ _ => True) (X := fun _ => True) ?_
  unfold b__law_same s_l_same
  refine rl_ite (by first | done | (simp only [evt_cmp, evt_isi, evt_isN, evt_nt, evt_and, evt_or, evt_bl, evt_chn, evt_Nt, evt_And, evt_Or]; first | done | rfl) | rfl) trivial (fun h => ?_) (fun h => ?_)
  · -- then
    refine rl_ite (by first | done | (simp only [evt_cmp, evt_isi, evt_isN, evt_nt, evt_and, evt_or, evt_bl, evt_chn, evt_Nt, evt_And, evt_Or]; first | done | rfl) | rfl) trivial (fun h => ?_) (fun h => ?_)
    · -- then
      exact rl_ret (by rfl) trivial
    · -- else
      refine rl_ite (by first | done | (simp only [evt_cmp, evt_isi, evt_isN, evt_nt, evt_and, evt_or, evt_bl, evt_chn, evt_Nt, evt_And, evt_Or]; first | done | rfl) | rfl) trivial (fun h => ?_) (fun h => ?_)
      · -- then
        exact rl_ret (by rfl) trivial
      · -- else
        refine rl_for (fun (s5 : Unit) fr => ∃ d6 : Sl, fr = [.v actual, .v due_here, d6]) (by rfl) trivial ⟨_, rfl⟩ (fun v8 s7 fr h q => ?_) (fun s7 fr h q => ?_)
        · obtain ⟨d9, rfl⟩ := q
          refine rl_put1 [.v actual, .v due_here, .v v8] rfl ?_
          refine rl_ite (by first | done | (simp only [evt_cmp, evt_isi, evt_isN, evt_nt, evt_and, evt_or, evt_bl, evt_chn, evt_Nt, evt_And, evt_Or]; first | done | rfl) | rfl) trivial (fun h => ?_) (fun h => ?_)
          · -- then
            exact rl_ret (by rfl) trivial
          · -- else
            exact rl_nil ⟨_, rfl⟩
        obtain ⟨d16, rfl⟩ := q
        exact rl_ret (by rfl) trivial
  · -- else
    refine rl_ite (by first | done | (simp only [evt_cmp, evt_isi, evt_isN, evt_nt, evt_and, evt_or, evt_bl, evt_chn, evt_Nt, evt_And, evt_Or]; first | done | rfl) | rfl) trivial (fun h => ?_) (fun h => ?_)
    · -- then
      exact rl_ret (by rfl) trivial
    · -- else
      refine rl_ite (by first | done | (simp only [evt_cmp, evt_isi, evt_isN, evt_nt, evt_and, evt_or, evt_bl, evt_chn, evt_Nt, evt_And, evt_Or]; first | done | rfl) | rfl) trivial (fun h => ?_) (fun h => ?_)
      · -- then
        exact rl_ret (by rfl) trivial
      · -- else
        refine rl_ite (by first | done | (simp only [evt_cmp, evt_isi, evt_isN, evt_nt, evt_and, evt_or, evt_bl, evt_chn, evt_Nt, evt_And, evt_Or]; first | done | rfl) | rfl) trivial (fun h => ?_) (fun h => ?_)
        · -- then
          exact rl_ret (by rfl) trivial
        · -- else
          exact rl_ret (by rfl) trivial
theorem e_l_same {k : Nat} (actual due_here : Val) (h : Mem) : run P (k + 2) 124 [actual, due_here] h = (s_l_same (run P (k + 1)) (run P k) actual due_here h).fin :=
  (run_eq (F := fn__law_same) (b := b__law_same) (fr := [.v actual, .v due_here, .e]) rfl rfl rfl rfl).trans (t_l_same ..)
def s_l_query (call callI : Nat → List Val → Mem → Res Ret) (draw_here : Val) (h : Mem) : Lo Unit Unit :=
  Res.lo (Res.bind (Res.bind (tupS [(Val.str ['c', 'o', 'n', 't', 'e', 'n', 't']), draw_here] h) fun t2 h => Res.bind (Res.bind (tupS [(Val.str ['f', 'i', 'n', 'd']), (Val.str ['/', 'a'])] h) fun t4 h => Res.bind (Res.bind (tupS [(Val.str ['n', 'a', 'm', 'e', 's']), (Val.str ['/'])] h) fun t6 h => Res.bind (Res.bind (Res.bind (Res.bind (Res.bind (Res.bind (Res.bind (Res.bind (Res.bind (Res.bind (Res.bind (tupS [] h) fun t18 h => .ok [t18] h) fun t17 h => .ok (draw_here :: t17) h) fun t16 h => tupS t16 h) fun t15 h => .ok [t15] h) fun t14 h => .ok ((Val.int 1) :: t14) h) fun t13 h => tupS t13 h) fun t12 h => .ok [t12, (Val.str ['y'])] h) fun t11 h => .ok ((Val.str ['x']) :: t11) h) fun t10 h => tupS t10 h) fun t8 h => Res.bind (Res.bind (Res.bind (binV .add (Val.int 7) draw_here h) fun t20 h => Res.bind (Res.bind (tupS [] h) fun t22 h => .ok [t22] h) fun t21 h => .ok (t20 :: t21) h) fun t19 h => .ok ((Val.str ['w', 'o', 'r', 'd']) :: t19) h) fun t9 h => .ok (t8 :: t9) h) fun t7 h => .ok (t6 :: t7) h) fun t5 h => .ok (t4 :: t5) h) fun t3 h => .ok (t2 :: t3) h) fun t1 h => tupS t1 h) fun queries h => Res.lo (Res.bind (Res.bind (bltV .int [draw_here] h) fun t24 h => binV .mod t24 (Val.int 7) h) fun t23 h => ixV queries t23 h) fun v h => .rt (.v v) h
theorem t_l_query (call callI : Nat → List Val → Mem → Res Ret) (draw_here : Val) (h : Mem) : PyI.fin (exs P call callI b__law_query [.v draw_here, .e] h) = (s_l_query call callI draw_here h).fin := by
  refine rl_fin (R := fun _ _ => True) (R2 := fun _ _ => True) (X := fun _ => True) ?_
  unfold b__law_query s_l_query
  refine rl_asg (by rfl) trivial (fun queries h => rl_put1 [.v draw_here, .v queries] rfl ?_)
  exact rl_ret (by rfl) trivial
theorem e_l_query {k : Nat} (draw_here : Val) (h : Mem) : run P (k + 2) 245 [draw_here] h = (s_l_query (run P (k + 1)) (run P k) draw_here h).fin :=
  (run_eq (F := fn__law_query) (b := b__law_query) (fr := [.v draw_here, .e]) rfl rfl rfl rfl).trans (t_l_query ..)
def s_l_unanswered (call callI : Nat → List Val → Mem → Res Ret) (opened count : Val) (h : Mem) : Lo Unit Unit :=
  Res.lo (dspS [] h) fun due_here h => Res.lo (itrS opened h) fun t20 h => Lo.seq (σ := Con) (forS t20 (fun v5 s4 h => Res.lo (rng1S count h) fun t17 h => Lo.seq (σ := Con) (forS t17 (fun v11 s10 h => Res.lo (Res.bind (ixV v5 (Val.int 4) h) fun t13 h => cmpB .notin v11 t13 h) fun t h => if t then (if isLst s10 then Res.lo (Res.bind (Res.bind (ixV v5 (Val.int 0) h) fun t15 h => .ok [t15, v11] h) fun t14 h => tupS t14 h) fun v h => Lo.op (capp s10 v) fun due_here => .nx due_here h else .bad) else (.nx s10 h)) (t17.cnt h) 0 s4 h) fun s10 h => .nx s10 h) (t20.cnt h) 0 due_here h) fun s4 h => retC s4 h
theorem t_l_unanswered (call callI : Nat → List Val → Mem → Res Ret) (opened count : Val) (h : Mem) : PyI.fin (exs P call callI b__law_unanswered [.v opened, .v count, .e, .e, .e] h) = (s_l_unanswered call callI opened count h).fin := by
  refine rl_fin (R := fun _ _ => True) (R2 := fun _ _ => True) (X := fun _ => True) ?_
  unfold b__law_unanswered s_l_unanswered
  refine rl_own (fun due_here => [.v opened, .v count, .o due_here, .e, .e]) (by rfl) (fun _ => rfl) trivial fun due_here h => ?_
  refine rl_for (fun (s1 : Con) fr => ∃ d2 d3 : Sl, fr = [.v opened, .v count, .o s1, d2, d3]) (by rfl) trivial ⟨_, _, rfl⟩ (fun v5 s4 fr h q => ?_) (fun s4 fr h q => ?_)
  · obtain ⟨d6, d7, rfl⟩ := q
    refine rl_put1 [.v opened, .v count, .o s4, .v v5, d7] rfl ?_
    refine rl_for (fun (s8 : Con) fr => ∃ d9 : Sl, fr = [.v opened, .v count, .o s8, .v v5, d9]) (by rfl) trivial ⟨_, rfl⟩ (fun v11 s10 fr h q => ?_) (fun s10 fr h q => ?_)
    · obtain ⟨d12, rfl⟩ := q
      refine rl_put1 [.v opened, .v count, .o s10, .v v5, .v v11] rfl ?_
      refine rl_ite (by first | done | (simp only [evt_cmp, evt_isi, evt_isN, evt_nt, evt_and, evt_or, evt_bl, evt_chn, evt_Nt, evt_And, evt_Or]; first | done | rfl) | rfl) trivial (fun h => ?_) (fun h => ?_)
      · -- then
        refine rl_papp (fun due_here => [.v opened, .v count, .o due_here, .v v5, .v v11]) rfl (by rfl) (fun _ => rfl) trivial fun due_here h => ?_
        exact rl_nil ⟨_, rfl⟩
      · -- else
        exact rl_nil ⟨_, rfl⟩
    obtain ⟨d16, rfl⟩ := q
    exact rl_nil ⟨_, _, rfl⟩
  obtain ⟨d18, d19, rfl⟩ := q
  exact rl_retO rfl
theorem e_l_unanswered {k : Nat} (opened count : Val) (h : Mem) : run P (k + 2) 246 [opened, count] h = (s_l_unanswered (run P (k + 1)) (run P k) opened count h).fin :=
  (run_eq (F := fn__law_unanswered) (b := b__law_unanswered) (fr := [.v opened, .v count, .e, .e, .e]) rfl rfl rfl rfl).trans (t_l_unanswered ..)
def s_l_due (call callI : Nat → List Val → Mem → Res Ret) (opened count token journal : Val) (h : Mem) : Lo Unit Unit :=
  Res.lo (negS (Val.int 1) h) fun found h => Res.lo (Res.bind (bltV .len [opened] h) fun t6 h => rng1S t6 h) fun t10 h => Lo.seq (σ := Val) (forS t10 (fun v4 s3 h => Res.lo (Res.bind (Res.bind (ixV opened v4 h) fun t8 h => ixV t8 (Val.int 0) h) fun t7 h => cmpB .eq t7 token h) fun t h => if t then (Res.lo (.ok v4 h) fun found h => .nx found h) else (.nx s3 h)) (t10.cnt h) 0 found h) fun s3 h => Res.lo (cmpB .lt s3 (Val.int 0) h) fun t h => if t then (Res.lo (.ok Val.non h) fun v h => .rt (.v v) h) else (Res.lo (ixV opened s3 h) fun entry h => Res.lo (Res.bind (ixV entry (Val.int 4) h) fun t11 h => cmpB .notin journal t11 h) fun t h => Lo.seq (σ := Unit) (if t then (Res.lo (Res.bind (ixV entry (Val.int 4) h) fun t14 h => metS P call 7 .append t14 h fun h => .ok [journal] h) fun _ h => .nx () h) else (.nx () h)) fun s13 h => Res.lo (Res.bind (Res.bind (Res.bind (Res.bind (ixV entry (Val.int 4) h) fun t18 h => .ok [t18] h) fun t17 h => bltV .len t17 h) fun t16 h => binV .mul (Val.int 2) t16 h) fun t15 h => cmpB .le t15 count h) fun t h => if t then (Res.lo (.ok Val.non h) fun v h => .rt (.v v) h) else (Res.lo (metS P call 93 .pop opened h fun h => .ok [s3] h) fun _ h => Res.lo (Res.bind (Res.bind (ixV entry (Val.int 1) h) fun t20 h => Res.bind (Res.bind (ixV entry (Val.int 2) h) fun t22 h => Res.bind (Res.bind (ixV entry (Val.int 3) h) fun t24 h => .ok [t24] h) fun t23 h => .ok (t22 :: t23) h) fun t21 h => .ok (t20 :: t21) h) fun t19 h => tupS t19 h) fun v h => .rt (.v v) h))
theorem t_l_due (call callI : Nat → List Val → Mem → Res Ret) (opened count token journal : Val) (h : Mem) : PyI.fin (exs P call callI b__law_due [.v opened, .v count, .v token, .v journal, .e, .e, .e] h) = (s_l_due call callI opened count token journal h).fin := by
  refine rl_fin (R := fun _ _ => True) (R2 := fun _ _ => True) (X := fun _ => True) ?_
  unfold b__law_due s_l_due
  refine rl_asg (by rfl) trivial (fun found h => rl_put1 [.v opened, .v count, .v token, .v journal, .v found, .e, .e] rfl ?_)
  refine rl_for (fun (s1 : Val) fr => ∃ d2 : Sl, fr = [.v opened, .v count, .v token, .v journal, .v s1, d2, .e]) (by rfl) trivial ⟨_, rfl⟩ (fun v4 s3 fr h q => ?_) (fun s3 fr h q => ?_)
  · obtain ⟨d5, rfl⟩ := q
    refine rl_put1 [.v opened, .v count, .v token, .v journal, .v s3, .v v4, .e] rfl ?_
    refine rl_ite (by first | done | (simp only [evt_cmp, evt_isi, evt_isN, evt_nt, evt_and, evt_or, evt_bl, evt_chn, evt_Nt, evt_And, evt_Or]; first | done | rfl) | rfl) trivial (fun h => ?_) (fun h => ?_)
    · -- then
      refine rl_asg (by rfl) trivial (fun found h => rl_put1 [.v opened, .v count, .v token, .v journal, .v found, .v v4, .e] rfl ?_)
      exact rl_nil ⟨_, rfl⟩
    · -- else
      exact rl_nil ⟨_, rfl⟩
  obtain ⟨d9, rfl⟩ := q
  refine rl_ite (by first | done | (simp only [evt_cmp, evt_isi, evt_isN, evt_nt, evt_and, evt_or, evt_bl, evt_chn, evt_Nt, evt_And, evt_Or]; first | done | rfl) | rfl) trivial (fun h => ?_) (fun h => ?_)
  · -- then
    exact rl_ret (by rfl) trivial
  · -- else
    refine rl_asg (by rfl) trivial (fun entry h => rl_put1 [.v opened, .v count, .v token, .v journal, .v s3, d9, .v entry] rfl ?_)
    refine rl_itej (R' := fun (s12 : Unit) fr => fr = [.v opened, .v count, .v token, .v journal, .v s3, d9, .v entry]) (by first | done | (simp only [evt_cmp, evt_isi, evt_isN, evt_nt, evt_and, evt_or, evt_bl, evt_chn, evt_Nt, evt_And, evt_Or]; first | done | rfl) | rfl) trivial (fun h => ?_) (fun h => ?_) (fun s13 fr h q => ?_)
    · -- then
      refine rl_exp (by rfl) trivial fun h => ?_
      exact rl_nil rfl
    · -- else
      exact rl_nil rfl
    obtain rfl := q
    refine rl_ite (by first | done | (simp only [evt_cmp, evt_isi, evt_isN, evt_nt, evt_and, evt_or, evt_bl, evt_chn, evt_Nt, evt_And, evt_Or]; first | done | rfl) | rfl) trivial (fun h => ?_) (fun h => ?_)
    · -- then
      exact rl_ret (by rfl) trivial
    · -- else
      refine rl_exp (by rfl) trivial fun h => ?_
      exact rl_ret (by rfl) trivial
theorem e_l_due {k : Nat} (opened count token journal : Val) (h : Mem) : run P (k + 2) 247 [opened, count, token, journal] h = (s_l_due (run P (k + 1)) (run P k) opened count token journal h).fin :=
  (run_eq (F := fn__law_due) (b := b__law_due) (fr := [.v opened, .v count, .v token, .v journal, .e, .e, .e]) rfl rfl rfl rfl).trans (t_l_due ..)
def s_law (call callI : Nat → List Val → Mem → Res Ret) (script : Val) (h : Mem) : Lo Unit Unit :=
  Res.lo (Res.bind (Res.bind (call 0 [script, (Val.int 84)] h) frsS) conS) fun draws h => Res.lo (Res.bind (Res.bind (Res.bind (Res.bind (calS call 1 [draws, (Val.int 0)] h) fun t4 h => .ok [t4] h) fun t3 h => bltV .int t3 h) fun t2 h => binV .mod t2 (Val.int 7) h) fun t1 h => binV .add (Val.int 1) t1 h) fun count h => Res.lo (mkS P callI 11 [count] h) fun reads h => Res.lo (mkS P callI 11 [count] h) fun other h => Res.lo (Res.bind (dspS [] h) fun c h => new h (.con c)) fun opened h => Res.lo (Res.bind (dspS [] h) fun c h => new h (.con c)) fun beside h => Res.lo (.ok (Val.int 0) h) fun last h => Res.lo (.ok (Val.int 0) h) fun tokens h => Res.lo (Res.bind (Res.bind (Res.bind (Res.bind (Res.bind (bltV .len [draws] h) fun t30 h => binV .div t30 (Val.int 2) h) fun t29 h => .ok [t29] h) fun t28 h => .ok ((Val.int 40) :: t28) h) fun t27 h => bltV .min2 t27 h) fun t26 h => rng1S t26 h) fun t150 h => Lo.seq (σ := Val × Val) (forS t150 (fun v16 s15 h => Res.lo (Res.bind (Res.bind (Res.bind (Res.bind (binV .mul (Val.int 2) v16 h) fun t34 h => binV .add (Val.int 1) t34 h) fun t33 h => .ok [t33] h) fun t32 h => .ok (draws :: t32) h) fun t31 h => calS call 1 t31 h) fun draw_here h => Res.lo (Res.bind (Res.bind (Res.bind (Res.bind (binV .mul (Val.int 2) v16 h) fun t38 h => binV .add (Val.int 2) t38 h) fun t37 h => .ok [t37] h) fun t36 h => .ok (draws :: t36) h) fun t35 h => calS call 1 t35 h) fun more h => Res.lo (Res.bind (Res.bind (Res.bind (bltV .int [draw_here] h) fun t40 h => binV .mod t40 (Val.int 4) h) fun t39 h => cmpB .eq t39 (Val.int 3) h) fun t h => if t then .ok true h else (cmpB .eq s15.1 (Val.int 0) h)) fun t h => Lo.seq (σ := Val × Val) (if t then (Res.lo (binV .add s15.1 (Val.int 1) h) fun last h => Res.lo (Res.bind (Res.bind (Res.bind (Res.bind (Res.bind (Res.bind (binV .div draw_here (Val.int 4) h) fun t52 h => .ok [t52] h) fun t51 h => bltV .int t51 h) fun t50 h => binV .mod t50 (Val.int 4) h) fun t48 h => Res.bind (Res.bind (Res.bind (Res.bind (Res.bind (Res.bind (binV .div draw_here (Val.int 16) h) fun t58 h => .ok [t58] h) fun t57 h => bltV .int t57 h) fun t56 h => binV .mod t56 (Val.int 5) h) fun t55 h => binV .add (Val.int 1) t55 h) fun t53 h => Res.bind (Res.bind (calS call 245 [more] h) fun t59 h => .ok [t59] h) fun t54 h => .ok (t53 :: t54) h) fun t49 h => .ok (t48 :: t49) h) fun t47 h => dspS t47 h) conS) fun entry h => Res.lo (Res.bind (Res.bind (Res.bind (Res.bind (metS P call 32 .none reads h fun h => Res.bind (ixV entry (Val.int 0) h) fun t63 h => Res.bind (Res.bind (ixV entry (Val.int 1) h) fun t65 h => Res.bind (Res.bind (ixV entry (Val.int 2) h) fun t67 h => .ok [t67] h) fun t66 h => .ok (t65 :: t66) h) fun t64 h => .ok (t63 :: t64) h) fun t62 h => .ok [t62, last] h) fun t61 h => calS call 124 t61 h) fun t60 h => truS t60 h) fun t h => .ok (!t) h) fun t h => if t then (Res.lo (.ok (Val.bl false) h) fun v h => .rt (.v v) h) else (Res.lo (metS P call 7 .append opened h fun h => Res.bind (Res.bind (Res.bind (Res.bind (Res.bind (Res.bind (dspS [last] h) conS) fun t70 h => pure h (addL t70 entry h)) conS) fun t69 h => Res.bind (Res.bind (Res.bind (Res.bind (Res.bind (dspS [] h) fun c h => new h (.con c)) fun t73 h => .ok [t73] h) fun t72 h => dspS t72 h) conS) fun t71 h => pure h (addL t69 t71 h)) conS) fun t68 h => .ok [t68] h) fun _ h => Res.lo (Res.bind (Res.bind (bltV .int [last] h) fun t75 h => binV .mod t75 (Val.int 3) h) fun t74 h => cmpB .eq t74 (Val.int 1) h) fun t h => if t then (Res.lo (binV .add s15.2 (Val.int 1) h) fun tokens h => Res.lo (Res.bind (Res.bind (Res.bind (Res.bind (metS P call 32 .none other h fun h => Res.bind (ixV entry (Val.int 1) h) fun t79 h => Res.bind (Res.bind (Res.bind (ixV entry (Val.int 0) h) fun t83 h => binV .add (Val.int 1) t83 h) fun t81 h => Res.bind (Res.bind (ixV entry (Val.int 2) h) fun t84 h => .ok [t84] h) fun t82 h => .ok (t81 :: t82) h) fun t80 h => .ok (t79 :: t80) h) fun t78 h => .ok [t78, tokens] h) fun t77 h => calS call 124 t77 h) fun t76 h => truS t76 h) fun t h => .ok (!t) h) fun t h => if t then (Res.lo (.ok (Val.bl false) h) fun v h => .rt (.v v) h) else (Res.lo (metS P call 7 .append beside h fun h => Res.bind (Res.bind (Res.bind (Res.bind (Res.bind (ixV entry (Val.int 1) h) fun t88 h => Res.bind (Res.bind (Res.bind (ixV entry (Val.int 0) h) fun t92 h => binV .add (Val.int 1) t92 h) fun t90 h => Res.bind (Res.bind (ixV entry (Val.int 2) h) fun t93 h => Res.bind (Res.bind (Res.bind (dspS [] h) fun c h => new h (.con c)) fun t95 h => .ok [t95] h) fun t94 h => .ok (t93 :: t94) h) fun t91 h => .ok (t90 :: t91) h) fun t89 h => .ok (t88 :: t89) h) fun t87 h => .ok (tokens :: t87) h) fun t86 h => dspS t86 h) conS) fun t85 h => .ok [t85] h) fun _ h => .nx (last, tokens) h)) else (.nx (last, s15.2) h))) else (Res.lo (Res.bind (Res.bind (Res.bind (binV .div draw_here (Val.int 4) h) fun t98 h => .ok [t98] h) fun t97 h => bltV .int t97 h) fun t96 h => Res.bind (binV .add s15.1 (Val.int 3) h) fun t99 h => binV .mod t96 t99 h) fun token h => Res.lo (Res.bind (Res.bind (Res.bind (Res.bind (Res.bind (binV .div more (Val.int 7) h) fun t103 h => .ok [t103] h) fun t102 h => bltV .int t102 h) fun t101 h => binV .mod t101 (Val.int 2) h) fun t100 h => cmpB .eq t100 (Val.int 1) h) fun t h => if t then (Res.bind (bltV .len [opened] h) fun t104 h => cmpB .gt t104 (Val.int 0) h) else .ok false h) fun t h => Lo.seq (σ := Val) (if t then (Res.lo (Res.bind (Res.bind (Res.bind (Res.bind (Res.bind (binV .div draw_here (Val.int 4) h) fun t111 h => .ok [t111] h) fun t110 h => bltV .int t110 h) fun t109 h => Res.bind (bltV .len [opened] h) fun t112 h => binV .mod t109 t112 h) fun t108 h => ixV opened t108 h) fun t107 h => ixV t107 (Val.int 0) h) fun token h => .nx token h) else (.nx token h)) fun s106 h => Res.lo (Res.bind (bltV .int [more] h) fun t113 h => binV .mod t113 count h) fun journal h => Res.lo (calS call 247 [opened, count, s106, journal] h) fun due_here h => Res.lo (Res.bind (Res.bind (Res.bind (Res.bind (metS P call 52 .none reads h fun h => .ok [s106, journal] h) fun t116 h => .ok [t116, due_here] h) fun t115 h => calS call 124 t115 h) fun t114 h => truS t114 h) fun t h => .ok (!t) h) fun t h => if t then (Res.lo (.ok (Val.bl false) h) fun v h => .rt (.v v) h) else (.nx (s15.1, s15.2) h))) fun s46 h => Res.lo (Res.bind (metF' P call 94 reads h fun h => .ok [] h) fun c h => new h (.con c)) fun told h => Res.lo (Res.bind (Res.bind (Res.bind (Res.bind (Res.bind (Res.bind (Res.bind (call 246 [opened, count] h) frsS) conS) fun t124 h => .ok [t124] h) fun t123 h => .ok (told :: t123) h) fun t122 h => calS call 124 t122 h) fun t121 h => truS t121 h) fun t h => .ok (!t) h) fun t h => if t then (Res.lo (.ok (Val.bl false) h) fun v h => .rt (.v v) h) else (Res.lo (metS P call 7 .append told h fun h => Res.bind (tupS [(Val.int 0), (Val.int 0)] h) fun t125 h => .ok [t125] h) fun _ h => Res.lo (Res.bind (metF' P call 94 reads h fun h => .ok [] h) fun c h => new h (.con c)) fun pairs h => Res.lo (Res.bind (Res.bind (Res.bind (Res.bind (Res.bind (Res.bind (Res.bind (call 246 [opened, count] h) frsS) conS) fun t129 h => .ok [t129] h) fun t128 h => .ok (pairs :: t128) h) fun t127 h => calS call 124 t127 h) fun t126 h => truS t126 h) fun t h => .ok (!t) h) fun t h => if t then (Res.lo (.ok (Val.bl false) h) fun v h => .rt (.v v) h) else (Res.lo (metS P call 7 .append pairs h fun h => Res.bind (tupS [(Val.int 0), (Val.int 0)] h) fun t130 h => .ok [t130] h) fun _ h => Res.lo (Res.bind (Res.bind (Res.bind (Res.bind (Res.bind (metF' P call 94 reads h fun h => .ok [] h) conS) fun t133 h => Res.bind (Res.bind (Res.bind (Res.bind (call 246 [opened, count] h) frsS) conS) fun t135 h => .ok [t135] h) fun t134 h => .ok (t133 :: t134) h) fun t132 h => calS call 124 t132 h) fun t131 h => truS t131 h) fun t h => .ok (!t) h) fun t h => if t then (Res.lo (.ok (Val.bl false) h) fun v h => .rt (.v v) h) else (Res.lo (Res.bind (Res.bind (Res.bind (Res.bind (Res.bind (metF' P call 94 other h fun h => .ok [] h) conS) fun t138 h => Res.bind (Res.bind (Res.bind (Res.bind (call 246 [beside, count] h) frsS) conS) fun t140 h => .ok [t140] h) fun t139 h => .ok (t138 :: t139) h) fun t137 h => calS call 124 t137 h) fun t136 h => truS t136 h) fun t h => .ok (!t) h) fun t h => if t then (Res.lo (.ok (Val.bl false) h) fun v h => .rt (.v v) h) else (.nx (s46.1, s46.2) h))))) (t150.cnt h) 0 (last, tokens) h) fun s15 h => Res.lo (Res.bind (Res.bind (Res.bind (Res.bind (Res.bind (attV P callI 49 reads h) fun t155 h => Res.bind (Res.bind (attV P callI 49 other h) fun t157 h => .ok [t157] h) fun t156 h => .ok (t155 :: t156) h) fun t154 h => dspS t154 h) conS) fun t152 h => Res.bind (Res.bind (Res.bind (dspS [count, count] h) conS) fun t158 h => .ok [t158] h) fun t153 h => .ok (t152 :: t153) h) fun t151 h => calS call 124 t151 h) fun v h => .rt (.v v) h
theorem t_law (call callI : Nat → List Val → Mem → Res Ret) (script : Val) (h : Mem) : PyI.fin (exs P call callI b_law [.v script, .e, .e, .e, .e, .e, .e, .e, .e, .e, .e, .e, .e, .e, .e, .e, .e, .e] h) = (s_law call callI script h).fin := by
  refine rl_fin (R := fun _ _ => True) (R2 := fun _ _ => True) (X := fun _ => True) ?_
  unfold b_law s_law
  refine rl_asg (by rfl) trivial (fun draws h => rl_put1 [.v script, .v draws, .e, .e, .e, .e, .e, .e, .e, .e, .e, .e, .e, .e, .e, .e, .e, .e] rfl ?_)
  refine rl_asg (by rfl) trivial (fun count h => rl_put1 [.v script, .v draws, .v count, .e, .e, .e, .e, .e, .e, .e, .e, .e, .e, .e, .e, .e, .e, .e] rfl ?_)
  refine rl_asg (by rfl) trivial (fun reads h => rl_put1 [.v script, .v draws, .v count, .v reads, .e, .e, .e, .e, .e, .e, .e, .e, .e, .e, .e, .e, .e, .e] rfl ?_)
  refine rl_asg (by rfl) trivial (fun other h => rl_put1 [.v script, .v draws, .v count, .v reads, .v other, .e, .e, .e, .e, .e, .e, .e, .e, .e, .e, .e, .e, .e] rfl ?_)
  refine rl_asg (by rfl) trivial (fun opened h => rl_put1 [.v script, .v draws, .v count, .v reads, .v other, .v opened, .e, .e, .e, .e, .e, .e, .e, .e, .e, .e, .e, .e] rfl ?_)
  refine rl_asg (by rfl) trivial (fun beside h => rl_put1 [.v script, .v draws, .v count, .v reads, .v other, .v opened, .v beside, .e, .e, .e, .e, .e, .e, .e, .e, .e, .e, .e] rfl ?_)
  refine rl_asg (by rfl) trivial (fun last h => rl_put1 [.v script, .v draws, .v count, .v reads, .v other, .v opened, .v beside, .v last, .e, .e, .e, .e, .e, .e, .e, .e, .e, .e] rfl ?_)
  refine rl_asg (by rfl) trivial (fun tokens h => rl_put1 [.v script, .v draws, .v count, .v reads, .v other, .v opened, .v beside, .v last, .v tokens, .e, .e, .e, .e, .e, .e, .e, .e, .e] rfl ?_)
  refine rl_for (fun (s5 : Val × Val) fr => ∃ d6 d7 d8 d9 d10 d11 d12 d13 d14 : Sl, fr = [.v script, .v draws, .v count, .v reads, .v other, .v opened, .v beside, .v s5.1, .v s5.2, d6, d7, d8, d9, d10, d11, d12, d13, d14]) (by rfl) trivial ⟨_, _, _, _, _, _, _, _, _, rfl⟩ (fun v16 s15 fr h q => ?_) (fun s15 fr h q => ?_)
  · obtain ⟨d17, d18, d19, d20, d21, d22, d23, d24, d25, rfl⟩ := q
    refine rl_put1 [.v script, .v draws, .v count, .v reads, .v other, .v opened, .v beside, .v s15.1, .v s15.2, .v v16, d18, d19, d20, d21, d22, d23, d24, d25] rfl ?_
    refine rl_asg (by rfl) trivial (fun draw_here h => rl_put1 [.v script, .v draws, .v count, .v reads, .v other, .v opened, .v beside, .v s15.1, .v s15.2, .v v16, .v draw_here, d19, d20, d21, d22, d23, d24, d25] rfl ?_)
    refine rl_asg (by rfl) trivial (fun more h => rl_put1 [.v script, .v draws, .v count, .v reads, .v other, .v opened, .v beside, .v s15.1, .v s15.2, .v v16, .v draw_here, .v more, d20, d21, d22, d23, d24, d25] rfl ?_)
    refine rl_itej (R' := fun (s41 : Val × Val) fr => ∃ d42 d43 d44 d45 : Sl, fr = [.v script, .v draws, .v count, .v reads, .v other, .v opened, .v beside, .v s41.1, .v s41.2, .v v16, .v draw_here, .v more, d42, d43, d44, d45, d24, d25]) (by first | done | (simp only [evt_cmp, evt_isi, evt_isN, evt_nt, evt_and, evt_or, evt_bl, evt_chn, evt_Nt, evt_And, evt_Or]; first | done | rfl) | rfl) trivial (fun h => ?_) (fun h => ?_) (fun s46 fr h q => ?_)
    · -- then
      refine rl_asg (by rfl) trivial (fun last h => rl_put1 [.v script, .v draws, .v count, .v reads, .v other, .v opened, .v beside, .v last, .v s15.2, .v v16, .v draw_here, .v more, d20, d21, d22, d23, d24, d25] rfl ?_)
      refine rl_asg (by rfl) trivial (fun entry h => rl_put1 [.v script, .v draws, .v count, .v reads, .v other, .v opened, .v beside, .v last, .v s15.2, .v v16, .v draw_here, .v more, .v entry, d21, d22, d23, d24, d25] rfl ?_)
      refine rl_ite (by first | done | (simp only [evt_cmp, evt_isi, evt_isN, evt_nt, evt_and, evt_or, evt_bl, evt_chn, evt_Nt, evt_And, evt_Or]; first | done | rfl) | rfl) trivial (fun h => ?_) (fun h => ?_)
      · -- then
        exact rl_ret (by rfl) trivial
      · -- else
        refine rl_exp (by rfl) trivial fun h => ?_
        refine rl_ite (by first | done | (simp only [evt_cmp, evt_isi, evt_isN, evt_nt, evt_and, evt_or, evt_bl, evt_chn, evt_Nt, evt_And, evt_Or]; first | done | rfl) | rfl) trivial (fun h => ?_) (fun h => ?_)
        · -- then
          refine rl_asg (by rfl) trivial (fun tokens h => rl_put1 [.v script, .v draws, .v count, .v reads, .v other, .v opened, .v beside, .v last, .v tokens, .v v16, .v draw_here, .v more, .v entry, d21, d22, d23, d24, d25] rfl ?_)
          refine rl_ite (by first | done | (simp only [evt_cmp, evt_isi, evt_isN, evt_nt, evt_and, evt_or, evt_bl, evt_chn, evt_Nt, evt_And, evt_Or]; first | done | rfl) | rfl) trivial (fun h => ?_) (fun h => ?_)
          · -- then
            exact rl_ret (by rfl) trivial
          · -- else
            refine rl_exp (by rfl) trivial fun h => ?_
            exact rl_nil ⟨_, _, _, _, rfl⟩
        · -- else
          exact rl_nil ⟨_, _, _, _, rfl⟩
    · -- else
      refine rl_asg (by rfl) trivial (fun token h => rl_put1 [.v script, .v draws, .v count, .v reads, .v other, .v opened, .v beside, .v s15.1, .v s15.2, .v v16, .v draw_here, .v more, d20, .v token, d22, d23, d24, d25] rfl ?_)
      refine rl_itej (R' := fun (s105 : Val) fr => fr = [.v script, .v draws, .v count, .v reads, .v other, .v opened, .v beside, .v s15.1, .v s15.2, .v v16, .v draw_here, .v more, d20, .v s105, d22, d23, d24, d25]) (by first | done | (simp only [evt_cmp, evt_isi, evt_isN, evt_nt, evt_and, evt_or, evt_bl, evt_chn, evt_Nt, evt_And, evt_Or]; first | done | rfl) | rfl) trivial (fun h => ?_) (fun h => ?_) (fun s106 fr h q => ?_)
      · -- then
        refine rl_asg (by rfl) trivial (fun token h => rl_put1 [.v script, .v draws, .v count, .v reads, .v other, .v opened, .v beside, .v s15.1, .v s15.2, .v v16, .v draw_here, .v more, d20, .v token, d22, d23, d24, d25] rfl ?_)
        exact rl_nil rfl
      · -- else
        exact rl_nil rfl
      obtain rfl := q
      refine rl_asg (by rfl) trivial (fun journal h => rl_put1 [.v script, .v draws, .v count, .v reads, .v other, .v opened, .v beside, .v s15.1, .v s15.2, .v v16, .v draw_here, .v more, d20, .v s106, .v journal, d23, d24, d25] rfl ?_)
      refine rl_asg (by rfl) trivial (fun due_here h => rl_put1 [.v script, .v draws, .v count, .v reads, .v other, .v opened, .v beside, .v s15.1, .v s15.2, .v v16, .v draw_here, .v more, d20, .v s106, .v journal, .v due_here, d24, d25] rfl ?_)
      refine rl_ite (by first | done | (simp only [evt_cmp, evt_isi, evt_isN, evt_nt, evt_and, evt_or, evt_bl, evt_chn, evt_Nt, evt_And, evt_Or]; first | done | rfl) | rfl) trivial (fun h => ?_) (fun h => ?_)
      · -- then
        exact rl_ret (by rfl) trivial
      · -- else
        exact rl_nil ⟨_, _, _, _, rfl⟩
    obtain ⟨d117, d118, d119, d120, rfl⟩ := q
    refine rl_asg (by rfl) trivial (fun told h => rl_put1 [.v script, .v draws, .v count, .v reads, .v other, .v opened, .v beside, .v s46.1, .v s46.2, .v v16, .v draw_here, .v more, d117, d118, d119, d120, .v told, d25] rfl ?_)
    refine rl_ite (by first | done | (simp only [evt_cmp, evt_isi, evt_isN, evt_nt, evt_and, evt_or, evt_bl, evt_chn, evt_Nt, evt_And, evt_Or]; first | done | rfl) | rfl) trivial (fun h => ?_) (fun h => ?_)
    · -- then
      exact rl_ret (by rfl) trivial
    · -- else
      refine rl_exp (by rfl) trivial fun h => ?_
      refine rl_asg (by rfl) trivial (fun pairs h => rl_put1 [.v script, .v draws, .v count, .v reads, .v other, .v opened, .v beside, .v s46.1, .v s46.2, .v v16, .v draw_here, .v more, d117, d118, d119, d120, .v told, .v pairs] rfl ?_)
      refine rl_ite (by first | done | (simp only [evt_cmp, evt_isi, evt_isN, evt_nt, evt_and, evt_or, evt_bl, evt_chn, evt_Nt, evt_And, evt_Or]; first | done | rfl) | rfl) trivial (fun h => ?_) (fun h => ?_)
      · -- then
        exact rl_ret (by rfl) trivial
      · -- else
        refine rl_exp (by rfl) trivial fun h => ?_
        refine rl_ite (by first | done | (simp only [evt_cmp, evt_isi, evt_isN, evt_nt, evt_and, evt_or, evt_bl, evt_chn, evt_Nt, evt_And, evt_Or]; first | done | rfl) | rfl) trivial (fun h => ?_) (fun h => ?_)
        · -- then
          exact rl_ret (by rfl) trivial
        · -- else
          refine rl_ite (by first | done | (simp only [evt_cmp, evt_isi, evt_isN, evt_nt, evt_and, evt_or, evt_bl, evt_chn, evt_Nt, evt_And, evt_Or]; first | done | rfl) | rfl) trivial (fun h => ?_) (fun h => ?_)
          · -- then
            exact rl_ret (by rfl) trivial
          · -- else
            exact rl_nil ⟨_, _, _, _, _, _, _, _, _, rfl⟩
  obtain ⟨d141, d142, d143, d144, d145, d146, d147, d148, d149, rfl⟩ := q
  exact rl_ret (by rfl) trivial
theorem e_law {k : Nat} (script : Val) (h : Mem) : run P (k + 2) 248 [script] h = (s_law (run P (k + 1)) (run P k) script h).fin :=
  (run_eq (F := fn_law) (b := b_law) (fr := [.v script, .e, .e, .e, .e, .e, .e, .e, .e, .e, .e, .e, .e, .e, .e, .e, .e, .e]) rfl rfl rfl rfl).trans (t_law ..)
def s_Reads___init__ (call callI : Nat → List Val → Mem → Res Ret) (self journals : Val) (h : Mem) : Lo Unit Unit :=
  Res.lo (.ok journals h) fun y h => Res.lo (.ok self h) fun x h => Lo.op (setA P 49 x y h) fun h => Res.lo (.ok (Val.int 0) h) fun y h => Res.lo (.ok self h) fun x h => Lo.op (setA P 95 x y h) fun h => Res.lo (Res.bind (ddS [] [] h) fun c h => new h (.con c)) fun y h => Res.lo (.ok self h) fun x h => Lo.op (setA P 96 x y h) fun h => Res.lo (Res.bind (ddS [] [] h) fun c h => new h (.con c)) fun y h => Res.lo (.ok self h) fun x h => Lo.op (setA P 97 x y h) fun h => .nx () h
theorem t_Reads___init__ (call callI : Nat → List Val → Mem → Res Ret) (self journals : Val) (h : Mem) : PyI.fin (exs P call callI b_Reads___init__ [.v self, .v journals] h) = (s_Reads___init__ call callI self journals h).fin := by
  refine rl_fin (R := fun _ _ => True) (R2 := fun _ _ => True) (X := fun _ => True) ?_
  unfold b_Reads___init__ s_Reads___init__
  refine rl_asgA (by rfl) (fun h => by rfl) trivial fun h => ?_
  refine rl_asgA (by rfl) (fun h => by rfl) trivial fun h => ?_
  refine rl_asgA (by rfl) (fun h => by rfl) trivial fun h => ?_
  refine rl_asgA (by rfl) (fun h => by rfl) trivial fun h => ?_
  exact rl_nil trivial
theorem e_Reads___init__ {k : Nat} (self journals : Val) (h : Mem) : run P (k + 2) 249 [self, journals] h = (s_Reads___init__ (run P (k + 1)) (run P k) self journals h).fin :=
  (run_eq (F := fn_Reads___init__) (b := b_Reads___init__) (fr := [.v self, .v journals]) rfl rfl rfl rfl).trans (t_Reads___init__ ..)
def s_Reads_ask (call callI : Nat → List Val → Mem → Res Ret) (self client rid query : Val) (h : Mem) : Lo Unit Unit :=
  Res.lo (Res.bind (attV P callI 95 self h) fun t1 h => binV .add t1 (Val.int 1) h) fun y h => Res.lo (.ok self h) fun x h => Lo.op (setA P 95 x y h) fun h => Res.lo (tupS [client, rid, query] h) fun y h => Res.lo (attV P callI 96 self h) fun x h => Res.lo (attV P callI 95 self h) fun z h => Lo.op (setV x z y h) fun h => Res.lo (Res.bind (dspS [] h) fun c h => new h (.con c)) fun y h => Res.lo (attV P callI 97 self h) fun x h => Res.lo (attV P callI 95 self h) fun z h => Lo.op (setV x z y h) fun h => Res.lo (attV P callI 95 self h) fun v h => .rt (.v v) h
theorem t_Reads_ask (call callI : Nat → List Val → Mem → Res Ret) (self client rid query : Val) (h : Mem) : PyI.fin (exs P call callI b_Reads_ask [.v self, .v client, .v rid, .v query] h) = (s_Reads_ask call callI self client rid query h).fin := by
  refine rl_fin (R := fun _ _ => True) (R2 := fun _ _ => True) (X := fun _ => True) ?_
  unfold b_Reads_ask s_Reads_ask
  refine rl_asgA (by rfl) (fun h => by rfl) trivial fun h => ?_
  refine rl_asgI (by rfl) (fun h => by rfl) (fun h => by rfl) trivial fun h => ?_
  refine rl_asgI (by rfl) (fun h => by rfl) (fun h => by rfl) trivial fun h => ?_
  exact rl_ret (by rfl) trivial
theorem e_Reads_ask {k : Nat} (self client rid query : Val) (h : Mem) : run P (k + 2) 250 [self, client, rid, query] h = (s_Reads_ask (run P (k + 1)) (run P k) self client rid query h).fin :=
  (run_eq (F := fn_Reads_ask) (b := b_Reads_ask) (fr := [.v self, .v client, .v rid, .v query]) rfl rfl rfl rfl).trans (t_Reads_ask ..)
def s_Reads_note (call callI : Nat → List Val → Mem → Res Ret) (self token journal : Val) (h : Mem) : Lo Unit Unit :=
  Res.lo (Res.bind (attV P callI 96 self h) fun t1 h => cmpB .notin token t1 h) fun t h => if t then (Res.lo (.ok Val.non h) fun v h => .rt (.v v) h) else (Res.lo (Res.bind (attV P callI 97 self h) fun t2 h => ixV t2 token h) fun ponged h => Res.lo (cmpB .notin journal ponged h) fun t h => Lo.seq (σ := Unit) (if t then (Res.lo (metS P call 7 .append ponged h fun h => .ok [journal] h) fun _ h => .nx () h) else (.nx () h)) fun s4 h => Res.lo (Res.bind (Res.bind (Res.bind (Res.bind (Res.bind (attV P callI 49 self h) fun t8 h => .ok [t8] h) fun t7 h => .ok (ponged :: t7) h) fun t6 h => calS call 119 t6 h) fun t5 h => truS t5 h) fun t h => .ok (!t) h) fun t h => if t then (Res.lo (.ok Val.non h) fun v h => .rt (.v v) h) else (Res.lo (attV P callI 97 self h) fun x h => Res.lo (.ok token h) fun z h => Lo.op (delV x z h) fun h => Res.lo (Res.bind (attV P callI 96 self h) fun t9 h => metS P call 93 .pop t9 h fun h => .ok [token] h) fun v h => .rt (.v v) h))
theorem t_Reads_note (call callI : Nat → List Val → Mem → Res Ret) (self token journal : Val) (h : Mem) : PyI.fin (exs P call callI b_Reads_note [.v self, .v token, .v journal, .e] h) = (s_Reads_note call callI self token journal h).fin := by
  refine rl_fin (R := fun _ _ => True) (R2 := fun _ _ => True) (X := fun _ => True) ?_
  unfold b_Reads_note s_Reads_note
  refine rl_ite (by first | done | (simp only [evt_cmp, evt_isi, evt_isN, evt_nt, evt_and, evt_or, evt_bl, evt_chn, evt_Nt, evt_And, evt_Or]; first | done | rfl) | rfl) trivial (fun h => ?_) (fun h => ?_)
  · -- then
    exact rl_ret (by rfl) trivial
  · -- else
    refine rl_asg (by rfl) trivial (fun ponged h => rl_put1 [.v self, .v token, .v journal, .v ponged] rfl ?_)
    refine rl_itej (R' := fun (s3 : Unit) fr => fr = [.v self, .v token, .v journal, .v ponged]) (by first | done | (simp only [evt_cmp, evt_isi, evt_isN, evt_nt, evt_and, evt_or, evt_bl, evt_chn, evt_Nt, evt_And, evt_Or]; first | done | rfl) | rfl) trivial (fun h => ?_) (fun h => ?_) (fun s4 fr h q => ?_)
    · -- then
      refine rl_exp (by rfl) trivial fun h => ?_
      exact rl_nil rfl
    · -- else
      exact rl_nil rfl
    obtain rfl := q
    refine rl_ite (by first | done | (simp only [evt_cmp, evt_isi, evt_isN, evt_nt, evt_and, evt_or, evt_bl, evt_chn, evt_Nt, evt_And, evt_Or]; first | done | rfl) | rfl) trivial (fun h => ?_) (fun h => ?_)
    · -- then
      exact rl_ret (by rfl) trivial
    · -- else
      refine rl_del (by rfl) (fun h => by rfl) trivial fun h => ?_
      exact rl_ret (by rfl) trivial
theorem e_Reads_note {k : Nat} (self token journal : Val) (h : Mem) : run P (k + 2) 251 [self, token, journal] h = (s_Reads_note (run P (k + 1)) (run P k) self token journal h).fin :=
  (run_eq (F := fn_Reads_note) (b := b_Reads_note) (fr := [.v self, .v token, .v journal, .e]) rfl rfl rfl rfl).trans (t_Reads_note ..)
def s_Reads_unanswered (call callI : Nat → List Val → Mem → Res Ret) (self : Val) (h : Mem) : Lo Unit Unit :=
  Res.lo (dspS [] h) fun pairs h => Res.lo (Res.bind (Res.bind (Res.bind (attV P callI 96 self h) fun t9 h => pure h (srtV h t9)) conS) fun t8 h => itrS t8 h) fun t22 h => Lo.seq (σ := Con) (forS t22 (fun v5 s4 h => Res.lo (Res.bind (attV P callI 49 self h) fun t15 h => rng1S t15 h) fun t19 h => Lo.seq (σ := Con) (forS t19 (fun v13 s12 h => Res.lo (Res.bind (Res.bind (attV P callI 97 self h) fun t17 h => ixV t17 v5 h) fun t16 h => cmpB .notin v13 t16 h) fun t h => if t then (if isLst s12 then Res.lo (tupS [v5, v13] h) fun v h => Lo.op (capp s12 v) fun pairs => .nx pairs h else .bad) else (.nx s12 h)) (t19.cnt h) 0 s4 h) fun s12 h => .nx s12 h) (t22.cnt h) 0 pairs h) fun s4 h => retC s4 h
theorem t_Reads_unanswered (call callI : Nat → List Val → Mem → Res Ret) (self : Val) (h : Mem) : PyI.fin (exs P call callI b_Reads_unanswered [.v self, .e, .e, .e] h) = (s_Reads_unanswered call callI self h).fin := by
  refine rl_fin (R := fun _ _ => True) (R2 := fun _ _ => True) (X := fun _ => True) ?_
  unfold b_Reads_unanswered s_Reads_unanswered
  refine rl_own (fun pairs => [.v self, .o pairs, .e, .e]) (by rfl) (fun _ => rfl) trivial fun pairs h => ?_
  refine rl_for (fun (s1 : Con) fr => ∃ d2 d3 : Sl, fr = [.v self, .o s1, d2, d3]) (by rfl) trivial ⟨_, _, rfl⟩ (fun v5 s4 fr h q => ?_) (fun s4 fr h q => ?_)
  · obtain ⟨d6, d7, rfl⟩ := q
    refine rl_put1 [.v self, .o s4, .v v5, d7] rfl ?_
    refine rl_for (fun (s10 : Con) fr => ∃ d11 : Sl, fr = [.v self, .o s10, .v v5, d11]) (by rfl) trivial ⟨_, rfl⟩ (fun v13 s12 fr h q => ?_) (fun s12 fr h q => ?_)
    · obtain ⟨d14, rfl⟩ := q
      refine rl_put1 [.v self, .o s12, .v v5, .v v13] rfl ?_
      refine rl_ite (by first | done | (simp only [evt_cmp, evt_isi, evt_isN, evt_nt, evt_and, evt_or, evt_bl, evt_chn, evt_Nt, evt_And, evt_Or]; first | done | rfl) | rfl) trivial (fun h => ?_) (fun h => ?_)
      · -- then
        refine rl_papp (fun pairs => [.v self, .o pairs, .v v5, .v v13]) rfl (by rfl) (fun _ => rfl) trivial fun pairs h => ?_
        exact rl_nil ⟨_, rfl⟩
      · -- else
        exact rl_nil ⟨_, rfl⟩
    obtain ⟨d18, rfl⟩ := q
    exact rl_nil ⟨_, _, rfl⟩
  obtain ⟨d20, d21, rfl⟩ := q
  exact rl_retO rfl
theorem e_Reads_unanswered {k : Nat} (self : Val) (h : Mem) : run P (k + 2) 252 [self] h = (s_Reads_unanswered (run P (k + 1)) (run P k) self h).fin :=
  (run_eq (F := fn_Reads_unanswered) (b := b_Reads_unanswered) (fr := [.v self, .e, .e, .e]) rfl rfl rfl rfl).trans (t_Reads_unanswered ..)
end
end PyLaw
namespace PyLaw
open PyI
/-! the steps of a block as rewritings that the kernel need not unfold -/
section
variable {α β σ τ ρ : Type}
theorem z_lo_ok (a : α) (h : Mem) (k : α → Mem → Lo σ τ) : (Res.ok a h).lo k = k a h := by rw [Res.lo_ok]
theorem z_bind_ok (a : α) (h : Mem) (k : α → Mem → Res β) : (Res.ok a h).bind k = k a h := by rw [Res.bind_ok]
theorem z_seq_nx (s : σ) (h : Mem) (k : σ → Mem → Lo ρ τ) : (Lo.nx s h : Lo σ τ).seq k = k s h := by rw [Lo.seq_nx]
theorem z_try_exc (c : Nat) (h : Mem) (k : Nat → Mem → Lo σ τ) : (Lo.exc c h : Lo σ τ).try k = k c h := by rw [Lo.try_exc]
theorem z_nxt_nx (s : σ) (h : Mem) (k : σ → Mem → Lo σ τ) : (Lo.nx s h : Lo σ σ).nxt k = k s h := by rw [Lo.nxt_nx]
theorem z_nxt_ct (s : σ) (h : Mem) (k : σ → Mem → Lo σ τ) : (Lo.ct s h : Lo σ σ).nxt k = k s h := by rw [Lo.nxt_ct]
theorem z_op_some (a : α) (k : α → Lo σ τ) : Lo.op (some a) k = k a := by rw [Lo.op_some]
theorem z_ob_some (k : Bool) (a b : Lo σ τ) : Lo.ob (some (.bl k)) a b = if k then a else b := by rw [Lo.ob_some]
theorem z_hc_t (a b : Lo σ τ) : Lo.hc (some true) a b = a := by rw [Lo.hc_t]
theorem z_hc_f (a b : Lo σ τ) : Lo.hc (some false) a b = b := by rw [Lo.hc_f]
end
theorem pl_ix_z {xs : List Val} {h : Mem} {a : Int} : plS (some (.lst xs)) .ix h (fun h => .ok [.int a] h) (fun _ => some (.lst xs)) = pure h (nth xs a) := pl_ix_lst rfl
def evz := And.intro (And.intro (And.intro (And.intro (And.intro (And.intro (And.intro (@z_lo_ok) (And.intro (@Res.lo_exc) (@Res.lo_bad))) (And.intro (@z_bind_ok) (And.intro (@Res.bind_exc) (@Res.bind_bad)))) (And.intro (And.intro (@z_seq_nx) (And.intro (@Lo.seq_bk) (@Lo.seq_ct))) (And.intro (@Lo.seq_rt) (And.intro (@Lo.seq_exc) (@Lo.seq_bad))))) (And.intro (And.intro (And.intro (@Lo.fin_nx) (And.intro (@Lo.fin_rt) (@Lo.fin_exc))) (And.intro (@Lo.fin_bad) (And.intro (@Lo.try_nx) (@Lo.try_rt)))) (And.intro (And.intro (@z_try_exc) (And.intro (@Lo.try_bad) (@Lo.try_bk))) (And.intro (@Lo.try_ct) (And.intro (@z_hc_t) (@z_hc_f)))))) (And.intro (And.intro (And.intro (And.intro (@z_op_some) (And.intro (@Lo.op_none) (@z_ob_some))) (And.intro (@z_nxt_nx) (And.intro (@z_nxt_ct) (@Lo.nxt_bk)))) (And.intro (And.intro (@Lo.nxt_rt) (And.intro (@Lo.nxt_exc) (@Lo.nxt_bad))) (And.intro (@PyI.pure_some) (And.intro (@retC_lst) (@slO_lst))))) (And.intro (And.intro (And.intro (@Ret.val_v) (And.intro (@Ret.val_f) (@add_int))) (And.intro (@sub_int) (And.intro (@mul_r) (@mul_l)))) (And.intro (And.intro (@div_pos) (And.intro (@mod_pos) (@pow_int))) (And.intro (@ntS_bl) (And.intro (@truS_bl) (@truS_int))))))) (And.intro (And.intro (And.intro (And.intro (And.intro (@truS_lst) (And.intro (@truS_tup) (@truS_non))) (And.intro (@negS_int) (And.intro (@ix_tup) (@ix_ktp)))) (And.intro (And.intro (@ix_lst) (And.intro (@ix_kls) (@nth_lit))) (And.intro (@nth_neg1) (And.intro (@sl_tup) (@sl_lst))))) (And.intro (And.intro (And.intro (@slL_lst) (And.intro (@ixo_int) (@len_lst))) (And.intro (@len_tup) (And.intro (@len_ktp) (@len_kls)))) (And.intro (And.intro (@int_int) (And.intro (@int_bl) (@tup_lst))) (And.intro (@tup_tup) (And.intro (@max_int) (@min_int)))))) (And.intro (And.intro (And.intro (And.intro (@lof_lst) (And.intro (@lof_tup) (@tupS_ok))) (And.intro (@dspS_ok) (And.intro (@conS_lst) (@conS_dik)))) (And.intro (And.intro (@lstS_ok) (And.intro (@frsS_f) (@cVal_lst))) (And.intro (@cVal_dik) (And.intro (@capp_lst) (@cext_lst))))) (And.intro (And.intro (And.intro (@cext_tup) (And.intro (@cset_lst) (@isLst_lst))) (And.intro (@isSet_set) (And.intro (@pl_len_lst) (@pl_ix_lst)))) (And.intro (And.intro (@pl_tup_lst) (And.intro (@truC_lst) (@eq_bl))) (And.intro (And.intro (@ne_bl) (@beq_self_eq_true.{0})) (And.intro (@lt_int) (@le_int)))))))) (And.intro (And.intro (And.intro (And.intro (And.intro (And.intro (@gt_int) (And.intro (@ge_int) (@eq_int))) (And.intro (@ne_int) (And.intro (@eq_str) (@ne_str)))) (And.intro (And.intro (@isNS_non) (And.intro (@isNS_int) (@isNS_str))) (And.intro (@isNS_bl) (And.intro (@isNS_tup) (@isNS_lst))))) (And.intro (And.intro (And.intro (@isNS_ref) (And.intro (@isNS_ins) (@isBS_bl))) (And.intro (@rng1_ok) (And.intro (@rng2_ok) (@big_of)))) (And.intro (And.intro (@itr_lst) (And.intro (@itr_tup) (@itr_ktp))) (And.intro (@itr_kls) (And.intro (@itr_str) (@enum_lst)))))) (And.intro (And.intro (And.intro (And.intro (@rev_lst) (And.intro (@forS_sn) (@forL_map))) (And.intro (@compA_sn) (And.intro (@compL_lmap) (@compL_pure)))) (And.intro (And.intro (@List.length_cons.{0}) (And.intro (@List.length_nil.{0}) (@List.getElem?_cons_succ.{0}))) (And.intro (@List.getElem?_cons_zero.{0}) (And.intro (@Option.map_some.{0, 0}) (@Option.map_none.{0, 0}))))) (And.intro (And.intro (And.intro (@Option.bind_some.{0, 0}) (And.intro (@Option.bind_none.{0, 0}) (@Option.getD_some.{0}))) (And.intro (@Option.getD_none.{0}) (And.intro (@List.lookup_cons.{0, 0}) (@List.lookup_nil.{0, 0})))) (And.intro (And.intro (@decide_true) (And.intro (@decide_false) (@decide_eq_true_eq))) (And.intro (@Bool.not_true) (And.intro (@Bool.not_false) (@Bool.false_eq_true))))))) (And.intro (And.intro (And.intro (And.intro (And.intro (@Bool.and_true) (And.intro (@Bool.true_and) (@Bool.and_false))) (And.intro (@Bool.false_and) (And.intro (@Bool.or_true) (@Bool.true_or)))) (And.intro (And.intro (@Bool.or_false) (And.intro (@Bool.false_or) (@if_true.{1}))) (And.intro (@if_false.{1}) (And.intro (@szlQ) (@un1_tup))))) (And.intro (And.intro (And.intro (@un2_tup) (And.intro (@un3_tup) (@un4_tup))) (And.intro (@un5_tup) (And.intro (@un2b_tup) (@um1_tup)))) (And.intro (And.intro (@um2_tup) (And.intro (@um3_tup) (@um4_tup))) (And.intro (@xAnd_some) (And.intro (@xOr_some) (@xNt_some)))))) (And.intro (And.intro (And.intro (And.intro (@xCons_some) (And.intro (@Bool.not_eq_true') (@Bool.not_eq_false'))) (And.intro (@Bool.not_eq_eq_eq_not) (And.intro (@decide_eq_false_iff_not) (@ite_nx)))) (And.intro (And.intro (@ite_int) (And.intro (@ite_str) (@ite_bl))) (And.intro (@ite_fst) (And.intro (@ite_snd) (@and_true))))) (And.intro (And.intro (And.intro (@true_and) (And.intro (@and_false) (@false_and))) (And.intro (@and_self) (And.intro (@or_true) (@true_or)))) (And.intro (And.intro (@or_false) (And.intro (@false_or) (@ne_eq.{1}))) (And.intro (And.intro (@not_true_eq_false) (@not_false_eq_true)) (And.intro (@Nat.zero_le) (@Nat.le_refl))))))))
/-! a loop whose rounds end well, and what follows it -/
theorem loop_fin {α σ τ : Type} {B : α → σ → Mem → Lo σ σ} {xs : List α} {s : σ} {h : Mem} {K : σ → Mem → Lo Unit τ} {Q : Res Ret → Prop} (I : Nat → σ → Mem → Prop) (h0 : I 0 s h) (step : ∀ i x s h, xs[i]? = some x → I i s h → ∃ s' h', (B x s h = .nx s' h' ∨ B x s h = .ct s' h') ∧ I (i + 1) s' h') (done : ∀ s h, I xs.length s h → Q (K s h).fin) : Q ((forL B xs s h).seq K).fin := by
  have := forL_inv (τ := τ) (body := B) (xs := xs) (s := s) (h := h) (N := fun s h => I xs.length s h) (V := fun _ _ => False) I 0 h0 (fun i x s h hx q => by
    rw [Nat.zero_add] at q
    obtain ⟨s', h', e, q'⟩ := step i x s h hx q
    exact ⟨.inl ⟨s', h', e, by rw [Nat.zero_add]; exact q'⟩⟩) fun s h q => by rwa [Nat.zero_add] at q
  obtain ⟨⟨s', h', e, q⟩ | ⟨_, _, _, q⟩⟩ := this
  · rw [e, Lo.seq_nx]; exact done _ _ q
  · exact q.elim
theorem calS_exc {call : Nat → List Val → Mem → Res Ret} {f c : Nat} {vs : List Val} {h h' : Mem} (e : call f vs h = .exc c h') : calS call f vs h = .exc c h' := by simp only [calS, e]; rfl
theorem dr_app {ds : List Int} {x : Int} (h1 : ∀ d ∈ ds, isDr d) (h2 : isDr x) : ∀ d ∈ ds ++ [x], isDr d := fun d hd => by
  rcases List.mem_append.mp hd with hd | hd
  · exact h1 d hd
  · rw [List.mem_singleton.mp hd]; exact h2
theorem r_stream {k : Nat} {ns : List Int} {m : Int} {h : Mem} (hl : ns.length ≤ 63) : ∃ ds : List Int, (∀ d ∈ ds, isDr d) ∧ ds.length ≤ 3780 ∧ run P (k + 2) 0 [.kls (ns.map .int), .int m] h = .ok (.f (ds.map .int)) h := by
  rw [e_l_stream]
  simp only [s_l_stream, evz, PyI.cmpB, PyI.cmpS, PyI.isiS, PyI.isiV, PyI.sm, PyI.xTup, PyI.xLst, Nat.reduceAdd, Nat.reduceLT, Nat.reduceLeDiff, Nat.reduceBEq, Nat.reduceMul, Nat.reducePow, Int.reduceAdd, Int.reduceSub, Int.reduceMul, Int.reducePow, Int.reduceNeg, Int.reduceLT, Int.reduceLE, Int.reduceEq, Int.reduceToNat, reduceIte]
  have key : ∀ (b : Int → Con → Mem → Lo Con Con), (∀ (x : Int) (acc : List Int), (∀ d ∈ acc, isDr d) → acc.length ≤ 3780 - 60 → (b x (.lst (acc.map .int)) h).turn (fun s h' => h' = h ∧ ∃ ds : List Int, s = .lst (ds.map .int) ∧ (∀ d ∈ ds, isDr d) ∧ ds.length ≤ acc.length + 60) (fun s h' => h' = h ∧ ∃ ds : List Int, s = .lst (ds.map .int) ∧ (∀ d ∈ ds, isDr d) ∧ ds.length ≤ 3780) (fun _ _ => False)) →
      ∃ ds : List Int, (∀ d ∈ ds, isDr d) ∧ ds.length ≤ 3780 ∧ ((forL b ns (.lst []) h : Lo Con Unit).seq fun s h => (retC s h : Lo Unit Unit)).fin = .ok (.f (ds.map .int)) h := fun b hb => by
    have := forL_inv (τ := Unit) (body := b) (xs := ns) (N := fun s h' => h' = h ∧ ∃ ds : List Int, s = .lst (ds.map .int) ∧ (∀ d ∈ ds, isDr d) ∧ ds.length ≤ 3780) (V := fun _ _ => False) (fun i s h' => h' = h ∧ ∃ ds : List Int, s = .lst (ds.map .int) ∧ (∀ d ∈ ds, isDr d) ∧ ds.length ≤ 60 * i) (s := .lst []) (h := h) 0 ⟨rfl, [], rfl, by simp, by simp⟩ (fun i x s h' hx ⟨e, ds, e2, h1, h2⟩ => by
      subst e e2
      have hi := (List.getElem?_eq_some_iff.mp hx).1
      obtain ⟨⟨s', h'', e3, e4, ds', e5, h3, h4⟩ | ⟨s', h'', e3, q⟩ | ⟨v, h'', _, q⟩⟩ := hb x ds h1 (by omega)
      · exact ⟨.inl ⟨s', h'', e3, e4, ds', e5, h3, by omega⟩⟩
      · exact ⟨.inr (.inl ⟨s', h'', e3, q⟩)⟩
      · exact q.elim) (fun s h' ⟨e, ds, e2, h1, h2⟩ => ⟨e, ds, e2, h1, by omega⟩)
    obtain ⟨⟨s, h', e, rfl, ds, rfl, h1, h2⟩ | ⟨_, _, _, q⟩⟩ := this
    · exact ⟨ds, h1, h2, by rw [e]; rfl⟩
    · exact q.elim
  refine key _ fun x acc ha hl => ?_
  simp only [evz, PyI.cmpB, PyI.cmpS, PyI.isiS, PyI.isiV, PyI.sm, PyI.xTup, PyI.xLst, Nat.reduceAdd, Nat.reduceLT, Nat.reduceLeDiff, Nat.reduceBEq, Nat.reduceMul, Nat.reducePow, Int.reduceAdd, Int.reduceSub, Int.reduceMul, Int.reducePow, Int.reduceNeg, Int.reduceLT, Int.reduceLE, Int.reduceEq, Int.reduceToNat, reduceIte, List.length_map]
  split
  · exact turn_bk ⟨rfl, acc, rfl, ha, by omega⟩
  split
  · refine turn_seq (M := fun s h' => h' = h ∧ ∃ (ds : List Int) (w : Int), s = (.lst (ds.map .int), .int w) ∧ (∀ d ∈ ds, isDr d) ∧ ds.length ≤ acc.length + 60) (forL_inv (fun i s h' => h' = h ∧ ∃ (ds : List Int) (w : Int), s = (.lst (ds.map .int), .int w) ∧ (∀ d ∈ ds, isDr d) ∧ ds.length ≤ acc.length + i) 0 ⟨rfl, acc, x, rfl, ha, by omega⟩ (fun i y s h' hy ⟨e, ds, w, e2, h1, h2⟩ => ?_) fun s h' ⟨e, ds, w, e2, h1, h2⟩ => ⟨e, ds, w, e2, h1, by rw [rng_len] at h2; omega⟩) fun s h' ⟨e, ds, w, e2, h1, h2⟩ => ?_
    · subst e e2
      have hi : i < 60 := by have := (List.getElem?_eq_some_iff.mp hy).1; simpa [rng_len] using this
      have hb : (ds.map Val.int).length < 16777216 := by rw [List.length_map]; omega
      simp only [evz, PyI.cmpB, PyI.cmpS, PyI.isiS, PyI.isiV, PyI.sm, PyI.xTup, PyI.xLst, Nat.reduceAdd, Nat.reduceLT, Nat.reduceLeDiff, Nat.reduceBEq, Nat.reduceMul, Nat.reducePow, Int.reduceAdd, Int.reduceSub, Int.reduceMul, Int.reducePow, Int.reduceNeg, Int.reduceLT, Int.reduceLE, Int.reduceEq, Int.reduceToNat, reduceIte, hb]
      split
      · exact turn_nx ⟨rfl, ds ++ [w % 5040], _, by simp only [List.map_append, List.map_cons, List.map_nil]; rfl, dr_app h1 (drMod _), by simp; omega⟩
      · exact turn_nx ⟨rfl, ds, w, rfl, h1, by omega⟩
    · subst e e2
      exact turn_nx ⟨rfl, ds, rfl, h1, h2⟩
  · refine turn_seq (M := fun s h' => h' = h ∧ ∃ (ds : List Int) (w : Int), s = (.lst (ds.map .int), .int w) ∧ (∀ d ∈ ds, isDr d) ∧ ds.length ≤ acc.length + 60) (forL_inv (fun i s h' => h' = h ∧ ∃ (ds : List Int) (w : Int), s = (.lst (ds.map .int), .int w) ∧ (∀ d ∈ ds, isDr d) ∧ ds.length ≤ acc.length + i) 0 ⟨rfl, acc, _, rfl, ha, by omega⟩ (fun i y s h' hy ⟨e, ds, w, e2, h1, h2⟩ => ?_) fun s h' ⟨e, ds, w, e2, h1, h2⟩ => ⟨e, ds, w, e2, h1, by rw [rng_len] at h2; omega⟩) fun s h' ⟨e, ds, w, e2, h1, h2⟩ => ?_
    · subst e e2
      have hi : i < 4 := by have := (List.getElem?_eq_some_iff.mp hy).1; simpa [rng_len] using this
      have hb : (ds.map Val.int).length < 16777216 := by rw [List.length_map]; omega
      simp only [evz, PyI.cmpB, PyI.cmpS, PyI.isiS, PyI.isiV, PyI.sm, PyI.xTup, PyI.xLst, Nat.reduceAdd, Nat.reduceLT, Nat.reduceLeDiff, Nat.reduceBEq, Nat.reduceMul, Nat.reducePow, Int.reduceAdd, Int.reduceSub, Int.reduceMul, Int.reducePow, Int.reduceNeg, Int.reduceLT, Int.reduceLE, Int.reduceEq, Int.reduceToNat, reduceIte, hb]
      exact turn_nx ⟨rfl, ds ++ [_], _, by simp only [List.map_append, List.map_cons, List.map_nil]; rfl, dr_app h1 (drMod _), by simp; omega⟩
    · subst e e2
      exact turn_nx ⟨rfl, ds, rfl, h1, h2⟩
theorem r_draw {k : Nat} {h : Mem} {ds : List Int} {i : Int} (hi : 0 ≤ i) : run P (k + 2) 1 [.lst (ds.map .int), .int i] h = .ok (.v (.int (dr ds i))) h := by
  rw [e_l_draw]
  simp only [s_l_draw, evz, PyI.cmpB, PyI.cmpS, PyI.isiS, PyI.isiV, PyI.sm, PyI.xTup, PyI.xLst, Nat.reduceAdd, Nat.reduceLT, Nat.reduceLeDiff, Nat.reduceBEq, Nat.reduceMul, Nat.reducePow, Int.reduceAdd, Int.reduceSub, Int.reduceMul, Int.reducePow, Int.reduceNeg, Int.reduceLT, Int.reduceLE, Int.reduceEq, Int.reduceToNat, reduceIte, List.length_map]
  split
  · rename_i hlt
    have hn : i.toNat < ds.length := by omega
    have e1 : nth (ds.map Val.int) i = some (.int (dr ds i)) := by
      rw [nth_at hi, List.getElem?_map]
      unfold dr
      rw [List.getElem?_eq_getElem hn]; rfl
    simp only [evz, PyI.cmpB, PyI.cmpS, PyI.isiS, PyI.isiV, PyI.sm, PyI.xTup, PyI.xLst, Nat.reduceAdd, Nat.reduceLT, Nat.reduceLeDiff, Nat.reduceBEq, Nat.reduceMul, Nat.reducePow, Int.reduceAdd, Int.reduceSub, Int.reduceMul, Int.reducePow, Int.reduceNeg, Int.reduceLT, Int.reduceLE, Int.reduceEq, Int.reduceToNat, reduceIte, e1]
  · rename_i hlt
    have e1 : dr ds i = 0 := by unfold dr; rw [List.getElem?_eq_none (by omega)]; rfl
    simp only [evz, PyI.cmpB, PyI.cmpS, PyI.isiS, PyI.isiV, PyI.sm, PyI.xTup, PyI.xLst, Nat.reduceAdd, Nat.reduceLT, Nat.reduceLeDiff, Nat.reduceBEq, Nat.reduceMul, Nat.reducePow, Int.reduceAdd, Int.reduceSub, Int.reduceMul, Int.reducePow, Int.reduceNeg, Int.reduceLT, Int.reduceLE, Int.reduceEq, Int.reduceToNat, reduceIte, e1]
theorem c_draw {k : Nat} {h : Mem} {ds : List Int} {i : Int} (hi : 0 ≤ i) : calS (run P (k + 2)) 1 [.lst (ds.map .int), .int i] h = .ok (.int (dr ds i)) h := calS_ok (r_draw hi)
/-! majorities -/
theorem pl_ix_n {h : Mem} {xs : List Val} {i : Int} : plS (some (.lst xs)) .ix h (fun h => .ok [.int i] h) (fun _ => some (.lst xs)) = pure h (nth xs i) := by
  simp only [plS, Option.any_some, popOk, if_true, Res.bind_ok, Option.bind_some, plV, cix]
theorem pl_len_s {h : Mem} {xs : List Int} : plS (some (.set xs)) .len h (fun h => .ok [] h) (fun _ => some (.set xs)) = .ok (.int xs.length) h := by
  simp only [plS, Option.any_some, popOk, if_true, Res.bind_ok, Option.bind_some, plV, clen, Option.map_some, pure_some]
theorem allD_int {h : Mem} : ∀ {ms : List Int}, (ms.map Val.int).all (isD h 59) = true
  | [] => rfl
  | m :: ms => by rw [List.map_cons, List.all_cons, allD_int]; rfl
theorem any_int {h : Mem} {k : Int} : ∀ {ms : List Int}, ((ms.map Val.int).any fun z => eqB h 59 z (.int k)) = decide (k ∈ ms)
  | [] => by simp
  | m :: ms => by
    rw [List.map_cons, List.any_cons, any_int, show eqB h 59 (.int m) (.int k) = (m == k) from rfl]
    by_cases c : m = k
    · subst c; simp
    · have c' : ¬ k = m := fun e => c e.symm
      simp [c, c']
theorem in_ints {h : Mem} {k : Int} {ms : List Int} : cmpV h .isin (.int k) (.lst (ms.map .int)) = some (decide (k ∈ ms)) := by
  show (conV h (.lst (ms.map .int))).bind (cin h (.int k)) = _
  show (if isD h 59 (.int k) && (ms.map Val.int).all (isD h 59) then some ((ms.map Val.int).any fun z => eqB h 59 z (.int k)) else none) = _
  rw [show isD h 59 (.int k) = true from rfl, allD_int, Bool.true_and, if_pos rfl, any_int]
theorem nodup_le {α : Type} [DecidableEq α] : ∀ {xs ys : List α}, xs.Nodup → (∀ x ∈ xs, x ∈ ys) → xs.length ≤ ys.length
  | [], ys, _, _ => by simp
  | x :: xs, ys, nd, sub => by
    rw [List.nodup_cons] at nd
    have hx := sub x (by simp)
    have := nodup_le (xs := xs) (ys := ys.erase x) nd.2 fun y hy => (List.mem_erase_of_ne fun e => nd.1 (by rw [← e]; exact hy)).mpr (sub y (by simp [hy]))
    rw [List.length_erase_of_mem hx] at this
    have : 0 < ys.length := List.length_pos_of_mem hx
    rw [List.length_cons]; omega
def sad (c : Int) (S : List Int) (m : Int) : List Int := if 0 ≤ m ∧ m < c then (if m ∈ S then S else S ++ [m]) else S
def sset (c : Int) (ms : List Int) : List Int := ms.foldl (sad c) []
theorem sad_ok {c m : Int} {S : List Int} (nd : S.Nodup) : (sad c S m).Nodup ∧ (∀ x, x ∈ sad c S m ↔ x ∈ S ∨ (x = m ∧ 0 ≤ m ∧ m < c)) ∧ (sad c S m).length ≤ S.length + 1 := by
  unfold sad
  split
  · rename_i q
    split
    · rename_i hm
      exact ⟨nd, fun x => ⟨.inl, fun h => h.elim id fun ⟨e, _⟩ => by rw [e]; exact hm⟩, by omega⟩
    · rename_i hm
      refine ⟨?_, fun x => ?_, by simp⟩
      · rw [List.nodup_append]
        exact ⟨nd, by simp, fun x hx y hy e => hm (by rw [← List.mem_singleton.mp hy, ← e]; exact hx)⟩
      · simp only [List.mem_append, List.mem_singleton]
        exact ⟨fun h => h.imp id fun e => ⟨e, q⟩, fun h => h.imp id fun e => e.1⟩
  · rename_i q
    exact ⟨nd, fun x => ⟨.inl, fun h => h.elim id fun ⟨_, e⟩ => (q e).elim⟩, by omega⟩
theorem sset_ok {c : Int} {ms : List Int} : (sset c ms).Nodup ∧ ∀ x, x ∈ sset c ms ↔ x ∈ ms ∧ 0 ≤ x ∧ x < c := by
  have : ∀ (ms S : List Int), S.Nodup → (ms.foldl (sad c) S).Nodup ∧ ∀ x, x ∈ ms.foldl (sad c) S ↔ x ∈ S ∨ (x ∈ ms ∧ 0 ≤ x ∧ x < c) := fun ms => by
    induction ms with
    | nil => intro S nd; exact ⟨nd, fun x => by simp⟩
    | cons m ms ih =>
      intro S nd
      obtain ⟨n1, m1, _⟩ := sad_ok (c := c) (m := m) nd
      obtain ⟨n2, m2⟩ := ih _ n1
      refine ⟨n2, fun x => ?_⟩
      rw [List.foldl_cons, m2, m1, List.mem_cons]
      constructor
      · rintro ((h | ⟨rfl, h⟩) | ⟨h, h'⟩)
        · exact .inl h
        · exact .inr ⟨.inl rfl, h⟩
        · exact .inr ⟨.inr h, h'⟩
      · rintro (h | ⟨rfl | h, h'⟩)
        · exact .inl (.inl h)
        · exact .inl (.inr ⟨rfl, h'⟩)
        · exact .inr ⟨h, h'⟩
  obtain ⟨a, b⟩ := this ms [] (by simp)
  exact ⟨a, fun x => by rw [show sset c ms = ms.foldl (sad c) [] from rfl, b]; simp⟩
theorem r_maj {k : Nat} {h : Mem} {c : Int} : run P (k + 2) 118 [.int c] h = .ok (.v (.int (c / 2 + 1))) h := by
  rw [e_majority]
  simp only [s_majority, evz, PyI.cmpB, PyI.cmpS, PyI.isiS, PyI.isiV, PyI.sm, PyI.xTup, PyI.xLst, Nat.reduceAdd, Nat.reduceLT, Nat.reduceLeDiff, Nat.reduceBEq, Nat.reduceMul, Nat.reducePow, Int.reduceAdd, Int.reduceSub, Int.reduceMul, Int.reducePow, Int.reduceNeg, Int.reduceLT, Int.reduceLE, Int.reduceEq, Int.reduceToNat, reduceIte]
theorem cadd_set {xs : List Int} {i : Int} (hl : xs.length < 4000) : cadd (.set xs) (.int i) = some (.set (if i ∈ xs then xs else xs ++ [i])) := by
  simp only [cadd, hl, if_true]; split <;> rfl
theorem r_hasmaj {k : Nat} {h : Mem} {c : Int} {ms : List Int} (hl : ms.length < 4000) : run P (k + 3) 119 [.lst (ms.map .int), .int c] h = .ok (.v (.bl (decide (c / 2 + 1 ≤ (sset c ms).length)))) h := by
  rw [e_has_majority]
  simp only [s_has_majority, evz, PyI.cmpB, PyI.cmpS, PyI.isiS, PyI.isiV, PyI.sm, PyI.xTup, PyI.xLst, Nat.reduceAdd, Nat.reduceLT, Nat.reduceLeDiff, Nat.reduceBEq, Nat.reduceMul, Nat.reducePow, Int.reduceAdd, Int.reduceSub, Int.reduceMul, Int.reducePow, Int.reduceNeg, Int.reduceLT, Int.reduceLE, Int.reduceEq, Int.reduceToNat, reduceIte]
  have key : ∀ B : Int → Con → Mem → Lo Con Con, (∀ m (S : List Int), S.length < 4000 → B m (.set S) h = .nx (.set (sad c S m)) h) → ∀ (zs S : List Int), S.length + zs.length < 4000 → (forL B zs (.set S) h : Lo Con Unit) = .nx (.set (zs.foldl (sad c) S)) h := fun B hB zs => by
    induction zs with
    | nil => intro S _; rfl
    | cons z zs ih =>
      intro S hS
      rw [List.length_cons] at hS
      rw [forL_cons, hB z S (by omega), Lo.nxt_nx]
      refine ih _ ?_
      have : (sad c S z).length ≤ S.length + 1 := by unfold sad; split <;> (try split) <;> simp
      omega
  rw [key _ (fun m S hS => ?s1) ms [] (by simpa using hl)]
  case s1 =>
    unfold sad
    by_cases a : 0 ≤ m
    · by_cases b : m < c
      · simp only [evz, PyI.cmpB, PyI.cmpS, PyI.isiS, PyI.isiV, PyI.sm, PyI.xTup, PyI.xLst, Nat.reduceAdd, Nat.reduceLT, Nat.reduceLeDiff, Nat.reduceBEq, Nat.reduceMul, Nat.reducePow, Int.reduceAdd, Int.reduceSub, Int.reduceMul, Int.reducePow, Int.reduceNeg, Int.reduceLT, Int.reduceLE, Int.reduceEq, Int.reduceToNat, reduceIte, a, b, cadd_set hS]
      · simp only [evz, PyI.cmpB, PyI.cmpS, PyI.isiS, PyI.isiV, PyI.sm, PyI.xTup, PyI.xLst, Nat.reduceAdd, Nat.reduceLT, Nat.reduceLeDiff, Nat.reduceBEq, Nat.reduceMul, Nat.reducePow, Int.reduceAdd, Int.reduceSub, Int.reduceMul, Int.reducePow, Int.reduceNeg, Int.reduceLT, Int.reduceLE, Int.reduceEq, Int.reduceToNat, reduceIte, a, b]
    · simp only [evz, PyI.cmpB, PyI.cmpS, PyI.isiS, PyI.isiV, PyI.sm, PyI.xTup, PyI.xLst, Nat.reduceAdd, Nat.reduceLT, Nat.reduceLeDiff, Nat.reduceBEq, Nat.reduceMul, Nat.reducePow, Int.reduceAdd, Int.reduceSub, Int.reduceMul, Int.reducePow, Int.reduceNeg, Int.reduceLT, Int.reduceLE, Int.reduceEq, Int.reduceToNat, reduceIte, a]
  simp only [evz, PyI.cmpB, PyI.cmpS, PyI.isiS, PyI.isiV, PyI.sm, PyI.xTup, PyI.xLst, Nat.reduceAdd, Nat.reduceLT, Nat.reduceLeDiff, Nat.reduceBEq, Nat.reduceMul, Nat.reducePow, Int.reduceAdd, Int.reduceSub, Int.reduceMul, Int.reducePow, Int.reduceNeg, Int.reduceLT, Int.reduceLE, Int.reduceEq, Int.reduceToNat, reduceIte, pl_len_s, calS_ok (r_maj (k := k))]
  rfl
/-! an election -/
theorem nth_in {xs : List Val} {i : Int} (h : i ∈ rng 0 xs.length) : ∃ x, nth xs i = some x ∧ x ∈ xs := nth_some .non (mem_rng.mp h).1 (by have := (mem_rng.mp h).2; omega)
/-- data with short lists -/
def sd : Nat → Val → Prop
  | n + 1, .tup xs => xs.length < 16777216 ∧ ∀ x ∈ xs, sd n x
  | n + 1, .lst xs => xs.length < 16777216 ∧ ∀ x ∈ xs, sd n x
  | _ + 1, .int _ => True
  | _ + 1, .str _ => True
  | _ + 1, .bl _ => True
  | _ + 1, .non => True
  | _, _ => False
theorem r_sameT : ∀ (n : Nat) (v : Val) (k : Nat) (h : Mem), sd n v → run P (k + n + 2) 124 [v, v] h = .ok (.v (.bl true)) h
  | 0, v, k, h, q => by cases v <;> exact q.elim
  | n + 1, v, k, h, q => by
    have loop : ∀ (xs : List Val), (∀ x ∈ xs, sd n x) → ∀ B : Int → Unit → Mem → Lo Unit Unit, (∀ i x, nth xs i = some x → sd n x → B i () h = .nx () h) → (forL B (rng 0 xs.length) () h : Lo Unit Unit) = .nx () h := fun xs qa B hB => forL_skip fun i hi => by
      obtain ⟨x, e, hm⟩ := nth_in hi
      exact hB i x e (qa x hm)
    have inner : ∀ x, sd n x → calS (run P (k + (n + 1) + 1)) 124 [x, x] h = .ok (.bl true) h := fun x q => calS_ok (r_sameT n x k h q)
    rw [e_l_same]
    cases v with
    | tup xs =>
      have bl : big (xs.length : Int) = true := big_of (by omega) (by have := q.1; omega)
      simp only [s_l_same, evz, PyI.cmpB, PyI.cmpS, PyI.isiS, PyI.isiV, PyI.sm, PyI.xTup, PyI.xLst, Nat.reduceAdd, Nat.reduceLT, Nat.reduceLeDiff, Nat.reduceBEq, Nat.reduceMul, Nat.reducePow, Int.reduceAdd, Int.reduceSub, Int.reduceMul, Int.reducePow, Int.reduceNeg, Int.reduceLT, Int.reduceLE, Int.reduceEq, Int.reduceToNat, reduceIte, bl, Int.toNat_natCast]
      rw [loop xs q.2 _ fun i x e q => ?_]
      · simp only [evz, PyI.cmpB, PyI.cmpS, PyI.isiS, PyI.isiV, PyI.sm, PyI.xTup, PyI.xLst, Nat.reduceAdd, Nat.reduceLT, Nat.reduceLeDiff, Nat.reduceBEq, Nat.reduceMul, Nat.reducePow, Int.reduceAdd, Int.reduceSub, Int.reduceMul, Int.reducePow, Int.reduceNeg, Int.reduceLT, Int.reduceLE, Int.reduceEq, Int.reduceToNat, reduceIte]
      · simp only [evz, PyI.cmpB, PyI.cmpS, PyI.isiS, PyI.isiV, PyI.sm, PyI.xTup, PyI.xLst, Nat.reduceAdd, Nat.reduceLT, Nat.reduceLeDiff, Nat.reduceBEq, Nat.reduceMul, Nat.reducePow, Int.reduceAdd, Int.reduceSub, Int.reduceMul, Int.reducePow, Int.reduceNeg, Int.reduceLT, Int.reduceLE, Int.reduceEq, Int.reduceToNat, reduceIte, e, inner x q]
    | lst xs =>
      have bl : big (xs.length : Int) = true := big_of (by omega) (by have := q.1; omega)
      simp only [s_l_same, evz, PyI.cmpB, PyI.cmpS, PyI.isiS, PyI.isiV, PyI.sm, PyI.xTup, PyI.xLst, Nat.reduceAdd, Nat.reduceLT, Nat.reduceLeDiff, Nat.reduceBEq, Nat.reduceMul, Nat.reducePow, Int.reduceAdd, Int.reduceSub, Int.reduceMul, Int.reducePow, Int.reduceNeg, Int.reduceLT, Int.reduceLE, Int.reduceEq, Int.reduceToNat, reduceIte, bl, Int.toNat_natCast]
      rw [loop xs q.2 _ fun i x e q => ?_]
      · simp only [evz, PyI.cmpB, PyI.cmpS, PyI.isiS, PyI.isiV, PyI.sm, PyI.xTup, PyI.xLst, Nat.reduceAdd, Nat.reduceLT, Nat.reduceLeDiff, Nat.reduceBEq, Nat.reduceMul, Nat.reducePow, Int.reduceAdd, Int.reduceSub, Int.reduceMul, Int.reducePow, Int.reduceNeg, Int.reduceLT, Int.reduceLE, Int.reduceEq, Int.reduceToNat, reduceIte]
      · simp only [evz, PyI.cmpB, PyI.cmpS, PyI.isiS, PyI.isiV, PyI.sm, PyI.xTup, PyI.xLst, Nat.reduceAdd, Nat.reduceLT, Nat.reduceLeDiff, Nat.reduceBEq, Nat.reduceMul, Nat.reducePow, Int.reduceAdd, Int.reduceSub, Int.reduceMul, Int.reducePow, Int.reduceNeg, Int.reduceLT, Int.reduceLE, Int.reduceEq, Int.reduceToNat, reduceIte, e, inner x q]
    | int i => simp only [s_l_same, evz, PyI.cmpB, PyI.cmpS, PyI.isiS, PyI.isiV, PyI.sm, PyI.xTup, PyI.xLst, Nat.reduceAdd, Nat.reduceLT, Nat.reduceLeDiff, Nat.reduceBEq, Nat.reduceMul, Nat.reducePow, Int.reduceAdd, Int.reduceSub, Int.reduceMul, Int.reducePow, Int.reduceNeg, Int.reduceLT, Int.reduceLE, Int.reduceEq, Int.reduceToNat, reduceIte]
    | str i => simp only [s_l_same, evz, PyI.cmpB, PyI.cmpS, PyI.isiS, PyI.isiV, PyI.sm, PyI.xTup, PyI.xLst, Nat.reduceAdd, Nat.reduceLT, Nat.reduceLeDiff, Nat.reduceBEq, Nat.reduceMul, Nat.reducePow, Int.reduceAdd, Int.reduceSub, Int.reduceMul, Int.reducePow, Int.reduceNeg, Int.reduceLT, Int.reduceLE, Int.reduceEq, Int.reduceToNat, reduceIte]
    | bl i => simp only [s_l_same, evz, PyI.cmpB, PyI.cmpS, PyI.isiS, PyI.isiV, PyI.sm, PyI.xTup, PyI.xLst, Nat.reduceAdd, Nat.reduceLT, Nat.reduceLeDiff, Nat.reduceBEq, Nat.reduceMul, Nat.reducePow, Int.reduceAdd, Int.reduceSub, Int.reduceMul, Int.reducePow, Int.reduceNeg, Int.reduceLT, Int.reduceLE, Int.reduceEq, Int.reduceToNat, reduceIte]
    | non => simp only [s_l_same, evz, PyI.cmpB, PyI.cmpS, PyI.isiS, PyI.isiV, PyI.sm, PyI.xTup, PyI.xLst, Nat.reduceAdd, Nat.reduceLT, Nat.reduceLeDiff, Nat.reduceBEq, Nat.reduceMul, Nat.reducePow, Int.reduceAdd, Int.reduceSub, Int.reduceMul, Int.reducePow, Int.reduceNeg, Int.reduceLT, Int.reduceLE, Int.reduceEq, Int.reduceToNat, reduceIte]
    | _ => exact q.elim
/-! loops over a list of the memory -/
theorem forS_mem {α β σ τ : Type} {a : Nat} {h : Mem} {xs : List α} {v : α → Val} (ha : h[a]? = some (.con (.lst (xs.map v)))) {body : Val → σ → Mem → Lo σ σ} (enc : β → σ) (f : β → α → β) (I : Nat → β → Prop) {b : β} (i0 : I 0 b) (hb : ∀ i x b, x ∈ xs → i < xs.length → I i b → body (v x) (enc b) h = .nx (enc (f b x)) h ∧ I (i + 1) (f b x)) : (forS (.lst a) body ((Itr.lst a).cnt h) 0 (enc b) h : Lo σ τ) = .nx (enc (xs.foldl f b)) h := by
  have el : lsN h a = some (xs.map v) := by simp only [lsN, ha, Option.bind_some, lsO]
  have go : ∀ (r i : Nat) (b : β), r + i = xs.length → I i b → (forS (.lst a) body r i (enc b) h : Lo σ τ) = .nx (enc ((xs.drop i).foldl f b)) h := fun r => by
    induction r with
    | zero =>
      intro i b e _
      rw [List.drop_of_length_le (by omega)]
      simp only [forS, Itr.fin, el, List.length_map, decide_eq_true (show xs.length ≤ i by omega), if_true, List.foldl_nil]
    | succ r ih =>
      intro i b e ii
      have hi : i < xs.length := by omega
      obtain ⟨e1, i1⟩ := hb i xs[i] b (List.getElem_mem _) hi ii
      rw [List.drop_eq_getElem_cons hi, List.foldl_cons]
      simp only [forS, Itr.at, el, Option.bind_some, List.getElem?_map, List.getElem?_eq_getElem hi, Option.map_some, e1]
      exact ih (i + 1) _ (by omega) i1
  have := go xs.length 0 b rfl i0
  simp only [Itr.cnt, el, Option.getD_some, List.length_map]
  exact this
theorem seq_turn {ρ σ τ : Type} {M : Lo σ τ} {K : σ → Mem → Lo ρ τ} {Q : Lo ρ τ → Prop} (C : σ → Mem → Prop) (h1 : ∃ s h, M = .nx s h ∧ C s h) (h2 : ∀ s h, C s h → Q (K s h)) : Q (M.seq K) := by
  obtain ⟨s, h, rfl, c⟩ := h1
  exact h2 s h c
theorem itr_ref {a : Nat} {h : Mem} {xs : List Val} (ha : h[a]? = some (.con (.lst xs))) : itrS (.ref a) h = .ok (.lst a) h := by simp only [itrS, ha]
/-- a loop told turn by turn -/
theorem forL_idx {α σ τ : Type} {B : α → σ → Mem → Lo σ σ} : ∀ {xs : List α} {S : Nat → σ} {M : Nat → Mem}, (∀ i x, xs[i]? = some x → B x (S i) (M i) = .nx (S (i + 1)) (M (i + 1))) → (forL B xs (S 0) (M 0) : Lo σ τ) = .nx (S xs.length) (M xs.length)
  | [], _, _, _ => rfl
  | x :: xs, S, M, q => by
    rw [forL_cons, q 0 x rfl, Lo.nxt_nx]
    exact forL_idx (S := fun i => S (i + 1)) (M := fun i => M (i + 1)) fun i y hy => q (i + 1) y (by simpa using hy)
theorem tru_ls {h : Mem} {w : Val} {xs : List Val} (q : IsL h w xs) : truS w h = .ok (!xs.isEmpty) h := by
  obtain ⟨rfl | ⟨a, rfl, e⟩⟩ := q
  · rfl
  · simp only [truS, tru, e, pure_some]
theorem tup_ls {h : Mem} {w : Val} {xs : List Val} (q : IsL h w xs) : bltV .tup [w] h = .ok (.tup xs) h := by
  obtain ⟨rfl | ⟨a, rfl, e⟩⟩ := q
  · rfl
  · exact tup_ref e
theorem isl_ls' {h : Mem} {w : Val} {xs : List Val} (q : IsL h w xs) : lsA h w = some xs := by
  obtain ⟨rfl | ⟨a, rfl, e⟩⟩ := q
  · rfl
  · simp only [lsA, lsN, e, Option.bind_some, lsO]
theorem sl_lsM {h : Mem} {v : Val} {xs : List Val} {lo hi : Option Int} (q1 : IsL h v xs) : slV v lo hi h = .ok (.lst (cut xs lo hi)) h := by
  simp only [slV, slL, isl_ls' q1, Option.map_some, cVal, pure_some]
theorem enumL_get {xs : List Val} {i : Nat} : (enumL xs)[i]? = (xs[i]?).map fun v => .tup [.int i, v] := by
  unfold enumL
  rw [List.getElem?_zipWith]
  by_cases h : i < xs.length
  · rw [List.getElem?_range h, List.getElem?_eq_getElem h]; rfl
  · rw [List.getElem?_eq_none (by omega : xs.length ≤ i)]
    cases (List.range xs.length)[i]? <;> rfl
theorem enumL_len {xs : List Val} : (enumL xs).length = xs.length := by simp [enumL]
/-- a call of a method whose arguments change the memory elsewhere -/
theorem met_ref2 {P : Pg} {call : Nat → List Val → Mem → Res Ret} {h h2 : Mem} {a c m g : Nat} {b : Bm} {fs fs2 : List (Nat × Sl)} {vs : Mem → Res (List Val)} {ws : List Val} (ha : h[a]? = some (.ins c fs)) (ha2 : h2[a]? = some (.ins c fs2)) (hm : metF P c m = some g) (hn : (fs.lookup m).isNone = true) (hv : vs h = .ok ws h2) : metS P call m b (.ref a) h vs = calS call g (.ref a :: ws) h2 := by
  have e1 : noFld h m (.ref a) = true := by simp only [noFld, ha, hn]
  have e2 : hasM P h m b (.ref a) = true := by simp only [hasM, ha, hm, Option.isSome_some]
  simp only [metS, e1, e2, hv, Bool.and_self, if_true, Res.bind_ok, kindV, ha, ha2, metV, hm, calS]
/-! loops over a list of the memory, which may change elsewhere -/
theorem forS_idx {α σ τ : Type} {a : Nat} {xs : List α} {v : α → Val} {B : Val → σ → Mem → Lo σ σ} {S : Nat → σ} {M : Nat → Mem} (ha : ∀ i, i ≤ xs.length → (M i)[a]? = some (.con (.lst (xs.map v)))) (q : ∀ i x, xs[i]? = some x → B (v x) (S i) (M i) = .nx (S (i + 1)) (M (i + 1))) : (forS (.lst a) B ((Itr.lst a).cnt (M 0)) 0 (S 0) (M 0) : Lo σ τ) = .nx (S xs.length) (M xs.length) := by
  have el : ∀ i, i ≤ xs.length → lsN (M i) a = some (xs.map v) := fun i hi => by simp only [lsN, ha i hi, Option.bind_some, lsO]
  have go : ∀ (r i : Nat), r + i = xs.length → (forS (.lst a) B r i (S i) (M i) : Lo σ τ) = .nx (S xs.length) (M xs.length) := fun r => by
    induction r with
    | zero =>
      intro i e
      obtain rfl : i = xs.length := by omega
      simp only [forS, Itr.fin, el _ (Nat.le_refl _), List.length_map, decide_eq_true (Nat.le_refl _), if_true]
    | succ r ih =>
      intro i e
      have hi : i < xs.length := by omega
      simp only [forS, Itr.at, el i (by omega), Option.bind_some, List.getElem?_map, List.getElem?_eq_getElem hi, Option.map_some, q i xs[i] (List.getElem?_eq_getElem hi)]
      exact ih (i + 1) (by omega)
  have := go xs.length 0 rfl
  simp only [Itr.cnt, el 0 (Nat.zero_le _), Option.getD_some, List.length_map]
  exact this
/-- the same, with an invariant -/
theorem forS_inv {α σ τ : Type} {a : Nat} {xs : List α} {v : α → Val} {B : Val → σ → Mem → Lo σ σ} {s : σ} {h : Mem} (I : Nat → σ → Mem → Prop) (ha : ∀ i s h, I i s h → h[a]? = some (.con (.lst (xs.map v)))) (h0 : I 0 s h) (q : ∀ i x s h, xs[i]? = some x → I i s h → ∃ s' h', (B (v x) s h = .nx s' h' ∨ B (v x) s h = .ct s' h') ∧ I (i + 1) s' h') : ∃ s' h', (forS (.lst a) B ((Itr.lst a).cnt h) 0 s h : Lo σ τ) = .nx s' h' ∧ I xs.length s' h' := by
  have el : ∀ i s h, I i s h → lsN h a = some (xs.map v) := fun i s h hi => by simp only [lsN, ha i s h hi, Option.bind_some, lsO]
  have go : ∀ (r i : Nat) (s : σ) (h : Mem), r + i = xs.length → I i s h → ∃ s' h', (forS (.lst a) B r i s h : Lo σ τ) = .nx s' h' ∧ I xs.length s' h' := fun r => by
    induction r with
    | zero =>
      intro i s h e ii
      obtain rfl : i = xs.length := by omega
      refine ⟨s, h, ?_, ii⟩
      simp only [forS, Itr.fin, el _ _ _ ii, List.length_map, decide_eq_true (Nat.le_refl _), if_true]
    | succ r ih =>
      intro i s h e ii
      have hi : i < xs.length := by omega
      obtain ⟨s1, h1, e1, i1⟩ := q i xs[i] s h (List.getElem?_eq_getElem hi) ii
      obtain ⟨s2, h2, e2, i2⟩ := ih (i + 1) s1 h1 (by omega) i1
      refine ⟨s2, h2, ?_, i2⟩
      rcases e1 with e1 | e1 <;> simp only [forS, Itr.at, el i s h ii, Option.bind_some, List.getElem?_map, List.getElem?_eq_getElem hi, Option.map_some, e1] <;> exact e2
  have := go xs.length 0 s h rfl h0
  simp only [Itr.cnt, el 0 s h h0, Option.getD_some, List.length_map]
  exact this
theorem forS_at {α σ τ : Type} {a : Nat} {xs : List α} {v : α → Val} {B : Val → σ → Mem → Lo σ σ} {s0 : σ} {h0 : Mem} (S : Nat → σ) (M : Nat → Mem) (es : S 0 = s0) (em : M 0 = h0) (ha : ∀ i, i ≤ xs.length → (M i)[a]? = some (.con (.lst (xs.map v)))) (q : ∀ i x, xs[i]? = some x → B (v x) (S i) (M i) = .nx (S (i + 1)) (M (i + 1))) : (forS (.lst a) B ((Itr.lst a).cnt h0) 0 s0 h0 : Lo σ τ) = .nx (S xs.length) (M xs.length) := by
  subst es em; exact forS_idx ha q
/-! reads that close by majority -/
structure En where
  t : Int
  c : Int
  i : Int
  q : Val
  js : List Int
  x : Nat
  y : Nat
def aE (e : En) : Key × Val := (.inl e.t, .tup [.int e.c, .int e.i, e.q])
def pE (e : En) : Key × Val := (.inl e.t, .ref e.x)
def lE (e : En) : Val := .lst [.int e.t, .int e.c, .int e.i, e.q, .ref e.y]
def rdO (n L : Int) (a p : Nat) : Ob := .ins 11 [(49, .v (.int n)), (95, .v (.int L)), (96, .v (.ref a)), (97, .v (.ref p))]
def En.app (e : En) (j : Int) : En := { e with js := if j ∈ e.js then e.js else e.js ++ [j] }
def ans (n : Int) (e : En) : Val := if n < 2 * e.js.length then .tup [.int e.c, .int e.i, e.q] else .non
def aft (n : Int) (A : List En) (e : En) (B : List En) : List En := if n < 2 * e.js.length then A ++ B else A ++ e :: B
section
variable {f : En → Key × Val} {es A B : List En} {e : En} {t : Int} {v : Val}
theorem kget_no (hf : ∀ e, (f e).1 = .inl e.t) (q : ∀ e ∈ es, e.t ≠ t) : kget (es.map f) (.inl t) = none := by
  unfold kget
  rw [List.find?_eq_none.mpr ?_]; rfl
  intro kv hk
  obtain ⟨e, he, rfl⟩ := List.mem_map.mp hk
  simp only [hf, decide_eq_true_eq]
  exact fun h => q e he (Sum.inl.inj h)
theorem kget_at (hf : ∀ e, (f e).1 = .inl e.t) (q : ∀ z ∈ A, z.t ≠ e.t) : kget ((A ++ e :: B).map f) (.inl e.t) = some (f e).2 := by
  unfold kget
  rw [List.map_append, List.find?_append, List.map_cons, List.find?_cons, hf e]
  have := kget_no (f := f) hf q
  unfold kget at this
  rw [Option.map_eq_none_iff.mp this, decide_eq_true rfl]; rfl
theorem kdrop_at (hf : ∀ e, (f e).1 = .inl e.t) (q : ∀ z ∈ A, z.t ≠ e.t) (q2 : ∀ z ∈ B, z.t ≠ e.t) : kdrop ((A ++ e :: B).map f) (.inl e.t) = (A ++ B).map f := by
  unfold kdrop
  have go : ∀ C : List En, (∀ z ∈ C, z.t ≠ e.t) → (C.map f).filter (fun kv => decide (kv.1 ≠ Sum.inl e.t)) = C.map f := fun C hC => List.filter_eq_self.mpr fun kv hk => by
    obtain ⟨z, hz, rfl⟩ := List.mem_map.mp hk
    rw [hf]; exact decide_eq_true fun h => hC z hz (Sum.inl.inj h)
  rw [List.map_append, List.filter_append, List.map_cons, List.filter_cons, go A q, go B q2, hf e, if_neg (by simp), List.map_append]
theorem kput_new (hf : ∀ e, (f e).1 = .inl e.t) (q : ∀ e ∈ es, e.t ≠ t) : kput (es.map f) (.inl t) v = es.map f ++ [(.inl t, v)] := by
  unfold kput
  rw [if_neg]
  simp only [List.any_eq_true, decide_eq_true_eq, not_exists, not_and]
  intro kv hk
  obtain ⟨e, he, rfl⟩ := List.mem_map.mp hk
  rw [hf]; exact fun h => q e he (Sum.inl.inj h)
end
theorem pw_split {A B : List En} {e : En} (q : ((A ++ e :: B).map (·.t)).Pairwise (· < ·)) : (∀ z ∈ A, z.t ≠ e.t) ∧ ∀ z ∈ B, z.t ≠ e.t := by
  rw [List.map_append, List.map_cons, List.pairwise_append] at q
  refine ⟨fun z hz => ?_, fun z hz => ?_⟩
  · have := q.2.2 z.t (List.mem_map_of_mem hz) e.t (by simp); omega
  · have := (List.pairwise_cons.mp q.2.1).1 z.t (List.mem_map_of_mem hz); omega
theorem nin_ref {h : Mem} {x : Nat} {js : List Int} {j : Int} (hx : h[x]? = some (.con (.lst (js.map .int)))) : cmpV h .notin (.int j) (.ref x) = some (!decide (j ∈ js)) := by
  have : inV h (.int j) (.ref x) = some (decide (j ∈ js)) := by
    show (conV h (.ref x)).bind (cin h (.int j)) = _
    simp only [conV, hx, Option.bind_some, conO]
    show (if isD h 59 (.int j) && (js.map Val.int).all (isD h 59) then some ((js.map Val.int).any fun z => eqB h 59 z (.int j)) else none) = _
    rw [show isD h 59 (.int j) = true from rfl, allD_int, Bool.true_and, if_pos rfl, any_int]
  show (inV h (.int j) (.ref x)).map (!·) = _
  rw [this]; rfl
theorem nin_dik {h : Mem} {a : Nat} {kvs : List (Key × Val)} {t : Int} (ha : h[a]? = some (.con (.dik kvs))) : cmpV h .notin (.int t) (.ref a) = some (!(kget kvs (.inl t)).isSome) := by
  have : inV h (.int t) (.ref a) = some (kget kvs (.inl t)).isSome := by
    show (conV h (.ref a)).bind (cin h (.int t)) = _
    simp only [conV, ha, Option.bind_some, conO]
    rfl
  show (inV h (.int t) (.ref a)).map (!·) = _
  rw [this]; rfl
theorem ix_dik {h : Mem} {a : Nat} {kvs : List (Key × Val)} {t : Int} (ha : h[a]? = some (.con (.dik kvs))) : ixV (.ref a) (.int t) h = pure h (kget kvs (.inl t)) := by
  simp only [ixV, conV, ha, Option.bind_some, conO, cix]
  show pure h ((some (kget kvs (.inl t))).bind id) = _
  rfl
theorem pop_dik {h : Mem} {a m : Nat} {call : Nat → List Val → Mem → Res Ret} {kvs : List (Key × Val)} {t : Int} {v : Val} (ha : h[a]? = some (.con (.dik kvs))) (hg : kget kvs (.inl t) = some v) : metS P call m .pop (.ref a) h (fun h => .ok [.int t] h) = .ok v (h.set a (.con (.dik (kdrop kvs (.inl t))))) := by
  have e1 : noFld h m (.ref a) = true := by simp only [noFld, ha]
  have e2 : hasM P h m .pop (.ref a) = true := by simp only [hasM, ha]; rfl
  simp only [metS, e1, e2, Bool.and_self, if_true, Res.bind_ok, metV, ha, bmV, keyOf, hg, Ret.val_v]
theorem pop_lst {h : Mem} {a m : Nat} {call : Nat → List Val → Mem → Res Ret} {A B : List Val} {v : Val} (ha : h[a]? = some (.con (.lst (A ++ v :: B)))) (hl : A.length < 16777216) : metS P call m .pop (.ref a) h (fun h => .ok [.int A.length] h) = .ok v (h.set a (.con (.lst (A ++ B)))) := by
  have e1 : noFld h m (.ref a) = true := by simp only [noFld, ha]
  have e2 : hasM P h m .pop (.ref a) = true := by simp only [hasM, ha]; rfl
  have bg : big (A.length : Int) = true := big_of (by omega) (by omega)
  have e3 : ixOf (A ++ v :: B).length (A.length : Int) = some A.length := by
    unfold ixOf
    rw [if_pos (by omega), if_pos (by rw [List.length_append, List.length_cons]; omega), Int.toNat_natCast]
  have e4 : (A ++ v :: B)[A.length]? = some v := by simp
  have e5 : (A ++ v :: B).eraseIdx A.length = A ++ B := by rw [List.eraseIdx_append_of_length_le (Nat.le_refl _), Nat.sub_self]; rfl
  simp only [metS, e1, e2, Bool.and_self, if_true, Res.bind_ok, metV, ha, bmV, bg, e3, e4, e5, Ret.val_v]
section
variable {h : Mem} {r a p l : Nat} {n L : Int} {es A B : List En} {e : En} {j t : Int}
theorem rd49 {callI : Nat → List Val → Mem → Res Ret} (hr : h[r]? = some (rdO n L a p)) : attV P callI 49 (.ref r) h = .ok (.int n) h := by unfold attV; simp only [hr]; rfl
theorem rd95 {callI : Nat → List Val → Mem → Res Ret} (hr : h[r]? = some (rdO n L a p)) : attV P callI 95 (.ref r) h = .ok (.int L) h := by unfold attV; simp only [hr]; rfl
theorem rd96 {callI : Nat → List Val → Mem → Res Ret} (hr : h[r]? = some (rdO n L a p)) : attV P callI 96 (.ref r) h = .ok (.ref a) h := by unfold attV; simp only [hr]; rfl
theorem rd97 {callI : Nat → List Val → Mem → Res Ret} (hr : h[r]? = some (rdO n L a p)) : attV P callI 97 (.ref r) h = .ok (.ref p) h := by unfold attV; simp only [hr]; rfl
theorem rds95 {L' : Int} (hr : h[r]? = some (rdO n L a p)) : setA P 95 (.ref r) (.int L') h = some (h.set r (rdO n L' a p)) := by simp only [setA, hr]; rfl
structure RP (h : Mem) (r a p : Nat) (n L : Int) (es : List En) : Prop where
  wr : h[r]? = some (rdO n L a p)
  wa : h[a]? = some (.con (.dik (es.map aE)))
  wp : h[p]? = some (.con (.dik (es.map pE)))
  wx : ∀ e ∈ es, h[e.x]? = some (.con (.lst (e.js.map .int)))
  pw : (es.map (·.t)).Pairwise (· < ·)
  tt : 0 ≤ L ∧ ∀ e ∈ es, 1 ≤ e.t ∧ e.t ≤ L
  js : ∀ e ∈ es, e.js.Nodup ∧ ∀ j ∈ e.js, 0 ≤ j ∧ j < n
  ap : r ≠ a ∧ r ≠ p ∧ a ≠ p ∧ ∀ e ∈ es, e.x ≠ r ∧ e.x ≠ a ∧ e.x ≠ p
  nx : (es.map (·.x)).Nodup
structure RL (h : Mem) (l : Nat) (es : List En) : Prop where
  wl : h[l]? = some (.con (.lst (es.map lE)))
  wy : ∀ e ∈ es, h[e.y]? = some (.con (.lst (e.js.map .int)))
  nl : ∀ e ∈ es, e.y ≠ l
  ny : (es.map (·.y)).Nodup
theorem RP.keep {h' : Mem} (W : RP h r a p n L es) (k1 : h'[r]? = h[r]?) (k2 : h'[a]? = h[a]?) (k3 : h'[p]? = h[p]?) (k4 : ∀ e ∈ es, h'[e.x]? = h[e.x]?) : RP h' r a p n L es :=
  ⟨k1.trans W.wr, k2.trans W.wa, k3.trans W.wp, fun e he => (k4 e he).trans (W.wx e he), W.pw, W.tt, W.js, W.ap, W.nx⟩
theorem RL.keep {h' : Mem} (W : RL h l es) (k1 : h'[l]? = h[l]?) (k4 : ∀ e ∈ es, h'[e.y]? = h[e.y]?) : RL h' l es :=
  ⟨k1.trans W.wl, fun e he => (k4 e he).trans (W.wy e he), W.nl, W.ny⟩
/-- a new read -/
theorem r_ask {k : Nat} {c i : Int} {q : Val} {y : Nat} (W : RP h r a p n L es) (hl : es.length < 1000) (hh : r < h.length ∧ a < h.length ∧ p < h.length ∧ ∀ e ∈ es, e.x < h.length) : ∃ h', run P (k + 2) 250 [.ref r, .int c, .int i, q] h = .ok (.v (.int (L + 1))) h' ∧ RP h' r a p n (L + 1) (es ++ [⟨L + 1, c, i, q, [], h.length, y⟩]) ∧ h'.length = h.length + 1 ∧ ∀ b, b ≠ r → b ≠ a → b ≠ p → b < h.length → h'[b]? = h[b]? := by
  rw [e_Reads_ask]
  have new : ∀ e ∈ es, e.t ≠ L + 1 := fun e he => by have := (W.tt.2 e he).2; omega
  have h1r := memSet (p := rdO n (L + 1) a p) W.wr
  have g : ∀ {b c : Nat} {o : Ob} {m : Mem}, b ≠ c → (m.set c o)[b]? = m[b]? := fun hb => List.getElem?_set_ne (Ne.symm hb)
  obtain ⟨ra, rp, ap, ax⟩ := W.ap
  have h1a : (h.set r (rdO n (L + 1) a p))[a]? = some (.con (.dik (es.map aE))) := by rw [g ra.symm]; exact W.wa
  have s1 : setV (.ref a) (.int (L + 1)) (.tup [.int c, .int i, q]) (h.set r (rdO n (L + 1) a p)) = some ((h.set r (rdO n (L + 1) a p)).set a (.con (.dik (es.map aE ++ [(.inl (L + 1), .tup [.int c, .int i, q])])))) := by
    simp only [setV, h1a, cset, keyOf, List.length_map]
    rw [if_pos (by rw [szlQ]; omega), kput_new (fun _ => rfl) new]; rfl
  obtain ⟨h2, e2⟩ : ∃ h2, (h.set r (rdO n (L + 1) a p)).set a (.con (.dik (es.map aE ++ [(.inl (L + 1), .tup [.int c, .int i, q])]))) = h2 := ⟨_, rfl⟩
  rw [e2] at s1
  have l2 : h2.length = h.length := by rw [← e2]; simp
  have h2r : h2[r]? = some (rdO n (L + 1) a p) := by rw [← e2, g ra]; exact h1r
  have h2a : h2[a]? = some (.con (.dik (es.map aE ++ [(.inl (L + 1), .tup [.int c, .int i, q])]))) := by rw [← e2]; exact memSet h1a
  have h2p : h2[p]? = some (.con (.dik (es.map pE))) := by rw [← e2, g ap.symm, g rp.symm]; exact W.wp
  have h2b : ∀ b, b ≠ r → b ≠ a → h2[b]? = h[b]? := fun b b1 b2 => by rw [← e2, g b2, g b1]
  have lt : ∀ {b : Nat}, b < h.length → (h2 ++ [Ob.con (.lst [])])[b]? = h2[b]? := fun hb => List.getElem?_append_left (by omega)
  have h3r := (lt hh.1).trans h2r
  have h3p := (lt hh.2.2.1).trans h2p
  have s2 : setV (.ref p) (.int (L + 1)) (.ref h2.length) (h2 ++ [Ob.con (.lst [])]) = some ((h2 ++ [Ob.con (.lst [])]).set p (.con (.dik (es.map pE ++ [(.inl (L + 1), .ref h2.length)])))) := by
    simp only [setV, h3p, cset, keyOf, List.length_map]
    rw [if_pos (by rw [szlQ]; omega), kput_new (fun _ => rfl) new]; rfl
  have h4r : ((h2 ++ [Ob.con (.lst [])]).set p (.con (.dik (es.map pE ++ [(.inl (L + 1), .ref h2.length)]))))[r]? = some (rdO n (L + 1) a p) := by rw [g rp]; exact h3r
  refine ⟨(h2 ++ [Ob.con (.lst [])]).set p (.con (.dik (es.map pE ++ [(.inl (L + 1), .ref h2.length)]))), ?_, ?_, by simp [l2], fun b b1 b2 b3 b4 => by rw [g b3, lt b4, h2b b b1 b2]⟩
  · simp only [s_Reads_ask, evz, PyI.cmpB, PyI.cmpS, PyI.isiS, PyI.isiV, PyI.sm, PyI.xTup, PyI.xLst, Nat.reduceAdd, Nat.reduceLT, Nat.reduceLeDiff, Nat.reduceBEq, Nat.reduceMul, Nat.reducePow, Int.reduceAdd, Int.reduceSub, Int.reduceMul, Int.reducePow, Int.reduceNeg, Int.reduceLT, Int.reduceLE, Int.reduceEq, Int.reduceToNat, reduceIte, rd95 W.wr, rds95 W.wr, rd96 h1r, rd95 h1r, s1, PyI.new, rd97 h3r, rd95 h3r, s2, rd95 h4r]
  · rw [l2]
    have h4a : ((h2 ++ [Ob.con (.lst [])]).set p (.con (.dik (es.map pE ++ [(.inl (L + 1), .ref h.length)]))))[a]? = some (.con (.dik (es.map aE ++ [(.inl (L + 1), .tup [.int c, .int i, q])]))) := by rw [g ap, lt hh.2.1]; exact h2a
    rw [l2] at h4r
    refine ⟨h4r, h4a.trans (by rw [List.map_append]; rfl), (memSet h3p).trans (by rw [List.map_append]; rfl), fun e he => ?_, ?_, ⟨by have := W.tt.1; omega, fun e he => ?_⟩, fun e he => ?_, ⟨ra, rp, ap, fun e he => ?_⟩, ?_⟩
    · rcases List.mem_append.mp he with he | he
      · obtain ⟨x1, x2, x3⟩ := ax e he
        rw [g x3, lt (hh.2.2.2 e he), h2b _ x1 x2]; exact W.wx e he
      · rw [List.mem_singleton.mp he, g (show h.length ≠ p by omega), ← l2]; simp
    · rw [List.map_append, List.pairwise_append]
      refine ⟨W.pw, by simp, fun x hx y hy => ?_⟩
      obtain ⟨e, he, rfl⟩ := List.mem_map.mp hx
      simp at hy; subst hy
      have := (W.tt.2 e he).2; omega
    · rcases List.mem_append.mp he with he | he
      · have := W.tt.2 e he; omega
      · rw [List.mem_singleton.mp he]; have := W.tt.1; exact ⟨by show 1 ≤ L + 1; omega, Int.le_refl _⟩
    · rcases List.mem_append.mp he with he | he
      · exact W.js e he
      · rw [List.mem_singleton.mp he]; exact ⟨by simp, by simp⟩
    · rcases List.mem_append.mp he with he | he
      · exact ax e he
      · rw [List.mem_singleton.mp he]
        refine ⟨?_, ?_, ?_⟩ <;> (show h.length ≠ _; omega)
    · rw [List.map_append, List.nodup_append]
      refine ⟨W.nx, by simp, fun x hx y hy e => ?_⟩
      obtain ⟨z, hz, rfl⟩ := List.mem_map.mp hx
      simp at hy; subst hy
      have := hh.2.2.2 z hz; omega
/-- an answer to a token of no open read -/
theorem r_noteN {k : Nat} (W : RP h r a p n L es) (ht : ∀ e ∈ es, e.t ≠ t) : run P (k + 2) 251 [.ref r, .int t, .int j] h = .ok (.v .non) h := by
  rw [e_Reads_note]
  have := nin_dik (t := t) W.wa
  rw [kget_no (fun _ => rfl) ht] at this
  simp only [s_Reads_note, evz, PyI.cmpB, PyI.cmpS, PyI.isiS, PyI.isiV, PyI.sm, PyI.xTup, PyI.xLst, Nat.reduceAdd, Nat.reduceLT, Nat.reduceLeDiff, Nat.reduceBEq, Nat.reduceMul, Nat.reducePow, Int.reduceAdd, Int.reduceSub, Int.reduceMul, Int.reducePow, Int.reduceNeg, Int.reduceLT, Int.reduceLE, Int.reduceEq, Int.reduceToNat, reduceIte, rd96 W.wr, this]
  rfl
theorem hasmaj_ref {k x : Nat} {c : Int} {ms : List Int} (hx : h[x]? = some (.con (.lst (ms.map .int)))) (hl : ms.length < 4000) : run P (k + 3) 119 [.ref x, .int c] h = .ok (.v (.bl (decide (c / 2 + 1 ≤ (sset c ms).length)))) h := by
  rw [e_has_majority]
  simp only [s_has_majority, evz, PyI.cmpB, PyI.cmpS, PyI.isiS, PyI.isiV, PyI.sm, PyI.xTup, PyI.xLst, Nat.reduceAdd, Nat.reduceLT, Nat.reduceLeDiff, Nat.reduceBEq, Nat.reduceMul, Nat.reducePow, Int.reduceAdd, Int.reduceSub, Int.reduceMul, Int.reducePow, Int.reduceNeg, Int.reduceLT, Int.reduceLE, Int.reduceEq, Int.reduceToNat, reduceIte, itr_ref hx]
  rw [forS_mem (v := Val.int) hx (fun S : List Int => Con.set S) (fun S m => sad c S m) (fun i S => S.length ≤ i) (b := []) (Nat.le_refl 0) (fun i m S hm hi hS => ?s1)]
  case s1 =>
    have hS' : S.length < 4000 := by omega
    refine ⟨?_, by have : (sad c S m).length ≤ S.length + 1 := by { unfold sad; split <;> (try split) <;> simp }; omega⟩
    unfold sad
    by_cases a : 0 ≤ m
    · by_cases b : m < c
      · simp only [evz, PyI.cmpB, PyI.cmpS, PyI.isiS, PyI.isiV, PyI.sm, PyI.xTup, PyI.xLst, Nat.reduceAdd, Nat.reduceLT, Nat.reduceLeDiff, Nat.reduceBEq, Nat.reduceMul, Nat.reducePow, Int.reduceAdd, Int.reduceSub, Int.reduceMul, Int.reducePow, Int.reduceNeg, Int.reduceLT, Int.reduceLE, Int.reduceEq, Int.reduceToNat, reduceIte, a, b, cadd_set hS']
      · simp only [evz, PyI.cmpB, PyI.cmpS, PyI.isiS, PyI.isiV, PyI.sm, PyI.xTup, PyI.xLst, Nat.reduceAdd, Nat.reduceLT, Nat.reduceLeDiff, Nat.reduceBEq, Nat.reduceMul, Nat.reducePow, Int.reduceAdd, Int.reduceSub, Int.reduceMul, Int.reducePow, Int.reduceNeg, Int.reduceLT, Int.reduceLE, Int.reduceEq, Int.reduceToNat, reduceIte, a, b]
    · simp only [evz, PyI.cmpB, PyI.cmpS, PyI.isiS, PyI.isiV, PyI.sm, PyI.xTup, PyI.xLst, Nat.reduceAdd, Nat.reduceLT, Nat.reduceLeDiff, Nat.reduceBEq, Nat.reduceMul, Nat.reducePow, Int.reduceAdd, Int.reduceSub, Int.reduceMul, Int.reducePow, Int.reduceNeg, Int.reduceLT, Int.reduceLE, Int.reduceEq, Int.reduceToNat, reduceIte, a]
  simp only [evz, PyI.cmpB, PyI.cmpS, PyI.isiS, PyI.isiV, PyI.sm, PyI.xTup, PyI.xLst, Nat.reduceAdd, Nat.reduceLT, Nat.reduceLeDiff, Nat.reduceBEq, Nat.reduceMul, Nat.reducePow, Int.reduceAdd, Int.reduceSub, Int.reduceMul, Int.reducePow, Int.reduceNeg, Int.reduceLT, Int.reduceLE, Int.reduceEq, Int.reduceToNat, reduceIte, pl_len_s, calS_ok (r_maj (k := k))]
  rfl
theorem sset_id {c : Int} {ms : List Int} (nd : ms.Nodup) (hm : ∀ x ∈ ms, 0 ≤ x ∧ x < c) : (sset c ms).length = ms.length := by
  obtain ⟨a1, a2⟩ := sset_ok (c := c) (ms := ms)
  have h1 := nodup_le a1 (ys := ms) fun x hx => ((a2 x).mp hx).1
  have h2 := nodup_le nd (ys := sset c ms) fun x hx => (a2 x).mpr ⟨hx, hm x hx⟩
  omega
theorem app_js (e : En) (j : Int) (q : e.js.Nodup ∧ ∀ z ∈ e.js, 0 ≤ z ∧ z < n) (hj : 0 ≤ j ∧ j < n) : (e.app j).js.Nodup ∧ ∀ z ∈ (e.app j).js, 0 ≤ z ∧ z < n := by
  unfold En.app
  by_cases c : j ∈ e.js
  · simp only [c, if_true]; exact q
  · simp only [c, if_false]
    refine ⟨?_, fun z hz => ?_⟩
    · rw [List.nodup_append]
      exact ⟨q.1, by simp, fun x hx y hy h => c (by rw [← List.mem_singleton.mp hy, ← h]; exact hx)⟩
    · rcases List.mem_append.mp hz with hz | hz
      · exact q.2 z hz
      · rw [List.mem_singleton.mp hz]; exact hj
theorem nd_split {α β : Type} {g : α → β} {A B : List α} {e : α} (q : ((A ++ e :: B).map g).Nodup) : (∀ z ∈ A, g z ≠ g e) ∧ (∀ z ∈ B, g z ≠ g e) ∧ ((A ++ B).map g).Nodup := by
  rw [List.map_append, List.map_cons, List.nodup_append, List.nodup_cons] at q
  obtain ⟨q1, ⟨q2, q3⟩, q4⟩ := q
  refine ⟨fun z hz => q4 _ (List.mem_map_of_mem hz) _ (by simp), fun z hz h => q2 (by rw [← h]; exact List.mem_map_of_mem hz), ?_⟩
  rw [List.map_append, List.nodup_append]
  exact ⟨q1, q3, fun x hx y hy => q4 x hx y (by simp [hy])⟩
theorem mem_mid {α : Type} {A B : List α} {e z : α} (h : z ∈ A ++ B) : z ∈ A ++ e :: B := by
  rcases List.mem_append.mp h with h | h
  · exact List.mem_append_left _ h
  · exact List.mem_append_right _ (List.mem_cons_of_mem _ h)
theorem mem_cas {α : Type} {A B : List α} {e z : α} (h : z ∈ A ++ e :: B) : z = e ∨ z ∈ A ++ B := by
  rcases List.mem_append.mp h with h | h
  · exact .inr (List.mem_append_left _ h)
  · rcases List.mem_cons.mp h with h | h
    · exact .inl h
    · exact .inr (List.mem_append_right _ h)
theorem len_ap {e : En} (q : e.js.Nodup ∧ ∀ z ∈ e.js, 0 ≤ z ∧ z < n) (n7 : n ≤ 7) : e.js.length ≤ 7 := by
  have := nodup_le q.1 (ys := rng 0 7) fun z hz => mem_rng.mpr (by have := q.2 z hz; omega)
  rwa [rng_len] at this
/-- an answer to an open read -/
theorem r_note {k : Nat} (W : RP h r a p n L (A ++ e :: B)) (hj : 0 ≤ j ∧ j < n) (n7 : n ≤ 7) : ∃ h', run P (k + 4) 251 [.ref r, .int e.t, .int j] h = .ok (.v (ans n (e.app j))) h' ∧ RP h' r a p n L (aft n A (e.app j) B) ∧ h'.length = h.length ∧ ∀ b, b ≠ a → b ≠ p → b ≠ e.x → h'[b]? = h[b]? := by
  rw [e_Reads_note]
  obtain ⟨tA, tB⟩ := pw_split W.pw
  obtain ⟨xA, xB, xN⟩ := nd_split W.nx
  have me : e ∈ A ++ e :: B := by simp
  obtain ⟨ra, rp, ap, ax⟩ := W.ap
  obtain ⟨xr, xa, xp⟩ := ax e me
  have ja := app_js e j (W.js e me) hj
  have jl := len_ap ja n7
  have jl0 := len_ap (W.js e me) n7
  have ga : kget ((A ++ e :: B).map aE) (.inl e.t) = some (.tup [.int e.c, .int e.i, e.q]) := kget_at (fun _ => rfl) tA
  have gp : kget ((A ++ e :: B).map pE) (.inl e.t) = some (.ref e.x) := kget_at (fun _ => rfl) tA
  have i1 := nin_dik (t := e.t) W.wa
  rw [ga] at i1
  have i2 : ixV (.ref p) (.int e.t) h = .ok (.ref e.x) h := by rw [ix_dik W.wp, gp]; rfl
  have i3 := nin_ref (j := j) (W.wx e me)
  have g : ∀ {b c : Nat} {o : Ob} {m : Mem}, b ≠ c → (m.set c o)[b]? = m[b]? := fun hb => List.getElem?_set_ne (Ne.symm hb)
  obtain ⟨h1, e1, c1, x1⟩ : ∃ h1, (if ¬ j ∈ e.js then Res.lo (metS P (run P (k + 3)) 7 .append (.ref e.x) h fun h => .ok [.int j] h) fun _ h => (.nx () h : Lo Unit Unit) else .nx () h) = .nx () h1 ∧ Chg e.x h h1 ∧ h1[e.x]? = some (.con (.lst ((e.app j).js.map .int))) := by
    unfold En.app
    by_cases c : j ∈ e.js
    · exact ⟨h, by simp [c], .refl, by simp only [c, if_true]; exact W.wx e me⟩
    · refine ⟨h.set e.x (.con (.lst (e.js.map .int ++ [.int j]))), ?_, .set, ?_⟩
      · rw [app_ref (W.wx e me) rfl (by rw [szlQ, List.length_map]; omega)]; simp [c]
      · simp only [c, if_false, List.map_append, List.map_cons, List.map_nil]; exact memSet (W.wx e me)
  have wr1 := (c1.ne r xr.symm).trans W.wr
  have wa1 := (c1.ne a xa.symm).trans W.wa
  have wp1 := (c1.ne p xp.symm).trans W.wp
  have hm := calS_ok (hasmaj_ref (k := k) (c := n) x1 (by omega))
  rw [sset_id ja.1 ja.2] at hm
  have dd : decide (n / 2 + 1 ≤ ((e.app j).js.length : Int)) = decide (n < 2 * ((e.app j).js.length : Int)) := decide_eq_decide.mpr (by omega)
  rw [dd] at hm
  by_cases mj : n < 2 * ((e.app j).js.length : Int)
  · have d1 : delV (.ref p) (.int e.t) h1 = some (h1.set p (.con (.dik ((A ++ B).map pE)))) := by
      simp only [delV, wp1, cdel, keyOf, gp, Option.isSome_some, if_true, Option.map_some]
      rw [kdrop_at (fun _ => rfl) tA tB]
    have wa2 : (h1.set p (.con (.dik ((A ++ B).map pE))))[a]? = some (.con (.dik ((A ++ e :: B).map aE))) := by rw [g ap]; exact wa1
    have wr2 : (h1.set p (.con (.dik ((A ++ B).map pE))))[r]? = some (rdO n L a p) := by rw [g rp]; exact wr1
    have pp := pop_dik (m := 93) (call := run P (k + 3)) wa2 ga
    rw [kdrop_at (fun _ => rfl) tA tB] at pp
    have an : ans n (e.app j) = .tup [.int e.c, .int e.i, e.q] := by unfold ans; rw [if_pos mj]; rfl
    have af : aft n A (e.app j) B = A ++ B := by unfold aft; rw [if_pos mj]
    refine ⟨(h1.set p (.con (.dik ((A ++ B).map pE)))).set a (.con (.dik ((A ++ B).map aE))), ?_, ?_, by simp [c1.len], fun b b1 b2 b3 => by rw [g b1, g b2, c1.ne b b3]⟩
    · rw [an]
      simp only [s_Reads_note, evz, PyI.cmpB, PyI.cmpS, PyI.isiS, PyI.isiV, PyI.sm, PyI.xTup, PyI.xLst, Nat.reduceAdd, Nat.reduceLT, Nat.reduceLeDiff, Nat.reduceBEq, Nat.reduceMul, Nat.reducePow, Int.reduceAdd, Int.reduceSub, Int.reduceMul, Int.reducePow, Int.reduceNeg, Int.reduceLT, Int.reduceLE, Int.reduceEq, Int.reduceToNat, reduceIte, rd96 W.wr, i1, rd97 W.wr, i2, i3, e1, rd49 wr1, hm, mj, rd97 wr1, d1, rd96 wr2, pp, Option.isSome_some]
    · rw [af]
      refine ⟨by rw [g ra]; exact wr2, memSet wa2, by rw [g ap.symm]; exact memSet wp1, fun z hz => ?_, ?_, ⟨W.tt.1, fun z hz => W.tt.2 z (mem_mid hz)⟩, fun z hz => W.js z (mem_mid hz), ⟨ra, rp, ap, fun z hz => ax z (mem_mid hz)⟩, xN⟩
      · have := ax z (mem_mid hz)
        have hx : z.x ≠ e.x := by
          rcases List.mem_append.mp hz with hz | hz
          · exact xA z hz
          · exact xB z hz
        rw [g this.2.1, g this.2.2, c1.ne _ hx]; exact W.wx z (mem_mid hz)
      · have := W.pw
        rw [List.map_append, List.map_cons, List.pairwise_append] at this
        rw [List.map_append, List.pairwise_append]
        exact ⟨this.1, (List.pairwise_cons.mp this.2.1).2, fun x hx y hy => this.2.2 x hx y (by simp [hy])⟩
  · have an : ans n (e.app j) = .non := by unfold ans; rw [if_neg mj]
    have af : aft n A (e.app j) B = A ++ e.app j :: B := by unfold aft; rw [if_neg mj]
    refine ⟨h1, ?_, ?_, c1.len, fun b b1 b2 b3 => c1.ne b b3⟩
    · rw [an]
      simp only [s_Reads_note, evz, PyI.cmpB, PyI.cmpS, PyI.isiS, PyI.isiV, PyI.sm, PyI.xTup, PyI.xLst, Nat.reduceAdd, Nat.reduceLT, Nat.reduceLeDiff, Nat.reduceBEq, Nat.reduceMul, Nat.reducePow, Int.reduceAdd, Int.reduceSub, Int.reduceMul, Int.reducePow, Int.reduceNeg, Int.reduceLT, Int.reduceLE, Int.reduceEq, Int.reduceToNat, reduceIte, rd96 W.wr, i1, rd97 W.wr, i2, i3, e1, rd49 wr1, hm, mj, Option.isSome_some]
    · rw [af]
      have m1 : ∀ f : En → Key × Val, f (e.app j) = f e → (A ++ e.app j :: B).map f = (A ++ e :: B).map f := fun f hf => by rw [List.map_append, List.map_append, List.map_cons, List.map_cons, hf]
      have m2 : ∀ {γ : Type} (f : En → γ), f (e.app j) = f e → (A ++ e.app j :: B).map f = (A ++ e :: B).map f := fun f hf => by rw [List.map_append, List.map_append, List.map_cons, List.map_cons, hf]
      refine ⟨wr1, by rw [m1 aE rfl]; exact wa1, by rw [m1 pE rfl]; exact wp1, fun z hz => ?_, by rw [m2 (·.t) rfl]; exact W.pw, ⟨W.tt.1, fun z hz => ?_⟩, fun z hz => ?_, ⟨ra, rp, ap, fun z hz => ?_⟩, by rw [m2 (·.x) rfl]; exact W.nx⟩
      · rcases mem_cas hz with rfl | hz
        · exact x1
        · have hx : z.x ≠ e.x := by
            rcases List.mem_append.mp hz with hz | hz
            · exact xA z hz
            · exact xB z hz
          rw [c1.ne _ hx]; exact W.wx z (mem_mid hz)
      · rcases mem_cas hz with rfl | hz
        · exact W.tt.2 e me
        · exact W.tt.2 z (mem_mid hz)
      · rcases mem_cas hz with rfl | hz
        · exact ja
        · exact W.js z (mem_mid hz)
      · rcases mem_cas hz with rfl | hz
        · exact ax e me
        · exact ax z (mem_mid hz)
end
section
variable {h : Mem} {r a p l : Nat} {n L : Int} {es A B : List En} {e : En} {j t : Int}
theorem lE_ix {e : En} {h : Mem} : ixV (lE e) (.int 0) h = .ok (.int e.t) h ∧ ixV (lE e) (.int 1) h = .ok (.int e.c) h ∧ ixV (lE e) (.int 2) h = .ok (.int e.i) h ∧ ixV (lE e) (.int 3) h = .ok e.q h ∧ ixV (lE e) (.int 4) h = .ok (.ref e.y) h := ⟨rfl, rfl, rfl, rfl, rfl⟩
theorem rng_at {n i : Nat} {x : Int} (h : (rng 0 n)[i]? = some x) : i < n ∧ x = i := by
  obtain ⟨a, b⟩ := rng_get.mp h
  exact ⟨a, by omega⟩
theorem r_due {k : Nat} (W : RL h l (A ++ e :: B)) (pw : ((A ++ e :: B).map (·.t)).Pairwise (· < ·)) (jq : e.js.Nodup ∧ ∀ z ∈ e.js, 0 ≤ z ∧ z < n) (hl : (A ++ e :: B).length < 1000) (hj : 0 ≤ j ∧ j < n) (n7 : n ≤ 7) : ∃ h', run P (k + 2) 247 [.ref l, .int n, .int e.t, .int j] h = .ok (.v (ans n (e.app j))) h' ∧ RL h' l (aft n A (e.app j) B) ∧ h'.length = h.length ∧ ∀ b, b ≠ l → b ≠ e.y → h'[b]? = h[b]? := by
  rw [e_l_due]
  obtain ⟨tA, tB⟩ := pw_split pw
  obtain ⟨xA, xB, xN⟩ := nd_split W.ny
  have me : e ∈ A ++ e :: B := by simp
  have yl := W.nl e me
  have ja := app_js e j jq hj
  have jl := len_ap ja n7
  have jl0 := len_ap jq n7
  have al : A.length < 1000 := by rw [List.length_append] at hl; omega
  have g : ∀ {b c : Nat} {o : Ob} {m : Mem}, b ≠ c → (m.set c o)[b]? = m[b]? := fun hb => List.getElem?_set_ne (Ne.symm hb)
  have bl : big (((A ++ e :: B).length : Nat) : Int) = true := big_of (by omega) (by omega)
  have ixl : ∀ (i : Nat) (z : En), (A ++ e :: B)[i]? = some z → ixV (.ref l) (.int (i : Int)) h = .ok (lE z) h := fun i z hz => by
    rw [ix_ref W.wl, nth_at (by omega), List.getElem?_map, Int.toNat_natCast, hz]; rfl
  have ng : ∀ h, negS (.int 1) h = .ok (.int (-1)) h := fun _ => rfl
  have lp : ∀ Bd : Int → Val → Mem → Lo Val Val, (∀ (i : Nat) (z : En) (s : Val), (A ++ e :: B)[i]? = some z → Bd i s h = if z.t = e.t then .nx (.int (i : Int)) h else .nx s h) → (forL Bd (rng 0 (A ++ e :: B).length) (.int (-1)) h : Lo Val Unit) = .nx (.int (A.length : Int)) h := fun Bd hB => by
    have := forL_idx (τ := Unit) (B := Bd) (xs := rng 0 (A ++ e :: B).length) (S := fun i => if i ≤ A.length then .int (-1) else .int (A.length : Int)) (M := fun _ => h) (fun i x hx => ?s1)
    case s1 =>
      obtain ⟨hi, rfl⟩ := rng_at hx
      have hz := List.getElem?_eq_getElem hi
      rw [hB i _ _ hz]
      by_cases c1 : i < A.length
      · have : ((A ++ e :: B)[i]'hi).t ≠ e.t := by rw [List.getElem_append_left c1]; exact tA _ (List.getElem_mem _)
        rw [if_neg this]
        rw [if_pos (show i ≤ A.length by omega), if_pos (show i + 1 ≤ A.length by omega)]
      · by_cases c2 : i = A.length
        · subst c2
          have : ((A ++ e :: B)[A.length]'hi) = e := by simp
          rw [this, if_pos rfl, if_neg (show ¬ A.length + 1 ≤ A.length by omega)]
        · have : ((A ++ e :: B)[i]'hi).t ≠ e.t := by
            rw [List.getElem_append_right (by omega)]
            obtain ⟨m, hm⟩ : ∃ m, i - A.length = m + 1 := ⟨i - A.length - 1, by omega⟩
            simp only [hm, List.getElem_cons_succ]
            exact tB _ (List.getElem_mem _)
          rw [if_neg this]
          rw [if_neg (show ¬ i ≤ A.length by omega), if_neg (show ¬ i + 1 ≤ A.length by omega)]
    simp only [Nat.zero_le, if_true, rng_len] at this
    rw [this, if_neg (by rw [List.length_append, List.length_cons]; omega)]
  have ie := ixl A.length e (by simp)
  have i3 := nin_ref (j := j) (W.wy e me)
  obtain ⟨h1, e1, c1, x1⟩ : ∃ h1, (if ¬ j ∈ e.js then Res.lo (metS P (run P (k + 1)) 7 .append (.ref e.y) h fun h => .ok [.int j] h) fun _ h => (.nx () h : Lo Unit Unit) else .nx () h) = .nx () h1 ∧ Chg e.y h h1 ∧ h1[e.y]? = some (.con (.lst ((e.app j).js.map .int))) := by
    unfold En.app
    by_cases c : j ∈ e.js
    · exact ⟨h, by simp [c], .refl, by simp only [c, if_true]; exact W.wy e me⟩
    · refine ⟨h.set e.y (.con (.lst (e.js.map .int ++ [.int j]))), ?_, .set, ?_⟩
      · rw [app_ref (W.wy e me) rfl (by rw [szlQ, List.length_map]; omega)]; simp [c]
      · simp only [c, if_false, List.map_append, List.map_cons, List.map_nil]; exact memSet (W.wy e me)
  have wl1 := (c1.ne l yl.symm).trans W.wl
  have ln := len_ref x1
  have ll : ((A.length : Int) < 0) = False := by simp
  by_cases mj : n < 2 * ((e.app j).js.length : Int)
  · have mj' : ¬ 2 * ((e.app j).js.length : Int) ≤ n := by omega
    have pp := pop_lst (m := 93) (call := run P (k + 1)) (v := lE e) (A := A.map lE) (B := B.map lE) (by rw [wl1, List.map_append, List.map_cons]) (by rw [List.length_map]; omega)
    rw [List.length_map, ← List.map_append] at pp
    have an : ans n (e.app j) = .tup [.int e.c, .int e.i, e.q] := by unfold ans; rw [if_pos mj]; rfl
    have af : aft n A (e.app j) B = A ++ B := by unfold aft; rw [if_pos mj]
    refine ⟨h1.set l (.con (.lst ((A ++ B).map lE))), ?_, ?_, by simp [c1.len], fun b b1 b2 => by rw [g b1, c1.ne b b2]⟩
    · rw [an]
      simp only [s_l_due, evz, PyI.cmpB, PyI.cmpS, PyI.isiS, PyI.isiV, PyI.sm, PyI.xTup, PyI.xLst, Nat.reduceAdd, Nat.reduceLT, Nat.reduceLeDiff, Nat.reduceBEq, Nat.reduceMul, Nat.reducePow, Int.reduceAdd, Int.reduceSub, Int.reduceMul, Int.reducePow, Int.reduceNeg, Int.reduceLT, Int.reduceLE, Int.reduceEq, Int.reduceToNat, reduceIte, ng, len_ref W.wl, bl, List.length_map, Int.toNat_natCast]
      rw [lp _ fun i z s hz => ?s2]
      case s2 =>
        simp only [evz, PyI.cmpB, PyI.cmpS, PyI.isiS, PyI.isiV, PyI.sm, PyI.xTup, PyI.xLst, Nat.reduceAdd, Nat.reduceLT, Nat.reduceLeDiff, Nat.reduceBEq, Nat.reduceMul, Nat.reducePow, Int.reduceAdd, Int.reduceSub, Int.reduceMul, Int.reducePow, Int.reduceNeg, Int.reduceLT, Int.reduceLE, Int.reduceEq, Int.reduceToNat, reduceIte, ixl i z hz, lE_ix.1]
      simp only [evz, PyI.cmpB, PyI.cmpS, PyI.isiS, PyI.isiV, PyI.sm, PyI.xTup, PyI.xLst, Nat.reduceAdd, Nat.reduceLT, Nat.reduceLeDiff, Nat.reduceBEq, Nat.reduceMul, Nat.reducePow, Int.reduceAdd, Int.reduceSub, Int.reduceMul, Int.reducePow, Int.reduceNeg, Int.reduceLT, Int.reduceLE, Int.reduceEq, Int.reduceToNat, reduceIte, ll, ie, lE_ix.2.2.2.2, i3, e1, ln, List.length_map, mj', pp, lE_ix.2.1, lE_ix.2.2.1, lE_ix.2.2.2.1]
    · rw [af]
      refine ⟨memSet wl1, fun z hz => ?_, fun z hz => W.nl z (mem_mid hz), xN⟩
      have hx : z.y ≠ e.y := by
        rcases List.mem_append.mp hz with hz | hz
        · exact xA z hz
        · exact xB z hz
      rw [g (W.nl z (mem_mid hz)), c1.ne _ hx]; exact W.wy z (mem_mid hz)
  · have mj' : 2 * ((e.app j).js.length : Int) ≤ n := by omega
    have an : ans n (e.app j) = .non := by unfold ans; rw [if_neg mj]
    have af : aft n A (e.app j) B = A ++ e.app j :: B := by unfold aft; rw [if_neg mj]
    refine ⟨h1, ?_, ?_, c1.len, fun b b1 b2 => c1.ne b b2⟩
    · rw [an]
      simp only [s_l_due, evz, PyI.cmpB, PyI.cmpS, PyI.isiS, PyI.isiV, PyI.sm, PyI.xTup, PyI.xLst, Nat.reduceAdd, Nat.reduceLT, Nat.reduceLeDiff, Nat.reduceBEq, Nat.reduceMul, Nat.reducePow, Int.reduceAdd, Int.reduceSub, Int.reduceMul, Int.reducePow, Int.reduceNeg, Int.reduceLT, Int.reduceLE, Int.reduceEq, Int.reduceToNat, reduceIte, ng, len_ref W.wl, bl, List.length_map, Int.toNat_natCast]
      rw [lp _ fun i z s hz => ?s3]
      case s3 =>
        simp only [evz, PyI.cmpB, PyI.cmpS, PyI.isiS, PyI.isiV, PyI.sm, PyI.xTup, PyI.xLst, Nat.reduceAdd, Nat.reduceLT, Nat.reduceLeDiff, Nat.reduceBEq, Nat.reduceMul, Nat.reducePow, Int.reduceAdd, Int.reduceSub, Int.reduceMul, Int.reducePow, Int.reduceNeg, Int.reduceLT, Int.reduceLE, Int.reduceEq, Int.reduceToNat, reduceIte, ixl i z hz, lE_ix.1]
      simp only [evz, PyI.cmpB, PyI.cmpS, PyI.isiS, PyI.isiV, PyI.sm, PyI.xTup, PyI.xLst, Nat.reduceAdd, Nat.reduceLT, Nat.reduceLeDiff, Nat.reduceBEq, Nat.reduceMul, Nat.reducePow, Int.reduceAdd, Int.reduceSub, Int.reduceMul, Int.reducePow, Int.reduceNeg, Int.reduceLT, Int.reduceLE, Int.reduceEq, Int.reduceToNat, reduceIte, ll, ie, lE_ix.2.2.2.2, i3, e1, ln, List.length_map, mj']
    · rw [af]
      have m2 : ∀ {γ : Type} (f : En → γ), f (e.app j) = f e → (A ++ e.app j :: B).map f = (A ++ e :: B).map f := fun f hf => by rw [List.map_append, List.map_append, List.map_cons, List.map_cons, hf]
      refine ⟨by rw [m2 lE rfl]; exact wl1, fun z hz => ?_, fun z hz => ?_, by rw [m2 (·.y) rfl]; exact W.ny⟩
      · rcases mem_cas hz with rfl | hz
        · exact x1
        · have hx : z.y ≠ e.y := by
            rcases List.mem_append.mp hz with hz | hz
            · exact xA z hz
            · exact xB z hz
          rw [c1.ne _ hx]; exact W.wy z (mem_mid hz)
      · rcases mem_cas hz with rfl | hz
        · exact yl
        · exact W.nl z (mem_mid hz)
theorem r_dueN {k : Nat} (W : RL h l es) (ht : ∀ e ∈ es, e.t ≠ t) (hl : es.length < 1000) : run P (k + 2) 247 [.ref l, .int n, .int t, .int j] h = .ok (.v .non) h := by
  rw [e_l_due]
  have bl : big ((es.length : Nat) : Int) = true := big_of (by omega) (by omega)
  have ixl : ∀ (i : Nat) (z : En), es[i]? = some z → ixV (.ref l) (.int (i : Int)) h = .ok (lE z) h := fun i z hz => by
    rw [ix_ref W.wl, nth_at (by omega), List.getElem?_map, Int.toNat_natCast, hz]; rfl
  have ng : ∀ h, negS (.int 1) h = .ok (.int (-1)) h := fun _ => rfl
  simp only [s_l_due, evz, PyI.cmpB, PyI.cmpS, PyI.isiS, PyI.isiV, PyI.sm, PyI.xTup, PyI.xLst, Nat.reduceAdd, Nat.reduceLT, Nat.reduceLeDiff, Nat.reduceBEq, Nat.reduceMul, Nat.reducePow, Int.reduceAdd, Int.reduceSub, Int.reduceMul, Int.reducePow, Int.reduceNeg, Int.reduceLT, Int.reduceLE, Int.reduceEq, Int.reduceToNat, reduceIte, ng, len_ref W.wl, bl, List.length_map, Int.toNat_natCast]
  rw [forL_skip fun x hx => ?s1]
  case s1 =>
    obtain ⟨i, hq⟩ := List.getElem?_of_mem hx
    obtain ⟨hi, rfl⟩ := rng_at hq
    simp only [evz, PyI.cmpB, PyI.cmpS, PyI.isiS, PyI.isiV, PyI.sm, PyI.xTup, PyI.xLst, Nat.reduceAdd, Nat.reduceLT, Nat.reduceLeDiff, Nat.reduceBEq, Nat.reduceMul, Nat.reducePow, Int.reduceAdd, Int.reduceSub, Int.reduceMul, Int.reducePow, Int.reduceNeg, Int.reduceLT, Int.reduceLE, Int.reduceEq, Int.reduceToNat, reduceIte, ixl i _ (List.getElem?_eq_getElem hi), lE_ix.1, ht _ (List.getElem_mem hi)]
  simp only [evz, PyI.cmpB, PyI.cmpS, PyI.isiS, PyI.isiV, PyI.sm, PyI.xTup, PyI.xLst, Nat.reduceAdd, Nat.reduceLT, Nat.reduceLeDiff, Nat.reduceBEq, Nat.reduceMul, Nat.reducePow, Int.reduceAdd, Int.reduceSub, Int.reduceMul, Int.reducePow, Int.reduceNeg, Int.reduceLT, Int.reduceLE, Int.reduceEq, Int.reduceToNat, reduceIte]
/-- what is not answered yet -/
def row (n : Int) (e : En) : List Val := ((rng 0 n.toNat).filter fun j => decide (j ∉ e.js)).map fun j => .tup [.int e.t, .int j]
def unA (n : Int) (es : List En) : List Val := es.flatMap (row n)
theorem row_len {n : Int} {e : En} (n7 : n ≤ 7) : (row n e).length ≤ 7 := by
  unfold row
  rw [List.length_map]
  have := List.length_filter_le (fun j => decide (j ∉ e.js)) (rng 0 n.toNat)
  rw [rng_len] at this; omega
theorem un_len {n : Int} (n7 : n ≤ 7) : ∀ {es : List En}, (unA n es).length ≤ 7 * es.length
  | [] => by simp [unA]
  | e :: es => by
    have := un_len n7 (es := es)
    unfold unA at this ⊢
    rw [List.flatMap_cons, List.length_append, List.length_cons]
    have := row_len (e := e) n7; omega
theorem un_sd {n : Int} {es : List En} (n7 : n ≤ 7) (hl : es.length < 1000) : sd 3 (.lst (unA n es)) := ⟨by have := un_len (es := es) n7; omega, fun x hx => by
  obtain ⟨e, _, hx⟩ := List.mem_flatMap.mp hx
  obtain ⟨j, _, rfl⟩ := List.mem_map.mp hx
  exact ⟨by simp, by simp [sd]⟩⟩
/-- a row of pairs, put behind what is there -/
theorem row_loop {τ : Type} {e : En} {acc : List Val} {n : Int} {Bd : Int → Con → Mem → Lo Con Con} (n7 : n ≤ 7) (hl : acc.length < 10000) (hB : ∀ (j : Int) (xs : List Val), xs.length < 16777216 → Bd j (.lst xs) h = if j ∈ e.js then .nx (.lst xs) h else .nx (.lst (xs ++ [.tup [.int e.t, .int j]])) h) : (forL Bd (rng 0 n.toNat) (.lst acc) h : Lo Con τ) = .nx (.lst (acc ++ row n e)) h := by
  have := forL_idx (τ := τ) (B := Bd) (xs := rng 0 n.toNat) (S := fun i => Con.lst (acc ++ (((rng 0 n.toNat).take i).filter fun j => decide (j ∉ e.js)).map fun j => Val.tup [.int e.t, .int j])) (M := fun _ => h) (fun i x hx => ?s1)
  case s1 =>
    have hi : i < 7 := by have := (rng_at hx).1; omega
    have fl : (acc ++ (((rng 0 n.toNat).take i).filter fun j => decide (j ∉ e.js)).map fun j => Val.tup [.int e.t, .int j]).length < 16777216 := by
      rw [List.length_append, List.length_map]
      have := List.length_filter_le (fun j => decide (j ∉ e.js)) ((rng 0 n.toNat).take i)
      rw [List.length_take] at this; omega
    rw [hB x _ fl, List.take_add_one, hx]
    by_cases c : x ∈ e.js
    · rw [if_pos c, List.filter_append]; simp [c]
    · rw [if_neg c, List.filter_append]; simp [c]
  rw [List.take_zero, List.take_length] at this
  simp only [List.filter_nil, List.map_nil, List.append_nil] at this
  exact this
theorem un_take {n : Int} {es : List En} {i : Nat} {e : En} (h : es[i]? = some e) : unA n (es.take (i + 1)) = unA n (es.take i) ++ row n e := by
  unfold unA
  rw [List.take_add_one, h, List.flatMap_append]; simp
theorem srt_id : ∀ {xs : List Int}, xs.Pairwise (· < ·) → srtI xs = xs
  | [], _ => rfl
  | x :: xs, q => by
    rw [List.pairwise_cons] at q
    unfold srtI
    rw [srt_id q.2]
    cases xs with
    | nil => rfl
    | cons y ys => unfold insI; rw [if_pos (by have := q.1 y (by simp); omega)]
theorem r_lun {k : Nat} (W : RL h l es) (n0 : 0 ≤ n) (n7 : n ≤ 7) (hl : es.length < 1000) : run P (k + 2) 246 [.ref l, .int n] h = .ok (.f (unA n es)) h := by
  rw [e_l_unanswered]
  have bn : big n = true := big_of (by omega) (by omega)
  simp only [s_l_unanswered, evz, PyI.cmpB, PyI.cmpS, PyI.isiS, PyI.isiV, PyI.sm, PyI.xTup, PyI.xLst, Nat.reduceAdd, Nat.reduceLT, Nat.reduceLeDiff, Nat.reduceBEq, Nat.reduceMul, Nat.reducePow, Int.reduceAdd, Int.reduceSub, Int.reduceMul, Int.reducePow, Int.reduceNeg, Int.reduceLT, Int.reduceLE, Int.reduceEq, Int.reduceToNat, reduceIte, itr_ref W.wl]
  rw [forS_at (v := lE) (xs := es) (s0 := Con.lst []) (h0 := h) (fun i => Con.lst (unA n (es.take i))) (fun _ => h) rfl rfl (fun i hi => W.wl) (fun i e he => ?s1)]
  case s1 =>
    have me := List.mem_of_getElem? he
    have hi := (List.getElem?_eq_some_iff.mp he).1
    have fl : (unA n (es.take i)).length < 10000 := by have := un_len (es := es.take i) n7; rw [List.length_take] at this; omega
    simp only [evz, PyI.cmpB, PyI.cmpS, PyI.isiS, PyI.isiV, PyI.sm, PyI.xTup, PyI.xLst, Nat.reduceAdd, Nat.reduceLT, Nat.reduceLeDiff, Nat.reduceBEq, Nat.reduceMul, Nat.reducePow, Int.reduceAdd, Int.reduceSub, Int.reduceMul, Int.reducePow, Int.reduceNeg, Int.reduceLT, Int.reduceLE, Int.reduceEq, Int.reduceToNat, reduceIte, bn]
    rw [row_loop (e := e) n7 fl fun j xs hx => ?s2]
    case s2 =>
      simp only [evz, PyI.cmpB, PyI.cmpS, PyI.isiS, PyI.isiV, PyI.sm, PyI.xTup, PyI.xLst, Nat.reduceAdd, Nat.reduceLT, Nat.reduceLeDiff, Nat.reduceBEq, Nat.reduceMul, Nat.reducePow, Int.reduceAdd, Int.reduceSub, Int.reduceMul, Int.reducePow, Int.reduceNeg, Int.reduceLT, Int.reduceLE, Int.reduceEq, Int.reduceToNat, reduceIte, lE_ix.2.2.2.2, nin_ref (j := j) (W.wy e me), lE_ix.1, hx]
      by_cases c : j ∈ e.js <;> simp [c]
    rw [un_take he]
    simp only [evz, PyI.cmpB, PyI.cmpS, PyI.isiS, PyI.isiV, PyI.sm, PyI.xTup, PyI.xLst, Nat.reduceAdd, Nat.reduceLT, Nat.reduceLeDiff, Nat.reduceBEq, Nat.reduceMul, Nat.reducePow, Int.reduceAdd, Int.reduceSub, Int.reduceMul, Int.reducePow, Int.reduceNeg, Int.reduceLT, Int.reduceLE, Int.reduceEq, Int.reduceToNat, reduceIte]
  rw [List.take_length]
  simp only [evz, PyI.cmpB, PyI.cmpS, PyI.isiS, PyI.isiV, PyI.sm, PyI.xTup, PyI.xLst, Nat.reduceAdd, Nat.reduceLT, Nat.reduceLeDiff, Nat.reduceBEq, Nat.reduceMul, Nat.reducePow, Int.reduceAdd, Int.reduceSub, Int.reduceMul, Int.reducePow, Int.reduceNeg, Int.reduceLT, Int.reduceLE, Int.reduceEq, Int.reduceToNat, reduceIte]
theorem r_un {k : Nat} (W : RP h r a p n L es) (n0 : 0 ≤ n) (n7 : n ≤ 7) (hl : es.length < 1000) : run P (k + 2) 252 [.ref r] h = .ok (.f (unA n es)) h := by
  rw [e_Reads_unanswered]
  have bn : big n = true := big_of (by omega) (by omega)
  have sr : srtV h (.ref a) = some (.lst ((es.map (·.t)).map .int)) := by
    have e1 : ((es.map aE).map fun kv => kval kv.1) = (es.map (·.t)).map Val.int := by rw [List.map_map, List.map_map]; rfl
    simp only [srtV, conV, W.wa, Option.bind_some, conO, cSrt, List.length_map]
    rw [if_pos (by rw [szlQ]; omega), e1]
    unfold srtVs
    rw [mapM_int]
    simp only [srt_id W.pw]
  simp only [s_Reads_unanswered, evz, PyI.cmpB, PyI.cmpS, PyI.isiS, PyI.isiV, PyI.sm, PyI.xTup, PyI.xLst, Nat.reduceAdd, Nat.reduceLT, Nat.reduceLeDiff, Nat.reduceBEq, Nat.reduceMul, Nat.reducePow, Int.reduceAdd, Int.reduceSub, Int.reduceMul, Int.reducePow, Int.reduceNeg, Int.reduceLT, Int.reduceLE, Int.reduceEq, Int.reduceToNat, reduceIte, rd96 W.wr, sr]
  have lp : ∀ Bd : En → Con → Mem → Lo Con Con, (∀ (i : Nat) (e : En), es[i]? = some e → Bd e (.lst (unA n (es.take i))) h = .nx (.lst (unA n (es.take (i + 1)))) h) → (forL Bd es (.lst []) h : Lo Con Unit) = .nx (.lst (unA n es)) h := fun Bd hB => by
    have := forL_idx (τ := Unit) (B := Bd) (xs := es) (S := fun i => Con.lst (unA n (es.take i))) (M := fun _ => h) hB
    rw [List.take_length] at this
    exact this
  rw [lp _ fun i e he => ?s1]
  case s1 =>
    have me := List.mem_of_getElem? he
    have hi := (List.getElem?_eq_some_iff.mp he).1
    have fl : (unA n (es.take i)).length < 10000 := by have := un_len (es := es.take i) n7; rw [List.length_take] at this; omega
    obtain ⟨A, B, rfl⟩ := List.append_of_mem me
    have gp : kget ((A ++ e :: B).map pE) (.inl e.t) = some (.ref e.x) := kget_at (fun _ => rfl) (pw_split W.pw).1
    have ip : ixV (.ref p) (.int e.t) h = .ok (.ref e.x) h := by rw [ix_dik W.wp, gp]; rfl
    simp only [evz, PyI.cmpB, PyI.cmpS, PyI.isiS, PyI.isiV, PyI.sm, PyI.xTup, PyI.xLst, Nat.reduceAdd, Nat.reduceLT, Nat.reduceLeDiff, Nat.reduceBEq, Nat.reduceMul, Nat.reducePow, Int.reduceAdd, Int.reduceSub, Int.reduceMul, Int.reducePow, Int.reduceNeg, Int.reduceLT, Int.reduceLE, Int.reduceEq, Int.reduceToNat, reduceIte, rd49 W.wr, bn]
    rw [row_loop (e := e) n7 fl fun j xs hx => ?s2]
    case s2 =>
      simp only [evz, PyI.cmpB, PyI.cmpS, PyI.isiS, PyI.isiV, PyI.sm, PyI.xTup, PyI.xLst, Nat.reduceAdd, Nat.reduceLT, Nat.reduceLeDiff, Nat.reduceBEq, Nat.reduceMul, Nat.reducePow, Int.reduceAdd, Int.reduceSub, Int.reduceMul, Int.reducePow, Int.reduceNeg, Int.reduceLT, Int.reduceLE, Int.reduceEq, Int.reduceToNat, reduceIte, rd97 W.wr, ip, nin_ref (j := j) (W.wx e me), hx]
      by_cases c : j ∈ e.js <;> simp [c]
    rw [un_take he]
    simp only [evz, PyI.cmpB, PyI.cmpS, PyI.isiS, PyI.isiV, PyI.sm, PyI.xTup, PyI.xLst, Nat.reduceAdd, Nat.reduceLT, Nat.reduceLeDiff, Nat.reduceBEq, Nat.reduceMul, Nat.reducePow, Int.reduceAdd, Int.reduceSub, Int.reduceMul, Int.reducePow, Int.reduceNeg, Int.reduceLT, Int.reduceLE, Int.reduceEq, Int.reduceToNat, reduceIte]
  simp only [evz, PyI.cmpB, PyI.cmpS, PyI.isiS, PyI.isiV, PyI.sm, PyI.xTup, PyI.xLst, Nat.reduceAdd, Nat.reduceLT, Nat.reduceLeDiff, Nat.reduceBEq, Nat.reduceMul, Nat.reducePow, Int.reduceAdd, Int.reduceSub, Int.reduceMul, Int.reducePow, Int.reduceNeg, Int.reduceLT, Int.reduceLE, Int.reduceEq, Int.reduceToNat, reduceIte]
theorem mk_rd {k : Nat} {h : Mem} {n : Int} : mkS P (run P (k + 2)) 11 [.int n] h = .ok (.ref h.length) (h ++ [rdO n 0 (h.length + 1) (h.length + 2), .con (.dik []), .con (.dik [])]) := by
  obtain ⟨C, e1, e2⟩ : ∃ C, P.cl 11 = some C ∧ C.ini = 249 := ⟨_, rfl, rfl⟩
  have : run P (k + 2) 249 [.ref h.length, .int n] (h ++ [.ins 11 []]) = .ok (.v .non) (h ++ [rdO n 0 (h.length + 1) (h.length + 2), .con (.dik []), .con (.dik [])]) := by
    rw [e_Reads___init__]
    have g : ∀ (o : Ob) (m : Mem), (h ++ o :: m)[h.length]? = some o := fun o m => by simp
    have s1 : ∀ (o o' : Ob) (m : Mem), (h ++ o :: m).set h.length o' = h ++ o' :: m := fun o o' m => by simp
    have o1 : setA P 49 (.ref h.length) (.int n) (h ++ [.ins 11 []]) = some (h ++ [.ins 11 [(49, .v (.int n))]]) := by simp only [setA, g]; exact congrArg some (s1 _ _ _)
    have o2 : setA P 95 (.ref h.length) (.int 0) (h ++ [.ins 11 [(49, .v (.int n))]]) = some (h ++ [.ins 11 [(49, .v (.int n)), (95, .v (.int 0))]]) := by simp only [setA, g]; exact congrArg some (s1 _ _ _)
    have d0 : ∀ h, ddS [] [] h = .ok (.dik []) h := fun h => rfl
    have o3 : setA P 96 (.ref h.length) (.ref (h.length + 1)) (h ++ [.ins 11 [(49, .v (.int n)), (95, .v (.int 0))], .con (.dik [])]) = some (h ++ [.ins 11 [(49, .v (.int n)), (95, .v (.int 0)), (96, .v (.ref (h.length + 1)))], .con (.dik [])]) := by simp only [setA, g]; exact congrArg some (s1 _ _ _)
    have o4 : setA P 97 (.ref h.length) (.ref (h.length + 2)) (h ++ [.ins 11 [(49, .v (.int n)), (95, .v (.int 0)), (96, .v (.ref (h.length + 1)))], .con (.dik []), .con (.dik [])]) = some (h ++ [rdO n 0 (h.length + 1) (h.length + 2), .con (.dik []), .con (.dik [])]) := by simp only [setA, g]; exact congrArg some (s1 _ _ _)
    simp only [s_Reads___init__, evz, PyI.cmpB, PyI.cmpS, PyI.isiS, PyI.isiV, PyI.sm, PyI.xTup, PyI.xLst, Nat.reduceAdd, Nat.reduceLT, Nat.reduceLeDiff, Nat.reduceBEq, Nat.reduceMul, Nat.reducePow, Int.reduceAdd, Int.reduceSub, Int.reduceMul, Int.reducePow, Int.reduceNeg, Int.reduceLT, Int.reduceLE, Int.reduceEq, Int.reduceToNat, reduceIte, o1, o2, d0, PyI.new, List.length_append, List.length_cons, List.length_nil, List.append_assoc, List.cons_append, List.nil_append, o3, o4]
  simp only [mkS, e1, e2, this, Res.bind_ok]
theorem r_query {k : Nat} {h : Mem} {d : Int} (d0 : 0 ≤ d) : ∃ v, sd 6 v ∧ run P (k + 2) 245 [.int d] h = .ok (.v v) h := by
  rw [e_l_query]
  obtain ⟨v, e, hv⟩ := nth_some (xs := [Val.tup [.str ['c', 'o', 'n', 't', 'e', 'n', 't'], .int d], .tup [.str ['f', 'i', 'n', 'd'], .str ['/', 'a']], .tup [.str ['n', 'a', 'm', 'e', 's'], .str ['/']], .tup [.str ['x'], .tup [.int 1, .tup [.int d, .tup []]], .str ['y']], .str ['w', 'o', 'r', 'd'], .int (7 + d), .tup []]) (i := d % 7) Val.non (Int.emod_nonneg _ (by decide)) (by have := Int.emod_lt_of_pos d (show (0 : Int) < 7 by decide); simp only [List.length_cons, List.length_nil]; omega)
  refine ⟨v, ?_, by simp only [s_l_query, evz, PyI.cmpB, PyI.cmpS, PyI.isiS, PyI.isiV, PyI.sm, PyI.xTup, PyI.xLst, Nat.reduceAdd, Nat.reduceLT, Nat.reduceLeDiff, Nat.reduceBEq, Nat.reduceMul, Nat.reducePow, Int.reduceAdd, Int.reduceSub, Int.reduceMul, Int.reducePow, Int.reduceNeg, Int.reduceLT, Int.reduceLE, Int.reduceEq, Int.reduceToNat, reduceIte, e]⟩
  simp only [List.mem_cons, List.not_mem_nil, or_false] at hv
  rcases hv with rfl | rfl | rfl | rfl | rfl | rfl | rfl <;> simp [sd]
theorem met_rd {mm gg : Nat} {b : Bm} {call : Nat → List Val → Mem → Res Ret} {vs : Mem → Res (List Val)} {ws : List Val} (hr : h[r]? = some (rdO n L a p)) (hm : metF P 11 mm = some gg) (hn : mm ≠ 49 ∧ mm ≠ 95 ∧ mm ≠ 96 ∧ mm ≠ 97) (hv : vs h = .ok ws h) : metS P call mm b (.ref r) h vs = calS call gg (.ref r :: ws) h := by
  refine met_ref hr hm ?_ hv
  obtain ⟨h1, h2, h3, h4⟩ := hn
  simp only [List.lookup_cons, List.lookup_nil, beq_eq_false_iff_ne.mpr h1, beq_eq_false_iff_ne.mpr h2, beq_eq_false_iff_ne.mpr h3, beq_eq_false_iff_ne.mpr h4]
  rfl
end
theorem r_sameR {k a : Nat} {h : Mem} {xs : List Val} {n : Nat} (ha : h[a]? = some (.con (.lst xs))) (q : sd (n + 1) (.lst xs)) : run P (k + n + 4) 124 [.ref a, .lst xs] h = .ok (.v (.bl true)) h := by
  rw [e_l_same]
  have bl : big (xs.length : Int) = true := big_of (by omega) (by have := q.1; omega)
  have i1 : isiV P.ist h .tl (.ref a) = some true := by simp only [isiV, ha]
  have i2 : isiV P.ist h .tuple (.ref a) = some false := by simp only [isiV, ha]
  have inner : ∀ x, sd n x → calS (run P (k + n + 3)) 124 [x, x] h = .ok (.bl true) h := fun x q => by
    have := r_sameT n x (k + 1) h q
    rw [show (k + 1) + n + 2 = k + n + 3 by omega] at this
    exact calS_ok this
  simp only [s_l_same, ha, len_ref ha, evz, PyI.cmpB, PyI.cmpS, PyI.isiS, PyI.isiV, PyI.sm, PyI.xTup, PyI.xLst, Nat.reduceAdd, Nat.reduceLT, Nat.reduceLeDiff, Nat.reduceBEq, Nat.reduceMul, Nat.reducePow, Int.reduceAdd, Int.reduceSub, Int.reduceMul, Int.reducePow, Int.reduceNeg, Int.reduceLT, Int.reduceLE, Int.reduceEq, Int.reduceToNat, reduceIte, bl, Int.toNat_natCast]
  rw [forL_skip fun i hi => ?s1]
  case s1 =>
    obtain ⟨x, e, hm⟩ := nth_in hi
    simp only [evz, PyI.cmpB, PyI.cmpS, PyI.isiS, PyI.isiV, PyI.sm, PyI.xTup, PyI.xLst, Nat.reduceAdd, Nat.reduceLT, Nat.reduceLeDiff, Nat.reduceBEq, Nat.reduceMul, Nat.reducePow, Int.reduceAdd, Int.reduceSub, Int.reduceMul, Int.reducePow, Int.reduceNeg, Int.reduceLT, Int.reduceLE, Int.reduceEq, Int.reduceToNat, reduceIte, ix_ref ha, e, inner x (q.2 x hm)]
  simp only [evz, PyI.cmpB, PyI.cmpS, PyI.isiS, PyI.isiV, PyI.sm, PyI.xTup, PyI.xLst, Nat.reduceAdd, Nat.reduceLT, Nat.reduceLeDiff, Nat.reduceBEq, Nat.reduceMul, Nat.reducePow, Int.reduceAdd, Int.reduceSub, Int.reduceMul, Int.reducePow, Int.reduceNeg, Int.reduceLT, Int.reduceLE, Int.reduceEq, Int.reduceToNat, reduceIte]
theorem app_ref2 {P : Pg} {call : Nat → List Val → Mem → Res Ret} {m a : Nat} {h h2 : Mem} {xs : List Val} {v : Val} {vs : Mem → Res (List Val)} (ha : h[a]? = some (.con (.lst xs))) (ha2 : h2[a]? = some (.con (.lst xs))) (hv : vs h = .ok [v] h2) (hl : xs.length < szl) : metS P call m .append (.ref a) h vs = .ok .non (h2.set a (.con (.lst (xs ++ [v])))) := by
  have e1 : noFld h m (.ref a) = true := by simp only [noFld, ha]
  have e2 : hasM P h m .append (.ref a) = true := by simp only [hasM, ha]; rfl
  simp only [metS, e1, e2, hv, Bool.and_self, if_true, Res.bind_ok, kindV, ha, ha2, metV, bmV, hl, Ret.val_v]
/-- both objects, both lists -/
structure Bg (h : Mem) (r a p l r' a' p' l' : Nat) (n L M : Int) (es bs : List En) : Prop where
  p1 : RP h r a p n L es
  l1 : RL h l es
  p2 : RP h r' a' p' n M bs
  l2 : RL h l' bs
  d1 : ∀ e ∈ es, ∀ f ∈ es, e.x ≠ f.y
  d2 : ∀ e ∈ es, ∀ f ∈ bs, e.x ≠ f.x ∧ e.x ≠ f.y ∧ e.y ≠ f.x ∧ e.y ≠ f.y
  d3 : ∀ e ∈ bs, ∀ f ∈ bs, e.x ≠ f.y
  h1 : ∀ e ∈ es, (8 ≤ e.x ∧ e.x < h.length) ∧ 8 ≤ e.y ∧ e.y < h.length
  h2 : ∀ e ∈ bs, (8 ≤ e.x ∧ e.x < h.length) ∧ 8 ≤ e.y ∧ e.y < h.length
  dq : ∀ e ∈ es, sd 6 e.q
  h8 : 8 ≤ h.length
structure Fx (r a p l r' a' p' l' : Nat) : Prop where
  nd : [r, a, p, l, r', a', p', l'].Nodup
  lt : ∀ z ∈ [r, a, p, l, r', a', p', l'], z < 8
section
variable {h : Mem} {r a p l r' a' p' l' : Nat} {n L M : Int} {es bs : List En}
theorem Bg.sw (B : Bg h r a p l r' a' p' l' n L M es bs) (q : ∀ e ∈ bs, sd 6 e.q) : Bg h r' a' p' l' r a p l n M L bs es :=
  ⟨B.p2, B.l2, B.p1, B.l1, B.d3, fun e he f hf => by have := B.d2 f hf e he; exact ⟨this.1.symm, this.2.2.1.symm, this.2.1.symm, this.2.2.2.symm⟩, B.d1, B.h2, B.h1, q, B.h8⟩
theorem Bg.app (B : Bg h r a p l r' a' p' l' n L M es bs) (F : Fx r a p l r' a' p' l') (m : Mem) : Bg (h ++ m) r a p l r' a' p' l' n L M es bs := by
  have lt : ∀ {b : Nat}, b < h.length → (h ++ m)[b]? = h[b]? := fun hb => List.getElem?_append_left hb
  have l8 : ∀ z ∈ [r, a, p, l, r', a', p', l'], (h ++ m)[z]? = h[z]? := fun z hz => lt (by have := F.lt z hz; have := B.h8; omega)
  refine ⟨B.p1.keep (l8 _ (by simp)) (l8 _ (by simp)) (l8 _ (by simp)) fun e he => lt (B.h1 e he).1.2, B.l1.keep (l8 _ (by simp)) fun e he => lt (B.h1 e he).2.2, B.p2.keep (l8 _ (by simp)) (l8 _ (by simp)) (l8 _ (by simp)) fun e he => lt (B.h2 e he).1.2, B.l2.keep (l8 _ (by simp)) fun e he => lt (B.h2 e he).2.2, B.d1, B.d2, B.d3, fun e he => ?_, fun e he => ?_, B.dq, by rw [List.length_append]; have := B.h8; omega⟩
  · have := B.h1 e he; rw [List.length_append]; omega
  · have := B.h2 e he; rw [List.length_append]; omega
theorem ask_step {k : Nat} {c i : Int} {q : Val} (B : Bg h r a p l r' a' p' l' n L M es bs) (F : Fx r a p l r' a' p' l') (sq : sd 6 q) (hl : es.length < 1000) : ∃ h1 h3, run P (k + 2) 250 [.ref r, .int c, .int i, q] h = .ok (.v (.int (L + 1))) h1 ∧ (∀ (call : Nat → List Val → Mem → Res Ret) (vs : Mem → Res (List Val)), vs h1 = .ok [.lst [.int (L + 1), .int c, .int i, q, .ref h1.length]] (h1 ++ [.con (.lst [])]) → metS P call 7 .append (.ref l) h1 vs = .ok .non h3) ∧ Bg h3 r a p l r' a' p' l' n (L + 1) M (es ++ [⟨L + 1, c, i, q, [], h.length, h.length + 1⟩]) bs := by
  have H8 := B.h8
  have nd := F.nd
  simp only [List.nodup_cons, List.mem_cons, List.not_mem_nil, or_false, not_or, List.nodup_nil, and_true, not_false_eq_true] at nd
  obtain ⟨⟨-, -, rl, rr, ra', rp', rl'⟩, ⟨-, al, ar, aa', ap', al'⟩, ⟨pl, pr, pa', pp', pl'⟩, ⟨lr, la, lp, ll⟩, -⟩ := nd
  have lt8 : ∀ z ∈ [r, a, p, l, r', a', p', l'], z < h.length := fun z hz => by have := F.lt z hz; omega
  obtain ⟨h1, e1, W1, n1, k1⟩ := r_ask (k := k) (c := c) (i := i) (q := q) (y := h.length + 1) B.p1 hl ⟨lt8 r (by simp), lt8 a (by simp), lt8 p (by simp), fun e he => (B.h1 e he).1.2⟩
  have f8 : ∀ z ∈ [r, a, p, l, r', a', p', l'], z < 8 := F.lt
  have g : ∀ {b c : Nat} {o : Ob} {m : Mem}, b ≠ c → (m.set c o)[b]? = m[b]? := fun hb => List.getElem?_set_ne (Ne.symm hb)
  have up : ∀ {b : Nat}, b < h1.length → (h1 ++ [Ob.con (.lst [])])[b]? = h1[b]? := fun hb => List.getElem?_append_left hb
  have kl : ∀ b, 8 ≤ b → b < h.length → h1[b]? = h[b]? := fun b b8 b1 => k1 b (by have := f8 r (by simp); omega) (by have := f8 a (by simp); omega) (by have := f8 p (by simp); omega) b1
  have wl1 : h1[l]? = some (.con (.lst (es.map lE))) := by rw [k1 l (Ne.symm rl) (Ne.symm al) (Ne.symm pl) (lt8 l (by simp))]; exact B.l1.wl
  have wl2 : (h1 ++ [Ob.con (.lst [])])[l]? = some (.con (.lst (es.map lE))) := by rw [up (by have := lt8 l (by simp); omega)]; exact wl1
  refine ⟨h1, (h1 ++ [Ob.con (.lst [])]).set l (.con (.lst (es.map lE ++ [.lst [.int (L + 1), .int c, .int i, q, .ref h1.length]]))), e1, fun call vs hv => app_ref2 wl1 wl2 hv (by rw [List.length_map, szlQ]; omega), ?_⟩
  rw [n1]
  -- what a cell holds now
  have old : ∀ b, 8 ≤ b → b < h.length → ((h1 ++ [Ob.con (.lst [])]).set l (.con (.lst (es.map lE ++ [.lst [.int (L + 1), .int c, .int i, q, .ref (h.length + 1)]]))))[b]? = h[b]? := fun b b8 b1 => by
    rw [g (by have := f8 l (by simp); omega), up (by omega), kl b b8 b1]
  have new1 : ∀ b, b ≠ l → b < h.length + 1 → ((h1 ++ [Ob.con (.lst [])]).set l (.con (.lst (es.map lE ++ [.lst [.int (L + 1), .int c, .int i, q, .ref (h.length + 1)]]))))[b]? = h1[b]? := fun b bl b1 => by rw [g bl, up (by omega)]
  have fix : ∀ b ∈ [r', a', p', l'], b ≠ r → b ≠ a → b ≠ p → b ≠ l → ((h1 ++ [Ob.con (.lst [])]).set l (.con (.lst (es.map lE ++ [.lst [.int (L + 1), .int c, .int i, q, .ref (h.length + 1)]]))))[b]? = h[b]? := fun b hb b1 b2 b3 b4 => by
    have : b < h.length := lt8 b (by simp at hb ⊢; omega)
    rw [new1 b b4 (by omega), k1 b b1 b2 b3 this]
  have cas : ∀ {e : En}, e ∈ es ++ [⟨L + 1, c, i, q, [], h.length, h.length + 1⟩] → e ∈ es ∨ e = ⟨L + 1, c, i, q, [], h.length, h.length + 1⟩ := fun he => (List.mem_append.mp he).imp_right List.mem_singleton.mp
  refine ⟨W1.keep (new1 r rl (by have := lt8 r (by simp); omega)) (new1 a al (by have := lt8 a (by simp); omega)) (new1 p pl (by have := lt8 p (by simp); omega)) fun e he => ?_, ⟨?_, fun e he => ?_, fun e he => ?_, ?_⟩, B.p2.keep (fix _ (by simp) (Ne.symm rr) (Ne.symm ar) (Ne.symm pr) (Ne.symm lr)) (fix _ (by simp) (Ne.symm ra') (Ne.symm aa') (Ne.symm pa') (Ne.symm la)) (fix _ (by simp) (Ne.symm rp') (Ne.symm ap') (Ne.symm pp') (Ne.symm lp)) (fun e he => old _ (B.h2 e he).1.1 (B.h2 e he).1.2), B.l2.keep (fix _ (by simp) (Ne.symm rl') (Ne.symm al') (Ne.symm pl') (Ne.symm ll)) fun e he => old _ (B.h2 e he).2.1 (B.h2 e he).2.2, fun e he f hf => ?_, fun e he f hf => ?_, B.d3, fun e he => ?_, fun e he => ?_, fun e he => ?_, ?_⟩
  · rcases cas he with he | rfl
    · have := B.h1 e he
      exact new1 _ (by have := f8 l (by simp); omega) (by omega)
    · exact new1 _ (by have := f8 l (by simp); show h.length ≠ l; omega) (by show h.length < _; omega)
  · rw [List.map_append]; exact memSet wl2
  · rcases cas he with he | rfl
    · have := B.h1 e he
      rw [old _ this.2.1 this.2.2]; exact B.l1.wy e he
    · show ((h1 ++ [Ob.con (.lst [])]).set l _)[h.length + 1]? = _
      rw [g (by have := f8 l (by simp); omega), ← n1]; simp
  · rcases cas he with he | rfl
    · exact B.l1.nl e he
    · have := f8 l (by simp); show h.length + 1 ≠ l; omega
  · rw [List.map_append, List.nodup_append]
    refine ⟨B.l1.ny, by simp, fun x hx y hy e => ?_⟩
    obtain ⟨z, hz, rfl⟩ := List.mem_map.mp hx
    simp at hy; subst hy
    have := (B.h1 z hz).2.2; omega
  · rcases cas he with he | rfl <;> rcases cas hf with hf | rfl
    · exact B.d1 e he f hf
    · have := (B.h1 e he).1.2; show e.x ≠ h.length + 1; omega
    · have := (B.h1 f hf).2.2; show h.length ≠ f.y; omega
    · show h.length ≠ h.length + 1; omega
  · have hf2 := B.h2 f hf
    rcases cas he with he | rfl
    · exact B.d2 e he f hf
    · refine ⟨?_, ?_, ?_, ?_⟩
      · show h.length ≠ f.x; omega
      · show h.length ≠ f.y; omega
      · show h.length + 1 ≠ f.x; omega
      · show h.length + 1 ≠ f.y; omega
  · rcases cas he with he | rfl
    · have := B.h1 e he; simp only [List.length_set, List.length_append, List.length_cons, List.length_nil]; omega
    · simp only [List.length_set, List.length_append, List.length_cons, List.length_nil]; omega
  · have := B.h2 e he; simp only [List.length_set, List.length_append, List.length_cons, List.length_nil]; omega
  · rcases cas he with he | rfl
    · exact B.dq e he
    · exact sq
  · simp only [List.length_set, List.length_append, List.length_cons, List.length_nil]; omega
theorem aft_mem {e z : En} {A B : List En} {n : Int} (h : z ∈ aft n A e B) : z = e ∨ z ∈ A ++ B := by
  unfold aft at h
  split at h
  · exact .inr h
  · exact mem_cas h
theorem aft_len {e e' : En} {A B : List En} {n : Int} : (aft n A e B).length ≤ (A ++ e' :: B).length := by
  unfold aft
  split
  · simp
  · simp
theorem note_step {k : Nat} {t j : Int} (B : Bg h r a p l r' a' p' l' n L M es bs) (F : Fx r a p l r' a' p' l') (hl : es.length < 1000) (hj : 0 ≤ j ∧ j < n) (n7 : n ≤ 7) : ∃ v h1 h2 es', run P (k + 4) 247 [.ref l, .int n, .int t, .int j] h = .ok (.v v) h1 ∧ run P (k + 4) 251 [.ref r, .int t, .int j] h1 = .ok (.v v) h2 ∧ sd 7 v ∧ h1[r]? = h[r]? ∧ Bg h2 r a p l r' a' p' l' n L M es' bs ∧ es'.length ≤ es.length := by
  have H8 := B.h8
  by_cases ex : ∃ e ∈ es, e.t = t
  · obtain ⟨e, me, rfl⟩ := ex
    have nd := F.nd
    simp only [List.nodup_cons, List.mem_cons, List.not_mem_nil, or_false, not_or, List.nodup_nil, and_true, not_false_eq_true] at nd
    obtain ⟨⟨-, -, rl, rr, ra', rp', rl'⟩, ⟨-, al, ar, aa', ap', al'⟩, ⟨pl, pr, pa', pp', pl'⟩, ⟨lr, la, lp, ll⟩, -⟩ := nd
    have f8 := F.lt
    have he1 := B.h1 e me
    have dd1 := B.d1
    have dd2 := B.d2 e me
    have hh1 := B.h1
    have hh2 := B.h2
    have ddq := B.dq
    have sq := B.dq e me
    have W := B.p1
    have V := B.l1
    have d2' := B.d2
    obtain ⟨A, C, rfl⟩ := List.append_of_mem me
    obtain ⟨xA, xB, -⟩ := nd_split V.ny
    obtain ⟨zA, zB, -⟩ := nd_split W.nx
    obtain ⟨h1, e1, V1, n1, k1⟩ := r_due (k := k + 2) V W.pw (W.js e me) hl hj n7
    have k8 : ∀ b ∈ [r, a, p, r', a', p', l'], h1[b]? = h[b]? := fun b hb => by
      have hb8 : b < 8 := f8 b (by simp at hb ⊢; omega)
      refine k1 b ?_ (by omega)
      simp at hb
      rcases hb with rfl | rfl | rfl | rfl | rfl | rfl | rfl
      · exact rl
      · exact al
      · exact pl
      · exact Ne.symm lr
      · exact Ne.symm la
      · exact Ne.symm lp
      · exact Ne.symm ll
    have hl8 := f8 l (by simp)
    have W1 : RP h1 r a p n L (A ++ e :: C) := W.keep (k8 r (by simp)) (k8 a (by simp)) (k8 p (by simp)) fun z hz => k1 _ (by have := hh1 z hz; omega) (dd1 z hz e me)
    obtain ⟨h2, e2, W2, n2, k2⟩ := r_note (k := k) W1 hj n7
    have r8 := f8 r (by simp)
    have a8 := f8 a (by simp)
    have p8 := f8 p (by simp)
    have k28 : ∀ b ∈ [l, r', a', p', l'], h2[b]? = h1[b]? := fun b hb => by
      have hb8 : b < 8 := f8 b (by simp at hb ⊢; omega)
      have : b ≠ a ∧ b ≠ p := by
        simp at hb
        rcases hb with rfl | rfl | rfl | rfl | rfl
        · exact ⟨Ne.symm al, Ne.symm pl⟩
        · exact ⟨Ne.symm ar, Ne.symm pr⟩
        · exact ⟨Ne.symm aa', Ne.symm pa'⟩
        · exact ⟨Ne.symm ap', Ne.symm pp'⟩
        · exact ⟨Ne.symm al', Ne.symm pl'⟩
      exact k2 b this.1 this.2 (by omega)
    have ky : ∀ z ∈ aft n A (e.app j) C, ∃ z' ∈ A ++ e :: C, z.x = z'.x ∧ z.y = z'.y ∧ z.q = z'.q := fun z hz => by
      rcases aft_mem hz with rfl | hz
      · exact ⟨e, me, rfl, rfl, rfl⟩
      · exact ⟨z, mem_mid hz, rfl, rfl, rfl⟩
    refine ⟨ans n (e.app j), h1, h2, aft n A (e.app j) C, e1, e2, ?_, k8 r (by simp), ⟨W2, V1.keep (k28 l (by simp)) fun z hz => ?_, B.p2.keep ((k28 _ (by simp)).trans (k8 _ (by simp))) ((k28 _ (by simp)).trans (k8 _ (by simp))) ((k28 _ (by simp)).trans (k8 _ (by simp))) (fun f hf => ?_), B.l2.keep ((k28 _ (by simp)).trans (k8 _ (by simp))) (fun f hf => ?_), fun z hz w hw => ?_, fun z hz f hf => ?_, B.d3, fun z hz => ?_, fun f hf => ?_, fun z hz => ?_, by omega⟩, aft_len⟩
    · unfold ans
      split
      · refine ⟨by simp, fun x hx => ?_⟩
        simp at hx
        rcases hx with rfl | rfl | rfl
        · exact trivial
        · exact trivial
        · exact sq
      · exact trivial
    · obtain ⟨z', hz', q1, q2, q3⟩ := ky z hz
      have := hh1 z' hz'
      rw [q2]
      exact k2 _ (by omega) (by omega) (Ne.symm (dd1 e me z' hz'))
    · have := hh2 f hf; have d := dd2 f hf
      rw [k2 _ (by omega) (by omega) (Ne.symm d.1), k1 _ (by omega) (Ne.symm d.2.2.1)]
    · have := hh2 f hf; have d := dd2 f hf
      rw [k2 _ (by omega) (by omega) (Ne.symm d.2.1), k1 _ (by omega) (Ne.symm d.2.2.2)]
    · obtain ⟨z', hz', q1, q2, q3⟩ := ky z hz
      obtain ⟨w', hw', s1, s2, s3⟩ := ky w hw
      rw [q1, s2]; exact dd1 z' hz' w' hw'
    · obtain ⟨z', hz', q1, q2, q3⟩ := ky z hz
      rw [q1, q2]; exact d2' z' hz' f hf
    · obtain ⟨z', hz', q1, q2, q3⟩ := ky z hz
      rw [q1, q2, n2, n1]; exact hh1 z' hz'
    · rw [n2, n1]; exact hh2 f hf
    · obtain ⟨z', hz', q1, q2, q3⟩ := ky z hz
      rw [q3]; exact ddq z' hz'
  · have ne : ∀ e ∈ es, e.t ≠ t := fun e he q => ex ⟨e, he, q⟩
    exact ⟨.non, h, h, es, r_dueN (k := k + 2) B.l1 ne hl, r_noteN (k := k + 2) B.p1 ne, trivial, rfl, B, Nat.le_refl _⟩
end
theorem fx1 : Fx 0 1 2 6 3 4 5 7 := ⟨by decide, by decide⟩
theorem fx2 : Fx 3 4 5 7 0 1 2 6 := ⟨by decide, by decide⟩
theorem plain (ns : List Int) (hn : ns.length ≤ 63) : ∃ h, run P 40 248 [.kls (ns.map .int)] [] = .ok (.v (.bl true)) h := by
  rw [e_law (k := 38)]
  obtain ⟨ds, hd, dl, es⟩ := r_stream (k := 37) (ns := ns) (m := 84) (h := []) hn
  have D : ∀ i, isDr (dr ds i) := fun i => dr_is hd i
  have cd := fun (i : Int) (hi : 0 ≤ i) (h : Mem) => c_draw (k := 37) (h := h) (ds := ds) (i := i) hi
  obtain ⟨N, hN⟩ : ∃ N, 1 + dr ds 0 % 7 = N := ⟨_, rfl⟩
  have N0 : 1 ≤ N ∧ N ≤ 7 := by omega
  have bg : big (min 40 ((ds.length : Int) / 2)) = true := big_of (by omega) (by omega)
  have m1 := mk_rd (k := 36) (h := []) (n := N)
  have m2 := mk_rd (k := 36) (h := [rdO N 0 1 2, .con (.dik []), .con (.dik [])]) (n := N)
  simp only [List.length_nil, Nat.zero_add, List.nil_append] at m1
  simp only [List.length_cons, List.length_nil, List.cons_append, List.nil_append, Nat.reduceAdd] at m2
  have B0 : Bg [rdO N 0 1 2, .con (.dik []), .con (.dik []), rdO N 0 4 5, .con (.dik []), .con (.dik []), .con (.lst []), .con (.lst [])] 0 1 2 6 3 4 5 7 N 0 0 [] [] :=
    ⟨⟨rfl, rfl, rfl, by simp, by simp, by simp, by simp, by simp, by simp⟩, ⟨rfl, by simp, by simp, by simp⟩, ⟨rfl, rfl, rfl, by simp, by simp, by simp, by simp, by simp, by simp⟩, ⟨rfl, by simp, by simp, by simp⟩, by simp, by simp, by simp, by simp, by simp, by simp, by simp⟩
  show ∃ h, (s_law (run P 39) (run P 38) _ _).fin = _
  simp only [evz, PyI.cmpB, PyI.cmpS, PyI.isiS, PyI.isiV, PyI.sm, PyI.xTup, PyI.xLst, Nat.reduceAdd, Nat.reduceLT, Nat.reduceLeDiff, Nat.reduceBEq, Nat.reduceMul, Nat.reducePow, Int.reduceAdd, Int.reduceSub, Int.reduceMul, Int.reducePow, Int.reduceNeg, Int.reduceLT, Int.reduceLE, Int.reduceEq, Int.reduceToNat, reduceIte, s_law, es, cd 0 (by omega), hN, m1, m2, PyI.new, List.length_cons, List.length_nil, List.cons_append, List.nil_append, List.length_map, bg]
  refine loop_fin (Q := fun r => ∃ h, r = .ok (.v (.bl true)) h) (fun i (s : Val × Val) (h : Mem) => ∃ L M es bs, s = (.int L, .int M) ∧ Bg h 0 1 2 6 3 4 5 7 N L M es bs ∧ (∀ e ∈ bs, sd 6 e.q) ∧ es.length ≤ i ∧ bs.length ≤ i) ⟨0, 0, [], [], rfl, B0, by simp, by simp, by simp⟩ ?_ ?_
  · rintro i x s h hx ⟨L, M, es, bs, rfl, B, Bq, le, lb⟩
    obtain ⟨hi, rfl⟩ := rng_get.mp hx
    have hi : i < 40 := by omega
    obtain ⟨X, hX⟩ : ∃ X, dr ds (1 + 2 * (0 + (i : Int))) = X := ⟨_, rfl⟩
    obtain ⟨Y, hY⟩ : ∃ Y, dr ds (2 + 2 * (0 + (i : Int))) = Y := ⟨_, rfl⟩
    have Dx := D (1 + 2 * (0 + (i : Int)))
    have Dy := D (2 + 2 * (0 + (i : Int)))
    rw [hX] at Dx
    rw [hY] at Dy
    unfold isDr at Dx Dy
    have cx := cd (1 + 2 * (0 + (i : Int))) (by omega)
    have cy := cd (2 + 2 * (0 + (i : Int))) (by omega)
    rw [hX] at cx
    rw [hY] at cy
    have L0 := B.p1.tt.1
    -- what follows the step
    have tl : ∀ {h' : Mem} {L' M' : Int} {es' bs' : List En}, Bg h' 0 1 2 6 3 4 5 7 N L' M' es' bs' → es'.length < 1000 → bs'.length < 1000 → ∃ o1 o2,
        metF' P (run P 39) 94 (.ref 0) h' (fun h => .ok [] h) = .ok (.lst (unA N es')) h' ∧ run P 39 246 [.ref 6, .int N] (h' ++ [.con (.lst (unA N es'))]) = .ok (.f (unA N es')) (h' ++ [.con (.lst (unA N es'))]) ∧
        calS (run P 39) 124 [.ref h'.length, .lst (unA N es')] (h' ++ [.con (.lst (unA N es'))]) = .ok (.bl true) (h' ++ [.con (.lst (unA N es'))]) ∧
        metS P (run P 39) 7 .append (.ref h'.length) (h' ++ [.con (.lst (unA N es'))]) (fun h => .ok [.tup [.int 0, .int 0]] h) = .ok .non (h' ++ [o1]) ∧
        metF' P (run P 39) 94 (.ref 0) (h' ++ [o1]) (fun h => .ok [] h) = .ok (.lst (unA N es')) (h' ++ [o1]) ∧ run P 39 246 [.ref 6, .int N] (h' ++ [o1] ++ [.con (.lst (unA N es'))]) = .ok (.f (unA N es')) (h' ++ [o1] ++ [.con (.lst (unA N es'))]) ∧
        calS (run P 39) 124 [.ref (h' ++ [o1]).length, .lst (unA N es')] (h' ++ [o1] ++ [.con (.lst (unA N es'))]) = .ok (.bl true) (h' ++ [o1] ++ [.con (.lst (unA N es'))]) ∧
        metS P (run P 39) 7 .append (.ref (h' ++ [o1]).length) (h' ++ [o1] ++ [.con (.lst (unA N es'))]) (fun h => .ok [.tup [.int 0, .int 0]] h) = .ok .non (h' ++ [o1] ++ [o2]) ∧
        metF' P (run P 39) 94 (.ref 0) (h' ++ [o1] ++ [o2]) (fun h => .ok [] h) = .ok (.lst (unA N es')) (h' ++ [o1] ++ [o2]) ∧ run P 39 246 [.ref 6, .int N] (h' ++ [o1] ++ [o2]) = .ok (.f (unA N es')) (h' ++ [o1] ++ [o2]) ∧ calS (run P 39) 124 [.lst (unA N es'), .lst (unA N es')] (h' ++ [o1] ++ [o2]) = .ok (.bl true) (h' ++ [o1] ++ [o2]) ∧
        metF' P (run P 39) 94 (.ref 3) (h' ++ [o1] ++ [o2]) (fun h => .ok [] h) = .ok (.lst (unA N bs')) (h' ++ [o1] ++ [o2]) ∧ run P 39 246 [.ref 7, .int N] (h' ++ [o1] ++ [o2]) = .ok (.f (unA N bs')) (h' ++ [o1] ++ [o2]) ∧ calS (run P 39) 124 [.lst (unA N bs'), .lst (unA N bs')] (h' ++ [o1] ++ [o2]) = .ok (.bl true) (h' ++ [o1] ++ [o2]) ∧
        Bg (h' ++ [o1] ++ [o2]) 0 1 2 6 3 4 5 7 N L' M' es' bs' := fun {h' L' M' es' bs'} B le lb => by
      have uF : ∀ {h : Mem} {r a p : Nat} {L : Int} {es : List En}, RP h r a p N L es → es.length < 1000 → metF' P (run P 39) 94 (.ref r) h (fun h => .ok [] h) = .ok (.lst (unA N es)) h := fun W l => by
        rw [metF_ref (g := 252) W.wr rfl rfl rfl, r_un (k := 37) W (by omega) N0.2 l]; rfl
      have ap : ∀ (h : Mem) (xs : List Val), xs.length < szl → metS P (run P 39) 7 .append (.ref h.length) (h ++ [.con (.lst xs)]) (fun h => .ok [.tup [.int 0, .int 0]] h) = .ok .non (h ++ [.con (.lst (xs ++ [.tup [.int 0, .int 0]]))]) := fun h xs l => by
        rw [app_ref (xs := xs) (by simp) rfl l]
        congr 1
        simp
      have sz : (unA N es').length < szl := by rw [szlQ]; have := un_len (es := es') N0.2; omega
      have sR : ∀ h : Mem, calS (run P 39) 124 [.ref h.length, .lst (unA N es')] (h ++ [.con (.lst (unA N es'))]) = .ok (.bl true) (h ++ [.con (.lst (unA N es'))]) := fun h => calS_ok (r_sameR (k := 33) (n := 2) (by simp) (un_sd N0.2 le))
      have sT : ∀ (h : Mem) (es : List En), es.length < 1000 → calS (run P 39) 124 [.lst (unA N es), .lst (unA N es)] h = .ok (.bl true) h := fun h es l => calS_ok (r_sameT 3 _ 34 h (un_sd N0.2 l))
      have B1 := fun o => B.app fx1 [o]
      have B2 := fun o o' => (B1 o).app fx1 [o']
      exact ⟨_, _, uF B.p1 le, r_lun (k := 37) (B1 _).l1 (by omega) N0.2 le, sR _, ap _ _ sz, uF (B1 _).p1 le, r_lun (k := 37) (B2 _ _).l1 (by omega) N0.2 le, sR _, ap _ _ sz, uF (B2 _ _).p1 le, r_lun (k := 37) (B2 _ _).l1 (by omega) N0.2 le, sT _ _ le, uF (B2 _ _).p2 lb, r_lun (k := 37) (B2 _ _).l2 (by omega) N0.2 lb, sT _ _ lb, B2 _ _⟩
    have add_l : ∀ (xs ys : List Val) (h : Mem), xs.length + ys.length < 16777216 → addL (.lst xs) (.lst ys) h = some (.lst (xs ++ ys)) := fun xs ys h l => by
      show (if xs.length + ys.length ≤ szl then some (Con.lst (xs ++ ys)) else none) = _
      rw [if_pos (by rw [szlQ]; omega)]
    by_cases ck : X % 4 = 3 ∨ L = 0
    · have cnd : (if X % 4 = 3 then Res.ok true h else Res.ok (decide (L = 0)) h : Res Bool) = Res.ok true h := by rcases ck with c | c <;> simp [c]
      obtain ⟨q, sq, eq⟩ := r_query (k := 37) (h := h) (d := Y) Dy.1
      obtain ⟨h1, h3, e1, a1, B1⟩ := ask_step (k := 37) (c := X / 4 % 4) (i := 1 + X / 16 % 5) B fx1 sq (by omega)
      have m1 : metS P (run P 39) 32 .none (.ref 0) h (fun h => .ok [.int (X / 4 % 4), .int (1 + X / 16 % 5), q] h) = .ok (.int (L + 1)) h1 := by
        rw [met_rd (gg := 250) B.p1.wr rfl (by decide) rfl, calS_ok e1]; rfl
      have s1 := fun (i : Int) (h : Mem) => calS_ok (r_sameT 1 (.int i) 36 h trivial)
      have en : ∃ es2 : List En, es2 = es ++ [⟨L + 1, X / 4 % 4, 1 + X / 16 % 5, q, [], h.length, h.length + 1⟩] := ⟨_, rfl⟩
      obtain ⟨es2, hes⟩ := en
      rw [← hes] at B1
      have l2 : es2.length ≤ i + 1 := by rw [hes]; simp; omega
      by_cases c3 : (L + 1) % 3 = 1
      · obtain ⟨h4, h5, e4, a4, B4⟩ := ask_step (k := 37) (c := 1 + X / 16 % 5) (i := 1 + X / 4 % 4) (B1.sw Bq) fx2 sq (by omega)
        have m4 : metS P (run P 39) 32 .none (.ref 3) h3 (fun h => .ok [.int (1 + X / 16 % 5), .int (1 + X / 4 % 4), q] h) = .ok (.int (M + 1)) h4 := by
          rw [met_rd (gg := 250) B1.p2.wr rfl (by decide) rfl, calS_ok e4]; rfl
        obtain ⟨bs2, hbs⟩ : ∃ bs2 : List En, bs2 = bs ++ [⟨M + 1, 1 + X / 16 % 5, 1 + X / 4 % 4, q, [], h3.length, h3.length + 1⟩] := ⟨_, rfl⟩
        rw [← hbs] at B4
        have l3 : bs2.length ≤ i + 1 := by rw [hbs]; simp; omega
        have B5 := B4.sw B1.dq
        obtain ⟨o1, o2, t1, t2, t3, t4, t5, t6, t7, t8, t9, t10, t11, t12, t13, t14, B6⟩ := tl B5 (by omega) (by omega)
        refine ⟨_, _, .inl ?_, L + 1, M + 1, es2, bs2, rfl, B6, B4.dq, l2, l3⟩
        simp only [evz, PyI.cmpB, PyI.cmpS, PyI.isiS, PyI.isiV, PyI.sm, PyI.xTup, PyI.xLst, Nat.reduceAdd, Nat.reduceLT, Nat.reduceLeDiff, Nat.reduceBEq, Nat.reduceMul, Nat.reducePow, Int.reduceAdd, Int.reduceSub, Int.reduceMul, Int.reducePow, Int.reduceNeg, Int.reduceLT, Int.reduceLE, Int.reduceEq, Int.reduceToNat, reduceIte, hN, cx, cy, cnd, calS_ok eq, m1, s1, a1, add_l, PyI.new, List.cons_append, List.nil_append, c3, m4, a4, t1, t2, t3, t4, t5, t6, t7, t8, t9, t10, t11, t12, t13, t14]
      · obtain ⟨o1, o2, t1, t2, t3, t4, t5, t6, t7, t8, t9, t10, t11, t12, t13, t14, B2⟩ := tl B1 (by omega) (by omega)
        refine ⟨_, _, .inl ?_, L + 1, M, es2, bs, rfl, B2, Bq, l2, by omega⟩
        simp only [evz, PyI.cmpB, PyI.cmpS, PyI.isiS, PyI.isiV, PyI.sm, PyI.xTup, PyI.xLst, Nat.reduceAdd, Nat.reduceLT, Nat.reduceLeDiff, Nat.reduceBEq, Nat.reduceMul, Nat.reducePow, Int.reduceAdd, Int.reduceSub, Int.reduceMul, Int.reducePow, Int.reduceNeg, Int.reduceLT, Int.reduceLE, Int.reduceEq, Int.reduceToNat, reduceIte, hN, cx, cy, cnd, calS_ok eq, m1, s1, a1, add_l, PyI.new, List.cons_append, List.nil_append, c3, t1, t2, t3, t4, t5, t6, t7, t8, t9, t10, t11, t12, t13, t14]
    · have np : (0 : Int) < N := by omega
      have n3 : (0 : Int) < L + 3 := by omega
      have J0 : 0 ≤ Y % N ∧ Y % N < N := ⟨Int.emod_nonneg _ (by omega), Int.emod_lt_of_pos _ np⟩
      have nt : ∀ t : Int, ∃ v h1 h2 es', calS (run P 39) 247 [.ref 6, .int N, .int t, .int (Y % N)] h = .ok v h1 ∧ metS P (run P 39) 52 .none (.ref 0) h1 (fun h => .ok [.int t, .int (Y % N)] h) = .ok v h2 ∧ calS (run P 39) 124 [v, v] h2 = .ok (.bl true) h2 ∧ Bg h2 0 1 2 6 3 4 5 7 N L M es' bs ∧ es'.length ≤ es.length := fun t => by
        obtain ⟨v, h1, h2, es', e1, e2, sv, kr, B', l'⟩ := note_step (k := 35) (t := t) B fx1 (by omega) J0 N0.2
        refine ⟨v, h1, h2, es', calS_ok e1, ?_, calS_ok (r_sameT 7 v 30 h2 sv), B', l'⟩
        rw [met_rd (gg := 251) (kr.trans B.p1.wr) rfl (by decide) rfl, calS_ok e2]; rfl
      have cnd : (if X % 4 = 3 then Res.ok true h else Res.ok (decide (L = 0)) h : Res Bool) = Res.ok false h := by
        have c1 : ¬ X % 4 = 3 := fun c => ck (.inl c)
        have c2 : ¬ L = 0 := fun c => ck (.inr c)
        simp [c1, c2]
      have ln := len_ref B.l1.wl
      rw [List.length_map] at ln
      by_cases c7 : Y / 7 % 2 = 1
      · by_cases c8 : (0 : Int) < es.length
        · obtain ⟨e, he⟩ : ∃ e, es[(X / 4 % (es.length : Int)).toNat]? = some e := ⟨_, List.getElem?_eq_getElem (by have := Int.emod_lt_of_pos (X / 4) c8; have := Int.emod_nonneg (X / 4) (show (es.length : Int) ≠ 0 by omega); omega)⟩
          have ie : ixV (.ref 6) (.int (X / 4 % (es.length : Int))) h = .ok (lE e) h := by
            rw [ix_ref B.l1.wl, nth_at (Int.emod_nonneg _ (by omega)), List.getElem?_map, he]; rfl
          obtain ⟨v, h1, h2, es', q1, q2, q3, B', l'⟩ := nt e.t
          obtain ⟨o1, o2, t1, t2, t3, t4, t5, t6, t7, t8, t9, t10, t11, t12, t13, t14, B2⟩ := tl B' (by omega) (by omega)
          refine ⟨_, _, .inl ?_, L, M, es', bs, rfl, B2, Bq, by omega, by omega⟩
          simp only [evz, PyI.cmpB, PyI.cmpS, PyI.isiS, PyI.isiV, PyI.sm, PyI.xTup, PyI.xLst, Nat.reduceAdd, Nat.reduceLT, Nat.reduceLeDiff, Nat.reduceBEq, Nat.reduceMul, Nat.reducePow, Int.reduceAdd, Int.reduceSub, Int.reduceMul, Int.reducePow, Int.reduceNeg, Int.reduceLT, Int.reduceLE, Int.reduceEq, Int.reduceToNat, reduceIte, hN, cx, cy, cnd, np, n3, ln, c7, c8, ie, lE_ix.1, q1, q2, q3, PyI.new, t1, t2, t3, t4, t5, t6, t7, t8, t9, t10, t11, t12, t13, t14]
        · obtain ⟨v, h1, h2, es', q1, q2, q3, B', l'⟩ := nt (X / 4 % (L + 3))
          obtain ⟨o1, o2, t1, t2, t3, t4, t5, t6, t7, t8, t9, t10, t11, t12, t13, t14, B2⟩ := tl B' (by omega) (by omega)
          refine ⟨_, _, .inl ?_, L, M, es', bs, rfl, B2, Bq, by omega, by omega⟩
          simp only [evz, PyI.cmpB, PyI.cmpS, PyI.isiS, PyI.isiV, PyI.sm, PyI.xTup, PyI.xLst, Nat.reduceAdd, Nat.reduceLT, Nat.reduceLeDiff, Nat.reduceBEq, Nat.reduceMul, Nat.reducePow, Int.reduceAdd, Int.reduceSub, Int.reduceMul, Int.reducePow, Int.reduceNeg, Int.reduceLT, Int.reduceLE, Int.reduceEq, Int.reduceToNat, reduceIte, hN, cx, cy, cnd, np, n3, ln, c7, c8, q1, q2, q3, PyI.new, t1, t2, t3, t4, t5, t6, t7, t8, t9, t10, t11, t12, t13, t14]
      · obtain ⟨v, h1, h2, es', q1, q2, q3, B', l'⟩ := nt (X / 4 % (L + 3))
        obtain ⟨o1, o2, t1, t2, t3, t4, t5, t6, t7, t8, t9, t10, t11, t12, t13, t14, B2⟩ := tl B' (by omega) (by omega)
        refine ⟨_, _, .inl ?_, L, M, es', bs, rfl, B2, Bq, by omega, by omega⟩
        simp only [evz, PyI.cmpB, PyI.cmpS, PyI.isiS, PyI.isiV, PyI.sm, PyI.xTup, PyI.xLst, Nat.reduceAdd, Nat.reduceLT, Nat.reduceLeDiff, Nat.reduceBEq, Nat.reduceMul, Nat.reducePow, Int.reduceAdd, Int.reduceSub, Int.reduceMul, Int.reducePow, Int.reduceNeg, Int.reduceLT, Int.reduceLE, Int.reduceEq, Int.reduceToNat, reduceIte, hN, cx, cy, cnd, np, n3, ln, c7, q1, q2, q3, PyI.new, t1, t2, t3, t4, t5, t6, t7, t8, t9, t10, t11, t12, t13, t14]
  · rintro s h ⟨L, M, es, bs, rfl, B, Bq, le, lb⟩
    have sm := calS_ok (r_sameT 2 (.lst [.int N, .int N]) 35 h ⟨by simp, by simp [sd]⟩)
    simp only [evz, PyI.cmpB, PyI.cmpS, PyI.isiS, PyI.isiV, PyI.sm, PyI.xTup, PyI.xLst, Nat.reduceAdd, Nat.reduceLT, Nat.reduceLeDiff, Nat.reduceBEq, Nat.reduceMul, Nat.reducePow, Int.reduceAdd, Int.reduceSub, Int.reduceMul, Int.reducePow, Int.reduceNeg, Int.reduceLT, Int.reduceLE, Int.reduceEq, Int.reduceToNat, reduceIte, rd49 B.p1.wr, rd49 B.p2.wr, sm]
    exact ⟨_, rfl⟩
end PyLaw
open PySem PySem.W PyProof.Rows
set_option maxRecDepth 1000000 in
set_option maxHeartbeats 0 in
theorem PySem.Challenge.cw_appendhall_k51_reads_close_by_majority_holds : PySem.Challenge.rw_appendhall_k51_reads_close_by_majority.Holds := by
  refine k_top ?_
  k_fill
  refine PyI.walk_py (l := PySem.Challenge.rw_appendhall_k51_reads_close_by_majority) (n := 63) (k := 40) (i := 248) (P := PyLaw.P) (x := "_law_script") rfl (by decide) rfl ⟨rfl, by decide, by decide⟩ (fun w h Y => PySem.W.kIn_of Y) rfl PyLaw.plain ?F
  case F =>
    intro w mg fa h KX GG hmg
    refine' PyLaw.all_mk (l := PySem.Challenge.rw_appendhall_k51_reads_close_by_majority) (w := w) KX GG hmg ?a0 ?a1 ?a2 ?a3 ?a4 ?a5 ?a6 ?a7 ?a8 ?aC0 ?a9 ?i9 ?a10 ?i10 ?a11 ?i11 ?a12 ?i12 ?l0 ?c0 ?k0 ?l1 ?c1 ?k1 ?l2 ?c2 ?k2 ?l3 ?c3 ?k3 ?l4 ?c4 ?k4 ?l5 ?c5 ?k5 ?l6 ?c6 ?k6 ?l7 ?c7 ?k7 ?l8 ?c8 ?k8 ?l9 ?c9 ?k9 ?l10 ?c10 ?k10 ?l11 ?c11 ?k11 ?l12 ?c12 ?k12 ?pgC0 ?hdC0 ?poC0 ?saC0 ?mkC0 ?kcC0 ?nf0_49 ?nf0_95 ?nf0_96 ?nf0_97 ?z0 ?z1 ?z2 ?z3 ?z4 ?z5 ?z6 ?z7 ?z8 ?z9 ?z10
    (case a0 => k_is)
    (case a1 => k_is)
    (case a2 => k_is)
    (case a3 => k_is)
    (case a4 => k_is)
    (case a5 => k_is)
    (case a6 => k_is)
    (case a7 => k_is)
    (case a8 => k_is)
    (case aC0 => k_is)
    (case a9 => k_is)
    (case i9 => k_is)
    (case a10 => k_is)
    (case i10 => k_is)
    (case a11 => k_is)
    (case i11 => k_is)
    (case a12 => k_is)
    (case i12 => k_is)
    (case l0 => k_is)
    (case c0 => k_is)
    (case k0 => k_is)
    (case l1 => k_is)
    (case c1 => k_is)
    (case k1 => k_is)
    (case l2 => k_is)
    (case c2 => k_is)
    (case k2 => k_is)
    (case l3 => k_is)
    (case c3 => k_is)
    (case k3 => k_is)
    (case l4 => k_is)
    (case c4 => k_is)
    (case k4 => k_is)
    (case l5 => k_is)
    (case c5 => k_is)
    (case k5 => k_is)
    (case l6 => k_is)
    (case c6 => k_is)
    (case k6 => k_is)
    (case l7 => k_is)
    (case c7 => k_is)
    (case k7 => k_is)
    (case l8 => k_is)
    (case c8 => k_is)
    (case k8 => k_is)
    (case l9 => k_is)
    (case c9 => k_is)
    (case k9 => k_is)
    (case l10 => k_is)
    (case c10 => k_is)
    (case k10 => k_is)
    (case l11 => k_is)
    (case c11 => k_is)
    (case k11 => k_is)
    (case l12 => k_is)
    (case c12 => k_is)
    (case k12 => k_is)
    (case pgC0 => k_is)
    (case hdC0 => k_is)
    (case poC0 => k_is)
    (case saC0 => k_is)
    (case mkC0 => k_is)
    (case kcC0 => k_is)
    (case nf0_49 => k_is)
    (case nf0_95 => k_is)
    (case nf0_96 => k_is)
    (case nf0_97 => k_is)
    (case z0 => k_is)
    (case z1 => k_is)
    (case z2 => k_is)
    (case z3 => k_is)
    (case z4 => k_is)
    (case z5 => k_is)
    (case z6 => k_is)
    (case z7 => k_is)
    (case z8 => k_is)
    (case z9 => k_is)
    (case z10 => k_is)
