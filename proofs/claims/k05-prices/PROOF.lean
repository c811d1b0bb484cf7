import PyProof.Rows.All
import Wide.All
import OpenK.AllK
import Wide.FinOn
import HandS.ForMost
import HandS.ForExc
import HandS.Walk
import HandS.Style
import HandS.IsInst
import HandS.SortInts
import HandS.SortRule
import HandS.Wide
import HandS.Conv
import HandS.EndBits
import HandS.HeadHook2
import HandS.HeadEnd
import HandS.ExcOwn
import HandS.Codes
import HandS.Head0
import HandS.Head1
import HandS.Head2
import PySem.Challenge.RW_mixtables_k05_whole_prices
import KE.KStateDown
set_option Elab.async false
set_option linter.all false
set_option maxRecDepth 100000
set_option maxHeartbeats 0
/-! # Mx1: plain data, a small language over it, and what it means. -/
namespace Mx
open PySem L2
/-- plain data -/
inductive W where
  | non | bl (b : Bool) | int (i : Int) | str (x : Str)
  | tup (xs : List W) | lst (xs : List W)
  | ins (c : Nat) (xs : List W)
  | dic (kvs : List (List Int × Int))
  | fn (f : Nat)
  | scr (ns : List Int)
/-- what an evaluation comes to -/
inductive O where
  | val (w : W) | exc (c : Nat) | bad
def O.bind (o : O) (f : W → O) : O := match o with | .val w => f w | .exc c => .exc c | .bad => .bad
inductive Os where
  | vals (ws : List W) | exc (c : Nat) | bad
def Os.bind (o : Os) (f : List W → O) : O := match o with | .vals w => f w | .exc c => .exc c | .bad => .bad
/-- operations on values -/
inductive Op where
  | add | sub | mul | fdiv | mod | pow | neg
  | eq | ne | lt | le | gt | ge | geL | isin | notin | isN | notN | isB | notB
  | len | sum | abs | min1 | max1 | min2 | max2 | all1 | any1 | int1 | isi (t : Nat) | index
  | fld (c : Nat) | isc (ts : List (Nat × Bool))
  | ix | cat (fl : Bool) | rep (fl : Bool) | slcA (fl : Bool) | slcB (fl : Bool) | slcAB (fl : Bool) | rev (fl : Bool) | sorted | sortedP | list (fl : Bool) | tuple | rngL | rng3
  deriving DecidableEq
/-- the modes: a view; new, owned to a depth (none: all the way down; some 0: shared, never to be changed); flat -/
inductive Md where
  | vw | fr (k : Option Nat) | flat
  deriving DecidableEq
abbrev Md.cl : Md := .fr (some 0)
mutual
inductive E where
  | var (i : Nat) | cst (w : W) | gci (k : Nat)
  | op (o : Op) (es : List E)
  | tup (es : List E) | lst (es : List E)
  | call (f : Nat) (es : List E)
  | and (es : List E) | or (es : List E) | not (e : E) | ifx (c a b : E)
  | chain (o1 o2 : Op) (a b c : E)
  | chain3 (o1 o2 o3 : Op) (a b c d : E)
  | comp (elt : E) (tg : Tg) (it : It) (cond : Option E) (vs : List Nat)
  | flat (e : E)
inductive It where
  | lst (e : E) | rng1 (a : E) | rng2 (a b : E) | zip (a b : E) | enum (a : E)
inductive Tg where
  | nm (i : Nat) | tp (is : List Nat)
end
/-! ## flat, equality -/
mutual
def W.isFlat : W → Bool
  | .non | .bl _ | .int _ | .str _ | .fn _ | .scr _ => true
  | .tup xs => W.isFlats xs
  | .lst _ | .ins _ _ | .dic _ => false
def W.isFlats : List W → Bool
  | [] => true
  | x :: xs => W.isFlat x && W.isFlats xs
end
mutual
def W.py : W → Option PyData
  | .non => some .none | .bl b => some (.bool b) | .int i => some (.int i) | .str x => some (.str x)
  | .tup xs => (W.pys xs).map .tuple | .lst xs => (W.pys xs).map .list
  | .scr ns => some (.list (ns.map .int))
  | .ins _ _ | .dic _ | .fn _ => none
def W.pys : List W → Option (List PyData)
  | [] => some []
  | x :: xs => match W.py x, W.pys xs with | some d, some ds => some (d :: ds) | _, _ => none
end
def W.isNon : W → Bool
  | .non => true
  | _ => false
def LIM : Nat := 100000
def eqW (a b : W) : O := match a.py, b.py with
  | some d, some e => if SeqAt.shaped d && SeqAt.shaped e then .val (.bl (PyData.eqv d e)) else .bad
  | _, _ => .bad
def neW (a b : W) : O := match a.py, b.py with
  | some d, some e => if SeqAt.shaped d && SeqAt.shaped e then .val (.bl (!PyData.eqv d e)) else .bad
  | _, _ => .bad
def mulOk (a b : Int) : Bool := decide (a.natAbs.log2 + b.natAbs.log2 < 100000000)
def divOk (b : Int) : Bool := decide (0 < b) && decide (b.natAbs.log2 < 9000)
def powOk (a b : Int) : Bool := decide (0 ≤ b) && decide (b ≤ 1000000) && decide (a.natAbs < 2 ^ 64)
/-- a list's ints, bools -/
def W.ints : List W → Option (List Int)
  | [] => some []
  | .int i :: xs => (W.ints xs).map (i :: ·)
  | _ :: _ => none
def W.bls : List W → Option (List Bool)
  | [] => some []
  | .bl i :: xs => (W.bls xs).map (i :: ·)
  | _ :: _ => none
def W.ipairs : List W → Option (List (Int × Int))
  | [] => some []
  | .tup [.int i, .int j] :: xs => (W.ipairs xs).map ((i, j) :: ·)
  | _ :: _ => none
def insI (x : Int) : List Int → List Int
  | [] => [x]
  | y :: ys => if x ≤ y then x :: y :: ys else y :: insI x ys
def sortI : List Int → List Int
  | [] => []
  | x :: xs => insI x (sortI xs)
def pairLe (a b : Int × Int) : Bool := decide (a.1 < b.1) || (decide (a.1 = b.1) && decide (a.2 ≤ b.2))
def insP (x : Int × Int) : List (Int × Int) → List (Int × Int)
  | [] => [x]
  | y :: ys => if pairLe x y then x :: y :: ys else y :: insP x ys
def sortP : List (Int × Int) → List (Int × Int)
  | [] => []
  | x :: xs => insP x (sortP xs)
def prW (p : Int × Int) : W := .tup [.int p.1, .int p.2]
def W.prs : List W → Option (List (Int × Int))
  | [] => some []
  | .tup [.int i, .int j] :: xs => (W.prs xs).map ((i, j) :: ·)
  | _ :: _ => none
/-- the first place of a number -/
def indexI (a : Int) : List Int → Option Nat
  | [] => none
  | x :: xs => if x = a then some 0 else (indexI a xs).map (· + 1)
def maxI : List Int → Option Int
  | [] => none
  | x :: xs => some (xs.foldl (fun a b => if b > a then b else a) x)
def minI : List Int → Option Int
  | [] => none
  | x :: xs => some (xs.foldl (fun a b => if b < a then b else a) x)
/-- slices -/
def cutW (xs : List W) (lo hi : Option Int) : List W := (xs.drop (HT.sIx xs.length 0 lo)).take (HT.sIx xs.length xs.length hi - HT.sIx xs.length 0 lo)
def flIf (fl : Bool) (ws : List W) (o : O) : O := if fl then (if W.isFlats ws then o else .bad) else o
/-- the built-in types asked of isinstance -/
def isiT (t : Nat) (w : W) : O := if 4 ≤ t then .bad else match w with
  | .non => .val (.bl false) | .bl _ => .val (.bl (decide (t ≤ 1))) | .int _ => .val (.bl (decide (t = 0))) | .str _ => .val (.bl false)
  | .lst _ => .val (.bl (decide (t = 2))) | .scr _ => .val (.bl (decide (t = 2))) | .tup _ => .val (.bl (decide (t = 3)))
  | _ => .bad
def addS : List W → O
  | [.int a, .int b] => .val (.int (a + b))
  | _ => .bad
def subS : List W → O
  | [.int a, .int b] => .val (.int (a - b))
  | _ => .bad
def mulS : List W → O
  | [.int a, .int b] => if mulOk a b then .val (.int (a * b)) else .bad
  | _ => .bad
def fdivS : List W → O
  | [.int a, .int b] => if divOk b then .val (.int (a / b)) else .bad
  | _ => .bad
def modS : List W → O
  | [.int a, .int b] => if b = 0 then .bad else .val (.int (a.fmod b))
  | _ => .bad
def powS : List W → O
  | [.int a, .int b] => if powOk a b then .val (.int (a ^ b.toNat)) else .bad
  | _ => .bad
def negS : List W → O
  | [.int a] => .val (.int (-a))
  | _ => .bad
def eqS : List W → O
  | [a, b] => eqW a b
  | _ => .bad
def neS : List W → O
  | [a, b] => neW a b
  | _ => .bad
def ltS : List W → O
  | [.int a, .int b] => .val (.bl (decide (a < b)))
  | _ => .bad
def leS : List W → O
  | [.int a, .int b] => .val (.bl (decide (a ≤ b)))
  | _ => .bad
def gtS : List W → O
  | [.int a, .int b] => .val (.bl (decide (b < a)))
  | _ => .bad
def geS : List W → O
  | [.int a, .int b] => .val (.bl (decide (b ≤ a)))
  | _ => .bad
def isinS : List W → O
  | [.int a, .lst ws] => match W.ints ws with | some ns => .val (.bl (decide (a ∈ ns))) | none => .bad
  | _ => .bad
def notinS : List W → O
  | [.int a, .lst ws] => match W.ints ws with | some ns => .val (.bl (!decide (a ∈ ns))) | none => .bad
  | _ => .bad
def isNS : List W → O
  | [a] => .val (.bl a.isNon)
  | _ => .bad
def notNS : List W → O
  | [a] => .val (.bl (!a.isNon))
  | _ => .bad
def isBS : List W → O
  | [.bl a, .bl b] => .val (.bl (decide (a = b)))
  | _ => .bad
def notBS : List W → O
  | [.bl a, .bl b] => .val (.bl (!decide (a = b)))
  | _ => .bad
def lenS : List W → O
  | [.lst ws] => .val (.int ws.length)
  | [.tup ws] => .val (.int ws.length)
  | [.scr ns] => .val (.int ns.length)
  | _ => .bad
def sumS : List W → O
  | [.lst ws] => match W.ints ws with | some ns => .val (.int ns.sum) | none => .bad
  | _ => .bad
def absS : List W → O
  | [.int a] => .val (.int (if a < 0 then -a else a))
  | _ => .bad
def max1S : List W → O
  | [.lst ws] => match W.ints ws with | some ns => (match maxI ns with | some m => .val (.int m) | none => .bad) | none => .bad
  | _ => .bad
def min1S : List W → O
  | [.lst ws] => match W.ints ws with | some ns => (match minI ns with | some m => .val (.int m) | none => .bad) | none => .bad
  | _ => .bad
def max2S : List W → O
  | [.int i, .int j] => .val (.int (if j > i then j else i))
  | _ => .bad
def min2S : List W → O
  | [.int i, .int j] => .val (.int (if j < i then j else i))
  | _ => .bad
def all1S : List W → O
  | [.lst ws] => match W.bls ws with | some bs => .val (.bl (bs.all id)) | none => .bad
  | _ => .bad
def any1S : List W → O
  | [.lst ws] => match W.bls ws with | some bs => .val (.bl (bs.any id)) | none => .bad
  | _ => .bad
def int1S : List W → O
  | [.int i] => .val (.int i)
  | [.bl k] => .val (.int (if k then 1 else 0))
  | _ => .bad
def isiS (t : Nat) : List W → O
  | [w] => isiT t w
  | _ => .bad
def ixS : List W → O
  | [.lst ws, .int i] => match atI ws i with | some w => .val w | none => .bad
  | [.tup ws, .int i] => match atI ws i with | some w => .val w | none => .bad
  | _ => .bad
/-- the one field of an instance of the class c -/
def fldS (c : Nat) : List W → O
  | [.ins d [u]] => if d = c then .val u else .bad
  | _ => .bad
/-- isinstance, own classes: the answers by the instance's class -/
def iscS (ts : List (Nat × Bool)) : List W → O
  | [.ins d _] => (match ts.lookup d with | some b => .val (.bl b) | none => .bad)
  | _ => .bad
def catS (fl : Bool) : List W → O
  | [.lst xs, .lst ys] => if xs.length + ys.length ≤ LIM then flIf fl (xs ++ ys) (.val (.lst (xs ++ ys))) else .bad
  | _ => .bad
def repS (fl : Bool) : List W → O
  | [.lst xs, .int k] => if xs.length * k.toNat ≤ LIM ∧ -1000000 ≤ k ∧ k ≤ 1000000 then flIf fl xs (.val (.lst (List.replicate k.toNat xs).flatten)) else .bad
  | _ => .bad
def slcAS (fl : Bool) : List W → O
  | [.lst xs, .int i] => flIf fl xs (.val (.lst (cutW xs (some i) none)))
  | _ => .bad
def slcBS (fl : Bool) : List W → O
  | [.lst xs, .int i] => flIf fl xs (.val (.lst (cutW xs none (some i))))
  | [.scr ns, .int i] => .val (.lst (cutW (ns.map .int) none (some i)))
  | _ => .bad
def slcABS (fl : Bool) : List W → O
  | [.lst xs, .int i, .int j] => flIf fl xs (.val (.lst (cutW xs (some i) (some j))))
  | _ => .bad
def revS (fl : Bool) : List W → O
  | [.lst xs] => flIf fl xs (.val (.lst xs.reverse))
  | _ => .bad
def sortedS : List W → O
  | [.lst ws] => match W.ints ws with | some ns => .val (.lst ((sortI ns).map .int)) | none => .bad
  | _ => .bad
def sortedPS : List W → O
  | [.lst ws] => match W.prs ws with | some ns => .val (.lst ((sortP ns).map prW)) | none => .bad
  | _ => .bad
def indexS : List W → O
  | [.lst ws, .int a] => match W.ints ws with | some ns => (match indexI a ns with | some k => .val (.int k) | none => .bad) | none => .bad
  | _ => .bad
def listS (fl : Bool) : List W → O
  | [.lst xs] => flIf fl xs (.val (.lst xs))
  | [.tup xs] => flIf fl xs (.val (.lst xs))
  | _ => .bad
def rngLS : List W → O
  | [.int n] => if n ≤ LIM ∧ -1000000 ≤ n then .val (.lst ((List.range n.toNat).map fun (k : Nat) => .int k)) else .bad
  | _ => .bad
/-- how many stand in range(i, j, c), for c above 0 -/
def rgN (i j c : Int) : Nat := if i < j then ((j - i - 1) / c + 1).toNat else 0
def rng3S : List W → O
  | [.int i, .int j, .int c] => if (0 < c ∧ c ≤ 1000000) ∧ (-1000000 ≤ i ∧ i ≤ 1000000) ∧ (-1000000 ≤ j ∧ j ≤ 1000000) ∧ rgN i j c ≤ LIM then .val (.lst ((List.range (rgN i j c)).map fun (k : Nat) => .int (i + k * c))) else .bad
  | _ => .bad
def opS (o : Op) (ws : List W) : O := match o with
  | .add => addS ws
  | .sub => subS ws
  | .mul => mulS ws
  | .fdiv => fdivS ws
  | .mod => modS ws
  | .pow => powS ws
  | .neg => negS ws
  | .eq => eqS ws
  | .ne => neS ws
  | .lt => ltS ws
  | .le => leS ws
  | .gt => gtS ws
  | .ge => geS ws
  | .geL => .bad
  | .isin => isinS ws
  | .notin => notinS ws
  | .isN => isNS ws
  | .notN => notNS ws
  | .isB => isBS ws
  | .notB => notBS ws
  | .len => lenS ws
  | .sum => sumS ws
  | .abs => absS ws
  | .min1 => min1S ws
  | .max1 => max1S ws
  | .min2 => min2S ws
  | .max2 => max2S ws
  | .all1 => all1S ws
  | .any1 => any1S ws
  | .int1 => int1S ws
  | .isi t => isiS t ws
  | .index => indexS ws
  | .fld c => fldS c ws
  | .isc ts => iscS ts ws
  | .ix => ixS ws
  | .cat fl => catS fl ws
  | .rep fl => repS fl ws
  | .slcA fl => slcAS fl ws
  | .slcB fl => slcBS fl ws
  | .slcAB fl => slcABS fl ws
  | .rev fl => revS fl ws
  | .sorted => sortedS ws
  | .sortedP => sortedPS ws
  | .list fl => listS fl ws
  | .tuple => .bad
  | .rngL => rngLS ws
  | .rng3 => rng3S ws
abbrev Sg := List (Option W)
def Sg.get (σ : Sg) (i : Nat) : O := match σ[i]? with | some (some w) => .val w | _ => .bad
def wipeW (σ : Sg) : List Nat → Sg
  | [] => σ
  | v :: vs => (wipeW σ vs).set v none
def setAll (σ : Sg) : List Nat → List W → Option Sg
  | [], [] => some σ
  | i :: is, w :: ws => setAll (σ.set i (some w)) is ws
  | _, _ => none
def tgS (tg : Tg) (w : W) (σ : Sg) : Option Sg := match tg with
  | .nm i => some (σ.set i (some w))
  | .tp is => match w with | .tup ws => setAll σ is ws | _ => none
/-- a comprehension's turns -/
def compW (f : W → O) (c : W → O) : List W → Option (List W)
  | [] => some []
  | x :: xs => match c x with
    | .val (.bl true) => (match f x with | .val w => (compW f c xs).map (w :: ·) | _ => none)
    | .val (.bl false) => compW f c xs
    | _ => none
def tgB (tg : Tg) (vs : List Nat) (σ : Sg) (k : Sg → O) (x : W) : O := match tgS tg x (wipeW σ vs) with
  | some σ' => k σ'
  | none => .bad
def rngW (a b : Int) : Option (List W) := if b - a ≤ LIM ∧ -1000000000 ≤ a ∧ a ≤ 1000000000 ∧ -1000000000 ≤ b ∧ b ≤ 1000000000 then some ((List.range (b - a).toNat).map fun (k : Nat) => .int (a + k)) else none
def zipW (xs ys : List W) : List W := List.zipWith (fun x y => W.tup [x, y]) xs ys
def enumFrom : Nat → List W → List W
  | _, [] => []
  | k, x :: xs => .tup [.int k, x] :: enumFrom (k + 1) xs
variable (cf : Nat → List W → O) (cs : List Int)
mutual
def ev : E → Sg → O
  | .var i, σ => σ.get i
  | .cst w, _ => .val w
  | .gci k, _ => match cs[k]? with | some i => .val (.int i) | none => .bad
  | .op o es, σ => (evs es σ).bind (opS o)
  | .tup es, σ => (evs es σ).bind fun ws => .val (.tup ws)
  | .lst es, σ => (evs es σ).bind fun ws => .val (.lst ws)
  | .call f es, σ => (evs es σ).bind (cf f)
  | .and es, σ => evAnd es σ
  | .or es, σ => evOr es σ
  | .not e, σ => (ev e σ).bind fun w => match w with | .bl b => .val (.bl (!b)) | _ => .bad
  | .ifx c a b, σ => (ev c σ).bind fun w => match w with | .bl true => ev a σ | .bl false => ev b σ | _ => .bad
  | .chain o1 o2 a b c, σ => (ev a σ).bind fun x => (ev b σ).bind fun y => (opS o1 [x, y]).bind fun k => match k with
    | .bl true => (ev c σ).bind fun z => opS o2 [y, z]
    | .bl false => .val (.bl false)
    | _ => .bad
  | .chain3 o1 o2 o3 a b c d, σ => (ev a σ).bind fun x => (ev b σ).bind fun y => (opS o1 [x, y]).bind fun k => match k with
    | .bl true => (ev c σ).bind fun z => (opS o2 [y, z]).bind fun k2 => match k2 with
      | .bl true => (ev d σ).bind fun u => opS o3 [z, u]
      | .bl false => .val (.bl false)
      | _ => .bad
    | .bl false => .val (.bl false)
    | _ => .bad
  | .comp elt tg it cond vs, σ => match evIt it σ with
    | some items => (match compW (tgB tg vs σ fun σ' => ev elt σ') (tgB tg vs σ fun σ' => evO cond σ') items with
      | some ws => .val (.lst ws) | none => .bad)
    | none => .bad
  | .flat e, σ => (ev e σ).bind fun w => if w.isFlat then .val w else .bad
def evs : List E → Sg → Os
  | [], _ => .vals []
  | e :: es, σ => match ev e σ with
    | .val w => (match evs es σ with | .vals ws => .vals (w :: ws) | .exc c => .exc c | .bad => .bad)
    | .exc c => .exc c
    | .bad => .bad
def evO : Option E → Sg → O
  | none, _ => .val (.bl true)
  | some e, σ => ev e σ
def evAnd : List E → Sg → O
  | [], _ => .bad
  | [e], σ => (ev e σ).bind fun w => match w with | .bl b => .val (.bl b) | _ => .bad
  | e :: es, σ => (ev e σ).bind fun w => match w with | .bl true => evAnd es σ | .bl false => .val (.bl false) | _ => .bad
def evOr : List E → Sg → O
  | [], _ => .bad
  | [e], σ => (ev e σ).bind fun w => match w with | .bl b => .val (.bl b) | _ => .bad
  | e :: es, σ => (ev e σ).bind fun w => match w with | .bl false => evOr es σ | .bl true => .val (.bl true) | _ => .bad
def evIt : It → Sg → Option (List W)
  | .lst e, σ => match ev e σ with | .val (.lst ws) => some ws | _ => none
  | .rng1 a, σ => match ev a σ with | .val (.int n) => rngW 0 n | _ => none
  | .rng2 a b, σ => match ev a σ, ev b σ with | .val (.int m), .val (.int n) => rngW m n | _, _ => none
  | .zip a b, σ => match ev a σ, ev b σ with | .val (.lst xs), .val (.lst ys) => some (zipW xs ys) | _, _ => none
  | .enum a, σ => match ev a σ with | .val (.lst xs) => some (enumFrom 0 xs) | _ => none
end
end Mx
/-! # Mx2: how data stands in the heap -/
namespace Mx
open PySem L2
def Grow (H H' : Hp) : Prop := ∀ a o, H a = some o → H' a = some o
theorem Grow.refl (H : Hp) : Grow H H := fun _ _ h => h
theorem Grow.trans {H H1 H2 : Hp} (a : Grow H H1) (b : Grow H1 H2) : Grow H H2 := fun x o h => b x o (a x o h)
theorem Grow.new {H : Hp} {p : Addr} {o : HO} (h : H p = none) : Grow H (upd H p o) := fun a u e => by
  rw [upd_ne (ne_of_none e h)]
  exact e
theorem Grow.free {H H' : Hp} (e : Grow H H') {p : Addr} (h : H' p = none) : H p = none := by
  cases h1 : H p with
  | none => rfl
  | some o =>
    rw [e p o h1] at h
    cases h
theorem Grow.dom {H H' : Hp} (e : Grow H H') {p : Addr} (h : H p ≠ none) : H' p ≠ none := fun q => h (e.free q)
theorem Grow.rd {H H' : Hp} {a : Addr} {u : HO} (e : Grow H H') (h : Rd H a u) : Rd H' a u := by
  rcases h with h | ⟨o, h⟩
  · exact Or.inl (e a _ h)
  · exact Or.inr ⟨o, e a _ h⟩
theorem Rd.dom {H : Hp} {a : Addr} {u : HO} (h : Rd H a u) : H a ≠ none := by
  rcases h with h | ⟨o, h⟩ <;> (intro q; rw [q] at h; cases h)
theorem Grow.sqL {K : PySem.W.Frag} {H H' : Hp} {a : Addr} {xs : List V} (e : Grow H H') (h : SqL K H a xs) : SqL K H' a xs := by
  rcases h with h | h
  · exact Or.inl (e.rd h)
  · exact Or.inr h
/-- where the defs and classes of the text stand -/
structure Pl where
  fad : Nat → Addr
  cad : Nat → Addr
  fld : Nat → List Str
abbrev Av := Addr → Prop
def Av.nil : Av := fun _ => False
def Av.or (B : Av) (F : List Addr) : Av := fun a => B a ∨ a ∈ F
section
variable (K : PySem.W.Frag) (P : Pl)
/-- a list that may be read, not one of B's -/
def LsR (H : Hp) (B : Av) (a : Addr) (xs : List V) : Prop := ¬ B a ∧ H a = some (.lst xs)
/-- the script: known to the object, or of the written part -/
def ScR (H : Hp) (a : Addr) (xs : List V) : Prop := (∃ o, H a = some (.frz o (.lst xs))) ∨ SqL K (fun _ => none) a xs
mutual
def Rp (H : Hp) (B : Av) : W → V → Prop
  | .non, v => v = .non
  | .bl b, v => v = .bl b
  | .int i, v => v = .int i
  | .str x, v => v = .str x
  | .fn f, v => v = .ref (P.fad f)
  | .scr ns, v => ∃ a, v = .ref a ∧ ScR K H a (ns.map V.int) ∧ ns.length ≤ LIM
  | .tup ws, v => ∃ a xs, v = .ref a ∧ H a = some (.tup xs) ∧ ws.length ≤ LIM ∧ RpL H B ws xs
  | .lst ws, v => ∃ a xs, v = .ref a ∧ LsR H B a xs ∧ ws.length ≤ LIM ∧ RpL H B ws xs
  | .ins c ws, v => ∃ a dx xs, v = .ref a ∧ ¬ B a ∧ H a = some (.ins (P.cad c) dx ((P.fld c).zip xs)) ∧ xs.length = (P.fld c).length ∧ RpL H B ws xs
  | .dic kvs, v => ∃ a, v = .ref a ∧ ¬ B a ∧ kvs.length ≤ LIM ∧ Rd H a (.dT (kvs.map fun p => (p.1.map Sum.inl, V.int p.2)))
def RpL (H : Hp) (B : Av) : List W → List V → Prop
  | [], vs => vs = []
  | w :: ws, vs => ∃ v r, vs = v :: r ∧ Rp H B w v ∧ RpL H B ws r
end
def pdp : Option Nat → Option Nat
  | none => none
  | some k => some (k - 1)
mutual
def Ow (H : Hp) (B : Av) : Option Nat → W → V → List Addr → Prop
  | k, .lst ws, v, F => if k = some 0 then F = [] ∧ Rp K P H B (.lst ws) v else
      ∃ a xs F', v = .ref a ∧ H a = some (.lst xs) ∧ F = a :: F' ∧ ws.length ≤ LIM ∧ OwL H B (pdp k) ws xs F'
  | k, .tup ws, v, F => if k = some 0 then F = [] ∧ Rp K P H B (.tup ws) v else
      ∃ a xs, v = .ref a ∧ H a = some (.tup xs) ∧ ws.length ≤ LIM ∧ OwL H B k ws xs F
  | k, .ins c ws, v, F => if k = some 0 then F = [] ∧ Rp K P H B (.ins c ws) v else
      ∃ a dx xs F', v = .ref a ∧ H a = some (.ins (P.cad c) dx ((P.fld c).zip xs)) ∧ F = a :: F' ∧ xs.length = (P.fld c).length ∧ OwL H B (pdp k) ws xs F'
  | k, .dic kvs, v, F => if k = some 0 then F = [] ∧ Rp K P H B (.dic kvs) v else
      ∃ a, v = .ref a ∧ F = [a] ∧ kvs.length ≤ LIM ∧ H a = some (.dT (kvs.map fun p => (p.1.map Sum.inl, V.int p.2)))
  | _, .non, v, F => F = [] ∧ v = .non
  | _, .bl b, v, F => F = [] ∧ v = .bl b
  | _, .int i, v, F => F = [] ∧ v = .int i
  | _, .str x, v, F => F = [] ∧ v = .str x
  | _, .fn f, v, F => F = [] ∧ v = .ref (P.fad f)
  | _, .scr ns, v, F => F = [] ∧ Rp K P H B (.scr ns) v
def OwL (H : Hp) (B : Av) : Option Nat → List W → List V → List Addr → Prop
  | _, [], vs, F => vs = [] ∧ F = []
  | k, w :: ws, vs, F => ∃ v r F1 F2, vs = v :: r ∧ F = F1 ++ F2 ∧ Ow H B k w v F1 ∧ OwL H B k ws r F2
end
end
section
variable {K : PySem.W.Frag} {P : Pl} {H H' : Hp} {B B' : Av}
theorem ScR.sq {a : Addr} {xs : List V} (h : ScR K H a xs) : SqL K H a xs := by
  rcases h with ⟨o, h⟩ | h
  · exact Or.inl (Or.inr ⟨o, h⟩)
  · rcases h with h | h
    · rcases h with h | ⟨o, h⟩ <;> cases h
    · exact Or.inr h
theorem ScR.mono {a : Addr} {xs : List V} (g : Grow H H') (h : ScR K H a xs) : ScR K H' a xs := by
  rcases h with ⟨o, h⟩ | h
  · exact Or.inl ⟨o, g _ _ h⟩
  · exact Or.inr h
theorem ScR.upd {a b : Addr} {xs ys : List V} {o : HO} (hb : H b = some (.lst ys)) (h : ScR K H a xs) : ScR K (upd H b o) a xs := by
  rcases h with ⟨u, h⟩ | h
  · exact Or.inl ⟨u, by rw [upd_ne (ne_of h hb (by intro z; cases z))]; exact h⟩
  · exact Or.inr h
theorem LsR.sq {K : PySem.W.Frag} {a : Addr} {xs : List V} (h : LsR H B a xs) : SqL K H a xs := SqL.of h.2
theorem LsR.mono {a : Addr} {xs : List V} (g : Grow H H') (hb : ∀ a, H a ≠ none → B' a → B a) (h : LsR H B a xs) : LsR H' B' a xs :=
  ⟨fun z => h.1 (hb a (by rw [h.2]; simp) z), g _ _ h.2⟩
theorem LsR.of {a : Addr} {xs : List V} (h : H a = some (.lst xs)) (hb : ¬ B a) : LsR H B a xs := ⟨hb, h⟩
mutual
theorem Rp.mono (g : Grow H H') (hb : ∀ a, H a ≠ none → B' a → B a) : ∀ (w : W) (v : V), Rp K P H B w v → Rp K P H' B' w v
  | .non, v, h => by unfold Rp at *; exact h
  | .bl b, v, h => by unfold Rp at *; exact h
  | .int i, v, h => by unfold Rp at *; exact h
  | .str x, v, h => by unfold Rp at *; exact h
  | .fn f, v, h => by unfold Rp at *; exact h
  | .scr ns, v, h => by
    unfold Rp at *
    obtain ⟨a, e, h1, h2⟩ := h
    exact ⟨a, e, h1.mono g, h2⟩
  | .tup ws, v, h => by
    unfold Rp at *
    obtain ⟨a, xs, e, h1, h2, h3⟩ := h
    exact ⟨a, xs, e, g _ _ h1, h2, RpL.mono g hb ws xs h3⟩
  | .lst ws, v, h => by
    unfold Rp at *
    obtain ⟨a, xs, e, h1, h2, h3⟩ := h
    exact ⟨a, xs, e, h1.mono g hb, h2, RpL.mono g hb ws xs h3⟩
  | .ins c ws, v, h => by
    unfold Rp at *
    obtain ⟨a, dx, xs, e, h1, h2, h3, h4⟩ := h
    exact ⟨a, dx, xs, e, fun z => h1 (hb a (by rw [h2]; simp) z), g _ _ h2, h3, RpL.mono g hb ws xs h4⟩
  | .dic kvs, v, h => by
    unfold Rp at *
    obtain ⟨a, e, h1, h2, h3⟩ := h
    exact ⟨a, e, fun z => h1 (hb a (Rd.dom h3) z), h2, g.rd h3⟩
theorem RpL.mono (g : Grow H H') (hb : ∀ a, H a ≠ none → B' a → B a) : ∀ (ws : List W) (vs : List V), RpL K P H B ws vs → RpL K P H' B' ws vs
  | [], vs, h => by unfold RpL at *; exact h
  | w :: ws, vs, h => by
    unfold RpL at *
    obtain ⟨v, r, e, h1, h2⟩ := h
    exact ⟨v, r, e, Rp.mono g hb w v h1, RpL.mono g hb ws r h2⟩
end
mutual
theorem Rp.flat : ∀ (w : W) (v : V), w.isFlat = true → Rp K P H B w v → Rp K P H B' w v
  | .non, v, _, h => by unfold Rp at *; exact h
  | .bl b, v, _, h => by unfold Rp at *; exact h
  | .int i, v, _, h => by unfold Rp at *; exact h
  | .str x, v, _, h => by unfold Rp at *; exact h
  | .fn f, v, _, h => by unfold Rp at *; exact h
  | .scr f, v, _, h => by unfold Rp at *; exact h
  | .tup ws, v, f, h => by
    unfold Rp at *
    obtain ⟨a, xs, e, h1, h2, h3⟩ := h
    exact ⟨a, xs, e, h1, h2, RpL.flat ws xs (by unfold W.isFlat at f; exact f) h3⟩
  | .lst ws, v, f, h => by unfold W.isFlat at f; cases f
  | .ins c ws, v, f, h => by unfold W.isFlat at f; cases f
  | .dic kvs, v, f, h => by unfold W.isFlat at f; cases f
theorem RpL.flat : ∀ (ws : List W) (vs : List V), W.isFlats ws = true → RpL K P H B ws vs → RpL K P H B' ws vs
  | [], vs, _, h => by unfold RpL at *; exact h
  | w :: ws, vs, f, h => by
    unfold RpL at *
    unfold W.isFlats at f
    rw [Bool.and_eq_true] at f
    obtain ⟨v, r, e, h1, h2⟩ := h
    exact ⟨v, r, e, Rp.flat w v f.1 h1, RpL.flat ws r f.2 h2⟩
end
theorem tup_upd {a b : Addr} {xs ys : List V} {o : HO} (hb : H b = some (.lst ys)) (h : H a = some (.tup xs)) : (upd H b o) a = some (.tup xs) := by
  rw [upd_ne (ne_of h hb (by intro z; cases z))]
  exact h
mutual
theorem Rp.upd {b : Addr} {ys : List V} {o : HO} (hB : B b) (hb : H b = some (.lst ys)) : ∀ (w : W) (v : V), Rp K P H B w v → Rp K P (upd H b o) B w v
  | .non, v, h => by unfold Rp at *; exact h
  | .bl b, v, h => by unfold Rp at *; exact h
  | .int i, v, h => by unfold Rp at *; exact h
  | .str x, v, h => by unfold Rp at *; exact h
  | .fn f, v, h => by unfold Rp at *; exact h
  | .scr ns, v, h => by
    unfold Rp at *
    obtain ⟨a, e, h1, h2⟩ := h
    exact ⟨a, e, ScR.upd hb h1, h2⟩
  | .tup ws, v, h => by
    unfold Rp at *
    obtain ⟨a, xs, e, h1, h2, h3⟩ := h
    exact ⟨a, xs, e, tup_upd hb h1, h2, RpL.upd hB hb ws xs h3⟩
  | .lst ws, v, h => by
    unfold Rp at *
    obtain ⟨a, xs, e, h1, h2, h3⟩ := h
    refine ⟨a, xs, e, ?_, h2, RpL.upd hB hb ws xs h3⟩
    have ne : a ≠ b := fun z => h1.1 (by rw [z]; exact hB)
    exact ⟨h1.1, by rw [upd_ne ne]; exact h1.2⟩
  | .ins c ws, v, h => by
    unfold Rp at *
    obtain ⟨a, dx, xs, e, h1, h2, h3, h4⟩ := h
    have ne : a ≠ b := fun z => h1 (by rw [z]; exact hB)
    exact ⟨a, dx, xs, e, h1, by rw [upd_ne ne]; exact h2, h3, RpL.upd hB hb ws xs h4⟩
  | .dic kvs, v, h => by
    unfold Rp at *
    obtain ⟨a, e, h1, h2, h3⟩ := h
    have ne : a ≠ b := fun z => h1 (by rw [z]; exact hB)
    refine ⟨a, e, h1, h2, ?_⟩
    rcases h3 with h3 | ⟨o', h3⟩
    · exact Or.inl (by rw [upd_ne ne]; exact h3)
    · exact Or.inr ⟨o', by rw [upd_ne ne]; exact h3⟩
theorem RpL.upd {b : Addr} {ys : List V} {o : HO} (hB : B b) (hb : H b = some (.lst ys)) : ∀ (ws : List W) (vs : List V), RpL K P H B ws vs → RpL K P (upd H b o) B ws vs
  | [], vs, h => by unfold RpL at *; exact h
  | w :: ws, vs, h => by
    unfold RpL at *
    obtain ⟨v, r, e, h1, h2⟩ := h
    exact ⟨v, r, e, Rp.upd hB hb w v h1, RpL.upd hB hb ws r h2⟩
end
theorem RpL.length : ∀ (ws : List W) (vs : List V), RpL K P H B ws vs → vs.length = ws.length
  | [], vs, h => by unfold RpL at h; rw [h]; rfl
  | w :: ws, vs, h => by
    unfold RpL at h
    obtain ⟨v, r, e, h1, h2⟩ := h
    rw [e, List.length_cons, List.length_cons, RpL.length ws r h2]
theorem RpL.get : ∀ {ws : List W} {vs : List V} {i : Nat} {w : W}, RpL K P H B ws vs → ws[i]? = some w → ∃ v, vs[i]? = some v ∧ Rp K P H B w v
  | [], vs, i, w, h, e => by simp at e
  | x :: ws, vs, 0, w, h, e => by
    unfold RpL at h
    obtain ⟨v, r, rfl, h1, h2⟩ := h
    simp at e
    subst e
    exact ⟨v, rfl, h1⟩
  | x :: ws, vs, i + 1, w, h, e => by
    unfold RpL at h
    obtain ⟨v, r, rfl, h1, h2⟩ := h
    obtain ⟨u, q1, q2⟩ := RpL.get (i := i) (w := w) h2 (by simpa using e)
    exact ⟨u, by simpa using q1, q2⟩
theorem RpL.append : ∀ {ws us : List W} {vs xs : List V}, RpL K P H B ws vs → RpL K P H B us xs → RpL K P H B (ws ++ us) (vs ++ xs)
  | [], us, vs, xs, h, g => by unfold RpL at h; subst h; exact g
  | w :: ws, us, vs, xs, h, g => by
    unfold RpL at h
    obtain ⟨v, r, rfl, h1, h2⟩ := h
    show RpL K P H B (w :: (ws ++ us)) (v :: (r ++ xs))
    unfold RpL
    exact ⟨v, _, rfl, h1, RpL.append h2 g⟩
theorem RpL.drop : ∀ (n : Nat) {ws : List W} {vs : List V}, RpL K P H B ws vs → RpL K P H B (ws.drop n) (vs.drop n)
  | 0, ws, vs, h => h
  | n + 1, [], vs, h => by unfold RpL at h; subst h; simp [RpL]
  | n + 1, w :: ws, vs, h => by
    unfold RpL at h
    obtain ⟨v, r, rfl, h1, h2⟩ := h
    simpa using RpL.drop n h2
theorem RpL.take : ∀ (n : Nat) {ws : List W} {vs : List V}, RpL K P H B ws vs → RpL K P H B (ws.take n) (vs.take n)
  | 0, ws, vs, h => by simp [RpL]
  | n + 1, [], vs, h => by unfold RpL at h; subst h; simp [RpL]
  | n + 1, w :: ws, vs, h => by
    unfold RpL at h
    obtain ⟨v, r, rfl, h1, h2⟩ := h
    show RpL K P H B (w :: ws.take n) (v :: r.take n)
    unfold RpL
    exact ⟨v, _, rfl, h1, RpL.take n h2⟩
theorem RpL.reverse : ∀ {ws : List W} {vs : List V}, RpL K P H B ws vs → RpL K P H B ws.reverse vs.reverse
  | [], vs, h => by unfold RpL at h; subst h; simp [RpL]
  | w :: ws, vs, h => by
    unfold RpL at h
    obtain ⟨v, r, rfl, h1, h2⟩ := h
    rw [List.reverse_cons, List.reverse_cons]
    exact RpL.append (RpL.reverse h2) (by unfold RpL; exact ⟨v, [], rfl, h1, by unfold RpL; rfl⟩)
theorem RpL.one {w : W} {v : V} (h : Rp K P H B w v) : RpL K P H B [w] [v] := by
  unfold RpL
  exact ⟨v, [], rfl, h, by unfold RpL; rfl⟩
theorem RpL.nil : RpL K P H B [] [] := by unfold RpL; rfl
theorem RpL.cons {w : W} {v : V} {ws : List W} {vs : List V} (h : Rp K P H B w v) (g : RpL K P H B ws vs) : RpL K P H B (w :: ws) (v :: vs) := by
  unfold RpL
  exact ⟨v, vs, rfl, h, g⟩
theorem RpL.one_inv {w : W} {vs : List V} (h : RpL K P H B [w] vs) : ∃ v, vs = [v] ∧ Rp K P H B w v := by
  unfold RpL at h
  obtain ⟨v, r, rfl, h1, h2⟩ := h
  unfold RpL at h2
  subst h2
  exact ⟨v, rfl, h1⟩
theorem RpL.two_inv {w u : W} {vs : List V} (h : RpL K P H B [w, u] vs) : ∃ v x, vs = [v, x] ∧ Rp K P H B w v ∧ Rp K P H B u x := by
  unfold RpL at h
  obtain ⟨v, r, rfl, h1, h2⟩ := h
  obtain ⟨x, rfl, h3⟩ := h2.one_inv
  exact ⟨v, x, rfl, h1, h3⟩
theorem RpL.three_inv {w u z : W} {vs : List V} (h : RpL K P H B [w, u, z] vs) : ∃ v x y, vs = [v, x, y] ∧ Rp K P H B w v ∧ Rp K P H B u x ∧ Rp K P H B z y := by
  unfold RpL at h
  obtain ⟨v, r, rfl, h1, h2⟩ := h
  obtain ⟨x, y, rfl, h3⟩ := h2.two_inv
  exact ⟨v, x, y, rfl, h1, h3⟩
theorem RpL.ints : ∀ {ws : List W} {vs : List V} {ns : List Int}, W.ints ws = some ns → RpL K P H B ws vs → vs = ns.map V.int ∧ ws = ns.map W.int
  | [], vs, ns, e, h => by
    unfold RpL at h
    unfold W.ints at e
    cases e
    exact ⟨h, rfl⟩
  | w :: ws, vs, ns, e, h => by
    unfold RpL at h
    obtain ⟨v, r, rfl, h1, h2⟩ := h
    cases w <;> simp only [W.ints] at e <;> try (cases e; done)
    rename_i i
    cases q : W.ints ws with
    | none => rw [q] at e; cases e
    | some ms =>
      rw [q] at e
      cases e
      obtain ⟨e1, e2⟩ := RpL.ints q h2
      unfold Rp at h1
      subst h1
      exact ⟨by rw [e1]; rfl, by rw [e2]; rfl⟩
theorem RpL.bls : ∀ {ws : List W} {vs : List V} {ns : List Bool}, W.bls ws = some ns → RpL K P H B ws vs → vs = ns.map V.bl
  | [], vs, ns, e, h => by
    unfold RpL at h
    unfold W.bls at e
    cases e
    exact h
  | w :: ws, vs, ns, e, h => by
    unfold RpL at h
    obtain ⟨v, r, rfl, h1, h2⟩ := h
    cases w <;> simp only [W.bls] at e <;> try (cases e; done)
    rename_i i
    cases q : W.bls ws with
    | none => rw [q] at e; cases e
    | some ms =>
      rw [q] at e
      cases e
      have e1 := RpL.bls q h2
      unfold Rp at h1
      subst h1
      rw [e1]; rfl
theorem RpL.ofInts : ∀ (ns : List Int), RpL K P H B (ns.map W.int) (ns.map V.int)
  | [] => RpL.nil
  | n :: ns => RpL.cons (by unfold Rp; rfl) (RpL.ofInts ns)
theorem isFlats_ints : ∀ ns : List Int, W.isFlats (ns.map W.int) = true
  | [] => by simp [W.isFlats]
  | n :: ns => by simp [W.isFlats, W.isFlat, isFlats_ints ns]
end
/-! ## owned -/
section
variable {K : PySem.W.Frag} {P : Pl} {H H' : Hp} {B B' : Av}
theorem Ow.zero : ∀ (w : W) (v : V) (F : List Addr), Ow K P H B (some 0) w v F ↔ F = [] ∧ Rp K P H B w v
  | .non, v, F => by unfold Ow Rp; exact Iff.rfl
  | .bl b, v, F => by unfold Ow Rp; exact Iff.rfl
  | .int b, v, F => by unfold Ow Rp; exact Iff.rfl
  | .str b, v, F => by unfold Ow Rp; exact Iff.rfl
  | .fn b, v, F => by unfold Ow Rp; exact Iff.rfl
  | .scr b, v, F => by unfold Ow; exact Iff.rfl
  | .tup ws, v, F => by unfold Ow; rw [if_pos rfl]
  | .lst ws, v, F => by unfold Ow; rw [if_pos rfl]
  | .ins c ws, v, F => by unfold Ow; rw [if_pos rfl]
  | .dic ws, v, F => by unfold Ow; rw [if_pos rfl]
mutual
/-- what is owned stands while the rest grows, changes elsewhere -/
theorem Ow.keep (hR : ∀ (w : W) (v : V), Rp K P H B w v → Rp K P H' B' w v) (hT : ∀ a xs, H a = some (.tup xs) → H' a = some (.tup xs)) :
    ∀ (k : Option Nat) (w : W) (v : V) (F : List Addr), (∀ a ∈ F, ∀ o, H a = some o → H' a = some o) → Ow K P H B k w v F → Ow K P H' B' k w v F
  | k, .non, v, F, _, h => by unfold Ow at *; exact h
  | k, .bl b, v, F, _, h => by unfold Ow at *; exact h
  | k, .int i, v, F, _, h => by unfold Ow at *; exact h
  | k, .str x, v, F, _, h => by unfold Ow at *; exact h
  | k, .fn f, v, F, _, h => by unfold Ow at *; exact h
  | k, .scr f, v, F, _, h => by unfold Ow at *; exact ⟨h.1, hR _ _ h.2⟩
  | k, .tup ws, v, F, g, h => by
    unfold Ow at *
    split at h
    · rename_i e; rw [if_pos e]; exact ⟨h.1, hR _ _ h.2⟩
    · rename_i e; rw [if_neg e]
      obtain ⟨a, xs, e, h1, h2, h3⟩ := h
      exact ⟨a, xs, e, hT _ _ h1, h2, OwL.keep hR hT k ws xs F g h3⟩
  | k, .lst ws, v, F, g, h => by
    unfold Ow at *
    split at h
    · rename_i e; rw [if_pos e]; exact ⟨h.1, hR _ _ h.2⟩
    · rename_i e; rw [if_neg e]
      obtain ⟨a, xs, F', e, h1, rfl, h2, h3⟩ := h
      exact ⟨a, xs, F', e, g a List.mem_cons_self _ h1, rfl, h2, OwL.keep hR hT (pdp k) ws xs F' (fun b hb => g b (List.mem_cons_of_mem _ hb)) h3⟩
  | k, .ins c ws, v, F, g, h => by
    unfold Ow at *
    split at h
    · rename_i e; rw [if_pos e]; exact ⟨h.1, hR _ _ h.2⟩
    · rename_i e; rw [if_neg e]
      obtain ⟨a, dx, xs, F', e, h1, rfl, h2, h3⟩ := h
      exact ⟨a, dx, xs, F', e, g a List.mem_cons_self _ h1, rfl, h2, OwL.keep hR hT (pdp k) ws xs F' (fun b hb => g b (List.mem_cons_of_mem _ hb)) h3⟩
  | k, .dic kvs, v, F, g, h => by
    unfold Ow at *
    split at h
    · rename_i e; rw [if_pos e]; exact ⟨h.1, hR _ _ h.2⟩
    · rename_i e; rw [if_neg e]
      obtain ⟨a, e, rfl, h2, h1⟩ := h
      exact ⟨a, e, rfl, h2, g a List.mem_cons_self _ h1⟩
theorem OwL.keep (hR : ∀ (w : W) (v : V), Rp K P H B w v → Rp K P H' B' w v) (hT : ∀ a xs, H a = some (.tup xs) → H' a = some (.tup xs)) :
    ∀ (k : Option Nat) (ws : List W) (vs : List V) (F : List Addr), (∀ a ∈ F, ∀ o, H a = some o → H' a = some o) → OwL K P H B k ws vs F → OwL K P H' B' k ws vs F
  | k, [], vs, F, _, h => by unfold OwL at *; exact h
  | k, w :: ws, vs, F, g, h => by
    unfold OwL at *
    obtain ⟨v, r, F1, F2, e, rfl, h1, h2⟩ := h
    exact ⟨v, r, F1, F2, e, rfl, Ow.keep hR hT k w v F1 (fun a ha => g a (List.mem_append_left _ ha)) h1, OwL.keep hR hT k ws r F2 (fun a ha => g a (List.mem_append_right _ ha)) h2⟩
end
theorem Ow.mono {k : Option Nat} {w : W} {v : V} {F : List Addr} (g : Grow H H') (hb : ∀ a, H a ≠ none → B' a → B a) (h : Ow K P H B k w v F) : Ow K P H' B' k w v F :=
  Ow.keep (fun w v => Rp.mono g hb w v) (fun _ _ q => g _ _ q) k w v F (fun a _ o q => g a o q) h
theorem OwL.mono {k : Option Nat} {w : List W} {v : List V} {F : List Addr} (g : Grow H H') (hb : ∀ a, H a ≠ none → B' a → B a) (h : OwL K P H B k w v F) : OwL K P H' B' k w v F :=
  OwL.keep (fun w v => Rp.mono g hb w v) (fun _ _ q => g _ _ q) k w v F (fun a _ o q => g a o q) h
theorem Ow.upd {k : Option Nat} {w : W} {v : V} {F : List Addr} {b : Addr} {ys : List V} {o : HO} (hB : B b) (hb : H b = some (.lst ys)) (hF : b ∉ F) (h : Ow K P H B k w v F) : Ow K P (upd H b o) B k w v F :=
  Ow.keep (fun w v => Rp.upd hB hb w v) (fun _ _ q => tup_upd hb q) k w v F (fun a ha u q => by rw [upd_ne (show a ≠ b from fun z => hF (by rw [← z]; exact ha))]; exact q) h
theorem OwL.upd {k : Option Nat} {w : List W} {v : List V} {F : List Addr} {b : Addr} {ys : List V} {o : HO} (hB : B b) (hb : H b = some (.lst ys)) (hF : b ∉ F) (h : OwL K P H B k w v F) : OwL K P (upd H b o) B k w v F :=
  OwL.keep (fun w v => Rp.upd hB hb w v) (fun _ _ q => tup_upd hb q) k w v F (fun a ha u q => by rw [upd_ne (show a ≠ b from fun z => hF (by rw [← z]; exact ha))]; exact q) h
mutual
/-- an owned thing, read: it avoids what its own objects and leaves avoid -/
theorem Ow.rp (hB : ∀ a, H a ≠ none → B' a → B a) : ∀ (k : Option Nat) (w : W) (v : V) (F : List Addr), (∀ a ∈ F, ¬ B' a) → Ow K P H B k w v F → Rp K P H B' w v
  | k, .non, v, F, _, h => by unfold Ow Rp at *; exact h.2
  | k, .bl b, v, F, _, h => by unfold Ow Rp at *; exact h.2
  | k, .int i, v, F, _, h => by unfold Ow Rp at *; exact h.2
  | k, .str x, v, F, _, h => by unfold Ow Rp at *; exact h.2
  | k, .fn f, v, F, _, h => by unfold Ow Rp at *; exact h.2
  | k, .scr f, v, F, _, h => by unfold Ow at h; exact Rp.mono (Grow.refl H) hB _ _ h.2
  | k, .tup ws, v, F, g, h => by
    unfold Ow at h
    split at h
    · exact Rp.mono (Grow.refl H) hB _ _ h.2
    · obtain ⟨a, xs, e, h1, h2, h3⟩ := h
      unfold Rp
      exact ⟨a, xs, e, h1, h2, OwL.rp hB k ws xs F g h3⟩
  | k, .lst ws, v, F, g, h => by
    unfold Ow at h
    split at h
    · exact Rp.mono (Grow.refl H) hB _ _ h.2
    · obtain ⟨a, xs, F', e, h1, rfl, h2, h3⟩ := h
      unfold Rp
      exact ⟨a, xs, e, LsR.of h1 (g a List.mem_cons_self), h2, OwL.rp hB (pdp k) ws xs F' (fun b hb => g b (List.mem_cons_of_mem _ hb)) h3⟩
  | k, .ins c ws, v, F, g, h => by
    unfold Ow at h
    split at h
    · exact Rp.mono (Grow.refl H) hB _ _ h.2
    · obtain ⟨a, dx, xs, F', e, h1, rfl, h2, h3⟩ := h
      unfold Rp
      exact ⟨a, dx, xs, e, g a List.mem_cons_self, h1, h2, OwL.rp hB (pdp k) ws xs F' (fun b hb => g b (List.mem_cons_of_mem _ hb)) h3⟩
  | k, .dic kvs, v, F, g, h => by
    unfold Ow at h
    split at h
    · exact Rp.mono (Grow.refl H) hB _ _ h.2
    · obtain ⟨a, e, rfl, h2, h1⟩ := h
      unfold Rp
      exact ⟨a, e, g a List.mem_cons_self, h2, Or.inl h1⟩
theorem OwL.rp (hB : ∀ a, H a ≠ none → B' a → B a) : ∀ (k : Option Nat) (ws : List W) (vs : List V) (F : List Addr), (∀ a ∈ F, ¬ B' a) → OwL K P H B k ws vs F → RpL K P H B' ws vs
  | k, [], vs, F, _, h => by unfold OwL RpL at *; exact h.1
  | k, w :: ws, vs, F, g, h => by
    unfold OwL at h
    unfold RpL
    obtain ⟨v, r, F1, F2, e, rfl, h1, h2⟩ := h
    exact ⟨v, r, e, Ow.rp hB k w v F1 (fun a ha => g a (List.mem_append_left _ ha)) h1, OwL.rp hB k ws r F2 (fun a ha => g a (List.mem_append_right _ ha)) h2⟩
end
mutual
theorem Ow.dom : ∀ (k : Option Nat) (w : W) (v : V) (F : List Addr), Ow K P H B k w v F → ∀ a ∈ F, H a ≠ none
  | k, .non, v, F, h => by unfold Ow at h; rw [h.1]; simp
  | k, .bl b, v, F, h => by unfold Ow at h; rw [h.1]; simp
  | k, .int i, v, F, h => by unfold Ow at h; rw [h.1]; simp
  | k, .str x, v, F, h => by unfold Ow at h; rw [h.1]; simp
  | k, .fn f, v, F, h => by unfold Ow at h; rw [h.1]; simp
  | k, .scr f, v, F, h => by unfold Ow at h; rw [h.1]; simp
  | k, .tup ws, v, F, h => by
    unfold Ow at h
    split at h
    · rw [h.1]; simp
    · obtain ⟨a, xs, e, h1, h2, h3⟩ := h
      exact OwL.dom k ws xs F h3
  | k, .lst ws, v, F, h => by
    unfold Ow at h
    split at h
    · rw [h.1]; simp
    · obtain ⟨a, xs, F', e, h1, rfl, h2, h3⟩ := h
      intro b hb
      rcases List.mem_cons.mp hb with rfl | hb
      · rw [h1]; simp
      · exact OwL.dom (pdp k) ws xs F' h3 b hb
  | k, .ins c ws, v, F, h => by
    unfold Ow at h
    split at h
    · rw [h.1]; simp
    · obtain ⟨a, dx, xs, F', e, h1, rfl, h2, h3⟩ := h
      intro b hb
      rcases List.mem_cons.mp hb with rfl | hb
      · rw [h1]; simp
      · exact OwL.dom (pdp k) ws xs F' h3 b hb
  | k, .dic kvs, v, F, h => by
    unfold Ow at h
    split at h
    · rw [h.1]; simp
    · obtain ⟨a, e, rfl, h2, h1⟩ := h
      intro b hb
      rw [List.mem_singleton.mp hb, h1]; simp
theorem OwL.dom : ∀ (k : Option Nat) (ws : List W) (vs : List V) (F : List Addr), OwL K P H B k ws vs F → ∀ a ∈ F, H a ≠ none
  | k, [], vs, F, h => by unfold OwL at h; rw [h.2]; simp
  | k, w :: ws, vs, F, h => by
    unfold OwL at h
    obtain ⟨v, r, F1, F2, e, rfl, h1, h2⟩ := h
    intro a ha
    rcases List.mem_append.mp ha with ha | ha
    · exact Ow.dom k w v F1 h1 a ha
    · exact OwL.dom k ws r F2 h2 a ha
end
mutual
/-- what is flat is owned to any depth -/
theorem Ow.flat : ∀ (k : Option Nat) (w : W) (v : V), w.isFlat = true → Rp K P H B w v → Ow K P H B k w v []
  | k, .non, v, f, h => by unfold Ow Rp at *; exact ⟨rfl, h⟩
  | k, .bl b, v, f, h => by unfold Ow Rp at *; exact ⟨rfl, h⟩
  | k, .int i, v, f, h => by unfold Ow Rp at *; exact ⟨rfl, h⟩
  | k, .str x, v, f, h => by unfold Ow Rp at *; exact ⟨rfl, h⟩
  | k, .fn _, v, f, h => by unfold Ow Rp at *; exact ⟨rfl, h⟩
  | k, .scr _, v, f, h => by unfold Ow; exact ⟨rfl, h⟩
  | k, .tup ws, v, f, h => by
    unfold Ow
    split
    · exact ⟨rfl, h⟩
    · unfold Rp at h
      obtain ⟨a, xs, e, h1, h2, h3⟩ := h
      exact ⟨a, xs, e, h1, h2, OwL.flat k ws xs (by unfold W.isFlat at f; exact f) h3⟩
  | k, .lst ws, v, f, h => by unfold W.isFlat at f; cases f
  | k, .ins c ws, v, f, h => by unfold W.isFlat at f; cases f
  | k, .dic kvs, v, f, h => by unfold W.isFlat at f; cases f
theorem OwL.flat : ∀ (k : Option Nat) (ws : List W) (vs : List V), W.isFlats ws = true → RpL K P H B ws vs → OwL K P H B k ws vs []
  | k, [], vs, f, h => by unfold OwL RpL at *; exact ⟨h, rfl⟩
  | k, w :: ws, vs, f, h => by
    unfold OwL
    unfold RpL at h
    unfold W.isFlats at f
    rw [Bool.and_eq_true] at f
    obtain ⟨v, r, e, h1, h2⟩ := h
    exact ⟨v, r, [], [], e, rfl, Ow.flat k w v f.1 h1, OwL.flat k ws r f.2 h2⟩
end
/-- depths: less is easier -/
def dle : Option Nat → Option Nat → Bool
  | some j, some k => decide (j ≤ k)
  | some _, none => true
  | none, none => true
  | none, some _ => false
theorem dle_pdp {j k : Option Nat} (h : dle j k = true) : dle (pdp j) (pdp k) = true := by
  cases j <;> cases k <;> simp_all [dle, pdp] <;> omega
theorem dle_zero {j k : Option Nat} (h : dle j k = true) (e : k = some 0) : j = some 0 := by
  subst e
  cases j <;> simp_all [dle]
theorem Ow.avoid {k : Option Nat} {w : W} {v : V} {F : List Addr} (hb : ∀ a, B' a → B a) (h : Ow K P H B k w v F) : Ow K P H B' k w v F := h.mono (Grow.refl H) fun a _ q => hb a q
theorem OwL.avoid {k : Option Nat} {w : List W} {v : List V} {F : List Addr} (hb : ∀ a, B' a → B a) (h : OwL K P H B k w v F) : OwL K P H B' k w v F := h.mono (Grow.refl H) fun a _ q => hb a q
mutual
/-- owned deeper is owned less deep: the objects further down are given up -/
theorem Ow.less : ∀ (j k : Option Nat) (w : W) (v : V) (F : List Addr) (E : Av), dle j k = true → F.Nodup → (∀ a ∈ F, ¬ E a) → (∀ a, E a → B a) → (∀ a ∈ F, B a) → Ow K P H B k w v F →
    ∃ F', F'.Sublist F ∧ Ow K P H (E.or F') j w v F'
  | j, k, .non, v, F, E, _, _, _, _, _, h => by unfold Ow at h; exact ⟨[], List.nil_sublist _, by unfold Ow; exact ⟨rfl, h.2⟩⟩
  | j, k, .bl b, v, F, E, _, _, _, _, _, h => by unfold Ow at h; exact ⟨[], List.nil_sublist _, by unfold Ow; exact ⟨rfl, h.2⟩⟩
  | j, k, .int i, v, F, E, _, _, _, _, _, h => by unfold Ow at h; exact ⟨[], List.nil_sublist _, by unfold Ow; exact ⟨rfl, h.2⟩⟩
  | j, k, .str x, v, F, E, _, _, _, _, _, h => by unfold Ow at h; exact ⟨[], List.nil_sublist _, by unfold Ow; exact ⟨rfl, h.2⟩⟩
  | j, k, .fn f, v, F, E, _, _, _, _, _, h => by unfold Ow at h; exact ⟨[], List.nil_sublist _, by unfold Ow; exact ⟨rfl, h.2⟩⟩
  | j, k, .scr f, v, F, E, _, _, _, _, _, h => by unfold Ow at h; exact ⟨[], List.nil_sublist _, by unfold Ow; exact ⟨rfl, Rp.flat _ _ rfl h.2⟩⟩
  | j, k, .tup ws, v, F, E, d, nd, g, e1, e2, h => by
    by_cases ej : j = some 0
    · subst ej
      exact ⟨[], List.nil_sublist _, (Ow.zero _ _ _).mpr ⟨rfl, Ow.rp (fun a _ q => q.elim (e1 a) (fun z => nomatch z)) k _ v F (fun a ha q => q.elim (g a ha) (fun z => nomatch z)) h⟩⟩
    · have ek : ¬ k = some 0 := fun z => ej (dle_zero d z)
      unfold Ow at h
      rw [if_neg ek] at h
      obtain ⟨a, xs, e, h1, h2, h3⟩ := h
      obtain ⟨F', f2, f3⟩ := OwL.less j k ws xs F E d nd g e1 e2 h3
      exact ⟨F', f2, by unfold Ow; rw [if_neg ej]; exact ⟨a, xs, e, h1, h2, f3⟩⟩
  | j, k, .lst ws, v, F, E, d, nd, g, e1, e2, h => by
    by_cases ej : j = some 0
    · subst ej
      exact ⟨[], List.nil_sublist _, (Ow.zero _ _ _).mpr ⟨rfl, Ow.rp (fun a _ q => q.elim (e1 a) (fun z => nomatch z)) k _ v F (fun a ha q => q.elim (g a ha) (fun z => nomatch z)) h⟩⟩
    · have ek : ¬ k = some 0 := fun z => ej (dle_zero d z)
      unfold Ow at h
      rw [if_neg ek] at h
      obtain ⟨a, xs, F0, e, h1, rfl, h2, h3⟩ := h
      obtain ⟨na, nd0⟩ := List.nodup_cons.mp nd
      obtain ⟨F', f2, f3⟩ := OwL.less (pdp j) (pdp k) ws xs F0 (E.or [a]) (dle_pdp d) nd0
        (fun b hb q => q.elim (g b (List.mem_cons_of_mem _ hb)) (fun z => na (by rw [← List.mem_singleton.mp z]; exact hb)))
        (fun b q => q.elim (e1 b) (fun z => by rw [List.mem_singleton.mp z]; exact e2 a List.mem_cons_self)) (fun b hb => e2 b (List.mem_cons_of_mem _ hb)) h3
      refine ⟨a :: F', f2.cons_cons a, ?_⟩
      have f4 := f3.avoid (B' := E.or (a :: F')) fun b q => q.elim (fun q => Or.inl (Or.inl q)) fun q => (List.mem_cons.mp q).elim (fun q => Or.inl (Or.inr (by rw [q]; exact List.mem_singleton.mpr rfl))) Or.inr
      unfold Ow; rw [if_neg ej]; exact ⟨a, xs, F', e, h1, rfl, h2, f4⟩
  | j, k, .ins c ws, v, F, E, d, nd, g, e1, e2, h => by
    by_cases ej : j = some 0
    · subst ej
      exact ⟨[], List.nil_sublist _, (Ow.zero _ _ _).mpr ⟨rfl, Ow.rp (fun a _ q => q.elim (e1 a) (fun z => nomatch z)) k _ v F (fun a ha q => q.elim (g a ha) (fun z => nomatch z)) h⟩⟩
    · have ek : ¬ k = some 0 := fun z => ej (dle_zero d z)
      unfold Ow at h
      rw [if_neg ek] at h
      obtain ⟨a, dx, xs, F0, e, h1, rfl, h2, h3⟩ := h
      obtain ⟨na, nd0⟩ := List.nodup_cons.mp nd
      obtain ⟨F', f2, f3⟩ := OwL.less (pdp j) (pdp k) ws xs F0 (E.or [a]) (dle_pdp d) nd0
        (fun b hb q => q.elim (g b (List.mem_cons_of_mem _ hb)) (fun z => na (by rw [← List.mem_singleton.mp z]; exact hb)))
        (fun b q => q.elim (e1 b) (fun z => by rw [List.mem_singleton.mp z]; exact e2 a List.mem_cons_self)) (fun b hb => e2 b (List.mem_cons_of_mem _ hb)) h3
      refine ⟨a :: F', f2.cons_cons a, ?_⟩
      have f4 := f3.avoid (B' := E.or (a :: F')) fun b q => q.elim (fun q => Or.inl (Or.inl q)) fun q => (List.mem_cons.mp q).elim (fun q => Or.inl (Or.inr (by rw [q]; exact List.mem_singleton.mpr rfl))) Or.inr
      unfold Ow; rw [if_neg ej]; exact ⟨a, dx, xs, F', e, h1, rfl, h2, f4⟩
  | j, k, .dic kvs, v, F, E, d, nd, g, e1, e2, h => by
    by_cases ej : j = some 0
    · subst ej
      exact ⟨[], List.nil_sublist _, (Ow.zero _ _ _).mpr ⟨rfl, Ow.rp (fun a _ q => q.elim (e1 a) (fun z => nomatch z)) k _ v F (fun a ha q => q.elim (g a ha) (fun z => nomatch z)) h⟩⟩
    · have ek : ¬ k = some 0 := fun z => ej (dle_zero d z)
      unfold Ow at h
      rw [if_neg ek] at h
      exact ⟨F, List.Sublist.refl _, by unfold Ow; rw [if_neg ej]; exact h⟩
theorem OwL.less : ∀ (j k : Option Nat) (ws : List W) (vs : List V) (F : List Addr) (E : Av), dle j k = true → F.Nodup → (∀ a ∈ F, ¬ E a) → (∀ a, E a → B a) → (∀ a ∈ F, B a) → OwL K P H B k ws vs F →
    ∃ F', F'.Sublist F ∧ OwL K P H (E.or F') j ws vs F'
  | j, k, [], vs, F, E, d, nd, g, e1, e2, h => by unfold OwL at h; exact ⟨[], List.nil_sublist _, by unfold OwL; exact ⟨h.1, rfl⟩⟩
  | j, k, w :: ws, vs, F, E, d, nd, g, e1, e2, h => by
    unfold OwL at h
    obtain ⟨v, r, F1, F2, e, rfl, h1, h2⟩ := h
    obtain ⟨n1, n2, n3⟩ := List.nodup_append.mp nd
    obtain ⟨G1, b1, c1⟩ := Ow.less j k w v F1 (E.or F2) d n1 (fun a ha q => q.elim (g a (List.mem_append_left _ ha)) fun z => n3 a ha a z rfl)
      (fun a q => q.elim (e1 a) fun z => e2 a (List.mem_append_right _ z)) (fun a ha => e2 a (List.mem_append_left _ ha)) h1
    obtain ⟨G2, b2, c2⟩ := OwL.less j k ws r F2 (E.or F1) d n2 (fun a ha q => q.elim (g a (List.mem_append_right _ ha)) fun z => n3 a z a ha rfl)
      (fun a q => q.elim (e1 a) fun z => e2 a (List.mem_append_left _ z)) (fun a ha => e2 a (List.mem_append_right _ ha)) h2
    refine ⟨G1 ++ G2, b1.append b2, ?_⟩
    have d1 := c1.avoid (B' := E.or (G1 ++ G2)) fun a q => q.elim (fun q => Or.inl (Or.inl q)) fun q => (List.mem_append.mp q).elim Or.inr (fun q => Or.inl (Or.inr (b2.subset q)))
    have d2 := c2.avoid (B' := E.or (G1 ++ G2)) fun a q => q.elim (fun q => Or.inl (Or.inl q)) fun q => (List.mem_append.mp q).elim (fun q => Or.inl (Or.inr (b1.subset q))) Or.inr
    unfold OwL; exact ⟨v, r, G1, G2, e, rfl, d1, d2⟩
end
/-- what is not in T stands, tuples and what is known stand -/
structure Stand (T : Av) (H H' : Hp) : Prop where
  st : ∀ a o, H a = some o → ¬ T a → H' a = some o
  tp : ∀ a xs, H a = some (.tup xs) → H' a = some (.tup xs)
  fz : ∀ a o u, H a = some (.frz o u) → H' a = some (.frz o u)
theorem Stand.ofGrow {T : Av} (g : Grow H H') : Stand T H H' := ⟨fun a o e _ => g a o e, fun a _ e => g a _ e, fun a _ _ e => g a _ e⟩
theorem Stand.trans {T : Av} {H1 : Hp} (a : Stand T H H1) (b : Stand T H1 H') : Stand T H H' := ⟨fun x o e n => b.st x o (a.st x o e n) n, fun x xs e => b.tp x xs (a.tp x xs e), fun x o u e => b.fz x o u (a.fz x o u e)⟩
mutual
theorem Rp.stand {T : Av} (s : Stand T H H') (hT : ∀ a, T a → B a) : ∀ (w : W) (v : V), Rp K P H B w v → Rp K P H' B w v
  | .non, v, h => by unfold Rp at *; exact h
  | .bl b, v, h => by unfold Rp at *; exact h
  | .int i, v, h => by unfold Rp at *; exact h
  | .str x, v, h => by unfold Rp at *; exact h
  | .fn f, v, h => by unfold Rp at *; exact h
  | .scr ns, v, h => by
    unfold Rp at *
    obtain ⟨a, e, h1, h2⟩ := h
    refine ⟨a, e, ?_, h2⟩
    rcases h1 with ⟨o, h1⟩ | h1
    · exact Or.inl ⟨o, s.fz _ _ _ h1⟩
    · exact Or.inr h1
  | .tup ws, v, h => by
    unfold Rp at *
    obtain ⟨a, xs, e, h1, h2, h3⟩ := h
    exact ⟨a, xs, e, s.tp _ _ h1, h2, RpL.stand s hT ws xs h3⟩
  | .lst ws, v, h => by
    unfold Rp at *
    obtain ⟨a, xs, e, h1, h2, h3⟩ := h
    exact ⟨a, xs, e, ⟨h1.1, s.st _ _ h1.2 fun z => h1.1 (hT _ z)⟩, h2, RpL.stand s hT ws xs h3⟩
  | .ins c ws, v, h => by
    unfold Rp at *
    obtain ⟨a, dx, xs, e, h1, h2, h3, h4⟩ := h
    exact ⟨a, dx, xs, e, h1, s.st _ _ h2 fun z => h1 (hT _ z), h3, RpL.stand s hT ws xs h4⟩
  | .dic kvs, v, h => by
    unfold Rp at *
    obtain ⟨a, e, h1, h2, h3⟩ := h
    refine ⟨a, e, h1, h2, ?_⟩
    rcases h3 with h3 | ⟨o, h3⟩
    · exact Or.inl (s.st _ _ h3 fun z => h1 (hT _ z))
    · exact Or.inr ⟨o, s.fz _ _ _ h3⟩
theorem RpL.stand {T : Av} (s : Stand T H H') (hT : ∀ a, T a → B a) : ∀ (ws : List W) (vs : List V), RpL K P H B ws vs → RpL K P H' B ws vs
  | [], vs, h => by unfold RpL at *; exact h
  | w :: ws, vs, h => by
    unfold RpL at *
    obtain ⟨v, r, e, h1, h2⟩ := h
    exact ⟨v, r, e, Rp.stand s hT w v h1, RpL.stand s hT ws r h2⟩
end
end
end Mx
/-! # Mx3: results, states, specs -/
namespace Mx
open PySem L2
/-! ## modes -/
def Md.isVw : Md → Bool
  | .vw => true
  | _ => false
def Md.dep : Md → Option Nat
  | .fr k => k
  | _ => none
/-- a thing of mode m' may be taken as one of mode m -/
def mle : Md → Md → Bool
  | .vw, _ => true
  | .fr _, .flat => true
  | .fr j, .fr k => dle j k
  | .flat, .flat => true
  | _, _ => false
def dmin : Option Nat → Option Nat → Option Nat
  | none, k => k
  | j, none => j
  | some j, some k => some (min j k)
def mmeet : Md → Md → Md
  | .vw, _ => .vw
  | _, .vw => .vw
  | .flat, m => m
  | m, .flat => m
  | .fr j, .fr k => .fr (dmin j k)
def dsuc : Option Nat → Option Nat
  | none => none
  | some k => some (k + 1)
def meets : List Md → Md
  | [] => .flat
  | m :: ms => mmeet m (meets ms)
def lstM (ms : List Md) : Md := match meets ms with
  | .vw => .vw
  | .flat => .fr none
  | .fr k => .fr (dsuc k)
def tupM (ms : List Md) : Md := meets ms
def elemM : Md → Md
  | .vw => .vw
  | .flat => .flat
  | .fr _ => .fr (some 0)
def newM (fl : Bool) (m : Md) : Md := if fl then .fr none else match m with
  | .vw => .vw
  | _ => .fr (some 1)
def varM : Md → Md
  | .vw => .vw
  | .flat => .flat
  | .fr (some 0) => .fr (some 0)
  | .fr _ => .vw
def opM : Op → List Md → Md
  | .ix, m :: _ => elemM m
  | .fld _, m :: _ => elemM m
  | .cat fl, [m, n] => newM fl (mmeet m n)
  | .rep fl, m :: _ => newM fl m
  | .slcA fl, m :: _ => newM fl m
  | .slcB fl, m :: _ => newM fl m
  | .slcAB fl, m :: _ => newM fl m
  | .rev fl, m :: _ => newM fl m
  | .list fl, m :: _ => newM fl m
  | .sorted, _ => .fr none
  | .sortedP, _ => .fr none
  | .rngL, _ => .fr none
  | .rng3, _ => .fr none
  | .ix, _ | .fld _, _ | .cat _, _ | .rep _, _ | .slcA _, _ | .slcB _, _ | .slcAB _, _ | .rev _, _ | .list _, _ | .tuple, _ => .vw
  | _, _ => .flat
def callM (rm : Md) (ms : List Md) : Md := match rm with
  | .flat => .flat
  | .fr none => .fr none
  | .fr k => if (meets ms).isVw then .vw else .fr k
  | .vw => .vw
def setMs (ms : List Md) : List Nat → Md → List Md
  | [], _ => ms
  | i :: is, m => setMs (ms.set i m) is m
def Tg.ix : Tg → List Nat
  | .nm i => [i]
  | .tp is => is
variable (rmd : Nat → Md)
mutual
def mdE (ms : List Md) : E → Md
  | .var i => varM (ms.getD i Md.cl)
  | .cst _ => .flat
  | .gci _ => .flat
  | .op o es => opM o (mdEs ms es)
  | .tup es => tupM (mdEs ms es)
  | .lst es => lstM (mdEs ms es)
  | .call f es => callM (rmd f) (mdEs ms es)
  | .and _ | .or _ | .not _ | .chain _ _ _ _ _ | .chain3 _ _ _ _ _ _ _ => .flat
  | .ifx _ a b => mmeet (mdE ms a) (mdE ms b)
  | .comp elt tg it _ _ => lstM [mdE (setMs ms tg.ix (itM ms it)) elt]
  | .flat _ => .flat
def mdEs (ms : List Md) : List E → List Md
  | [] => []
  | e :: es => mdE ms e :: mdEs ms es
def itM (ms : List Md) : It → Md
  | .lst e => elemM (mdE ms e)
  | .rng1 _ | .rng2 _ _ => .flat
  | .zip a b => mmeet (elemM (mdE ms a)) (elemM (mdE ms b))
  | .enum a => elemM (mdE ms a)
end
/-! ## results -/
section
variable (K : PySem.W.Frag) (P : Pl)
def ROw (H : Hp) (B : Av) : Md → W → V → List Addr → Prop
  | .vw, w, v, F => F = [] ∧ Rp K P H Av.nil w v
  | .flat, w, v, F => F = [] ∧ w.isFlat = true ∧ Rp K P H Av.nil w v
  | .fr k, w, v, F => Ow K P H B k w v F
def ROwL (H : Hp) (B : Av) : List Md → List W → List V → List Addr → Prop
  | [], ws, vs, F => ws = [] ∧ vs = [] ∧ F = []
  | m :: ms, ws, vs, F => ∃ w wr v vr F1 F2, ws = w :: wr ∧ vs = v :: vr ∧ F = F1 ++ F2 ∧ ROw K P H B m w v F1 ∧ ROwL H B ms wr vr F2
def Res (m : Md) (B : Av) (H H' : Hp) (w : W) (v : V) : Prop := ∃ F, F.Nodup ∧ (∀ a ∈ F, H a = none) ∧ ROw K P H' (B.or F) m w v F
def ResL (ms : List Md) (B : Av) (H H' : Hp) (ws : List W) (vs : List V) : Prop := ∃ F, F.Nodup ∧ (∀ a ∈ F, H a = none) ∧ ROwL K P H' (B.or F) ms ws vs F
end
section
variable {K : PySem.W.Frag} {P : Pl} {H H' H1 H2 : Hp} {B B' : Av}
theorem ROw.mono {m : Md} {w : W} {v : V} {F : List Addr} (g : Grow H H') (hb : ∀ a, H a ≠ none → B' a → B a) (h : ROw K P H B m w v F) : ROw K P H' B' m w v F := by
  cases m with
  | vw => exact ⟨h.1, Rp.mono g (fun _ _ z => z) _ _ h.2⟩
  | flat => exact ⟨h.1, h.2.1, Rp.mono g (fun _ _ z => z) _ _ h.2.2⟩
  | fr k => exact Ow.mono g hb h
theorem ROw.dom {m : Md} {w : W} {v : V} {F : List Addr} (h : ROw K P H B m w v F) : ∀ a ∈ F, H a ≠ none := by
  cases m with
  | vw => rw [h.1]; simp
  | flat => rw [h.1]; simp
  | fr k => exact Ow.dom _ _ _ _ h
theorem ROw.view {m : Md} {w : W} {v : V} {F : List Addr} (h : ROw K P H B m w v F) : Rp K P H Av.nil w v := by
  cases m with
  | vw => exact h.2
  | flat => exact h.2.2
  | fr k => exact Ow.rp (fun _ _ z => z.elim) _ _ _ _ (fun _ _ z => z) h
theorem ROwL.mono : ∀ {ms : List Md} {ws : List W} {vs : List V} {F : List Addr}, Grow H H' → (∀ a, H a ≠ none → B' a → B a) → ROwL K P H B ms ws vs F → ROwL K P H' B' ms ws vs F
  | [], _, _, _, _, _, h => h
  | m :: ms, ws, vs, F, g, hb, h => by
    obtain ⟨w, wr, v, vr, F1, F2, e1, e2, e3, h1, h2⟩ := h
    exact ⟨w, wr, v, vr, F1, F2, e1, e2, e3, h1.mono g hb, ROwL.mono g hb h2⟩
theorem ROwL.dom : ∀ {ms : List Md} {ws : List W} {vs : List V} {F : List Addr}, ROwL K P H B ms ws vs F → ∀ a ∈ F, H a ≠ none
  | [], _, _, _, h => by rw [h.2.2]; simp
  | m :: ms, ws, vs, F, h => by
    obtain ⟨w, wr, v, vr, F1, F2, e1, e2, rfl, h1, h2⟩ := h
    intro a ha
    rcases List.mem_append.mp ha with ha | ha
    · exact h1.dom a ha
    · exact ROwL.dom h2 a ha
theorem ROwL.view : ∀ {ms : List Md} {ws : List W} {vs : List V} {F : List Addr}, ROwL K P H B ms ws vs F → RpL K P H Av.nil ws vs
  | [], _, _, _, h => by rw [h.1, h.2.1]; exact RpL.nil
  | m :: ms, ws, vs, F, h => by
    obtain ⟨w, wr, v, vr, F1, F2, rfl, rfl, rfl, h1, h2⟩ := h
    exact RpL.cons h1.view (ROwL.view h2)
theorem Res.view {m : Md} {w : W} {v : V} (h : Res K P m B H H' w v) : Rp K P H' Av.nil w v := let ⟨_, _, _, q⟩ := h; q.view
theorem ResL.view {ms : List Md} {ws : List W} {vs : List V} (h : ResL K P ms B H H' ws vs) : RpL K P H' Av.nil ws vs := let ⟨_, _, _, q⟩ := h; q.view
theorem Res.flat {w : W} {v : V} (f : w.isFlat = true) (h : Rp K P H' B' w v) : Res K P .flat B H H' w v := ⟨[], List.nodup_nil, by simp, rfl, f, Rp.flat _ _ f h⟩
theorem Res.vw {w : W} {v : V} (h : Rp K P H' Av.nil w v) : Res K P .vw B H H' w v := ⟨[], List.nodup_nil, by simp, rfl, h⟩
theorem Res.cl {w : W} {v : V} (h : Rp K P H' B w v) : Res K P Md.cl B H H' w v := ⟨[], List.nodup_nil, by simp, (Ow.zero _ _ _).mpr ⟨rfl, Rp.mono (Grow.refl _) (fun _ _ z => z.elim id (fun q => nomatch q)) _ _ h⟩⟩
theorem Res.toCl {m : Md} {w : W} {v : V} (hB : ∀ a, B a → H a ≠ none) (hm : m.isVw = false) (h : Res K P m B H H' w v) : Rp K P H' B w v := by
  obtain ⟨F, nd, fr, q⟩ := h
  cases m with
  | vw => cases hm
  | flat => exact Rp.flat _ _ q.2.1 q.2.2
  | fr k => exact Ow.rp (fun a _ z => Or.inl z) _ _ _ F (fun a ha z => hB a z (fr a ha)) q
theorem Res.weaken {m m' : Md} {w : W} {v : V} (hB : ∀ a, B a → H a ≠ none) (hm : mle m m' = true) (h : Res K P m' B H H' w v) : Res K P m B H H' w v := by
  cases m with
  | vw => exact Res.vw h.view
  | flat =>
    cases m' with
    | flat => exact h
    | _ => cases hm
  | fr j =>
    obtain ⟨F, nd, fr, q⟩ := h
    cases m' with
    | vw => cases hm
    | flat => exact ⟨[], List.nodup_nil, by simp, Ow.flat _ _ _ q.2.1 (Rp.flat _ _ q.2.1 q.2.2)⟩
    | fr k =>
      obtain ⟨F', s, o⟩ := Ow.less j k w v F B hm nd (fun a ha z => hB a z (fr a ha)) (fun a z => Or.inl z) (fun a ha => Or.inr ha) q
      exact ⟨F', s.nodup nd, fun a ha => fr a (s.subset ha), o⟩
theorem mle_meet_l (m n : Md) : mle (mmeet m n) m = true := by
  cases m with
  | vw => rfl
  | flat =>
    cases n with
    | vw => rfl
    | flat => rfl
    | fr k => rfl
  | fr j =>
    cases n with
    | vw => rfl
    | flat => cases j <;> simp [mmeet, mle, dle]
    | fr k => cases j <;> cases k <;> simp [mmeet, mle, dle, dmin] <;> omega
theorem mle_meet_r (m n : Md) : mle (mmeet m n) n = true := by
  cases m with
  | vw => rfl
  | flat =>
    cases n with
    | vw => rfl
    | flat => rfl
    | fr k => cases k <;> simp [mmeet, mle, dle]
  | fr j =>
    cases n with
    | vw => rfl
    | flat => cases j <;> simp [mmeet, mle, dle]
    | fr k => cases j <;> cases k <;> simp [mmeet, mle, dle, dmin] <;> omega
/-- one more ahead -/
theorem ResL.cons {m : Md} {ms : List Md} {w : W} {ws : List W} {v : V} {vs : List V} {F1 : List Addr} (g2 : Grow H1 H2) (nd : F1.Nodup) (fr : ∀ a ∈ F1, H a = none) (g1 : Grow H H1) (h1 : ROw K P H1 (B.or F1) m w v F1) (h2 : ResL K P ms (B.or F1) H1 H2 ws vs) :
    ResL K P (m :: ms) B H H2 (w :: ws) (v :: vs) := by
  obtain ⟨F2, nd2, fr2, q⟩ := h2
  have d1 := h1.dom
  refine ⟨F1 ++ F2, List.nodup_append.mpr ⟨nd, nd2, fun a ha b hb e => d1 a ha (fr2 a (e ▸ hb))⟩, fun a ha => ?_, w, ws, v, vs, F1, F2, rfl, rfl, rfl, h1.mono g2 fun a ha z => ?_, q.mono (Grow.refl _) fun a _ z => ?_⟩
  · rcases List.mem_append.mp ha with ha | ha
    · exact fr a ha
    · exact g1.free (fr2 a ha)
  · rcases z with z | z
    · exact Or.inl z
    · rcases List.mem_append.mp z with z | z
      · exact Or.inr z
      · exact absurd (fr2 a z) ha
  · rcases z with z | z
    · exact Or.inl (Or.inl z)
    · rcases List.mem_append.mp z with z | z
      · exact Or.inl (Or.inr z)
      · exact Or.inr z
theorem ResL.nil : ResL K P [] B H H' [] [] := ⟨[], List.nodup_nil, by simp, rfl, rfl, rfl⟩
end
/-! ## states -/
section
variable (K : PySem.W.Frag) (P : Pl)
structure Rel (ms : List Md) (B : Av) (F : Nat → List Addr) (Sg : Sg) (σ : L2.St) (H : Hp) : Prop where
  slots : ∀ (i : Nat) (w : W), Sg[i]? = some (some w) → ∃ v, σ[i]? = some (some v) ∧ ROw K P H B (ms.getD i Md.cl) w v (F i)
  hasB : ∀ a, B a → H a ≠ none
  nd : ∀ i, (F i).Nodup
  inB : ∀ i, ∀ a ∈ F i, B a
  dj : ∀ i j a, i ≠ j → a ∈ F i → a ∈ F j → False
  len : Sg.length = σ.length
end
section
variable {K : PySem.W.Frag} {P : Pl} {H H' H1 H2 : Hp} {B B' : Av} {ms : List Md} {F : Nat → List Addr} {Sg : Sg} {σ : L2.St}
theorem Rel.grow (r : Rel K P ms B F Sg σ H) (g : Grow H H') {F1 : List Addr} (h1 : ∀ a ∈ F1, H a = none) (h2 : ∀ a ∈ F1, H' a ≠ none) : Rel K P ms (B.or F1) F Sg σ H' where
  slots := fun i w e => by
    obtain ⟨v, e1, q⟩ := r.slots i w e
    exact ⟨v, e1, q.mono g fun a ha z => z.elim id fun z => absurd (h1 a z) ha⟩
  hasB := fun a z => z.elim (fun z => g.dom (r.hasB a z)) (h2 a)
  nd := r.nd
  inB := fun i a ha => Or.inl (r.inB i a ha)
  dj := r.dj
  len := r.len
theorem Rel.grow0 (r : Rel K P ms B F Sg σ H) (g : Grow H H') : Rel K P ms B F Sg σ H' where
  slots := fun i w e => by
    obtain ⟨v, e1, q⟩ := r.slots i w e
    exact ⟨v, e1, q.mono g fun a ha z => z⟩
  hasB := fun a z => g.dom (r.hasB a z)
  nd := r.nd
  inB := r.inB
  dj := r.dj
  len := r.len
end
/-! ## specs of expressions -/
/-- what is fixed through a def's body: the written part, the places, what calls mean, constants, the calls' result modes -/
structure Cc where
  K : PySem.W.Frag
  P : Pl
  cf : Nat → List W → O
  cs : List Int
  rm : Nat → Md
def OKo (P : Pl) (Wx : WX) (σ : L2.St) (H : Hp) (o : O) (k : W → Prop) : Prop := match o with
  | .val w => k w
  | .exc c => ∀ H', Grow H H' → Wx (.ref (P.cad c)) none σ H'
  | .bad => False
def OKs (P : Pl) (Wx : WX) (σ : L2.St) (H : Hp) (o : Os) (k : List W → Prop) : Prop := match o with
  | .vals w => k w
  | .exc c => ∀ H', Grow H H' → Wx (.ref (P.cad c)) none σ H'
  | .bad => False
section
variable (C : Cc) (ms : List Md) (Wx : WX)
def SpE (e : E) : TE := fun σ H Q => ∃ B F Sg, Rel C.K C.P ms B F Sg σ H ∧ OKo C.P Wx σ H (ev C.cf C.cs e Sg) fun w => ∀ v H', Grow H H' → Res C.K C.P (mdE C.rm ms e) B H H' w v → Q v H'
def SpA (es : List E) : TA := fun σ H Q => ∃ B F Sg, Rel C.K C.P ms B F Sg σ H ∧ OKs C.P Wx σ H (evs C.cf C.cs es Sg) fun ws => ∀ vs H', Grow H H' → ResL C.K C.P (mdEs C.rm ms es) B H H' ws vs → Q vs H'
def SpT (e : E) : TT := fun σ H Q => ∃ B F Sg, Rel C.K C.P ms B F Sg σ H ∧ OKo C.P Wx σ H (ev C.cf C.cs e Sg) fun w => ∃ b, w = .bl b ∧ ∀ H', Grow H H' → Q b H'
end
section
variable {C : Cc} {ms : List Md} {Wx : WX} {σ : L2.St} {H : Hp}
theorem SpA_nil {Q : List V → Hp → Prop} (h : SpA C ms Wx [] σ H Q) : Q [] H := by
  obtain ⟨B, F, Sg, r, k⟩ := h
  unfold evs at k
  exact k [] H (Grow.refl H) ResL.nil
theorem SpA_cons {e : E} {es : List E} {Q : List V → Hp → Prop} (h : SpA C ms Wx (e :: es) σ H Q) : SpE C ms Wx e σ H fun x H1 => SpA C ms Wx es σ H1 fun xs H2 => Q (x :: xs) H2 := by
  obtain ⟨B, F, Sg, r, k⟩ := h
  refine ⟨B, F, Sg, r, ?_⟩
  unfold evs at k
  cases e1 : ev C.cf C.cs e Sg with
  | bad => rw [e1] at k; exact k
  | exc c => rw [e1] at k; exact k
  | val w =>
    rw [e1] at k
    intro v H1 g1 r1
    obtain ⟨F1, nd, fr, q⟩ := r1
    refine ⟨B.or F1, F, Sg, r.grow g1 fr q.dom, ?_⟩
    cases e2 : evs C.cf C.cs es Sg with
    | bad => rw [e2] at k; exact k
    | exc c => rw [e2] at k; exact fun H' g => k H' (g1.trans g)
    | vals ws =>
      rw [e2] at k
      intro vs H2 g2 r2
      exact k (v :: vs) H2 (g1.trans g2) (ResL.cons g2 nd fr g1 q r2)
theorem SpA_two {a b : E} {Q : List V → Hp → Prop} (h : SpA C ms Wx [a, b] σ H Q) : SpE C ms Wx a σ H fun x H1 => SpE C ms Wx b σ H1 fun y H2 => Q [x, y] H2 := by
  have h1 := SpA_cons h
  obtain ⟨B, F, Sg, r, k⟩ := h1
  refine ⟨B, F, Sg, r, ?_⟩
  cases e1 : ev C.cf C.cs a Sg with
  | bad => rw [e1] at k; exact k
  | exc c => rw [e1] at k; exact k
  | val w =>
    rw [e1] at k
    intro v H1 g1 r1
    have k1 := SpA_cons (k v H1 g1 r1)
    obtain ⟨B1, F1, Sg1, r1', kk⟩ := k1
    refine ⟨B1, F1, Sg1, r1', ?_⟩
    cases e2 : ev C.cf C.cs b Sg1 with
    | bad => rw [e2] at kk; exact kk
    | exc c => rw [e2] at kk; exact kk
    | val w2 =>
      rw [e2] at kk
      intro y H2 g2 r2
      exact SpA_nil (kk y H2 g2 r2)
theorem SpA_one {a : E} {Q : List V → Hp → Prop} (h : SpA C ms Wx [a] σ H Q) : SpE C ms Wx a σ H fun x H1 => Q [x] H1 := by
  have h1 := SpA_cons h
  obtain ⟨B, F, Sg, r, k⟩ := h1
  refine ⟨B, F, Sg, r, ?_⟩
  cases e1 : ev C.cf C.cs a Sg with
  | bad => rw [e1] at k; exact k
  | exc c => rw [e1] at k; exact k
  | val w =>
    rw [e1] at k
    intro v H1 g1 r1
    exact SpA_nil (k v H1 g1 r1)
/-- an operation, by its arguments: what is left is what the operation asks -/
theorem Sp_op {es : List E} {e : E} {f : List W → O} {Q : VK} (he : ∀ Sg, ev C.cf C.cs e Sg = (evs C.cf C.cs es Sg).bind f) {R : List V → Hp → Prop}
    (hR : ∀ (B : Av) (ws : List W) (vs : List V) (H2 : Hp), (∀ a, B a → H a ≠ none) → Grow H H2 → ResL C.K C.P (mdEs C.rm ms es) B H H2 ws vs → OKo C.P Wx σ H2 (f ws) (fun w => ∀ v H', Grow H2 H' → Res C.K C.P (mdE C.rm ms e) B H H' w v → Q v H') → R vs H2)
    (h : SpE C ms Wx e σ H Q) : SpA C ms Wx es σ H R := by
  obtain ⟨B, F, Sg, r, k⟩ := h
  refine ⟨B, F, Sg, r, ?_⟩
  rw [he] at k
  cases e1 : evs C.cf C.cs es Sg with
  | bad => rw [e1] at k; exact k
  | exc c => rw [e1] at k; exact k
  | vals ws =>
    rw [e1] at k
    intro vs H2 g2 r2
    refine hR B ws vs H2 r.hasB g2 r2 ?_
    have k' : OKo C.P Wx σ H (f ws) fun w => ∀ v H', Grow H H' → Res C.K C.P (mdE C.rm ms e) B H H' w v → Q v H' := k
    cases e3 : f ws with
    | bad => rw [e3] at k'; exact k'
    | exc c => rw [e3] at k'; exact fun H' g => k' H' (g2.trans g)
    | val w => rw [e3] at k'; exact fun v H' g rs => k' v H' (g2.trans g) rs
end
/-! ## monotone judgements -/
theorem PE.mono {X : Cx} {e : Expr} {t t' : TE} (h : PE X e t) (m : ∀ σ H Q, t' σ H Q → t σ H Q) : PE X e t' := ⟨fun pins s σ H Q I q => h.run pins s σ H Q I (m σ H Q q)⟩
theorem PT.mono {X : Cx} {e : Expr} {t t' : TT} (h : PT X e t) (m : ∀ σ H Q, t' σ H Q → t σ H Q) : PT X e t' := ⟨fun pins s σ H Q I q => h.run pins s σ H Q I (m σ H Q q)⟩
theorem PW.mono {X : Cx} {e : Expr} {t t' : TT} (h : PW X e t) (m : ∀ σ H Q, t' σ H Q → t σ H Q) : PW X e t' := ⟨fun wh pins s σ H Q I q => h.run wh pins s σ H Q I (m σ H Q q)⟩
theorem PA.mono {X : Cx} {e : List Expr} {t t' : TA} (h : PA X e t) (m : ∀ σ H Q, t' σ H Q → t σ H Q) : PA X e t' := ⟨fun p pins s σ H Q I q => h.run p pins s σ H Q I (m σ H Q q)⟩
theorem PS.mono {X : Cx} {e : Stmt} {t t' : TS} (h : PS X e t) (m : ∀ D σ H, t' D σ H → t D σ H) : PS X e t' := ⟨fun pins s σ H D I q => h.run pins s σ H D I (m D σ H q)⟩
theorem PSs.mono {X : Cx} {e : List Stmt} {t t' : TS} (h : PSs X e t) (m : ∀ D σ H, t' D σ H → t D σ H) : PSs X e t' := ⟨fun pins s σ H D I q => h.run pins s σ H D I (m D σ H q)⟩
theorem PTs.mono {X : Cx} {e : List Expr} {t t' : TT} (h : PTs X e t) (m : ∀ σ H Q, t' σ H Q → t σ H Q) : PTs X e t' := ⟨fun pins s σ H Q I q => h.run pins s σ H Q I (m σ H Q q)⟩
theorem PI.mono {X : Cx} {tg e : Expr} {t t' : TI} (h : PI X tg e t) (m : ∀ σ H Q, t' σ H Q → t σ H Q) : PI X tg e t' := ⟨fun pins s σ H Q I q => h.run pins s σ H Q I (m σ H Q q)⟩
theorem PG.mono {X : Cx} {e : Expr} {t t' : TG} (h : PG X e t) (m : ∀ v σ H Q, t' v σ H Q → t v σ H Q) : PG X e t' := ⟨fun pins s σ H v u Q I r q => h.run pins s σ H v u Q I r (m v σ H Q q)⟩
end Mx
/-! # Mx4: the operations -/
namespace Mx
open PySem L2 PyProof.Rows
section
variable {X : Cx}
/-- * of two ints, as the model asks -/
theorem op_mulL : OpR X (binaryOp .Mult) (rI (fun i j => IntMulOk i j) fun i j => .int (i * j)) := opI fun _ _ _ _ _ _ _ hc q => mul_int q hc
end
theorem mulOk_ok {i j : Int} (h : mulOk i j = true) : IntMulOk i j := by
  have b : ∀ x : Int, Builtin.Int.intBits x ≤ x.natAbs.log2 + 1 := fun x => by
    unfold Builtin.Int.intBits
    split <;> omega
  have h1 := b i
  have h2 := b j
  have h3 := of_decide_eq_true h
  have e : bitsLine = 134217728 := by decide
  unfold IntMulOk
  intro z
  rw [Bool.and_eq_true] at z
  have z2 := z.2
  unfold Builtin.Int.intTooBig at z2
  have z3 := of_decide_eq_true z2
  rw [e] at z3
  omega
theorem divOk_ok {j : Int} (i : Int) (h : divOk j = true) : CDivW i j := by
  unfold divOk at h
  rw [Bool.and_eq_true] at h
  exact ⟨of_decide_eq_true h.1, of_decide_eq_true h.2⟩
theorem powOk_ok {i j : Int} (h : powOk i j = true) : CPow i j := by
  unfold powOk at h
  rw [Bool.and_eq_true, Bool.and_eq_true] at h
  exact ⟨of_decide_eq_true h.1.1, of_decide_eq_true h.1.2, of_decide_eq_true h.2⟩
section
variable {C : Cc} {Wx : WX} {σ : L2.St} {H H2 : Hp} {B : Av} {mds : List Md} {ws : List W} {vs : List V} {Q : VK}
abbrev KOp (C : Cc) (Wx : WX) (σ : L2.St) (H H2 : Hp) (B : Av) (mds : List Md) (o : Op) (ws : List W) (Q : VK) : Prop :=
  OKo C.P Wx σ H2 (opS o ws) fun w => ∀ v H', Grow H2 H' → Res C.K C.P (opM o mds) B H H' w v → Q v H'
theorem fin_int {i : Int} (k : ∀ v H', Grow H2 H' → Res C.K C.P .flat B H H' (.int i) v → Q v H') : Q (.int i) H2 := k _ H2 (Grow.refl _) (Res.flat rfl (B' := Av.nil) (by unfold Rp; rfl))
theorem fin_bl {i : Bool} (k : ∀ v H', Grow H2 H' → Res C.K C.P .flat B H H' (.bl i) v → Q v H') : Q (.bl i) H2 := k _ H2 (Grow.refl _) (Res.flat rfl (B' := Av.nil) (by unfold Rp; rfl))
theorem rp_int {K : PySem.W.Frag} {P : Pl} {i : Int} {v : V} (h : Rp K P H B (.int i) v) : v = .int i := by unfold Rp at h; exact h
theorem rp_bl {K : PySem.W.Frag} {P : Pl} {i : Bool} {v : V} (h : Rp K P H B (.bl i) v) : v = .bl i := by unfold Rp at h; exact h
theorem rp_lst {K : PySem.W.Frag} {P : Pl} {ws : List W} {v : V} (h : Rp K P H B (.lst ws) v) : ∃ a xs, v = .ref a ∧ ¬ B a ∧ H a = some (.lst xs) ∧ ws.length ≤ LIM ∧ RpL K P H B ws xs := by
  unfold Rp at h
  obtain ⟨a, xs, e, h1, h2, h3⟩ := h
  exact ⟨a, xs, e, h1.1, h1.2, h2, h3⟩
theorem rp_tup {K : PySem.W.Frag} {P : Pl} {ws : List W} {v : V} (h : Rp K P H B (.tup ws) v) : ∃ a xs, v = .ref a ∧ H a = some (.tup xs) ∧ ws.length ≤ LIM ∧ RpL K P H B ws xs := by
  unfold Rp at h
  exact h
theorem rp_scr {K : PySem.W.Frag} {P : Pl} {ns : List Int} {v : V} (h : Rp K P H B (.scr ns) v) : ∃ a, v = .ref a ∧ SqL K H a (ns.map V.int) ∧ ns.length ≤ LIM := by
  unfold Rp at h
  obtain ⟨a, e, h1, h2⟩ := h
  exact ⟨a, e, h1.sq, h2⟩
theorem o_add (r : ResL C.K C.P mds B H H2 ws vs) (k : KOp C Wx σ H H2 B mds .add ws Q) : ∃ x y, vs = [x, y] ∧ rI0 (fun i j => .int (i + j)) x y H2 Q := by
  replace k : OKo C.P Wx σ H2 (addS ws) _ := k
  unfold addS at k
  split at k
  · obtain ⟨x, y, rfl, h1, h2⟩ := r.view.two_inv
    rw [rp_int h1, rp_int h2]
    exact ⟨_, _, rfl, _, _, rfl, rfl, fin_int k⟩
  · exact k.elim
theorem o_sub (r : ResL C.K C.P mds B H H2 ws vs) (k : KOp C Wx σ H H2 B mds .sub ws Q) : ∃ x y, vs = [x, y] ∧ rI0 (fun i j => .int (i - j)) x y H2 Q := by
  replace k : OKo C.P Wx σ H2 (subS ws) _ := k
  unfold subS at k
  split at k
  · obtain ⟨x, y, rfl, h1, h2⟩ := r.view.two_inv
    rw [rp_int h1, rp_int h2]
    exact ⟨_, _, rfl, _, _, rfl, rfl, fin_int k⟩
  · exact k.elim
theorem o_mul (r : ResL C.K C.P mds B H H2 ws vs) (k : KOp C Wx σ H H2 B mds .mul ws Q) : ∃ x y, vs = [x, y] ∧ rI (fun i j => IntMulOk i j) (fun i j => .int (i * j)) x y H2 Q := by
  replace k : OKo C.P Wx σ H2 (mulS ws) _ := k
  unfold mulS at k
  split at k
  · obtain ⟨x, y, rfl, h1, h2⟩ := r.view.two_inv
    rw [rp_int h1, rp_int h2]
    split at k
    · rename_i c
      exact ⟨_, _, rfl, _, _, rfl, rfl, mulOk_ok c, fin_int k⟩
    · exact k.elim
  · exact k.elim
theorem o_fdiv (r : ResL C.K C.P mds B H H2 ws vs) (k : KOp C Wx σ H H2 B mds .fdiv ws Q) : ∃ x y, vs = [x, y] ∧ rI CDivW (fun i j => .int (i / j)) x y H2 Q := by
  replace k : OKo C.P Wx σ H2 (fdivS ws) _ := k
  unfold fdivS at k
  split at k
  · obtain ⟨x, y, rfl, h1, h2⟩ := r.view.two_inv
    rw [rp_int h1, rp_int h2]
    split at k
    · rename_i c
      exact ⟨_, _, rfl, _, _, rfl, rfl, divOk_ok _ c, fin_int k⟩
    · exact k.elim
  · exact k.elim
theorem o_pow (r : ResL C.K C.P mds B H H2 ws vs) (k : KOp C Wx σ H H2 B mds .pow ws Q) : ∃ x y, vs = [x, y] ∧ rI CPow (fun i j => .int (i ^ j.toNat)) x y H2 Q := by
  replace k : OKo C.P Wx σ H2 (powS ws) _ := k
  unfold powS at k
  split at k
  · obtain ⟨x, y, rfl, h1, h2⟩ := r.view.two_inv
    rw [rp_int h1, rp_int h2]
    split at k
    · rename_i c
      exact ⟨_, _, rfl, _, _, rfl, rfl, powOk_ok c, fin_int k⟩
    · exact k.elim
  · exact k.elim
theorem o_lt (r : ResL C.K C.P mds B H H2 ws vs) (k : KOp C Wx σ H H2 B mds .lt ws Q) : ∃ x y, vs = [x, y] ∧ rI0 (fun i j => .bl (decide (i < j))) x y H2 Q := by
  replace k : OKo C.P Wx σ H2 (ltS ws) _ := k
  unfold ltS at k
  split at k
  · obtain ⟨x, y, rfl, h1, h2⟩ := r.view.two_inv
    rw [rp_int h1, rp_int h2]
    exact ⟨_, _, rfl, _, _, rfl, rfl, fin_bl k⟩
  · exact k.elim
theorem o_le (r : ResL C.K C.P mds B H H2 ws vs) (k : KOp C Wx σ H H2 B mds .le ws Q) : ∃ x y, vs = [x, y] ∧ rI0 (fun i j => .bl (decide (i ≤ j))) x y H2 Q := by
  replace k : OKo C.P Wx σ H2 (leS ws) _ := k
  unfold leS at k
  split at k
  · obtain ⟨x, y, rfl, h1, h2⟩ := r.view.two_inv
    rw [rp_int h1, rp_int h2]
    exact ⟨_, _, rfl, _, _, rfl, rfl, fin_bl k⟩
  · exact k.elim
theorem o_gt (r : ResL C.K C.P mds B H H2 ws vs) (k : KOp C Wx σ H H2 B mds .gt ws Q) : ∃ x y, vs = [x, y] ∧ rI0 (fun i j => .bl (decide (j < i))) x y H2 Q := by
  replace k : OKo C.P Wx σ H2 (gtS ws) _ := k
  unfold gtS at k
  split at k
  · obtain ⟨x, y, rfl, h1, h2⟩ := r.view.two_inv
    rw [rp_int h1, rp_int h2]
    exact ⟨_, _, rfl, _, _, rfl, rfl, fin_bl k⟩
  · exact k.elim
theorem o_ge (r : ResL C.K C.P mds B H H2 ws vs) (k : KOp C Wx σ H H2 B mds .ge ws Q) : ∃ x y, vs = [x, y] ∧ rI0 (fun i j => .bl (decide (j ≤ i))) x y H2 Q := by
  replace k : OKo C.P Wx σ H2 (geS ws) _ := k
  unfold geS at k
  split at k
  · obtain ⟨x, y, rfl, h1, h2⟩ := r.view.two_inv
    rw [rp_int h1, rp_int h2]
    exact ⟨_, _, rfl, _, _, rfl, rfl, fin_bl k⟩
  · exact k.elim
theorem o_mod (r : ResL C.K C.P mds B H H2 ws vs) (k : KOp C Wx σ H H2 B mds .mod ws Q) : ∃ x y, vs = [x, y] ∧ rI (fun _ j => j ≠ 0) (fun i j => .int (i.fmod j)) x y H2 Q := by
  replace k : OKo C.P Wx σ H2 (modS ws) _ := k
  unfold modS at k
  split at k
  · obtain ⟨x, y, rfl, h1, h2⟩ := r.view.two_inv
    rw [rp_int h1, rp_int h2]
    split at k
    · exact k.elim
    · rename_i c
      exact ⟨_, _, rfl, _, _, rfl, rfl, c, fin_int k⟩
  · exact k.elim
theorem o_neg (r : ResL C.K C.P mds B H H2 ws vs) (k : KOp C Wx σ H H2 B mds .neg ws Q) : ∃ x, vs = [x] ∧ rU (fun i => .int (-i)) x H2 Q := by
  replace k : OKo C.P Wx σ H2 (negS ws) _ := k
  unfold negS at k
  split at k
  · obtain ⟨x, rfl, h1⟩ := r.view.one_inv
    rw [rp_int h1]
    exact ⟨_, rfl, _, rfl, fin_int k⟩
  · exact k.elim
theorem o_abs (r : ResL C.K C.P mds B H H2 ws vs) (k : KOp C Wx σ H H2 B mds .abs ws Q) : ∃ i, vs = [.int i] ∧ Q (.int (if i < 0 then -i else i)) H2 := by
  replace k : OKo C.P Wx σ H2 (absS ws) _ := k
  unfold absS at k
  split at k
  · obtain ⟨x, rfl, h1⟩ := r.view.one_inv
    rw [rp_int h1]
    exact ⟨_, rfl, fin_int k⟩
  · exact k.elim
theorem o_max2 (r : ResL C.K C.P mds B H H2 ws vs) (k : KOp C Wx σ H H2 B mds .max2 ws Q) : ∃ i j, vs = [.int i, .int j] ∧ Q (.int (if j > i then j else i)) H2 := by
  replace k : OKo C.P Wx σ H2 (max2S ws) _ := k
  unfold max2S at k
  split at k
  · obtain ⟨x, y, rfl, h1, h2⟩ := r.view.two_inv
    rw [rp_int h1, rp_int h2]
    exact ⟨_, _, rfl, fin_int k⟩
  · exact k.elim
theorem o_min2 (r : ResL C.K C.P mds B H H2 ws vs) (k : KOp C Wx σ H H2 B mds .min2 ws Q) : ∃ i j, vs = [.int i, .int j] ∧ Q (.int (if j < i then j else i)) H2 := by
  replace k : OKo C.P Wx σ H2 (min2S ws) _ := k
  unfold min2S at k
  split at k
  · obtain ⟨x, y, rfl, h1, h2⟩ := r.view.two_inv
    rw [rp_int h1, rp_int h2]
    exact ⟨_, _, rfl, fin_int k⟩
  · exact k.elim
theorem o_int1 (r : ResL C.K C.P mds B H H2 ws vs) (k : KOp C Wx σ H H2 B mds .int1 ws Q) : (∃ i, vs = [.int i] ∧ Q (.int i) H2) ∨ ∃ b, vs = [.bl b] ∧ Q (.int (if b then 1 else 0)) H2 := by
  replace k : OKo C.P Wx σ H2 (int1S ws) _ := k
  unfold int1S at k
  split at k
  · obtain ⟨x, rfl, h1⟩ := r.view.one_inv
    rw [rp_int h1]
    exact Or.inl ⟨_, rfl, fin_int k⟩
  · obtain ⟨x, rfl, h1⟩ := r.view.one_inv
    rw [rp_bl h1]
    exact Or.inr ⟨_, rfl, fin_int k⟩
  · exact k.elim
/-! ### == -/
mutual
theorem rp_dp {K : PySem.W.Frag} {P : Pl} : ∀ (w : W) (v : V) (d : PyData), w.py = some d → Rp K P H B w v → Dp K H v d
  | .non, v, d, e, h => by unfold W.py at e; unfold Rp at h; cases e; subst h; exact .non
  | .bl b, v, d, e, h => by unfold W.py at e; unfold Rp at h; cases e; subst h; exact .bl b
  | .int b, v, d, e, h => by unfold W.py at e; unfold Rp at h; cases e; subst h; exact .int b
  | .str b, v, d, e, h => by unfold W.py at e; unfold Rp at h; cases e; subst h; exact .str b
  | .scr ns, v, d, e, h => by
    unfold W.py at e
    obtain ⟨a, rfl, h1, h2⟩ := rp_scr h
    cases e
    exact .lst h1 (ints_dp ns)
  | .tup ws, v, d, e, h => by
    unfold W.py at e
    obtain ⟨a, xs, rfl, h1, h2, h3⟩ := rp_tup h
    cases q : W.pys ws with
    | none => rw [q] at e; cases e
    | some ds =>
      rw [q] at e
      cases e
      exact .tup (SqT.of h1) (rpl_dp ws xs ds q h3)
  | .lst ws, v, d, e, h => by
    unfold W.py at e
    obtain ⟨a, xs, rfl, _, h1, h2, h3⟩ := rp_lst h
    cases q : W.pys ws with
    | none => rw [q] at e; cases e
    | some ds =>
      rw [q] at e
      cases e
      exact .lst (SqL.of h1) (rpl_dp ws xs ds q h3)
  | .ins c ws, v, d, e, h => by unfold W.py at e; cases e
  | .dic ws, v, d, e, h => by unfold W.py at e; cases e
  | .fn ws, v, d, e, h => by unfold W.py at e; cases e
theorem rpl_dp {K : PySem.W.Frag} {P : Pl} : ∀ (ws : List W) (vs : List V) (ds : List PyData), W.pys ws = some ds → RpL K P H B ws vs → DpAll K H vs ds
  | [], vs, ds, e, h => by unfold W.pys at e; unfold RpL at h; cases e; subst h; exact .nil
  | w :: ws, vs, ds, e, h => by
    unfold W.pys at e
    unfold RpL at h
    obtain ⟨v, r, rfl, h1, h2⟩ := h
    cases q1 : W.py w with
    | none => rw [q1] at e; cases e
    | some d =>
      cases q2 : W.pys ws with
      | none => rw [q1, q2] at e; cases e
      | some dr =>
        rw [q1, q2] at e
        cases e
        exact .cons (rp_dp w v d q1 h1) (rpl_dp ws r dr q2 h2)
theorem ints_dp {K : PySem.W.Frag} : ∀ ns : List Int, DpAll K H (ns.map V.int) (ns.map PyData.int)
  | [] => .nil
  | n :: ns => .cons (.int n) (ints_dp ns)
end
theorem o_eq (r : ResL C.K C.P mds B H H2 ws vs) (k : KOp C Wx σ H H2 B mds .eq ws Q) : ∃ x y, vs = [x, y] ∧ rEqD C.K x y H2 Q := by
  replace k : OKo C.P Wx σ H2 (eqS ws) _ := k
  unfold eqS at k
  split at k
  · rename_i a b
    obtain ⟨x, y, rfl, h1, h2⟩ := r.view.two_inv
    refine ⟨x, y, rfl, ?_⟩
    unfold eqW at k
    cases q1 : a.py with
    | none => rw [q1] at k; exact k.elim
    | some d =>
      cases q2 : b.py with
      | none => rw [q1, q2] at k; exact k.elim
      | some e =>
        rw [q1, q2] at k
        simp only at k
        split at k
        · rename_i c
          rw [Bool.and_eq_true] at c
          exact ⟨d, e, rp_dp _ _ _ q1 h1, rp_dp _ _ _ q2 h2, c.1, c.2, fin_bl k⟩
        · exact k.elim
  · exact k.elim
theorem o_ne (r : ResL C.K C.P mds B H H2 ws vs) (k : KOp C Wx σ H H2 B mds .ne ws Q) : ∃ x y, vs = [x, y] ∧ rNeD C.K x y H2 Q := by
  replace k : OKo C.P Wx σ H2 (neS ws) _ := k
  unfold neS at k
  split at k
  · rename_i a b
    obtain ⟨x, y, rfl, h1, h2⟩ := r.view.two_inv
    refine ⟨x, y, rfl, ?_⟩
    unfold neW at k
    cases q1 : a.py with
    | none => rw [q1] at k; exact k.elim
    | some d =>
      cases q2 : b.py with
      | none => rw [q1, q2] at k; exact k.elim
      | some e =>
        rw [q1, q2] at k
        simp only at k
        split at k
        · rename_i c
          rw [Bool.and_eq_true] at c
          exact ⟨d, e, rp_dp _ _ _ q1 h1, rp_dp _ _ _ q2 h2, c.1, c.2, fin_bl k⟩
        · exact k.elim
  · exact k.elim
/-! ### in -/
theorem inV_ints (a : Int) : ∀ ns : List Int, inV (.int a) (ns.map V.int) = decide (a ∈ ns)
  | [] => by simp [inV]
  | n :: ns => by
    have ih := inV_ints a ns
    unfold inV at ih ⊢
    rw [List.map_cons, List.any_cons, ih]
    have e : eqV (.int n) (.int a) = decide (n = a) := by
      first
        | rfl
        | simp [eqV]
    rw [e]
    by_cases h : n = a
    · subst h; simp
    · have h' : ¬ a = n := fun z => h z.symm
      simp [h, h']
theorem flat_ints : ∀ ns : List Int, (ns.map V.int).all flatV = true
  | [] => rfl
  | n :: ns => by simp [flatV]
theorem o_isin (r : ResL C.K C.P mds B H H2 ws vs) (k : KOp C Wx σ H H2 B mds .isin ws Q) : ∃ x y, vs = [x, y] ∧ rIn C.K false x y H2 Q := by
  replace k : OKo C.P Wx σ H2 (isinS ws) _ := k
  unfold isinS at k
  split at k
  · rename_i a us
    obtain ⟨x, y, rfl, h1, h2⟩ := r.view.two_inv
    rw [rp_int h1]
    cases q : W.ints us with
    | none => rw [q] at k; exact k.elim
    | some ns =>
      rw [q] at k
      obtain ⟨p, xs, rfl, _, h3, h4, h5⟩ := rp_lst h2
      obtain ⟨rfl, _⟩ := RpL.ints q h5
      refine ⟨_, _, rfl, p, _, rfl, Or.inl (SqL.of h3), rfl, flat_ints ns, ?_⟩
      rw [inV_ints]
      exact fin_bl k
  · exact k.elim
theorem o_notin (r : ResL C.K C.P mds B H H2 ws vs) (k : KOp C Wx σ H H2 B mds .notin ws Q) : ∃ x y, vs = [x, y] ∧ rIn C.K true x y H2 Q := by
  replace k : OKo C.P Wx σ H2 (notinS ws) _ := k
  unfold notinS at k
  split at k
  · rename_i a us
    obtain ⟨x, y, rfl, h1, h2⟩ := r.view.two_inv
    rw [rp_int h1]
    cases q : W.ints us with
    | none => rw [q] at k; exact k.elim
    | some ns =>
      rw [q] at k
      obtain ⟨p, xs, rfl, _, h3, h4, h5⟩ := rp_lst h2
      obtain ⟨rfl, _⟩ := RpL.ints q h5
      refine ⟨_, _, rfl, p, _, rfl, Or.inl (SqL.of h3), rfl, flat_ints ns, ?_⟩
      rw [inV_ints]
      exact fin_bl k
  · exact k.elim
/-! ### is -/
theorem rp_non {K : PySem.W.Frag} {P : Pl} {w : W} {v : V} (h : Rp K P H B w v) : decide (v = V.non) = w.isNon := by
  cases w <;> unfold Rp at h
  case non => subst h; rfl
  case bl b => subst h; rfl
  case int b => subst h; rfl
  case str b => subst h; rfl
  case fn b => subst h; rfl
  case scr b => obtain ⟨a, rfl, _⟩ := h; rfl
  case tup b => obtain ⟨a, xs, rfl, _⟩ := h; rfl
  case lst b => obtain ⟨a, xs, rfl, _⟩ := h; rfl
  case ins c b => obtain ⟨a, dx, xs, rfl, _⟩ := h; rfl
  case dic b => obtain ⟨a, rfl, _⟩ := h; rfl
theorem o_isN (r : ResL C.K C.P mds B H H2 ws vs) (k : KOp C Wx σ H H2 B mds .isN ws Q) : ∃ x, vs = [x] ∧ Q (.bl (decide (x = .non))) H2 := by
  replace k : OKo C.P Wx σ H2 (isNS ws) _ := k
  unfold isNS at k
  split at k
  · obtain ⟨x, rfl, h1⟩ := r.view.one_inv
    refine ⟨x, rfl, ?_⟩
    rw [rp_non h1]
    exact fin_bl k
  · exact k.elim
theorem o_notN (r : ResL C.K C.P mds B H H2 ws vs) (k : KOp C Wx σ H H2 B mds .notN ws Q) : ∃ x, vs = [x] ∧ Q (.bl (!decide (x = .non))) H2 := by
  replace k : OKo C.P Wx σ H2 (notNS ws) _ := k
  unfold notNS at k
  split at k
  · rename_i a
    obtain ⟨x, rfl, h1⟩ := r.view.one_inv
    refine ⟨x, rfl, ?_⟩
    rw [rp_non h1]
    exact fin_bl k
  · exact k.elim
theorem o_isB (r : ResL C.K C.P mds B H H2 ws vs) (k : KOp C Wx σ H H2 B mds .isB ws Q) : ∃ x y, vs = [x, y] ∧ rIsB x y H2 Q := by
  replace k : OKo C.P Wx σ H2 (isBS ws) _ := k
  unfold isBS at k
  split at k
  · obtain ⟨x, y, rfl, h1, h2⟩ := r.view.two_inv
    rw [rp_bl h1, rp_bl h2]
    exact ⟨_, _, rfl, _, _, rfl, rfl, fin_bl k⟩
  · exact k.elim
theorem o_notB (r : ResL C.K C.P mds B H H2 ws vs) (k : KOp C Wx σ H H2 B mds .notB ws Q) : ∃ x y, vs = [x, y] ∧ rNotB x y H2 Q := by
  replace k : OKo C.P Wx σ H2 (notBS ws) _ := k
  unfold notBS at k
  split at k
  · obtain ⟨x, y, rfl, h1, h2⟩ := r.view.two_inv
    rw [rp_bl h1, rp_bl h2]
    exact ⟨_, _, rfl, _, _, rfl, rfl, fin_bl k⟩
  · exact k.elim
/-! ### len, sum, min, max, all, any -/
theorem o_len (r : ResL C.K C.P mds B H H2 ws vs) (k : KOp C Wx σ H H2 B mds .len ws Q) : ∃ p ys, vs = [.ref p] ∧ (SqL C.K H2 p ys ∨ SqT C.K H2 p ys) ∧ Q (.int ys.length) H2 := by
  replace k : OKo C.P Wx σ H2 (lenS ws) _ := k
  unfold lenS at k
  split at k
  · obtain ⟨x, rfl, h1⟩ := r.view.one_inv
    obtain ⟨p, xs, rfl, _, h3, h4, h5⟩ := rp_lst h1
    refine ⟨p, xs, rfl, Or.inl (SqL.of h3), ?_⟩
    rw [RpL.length _ _ h5]
    exact fin_int k
  · obtain ⟨x, rfl, h1⟩ := r.view.one_inv
    obtain ⟨p, xs, rfl, h3, h4, h5⟩ := rp_tup h1
    refine ⟨p, xs, rfl, Or.inr (SqT.of h3), ?_⟩
    rw [RpL.length _ _ h5]
    exact fin_int k
  · obtain ⟨x, rfl, h1⟩ := r.view.one_inv
    obtain ⟨p, rfl, h3, h4⟩ := rp_scr h1
    refine ⟨p, _, rfl, Or.inl h3, ?_⟩
    rw [List.length_map]
    exact fin_int k
  · exact k.elim
theorem o_sum (r : ResL C.K C.P mds B H H2 ws vs) (k : KOp C Wx σ H H2 B mds .sum ws Q) : rSum C.K vs H2 Q := by
  replace k : OKo C.P Wx σ H2 (sumS ws) _ := k
  unfold sumS at k
  split at k
  · rename_i us
    obtain ⟨x, rfl, h1⟩ := r.view.one_inv
    cases q : W.ints us with
    | none => rw [q] at k; exact k.elim
    | some ns =>
      rw [q] at k
      obtain ⟨p, xs, rfl, _, h3, h4, h5⟩ := rp_lst h1
      obtain ⟨rfl, _⟩ := RpL.ints q h5
      exact ⟨p, ns, rfl, SqL.of h3, fin_int k⟩
  · exact k.elim
theorem maxI_fold (x : Int) : ∀ (l : List Int), (l.foldl (fun a b => if b > a then b else a) x) ∈ (x :: l) ∧ ∀ y ∈ (x :: l), y ≤ l.foldl (fun a b => if b > a then b else a) x := by
  intro l
  induction l generalizing x with
  | nil => exact ⟨List.mem_cons_self, fun y hy => by simp at hy; rw [hy]; exact Int.le_refl _⟩
  | cons z r ih =>
    rw [List.foldl_cons]
    obtain ⟨h1, h2⟩ := ih (if z > x then z else x)
    refine ⟨?_, fun y hy => ?_⟩
    · rcases List.mem_cons.mp h1 with h | h
      · rw [h]
        split
        · exact List.mem_cons_of_mem _ List.mem_cons_self
        · exact List.mem_cons_self
      · exact List.mem_cons_of_mem _ (List.mem_cons_of_mem _ h)
    · have h3 := h2 _ List.mem_cons_self
      have h4 : x ≤ (if z > x then z else x) ∧ z ≤ (if z > x then z else x) := by split <;> omega
      rcases List.mem_cons.mp hy with h | h
      · rw [h]; exact Int.le_trans h4.1 h3
      · rcases List.mem_cons.mp h with h | h
        · rw [h]; exact Int.le_trans h4.2 h3
        · exact h2 y (List.mem_cons_of_mem _ h)
theorem minI_fold (x : Int) : ∀ (l : List Int), (l.foldl (fun a b => if b < a then b else a) x) ∈ (x :: l) ∧ ∀ y ∈ (x :: l), l.foldl (fun a b => if b < a then b else a) x ≤ y := by
  intro l
  induction l generalizing x with
  | nil => exact ⟨List.mem_cons_self, fun y hy => by simp at hy; rw [hy]; exact Int.le_refl _⟩
  | cons z r ih =>
    rw [List.foldl_cons]
    obtain ⟨h1, h2⟩ := ih (if z < x then z else x)
    refine ⟨?_, fun y hy => ?_⟩
    · rcases List.mem_cons.mp h1 with h | h
      · rw [h]
        split
        · exact List.mem_cons_of_mem _ List.mem_cons_self
        · exact List.mem_cons_self
      · exact List.mem_cons_of_mem _ (List.mem_cons_of_mem _ h)
    · have h3 := h2 _ List.mem_cons_self
      have h4 : (if z < x then z else x) ≤ x ∧ (if z < x then z else x) ≤ z := by split <;> omega
      rcases List.mem_cons.mp hy with h | h
      · rw [h]; exact Int.le_trans h3 h4.1
      · rcases List.mem_cons.mp h with h | h
        · rw [h]; exact Int.le_trans h3 h4.2
        · exact h2 y (List.mem_cons_of_mem _ h)
theorem maxI_spec {ns : List Int} {m : Int} (h : maxI ns = some m) : m ∈ ns ∧ ∀ y ∈ ns, y ≤ m := by
  cases ns with
  | nil => cases h
  | cons x l => cases h; exact maxI_fold x l
theorem minI_spec {ns : List Int} {m : Int} (h : minI ns = some m) : m ∈ ns ∧ ∀ y ∈ ns, m ≤ y := by
  cases ns with
  | nil => cases h
  | cons x l => cases h; exact minI_fold x l
theorem o_max1 (r : ResL C.K C.P mds B H H2 ws vs) (k : KOp C Wx σ H H2 B mds .max1 ws Q) : rMax C.K vs H2 Q := by
  replace k : OKo C.P Wx σ H2 (max1S ws) _ := k
  unfold max1S at k
  split at k
  · rename_i us
    obtain ⟨x, rfl, h1⟩ := r.view.one_inv
    cases q : W.ints us with
    | none => rw [q] at k; exact k.elim
    | some ns =>
      rw [q] at k
      simp only at k
      obtain ⟨p, xs, rfl, _, h3, h4, h5⟩ := rp_lst h1
      obtain ⟨rfl, _⟩ := RpL.ints q h5
      cases q2 : maxI ns with
      | none => rw [q2] at k; exact k.elim
      | some m =>
        rw [q2] at k
        obtain ⟨a1, a2⟩ := maxI_spec q2
        refine ⟨p, ns, rfl, SqL.of h3, List.length_pos_of_mem a1, fun m' b1 b2 => ?_⟩
        have e : m' = m := by have := a2 m' b1; have := b2 m a1; omega
        rw [e]
        exact fin_int k
  · exact k.elim
theorem o_min1 (r : ResL C.K C.P mds B H H2 ws vs) (k : KOp C Wx σ H H2 B mds .min1 ws Q) : rMin C.K vs H2 Q := by
  replace k : OKo C.P Wx σ H2 (min1S ws) _ := k
  unfold min1S at k
  split at k
  · rename_i us
    obtain ⟨x, rfl, h1⟩ := r.view.one_inv
    cases q : W.ints us with
    | none => rw [q] at k; exact k.elim
    | some ns =>
      rw [q] at k
      simp only at k
      obtain ⟨p, xs, rfl, _, h3, h4, h5⟩ := rp_lst h1
      obtain ⟨rfl, _⟩ := RpL.ints q h5
      cases q2 : minI ns with
      | none => rw [q2] at k; exact k.elim
      | some m =>
        rw [q2] at k
        obtain ⟨a1, a2⟩ := minI_spec q2
        refine ⟨p, ns, rfl, SqL.of h3, List.length_pos_of_mem a1, fun m' b1 b2 => ?_⟩
        have e : m' = m := by have := a2 m' b1; have := b2 m a1; omega
        rw [e]
        exact fin_int k
  · exact k.elim
theorem o_all1 (r : ResL C.K C.P mds B H H2 ws vs) (k : KOp C Wx σ H H2 B mds .all1 ws Q) : rAll C.K vs H2 Q := by
  replace k : OKo C.P Wx σ H2 (all1S ws) _ := k
  unfold all1S at k
  split at k
  · rename_i us
    obtain ⟨x, rfl, h1⟩ := r.view.one_inv
    cases q : W.bls us with
    | none => rw [q] at k; exact k.elim
    | some ns =>
      rw [q] at k
      obtain ⟨p, xs, rfl, _, h3, h4, h5⟩ := rp_lst h1
      have e := RpL.bls q h5
      subst e
      exact ⟨p, ns, rfl, SqL.of h3, fin_bl k⟩
  · exact k.elim
theorem o_any1 (r : ResL C.K C.P mds B H H2 ws vs) (k : KOp C Wx σ H H2 B mds .any1 ws Q) : rAny C.K vs H2 Q := by
  replace k : OKo C.P Wx σ H2 (any1S ws) _ := k
  unfold any1S at k
  split at k
  · rename_i us
    obtain ⟨x, rfl, h1⟩ := r.view.one_inv
    cases q : W.bls us with
    | none => rw [q] at k; exact k.elim
    | some ns =>
      rw [q] at k
      obtain ⟨p, xs, rfl, _, h3, h4, h5⟩ := rp_lst h1
      have e := RpL.bls q h5
      subst e
      exact ⟨p, ns, rfl, SqL.of h3, fin_bl k⟩
  · exact k.elim
/-! ### isinstance -/
def tyNm : Nat → String
  | 0 => "int" | 1 => "bool" | 2 => "list" | _ => "tuple"
def kAll (a : String) (b0 b1 b2 b3 : Bool) : Bool := decide (kitB a "int" = some b0) && decide (kitB a "bool" = some b1) && decide (kitB a "list" = some b2) && decide (kitB a "tuple" = some b3)
theorem kAll_at {a : String} {b0 b1 b2 b3 : Bool} (h : kAll a b0 b1 b2 b3 = true) {t : Nat} (ht : t < 4) : kitB a (tyNm t) = some (if t = 0 then b0 else if t = 1 then b1 else if t = 2 then b2 else b3) := by
  unfold kAll at h
  simp only [Bool.and_eq_true, decide_eq_true_eq] at h
  obtain ⟨⟨⟨h0, h1⟩, h2⟩, h3⟩ := h
  match t, ht with
  | 0, _ => exact h0
  | 1, _ => exact h1
  | 2, _ => exact h2
  | 3, _ => exact h3
theorem k_none : kAll "NoneType" false false false false = true := by decide +kernel
theorem k_bool : kAll "bool" true true false false = true := by decide +kernel
theorem k_int : kAll "int" true false false false = true := by decide +kernel
theorem k_str : kAll "str" false false false false = true := by decide +kernel
theorem k_list : kAll "list" false false true false = true := by decide +kernel
theorem k_tup : kAll "tuple" false false false true = true := by decide +kernel
theorem k_dict : kAll "dict" false false false false = true := by decide +kernel
theorem o_isi {t : Nat} (r : ResL C.K C.P mds B H H2 ws vs) (k : KOp C Wx σ H H2 B mds (.isi t) ws Q) : ∃ x, vs = [x] ∧ rIsi C.K [x, .ty (tyNm t)] H2 Q := by
  replace k : OKo C.P Wx σ H2 (isiS t ws) _ := k
  unfold isiS at k
  split at k
  · rename_i w
    obtain ⟨x, rfl, h1⟩ := r.view.one_inv
    refine ⟨x, rfl, ?_⟩
    unfold isiT at k
    split at k
    · exact k.elim
    · rename_i ht
      have ht : t < 4 := by omega
      have e3 : ∀ b : Bool, (if t = 0 then b else if t = 1 then b else if t = 2 then b else b) = b := fun b => by split; rfl; split; rfl; split <;> rfl
      have fin : ∀ {ty : String} {b b0 b1 b2 b3 : Bool}, TyX C.K H2 x (.type ty) → kAll ty b0 b1 b2 b3 = true → (if t = 0 then b0 else if t = 1 then b1 else if t = 2 then b2 else b3) = b → Q (.bl b) H2 → rIsi C.K [x, .ty (tyNm t)] H2 Q :=
        fun {ty b b0 b1 b2 b3} h1 h2 h3 h4 => ⟨x, .ty (tyNm t), .type ty, .type (tyNm t), b, rfl, .ty _, h1, kit_ty (by rw [kAll_at h2 ht, h3]), h4⟩
      cases w with
      | non => unfold Rp at h1; subst h1; exact fin (.base .non) k_none (e3 _) (fin_bl k)
      | bl b =>
        unfold Rp at h1; subst h1
        refine fin (.base (.bl b)) k_bool ?_ (fin_bl k)
        match t, ht with
        | 0, _ => rfl
        | 1, _ => rfl
        | 2, _ => rfl
        | 3, _ => rfl
      | int b =>
        unfold Rp at h1; subst h1
        refine fin (.base (.int b)) k_int ?_ (fin_bl k)
        match t, ht with
        | 0, _ => rfl
        | 1, _ => rfl
        | 2, _ => rfl
        | 3, _ => rfl
      | str b => unfold Rp at h1; subst h1; exact fin (.base (.str b)) k_str (e3 _) (fin_bl k)
      | lst us =>
        obtain ⟨p, xs, rfl, _, h3, h4, h5⟩ := rp_lst h1
        refine fin (.base (.lst h3)) k_list ?_ (fin_bl k)
        match t, ht with
        | 0, _ => rfl
        | 1, _ => rfl
        | 2, _ => rfl
        | 3, _ => rfl
      | tup us =>
        obtain ⟨p, xs, rfl, h3, h4, h5⟩ := rp_tup h1
        refine fin (.base (.tup h3)) k_tup ?_ (fin_bl k)
        match t, ht with
        | 0, _ => rfl
        | 1, _ => rfl
        | 2, _ => rfl
        | 3, _ => rfl
      | scr ns =>
        unfold Rp at h1
        obtain ⟨p, rfl, h3, h4⟩ := h1
        have ty : TyX C.K H2 (.ref p) (.type "list") := by
          rcases h3 with ⟨o, h3⟩ | h3
          · exact .base (.frz h3)
          · rcases h3 with (h3 | ⟨o, h3⟩) | ⟨o, its, n, hk, hc, _⟩
            · cases h3
            · cases h3
            · exact .kList hk hc
        refine fin ty k_list ?_ (fin_bl k)
        match t, ht with
        | 0, _ => rfl
        | 1, _ => rfl
        | 2, _ => rfl
        | 3, _ => rfl
      | dic kvs =>
        unfold Rp at h1
        obtain ⟨p, rfl, _, _, h3⟩ := h1
        exact k.elim
      | ins c us => exact k.elim
      | fn f => exact k.elim
  · exact k.elim
/-! ### new lists -/
/-- a new list at p of what stood in a thing of mode m -/
theorem new_list {m : Md} {fl : Bool} {ws : List W} {xs : List V} {p : Addr} {Q : VK} (hB : ∀ a, B a → H a ≠ none) (g : Grow H H2) (hp : H2 p = none) (hl : ws.length ≤ LIM)
    (hv : RpL C.K C.P H2 Av.nil ws xs) (hc : m.isVw = false → RpL C.K C.P H2 B ws xs) (hf : fl = true → W.isFlats ws = true)
    (k : ∀ v H', Grow H2 H' → Res C.K C.P (newM fl m) B H H' (.lst ws) v → Q v H') : Q (.ref p) (upd H2 p (.lst xs)) := by
  have g2 : Grow H2 (upd H2 p (.lst xs)) := Grow.new hp
  have g3 : Grow H (upd H2 p (.lst xs)) := g.trans g2
  have hH : H p = none := g.free hp
  refine k _ _ g2 ?_
  cases fl with
  | true =>
    show Res C.K C.P (.fr none) B H _ (.lst ws) (.ref p)
    refine ⟨[p], (by simp), fun a ha => by rw [List.mem_singleton.mp ha]; exact hH, ?_⟩
    show Ow C.K C.P _ _ none (.lst ws) _ _
    unfold Ow
    rw [if_neg (by intro z; cases z)]
    exact ⟨p, xs, [], rfl, upd_same, rfl, hl, OwL.flat _ _ _ (hf rfl) (RpL.flat _ _ (hf rfl) (RpL.mono g2 (fun _ _ z => z) _ _ hv))⟩
  | false =>
    by_cases hm : m.isVw = true
    · have e : newM false m = .vw := by
        cases m with
        | vw => rfl
        | _ => cases hm
      rw [e]
      refine Res.vw ?_
      unfold Rp
      exact ⟨p, xs, rfl, LsR.of upd_same (fun z => z), hl, RpL.mono g2 (fun _ _ z => z) _ _ hv⟩
    · have hm : m.isVw = false := by simpa using hm
      have e : newM false m = .fr (some 1) := by
        cases m with
        | vw => cases hm
        | _ => rfl
      rw [e]
      refine ⟨[p], (by simp), fun a ha => by rw [List.mem_singleton.mp ha]; exact hH, ?_⟩
      show Ow C.K C.P _ _ (some 1) (.lst ws) _ _
      unfold Ow
      rw [if_neg (by intro z; cases z)]
      refine ⟨p, xs, [], rfl, upd_same, rfl, hl, ?_⟩
      have q : RpL C.K C.P (upd H2 p (.lst xs)) (B.or [p]) ws xs := RpL.mono g2 (fun a ha z => z.elim id fun z => absurd (by rw [List.mem_singleton.mp z]; exact hp) ha) _ _ (hc hm)
      exact zeroL ws xs q
where
  zeroL {K : PySem.W.Frag} {P : Pl} {H : Hp} {B : Av} : ∀ (ws : List W) (xs : List V), RpL K P H B ws xs → OwL K P H B (pdp (some 1)) ws xs []
  | [], xs, h => by unfold RpL at h; unfold OwL; exact ⟨h, rfl⟩
  | w :: ws, xs, h => by
    unfold RpL at h
    unfold OwL
    obtain ⟨v, r, e, h1, h2⟩ := h
    exact ⟨v, r, [], [], e, rfl, (Ow.zero _ _ _).mpr ⟨rfl, h1⟩, zeroL ws r h2⟩
/-- what a list argument of mode m tells of its items -/
theorem ROwL.head {m : Md} {ms : List Md} {w : W} {ws : List W} {v : V} {vs : List V} {F : List Addr} (h : ROwL C.K C.P H2 B (m :: ms) (w :: ws) (v :: vs) F) : ∃ F1 F2, F = F1 ++ F2 ∧ ROw C.K C.P H2 B m w v F1 ∧ ROwL C.K C.P H2 B ms ws vs F2 := by
  obtain ⟨w', wr, v', vr, F1, F2, e1, e2, e3, h1, h2⟩ := h
  cases e1
  cases e2
  exact ⟨F1, F2, e3, h1, h2⟩
theorem ROw.toCl {m : Md} {w : W} {v : V} {F F1 : List Addr} (hB : ∀ a, B a → H a ≠ none) (fr : ∀ a ∈ F, H a = none) (sub : ∀ a ∈ F1, a ∈ F) (hm : m.isVw = false) (h : ROw C.K C.P H2 (B.or F) m w v F1) : Rp C.K C.P H2 B w v := by
  cases m with
  | vw => cases hm
  | flat => exact Rp.flat _ _ h.2.1 h.2.2
  | fr k => exact Ow.rp (fun a _ z => Or.inl z) _ _ _ F1 (fun a ha z => hB a z (fr a (sub a ha))) h
theorem ResL.headCl {m : Md} {ms : List Md} {w : W} {ws : List W} {v : V} {vs : List V} (hB : ∀ a, B a → H a ≠ none) (hm : m.isVw = false) (h : ResL C.K C.P (m :: ms) B H H2 (w :: ws) (v :: vs)) : Rp C.K C.P H2 B w v := by
  obtain ⟨F, nd, fr, q⟩ := h
  obtain ⟨F1, F2, rfl, h1, h2⟩ := q.head
  exact ROw.toCl hB fr (fun a ha => List.mem_append_left _ ha) hm h1
theorem ResL.secCl {m m2 : Md} {ms : List Md} {w w2 : W} {ws : List W} {v v2 : V} {vs : List V} (hB : ∀ a, B a → H a ≠ none) (hm : m2.isVw = false) (h : ResL C.K C.P (m :: m2 :: ms) B H H2 (w :: w2 :: ws) (v :: v2 :: vs)) : Rp C.K C.P H2 B w2 v2 := by
  obtain ⟨F, nd, fr, q⟩ := h
  obtain ⟨F1, F2, rfl, h1, h2⟩ := q.head
  obtain ⟨F3, F4, rfl, h3, h4⟩ := h2.head
  exact ROw.toCl hB fr (fun a ha => List.mem_append_right _ (List.mem_append_left _ ha)) hm h3
theorem ResL.len : ∀ {ms : List Md} {ws : List W} {vs : List V} {F : List Addr}, ROwL C.K C.P H2 B ms ws vs F → ms.length = ws.length
  | [], ws, vs, F, h => by rw [h.1]; rfl
  | m :: ms, ws, vs, F, h => by
    obtain ⟨w', wr, v', vr, F1, F2, rfl, e2, e3, h1, h2⟩ := h
    rw [List.length_cons, List.length_cons, ResL.len h2]
theorem ResL.modes {ms : List Md} {ws : List W} {vs : List V} (h : ResL C.K C.P ms B H H2 ws vs) : ms.length = ws.length := let ⟨_, _, _, q⟩ := h; ResL.len q
theorem one_mode {mds : List Md} {w : W} (h : mds.length = [w].length) : ∃ m, mds = [m] := by
  match mds, h with
  | [m], _ => exact ⟨m, rfl⟩
theorem two_mode {mds : List Md} {w w2 : W} (h : mds.length = [w, w2].length) : ∃ m n, mds = [m, n] := by
  match mds, h with
  | [m, n], _ => exact ⟨m, n, rfl⟩
theorem three_mode {mds : List Md} {w w2 w3 : W} (h : mds.length = [w, w2, w3].length) : ∃ m n l, mds = [m, n, l] := by
  match mds, h with
  | [m, n, l], _ => exact ⟨m, n, l, rfl⟩
theorem flIf_ok {fl : Bool} {ws : List W} {o : O} {k : W → Prop} (h : OKo C.P Wx σ H2 (flIf fl ws o) k) : (fl = true → W.isFlats ws = true) ∧ OKo C.P Wx σ H2 o k := by
  unfold flIf at h
  cases fl with
  | false => exact ⟨(fun z => by cases z), h⟩
  | true =>
    by_cases c : W.isFlats ws = true
    · rw [if_pos rfl, if_pos c] at h
      exact ⟨fun _ => c, h⟩
    · rw [if_pos rfl, if_neg c] at h
      exact h.elim
theorem isFlats_append : ∀ xs ys : List W, W.isFlats (xs ++ ys) = (W.isFlats xs && W.isFlats ys)
  | [], ys => by simp [W.isFlats]
  | x :: xs, ys => by rw [List.cons_append]; simp only [W.isFlats]; rw [isFlats_append xs ys, Bool.and_assoc]
theorem isFlats_take : ∀ (n : Nat) (xs : List W), W.isFlats xs = true → W.isFlats (xs.take n) = true
  | 0, xs, _ => by simp [W.isFlats]
  | n + 1, [], _ => by simp [W.isFlats]
  | n + 1, x :: xs, h => by
    simp only [W.isFlats, Bool.and_eq_true, List.take_succ_cons] at *
    exact ⟨h.1, isFlats_take n xs h.2⟩
theorem isFlats_drop : ∀ (n : Nat) (xs : List W), W.isFlats xs = true → W.isFlats (xs.drop n) = true
  | 0, xs, h => h
  | n + 1, [], _ => by simp [W.isFlats]
  | n + 1, x :: xs, h => by
    simp only [W.isFlats, Bool.and_eq_true] at h
    exact isFlats_drop n xs h.2
theorem isFlats_mem : ∀ {xs : List W}, W.isFlats xs = true ↔ ∀ x ∈ xs, x.isFlat = true
  | [] => by simp [W.isFlats]
  | x :: xs => by simp [W.isFlats, isFlats_mem (xs := xs)]
theorem isFlats_rev {xs : List W} (h : W.isFlats xs = true) : W.isFlats xs.reverse = true := isFlats_mem.mpr fun x hx => isFlats_mem.mp h x (List.mem_reverse.mp hx)
theorem cut_rp {K : PySem.W.Frag} {P : Pl} {ws : List W} {xs : List V} (lo hi : Option Int) (h : RpL K P H B ws xs) : RpL K P H B (cutW ws lo hi) (cutV xs lo hi) := by
  unfold cutW cutV
  rw [RpL.length _ _ h]
  exact RpL.take _ (RpL.drop _ h)
theorem cutW_flats {ws : List W} (lo hi : Option Int) (h : W.isFlats ws = true) : W.isFlats (cutW ws lo hi) = true := isFlats_take _ _ (isFlats_drop _ _ h)
theorem cutW_len (ws : List W) (lo hi : Option Int) : (cutW ws lo hi).length ≤ ws.length := by
  unfold cutW
  rw [List.length_take, List.length_drop]
  omega
theorem o_slcA {fl : Bool} (hB : ∀ a, B a → H a ≠ none) (g : Grow H H2) (r : ResL C.K C.P mds B H H2 ws vs) (k : KOp C Wx σ H H2 B mds (.slcA fl) ws Q) : ∃ x i, vs = [x, .int i] ∧ rSlL C.K x (some i) none H2 Q := by
  replace k : OKo C.P Wx σ H2 (slcAS fl ws) _ := k
  have rm := r.modes
  unfold slcAS at k
  split at k
  · rename_i us i
    obtain ⟨m, n, rfl⟩ := two_mode rm
    obtain ⟨hf, k⟩ := flIf_ok k
    obtain ⟨x, y, rfl, h1, h2⟩ := r.view.two_inv
    rw [rp_int h2] at r ⊢
    obtain ⟨p, xs, rfl, _, h3, h4, h5⟩ := rp_lst h1
    refine ⟨_, _, rfl, p, xs, rfl, SqL.of h3, fun l hl => ?_⟩
    refine new_list (m := m) (fl := fl) hB g hl (Nat.le_trans (cutW_len _ _ _) h4) (cut_rp _ _ h5) (fun hm => ?_) (fun z => cutW_flats _ _ (hf z)) k
    obtain ⟨p', xs', e, _, h3', _, h5'⟩ := rp_lst (r.headCl hB hm)
    cases e
    rw [h3] at h3'
    cases h3'
    exact cut_rp _ _ h5'
  · exact k.elim
theorem ints_cut {ns : List Int} (lo hi : Option Int) : cutV (ns.map V.int) lo hi = (((ns.drop (HT.sIx ns.length 0 lo)).take (HT.sIx ns.length ns.length hi - HT.sIx ns.length 0 lo)).map V.int) := by
  unfold cutV
  rw [List.length_map, ← List.map_drop, ← List.map_take]
theorem ints_cutW {ns : List Int} (lo hi : Option Int) : cutW (ns.map W.int) lo hi = (((ns.drop (HT.sIx ns.length 0 lo)).take (HT.sIx ns.length ns.length hi - HT.sIx ns.length 0 lo)).map W.int) := by
  unfold cutW
  rw [List.length_map, ← List.map_drop, ← List.map_take]
theorem o_slcB {fl : Bool} (hB : ∀ a, B a → H a ≠ none) (g : Grow H H2) (r : ResL C.K C.P mds B H H2 ws vs) (k : KOp C Wx σ H H2 B mds (.slcB fl) ws Q) : ∃ x i, vs = [x, .int i] ∧ rSlL C.K x none (some i) H2 Q := by
  replace k : OKo C.P Wx σ H2 (slcBS fl ws) _ := k
  have rm := r.modes
  unfold slcBS at k
  split at k
  · rename_i us i
    obtain ⟨m, n, rfl⟩ := two_mode rm
    obtain ⟨hf, k⟩ := flIf_ok k
    obtain ⟨x, y, rfl, h1, h2⟩ := r.view.two_inv
    rw [rp_int h2] at r ⊢
    obtain ⟨p, xs, rfl, _, h3, h4, h5⟩ := rp_lst h1
    refine ⟨_, _, rfl, p, xs, rfl, SqL.of h3, fun l hl => ?_⟩
    refine new_list (m := m) (fl := fl) hB g hl (Nat.le_trans (cutW_len _ _ _) h4) (cut_rp _ _ h5) (fun hm => ?_) (fun z => cutW_flats _ _ (hf z)) k
    obtain ⟨p', xs', e, _, h3', _, h5'⟩ := rp_lst (r.headCl hB hm)
    cases e
    rw [h3] at h3'
    cases h3'
    exact cut_rp _ _ h5'
  · rename_i ns i
    obtain ⟨m, n, rfl⟩ := two_mode rm
    obtain ⟨x, y, rfl, h1, h2⟩ := r.view.two_inv
    rw [rp_int h2] at r ⊢
    obtain ⟨p, rfl, h3, h4⟩ := rp_scr h1
    refine ⟨_, _, rfl, p, _, rfl, h3, fun l hl => ?_⟩
    refine new_list (m := m) (fl := fl) hB g hl (Nat.le_trans (cutW_len _ _ _) (by rw [List.length_map]; exact h4)) ?_ (fun _ => ?_) (fun _ => cutW_flats _ _ (isFlats_ints ns)) k
    · rw [ints_cut, ints_cutW]; exact RpL.ofInts _
    · rw [ints_cut, ints_cutW]; exact RpL.ofInts _
  · exact k.elim
theorem o_slcAB {fl : Bool} (hB : ∀ a, B a → H a ≠ none) (g : Grow H H2) (r : ResL C.K C.P mds B H H2 ws vs) (k : KOp C Wx σ H H2 B mds (.slcAB fl) ws Q) : ∃ x i j, vs = [x, .int i, .int j] ∧ rSlL C.K x (some i) (some j) H2 Q := by
  replace k : OKo C.P Wx σ H2 (slcABS fl ws) _ := k
  have rm := r.modes
  unfold slcABS at k
  split at k
  · rename_i us i j
    obtain ⟨m, n, l, rfl⟩ := three_mode rm
    obtain ⟨hf, k⟩ := flIf_ok k
    obtain ⟨x, y, z, rfl, h1, h2, h2'⟩ := r.view.three_inv
    rw [rp_int h2, rp_int h2'] at r ⊢
    obtain ⟨p, xs, rfl, _, h3, h4, h5⟩ := rp_lst h1
    refine ⟨_, _, _, rfl, p, xs, rfl, SqL.of h3, fun l hl => ?_⟩
    refine new_list (m := m) (fl := fl) hB g hl (Nat.le_trans (cutW_len _ _ _) h4) (cut_rp _ _ h5) (fun hm => ?_) (fun z => cutW_flats _ _ (hf z)) k
    obtain ⟨p', xs', e, _, h3', _, h5'⟩ := rp_lst (r.headCl hB hm)
    cases e
    rw [h3] at h3'
    cases h3'
    exact cut_rp _ _ h5'
  · exact k.elim
theorem o_rev {fl : Bool} (hB : ∀ a, B a → H a ≠ none) (g : Grow H H2) (r : ResL C.K C.P mds B H H2 ws vs) (k : KOp C Wx σ H H2 B mds (.rev fl) ws Q) : ∃ x, vs = [x] ∧ ∃ a xs, x = .ref a ∧ SqL C.K H2 a xs ∧ ∀ p, H2 p = none → Q (.ref p) (upd H2 p (.lst xs.reverse)) := by
  replace k : OKo C.P Wx σ H2 (revS fl ws) _ := k
  have rm := r.modes
  unfold revS at k
  split at k
  · rename_i us
    obtain ⟨m, rfl⟩ := one_mode rm
    obtain ⟨hf, k⟩ := flIf_ok k
    obtain ⟨x, rfl, h1⟩ := r.view.one_inv
    obtain ⟨p, xs, rfl, _, h3, h4, h5⟩ := rp_lst h1
    refine ⟨_, rfl, p, xs, rfl, SqL.of h3, fun l hl => ?_⟩
    refine new_list (m := m) (fl := fl) hB g hl (by rw [List.length_reverse]; exact h4) h5.reverse (fun hm => ?_) (fun z => isFlats_rev (hf z)) k
    obtain ⟨p', xs', e, _, h3', _, h5'⟩ := rp_lst (r.headCl hB hm)
    cases e
    rw [h3] at h3'
    cases h3'
    exact h5'.reverse
  · exact k.elim
theorem o_list {fl : Bool} (hB : ∀ a, B a → H a ≠ none) (g : Grow H H2) (r : ResL C.K C.P mds B H H2 ws vs) (k : KOp C Wx σ H H2 B mds (.list fl) ws Q) : ∃ p ys, vs = [.ref p] ∧ (SqL C.K H2 p ys ∨ SqT C.K H2 p ys) ∧ ∀ l, H2 l = none → Q (.ref l) (upd H2 l (.lst ys)) := by
  replace k : OKo C.P Wx σ H2 (listS fl ws) _ := k
  have rm := r.modes
  unfold listS at k
  split at k
  · rename_i us
    obtain ⟨m, rfl⟩ := one_mode rm
    obtain ⟨hf, k⟩ := flIf_ok k
    obtain ⟨x, rfl, h1⟩ := r.view.one_inv
    obtain ⟨p, xs, rfl, _, h3, h4, h5⟩ := rp_lst h1
    refine ⟨p, xs, rfl, Or.inl (SqL.of h3), fun l hl => ?_⟩
    refine new_list (m := m) (fl := fl) hB g hl h4 h5 (fun hm => ?_) hf k
    obtain ⟨p', xs', e, _, h3', _, h5'⟩ := rp_lst (r.headCl hB hm)
    cases e
    rw [h3] at h3'
    cases h3'
    exact h5'
  · rename_i us
    obtain ⟨m, rfl⟩ := one_mode rm
    obtain ⟨hf, k⟩ := flIf_ok k
    obtain ⟨x, rfl, h1⟩ := r.view.one_inv
    obtain ⟨p, xs, rfl, h3, h4, h5⟩ := rp_tup h1
    refine ⟨p, xs, rfl, Or.inr (SqT.of h3), fun l hl => ?_⟩
    refine new_list (m := m) (fl := fl) hB g hl h4 h5 (fun hm => ?_) hf k
    obtain ⟨p', xs', e, h3', _, h5'⟩ := rp_tup (r.headCl hB hm)
    cases e
    rw [h3] at h3'
    cases h3'
    exact h5'
  · exact k.elim
theorem insI_spec (x : Int) : ∀ l : List Int, (insI x l).Perm (x :: l) ∧ (l.Pairwise (· ≤ ·) → (insI x l).Pairwise (· ≤ ·))
  | [] => ⟨List.Perm.refl _, fun _ => List.pairwise_singleton _ _⟩
  | y :: ys => by
    unfold insI
    split
    · rename_i h
      refine ⟨List.Perm.refl _, fun hp => ?_⟩
      rw [List.pairwise_cons] at hp ⊢
      refine ⟨fun z hz => ?_, List.pairwise_cons.mpr hp⟩
      rcases List.mem_cons.mp hz with rfl | hz
      · exact h
      · exact Int.le_trans h (hp.1 z hz)
    · rename_i h
      obtain ⟨h1, h2⟩ := insI_spec x ys
      refine ⟨(h1.cons y).trans (List.Perm.swap x y ys), fun hp => ?_⟩
      rw [List.pairwise_cons] at hp ⊢
      refine ⟨fun z hz => ?_, h2 hp.2⟩
      rcases List.mem_cons.mp (h1.subset hz) with rfl | hz
      · omega
      · exact hp.1 z hz
theorem sortI_spec : ∀ ns : List Int, (sortI ns).Perm ns ∧ (sortI ns).Pairwise (· ≤ ·)
  | [] => ⟨List.Perm.refl _, List.Pairwise.nil⟩
  | x :: xs => by
    obtain ⟨h1, h2⟩ := sortI_spec xs
    obtain ⟨g1, g2⟩ := insI_spec x (sortI xs)
    exact ⟨g1.trans (h1.cons x), g2 h2⟩
theorem sorted_uniq {l m : List Int} (p : l.Perm m) (h1 : l.Pairwise (· ≤ ·)) (h2 : m.Pairwise (· ≤ ·)) : l = m := p.eq_of_pairwise (fun a b _ _ h1 h2 => Int.le_antisymm h1 h2) h1 h2
theorem o_sorted (hB : ∀ a, B a → H a ≠ none) (g : Grow H H2) (r : ResL C.K C.P mds B H H2 ws vs) (k : KOp C Wx σ H H2 B mds .sorted ws Q) : rSortedI C.K vs H2 Q := by
  replace k : OKo C.P Wx σ H2 (sortedS ws) _ := k
  unfold sortedS at k
  split at k
  · rename_i us
    obtain ⟨x, rfl, h1⟩ := r.view.one_inv
    cases q : W.ints us with
    | none => rw [q] at k; exact k.elim
    | some ns =>
      rw [q] at k
      obtain ⟨p, xs, rfl, _, h3, h4, h5⟩ := rp_lst h1
      obtain ⟨rfl, e⟩ := RpL.ints q h5
      refine ⟨p, ns, rfl, SqL.of h3, fun ns' l hp hs hl => ?_⟩
      have e2 : ns' = sortI ns := sorted_uniq (hp.trans (sortI_spec ns).1.symm) hs (sortI_spec ns).2
      rw [e2]
      refine new_list (m := .vw) (fl := true) hB g hl ?_ (RpL.ofInts _) (fun z => by cases z) (fun _ => isFlats_ints _) k
      rw [List.length_map, (sortI_spec ns).1.length_eq]
      rw [e, List.length_map] at h4
      exact h4
  · exact k.elim
theorem indexI_spec {a : Int} : ∀ {ns : List Int} {k : Nat}, indexI a ns = some k → ns[k]? = some a ∧ ∀ m z, m < k → ns[m]? = some z → z ≠ a
  | [], _, h => nomatch h
  | x :: xs, k, h => by
    unfold indexI at h
    split at h
    · rename_i e
      cases h
      exact ⟨by rw [List.getElem?_cons_zero, e], fun m z hm => by omega⟩
    · rename_i e
      cases q : indexI a xs with
      | none => rw [q] at h; cases h
      | some j =>
        rw [q] at h
        cases h
        obtain ⟨h1, h2⟩ := indexI_spec q
        refine ⟨by rw [List.getElem?_cons_succ, h1], fun m z hm hz => ?_⟩
        cases m with
        | zero => rw [List.getElem?_cons_zero] at hz; cases hz; exact e
        | succ m => rw [List.getElem?_cons_succ] at hz; exact h2 m z (Nat.lt_of_succ_lt_succ hm) hz
theorem o_index (r : ResL C.K C.P mds B H H2 ws vs) (k : KOp C Wx σ H H2 B mds .index ws Q) : ∃ x y, vs = [x, y] ∧ tyV C.K "list" x H2 ∧ rIndex C.K x [y] H2 Q := by
  replace k : OKo C.P Wx σ H2 (indexS ws) _ := k
  unfold indexS at k
  split at k
  · rename_i us a
    obtain ⟨x, y, rfl, h2, h1⟩ := r.view.two_inv
    rw [rp_int h1]
    cases q : W.ints us with
    | none => rw [q] at k; exact k.elim
    | some ns =>
      rw [q] at k
      obtain ⟨p, xs, rfl, _, h3, h4, h5⟩ := rp_lst h2
      obtain ⟨rfl, _⟩ := RpL.ints q h5
      cases q2 : indexI a ns with
      | none => simp only [q2] at k; exact k.elim
      | some j =>
        simp only [q2] at k
        obtain ⟨i1, i2⟩ := indexI_spec q2
        refine ⟨_, _, rfl, Or.inl ⟨rfl, _, SqL.of h3⟩, p, _, _, j, V.int a, rfl, rfl, SqL.of h3, rfl, flat_ints ns, by rw [List.getElem?_map, i1]; rfl, by simp [eqV], fun m z' hm hz => ?_, ?_⟩
        · rw [List.getElem?_map] at hz
          cases q3 : ns[m]? with
          | none => rw [q3] at hz; cases hz
          | some z =>
            rw [q3] at hz
            cases hz
            have := i2 m z hm q3
            simp [eqV, this]
        · exact fin_int k
  · exact k.elim
/-! ## pairs, sorted -/
theorem pairLe_tot (a b : Int × Int) (h : pairLe a b = false) : pairLe b a = true := by
  unfold pairLe at h ⊢
  simp only [Bool.or_eq_false_iff, Bool.and_eq_false_iff, decide_eq_false_iff_not, Bool.or_eq_true, Bool.and_eq_true, decide_eq_true_eq] at h ⊢
  omega
theorem pairLe_trans {a b c : Int × Int} (h : pairLe a b = true) (h2 : pairLe b c = true) : pairLe a c = true := by
  unfold pairLe at h h2 ⊢
  simp only [Bool.or_eq_true, Bool.and_eq_true, decide_eq_true_eq] at h h2 ⊢
  omega
theorem pairLe_anti {a b : Int × Int} (h : pairLe a b = true) (h2 : pairLe b a = true) : a = b := by
  unfold pairLe at h h2
  simp only [Bool.or_eq_true, Bool.and_eq_true, decide_eq_true_eq] at h h2
  exact Prod.ext (by omega) (by omega)
theorem lexB_le (a b : Int × Int) (h : SrtO.lexB b a = false) : pairLe a b = true := by
  unfold SrtO.lexB at h
  unfold pairLe
  simp only [Bool.or_eq_true, Bool.and_eq_true, decide_eq_true_eq]
  split at h <;> simp only [decide_eq_false_iff_not] at h <;> omega
theorem insP_spec (x : Int × Int) : ∀ l : List (Int × Int), (insP x l).Perm (x :: l) ∧ (l.Pairwise (fun a b => pairLe a b = true) → (insP x l).Pairwise (fun a b => pairLe a b = true))
  | [] => ⟨List.Perm.refl _, fun _ => List.pairwise_singleton _ _⟩
  | y :: ys => by
    unfold insP
    split
    · rename_i h
      refine ⟨List.Perm.refl _, fun hp => ?_⟩
      rw [List.pairwise_cons] at hp ⊢
      refine ⟨fun z hz => ?_, List.pairwise_cons.mpr hp⟩
      rcases List.mem_cons.mp hz with rfl | hz
      · exact h
      · exact pairLe_trans h (hp.1 z hz)
    · rename_i h
      obtain ⟨h1, h2⟩ := insP_spec x ys
      refine ⟨(h1.cons y).trans (List.Perm.swap x y ys), fun hp => ?_⟩
      rw [List.pairwise_cons] at hp ⊢
      refine ⟨fun z hz => ?_, h2 hp.2⟩
      rcases List.mem_cons.mp (h1.mem_iff.mp hz) with rfl | hz
      · exact pairLe_tot _ _ (by simpa using h)
      · exact hp.1 z hz
theorem sortP_spec : ∀ ns : List (Int × Int), (sortP ns).Perm ns ∧ (sortP ns).Pairwise (fun a b => pairLe a b = true)
  | [] => ⟨List.Perm.refl _, List.Pairwise.nil⟩
  | x :: xs => by
    obtain ⟨h1, h2⟩ := sortP_spec xs
    obtain ⟨g1, g2⟩ := insP_spec x (sortP xs)
    exact ⟨g1.trans (h1.cons x), g2 h2⟩
theorem sortP_uniq {l m : List (Int × Int)} (p : l.Perm m) (h1 : l.Pairwise (fun a b => pairLe a b = true)) (h2 : m.Pairwise (fun a b => pairLe a b = true)) : l = m := p.eq_of_pairwise (fun a b _ _ h1 h2 => pairLe_anti h1 h2) h1 h2
/-- what a pair's place holds -/
def kOf (H : Hp) : V → Int × Int
  | .ref t => (match H t with | some (.tup [.int i, .int j]) => (i, j) | _ => (0, 0))
  | _ => (0, 0)
theorem RpL.prs {K : PySem.W.Frag} {P : Pl} {H : Hp} {B : Av} : ∀ {ws : List W} {vs : List V} {ps : List (Int × Int)}, W.prs ws = some ps → RpL K P H B ws vs → vs.map (kOf H) = ps ∧ ∀ v ∈ vs, ∃ t, v = .ref t ∧ H t = some (.tup [.int (kOf H v).1, .int (kOf H v).2])
  | [], vs, ns, e, h => by
    unfold RpL at h
    unfold W.prs at e
    cases e
    subst h
    exact ⟨rfl, fun v hv => nomatch hv⟩
  | w :: ws, vs, ns, e, h => by
    unfold RpL at h
    obtain ⟨v, r, rfl, h1, h2⟩ := h
    unfold W.prs at e
    split at e
    · cases ‹_ :: _ = []›
    · rename_i i j xs' e0
      cases e0
      cases q : W.prs ws with
      | none => rw [q] at e; cases e
      | some ms =>
        rw [q] at e
        cases e
        obtain ⟨e1, e2⟩ := RpL.prs q h2
        obtain ⟨t, xs, rfl, g1, _, g2⟩ := rp_tup h1
        obtain ⟨a, b, rfl, g3, g4⟩ := g2.two_inv
        rw [rp_int g3, rp_int g4] at g1
        have ek : kOf H (.ref t) = (i, j) := by simp only [kOf, g1]
        refine ⟨by rw [List.map_cons, ek, e1], fun v hv => ?_⟩
        rcases List.mem_cons.mp hv with rfl | hv
        · exact ⟨t, rfl, by rw [ek]; exact g1⟩
        · exact e2 v hv
    · cases e
theorem RpL.ofPrs {K : PySem.W.Frag} {P : Pl} {H : Hp} {B : Av} {k : V → Int × Int} : ∀ {vs : List V}, (∀ v ∈ vs, ∃ t, v = .ref t ∧ H t = some (.tup [.int (k v).1, .int (k v).2])) → RpL K P H B ((vs.map k).map prW) vs
  | [], _ => RpL.nil
  | v :: vs, h => by
    obtain ⟨t, e, g⟩ := h v List.mem_cons_self
    refine RpL.cons ?_ (RpL.ofPrs fun u hu => h u (List.mem_cons_of_mem _ hu))
    show Rp K P H B (.tup [.int (k v).1, .int (k v).2]) v
    unfold Rp
    exact ⟨t, _, e, g, (by decide : 2 ≤ LIM), RpL.ofInts [(k v).1, (k v).2]⟩
theorem isFlats_prs : ∀ ps : List (Int × Int), W.isFlats (ps.map prW) = true
  | [] => by simp [W.isFlats]
  | p :: ps => by simp [W.isFlats, prW, W.isFlat, isFlats_prs ps]
theorem o_sortedP (hB : ∀ a, B a → H a ≠ none) (g : Grow H H2) (r : ResL C.K C.P mds B H H2 ws vs) (k : KOp C Wx σ H H2 B mds .sortedP ws Q) : rSortedPO C.K vs H2 Q := by
  replace k : OKo C.P Wx σ H2 (sortedPS ws) _ := k
  unfold sortedPS at k
  split at k
  · rename_i us
    obtain ⟨x, rfl, h1⟩ := r.view.one_inv
    cases q : W.prs us with
    | none => rw [q] at k; exact k.elim
    | some ps =>
      rw [q] at k
      obtain ⟨p, xs, rfl, _, h3, h4, h5⟩ := rp_lst h1
      obtain ⟨e, e2⟩ := RpL.prs q h5
      refine ⟨p, xs, kOf H2, rfl, SqL.of h3, e2, fun ys l hs hst hl => ?_⟩
      have hp := hst.perm
      have e3 : ys.map (kOf H2) = sortP ps := by
        refine sortP_uniq (((hp.map (kOf H2)).trans (by rw [e])).trans (sortP_spec ps).1.symm) ?_ (sortP_spec ps).2
        rw [List.pairwise_map]
        exact hs.imp fun h => lexB_le _ _ h
      have e4 : ∀ v ∈ ys, ∃ t, v = .ref t ∧ H2 t = some (.tup [.int (kOf H2 v).1, .int (kOf H2 v).2]) := fun v hv => e2 v (hp.mem_iff.mp hv)
      have hv := RpL.ofPrs (K := C.K) (P := C.P) (B := Av.nil) e4
      rw [e3] at hv
      refine new_list (m := .vw) (fl := true) hB g hl ?_ hv (fun z => by cases z) (fun _ => isFlats_prs _) k
      rw [List.length_map, (sortP_spec ps).1.length_eq, ← e, List.length_map, RpL.length _ _ h5]
      exact h4
  · exact k.elim
theorem o_rngL (hB : ∀ a, B a → H a ≠ none) (g : Grow H H2) (r : ResL C.K C.P mds B H H2 ws vs) (k : KOp C Wx σ H H2 B mds .rngL ws Q) : ∃ x, vs = [x] ∧ ∃ n : Int, x = .int n ∧ RgOk 0 n ∧ ∀ q, H2 q = none → Q (.ref q) (upd H2 q (.lst (rgV 0 n))) := by
  replace k : OKo C.P Wx σ H2 (rngLS ws) _ := k
  unfold rngLS at k
  split at k
  · rename_i n
    obtain ⟨x, rfl, h1⟩ := r.view.one_inv
    split at k
    · rename_i hn
      have e1 := rp_int h1
      have hn1 : n ≤ (100000 : Int) := hn.1
      refine ⟨x, rfl, n, e1, ⟨by omega, by omega, by omega, by omega, by omega⟩, fun q hq => ?_⟩
      have e2 : rgV 0 n = ((List.range n.toNat).map fun (i : Nat) => (i : Int)).map V.int := by
        unfold rgV
        rw [List.map_map, Int.sub_zero]
        refine List.map_congr_left fun i _ => ?_
        simp
      have e3 : (List.range n.toNat).map (fun (k : Nat) => W.int k) = ((List.range n.toNat).map fun (i : Nat) => (i : Int)).map W.int := by
        rw [List.map_map]
        rfl
      rw [e2]
      rw [e3] at k
      refine new_list (m := .vw) (fl := true) hB g hq ?_ (RpL.ofInts _) (fun z => by cases z) (fun _ => isFlats_ints _) k
      rw [List.length_map, List.length_map, List.length_range]
      show n.toNat ≤ 100000
      omega
    · exact k.elim
  · exact k.elim
/-- the ints of range(i, j, c), n of them -/
def rgC (i c : Int) (n : Nat) : List V := (List.range n).map fun (k : Nat) => V.int (i + k * c)
theorem o_rng3 (hB : ∀ a, B a → H a ≠ none) (g : Grow H H2) (r : ResL C.K C.P mds B H H2 ws vs) (k : KOp C Wx σ H H2 B mds .rng3 ws Q) : ∃ (i j c : Int) (n : Nat), vs = [.int i, .int j, .int c] ∧ RgC i j c n ∧ n ≤ 2 ^ 24 ∧ ∀ q, H2 q = none → Q (.ref q) (upd H2 q (.lst (rgC i c n))) := by
  replace k : OKo C.P Wx σ H2 (rng3S ws) _ := k
  unfold rng3S at k
  split at k
  · rename_i i j c
    obtain ⟨x, y, z, rfl, h1, h2, h3⟩ := r.view.three_inv
    split at k
    · rename_i hn
      obtain ⟨⟨c1, c2⟩, ⟨i1, i2⟩, ⟨j1, j2⟩, hl⟩ := hn
      have hl' : rgN i j c ≤ 100000 := hl
      have hz : Builtin.Range.rangeSize i j c = (rgN i j c : Nat) := by
        unfold Builtin.Range.rangeSize rgN
        rw [if_pos c1]
        split
        · have : 0 ≤ (j - i - 1) / c := Int.ediv_nonneg (by omega) (by omega)
          omega
        · rfl
      have hs : Builtin.Range.small i j c = true := by
        unfold Builtin.Range.small
        rw [hz]
        rw [if_pos c1]
        simp only [Builtin.Range.rangeFitsLong, Bool.and_eq_true, Bool.or_eq_true, decide_eq_true_eq, beq_iff_eq]
        omega
      refine ⟨i, j, c, rgN i j c, by rw [rp_int h1, rp_int h2, rp_int h3], ⟨by omega, by omega, hs, hz⟩, by omega, fun q hq => ?_⟩
      have e2 : rgC i c (rgN i j c) = ((List.range (rgN i j c)).map fun (k : Nat) => i + (k : Int) * c).map V.int := by
        unfold rgC
        rw [List.map_map]
        rfl
      have e3 : (List.range (rgN i j c)).map (fun (k : Nat) => W.int (i + k * c)) = ((List.range (rgN i j c)).map fun (k : Nat) => i + (k : Int) * c).map W.int := by
        rw [List.map_map]
        rfl
      rw [e2]
      rw [e3] at k
      refine new_list (m := .vw) (fl := true) hB g hq ?_ (RpL.ofInts _) (fun z => by cases z) (fun _ => isFlats_ints _) k
      rw [List.length_map, List.length_map, List.length_range]
      exact hl
    · exact k.elim
  · exact k.elim
theorem o_cat {fl : Bool} (hB : ∀ a, B a → H a ≠ none) (g : Grow H H2) (r : ResL C.K C.P mds B H H2 ws vs) (k : KOp C Wx σ H H2 B mds (.cat fl) ws Q) : ∃ x y, vs = [x, y] ∧ rCat x y H2 Q := by
  replace k : OKo C.P Wx σ H2 (catS fl ws) _ := k
  have rm := r.modes
  unfold catS at k
  split at k
  · rename_i us zs
    obtain ⟨m, n, rfl⟩ := two_mode rm
    split at k
    · rename_i hz
      obtain ⟨hf, k⟩ := flIf_ok k
      obtain ⟨x, y, rfl, h1, h2⟩ := r.view.two_inv
      obtain ⟨p, xs, rfl, _, h3, h4, h5⟩ := rp_lst h1
      obtain ⟨q, ys, rfl, _, h3', h4', h5'⟩ := rp_lst h2
      have hs : xs.length + ys.length ≤ sizeLine := by
        rw [RpL.length _ _ h5, RpL.length _ _ h5']
        exact Nat.le_trans hz (by decide)
      refine ⟨_, _, rfl, p, q, xs, ys, rfl, rfl, h3, h3', hs, fun l hl => ?_⟩
      refine new_list (m := mmeet m n) (fl := fl) hB g hl (by rw [List.length_append]; exact hz) (RpL.append h5 h5') (fun hm => ?_) hf k
      have hm1 : m.isVw = false := by
        cases m with
        | vw => cases hm
        | _ => rfl
      have hm2 : n.isVw = false := by
        cases n with
        | vw => cases m <;> cases hm
        | _ => rfl
      obtain ⟨p', xs', e, _, g3, _, g5⟩ := rp_lst (r.headCl hB hm1)
      cases e
      rw [h3] at g3
      cases g3
      obtain ⟨p', xs', e, _, g3', _, g5'⟩ := rp_lst (r.secCl hB hm2)
      cases e
      rw [h3'] at g3'
      cases g3'
      exact RpL.append g5 g5'
    · exact k.elim
  · exact k.elim
theorem rep_rp {K : PySem.W.Frag} {P : Pl} {ws : List W} {xs : List V} (h : RpL K P H B ws xs) : ∀ k : Nat, RpL K P H B (List.replicate k ws).flatten (List.replicate k xs).flatten
  | 0 => RpL.nil
  | k + 1 => by
    rw [List.replicate_succ, List.replicate_succ, List.flatten_cons, List.flatten_cons]
    exact RpL.append h (rep_rp h k)
theorem rep_flats {ws : List W} (h : W.isFlats ws = true) : ∀ k : Nat, W.isFlats (List.replicate k ws).flatten = true
  | 0 => rfl
  | k + 1 => by
    rw [List.replicate_succ, List.flatten_cons, isFlats_append, h, rep_flats h k]
    rfl
theorem rep_len {α : Type} (ws : List α) : ∀ k : Nat, (List.replicate k ws).flatten.length = ws.length * k
  | 0 => rfl
  | k + 1 => by
    rw [List.replicate_succ, List.flatten_cons, List.length_append, rep_len ws k, Nat.mul_succ, Nat.add_comm]
theorem o_rep {fl : Bool} (hB : ∀ a, B a → H a ≠ none) (g : Grow H H2) (r : ResL C.K C.P mds B H H2 ws vs) (k : KOp C Wx σ H H2 B mds (.rep fl) ws Q) : ∃ x y, vs = [x, y] ∧ rRep x y H2 Q := by
  replace k : OKo C.P Wx σ H2 (repS fl ws) _ := k
  have rm := r.modes
  unfold repS at k
  split at k
  · rename_i us i
    obtain ⟨m, n, rfl⟩ := two_mode rm
    split at k
    · rename_i hz
      obtain ⟨hf, k⟩ := flIf_ok k
      obtain ⟨x, y, rfl, h1, h2⟩ := r.view.two_inv
      rw [rp_int h2] at r ⊢
      obtain ⟨p, xs, rfl, _, h3, h4, h5⟩ := rp_lst h1
      refine ⟨_, _, rfl, p, i, xs, rfl, rfl, h3, by have := hz.2.1; omega, by have := hz.2.2; omega, ?_, fun l hl => ?_⟩
      · rw [RpL.length _ _ h5]
        exact Nat.le_trans hz.1 (by decide)
      · refine new_list (m := m) (fl := fl) hB g hl (by rw [rep_len]; exact hz.1) (rep_rp h5 _) (fun hm => ?_) (fun z => rep_flats (hf z) _) k
        obtain ⟨p', xs', e, _, g3, _, g5⟩ := rp_lst (r.headCl hB hm)
        cases e
        rw [h3] at g3
        cases g3
        exact rep_rp g5 _
    · exact k.elim
  · exact k.elim
theorem o_ix (hB : ∀ a, B a → H a ≠ none) (r : ResL C.K C.P mds B H H2 ws vs) (k : KOp C Wx σ H H2 B mds .ix ws Q) : ∃ x y, vs = [x, y] ∧ rIx C.K x y H2 Q := by
  replace k : OKo C.P Wx σ H2 (ixS ws) _ := k
  have rm := r.modes
  have fin : ∀ {us : List W} {xs : List V} {i : Int} {w : W} {m : Md} {B' : Av}, RpL C.K C.P H2 Av.nil us xs → (m.isVw = false → RpL C.K C.P H2 B us xs) → (m = .flat → W.isFlats us = true) → atI us i = some w → (∀ v H', Grow H2 H' → Res C.K C.P (elemM m) B H H' w v → Q v H') → ∃ v, atI xs i = some v ∧ Q v H2 :=
    fun {us xs i w m B'} h1 h2 h3 h4 k => by
      unfold atI at h4 ⊢
      rw [RpL.length _ _ h1]
      cases q : ixN us.length i with
      | none => rw [q] at h4; cases h4
      | some j =>
        rw [q] at h4
        have h4 : us[j]? = some w := h4
        obtain ⟨v, e1, e2⟩ := h1.get h4
        refine ⟨v, e1, k v H2 (Grow.refl _) ?_⟩
        cases m with
        | vw => exact Res.vw e2
        | flat => exact Res.flat (isFlats_mem.mp (h3 rfl) w (List.mem_of_getElem? h4)) e2
        | fr d =>
          obtain ⟨v', e1', e2'⟩ := (h2 rfl).get h4
          rw [e1] at e1'
          cases e1'
          exact Res.cl e2'
  unfold ixS at k
  split at k
  · rename_i us i
    obtain ⟨m, n, rfl⟩ := two_mode rm
    obtain ⟨x, y, rfl, h1, h2⟩ := r.view.two_inv
    rw [rp_int h2] at r ⊢
    obtain ⟨p, xs, rfl, _, h3, h4, h5⟩ := rp_lst h1
    cases q : atI us i with
    | none => rw [q] at k; exact k.elim
    | some w =>
      rw [q] at k
      obtain ⟨v, e1, e2⟩ := fin (m := m) (B' := B) h5 (fun hm => by
        obtain ⟨p', xs', e, _, g3, _, g5⟩ := rp_lst (r.headCl hB hm)
        cases e
        rw [h3] at g3
        cases g3
        exact g5) (fun hm => by
        subst hm
        obtain ⟨F, nd, fr, qq⟩ := r
        obtain ⟨F1, F2, e, q1, _⟩ := qq.head
        have := q1.2.1
        unfold W.isFlat at this
        cases this) q k
      exact ⟨_, _, rfl, Or.inl ⟨p, xs, i, v, rfl, rfl, SqL.of h3, e1, e2⟩⟩
  · rename_i us i
    obtain ⟨m, n, rfl⟩ := two_mode rm
    obtain ⟨x, y, rfl, h1, h2⟩ := r.view.two_inv
    rw [rp_int h2] at r ⊢
    obtain ⟨p, xs, rfl, h3, h4, h5⟩ := rp_tup h1
    cases q : atI us i with
    | none => rw [q] at k; exact k.elim
    | some w =>
      rw [q] at k
      obtain ⟨v, e1, e2⟩ := fin (m := m) (B' := B) h5 (fun hm => by
        obtain ⟨p', xs', e, g3, _, g5⟩ := rp_tup (r.headCl hB hm)
        cases e
        rw [h3] at g3
        cases g3
        exact g5) (fun hm => by
        subst hm
        obtain ⟨F, nd, fr, qq⟩ := r
        obtain ⟨F1, F2, e, q1, _⟩ := qq.head
        have := q1.2.1
        unfold W.isFlat at this
        exact this) q k
      exact ⟨_, _, rfl, Or.inr (Or.inl ⟨p, xs, i, v, rfl, rfl, SqT.of h3, e1, e2⟩)⟩
  · exact k.elim
/-! ### instances -/
theorem rp_ins {K : PySem.W.Frag} {P : Pl} {c : Nat} {ws : List W} {v : V} (h : Rp K P H B (.ins c ws) v) : ∃ a dx xs, v = .ref a ∧ ¬ B a ∧ H a = some (.ins (P.cad c) dx ((P.fld c).zip xs)) ∧ xs.length = (P.fld c).length ∧ RpL K P H B ws xs := by
  unfold Rp at h
  exact h
theorem o_fld {c : Nat} (hB : ∀ a, B a → H a ≠ none) (r : ResL C.K C.P mds B H H2 ws vs) (k : KOp C Wx σ H H2 B mds (.fld c) ws Q) : ∃ a dx y, vs = [.ref a] ∧ (C.P.fld c).length = 1 ∧ H2 a = some (.ins (C.P.cad c) dx ((C.P.fld c).zip [y])) ∧ Q y H2 := by
  replace k : OKo C.P Wx σ H2 (fldS c ws) _ := k
  have rm := r.modes
  unfold fldS at k
  split at k
  · rename_i d u
    split at k
    · rename_i e
      subst e
      obtain ⟨x, rfl, h1⟩ := r.view.one_inv
      obtain ⟨a, dx, xs, rfl, _, h2, h3, h4⟩ := rp_ins h1
      obtain ⟨y, rfl, h5⟩ := h4.one_inv
      refine ⟨a, dx, y, rfl, h3.symm, h2, ?_⟩
      obtain ⟨m, rfl⟩ := one_mode rm
      refine k y H2 (Grow.refl _) ?_
      show Res _ _ (elemM m) _ _ _ _ _
      cases m with
      | vw => exact Res.vw h5
      | flat =>
        obtain ⟨F, nd, fr, qq⟩ := r
        obtain ⟨F1, F2, e, q1, _⟩ := qq.head
        have := q1.2.1
        unfold W.isFlat at this
        cases this
      | fr dd =>
        obtain ⟨a', dx', xs', e, _, g2, _, g4⟩ := rp_ins (r.headCl hB rfl)
        cases e
        rw [h2] at g2
        have e2 : (C.P.fld d).zip [y] = (C.P.fld d).zip xs' := by injection g2 with g2; injection g2
        obtain ⟨y', rfl, g5⟩ := g4.one_inv
        have : y = y' := by
          have hl : (C.P.fld d).length = 1 := h3.symm
          cases hf : C.P.fld d with
          | nil => rw [hf] at hl; cases hl
          | cons f fs =>
            rw [hf] at e2
            simp at e2
            exact e2
        subst this
        exact Res.cl g5
    · exact k.elim
  · exact k.elim
theorem o_isc {ts : List (Nat × Bool)} (r : ResL C.K C.P mds B H H2 ws vs) (k : KOp C Wx σ H H2 B mds (.isc ts) ws Q) : ∃ a dx d fs b, vs = [.ref a] ∧ H2 a = some (.ins (C.P.cad d) dx fs) ∧ (d, b) ∈ ts ∧ Q (.bl b) H2 := by
  replace k : OKo C.P Wx σ H2 (iscS ts ws) _ := k
  unfold iscS at k
  split at k
  · rename_i d us
    obtain ⟨x, rfl, h1⟩ := r.view.one_inv
    obtain ⟨a, dx, xs, rfl, _, h2, h3, h4⟩ := rp_ins h1
    cases q : ts.lookup d with
    | none => rw [q] at k; exact k.elim
    | some b =>
      rw [q] at k
      refine ⟨a, dx, d, _, b, rfl, h2, ?_, fin_bl k⟩
      have key : ∀ l : List (Nat × Bool), l.lookup d = some b → (d, b) ∈ l := by
        intro l
        induction l with
        | nil => intro z; cases z
        | cons p l ih =>
          intro z
          obtain ⟨e, c⟩ := p
          rw [List.lookup_cons] at z
          by_cases h : (d == e) = true
          · rw [h] at z
            cases z
            rw [beq_iff_eq] at h
            rw [h]
            exact List.mem_cons_self
          · rw [Bool.not_eq_true] at h
            rw [h] at z
            exact List.mem_cons_of_mem _ (ih z)
      exact key ts q
  · exact k.elim
end
end Mx
/-! # Mx5: the expressions of a text against the small language: readings -/
namespace Mx
open PySem L2 PyProof.Rows
section
variable {C : Cc} {ms : List Md} {Wx : WX} {σ : L2.St} {H : Hp}
theorem OKo.mono {P : Pl} {o : O} {k k' : W → Prop} (h : ∀ w, k w → k' w) (q : OKo P Wx σ H o k) : OKo P Wx σ H o k' := by
  cases o with
  | val w => exact h w q
  | exc c => exact q
  | bad => exact q
theorem SpE.mono {e : E} {Q Q' : VK} (h : ∀ v H, Q v H → Q' v H) (q : SpE C ms Wx e σ H Q) : SpE C ms Wx e σ H Q' := by
  obtain ⟨B, F, Sg, r, k⟩ := q
  exact ⟨B, F, Sg, r, k.mono fun w k v H' g rs => h v H' (k v H' g rs)⟩
theorem SpA.mono {e : List E} {Q Q' : List V → Hp → Prop} (h : ∀ v H, Q v H → Q' v H) (q : SpA C ms Wx e σ H Q) : SpA C ms Wx e σ H Q' := by
  obtain ⟨B, F, Sg, r, k⟩ := q
  refine ⟨B, F, Sg, r, ?_⟩
  cases e1 : evs C.cf C.cs e Sg with
  | bad => rw [e1] at k; exact k
  | exc c => rw [e1] at k; exact k
  | vals ws => rw [e1] at k; exact fun v H' g rs => h v H' (k v H' g rs)
/-- a two-place operation -/
theorem bin2 {o : Op} {r : R2} {a b : E} {Q : VK}
    (hop : ∀ {B : Av} {H H2 : Hp} {mds : List Md} {ws : List W} {vs : List V} {Q : VK}, (∀ a, B a → H a ≠ none) → Grow H H2 → ResL C.K C.P mds B H H2 ws vs → KOp C Wx σ H H2 B mds o ws Q → ∃ x y, vs = [x, y] ∧ r x y H2 Q)
    (h : SpE C ms Wx (.op o [a, b]) σ H Q) : tOp r (SpE C ms Wx a) (SpE C ms Wx b) σ H Q := by
  have h1 := SpA_two (Sp_op (es := [a, b]) (f := opS o) (fun _ => by simp only [ev]) (R := fun vs H2 => ∃ x y, vs = [x, y] ∧ r x y H2 Q) (fun B ws vs H2 hB g r k => hop hB g r (by unfold mdE at k; exact k)) h)
  refine SpE.mono (fun x H1 q => SpE.mono (fun y H2 q => ?_) q) h1
  obtain ⟨x', y', e, q⟩ := q
  cases e
  exact q
/-- a one-place one -/
theorem un1 {o : Op} {r : V → Hp → VK → Prop} {a : E} {Q : VK}
    (hop : ∀ {B : Av} {H H2 : Hp} {mds : List Md} {ws : List W} {vs : List V} {Q : VK}, (∀ a, B a → H a ≠ none) → Grow H H2 → ResL C.K C.P mds B H H2 ws vs → KOp C Wx σ H H2 B mds o ws Q → ∃ x, vs = [x] ∧ r x H2 Q)
    (h : SpE C ms Wx (.op o [a]) σ H Q) : tUn r (SpE C ms Wx a) σ H Q := by
  have h1 := SpA_one (Sp_op (es := [a]) (f := opS o) (fun _ => by simp only [ev]) (R := fun vs H2 => ∃ x, vs = [x] ∧ r x H2 Q) (fun B ws vs H2 hB g r k => hop hB g r (by unfold mdE at k; exact k)) h)
  refine SpE.mono (fun x H1 q => ?_) h1
  obtain ⟨x', e, q⟩ := q
  cases e
  exact q
/-- a call of a built-in -/
theorem call1 {o : Op} {r : List V → Hp → VK → Prop} {es : List E} {Q : VK}
    (hop : ∀ {B : Av} {H H2 : Hp} {mds : List Md} {ws : List W} {vs : List V} {Q : VK}, (∀ a, B a → H a ≠ none) → Grow H H2 → ResL C.K C.P mds B H H2 ws vs → KOp C Wx σ H H2 B mds o ws Q → r vs H2 Q)
    (h : SpE C ms Wx (.op o es) σ H Q) : tCB r (SpA C ms Wx es) σ H Q :=
  Sp_op (es := es) (f := opS o) (fun _ => by simp only [ev]) (R := fun vs H2 => r vs H2 Q) (fun B ws vs H2 hB g r k => hop hB g r (by unfold mdE at k; exact k)) h
/-- a test, by its value -/
theorem test1 {e : E} {t : TE} (h : ∀ σ H Q, SpE C ms Wx e σ H Q → t σ H Q) : ∀ σ H Q, SpT C ms Wx e σ H Q → tTest t σ H Q := fun σ H Q q => by
  refine h σ H _ ?_
  obtain ⟨B, F, Sg, r, k⟩ := q
  refine ⟨B, F, Sg, r, k.mono fun w q v H' g rs => ?_⟩
  obtain ⟨b, rfl, q⟩ := q
  have := rs.view
  unfold Rp at this
  exact ⟨b, this, q H' g⟩
theorem SpT.ofE {e : E} {Q : Bool → Hp → Prop} (q : SpT C ms Wx e σ H Q) : SpE C ms Wx e σ H fun v H' => ∃ b, v = .bl b ∧ Q b H' := by
  obtain ⟨B, F, Sg, r, k⟩ := q
  refine ⟨B, F, Sg, r, k.mono fun w q v H' g rs => ?_⟩
  obtain ⟨b, rfl, q⟩ := q
  have := rs.view
  unfold Rp at this
  exact ⟨b, this, q H' g⟩
end
/-! ## what the checker knows of a block -/
structure Ck where
  N : List Str
  sc : Scope
  fnB : Str → Bool
  gf : List (Str × Nat × Nat)
  gc : List (Str × Nat)
  /-- classes made with arguments, without; what isinstance says of an own class's instances; fields -/
  gk : List (Str × Nat × Nat) := []
  gz : List (Str × Nat) := []
  gi : List (Str × Nat × Bool) := []
  ga : List (Str × Nat) := []
def Ck.blk (c : Ck) (scope : Scope) : Ck := { c with sc := relS scope c.sc, fnB := fun x => scope.names.lookup x == some .cell }
def kindIs (c : Ck) (x : Str) (k : NameKind) : Bool := decide (c.sc.names.lookup x = some k)
def visB (c : Ck) (x : Str) : Bool := (kindIs c x .local || kindIs c x .cell || kindIs c x .free) && !decide (x = "__debug__") && !decide (x = "__classdict__")
def glbB (c : Ck) (x : Str) : Bool := kindIs c x .globalImplicit && !decide (x = "__debug__")
def stoB (c : Ck) (x : Str) : Bool := kindIs c x .local || (kindIs c x .cell && c.fnB x)
def isStar : Expr → Bool
  | .Starred .. => true
  | _ => false
def isSet : Expr → Bool
  | .Set .. => true
  | _ => false
def isSlice : Expr → Bool
  | .Slice .. => true
  | _ => false
def plainT : Expr → Bool
  | .UnaryOp .Not _ _ => false
  | .BoolOp .. | .IfExp .. | .Compare .. => false
  | _ => true
def opBin : Op → Option Operator
  | .add => some .Add | .sub => some .Sub | .mul => some .Mult | .fdiv => some .FloorDiv | .mod => some .Mod | .pow => some .Pow | .cat _ => some .Add | .rep _ => some .Mult
  | _ => none
def opCmp : Op → Option CmpOp
  | .eq => some .Eq | .ne => some .NotEq | .lt => some .Lt | .le => some .LtE | .gt => some .Gt | .ge => some .GtE | .isin => some .In | .notin => some .NotIn | .isB => some .Is | .notB => some .IsNot
  | _ => none
def opChain : Op → Option CmpOp
  | .lt => some .Lt | .le => some .LtE | .gt => some .Gt | .ge => some .GtE
  | _ => none
def eqOp : Option Operator → Operator → Bool
  | some a, b => decide (a = b)
  | none, _ => false
def eqCm : Option CmpOp → CmpOp → Bool
  | some a, b => decide (a = b)
  | none, _ => false
abbrev binO (o : Operator) (o' : Op) : Bool := eqOp (opBin o') o
abbrev cmpO (o : CmpOp) (o' : Op) : Bool := eqCm (opCmp o') o
abbrev chainO (o : CmpOp) (o' : Op) : Bool := eqCm (opChain o') o
/-- the built-ins by name -/
def bltO : Op → Option (Str × Nat)
  | .len => some ("len", 1) | .sum => some ("sum", 1) | .abs => some ("abs", 1) | .min1 => some ("min", 1) | .max1 => some ("max", 1) | .min2 => some ("min", 2) | .max2 => some ("max", 2)
  | .all1 => some ("all", 1) | .any1 => some ("any", 1) | .sorted => some ("sorted", 1) | .sortedP => some ("sorted", 1) | .int1 => some ("int", 1) | .list _ => some ("list", 1)
  | _ => none
/-- a variable's own value: it never raises -/
def isVr : E → Bool
  | .var _ => true
  | .flat (.var _) => true
  | _ => false
def rgArgs : List Expr → List Expr
  | [.Call _ es _ _] => es
  | _ => []
def isRg (c : Ck) : List Expr → Bool
  | [.Call (.Name y _) [_, _, _] [] _] => decide (y = "range") && glbB c y
  | _ => false
def blNames : List Str := ["len", "sum", "abs", "min", "max", "all", "any", "sorted", "int", "list", "isinstance", "bool", "tuple", "range", "zip", "enumerate"]
def tgOwn (c : Ck) : Expr → Tg → Option (List (Str × Nat))
  | .Name x _, .nm i => some [(x, i)]
  | .Tuple es _ _, .tp is => if es.length = is.length then (es.zip is).mapM fun p => match p.1 with | .Name x _ => some (x, p.2) | _ => none else none
  | _, _ => none
def tgChk (c : Ck) : Expr → Tg → Bool
  | .Name x _, .nm i => decide (c.N[i]? = some x) && stoB c x
  | .Tuple es _ _, .tp is => decide (es.length = is.length) && (es.zip is).all fun p => match p.1 with | .Name x _ => decide (c.N[p.2]? = some x) && stoB c x | _ => false
  | _, _ => false
def isIfE : Expr → Bool
  | .IfExp .. => true
  | _ => false
def isTupE : Expr → Bool
  | .Tuple .. => true
  | _ => false
mutual
def chkE : Nat → Ck → Expr → E → Bool
  | 0, _, _, _ => false
  | n + 1, c, e, .flat i => chkE n c e i
  | n + 1, c, .Name x _, .var k => decide (c.N[k]? = some x) && visB c x
  | n + 1, c, .Name x _, .gci k => decide ((x, k) ∈ c.gc) && glbB c x
  | n + 1, c, .Constant (.int j) _ _, .cst (.int i) => decide (j = i)
  | n + 1, c, .Constant (.bool j) _ _, .cst (.bl i) => decide (j = i)
  | n + 1, c, .Constant .none _ _, .cst .non => true
  | n + 1, c, .Constant (.str j) _ _, .cst (.str i) => decide (j = i)
  | n + 1, c, .BinOp a o b _, .op o' [ia, ib] => binO o o' && chkE n c a ia && chkE n c b ib
  | n + 1, c, .UnaryOp .USub a _, .op .neg [ia] => chkE n c a ia
  | n + 1, c, .UnaryOp .Not a _, .not ia => chkE n c a ia && !isIfE a
  | n + 1, c, .Compare a [.Is] [.Constant .none _ _] _, .op .isN [ia] => chkE n c a ia
  | n + 1, c, .Compare a [.IsNot] [.Constant .none _ _] _, .op .notN [ia] => chkE n c a ia
  | n + 1, c, .Compare a [o] [b] _, .op o' [ia, ib] => cmpO o o' && !isSet b && chkE n c a ia && chkE n c b ib
  | n + 1, c, .Compare a [o1, o2] [b, d] _, .chain o1' o2' ia ib id => chainO o1 o1' && chainO o2 o2' && chkE n c a ia && chkE n c b ib && chkE n c d id
  | n + 1, c, .Compare a [o1, o2, o3] [b, d, g] _, .chain3 o1' o2' o3' ia ib id ig => chainO o1 o1' && chainO o2 o2' && chainO o3 o3' && chkE n c a ia && chkE n c b ib && chkE n c d id && chkE n c g ig
  | n + 1, c, .BoolOp .And es _, .and is => chkEs n c es is && !es.isEmpty && !es.any isIfE
  | n + 1, c, .BoolOp .Or es _, .or is => chkEs n c es is && !es.isEmpty && !es.any isIfE
  | n + 1, c, .IfExp t a b _, .ifx it ia ib => chkE n c t it && chkE n c a ia && chkE n c b ib && !isIfE t
  | n + 1, c, .Tuple es _ _, .tup is => chkEs n c es is && decide (es.length ≤ 1000)
  | n + 1, c, .List es _, .lst is => chkEs n c es is && decide (es.length ≤ 1000)
  | n + 1, c, .Subscript a (.Slice (some l) none none _) _, .op (.slcA _) [ia, il] => chkE n c a ia && chkE n c l il
  | n + 1, c, .Subscript a (.Slice none (some u) none _) _, .op (.slcB _) [ia, iu] => chkE n c a ia && chkE n c u iu
  | n + 1, c, .Subscript a (.Slice none none (some (.UnaryOp .USub (.Constant (.int 1) _ _) _)) _) _, .op (.rev _) [ia] => chkE n c a ia
  | n + 1, c, .Subscript a b _, .op .ix [ia, ib] => !isSlice b && chkE n c a ia && chkE n c b ib
  | n + 1, c, .Call (.Name x _) [a, .Name y _] [] _, .op (.isi t) [ia] => decide (x = "isinstance") && decide (y = Str.ofString (tyNm t)) && decide (t < 4) && glbB c x && glbB c y && !isStar a && chkE n c a ia
  | n + 1, c, .Call (.Name x _) [a, .Name y _] [] _, .op (.isc ts) [ia] => decide (x = "isinstance") && glbB c x && glbB c y && !isStar a && chkE n c a ia && (ts.all (fun p => decide ((y, p.1, p.2) ∈ c.gi)) && decide (ts ≠ []))
  | n + 1, c, .Attribute (.Name x p) f _, .op (.fld k) [ia] => decide ((f, k) ∈ c.ga) && chkE n c (.Name x p) ia
  | n + 1, c, .Call (.Attribute (.Name x p) f ap) [.Name y p2] [] cp, .op .index [ia, ib] => decide (f = "index") && (ap.endLine == cp.line) && isVr ib && chkE n c (.Name x p) ia && chkE n c (.Name y p2) ib
  | n + 1, c, .Call (.Name x _) [.Call (.Name y _) [a] [] _] [] _, .op .rngL [ia] => decide (x = "list") && decide (y = "range") && glbB c x && glbB c y && !isStar a && chkE n c a ia
  | n + 1, c, .Call (.Name x _) es [] _, .call f is => (decide ((x, f, es.length) ∈ c.gf) && !es.isEmpty || decide ((x, f, es.length) ∈ c.gk) && !es.isEmpty || decide ((x, f) ∈ c.gz) && es.isEmpty) && glbB c x && chkEs n c es is
  | n + 1, c, .Call (.Name x _) es [] _, .op o is => (match bltO o with | some (y, k) => decide (x = y) && decide (es.length = k) && chkEs n c es is | none => decide (o = .rng3) && decide (x = "list") && isRg c es && chkEs n c (rgArgs es) is) && glbB c x && !es.isEmpty
  | n + 1, c, .ListComp elt [⟨tg, iter, ifs, 0⟩] scope _, .comp ielt itg iit icond vs => match tgOwn c tg itg with
    | some own => decide (own.map (·.2) = vs) && blkC c.N c.sc scope own && chkIt n c tg iter iit && tgChk (c.blk scope) tg itg && chkE n (c.blk scope) elt ielt && chkO n (c.blk scope) ifs icond && !isSet iter
    | none => false
  | _, _, _, _ => false
def chkEs : Nat → Ck → List Expr → List E → Bool
  | 0, _, _, _ => false
  | n + 1, c, [], [] => true
  | n + 1, c, e :: es, i :: is => !isStar e && chkE n c e i && chkEs n c es is
  | _, _, _, _ => false
def chkO : Nat → Ck → List Expr → Option E → Bool
  | 0, _, _, _ => false
  | n + 1, c, [], none => true
  | n + 1, c, [e], some i => chkE n c e i && !isIfE e
  | _, _, _, _ => false
def chkIt : Nat → Ck → Expr → Expr → It → Bool
  | 0, _, _, _, _ => false
  | n + 1, c, tg, e, .lst i => chkE n c e i && !isSet e
  | n + 1, c, tg, .Call (.Name x _) [a] [] _, .rng1 ia => decide (x = "range") && glbB c x && !isStar a && chkE n c a ia
  | n + 1, c, tg, .Call (.Name x _) [a, b] [] _, .rng2 ia ib => decide (x = "range") && glbB c x && !isStar a && !isStar b && chkE n c a ia && chkE n c b ib
  | n + 1, c, tg, .Call (.Name x _) [a, b] [] _, .zip ia ib => decide (x = "zip") && glbB c x && isTupE tg && !isStar a && !isStar b && chkE n c a ia && chkE n c b ib
  | n + 1, c, tg, .Call (.Name x _) [a] [] _, .enum ia => decide (x = "enumerate") && glbB c x && isTupE tg && !isStar a && chkE n c a ia
  | _, _, _, _, _ => false
end
end Mx
/-! # Mx6: calls, displays, comprehensions: readings -/
namespace Mx
open PySem L2 PyProof.Rows
/-! ## all the way down: nothing hangs on B -/
section
variable {K : PySem.W.Frag} {P : Pl} {H : Hp} {B B' : Av}
mutual
theorem Ow.deep : ∀ (w : W) (v : V) (F : List Addr), Ow K P H B none w v F → Ow K P H B' none w v F
  | .non, v, F, h => by unfold Ow at *; exact h
  | .bl _, v, F, h => by unfold Ow at *; exact h
  | .int _, v, F, h => by unfold Ow at *; exact h
  | .str _, v, F, h => by unfold Ow at *; exact h
  | .fn _, v, F, h => by unfold Ow at *; exact h
  | .scr _, v, F, h => by unfold Ow at *; exact ⟨h.1, Rp.flat _ _ rfl h.2⟩
  | .tup ws, v, F, h => by
    unfold Ow at *
    rw [if_neg (by intro z; cases z)] at h
    rw [if_neg (by intro z; cases z)]
    obtain ⟨a, xs, e, h1, h2, h3⟩ := h
    exact ⟨a, xs, e, h1, h2, OwL.deep ws xs F h3⟩
  | .lst ws, v, F, h => by
    unfold Ow at *
    rw [if_neg (by intro z; cases z)] at h
    rw [if_neg (by intro z; cases z)]
    obtain ⟨a, xs, F', e, h1, h2, h3, h4⟩ := h
    exact ⟨a, xs, F', e, h1, h2, h3, OwL.deep ws xs F' h4⟩
  | .ins c ws, v, F, h => by
    unfold Ow at *
    rw [if_neg (by intro z; cases z)] at h
    rw [if_neg (by intro z; cases z)]
    obtain ⟨a, dx, xs, F', e, h1, h2, h3, h4⟩ := h
    exact ⟨a, dx, xs, F', e, h1, h2, h3, OwL.deep ws xs F' h4⟩
  | .dic kvs, v, F, h => by
    unfold Ow at *
    rw [if_neg (by intro z; cases z)] at h
    rw [if_neg (by intro z; cases z)]
    exact h
theorem OwL.deep : ∀ (ws : List W) (vs : List V) (F : List Addr), OwL K P H B none ws vs F → OwL K P H B' none ws vs F
  | [], vs, F, h => by unfold OwL at *; exact h
  | w :: ws, vs, F, h => by
    unfold OwL at *
    obtain ⟨v, r, F1, F2, e1, e2, h1, h2⟩ := h
    exact ⟨v, r, F1, F2, e1, e2, Ow.deep w v F1 h1, OwL.deep ws r F2 h2⟩
end
end
section
variable {C : Cc} {ms : List Md} {Wx : WX} {σ : L2.St} {H H2 H' : Hp} {B : Av}
/-- what a def of the table promises: its plain meaning -/
def spD (C : Cc) (id ar : Nat) : Sp := fun vs H Q E => ∃ (B : Av) (ws : List W), ws.length = ar ∧ vs.length = ar ∧ (∀ a, B a → H a ≠ none) ∧ RpL C.K C.P H B ws vs ∧ (match C.cf id ws with
  | .val w => ∀ v H', Grow H H' → Res C.K C.P (C.rm id) B H H' w v → Q v H'
  | .exc c => ∀ H', Grow H H' → E (.ref (C.P.cad c)) none H'
  | .bad => False)
theorem meets_vw : ∀ {ms : List Md}, (meets ms).isVw = false → ∀ m ∈ ms, m.isVw = false
  | [], _, _, h => nomatch h
  | m :: ms, h, n, hn => by
    have h1 : m.isVw = false := by
      cases m with
      | vw => cases h
      | _ => rfl
    have h2 : (meets ms).isVw = false := by
      unfold meets at h
      cases q : meets ms with
      | vw => rw [q] at h; cases m <;> cases h
      | _ => rfl
    rcases List.mem_cons.mp hn with rfl | hn
    · exact h1
    · exact meets_vw h2 n hn
theorem ROwL.toCl : ∀ {ms : List Md} {ws : List W} {vs : List V} {F F1 : List Addr}, (∀ a, B a → H a ≠ none) → (∀ a ∈ F, H a = none) → (∀ a ∈ F1, a ∈ F) → (∀ m ∈ ms, m.isVw = false) → ROwL C.K C.P H2 (B.or F) ms ws vs F1 → RpL C.K C.P H2 B ws vs
  | [], ws, vs, F, F1, hB, fr, sub, hm, h => by rw [h.1, h.2.1]; exact RpL.nil
  | m :: ms, ws, vs, F, F1, hB, fr, sub, hm, h => by
    obtain ⟨w, wr, v, vr, G1, G2, rfl, rfl, rfl, h1, h2⟩ := h
    exact RpL.cons (ROw.toCl hB fr (fun a ha => sub a (List.mem_append_left _ ha)) (hm m List.mem_cons_self) h1) (ROwL.toCl hB fr (fun a ha => sub a (List.mem_append_right _ ha)) (fun n hn => hm n (List.mem_cons_of_mem _ hn)) h2)
theorem ResL.toCl {ms : List Md} {ws : List W} {vs : List V} (hB : ∀ a, B a → H a ≠ none) (hm : (meets ms).isVw = false) (h : ResL C.K C.P ms B H H2 ws vs) : RpL C.K C.P H2 B ws vs := by
  obtain ⟨F, nd, fr, q⟩ := h
  exact ROwL.toCl hB fr (fun _ h => h) (meets_vw hm) q
theorem Res.older {m : Md} {w : W} {v : V} (g : Grow H H2) (h : Res C.K C.P m B H2 H' w v) : Res C.K C.P m B H H' w v := by
  obtain ⟨F, nd, fr, q⟩ := h
  exact ⟨F, nd, fun a ha => g.free (fr a ha), q⟩
theorem sp_call {f : Nat} {es : List E} {Q : VK} (h : SpE C ms Wx (.call f es) σ H Q) : SpA C ms Wx es σ H fun vs H2 => spD C f vs.length vs H2 Q (WE Wx σ) := by
  refine Sp_op (es := es) (f := C.cf f) (fun _ => by simp only [ev]) (fun B ws vs H2 hB g r k => ?_) h
  have hB2 : ∀ a, B a → H2 a ≠ none := fun a q => g.dom (hB a q)
  have hl := RpL.length _ _ r.view
  unfold mdE at k
  by_cases hm : (meets (mdEs C.rm ms es)).isVw = false
  · refine ⟨B, ws, hl.symm, rfl, hB2, r.toCl hB hm, ?_⟩
    cases e : C.cf f ws with
    | bad => rw [e] at k; exact k.elim
    | exc c => rw [e] at k; exact k
    | val w =>
      rw [e] at k
      intro v H' g2 rs
      refine k v H' g2 ?_
      have e2 : callM (C.rm f) (mdEs C.rm ms es) = C.rm f := by
        unfold callM
        cases C.rm f with
        | vw => rfl
        | flat => rfl
        | fr d =>
          cases d with
          | none => rfl
          | some d =>
            show (if _ then _ else _) = _
            rw [hm]
            rfl
      rw [e2]
      exact rs.older g
  · have hm : (meets (mdEs C.rm ms es)).isVw = true := by simpa using hm
    refine ⟨Av.nil, ws, hl.symm, rfl, fun a q => q.elim, r.view, ?_⟩
    cases e : C.cf f ws with
    | bad => rw [e] at k; exact k.elim
    | exc c => rw [e] at k; exact k
    | val w =>
      rw [e] at k
      intro v H' g2 rs
      refine k v H' g2 ?_
      unfold callM
      cases e3 : C.rm f with
      | vw => exact Res.vw rs.view
      | flat =>
        rw [e3] at rs
        obtain ⟨F, nd, fr, q⟩ := rs
        exact ⟨[], List.nodup_nil, by simp, rfl, q.2⟩
      | fr d =>
        cases d with
        | none =>
          rw [e3] at rs
          obtain ⟨F, nd, fr, q⟩ := rs
          exact ⟨F, nd, fun a ha => g.free (fr a ha), Ow.deep _ _ _ q⟩
        | some d =>
          show Res C.K C.P (if _ then _ else _) B H H' w v
          rw [hm]
          exact Res.vw rs.view
/-! ## displays -/
theorem meets_owL : ∀ {ms : List Md} {ws : List W} {vs : List V} {F : List Addr} {k : Option Nat}, meets ms = .fr k → F.Nodup → (∀ a ∈ F, ¬ B a) → ROwL C.K C.P H2 (B.or F) ms ws vs F → ∃ F', F'.Sublist F ∧ OwL C.K C.P H2 (B.or F') k ws vs F' := by
  -- every part taken to the common depth
  have one : ∀ {m : Md} {k : Option Nat} {w : W} {v : V} {F : List Addr} {E : Av}, mle (.fr k) m = true → F.Nodup → (∀ a ∈ F, ¬ E a) → ROw C.K C.P H2 (E.or F) m w v F → ∃ F', F'.Sublist F ∧ Ow C.K C.P H2 (E.or F') k w v F' := fun {m k w v F E} hm nd ne h => by
    cases m with
    | vw => cases hm
    | flat => exact ⟨[], List.nil_sublist _, Ow.flat _ _ _ h.2.1 (Rp.flat _ _ h.2.1 h.2.2)⟩
    | fr d => exact Ow.less k d w v F E hm nd ne (fun a q => Or.inl q) (fun a ha => Or.inr ha) h
  have many : ∀ {ms : List Md} {k : Option Nat} {ws : List W} {vs : List V} {F : List Addr} {E : Av}, (∀ m ∈ ms, mle (.fr k) m = true) → F.Nodup → (∀ a ∈ F, ¬ E a) → ROwL C.K C.P H2 (E.or F) ms ws vs F → ∃ F', F'.Sublist F ∧ OwL C.K C.P H2 (E.or F') k ws vs F' := by
    intro ms
    induction ms with
    | nil =>
      intro k ws vs F E hm nd ne h
      obtain ⟨rfl, rfl, rfl⟩ := h
      exact ⟨[], List.nil_sublist _, by unfold OwL; exact ⟨rfl, rfl⟩⟩
    | cons m ms ih =>
      intro k ws vs F E hm nd ne h
      obtain ⟨w, wr, v, vr, F1, F2, rfl, rfl, rfl, h1, h2⟩ := h
      obtain ⟨n1, n2, n3⟩ := List.nodup_append.mp nd
      obtain ⟨G1, s1, o1⟩ := one (E := E.or F2) (hm m List.mem_cons_self) n1 (fun a ha q => q.elim (ne a (List.mem_append_left _ ha)) fun z => n3 a ha a z rfl)
        (h1.mono (Grow.refl _) fun a _ q => q.elim (fun q => q.elim Or.inl (fun q => Or.inr (List.mem_append_right _ q))) (fun q => Or.inr (List.mem_append_left _ q)))
      obtain ⟨G2, s2, o2⟩ := ih (k := k) (E := E.or F1) (fun n hn => hm n (List.mem_cons_of_mem _ hn)) n2 (fun a ha q => q.elim (ne a (List.mem_append_right _ ha)) fun z => n3 a z a ha rfl)
        (h2.mono (Grow.refl _) fun a _ q => q.elim (fun q => q.elim Or.inl (fun q => Or.inr (List.mem_append_left _ q))) (fun q => Or.inr (List.mem_append_right _ q)))
      refine ⟨G1 ++ G2, s1.append s2, ?_⟩
      have p1 := o1.avoid (B' := E.or (G1 ++ G2)) fun a q => q.elim (fun q => Or.inl (Or.inl q)) fun q => (List.mem_append.mp q).elim Or.inr fun q => Or.inl (Or.inr (s2.subset q))
      have p2 := o2.avoid (B' := E.or (G1 ++ G2)) fun a q => q.elim (fun q => Or.inl (Or.inl q)) fun q => (List.mem_append.mp q).elim (fun q => Or.inl (Or.inr (s1.subset q))) Or.inr
      unfold OwL
      exact ⟨v, vr, G1, G2, rfl, rfl, p1, p2⟩
  have all : ∀ {ms : List Md} {k : Option Nat}, mle (.fr k) (meets ms) = true → ∀ m ∈ ms, mle (.fr k) m = true := by
    intro ms
    induction ms with
    | nil => intro k h m hm; cases hm
    | cons n ms ih =>
      intro k h m hm
      have tr : ∀ {x y z : Md}, mle x y = true → mle y z = true → mle x z = true := fun {x y z} a b => by
        cases x with
        | vw => rfl
        | flat =>
          cases y with
          | flat => exact b
          | _ => cases a
        | fr i =>
          cases y with
          | vw => cases a
          | flat =>
            cases z with
            | flat => rfl
            | _ => cases b
          | fr j =>
            cases z with
            | vw => cases b
            | flat => rfl
            | fr l => cases i <;> cases j <;> cases l <;> simp_all [mle, dle] <;> omega
      rcases List.mem_cons.mp hm with rfl | hm
      · exact tr h (mle_meet_l _ _)
      · exact ih (tr h (mle_meet_r _ _)) m hm
  intro ms ws vs F k hk nd ne h
  refine many (all ?_) nd ne h
  rw [hk]
  cases k <;> simp [mle, dle]
theorem meets_flat : ∀ {ms : List Md} {ws : List W} {vs : List V} {F : List Addr}, meets ms = .flat → ROwL C.K C.P H2 B ms ws vs F → W.isFlats ws = true ∧ F = []
  | [], ws, vs, F, _, h => by rw [h.1, h.2.2]; exact ⟨rfl, rfl⟩
  | m :: ms, ws, vs, F, e, h => by
    obtain ⟨w, wr, v, vr, F1, F2, rfl, rfl, rfl, h1, h2⟩ := h
    have e1 : m = .flat := by
      unfold meets at e
      cases m with
      | flat => rfl
      | vw => cases e
      | fr d => cases q : meets ms <;> rw [q] at e <;> cases e
    have e2 : meets ms = .flat := by
      unfold meets at e
      rw [e1] at e
      cases q : meets ms with
      | flat => rfl
      | vw => rw [q] at e; cases e
      | fr d => rw [q] at e; cases e
    subst e1
    obtain ⟨i1, i2⟩ := meets_flat e2 h2
    refine ⟨?_, by rw [h1.1, i2]; rfl⟩
    unfold W.isFlats
    rw [h1.2.1, i1]
    rfl
theorem new_tup {ws : List W} {xs : List V} {p : Addr} {Q : VK} {mds : List Md} (hB : ∀ a, B a → H a ≠ none) (g : Grow H H2) (hp : H2 p = none) (hl : ws.length ≤ LIM) (r : ResL C.K C.P mds B H H2 ws xs)
    (k : ∀ v H', Grow H2 H' → Res C.K C.P (tupM mds) B H H' (.tup ws) v → Q v H') : Q (.ref p) (upd H2 p (.tup xs)) := by
  have g2 : Grow H2 (upd H2 p (.tup xs)) := Grow.new hp
  have hv := r.view
  obtain ⟨F, nd, fr, q⟩ := r
  have q' : ROwL C.K C.P (upd H2 p (.tup xs)) (B.or F) mds ws xs F := q.mono g2 fun _ _ z => z
  refine k _ _ g2 ?_
  unfold tupM
  cases e : meets mds with
  | vw =>
    refine Res.vw ?_
    unfold Rp
    exact ⟨p, xs, rfl, upd_same, hl, RpL.mono g2 (fun _ _ z => z) _ _ hv⟩
  | flat =>
    obtain ⟨f1, _⟩ := meets_flat e q
    refine Res.flat (B' := Av.nil) (by unfold W.isFlat; exact f1) ?_
    unfold Rp
    exact ⟨p, xs, rfl, upd_same, hl, RpL.mono g2 (fun _ _ z => z) _ _ hv⟩
  | fr d =>
    obtain ⟨F', s, o⟩ := meets_owL e nd (fun a ha z => hB a z (fr a ha)) q'
    refine ⟨F', s.nodup nd, fun a ha => fr a (s.subset ha), ?_⟩
    show Ow C.K C.P _ _ d (.tup ws) _ _
    by_cases hd : d = some 0
    · subst hd
      refine (Ow.zero _ _ _).mpr ?_
      have z := zeroF ws xs F' o
      refine ⟨z, ?_⟩
      unfold Rp
      exact ⟨p, xs, rfl, upd_same, hl, OwL.rp (fun _ _ z => z) _ _ _ _ (fun a ha => by rw [z] at ha; cases ha) o⟩
    · unfold Ow
      rw [if_neg hd]
      exact ⟨p, xs, rfl, upd_same, hl, o⟩
where
  zeroF {K : PySem.W.Frag} {P : Pl} {H : Hp} {B : Av} : ∀ (ws : List W) (xs : List V) (F : List Addr), OwL K P H B (some 0) ws xs F → F = []
  | [], xs, F, h => by unfold OwL at h; exact h.2
  | w :: ws, xs, F, h => by
    unfold OwL at h
    obtain ⟨v, r, F1, F2, e1, e2, h1, h2⟩ := h
    rw [e2, ((Ow.zero _ _ _).mp h1).1, zeroF ws r F2 h2]
    rfl
theorem new_lst {ws : List W} {xs : List V} {p : Addr} {Q : VK} {mds : List Md} (hB : ∀ a, B a → H a ≠ none) (g : Grow H H2) (hp : H2 p = none) (hl : ws.length ≤ LIM) (r : ResL C.K C.P mds B H H2 ws xs)
    (k : ∀ v H', Grow H2 H' → Res C.K C.P (lstM mds) B H H' (.lst ws) v → Q v H') : Q (.ref p) (upd H2 p (.lst xs)) := by
  have g2 : Grow H2 (upd H2 p (.lst xs)) := Grow.new hp
  have hH : H p = none := g.free hp
  have hv := r.view
  obtain ⟨F, nd, fr, q⟩ := r
  have q' : ROwL C.K C.P (upd H2 p (.lst xs)) ((B.or [p]).or F) mds ws xs F := q.mono g2 fun a ha z => z.elim (fun z => z.elim Or.inl fun z => absurd (by rw [List.mem_singleton.mp z]; exact hp) ha) Or.inr
  have hF := q.dom
  have pF : p ∉ F := fun z => hF p z hp
  refine k _ _ g2 ?_
  unfold lstM
  cases e : meets mds with
  | vw =>
    refine Res.vw ?_
    unfold Rp
    exact ⟨p, xs, rfl, LsR.of upd_same (fun z => z), hl, RpL.mono g2 (fun _ _ z => z) _ _ hv⟩
  | flat =>
    obtain ⟨f1, _⟩ := meets_flat e q
    refine ⟨[p], by simp, fun a ha => by rw [List.mem_singleton.mp ha]; exact hH, ?_⟩
    show Ow C.K C.P _ _ none (.lst ws) _ _
    unfold Ow
    rw [if_neg (by intro z; cases z)]
    exact ⟨p, xs, [], rfl, upd_same, rfl, hl, OwL.flat _ _ _ f1 (RpL.flat _ _ f1 (RpL.mono g2 (fun _ _ z => z) _ _ hv))⟩
  | fr d =>
    obtain ⟨F', s, o⟩ := meets_owL (B := B.or [p]) e nd (fun a ha z => z.elim (fun z => hB a z (fr a ha)) fun z => pF (by rw [← List.mem_singleton.mp z]; exact ha)) q'
    refine ⟨p :: F', List.nodup_cons.mpr ⟨fun z => pF (s.subset z), s.nodup nd⟩, fun a ha => ?_, ?_⟩
    · rcases List.mem_cons.mp ha with rfl | ha
      · exact hH
      · exact fr a (s.subset ha)
    · show Ow C.K C.P _ _ (dsuc d) (.lst ws) _ _
      unfold Ow
      rw [if_neg (by intro z; cases d <;> cases z)]
      have ed : pdp (dsuc d) = d := by cases d <;> simp [dsuc, pdp]
      rw [ed]
      exact ⟨p, xs, F', rfl, upd_same, rfl, hl, o.avoid fun a q => q.elim (fun q => Or.inl (Or.inl q)) fun q => (List.mem_cons.mp q).elim (fun q => Or.inl (Or.inr (by rw [q]; exact List.mem_singleton.mpr rfl))) Or.inr⟩
end
end Mx
/-! # Mx7: what is walked; targets; comprehensions -/
namespace Mx
open PySem L2 PyProof.Rows
/-! ## modes that are in order -/
variable (rmd : Nat → Md) in
mutual
def okE (ms : List Md) : E → Bool
  | .var _ | .cst _ | .gci _ => true
  | .op _ es => okEs ms es
  | .tup es => okEs ms es
  | .lst es => okEs ms es
  | .call _ es => okEs ms es
  | .and es => okEs ms es
  | .or es => okEs ms es
  | .not e => okE ms e
  | .chain _ _ a b c => okE ms a && okE ms b && okE ms c
  | .chain3 _ _ _ a b c d => okE ms a && okE ms b && okE ms c && okE ms d
  | .ifx c a b => okE ms c && okE ms a && okE ms b
  | .comp elt tg it cond vs => okIt ms it && !(mdE rmd (setMs ms tg.ix (itM rmd ms it)) elt).isVw && okE (setMs ms tg.ix (itM rmd ms it)) elt && okO (setMs ms tg.ix (itM rmd ms it)) cond && decide (tg.ix = vs) && decide vs.Nodup
  | .flat e => okE ms e
def okEs (ms : List Md) : List E → Bool
  | [] => true
  | e :: es => okE ms e && okEs ms es
def okO (ms : List Md) : Option E → Bool
  | none => true
  | some e => okE ms e
def okIt (ms : List Md) : It → Bool
  | .lst e => okE ms e
  | .rng1 a => okE ms a
  | .rng2 a b => okE ms a && okE ms b
  | .zip a b => okE ms a && okE ms b
  | .enum a => okE ms a
end
/-! ## wiping -/
theorem wipeW_some {σ : Sg} {i : Nat} {x : W} : ∀ {vs : List Nat}, (wipeW σ vs)[i]? = some (some x) → σ[i]? = some (some x) ∧ i ∉ vs
  | [], h => ⟨h, by simp⟩
  | v :: vs, h => by
    unfold wipeW at h
    by_cases hi : v = i
    · subst hi
      by_cases hv : v < (wipeW σ vs).length
      · rw [List.getElem?_set_self hv] at h; cases h
      · rw [List.getElem?_eq_none (by simpa using hv)] at h; cases h
    · rw [List.getElem?_set_ne hi] at h
      obtain ⟨h1, h2⟩ := wipeW_some h
      exact ⟨h1, by simp only [List.mem_cons, not_or]; exact ⟨fun e => hi e.symm, h2⟩⟩
theorem wipeW_length (σ : Sg) : ∀ vs : List Nat, (wipeW σ vs).length = σ.length
  | [] => rfl
  | v :: vs => by unfold wipeW; rw [List.length_set, wipeW_length σ vs]
theorem wipe_in {σ : L2.St} {i : Nat} : ∀ {vs : List Nat}, i ∈ vs → i < σ.length → (wipe σ vs)[i]? = some none
  | v :: vs, h, hl => by
    unfold wipe
    by_cases hi : v = i
    · subst hi
      rw [List.getElem?_set_self (by rw [wipe_length]; exact hl)]
    · rw [List.getElem?_set_ne hi]
      rcases List.mem_cons.mp h with e | h
      · exact absurd e.symm hi
      · exact wipe_in h hl
theorem wipe_set {σ : L2.St} {i : Nat} {x : Option V} {vs : List Nat} (h : i ∈ vs) : wipe (σ.set i x) vs = wipe σ vs := by
  refine List.ext_getElem? fun j => ?_
  by_cases hj : j ∈ vs
  · by_cases hl : j < σ.length
    · rw [wipe_in hj hl, wipe_in hj (by rw [List.length_set]; exact hl)]
    · rw [List.getElem?_eq_none (by rw [wipe_length, List.length_set]; omega), List.getElem?_eq_none (by rw [wipe_length]; omega)]
  · rw [wipe_out hj, wipe_out hj, List.getElem?_set_ne (show i ≠ j from fun e => hj (by rw [← e]; exact h))]
theorem wipe_wipe {σ : L2.St} {vs : List Nat} : wipe (wipe σ vs) vs = wipe σ vs := by
  refine List.ext_getElem? fun j => ?_
  by_cases hj : j ∈ vs
  · by_cases hl : j < σ.length
    · rw [wipe_in hj hl, wipe_in hj (by rw [wipe_length]; exact hl)]
    · rw [List.getElem?_eq_none (by rw [wipe_length, wipe_length]; omega), List.getElem?_eq_none (by rw [wipe_length]; omega)]
  · rw [wipe_out hj]
/-! ## items -/
section
variable (C : Cc)
/-- an item, of mode m: what it avoids is told from H1 on -/
def IRs (m : Md) (B : Av) (H1 H' : Hp) (w : W) (x : V) : Prop := match m with
  | .vw => Rp C.K C.P H' Av.nil w x
  | .flat => w.isFlat = true ∧ Rp C.K C.P H' Av.nil w x
  | .fr _ => ∀ B' : Av, (∀ a, H1 a ≠ none → B' a → B a) → Rp C.K C.P H' B' w x
structure Src (J : L2.It) (items : List W) (m : Md) (B T : Av) (H1 : Hp) : Prop where
  walk : ∃ Y, Walk J items.length (fun H => Stand T H1 H) Y ∧ ∀ i H x H', i < items.length → Stand T H1 H → Y i H x H' → Grow H H' ∧ ∃ w, items[i]? = some w ∧ IRs C m B H1 H' w x
  len : items.length ≤ LIM
/-- the sources are no views -/
def itNV (rm : Nat → Md) (ms : List Md) : It → Bool
  | .lst e => !(mdE rm ms e).isVw
  | .rng1 _ | .rng2 _ _ => true
  | .zip a b => !(mdE rm ms a).isVw && !(mdE rm ms b).isVw
  | .enum a => !(mdE rm ms a).isVw
def SpI (ms : List Md) (Wx : WX) (it : It) : TI := fun σ H R => ∃ B F Sg, Rel C.K C.P ms B F Sg σ H ∧ (match evIt C.cf C.cs it Sg with
  | some items => ∀ J H1, Grow H H1 → (∀ T : Av, ((∀ a, ¬ T a) ∨ ((∀ a, T a → B a) ∧ itNV C.rm ms it = true)) → Src C J items (itM C.rm ms it) B T H1) → R J H1
  | none => False)
/-- a target -/
def gL : List Nat → TGs
  | [] => gNil
  | i :: is => gCons (gName i) (gL is)
def gT : Tg → TG
  | .nm i => gName i
  | .tp is => gTup C.K is.length (gL is)
end
section
variable {C : Cc} {ms : List Md} {Wx : WX} {σ : L2.St} {H H1 H2 H' : Hp} {B : Av} {F : Nat → List Addr} {Sg : Sg}
theorem IRs.grow {m : Md} {w : W} {x : V} (g : Grow H H') (h : IRs C m B H1 H w x) (g1 : Grow H1 H) : IRs C m B H1 H' w x := by
  cases m with
  | vw => exact Rp.mono g (fun _ _ z => z) _ _ h
  | flat => exact ⟨h.1, Rp.mono g (fun _ _ z => z) _ _ h.2⟩
  | fr k => exact fun B' hb => Rp.mono g (fun _ _ z => z) _ _ (h B' hb)
/-- an item as a slot holds it -/
theorem IRs.row {m : Md} {w : W} {x : V} {B' : Av} (hm : ∀ k, m = .fr k → k = some 0) (hb : ∀ a, H1 a ≠ none → B' a → B a) (h : IRs C m B H1 H w x) : ROw C.K C.P H B' m w x [] := by
  cases m with
  | vw => exact ⟨rfl, h⟩
  | flat => exact ⟨rfl, h.1, h.2⟩
  | fr k =>
    have e := hm k rfl
    subst e
    exact (Ow.zero _ _ _).mpr ⟨rfl, h B' hb⟩
theorem getD_set {α : Type} {l : List α} {i j : Nat} {x d : α} (h : i < l.length) : (l.set i x).getD j d = if j = i then x else l.getD j d := by
  rw [List.getD_eq_getElem?_getD, List.getD_eq_getElem?_getD]
  by_cases e : j = i
  · subst e
    rw [if_pos rfl, List.getElem?_set_self h]
    rfl
  · rw [if_neg e, List.getElem?_set_ne (Ne.symm e)]
/-- a slot set -/
theorem Rel.set {i : Nat} {m : Md} {w : W} {v : V} (r : Rel C.K C.P ms B F Sg σ H) (hi : i < ms.length) (hF : F i = []) (q : ROw C.K C.P H B m w v []) : Rel C.K C.P (ms.set i m) B F (Sg.set i (some w)) (σ.set i (some v)) H where
  slots := fun j u e => by
    by_cases hj : j = i
    · subst hj
      have hl : j < Sg.length := by
        have := (List.getElem?_eq_some_iff.mp e).1
        rwa [List.length_set] at this
      rw [List.getElem?_set_self hl] at e
      cases e
      refine ⟨v, by rw [List.getElem?_set_self (by rw [← r.len]; exact hl)], ?_⟩
      rw [getD_set hi, if_pos rfl, hF]
      exact q
    · rw [List.getElem?_set_ne (Ne.symm hj)] at e
      obtain ⟨x, e1, e2⟩ := r.slots j u e
      refine ⟨x, by rw [List.getElem?_set_ne (Ne.symm hj)]; exact e1, ?_⟩
      rw [getD_set hi, if_neg hj]
      exact e2
  hasB := r.hasB
  nd := r.nd
  inB := r.inB
  dj := r.dj
  len := by rw [List.length_set, List.length_set]; exact r.len
theorem Rel.wipe (r : Rel C.K C.P ms B F Sg σ H) (vs : List Nat) : Rel C.K C.P ms B (fun i => if i ∈ vs then [] else F i) (wipeW Sg vs) (L2.wipe σ vs) H where
  slots := fun j u e => by
    obtain ⟨e1, e2⟩ := wipeW_some e
    obtain ⟨v, e3, e4⟩ := r.slots j u e1
    refine ⟨v, by rw [wipe_out e2]; exact e3, ?_⟩
    rw [if_neg e2]
    exact e4
  hasB := r.hasB
  nd := fun i => by split; exact List.nodup_nil; exact r.nd i
  inB := fun i a ha => by split at ha; cases ha; exact r.inB i a ha
  dj := fun i j a hij h1 h2 => by
    split at h1
    · cases h1
    · split at h2
      · cases h2
      · exact r.dj i j a hij h1 h2
  len := by rw [wipeW_length, wipe_length]; exact r.len
theorem setMs_len : ∀ (ms : List Md) (is : List Nat) (m : Md), (setMs ms is m).length = ms.length
  | ms, [], m => rfl
  | ms, i :: is, m => by unfold setMs; rw [setMs_len, List.length_set]
theorem setAll_rel : ∀ {is : List Nat} {ms : List Md} {Sg Sg' : Mx.Sg} {σ : L2.St} {ws : List W} {xs : List V} {m : Md} {k : L2.St → Hp → Prop}, Rel C.K C.P ms B F Sg σ H → (∀ i ∈ is, i < ms.length ∧ F i = []) → setAll Sg is ws = some Sg' →
    (∀ (j : Nat) (w : W), ws[j]? = some w → ∃ v, xs[j]? = some v ∧ ROw C.K C.P H B m w v []) → xs.length = ws.length →
    (∀ σ', Rel C.K C.P (setMs ms is m) B F Sg' σ' H → (∀ vs, (∀ i ∈ is, i ∈ vs) → L2.wipe σ' vs = L2.wipe σ vs) → k σ' H) → gL is xs σ H k
  | [], ms, Sg, Sg', σ, ws, xs, m, k, r, hi, e, hx, hl, hk => by
    cases ws with
    | cons w ws => unfold setAll at e; cases e
    | nil =>
      unfold setAll at e
      cases e
      cases xs with
      | cons x xs => cases hl
      | nil => exact ⟨rfl, hk σ r fun _ _ => rfl⟩
  | i :: is, ms, Sg, Sg', σ, ws, xs, m, k, r, hi, e, hx, hl, hk => by
    cases ws with
    | nil => unfold setAll at e; cases e
    | cons w ws =>
      unfold setAll at e
      cases xs with
      | nil => cases hl
      | cons x xs =>
        obtain ⟨v, e1, q⟩ := hx 0 w rfl
        cases e1
        refine ⟨x, xs, rfl, ?_⟩
        show gL is xs (σ.set i (some x)) H k
        obtain ⟨h1, h2⟩ := hi i List.mem_cons_self
        refine setAll_rel (m := m) (r.set h1 h2 q) (fun j hj => ⟨by rw [List.length_set]; exact (hi j (List.mem_cons_of_mem _ hj)).1, (hi j (List.mem_cons_of_mem _ hj)).2⟩) e (fun j u ej => hx (j + 1) u ej) (by simpa using hl) fun σ' r' hw => hk σ' r' fun vs hv => ?_
        rw [hw vs fun j hj => hv j (List.mem_cons_of_mem _ hj), wipe_set (hv i List.mem_cons_self)]
/-- a target takes an item -/
theorem tg_rel {tg : Tg} {Sg' : Mx.Sg} {w : W} {x : V} {m : Md} {B1 : Av} {k : L2.St → Hp → Prop} (r : Rel C.K C.P ms B F Sg σ H) (hi : ∀ i ∈ tg.ix, i < ms.length ∧ F i = []) (e : tgS tg w Sg = some Sg') (hm : ∀ d, m = .fr d → d = some 0)
    (hb : ∀ a, H1 a ≠ none → B a → B1 a) (q : IRs C m B1 H1 H w x)
    (hk : ∀ σ', Rel C.K C.P (setMs ms tg.ix m) B F Sg' σ' H → (∀ vs, (∀ i ∈ tg.ix, i ∈ vs) → L2.wipe σ' vs = L2.wipe σ vs) → k σ' H) : gT C tg x σ H k := by
  cases tg with
  | nm i =>
    unfold tgS at e
    cases e
    obtain ⟨h1, h2⟩ := hi i List.mem_cons_self
    exact hk _ (r.set h1 h2 (q.row hm hb)) fun vs hv => wipe_set (hv i List.mem_cons_self)
  | tp is =>
    unfold tgS at e
    cases w with
    | tup ws =>
      have hv : ∃ a xs, x = .ref a ∧ H a = some (.tup xs) ∧ xs.length = ws.length ∧ ∀ (j : Nat) (u : W), ws[j]? = some u → ∃ v, xs[j]? = some v ∧ ROw C.K C.P H B m u v [] := by
        cases m with
        | vw =>
          obtain ⟨a, xs, e1, h1, h2, h3⟩ := rp_tup q
          exact ⟨a, xs, e1, h1, RpL.length _ _ h3, fun j u ej => let ⟨v, e2, e3⟩ := h3.get ej; ⟨v, e2, rfl, e3⟩⟩
        | flat =>
          obtain ⟨a, xs, e1, h1, h2, h3⟩ := rp_tup q.2
          have f := q.1
          unfold W.isFlat at f
          exact ⟨a, xs, e1, h1, RpL.length _ _ h3, fun j u ej => let ⟨v, e2, e3⟩ := h3.get ej; ⟨v, e2, rfl, isFlats_mem.mp f u (List.mem_of_getElem? ej), e3⟩⟩
        | fr d =>
          have ed := hm d rfl
          subst ed
          obtain ⟨a, xs, e1, h1, h2, h3⟩ := rp_tup (q B hb)
          exact ⟨a, xs, e1, h1, RpL.length _ _ h3, fun j u ej => let ⟨v, e2, e3⟩ := h3.get ej; ⟨v, e2, (Ow.zero _ _ _).mpr ⟨rfl, e3⟩⟩⟩
      obtain ⟨a, xs, e1, h1, h2, h3⟩ := hv
      have el : is.length = ws.length := by
        clear hk h3 h1 hi q
        have aux : ∀ {is : List Nat} {ws : List W} {Sg Sg' : Mx.Sg}, setAll Sg is ws = some Sg' → is.length = ws.length := by
          intro is
          induction is with
          | nil => intro ws Sg Sg' e; cases ws with
            | nil => rfl
            | cons w ws => unfold setAll at e; cases e
          | cons i is ih => intro ws Sg Sg' e; cases ws with
            | nil => unfold setAll at e; cases e
            | cons w ws => unfold setAll at e; rw [List.length_cons, List.length_cons, ih e]
        exact aux e
      refine ⟨a, xs, e1, SqT.of h1, by rw [h2, el], ?_⟩
      exact setAll_rel r hi e h3 h2 hk
    | _ => cases e
/-! ## comprehensions -/
theorem compW_cons (f c : W → O) (x : W) (xs : List W) : compW f c (x :: xs) = match c x with
    | .val (.bl true) => (match f x with | .val w => (compW f c xs).map (w :: ·) | _ => none)
    | .val (.bl false) => compW f c xs
    | _ => none := rfl
theorem compW_append (f c : W → O) : ∀ (xs ys : List W), compW f c (xs ++ ys) = match compW f c xs, compW f c ys with | some a, some b => some (a ++ b) | _, _ => none
  | [], ys => by
    rw [List.nil_append]
    show compW f c ys = match some [], compW f c ys with | some a, some b => some (a ++ b) | _, _ => none
    cases compW f c ys <;> rfl
  | x :: xs, ys => by
    rw [List.cons_append, compW_cons, compW_cons, compW_append f c xs ys]
    split
    · split
      · cases compW f c xs <;> cases compW f c ys <;> rfl
      · cases compW f c ys <;> rfl
    · rfl
    · cases compW f c ys <;> rfl
theorem compW_at {f c : W → O} {xs ws : List W} (h : compW f c xs = some ws) {i : Nat} {x : W} (hx : xs[i]? = some x) :
    ∃ b, c x = .val (.bl b) ∧ (b = true → ∃ w, f x = .val w ∧ ∀ us, compW f c (xs.take i) = some us → compW f c (xs.take (i + 1)) = some (us ++ [w])) ∧ (b = false → ∀ us, compW f c (xs.take i) = some us → compW f c (xs.take (i + 1)) = some us) := by
  have hi := (List.getElem?_eq_some_iff.mp hx).1
  have e1 : xs.take (i + 1) = xs.take i ++ [x] := by rw [List.take_add_one, hx]; rfl
  have e2 : xs = xs.take i ++ [x] ++ xs.drop (i + 1) := by rw [← e1, List.take_append_drop]
  rw [e2, compW_append] at h
  have h1 : compW f c (xs.take i ++ [x]) ≠ none := fun z => by rw [z] at h; cases h
  rw [compW_append] at h1
  have h2 : compW f c [x] ≠ none := fun z => by rw [z] at h1; cases q : compW f c (xs.take i) <;> rw [q] at h1 <;> exact h1 rfl
  unfold compW at h2
  cases ec : c x with
  | bad => rw [ec] at h2; exact absurd rfl h2
  | exc d => rw [ec] at h2; exact absurd rfl h2
  | val u =>
    rw [ec] at h2
    cases u with
    | bl b =>
      refine ⟨b, rfl, fun eb => ?_, fun eb us hu => ?_⟩
      · subst eb
        cases ef : f x with
        | bad => rw [ef] at h2; exact absurd rfl h2
        | exc d => rw [ef] at h2; exact absurd rfl h2
        | val w =>
          refine ⟨w, rfl, fun us hu => ?_⟩
          have hc : compW f c [x] = some [w] := by simp only [compW, ec, ef, Option.map]
          rw [e1, compW_append, hu, hc]
      · subst eb
        have hc : compW f c [x] = some [] := by simp only [compW, ec]
        rw [e1, compW_append, hu, hc]
        simp
    | _ => exact absurd rfl h2
/-- what has been made so far: the new list at D, its items' own objects F -/
def AccR (C : Cc) (m : Md) (H : Hp) (B : Av) (ws : List W) (xs : List V) (F : List Addr) : Prop := match m with
  | .vw => False
  | .flat => F = [] ∧ W.isFlats ws = true ∧ RpL C.K C.P H Av.nil ws xs
  | .fr k => OwL C.K C.P H B k ws xs F
theorem OwL.snoc {K : PySem.W.Frag} {P : Pl} {k : Option Nat} {w : W} {v : V} {F2 : List Addr} (h : Ow K P H B k w v F2) : ∀ {ws : List W} {vs : List V} {F1 : List Addr}, OwL K P H B k ws vs F1 → OwL K P H B k (ws ++ [w]) (vs ++ [v]) (F1 ++ F2)
  | [], vs, F1, q => by
    unfold OwL at q
    rw [q.1, q.2]
    show OwL K P H B k [w] [v] F2
    unfold OwL
    exact ⟨v, [], F2, [], rfl, by simp, h, by unfold OwL; exact ⟨rfl, rfl⟩⟩
  | u :: ws, vs, F1, q => by
    unfold OwL at q
    obtain ⟨x, r, G1, G2, rfl, rfl, h1, h2⟩ := q
    show OwL K P H B k (u :: (ws ++ [w])) (x :: (r ++ [v])) _
    unfold OwL
    exact ⟨x, r ++ [v], G1, G2 ++ F2, rfl, by simp, h1, OwL.snoc h h2⟩
theorem AccR.len {m : Md} {ws : List W} {xs : List V} {F : List Addr} (h : AccR C m H B ws xs F) : xs.length = ws.length := by
  cases m with
  | vw => exact h.elim
  | flat => exact RpL.length _ _ h.2.2
  | fr k => exact RpL.length _ _ (OwL.rp (B' := Av.nil) (fun _ _ z => z.elim) k ws xs F (fun _ _ z => z) h)
theorem AccR.dom {m : Md} {ws : List W} {xs : List V} {F : List Addr} (h : AccR C m H B ws xs F) : ∀ a ∈ F, H a ≠ none := by
  cases m with
  | vw => exact h.elim
  | flat => rw [h.1]; simp
  | fr k => exact OwL.dom k ws xs F h
theorem AccR.mono {m : Md} {ws : List W} {xs : List V} {F : List Addr} {B' : Av} (g : Grow H H') (hb : ∀ a, H a ≠ none → B' a → B a) (h : AccR C m H B ws xs F) : AccR C m H' B' ws xs F := by
  cases m with
  | vw => exact h.elim
  | flat => exact ⟨h.1, h.2.1, RpL.mono g (fun _ _ z => z) _ _ h.2.2⟩
  | fr k => exact OwL.mono g hb h
theorem AccR.upd {m : Md} {ws : List W} {xs ys : List V} {F : List Addr} {D : Addr} {o : HO} (hD : H D = some (.lst ys)) (hB : B D) (nD : D ∉ F) (h : AccR C m H B ws xs F) : AccR C m (upd H D o) B ws xs F := by
  cases m with
  | vw => exact h.elim
  | flat =>
    refine ⟨h.1, h.2.1, ?_⟩
    have q : RpL C.K C.P H (fun a => a = D) ws xs := RpL.flat _ _ h.2.1 h.2.2
    exact RpL.flat _ _ h.2.1 (RpL.upd (B := fun a => a = D) rfl hD _ _ q)
  | fr k => exact OwL.upd hB hD nD h
theorem AccR.snoc {m : Md} {ws : List W} {xs : List V} {F F2 : List Addr} {w : W} {v : V} (h : AccR C m H B ws xs F) (q : ROw C.K C.P H B m w v F2) : AccR C m H B (ws ++ [w]) (xs ++ [v]) (F ++ F2) := by
  cases m with
  | vw => exact h.elim
  | flat =>
    refine ⟨by rw [h.1, q.1]; rfl, ?_, RpL.append h.2.2 (RpL.one q.2.2)⟩
    rw [isFlats_append, h.2.1]
    unfold W.isFlats
    rw [q.2.1]
    rfl
  | fr k => exact OwL.snoc q h
/-- all made -/
theorem AccR.res {m : Md} {ws : List W} {xs : List V} {F : List Addr} {D : Addr} (hD : H' D = some (.lst xs)) (nd : (D :: F).Nodup) (fr : ∀ a ∈ D :: F, H a = none) (hl : ws.length ≤ LIM) (h : AccR C m H' (B.or (D :: F)) ws xs F) : Res C.K C.P (lstM [m]) B H H' (.lst ws) (.ref D) := by
  cases m with
  | vw => exact h.elim
  | flat =>
    obtain ⟨rfl, h1, h2⟩ := h
    refine ⟨[D], nd, fr, ?_⟩
    show Ow C.K C.P _ _ none (.lst ws) _ _
    unfold Ow
    rw [if_neg (by intro z; cases z)]
    exact ⟨D, xs, [], rfl, hD, rfl, hl, OwL.flat _ _ _ h1 (RpL.flat _ _ h1 h2)⟩
  | fr k =>
    refine ⟨D :: F, nd, fr, ?_⟩
    have e : lstM [Md.fr k] = .fr (dsuc k) := by cases k <;> rfl
    rw [e]
    show Ow C.K C.P _ _ (dsuc k) (.lst ws) _ _
    unfold Ow
    rw [if_neg (by intro z; cases k <;> cases z)]
    have ed : pdp (dsuc k) = k := by cases k <;> simp [dsuc, pdp]
    rw [ed]
    exact ⟨D, xs, F, rfl, hD, rfl, hl, h⟩
theorem itM_zero (it : It) : ∀ d, itM C.rm ms it = .fr d → d = some 0 := by
  have el : ∀ m d, elemM m = .fr d → d = some 0 := fun m d h => by
    cases m with
    | vw => cases h
    | flat => cases h
    | fr k => cases h; rfl
  intro d h
  cases it with
  | lst e => exact el _ _ h
  | rng1 a => cases h
  | rng2 a b => cases h
  | enum a => exact el _ _ h
  | zip a b =>
    unfold itM at h
    cases q1 : elemM (mdE C.rm ms a) with
    | vw => rw [q1] at h; cases h
    | flat => rw [q1] at h; cases q2 : elemM (mdE C.rm ms b) with
      | vw => rw [q2] at h; cases h
      | flat => rw [q2] at h; cases h
      | fr k => rw [q2] at h; cases h; exact el _ _ q2
    | fr j =>
      have ej := el _ _ q1
      subst ej
      rw [q1] at h
      cases q2 : elemM (mdE C.rm ms b) with
      | vw => rw [q2] at h; cases h
      | flat => rw [q2] at h; cases h; rfl
      | fr k =>
        have ek := el _ _ q2
        subst ek
        rw [q2] at h
        cases h
        rfl
/-- what the tests of a comprehension ask -/
def SpO (C : Cc) (ms : List Md) (cond : Option E) : TT := match cond with
  | none => tYes
  | some e => SpT C ms (fun _ _ _ _ => False) e
theorem sp_comp {elt : E} {tg : Tg} {it : It} {cond : Option E} {vs : List Nat} {Q : VK} (hms : ∀ i ∈ vs, i < ms.length) (ok : okE C.rm ms (.comp elt tg it cond vs) = true) (h : SpE C ms Wx (.comp elt tg it cond vs) σ H Q) :
    tLc (SpI C ms Wx it) (gT C tg) (SpO C (setMs ms tg.ix (itM C.rm ms it)) cond) (SpE C (setMs ms tg.ix (itM C.rm ms it)) (fun _ _ _ _ => False) elt) vs σ H Q := by
  unfold okE at ok
  simp only [Bool.and_eq_true, decide_eq_true_eq, Bool.not_eq_true'] at ok
  obtain ⟨⟨⟨⟨⟨ok1, ok2⟩, ok3⟩, ok4⟩, ok5⟩, ok6⟩ := ok
  obtain ⟨B, F, Sg, r, k⟩ := h
  unfold ev at k
  refine ⟨B, F, Sg, r, ?_⟩
  cases e1 : evIt C.cf C.cs it Sg with
  | none => rw [e1] at k; exact k
  | some items =>
    rw [e1] at k
    simp only at k
    intro J H1 g1 src0 D hD
    have src := src0 Av.nil (Or.inl fun _ z => z)
    cases e2 : compW (tgB tg vs Sg fun σ' => ev C.cf C.cs elt σ') (tgB tg vs Sg fun σ' => evO C.cf C.cs cond σ') items with
    | none => rw [e2] at k; exact k.elim
    | some ws =>
      rw [e2] at k
      obtain ⟨Y, wk, hY⟩ := src.walk
      have r1 := (r.grow0 g1).wipe vs
      have hBd : ∀ a, B a → H1 a ≠ none := fun a q => g1.dom (r.hasB a q)
      refine lc_it (σ := σ) wk (fun i Hc => ∃ Fa wsi acc, compW (tgB tg vs Sg fun σ' => ev C.cf C.cs elt σ') (tgB tg vs Sg fun σ' => evO C.cf C.cs cond σ') (items.take i) = some wsi ∧
          Grow H1 Hc ∧ (D :: Fa).Nodup ∧ (∀ a ∈ D :: Fa, H1 a = none) ∧ Hc D = some (.lst acc) ∧ wsi.length ≤ i ∧ AccR C (mdE C.rm (setMs ms tg.ix (itM C.rm ms it)) elt) Hc (B.or (D :: Fa)) wsi acc Fa)
        ⟨[], [], [], rfl, Grow.new hD, by simp, fun a ha => by rw [List.mem_singleton.mp ha]; exact hD, upd_same, Nat.le_refl _, ?_⟩ (fun i Hc _ ⟨_, _, _, _, q, _⟩ => Stand.ofGrow q) ?_ ?_
      · cases q : mdE C.rm (setMs ms tg.ix (itM C.rm ms it)) elt with
        | vw => rw [q] at ok2; cases ok2
        | flat => exact ⟨rfl, rfl, RpL.nil⟩
        | fr d => show OwL _ _ _ _ _ _ _ _; unfold OwL; exact ⟨rfl, rfl⟩
      · rintro i x Hc H' hi ⟨Fa, wsi, acc, hw, gc, nd, fr, hDc, hlen, ha⟩ hy
        obtain ⟨g2, w, ew, irs⟩ := hY i Hc x H' hi (Stand.ofGrow gc) hy
        obtain ⟨b, ec, et, ef⟩ := compW_at e2 ew
        have domA : ∀ a ∈ D :: Fa, Hc a ≠ none := fun a q => (List.mem_cons.mp q).elim (fun q => by rw [q, hDc]; simp) (ha.dom a)
        have g3 : Grow H1 H' := gc.trans g2
        -- the target
        unfold tgB at ec
        have et0 : b = true → ∃ w', tgB tg vs Sg (fun σ' => ev C.cf C.cs elt σ') w = .val w' ∧ ∀ us, compW (tgB tg vs Sg fun σ' => ev C.cf C.cs elt σ') (tgB tg vs Sg fun σ' => evO C.cf C.cs cond σ') (items.take i) = some us → compW (tgB tg vs Sg fun σ' => ev C.cf C.cs elt σ') (tgB tg vs Sg fun σ' => evO C.cf C.cs cond σ') (items.take (i + 1)) = some (us ++ [w']) := et
        cases et1 : tgS tg w (wipeW Sg vs) with
        | none => rw [et1] at ec; cases ec
        | some Sg' =>
          rw [et1] at ec
          simp only at ec
          have et : b = true → ∃ w', ev C.cf C.cs elt Sg' = .val w' ∧ ∀ us, compW (tgB tg vs Sg fun σ' => ev C.cf C.cs elt σ') (tgB tg vs Sg fun σ' => evO C.cf C.cs cond σ') (items.take i) = some us → compW (tgB tg vs Sg fun σ' => ev C.cf C.cs elt σ') (tgB tg vs Sg fun σ' => evO C.cf C.cs cond σ') (items.take (i + 1)) = some (us ++ [w']) := fun eb => by
            obtain ⟨w', h1, h2⟩ := et0 eb
            unfold tgB at h1
            rw [et1] at h1
            exact ⟨w', h1, h2⟩
          have rB : Rel C.K C.P ms (B.or (D :: Fa)) (fun i => if i ∈ vs then [] else F i) (wipeW Sg vs) (L2.wipe σ vs) H' := r1.grow g3 fr fun a q => g2.dom (domA a q)
          refine tg_rel (m := itM C.rm ms it) (H1 := H1) (B1 := B) rB (fun j hj => ?_) et1 (itM_zero it) (fun a ha z => z.elim id fun z => absurd (fr a z) ha) irs fun σ2 r2 hw2 => ⟨?_, ?_⟩
          · rw [ok5] at hj
            exact ⟨hms j hj, if_pos hj⟩
          · rw [hw2 vs (fun j hj => by rw [ok5] at hj; exact hj), wipe_wipe]
          · -- the tests, the element
            have fin : ∀ H3, Grow H' H3 → if b = true then SpE C (setMs ms tg.ix (itM C.rm ms it)) (fun _ _ _ _ => False) elt σ2 H3 fun y H4 => ∃ acc, H4 D = some (.lst acc) ∧ acc.length < sizeLine ∧ ∃ Fa wsi acc', compW (tgB tg vs Sg fun σ' => ev C.cf C.cs elt σ') (tgB tg vs Sg fun σ' => evO C.cf C.cs cond σ') (items.take (i + 1)) = some wsi ∧
                Grow H1 (upd H4 D (.lst (acc ++ [y]))) ∧ (D :: Fa).Nodup ∧ (∀ a ∈ D :: Fa, H1 a = none) ∧ upd H4 D (.lst (acc ++ [y])) D = some (.lst acc') ∧ wsi.length ≤ i + 1 ∧ AccR C (mdE C.rm (setMs ms tg.ix (itM C.rm ms it)) elt) (upd H4 D (.lst (acc ++ [y]))) (B.or (D :: Fa)) wsi acc' Fa
              else ∃ Fa wsi acc', compW (tgB tg vs Sg fun σ' => ev C.cf C.cs elt σ') (tgB tg vs Sg fun σ' => evO C.cf C.cs cond σ') (items.take (i + 1)) = some wsi ∧
                Grow H1 H3 ∧ (D :: Fa).Nodup ∧ (∀ a ∈ D :: Fa, H1 a = none) ∧ H3 D = some (.lst acc') ∧ wsi.length ≤ i + 1 ∧ AccR C (mdE C.rm (setMs ms tg.ix (itM C.rm ms it)) elt) H3 (B.or (D :: Fa)) wsi acc' Fa := fun H3 g4 => by
              cases b with
              | false =>
                refine ⟨Fa, wsi, acc, ef rfl wsi hw, g3.trans g4, nd, fr, g4 _ _ (g2 _ _ hDc), by omega, ha.mono (g2.trans g4) fun _ _ z => z⟩
              | true =>
                obtain ⟨w', ev', en⟩ := et rfl
                show SpE _ _ _ _ _ _ _
                refine ⟨B.or (D :: Fa), _, Sg', r2.grow0 g4, ?_⟩
                rw [ev']
                intro y H4 g5 rs
                obtain ⟨F2, nd2, fr2, q2⟩ := rs
                have gA : Grow Hc H4 := (g2.trans g4).trans g5
                have hD4 : H4 D = some (.lst acc) := gA _ _ hDc
                have d3 : ∀ a ∈ D :: Fa, H3 a ≠ none := fun a q => g4.dom (g2.dom (domA a q))
                have nd' : (D :: (Fa ++ F2)).Nodup := by
                  rw [show D :: (Fa ++ F2) = (D :: Fa) ++ F2 from rfl]
                  exact List.nodup_append.mpr ⟨nd, nd2, fun a q b q' e => d3 a q (fr2 a (e ▸ q'))⟩
                have ha4 : AccR C (mdE C.rm (setMs ms tg.ix (itM C.rm ms it)) elt) H4 (B.or (D :: (Fa ++ F2))) wsi acc Fa := ha.mono gA fun a hd z => by
                  rcases z with z | z
                  · exact Or.inl z
                  · rw [show D :: (Fa ++ F2) = (D :: Fa) ++ F2 from rfl] at z
                    rcases List.mem_append.mp z with z | z
                    · exact Or.inr z
                    · exact absurd (fr2 a z) (g4.dom (g2.dom hd))
                have q3 : ROw C.K C.P H4 (B.or (D :: (Fa ++ F2))) (mdE C.rm (setMs ms tg.ix (itM C.rm ms it)) elt) w' y F2 := q2.mono (Grow.refl _) fun a _ z => by
                  rcases z with z | z
                  · exact Or.inl (Or.inl z)
                  · rw [show D :: (Fa ++ F2) = (D :: Fa) ++ F2 from rfl] at z
                    rcases List.mem_append.mp z with z | z
                    · exact Or.inl (Or.inr z)
                    · exact Or.inr z
                refine ⟨acc, hD4, ?_, Fa ++ F2, wsi ++ [w'], acc ++ [y], en wsi hw, ?_, nd', ?_, upd_same, ?_, ?_⟩
                · rw [ha.len]
                  have := src.len
                  have e : sizeLine = 16777216 := sizeLine_eq
                  have e2 : LIM = 100000 := rfl
                  omega
                · intro a o e
                  have ne : a ≠ D := fun z => by rw [z, hD] at e; cases e
                  rw [upd_ne ne]
                  exact gA _ _ (gc _ _ e)
                · intro a q
                  rw [show D :: (Fa ++ F2) = (D :: Fa) ++ F2 from rfl] at q
                  rcases List.mem_append.mp q with q | q
                  · exact fr a q
                  · exact (g3.trans g4).free (fr2 a q)
                · rw [List.length_append, List.length_singleton]
                  omega
                · refine AccR.upd (ys := acc) hD4 (Or.inr List.mem_cons_self) ?_ (ha4.snoc q3)
                  exact (List.nodup_cons.mp nd').1
            cases cond with
            | none =>
              have eb : b = true := by
                unfold evO at ec
                cases ec
                rfl
              subst eb
              unfold SpO tYes
              exact fin H' (Grow.refl _)
            | some cd =>
              show SpT _ _ _ _ _ _ _
              refine ⟨B.or (D :: Fa), _, Sg', r2, ?_⟩
              unfold evO at ec
              rw [ec]
              exact ⟨b, rfl, fin⟩
      · rintro Hc ⟨Fa, wsi, acc, hw, gc, nd, fr, hDc, hlen, ha⟩
        rw [List.take_length, e2] at hw
        cases hw
        refine k (.ref D) Hc (g1.trans gc) ?_
        unfold mdE
        exact ha.res hDc nd (fun a q => g1.free (fr a q)) (Nat.le_trans hlen src.len)
end
end Mx
/-! # Mx8: the sources of walks -/
namespace Mx
open PySem L2 PyProof.Rows
section
variable {C : Cc} {ms : List Md} {Wx : WX} {σ : L2.St} {H H1 H2 H' : Hp} {B : Av} {F : Nat → List Addr} {Sg : Sg}
/-- an item of a list of mode m, later on -/
theorem item_irs {m : Md} {items : List W} {a : Addr} {xs : List V} {T : Av} {H3 : Hp} (hB : ∀ a, B a → H a ≠ none) (ha : H1 a = some (.lst xs)) (rs : Res C.K C.P m B H H1 (.lst items) (.ref a)) {i : Nat} {w : W} {x : V} (ew : items[i]? = some w) (ex : xs[i]? = some x)
    (hT : (∀ a, ¬ T a) ∨ ((∀ a, T a → B a) ∧ m.isVw = false)) (s : Stand T H1 H2) (g : Grow H2 H3) : IRs C (elemM m) B H1 H3 w x := by
  obtain ⟨p, ys, e, _, h1, h2, h3⟩ := rp_lst rs.view
  cases e
  rw [ha] at h1
  cases h1
  obtain ⟨v, e1, e2⟩ := h3.get ew
  rw [ex] at e1
  cases e1
  cases m with
  | vw =>
    rcases hT with hT | hT
    · exact Rp.mono g (fun _ _ z => z) _ _ (Rp.stand s (fun a z => (hT a z).elim) _ _ e2)
    · cases hT.2
  | flat =>
    obtain ⟨F, nd, fr, q⟩ := rs
    have := q.2.1
    unfold W.isFlat at this
    cases this
  | fr k =>
    intro B' hb
    obtain ⟨p, ys, e, _, h1, h2, h4⟩ := rp_lst (rs.toCl hB rfl)
    cases e
    rw [ha] at h1
    cases h1
    obtain ⟨v, e1, e3⟩ := h4.get ew
    rw [ex] at e1
    cases e1
    have hT' : ∀ a, T a → B a := fun a z => by
      rcases hT with hT | hT
      · exact (hT a z).elim
      · exact hT.1 a z
    have q1 : Rp C.K C.P H1 (fun a => B' a ∨ T a) w x := Rp.mono (Grow.refl _) (fun a ha z => z.elim (hb a ha) (hT' a)) _ _ e3
    have q2 := Rp.stand s (fun a z => Or.inr z) _ _ q1
    exact Rp.mono g (fun a _ z => Or.inl z) _ _ q2
/-- the source stands -/
theorem src_stands {m : Md} {items : List W} {a : Addr} {xs : List V} {T : Av} (hB : ∀ a, B a → H a ≠ none) (ha : H1 a = some (.lst xs)) (rs : Res C.K C.P m B H H1 (.lst items) (.ref a)) (hT : (∀ a, ¬ T a) ∨ ((∀ a, T a → B a) ∧ m.isVw = false)) (s : Stand T H1 H2) : H2 a = some (.lst xs) := by
  refine s.st a _ ha fun z => ?_
  rcases hT with hT | hT
  · exact hT a z
  · obtain ⟨p, ys, e, n, _⟩ := rp_lst (rs.toCl hB hT.2)
    cases e
    exact n (hT.1 a z)
theorem si_lst {e : E} {R : L2.It → Hp → Prop} (h : SpI C ms Wx (.lst e) σ H R) : iList C.K (SpE C ms Wx e) σ H R := by
  obtain ⟨B, F, Sg, r, k⟩ := h
  refine ⟨B, F, Sg, r, ?_⟩
  unfold evIt at k
  cases e1 : ev C.cf C.cs e Sg with
  | bad => rw [e1] at k; exact k
  | exc c => rw [e1] at k; exact k.elim
  | val w =>
    rw [e1] at k
    cases w with
    | lst items =>
      intro v H1 g1 rs
      obtain ⟨a, xs, rfl, _, h1, h2, h3⟩ := rp_lst rs.view
      have hl := RpL.length _ _ h3
      refine ⟨a, rfl, ⟨xs, SqL.of h1⟩, k _ _ g1 fun T hT0 => ?_⟩
      have hT : (∀ a, ¬ T a) ∨ ((∀ a, T a → B a) ∧ (mdE C.rm ms e).isVw = false) := hT0.imp id fun q => ⟨q.1, by have := q.2; unfold itNV at this; simpa using this⟩
      refine ⟨⟨YAt xs, ?_, fun i H2 x H' hi g y => ⟨?_, ?_⟩⟩, h2⟩
      · rw [← hl]
        exact walk_list.mono (fun H2 g => SqL.of (src_stands r.hasB h1 rs hT g)) fun _ _ _ _ _ _ y => y
      · obtain ⟨rfl, _⟩ := y
        exact Grow.refl _
      · obtain ⟨rfl, ex⟩ := y
        exact ⟨items[i], List.getElem?_eq_getElem hi, item_irs r.hasB h1 rs (List.getElem?_eq_getElem hi) ex hT g (Grow.refl _)⟩
    | _ => exact k.elim
theorem rng_src {a b : Int} {items : List W} (e : rngW a b = some items) : (-(2 ^ 62) ≤ a ∧ a < 2 ^ 62 ∧ -(2 ^ 62) ≤ b ∧ b < 2 ^ 62) ∧ ∀ T, Src C (Itr a (b - a).toNat) items .flat B T H1 := by
  unfold rngW at e
  split at e
  · rename_i c
    obtain ⟨c1, c2, c3, c4, c5⟩ := c
    cases e
    have hn : (b - a).toNat ≤ LIM := by
      have : (b - a).toNat ≤ (LIM : Int).toNat := Int.toNat_le_toNat c1
      simpa using this
    refine ⟨⟨by omega, by omega, by omega, by omega⟩, fun T => ⟨⟨YFn fun i => .int (a + i), ?_, fun i H2 x H' hi g y => ?_⟩, ?_⟩⟩
    · rw [List.length_map, List.length_range]
      exact walk_range.mono (fun _ _ => trivial) fun _ _ _ _ _ _ y => y
    · rw [List.length_map, List.length_range] at hi
      obtain ⟨rfl, rfl⟩ := y
      refine ⟨Grow.refl _, .int (a + i), ?_, rfl, by unfold Rp; rfl⟩
      rw [List.getElem?_map, List.getElem?_range hi]
      rfl
    · rw [List.length_map, List.length_range]
      exact hn
  · cases e
theorem si_rng1 {a : E} {R : L2.It → Hp → Prop} (h : SpI C ms Wx (.rng1 a) σ H R) : iRng1 (SpA C ms Wx [a]) σ H R := by
  obtain ⟨B, F, Sg, r, k⟩ := h
  refine ⟨B, F, Sg, r, ?_⟩
  unfold evIt at k
  unfold evs
  cases e1 : ev C.cf C.cs a Sg with
  | bad => rw [e1] at k; exact k
  | exc c => rw [e1] at k; exact k.elim
  | val w =>
    rw [e1] at k
    cases w with
    | int n =>
      simp only at k
      cases e2 : rngW 0 n with
      | none => rw [e2] at k; exact k.elim
      | some items =>
        rw [e2] at k
        unfold evs
        intro vs H1 g1 rs
        obtain ⟨x, rfl, h1⟩ := rs.view.one_inv
        rw [rp_int h1]
        obtain ⟨⟨b1, b2, b3, b4⟩, s⟩ := rng_src (C := C) (B := B) (H1 := H1) e2
        refine ⟨n, rfl, b3, b4, k _ _ g1 fun T _ => ?_⟩
        have s := s T
        rw [Int.sub_zero] at s
        exact s
    | _ => exact k.elim
theorem si_rng2 {a b : E} {R : L2.It → Hp → Prop} (h : SpI C ms Wx (.rng2 a b) σ H R) : iRng2 (SpA C ms Wx [a, b]) σ H R := by
  obtain ⟨B, F, Sg, r, k⟩ := h
  refine ⟨B, F, Sg, r, ?_⟩
  unfold evIt at k
  have he : ∀ m n items, ev C.cf C.cs a Sg = .val (.int m) → ev C.cf C.cs b Sg = .val (.int n) → rngW m n = some items → evs C.cf C.cs [a, b] Sg = .vals [.int m, .int n] := fun m n items h1 h2 h3 => by simp only [evs, h1, h2]
  split at k
  · rename_i items e
    split at e
    · rename_i m n e1 e2
      rw [he m n items e1 e2 e]
      intro vs H1 g1 rs
      obtain ⟨x, y, rfl, h1, h2⟩ := rs.view.two_inv
      rw [rp_int h1, rp_int h2]
      obtain ⟨bb, s⟩ := rng_src (C := C) (B := B) (H1 := H1) e
      exact ⟨m, n, rfl, bb, k _ _ g1 fun T _ => s T⟩
    · cases e
  · exact k.elim
theorem zipW_get {xs ys : List W} {i : Nat} {x y : W} (hx : xs[i]? = some x) (hy : ys[i]? = some y) : (zipW xs ys)[i]? = some (.tup [x, y]) := by
  unfold zipW
  rw [List.getElem?_zipWith, hx, hy]
theorem zipW_len (xs ys : List W) : (zipW xs ys).length = min xs.length ys.length := by unfold zipW; rw [List.length_zipWith]
theorem lim2 : [x, y].length ≤ LIM := by show 2 ≤ 100000; decide
/-- a new pair -/
theorem pair_irs {m n : Md} {w u : W} {x y : V} {T : Addr} (hT : H2 T = none) (h1 : IRs C m B H1 (upd H2 T (.tup [x, y])) w x) (h2 : IRs C n B H1 (upd H2 T (.tup [x, y])) u y) (hm : ∀ k, m = .fr k → k = some 0) (hn : ∀ k, n = .fr k → k = some 0) : IRs C (mmeet m n) B H1 (upd H2 T (.tup [x, y])) (.tup [w, u]) (.ref T) := by
  have mk : ∀ B', Rp C.K C.P (upd H2 T (.tup [x, y])) B' w x → Rp C.K C.P (upd H2 T (.tup [x, y])) B' u y → Rp C.K C.P (upd H2 T (.tup [x, y])) B' (.tup [w, u]) (.ref T) := fun B' a b => by
    unfold Rp
    exact ⟨T, [x, y], rfl, upd_same, lim2 (x := w) (y := u), RpL.cons a (RpL.one b)⟩
  have vw : ∀ {m : Md} {w : W} {x : V}, IRs C m B H1 (upd H2 T (.tup [x, y])) w x → Rp C.K C.P (upd H2 T (.tup [x, y])) Av.nil w x := fun {m w x} h => by
    cases m with
    | vw => exact h
    | flat => exact h.2
    | fr k => exact h Av.nil fun _ _ z => z.elim
  have vw2 : ∀ {m : Md} {w : W} {z : V}, IRs C m B H1 (upd H2 T (.tup [x, y])) w z → Rp C.K C.P (upd H2 T (.tup [x, y])) Av.nil w z := fun {m w z} h => by
    cases m with
    | vw => exact h
    | flat => exact h.2
    | fr k => exact h Av.nil fun _ _ z => z.elim
  cases m with
  | vw => exact mk _ (vw2 h1) (vw2 h2)
  | flat =>
    cases n with
    | vw => exact mk _ (vw2 h1) (vw2 h2)
    | flat =>
      refine ⟨?_, mk _ h1.2 h2.2⟩
      unfold W.isFlat W.isFlats W.isFlats W.isFlats
      rw [h1.1, h2.1]
      rfl
    | fr k => exact fun B' hb => mk _ (Rp.flat _ _ h1.1 h1.2) (h2 B' hb)
  | fr j =>
    cases n with
    | vw => exact mk _ (vw2 h1) (vw2 h2)
    | flat => exact fun B' hb => mk _ (h1 B' hb) (Rp.flat _ _ h2.1 h2.2)
    | fr k => exact fun B' hb => mk _ (h1 B' hb) (h2 B' hb)
theorem elemM_zero (m : Md) : ∀ d, elemM m = .fr d → d = some 0 := fun d h => by
  cases m with
  | vw => cases h
  | flat => cases h
  | fr k => cases h; rfl
theorem ResL.two {m n : Md} {w u : W} {x y : V} (hB : ∀ a, B a → H a ≠ none) (r : ResL C.K C.P [m, n] B H H1 [w, u] [x, y]) : Res C.K C.P m B H H1 w x ∧ Res C.K C.P n B H H1 u y := by
  obtain ⟨F, nd, fr, q⟩ := r
  obtain ⟨F1, F2, rfl, h1, h2⟩ := q.head
  obtain ⟨F3, F4, rfl, h3, h4⟩ := h2.head
  obtain ⟨n1, n2, _⟩ := List.nodup_append.mp nd
  obtain ⟨n3, n4, _⟩ := List.nodup_append.mp n2
  exact ⟨⟨F1, n1, fun a ha => fr a (List.mem_append_left _ ha), h1.mono (Grow.refl _) fun a _ z => z.elim Or.inl fun z => Or.inr (List.mem_append_left _ z)⟩,
    ⟨F3, n3, fun a ha => fr a (List.mem_append_right _ (List.mem_append_left _ ha)), h3.mono (Grow.refl _) fun a _ z => z.elim Or.inl fun z => Or.inr (List.mem_append_right _ (List.mem_append_left _ z))⟩⟩
theorem ResL.one {m : Md} {w : W} {x : V} (r : ResL C.K C.P [m] B H H1 [w] [x]) : Res C.K C.P m B H H1 w x := by
  obtain ⟨F, nd, fr, q⟩ := r
  obtain ⟨F1, F2, rfl, h1, h2⟩ := q.head
  obtain ⟨n1, n2, _⟩ := List.nodup_append.mp nd
  exact ⟨F1, n1, fun a ha => fr a (List.mem_append_left _ ha), h1.mono (Grow.refl _) fun a _ z => z.elim Or.inl fun z => Or.inr (List.mem_append_left _ z)⟩
theorem si_zip {a b : E} {R : L2.It → Hp → Prop} (h : SpI C ms Wx (.zip a b) σ H R) : iZip C.K (SpA C ms Wx [a, b]) σ H R := by
  obtain ⟨B, F, Sg, r, k⟩ := h
  refine ⟨B, F, Sg, r, ?_⟩
  unfold evIt at k
  split at k
  · rename_i items e
    split at e
    · rename_i us zs e1 e2
      cases e
      have he : evs C.cf C.cs [a, b] Sg = .vals [.lst us, .lst zs] := by simp only [evs, e1, e2]
      rw [he]
      intro vs H1 g1 rs
      obtain ⟨x, y, rfl, h1, h2⟩ := rs.view.two_inv
      obtain ⟨ra, rb⟩ := ResL.two (m := mdE C.rm ms a) (n := mdE C.rm ms b) r.hasB rs
      obtain ⟨p, xs, rfl, _, i1, i2, i3⟩ := rp_lst h1
      obtain ⟨q, ys, rfl, _, j1, j2, j3⟩ := rp_lst h2
      have l1 := RpL.length _ _ i3
      have l2 := RpL.length _ _ j3
      refine ⟨p, q, xs, ys, rfl, SqL.of i1, SqL.of j1, k _ _ g1 fun T hT => ?_⟩
      have hT1 : (∀ a, ¬ T a) ∨ ((∀ a, T a → B a) ∧ (mdE C.rm ms a).isVw = false) := hT.imp id fun q => ⟨q.1, by have := q.2; unfold itNV at this; simp only [Bool.and_eq_true, Bool.not_eq_true'] at this; exact this.1⟩
      have hT2 : (∀ a, ¬ T a) ∨ ((∀ a, T a → B a) ∧ (mdE C.rm ms b).isVw = false) := hT.imp id fun q => ⟨q.1, by have := q.2; unfold itNV at this; simp only [Bool.and_eq_true, Bool.not_eq_true'] at this; exact this.2⟩
      refine ⟨⟨YPair (fun i => xs[i]?) (fun i => ys[i]?), ?_, fun i H2 x H' hi g y => ?_⟩, ?_⟩
      · rw [zipW_len]
        exact (walk_zip (by rw [l1, l2])).mono (fun H2 g => ⟨SqL.of (src_stands r.hasB i1 ra hT1 g), SqL.of (src_stands r.hasB j1 rb hT2 g)⟩) fun _ _ _ _ _ _ y => y
      · obtain ⟨Tq, x1, y1, rfl, hTq, rfl, ex, ey⟩ := y
        rw [zipW_len] at hi
        have hi1 : i < us.length := by omega
        have hi2 : i < zs.length := by omega
        have gT : Grow H2 (upd H2 Tq (.tup [x1, y1])) := Grow.new hTq
        refine ⟨gT, _, zipW_get (List.getElem?_eq_getElem hi1) (List.getElem?_eq_getElem hi2), ?_⟩
        unfold itM
        exact pair_irs hTq (item_irs r.hasB i1 ra (List.getElem?_eq_getElem hi1) ex hT1 g gT) (item_irs r.hasB j1 rb (List.getElem?_eq_getElem hi2) ey hT2 g gT) (elemM_zero _) (elemM_zero _)
      · rw [zipW_len]
        omega
    · cases e
  · exact k.elim
theorem enumFrom_len : ∀ (k : Nat) (xs : List W), (enumFrom k xs).length = xs.length
  | _, [] => rfl
  | k, x :: xs => by unfold enumFrom; rw [List.length_cons, List.length_cons, enumFrom_len]
theorem enumFrom_get : ∀ (k : Nat) (xs : List W) (i : Nat) (x : W), xs[i]? = some x → (enumFrom k xs)[i]? = some (.tup [.int ((k + i : Nat) : Int), x])
  | _, [], i, x, h => by simp at h
  | k, y :: xs, 0, x, h => by
    simp at h
    subst h
    unfold enumFrom
    simp
  | k, y :: xs, i + 1, x, h => by
    unfold enumFrom
    have := enumFrom_get (k + 1) xs i x (by simpa using h)
    rw [List.getElem?_cons_succ, this]
    have e : k + 1 + i = k + (i + 1) := by omega
    rw [e]
theorem si_enum {a : E} {R : L2.It → Hp → Prop} (h : SpI C ms Wx (.enum a) σ H R) : iEnum C.K (SpA C ms Wx [a]) σ H R := by
  obtain ⟨B, F, Sg, r, k⟩ := h
  refine ⟨B, F, Sg, r, ?_⟩
  unfold evIt at k
  split at k
  · rename_i items e
    split at e
    · rename_i us e1
      cases e
      have he : evs C.cf C.cs [a] Sg = .vals [.lst us] := by simp only [evs, e1]
      rw [he]
      intro vs H1 g1 rs
      obtain ⟨x, rfl, h1⟩ := rs.view.one_inv
      have ra := ResL.one (m := mdE C.rm ms a) rs
      obtain ⟨p, xs, rfl, _, i1, i2, i3⟩ := rp_lst h1
      have l1 := RpL.length _ _ i3
      refine ⟨p, xs, rfl, SqL.of i1, k _ _ g1 fun T hT0 => ?_⟩
      have hT : (∀ a, ¬ T a) ∨ ((∀ a, T a → B a) ∧ (mdE C.rm ms a).isVw = false) := hT0.imp id fun q => ⟨q.1, by have := q.2; unfold itNV at this; simpa using this⟩
      refine ⟨⟨YPair (fun i => some (.int (i : Nat))) (fun i => xs[i]?), ?_, fun i H2 x H' hi g y => ?_⟩, ?_⟩
      · rw [enumFrom_len, ← l1]
        exact walk_enum.mono (fun H2 g => SqL.of (src_stands r.hasB i1 ra hT g)) fun _ _ _ _ _ _ y => y
      · obtain ⟨Tq, x1, y1, rfl, hTq, rfl, ex, ey⟩ := y
        cases ex
        rw [enumFrom_len] at hi
        have gT : Grow H2 (upd H2 Tq (.tup [.int (i : Nat), y1])) := Grow.new hTq
        refine ⟨gT, _, enumFrom_get 0 us i _ (List.getElem?_eq_getElem hi), ?_⟩
        unfold itM
        rw [Nat.zero_add]
        have em : mmeet .flat (elemM (mdE C.rm ms a)) = elemM (mdE C.rm ms a) := by cases elemM (mdE C.rm ms a) <;> rfl
        rw [← em]
        exact pair_irs (m := .flat) (w := .int ((i : Nat) : Int)) hTq ⟨rfl, by unfold Rp; rfl⟩ (item_irs r.hasB i1 ra (List.getElem?_eq_getElem hi) ey hT g gT) (fun k h => by cases h) (elemM_zero _)
      · rw [enumFrom_len]
        exact i2
    · cases e
  · exact k.elim
end
end Mx
/-! # Mx9: the expressions of a text are what the small language says -/
namespace Mx
open PySem L2 PyProof.Rows
/-- a class that is made by its __init__ -/
def MkOk (P : Program) (w : World) (K : PySem.W.Frag) (mg : Str → Option Value) (base : Heap) (lv : Nat) (f : Addr) (sp : Sp) : Prop := PySem.W.keepIn K (.ref f) = true ∧ ∀ vs H Q E, sp vs H Q E → ∃ (g : Addr) (fd : FuncData) (ps : List Str) (sp' : Sp) (k : Nat), Mk K f g ∧ FnOk P w K mg base (L2.CX P w) k g fd ps sp' ∧ k + 1 ≤ lv ∧ Binds K fd ps [] ∧
  ∀ x dx, H x = none → H dx = none → dx ≠ x → sp' (.ref x :: vs) (upd (upd H dx (.own x)) x (.ins f dx [])) (fun v H2 => v = .non ∧ Q (.ref x) H2) (fun _ _ _ => False)
/-- a class without one -/
structure MkZ (K : PySem.W.Frag) (C : Addr) : Prop where
  makes : PySem.W.makesIn K C = true
  init : PySem.W.findIn K (.ref C) "__init__" = some (some (.builtin "object.__init__"))
  top : PySem.W.mroIn K C (.type "object") = some true
  kp : PySem.W.keepIn K (.ref C) = true
/-- what isinstance asks of an own class -/
structure InsT (K : PySem.W.Frag) (C : Addr) : Prop where
  cl : Cls K C
  ha : PySem.W.findIn K (.ref C) "__class__" = some (some (.builtin "object.__class__"))
  hn : PySem.W.specialIn K (.builtin "object.__class__") "__get__" = some (some (.builtin "getset_descriptor.__get__"))
  htk : PySem.W.takesIn K (.builtin "object.__class__") = some true
  hm : PySem.W.mroIn K C (.type "object") = some true
structure FitX (X : Cx) (c : Ck) (C : Cc) (Wx : WX) (lv : Nat) : Prop where
  N : X.N = c.N
  nd : X.N.Nodup
  sc : X.env.scope = c.sc
  fn : X.fn = c.fnB
  calm : X.calm = true
  K : X.K = C.K
  room : Room lv X.A
  takes : Takes X Wx
  fns : ∀ nm id ar, (nm, id, ar) ∈ c.gf → X.mg nm = some (.ref (C.P.fad id)) ∧ PySem.W.keepIn X.K (.ref (C.P.fad id)) = true ∧ ∃ fd ps, ps.length = ar ∧ Binds X.K fd ps [] ∧ FnOk X.prog X.w X.K X.mg X.base (L2.CX X.prog X.w) lv (C.P.fad id) fd ps (spD C id ar)
  blts : ∀ x ∈ blNames, X.mg x = none
  csts : ∀ nm k, (nm, k) ∈ c.gc → ∃ i t, C.cs[k]? = some i ∧ X.mg nm = some (.int i t)
  mks : ∀ nm id ar, (nm, id, ar) ∈ c.gk → X.mg nm = some (.ref (C.P.fad id)) ∧ MkOk X.prog X.w X.K X.mg X.base lv (C.P.fad id) (spD C id ar)
  mkz : ∀ nm id, (nm, id) ∈ c.gz → X.mg nm = some (.ref (C.P.fad id)) ∧ MkZ X.K (C.P.fad id) ∧ ∀ H Q E, spD C id 0 [] H Q E → ∀ x dx, H x = none → H dx = none → dx ≠ x → Q (.ref x) (upd (upd H dx (.own x)) x (.ins (C.P.fad id) dx []))
  isi : ∀ y d b, (y, d, b) ∈ c.gi → ∃ D, X.mg y = some (.ref D) ∧ InsT X.K (C.P.cad d) ∧ PySem.W.kitOne X.K (.ref (C.P.cad d)) (.ref D) = some b
  fds : ∀ f d, (f, d) ∈ c.ga → Cls X.K (C.P.cad d) ∧ NoAttr X.K (C.P.cad d) f ∧ C.P.fld d = [f]
section
variable {X : Cx} {c : Ck} {C : Cc} {Wx : WX} {lv : Nat}
theorem FitX.blk (f : FitX X c C Wx lv) (s : Shared) (H : Hp) (scope : Scope) (cl : List (Str × Addr)) (C0 : Addr) (fp : List Addr) : FitX (X.blk s H scope (compEnvC scope cl C0 X.env) fp) (c.blk scope) C (fun _ _ _ _ => False) lv where
  N := f.N
  nd := f.nd
  sc := by
    show relS scope X.env.scope = relS scope c.sc
    rw [f.sc]
  fn := rfl
  calm := f.calm
  K := f.K
  room := f.room
  takes := takes0
  fns := f.fns
  blts := f.blts
  csts := f.csts
  mks := f.mks
  mkz := f.mkz
  isi := f.isi
  fds := f.fds
theorem FitX.kind (f : FitX X c C Wx lv) {x : Str} {k : NameKind} (h : kindIs c x k = true) : X.env.scope.names.lookup x = some k := by
  rw [f.sc]
  exact of_decide_eq_true h
theorem FitX.gl (f : FitX X c C Wx lv) {x : Str} (h : glbB c x = true) : Gl X x ∧ (x == ("__debug__" : Str)) = false := by
  unfold glbB at h
  simp only [Bool.and_eq_true, Bool.not_eq_true', decide_eq_false_iff_not] at h
  exact ⟨f.kind h.1, by simpa using h.2⟩
theorem FitX.vis (f : FitX X c C Wx lv) {x : Str} (h : visB c x = true) : Vis X.env.scope x ∧ (x == ("__debug__" : Str)) = false ∧ (x == ("__classdict__" : Str)) = false := by
  unfold visB at h
  simp only [Bool.and_eq_true, Bool.or_eq_true, Bool.not_eq_true', decide_eq_false_iff_not] at h
  obtain ⟨⟨h1, h2⟩, h3⟩ := h
  refine ⟨?_, by simpa using h2, by simpa using h3⟩
  rcases h1 with (h1 | h1) | h1
  · exact Or.inl (f.kind h1)
  · exact Or.inr (Or.inl (f.kind h1))
  · exact Or.inr (Or.inr (f.kind h1))
theorem FitX.sto (f : FitX X c C Wx lv) {x : Str} (h : stoB c x = true) : Loc X.env.scope x ∧ (X.fn x = true ∨ X.env.scope.names.lookup x = some .local) := by
  unfold stoB at h
  simp only [Bool.and_eq_true, Bool.or_eq_true] at h
  rcases h with h | h
  · exact ⟨Or.inl (f.kind h), Or.inr (f.kind h)⟩
  · exact ⟨Or.inr (f.kind h.1), Or.inl (by rw [f.fn]; exact h.2)⟩
theorem FitX.hu (f : FitX X c C Wx lv) : X.A.units + 64 < cLine := f.room.units
theorem FitX.blt (f : FitX X c C Wx lv) {x : Str} (h : x ∈ blNames := by decide) : X.mg x = none := f.blts x h
/-! ## shapes -/
theorem star1 {e : Expr} {es : List Expr} {env : Env} (h : isStar e = false) : starEach (e :: es) env = (false, eval e env) :: starEach es env := by
  cases e <;> first | rfl | cases h
theorem star_any {pos : Pos} {env : Env} : ∀ {es : List Expr}, (∀ e ∈ es, isStar e = false) → (backTo pos (starEach es env)).any (·.1) = false
  | [], _ => rfl
  | e :: es, h => by
    rw [star1 (h e List.mem_cons_self)]
    have ih := star_any (pos := pos) (env := env) fun x hx => h x (List.mem_cons_of_mem _ hx)
    unfold backTo at ih ⊢
    rw [List.map_cons, List.any_cons, ih]
    rfl
theorem plainT_ok {e : Expr} {env : Env} (h : plainT e = true) : ∀ whole, isTrue e env whole = (do let v ← whole; standAt e.pos; holding [v] (truthy v)) := by
  intro whole
  cases e with
  | UnaryOp op x pos => cases op <;> first | rfl | cases h
  | _ => first | rfl | cases h
theorem plainIx_ok {b : Expr} (h : isSlice b = false) : PlainIx b := by
  intro o i
  cases b <;> first | rfl | cases h
theorem noset {e : Expr} {env : Env} (h : isSet e = false) : ∀ x, foldedSetIterable e env x = pure x := by
  intro x
  cases e <;> first | rfl | cases h
theorem nomark2 {op : CmpOp} {b : Expr} (h : isSet b = false) : behindInMarks op b = false := by
  cases b <;> first | rfl | cases h
theorem chkEs_star {n : Nat} : ∀ {es : List Expr} {is : List E}, chkEs n c es is = true → ∀ e ∈ es, isStar e = false := by
  induction n with
  | zero => intro es is h; unfold chkEs at h; cases h
  | succ n ih =>
    intro es is h e he
    cases es with
    | nil => cases he
    | cons x es =>
      cases is with
      | nil => unfold chkEs at h; cases h
      | cons i is =>
        unfold chkEs at h
        simp only [Bool.and_eq_true, Bool.not_eq_true'] at h
        rcases List.mem_cons.mp he with rfl | he
        · exact h.1.1
        · exact ih h.2 e he
theorem chkEs_len {n : Nat} : ∀ {es : List Expr} {is : List E}, chkEs n c es is = true → es.length = is.length := by
  induction n with
  | zero => intro es is h; unfold chkEs at h; cases h
  | succ n ih =>
    intro es is h
    cases es with
    | nil => cases is with
      | nil => rfl
      | cons i is => unfold chkEs at h; cases h
    | cons x es =>
      cases is with
      | nil => unfold chkEs at h; cases h
      | cons i is =>
        unfold chkEs at h
        simp only [Bool.and_eq_true, Bool.not_eq_true'] at h
        rw [List.length_cons, List.length_cons, ih h.2]
/-! ## operators -/
variable {ms : List Md} {a b : Expr} {ia ib : E} {pos : Pos}
theorem pe_bin {o : Operator} {o' : Op} (h : binO o o' = true) (ha : PE X a (SpE C ms Wx ia)) (hb : PE X b (SpE C ms Wx ib)) : PE X (.BinOp a o b pos) (SpE C ms Wx (.op o' [ia, ib])) := by
  cases e : opBin o' with
  | none => rw [binO, e] at h; exact Bool.noConfusion h
  | some p =>
    rw [binO, e] at h
    obtain rfl := of_decide_eq_true h
    cases o' with
    | add => cases e; exact PE.mono (pe_op op_add ha hb) fun σ H Q q => bin2 (fun hB g r k => o_add r k) q
    | sub => cases e; exact PE.mono (pe_op op_sub ha hb) fun σ H Q q => bin2 (fun hB g r k => o_sub r k) q
    | mul => cases e; exact PE.mono (pe_op op_mulL ha hb) fun σ H Q q => bin2 (fun hB g r k => o_mul r k) q
    | fdiv => cases e; exact PE.mono (pe_op op_fdivW ha hb) fun σ H Q q => bin2 (fun hB g r k => o_fdiv r k) q
    | mod => cases e; exact PE.mono (pe_op op_modN ha hb) fun σ H Q q => bin2 (fun hB g r k => o_mod r k) q
    | pow => cases e; exact PE.mono (pe_op op_pow ha hb) fun σ H Q q => bin2 (fun hB g r k => o_pow r k) q
    | cat fl => cases e; exact PE.mono (pe_op op_cat ha hb) fun σ H Q q => bin2 (fun hB g r k => o_cat hB g r k) q
    | rep fl => cases e; exact PE.mono (pe_op op_rep ha hb) fun σ H Q q => bin2 (fun hB g r k => o_rep hB g r k) q
    | _ => cases e
/-- a comparison's rule -/
structure CmpR (X : Cx) (C : Cc) (Wx : WX) (o : CmpOp) (o' : Op) (r : R2) : Prop where
  ho : OpR X (compareOp o) r
  op : ∀ {σ : L2.St} {B : Av} {H H2 : Hp} {mds : List Md} {ws : List W} {vs : List V} {Q : VK}, (∀ a, B a → H a ≠ none) → Grow H H2 → ResL C.K C.P mds B H H2 ws vs → KOp C Wx σ H H2 B mds o' ws Q → ∃ x y, vs = [x, y] ∧ r x y H2 Q
theorem cmp_rule (f : FitX X c C Wx lv) {o : CmpOp} {o' : Op} (h : cmpO o o' = true) : ∃ r, CmpR X C Wx o o' r := by
  have hu := f.hu
  have eK := f.K
  cases e : opCmp o' with
  | none => rw [cmpO, e] at h; exact Bool.noConfusion h
  | some p =>
    rw [cmpO, e] at h
    obtain rfl := of_decide_eq_true h
    cases o' with
    | eq => cases e; exact ⟨_, by have := op_eqD (X := X) hu; rw [eK] at this; exact this, fun hB g r k => o_eq r k⟩
    | ne => cases e; exact ⟨_, by have := op_neD (X := X) hu; rw [eK] at this; exact this, fun hB g r k => o_ne r k⟩
    | lt => cases e; exact ⟨_, op_lt, fun hB g r k => o_lt r k⟩
    | le => cases e; exact ⟨_, op_le, fun hB g r k => o_le r k⟩
    | gt => cases e; exact ⟨_, op_gt, fun hB g r k => o_gt r k⟩
    | ge => cases e; exact ⟨_, op_ge, fun hB g r k => o_ge r k⟩
    | isin => cases e; exact ⟨_, by have := op_in_seq (X := X); rw [eK] at this; exact this, fun hB g r k => o_isin r k⟩
    | notin => cases e; exact ⟨_, by have := op_notIn_seq (X := X); rw [eK] at this; exact this, fun hB g r k => o_notin r k⟩
    | isB => cases e; exact ⟨_, op_isBl, fun hB g r k => o_isB r k⟩
    | notB => cases e; exact ⟨_, op_notBl, fun hB g r k => o_notB r k⟩
    | _ => cases e
theorem pe_cmpX (f : FitX X c C Wx lv) {o : CmpOp} {o' : Op} (h : cmpO o o' = true) (hs : isSet b = false) (ha : PE X a (SpE C ms Wx ia)) (hb : PE X b (SpE C ms Wx ib)) :
    PE X (.Compare a [o] [b] pos) (SpE C ms Wx (.op o' [ia, ib])) ∧ PT X (.Compare a [o] [b] pos) (SpT C ms Wx (.op o' [ia, ib])) := by
  obtain ⟨r, ho, op⟩ := cmp_rule f h
  exact ⟨PE.mono (pe_cmpR ho ha hb (nomark2 hs)) fun σ H Q q => bin2 (fun hB g r k => op hB g r k) q, PT.mono (pt_cmpR ho ha hb (nomark2 hs)) fun σ H Q q => test1 (fun σ H Q q => bin2 (fun hB g r k => op hB g r k) q) σ H Q q⟩
theorem pe_isN {k : Nat} {p : Pos} (ha : PE X a (SpE C ms Wx ia)) : PE X (.Compare a [.Is] [.Constant .none k p] pos) (SpE C ms Wx (.op .isN [ia])) ∧ PT X (.Compare a [.Is] [.Constant .none k p] pos) (SpT C ms Wx (.op .isN [ia])) := by
  have m : ∀ σ H Q, SpE C ms Wx (.op .isN [ia]) σ H Q → tOp (fun x y H Q => y = .non ∧ Q (.bl (decide (x = .non))) H) (SpE C ms Wx ia) (tC .non) σ H Q := fun σ H Q q => by
    have := un1 (r := fun x H Q => Q (.bl (decide (x = .non))) H) (fun hB g r k => o_isN r k) q
    exact SpE.mono (fun x H1 q => ⟨rfl, q⟩) this
  exact ⟨PE.mono (pe_cmpR op_isN ha pe_non (nomark _)) m, PT.mono (pt_cmpR op_isN ha pe_non (nomark _)) (test1 m)⟩
theorem pe_notN {k : Nat} {p : Pos} (ha : PE X a (SpE C ms Wx ia)) : PE X (.Compare a [.IsNot] [.Constant .none k p] pos) (SpE C ms Wx (.op .notN [ia])) ∧ PT X (.Compare a [.IsNot] [.Constant .none k p] pos) (SpT C ms Wx (.op .notN [ia])) := by
  have m : ∀ σ H Q, SpE C ms Wx (.op .notN [ia]) σ H Q → tOp (fun x y H Q => y = .non ∧ Q (.bl (!decide (x = .non))) H) (SpE C ms Wx ia) (tC .non) σ H Q := fun σ H Q q => by
    have := un1 (r := fun x H Q => Q (.bl (!decide (x = .non))) H) (fun hB g r k => o_notN r k) q
    exact SpE.mono (fun x H1 q => ⟨rfl, q⟩) this
  exact ⟨PE.mono (pe_cmpR op_notN ha pe_non (nomark _)) m, PT.mono (pt_cmpR op_notN ha pe_non (nomark _)) (test1 m)⟩
/-! ## chains of two -/
theorem chain_rule {o : CmpOp} {o' : Op} (h : chainO o o' = true) : ∃ g : Int → Int → Bool, OpR X (compareOp o) (rI0 fun i j => .bl (g i j)) ∧ ∀ ws, opS o' ws ≠ .bad → ∃ i j, ws = [.int i, .int j] ∧ opS o' ws = .val (.bl (g i j)) := by
  have aux : ∀ {f : List W → O} {g : Int → Int → Bool}, (∀ i j, f [.int i, .int j] = .val (.bl (g i j))) → (∀ ws, (∀ i j, ws ≠ [.int i, .int j]) → f ws = .bad) → ∀ ws, f ws ≠ .bad → ∃ i j, ws = [.int i, .int j] ∧ f ws = .val (.bl (g i j)) := fun {f g} h1 h2 ws hw => by
    by_cases q : ∃ i j, ws = [.int i, .int j]
    · obtain ⟨i, j, rfl⟩ := q
      exact ⟨i, j, rfl, h1 i j⟩
    · exact absurd (h2 ws fun i j e => q ⟨i, j, e⟩) hw
  cases e : opChain o' with
  | none => rw [chainO, e] at h; exact Bool.noConfusion h
  | some p =>
    rw [chainO, e] at h
    obtain rfl := of_decide_eq_true h
    cases o' with
    | lt => cases e; exact ⟨fun i j => decide (i < j), op_lt, aux (f := ltS) (fun _ _ => rfl) fun ws hn => by unfold ltS; split; exact absurd rfl (hn _ _); rfl⟩
    | le => cases e; exact ⟨fun i j => decide (i ≤ j), op_le, aux (f := leS) (fun _ _ => rfl) fun ws hn => by unfold leS; split; exact absurd rfl (hn _ _); rfl⟩
    | gt => cases e; exact ⟨fun i j => decide (j < i), op_gt, aux (f := gtS) (fun _ _ => rfl) fun ws hn => by unfold gtS; split; exact absurd rfl (hn _ _); rfl⟩
    | ge => cases e; exact ⟨fun i j => decide (j ≤ i), op_ge, aux (f := geS) (fun _ _ => rfl) fun ws hn => by unfold geS; split; exact absurd rfl (hn _ _); rfl⟩
    | _ => cases e
theorem chain_not {o : CmpOp} {o' : Op} (h : chainO o o' = true) : o ≠ .In ∧ o ≠ .NotIn := by
  cases e : opChain o' with
  | none => rw [chainO, e] at h; exact Bool.noConfusion h
  | some p =>
    rw [chainO, e] at h
    obtain rfl := of_decide_eq_true h
    cases o' <;> first
      | (cases e; done)
      | (cases e; exact ⟨by decide, by decide⟩)
theorem Rel.step {F : Nat → List Addr} {B : Av} {Sg : Mx.Sg} {σ : L2.St} {H H1 : Hp} {m : Md} {w : W} {v : V} (r : Rel C.K C.P ms B F Sg σ H) (g : Grow H H1) (rs : Res C.K C.P m B H H1 w v) : ∃ B', (∀ a, B a → B' a) ∧ Rel C.K C.P ms B' F Sg σ H1 := by
  obtain ⟨F1, nd, fr, q⟩ := rs
  exact ⟨B.or F1, fun _ z => Or.inl z, r.grow g fr q.dom⟩
theorem pe_chainX {o1 o2 : CmpOp} {o1' o2' : Op} {d : Expr} {id : E} (h1 : chainO o1 o1' = true) (h2 : chainO o2 o2' = true) (ha : PE X a (SpE C ms Wx ia)) (hb : PE X b (SpE C ms Wx ib)) (hd : PE X d (SpE C ms Wx id)) :
    PE X (.Compare a [o1, o2] [b, d] pos) (SpE C ms Wx (.chain o1' o2' ia ib id)) ∧ PT X (.Compare a [o1, o2] [b, d] pos) (SpT C ms Wx (.chain o1' o2' ia ib id)) := by
  obtain ⟨g1, r1, k1⟩ := chain_rule (X := X) h1
  obtain ⟨g2, r2, k2⟩ := chain_rule (X := X) h2
  have hm : lastMarks [o1, o2] [b, d] = false := by
    show behindInMarks o2 d = false
    exact nomark d (chain_not h2).1 (chain_not h2).2
  have m : ∀ σ H Q, SpE C ms Wx (.chain o1' o2' ia ib id) σ H Q → tChain (rI0 fun i j => .bl (g1 i j)) (rI0 fun i j => .bl (g2 i j)) (SpE C ms Wx ia) (SpE C ms Wx ib) (SpE C ms Wx id) σ H Q := fun σ H Q q => by
    obtain ⟨B, F, Sg, r, k⟩ := q
    refine ⟨B, F, Sg, r, ?_⟩
    unfold ev at k
    cases e1 : ev C.cf C.cs ia Sg with
    | bad => rw [e1] at k; exact k
    | exc x => rw [e1] at k; exact k
    | val wa =>
      rw [e1] at k
      intro va H1 gr1 rs1
      obtain ⟨B1, hb1, rel1⟩ := r.step gr1 rs1
      refine ⟨B1, F, Sg, rel1, ?_⟩
      cases e2 : ev C.cf C.cs ib Sg with
      | bad => rw [e2] at k; exact k
      | exc x => rw [e2] at k; exact fun H' g => k H' (gr1.trans g)
      | val wb =>
        rw [e2] at k
        intro vb H2 gr2 rs2
        have k : OKo C.P Wx σ H ((opS o1' [wa, wb]).bind fun k => match k with
          | .bl true => (ev C.cf C.cs id Sg).bind fun z => opS o2' [wb, z]
          | .bl false => .val (.bl false)
          | _ => .bad) _ := k
        by_cases z : opS o1' [wa, wb] = .bad
        · rw [z] at k; exact k.elim
        · obtain ⟨i, j, e3, e4⟩ := k1 _ z
          cases e3
          rw [e4] at k
          have v1 := rs1.view
          have v2 := rs2.view
          unfold Rp at v1 v2
          subst v1 v2
          refine ⟨i, j, rfl, rfl, g1 i j, rfl, ?_⟩
          cases e5 : g1 i j with
          | false =>
            rw [e5] at k
            rw [if_neg (by decide)]
            exact k _ H2 (gr1.trans gr2) (Res.flat (B' := Av.nil) rfl (by unfold Rp; rfl))
          | true =>
            rw [e5] at k
            rw [if_pos rfl]
            obtain ⟨B2, hb2, rel2⟩ := rel1.step gr2 rs2
            refine ⟨B2, F, Sg, rel2, ?_⟩
            have k : OKo C.P Wx σ H ((ev C.cf C.cs id Sg).bind fun z => opS o2' [.int j, z]) _ := k
            cases e6 : ev C.cf C.cs id Sg with
            | bad => rw [e6] at k; exact k
            | exc x => rw [e6] at k; exact fun H' g => k H' ((gr1.trans gr2).trans g)
            | val wc =>
              rw [e6] at k
              intro vc H3 gr3 rs3
              have k : OKo C.P Wx σ H (opS o2' [.int j, wc]) _ := k
              by_cases z2 : opS o2' [.int j, wc] = .bad
              · rw [z2] at k; exact k.elim
              · obtain ⟨i', j', e7, e8⟩ := k2 _ z2
                cases e7
                rw [e8] at k
                have v3 := rs3.view
                unfold Rp at v3
                subst v3
                exact ⟨j, j', rfl, rfl, k _ H3 ((gr1.trans gr2).trans gr3) (Res.flat (B' := Av.nil) rfl (by unfold Rp; rfl))⟩
  exact ⟨PE.mono (pe_chain r1 r2 ha hb hd hm) m, PT.mono (pt_chain r1 r2 ha hb hd hm) (test1 m)⟩
/-! ## chains of three -/
/-- a op1 b op2 c op3 d -/
def tChain3 (r r' r'' : R2) (ta tb tc td : TE) : TE := fun σ H Q => ta σ H fun x H1 => tb σ H1 fun y H2 => r x y H2 fun z H3 => ∃ k, z = .bl k ∧
  (if k = true then tc σ H3 fun w' H4 => r' y w' H4 fun z2 H5 => ∃ k2, z2 = .bl k2 ∧ (if k2 = true then td σ H5 fun u' H6 => r'' w' u' H6 Q else Q (.bl false) H5) else Q (.bl false) H3)
theorem pe_chain3 {a b d g : Expr} {pos : Pos} {ta tb tc td : TE} {op op' op'' : CmpOp} {r r' r'' : R2} (ho : OpR X (compareOp op) r) (ho' : OpR X (compareOp op') r') (ho'' : OpR X (compareOp op'') r'') (ha : PE X a ta) (hb : PE X b tb) (hc : PE X d tc) (hg : PE X g td)
    (hm : lastMarks [op, op', op''] [b, d, g] = false) : PE X (.Compare a [op, op', op''] [b, d, g] pos) (tChain3 r r' r'' ta tb tc td) := by
  refine ⟨fun pins s σ H Q I h => ?_⟩
  refine Compare_chain (thn (ha.run pins s σ H _ I h) fun v s1 ⟨x, H1, I1, r1, q1⟩ => chain_link (thn (hb.run pins s1 σ H1 _ I1 q1) fun u s2 ⟨y, H2, I2, r2, q2⟩ =>
    thn (ho pins s2 σ H2 x y v u _ I2 r1 r2 q2) fun d s3 ⟨z, H3, I3, r3, k, e, q3⟩ => ?_)) hm
  subst e
  cases r3
  refine wpAny_truthy_bool ?_
  cases k with
  | false => exact ite_ff ⟨.bl false, H3, I3, rfl, q3⟩
  | true =>
    refine ite_tt (chain_link (thn (hc.run pins s3 σ H3 _ I3 q3) fun w' s4 ⟨z', H4, I4, r4, q4⟩ => thn (ho' pins s4 σ H4 y z' u w' _ I4 r2 r4 q4) fun d' s5 ⟨z2, H5, I5, r5, k2, e2, q5⟩ => ?_))
    subst e2
    cases r5
    refine wpAny_truthy_bool ?_
    cases k2 with
    | false => exact ite_ff ⟨.bl false, H5, I5, rfl, q5⟩
    | true => exact ite_tt (chain_last (thn (hg.run pins s5 σ H5 _ I5 q5) fun u2 s6 ⟨z3, H6, I6, r6, q6⟩ => ho'' pins s6 σ H6 z' z3 w' u2 Q I6 r4 r6 q6))
theorem pt_chain3 {a b d g : Expr} {pos : Pos} {ta tb tc td : TE} {op op' op'' : CmpOp} {r r' r'' : R2} (ho : OpR X (compareOp op) r) (ho' : OpR X (compareOp op') r') (ho'' : OpR X (compareOp op'') r'') (ha : PE X a ta) (hb : PE X b tb) (hc : PE X d tc) (hg : PE X g td)
    (hm : lastMarks [op, op', op''] [b, d, g] = false) : PT X (.Compare a [op, op', op''] [b, d, g] pos) (tTest (tChain3 r r' r'' ta tb tc td)) := by
  refine ⟨fun pins s σ H Q I h => ?_⟩
  refine isTrue_chain (thn (ha.run pins s σ H _ I h) fun v s1 ⟨x, H1, I1, r1, q1⟩ => test_link (thn (hb.run pins s1 σ H1 _ I1 q1) fun u s2 ⟨y, H2, I2, r2, q2⟩ =>
    thn (ho pins s2 σ H2 x y v u _ I2 r1 r2 q2) fun d s3 ⟨z, H3, I3, r3, k, e, q3⟩ => ?_)) hm
  subst e
  cases r3
  refine wpAny_truthy_bool ?_
  cases k with
  | false =>
    obtain ⟨k', e', q'⟩ := q3
    cases e'
    exact ite_ff ⟨H3, I3, q'⟩
  | true =>
    refine ite_tt (test_link (thn (hc.run pins s3 σ H3 _ I3 q3) fun w' s4 ⟨z', H4, I4, r4, q4⟩ => thn (ho' pins s4 σ H4 y z' u w' _ I4 r2 r4 q4) fun d' s5 ⟨z2, H5, I5, r5, k2, e2, q5⟩ => ?_))
    subst e2
    cases r5
    refine wpAny_truthy_bool ?_
    cases k2 with
    | false =>
      obtain ⟨k', e', q'⟩ := q5
      cases e'
      exact ite_ff ⟨H5, I5, q'⟩
    | true =>
      refine ite_tt (test_last (thn (hg.run pins s5 σ H5 _ I5 q5) fun u2 s6 ⟨z3, H6, I6, r6, q6⟩ => thn (ho'' pins s6 σ H6 z' z3 w' u2 _ I6 r4 r6 q6) fun d'' s7 ⟨z4, H7, I7, r7, k3, e3, q7⟩ => ?_))
      subst e3
      cases r7
      exact wpAny_truthy_bool ⟨H7, I7, q7⟩
theorem pe_chain3X {o1 o2 o3 : CmpOp} {o1' o2' o3' : Op} {d g : Expr} {id ig : E} (h1 : chainO o1 o1' = true) (h2 : chainO o2 o2' = true) (h3 : chainO o3 o3' = true) (ha : PE X a (SpE C ms Wx ia)) (hb : PE X b (SpE C ms Wx ib)) (hd : PE X d (SpE C ms Wx id)) (hg : PE X g (SpE C ms Wx ig)) :
    PE X (.Compare a [o1, o2, o3] [b, d, g] pos) (SpE C ms Wx (.chain3 o1' o2' o3' ia ib id ig)) ∧ PT X (.Compare a [o1, o2, o3] [b, d, g] pos) (SpT C ms Wx (.chain3 o1' o2' o3' ia ib id ig)) := by
  obtain ⟨g1, r1, k1⟩ := chain_rule (X := X) h1
  obtain ⟨g2, r2, k2⟩ := chain_rule (X := X) h2
  obtain ⟨g3, r3, k3⟩ := chain_rule (X := X) h3
  have hm : lastMarks [o1, o2, o3] [b, d, g] = false := by
    show behindInMarks o3 g = false
    exact nomark g (chain_not h3).1 (chain_not h3).2
  have m : ∀ σ H Q, SpE C ms Wx (.chain3 o1' o2' o3' ia ib id ig) σ H Q → tChain3 (rI0 fun i j => .bl (g1 i j)) (rI0 fun i j => .bl (g2 i j)) (rI0 fun i j => .bl (g3 i j)) (SpE C ms Wx ia) (SpE C ms Wx ib) (SpE C ms Wx id) (SpE C ms Wx ig) σ H Q := fun σ H Q q => by
    obtain ⟨B, F, Sg, r, k⟩ := q
    refine ⟨B, F, Sg, r, ?_⟩
    unfold ev at k
    cases e1 : ev C.cf C.cs ia Sg with
    | bad => rw [e1] at k; exact k
    | exc x => rw [e1] at k; exact k
    | val wa =>
      rw [e1] at k
      intro va H1 gr1 rs1
      obtain ⟨B1, hb1, rel1⟩ := r.step gr1 rs1
      refine ⟨B1, F, Sg, rel1, ?_⟩
      cases e2 : ev C.cf C.cs ib Sg with
      | bad => rw [e2] at k; exact k
      | exc x => rw [e2] at k; exact fun H' g => k H' (gr1.trans g)
      | val wb =>
        rw [e2] at k
        intro vb H2 gr2 rs2
        have k : OKo C.P Wx σ H ((opS o1' [wa, wb]).bind fun k => match k with
          | .bl true => (ev C.cf C.cs id Sg).bind fun z => (opS o2' [wb, z]).bind fun k2 => match k2 with
            | .bl true => (ev C.cf C.cs ig Sg).bind fun u => opS o3' [z, u]
            | .bl false => .val (.bl false)
            | _ => .bad
          | .bl false => .val (.bl false)
          | _ => .bad) _ := k
        by_cases z : opS o1' [wa, wb] = .bad
        · rw [z] at k; exact k.elim
        · obtain ⟨i, j, e3, e4⟩ := k1 _ z
          cases e3
          rw [e4] at k
          have v1 := rs1.view
          have v2 := rs2.view
          unfold Rp at v1 v2
          subst v1 v2
          refine ⟨i, j, rfl, rfl, g1 i j, rfl, ?_⟩
          cases e5 : g1 i j with
          | false =>
            rw [e5] at k
            rw [if_neg (by decide)]
            exact k _ H2 (gr1.trans gr2) (Res.flat (B' := Av.nil) rfl (by unfold Rp; rfl))
          | true =>
            rw [e5] at k
            rw [if_pos rfl]
            obtain ⟨B2, hb2, rel2⟩ := rel1.step gr2 rs2
            refine ⟨B2, F, Sg, rel2, ?_⟩
            have k : OKo C.P Wx σ H ((ev C.cf C.cs id Sg).bind fun z => (opS o2' [.int j, z]).bind fun k2 => match k2 with
              | .bl true => (ev C.cf C.cs ig Sg).bind fun u => opS o3' [z, u]
              | .bl false => .val (.bl false)
              | _ => .bad) _ := k
            cases e6 : ev C.cf C.cs id Sg with
            | bad => rw [e6] at k; exact k
            | exc x => rw [e6] at k; exact fun H' g => k H' ((gr1.trans gr2).trans g)
            | val wc =>
              rw [e6] at k
              intro vc H3 gr3 rs3
              have gr13 := (gr1.trans gr2).trans gr3
              have k : OKo C.P Wx σ H ((opS o2' [.int j, wc]).bind fun k2 => match k2 with
                | .bl true => (ev C.cf C.cs ig Sg).bind fun u => opS o3' [wc, u]
                | .bl false => .val (.bl false)
                | _ => .bad) _ := k
              by_cases z2 : opS o2' [.int j, wc] = .bad
              · rw [z2] at k; exact k.elim
              · obtain ⟨i', j', e7, e8⟩ := k2 _ z2
                cases e7
                rw [e8] at k
                have v3 := rs3.view
                unfold Rp at v3
                subst v3
                refine ⟨j, j', rfl, rfl, g2 j j', rfl, ?_⟩
                cases e9 : g2 j j' with
                | false =>
                  rw [e9] at k
                  rw [if_neg (by decide)]
                  exact k _ H3 gr13 (Res.flat (B' := Av.nil) rfl (by unfold Rp; rfl))
                | true =>
                  rw [e9] at k
                  rw [if_pos rfl]
                  obtain ⟨B3, hb3, rel3⟩ := rel2.step gr3 rs3
                  refine ⟨B3, F, Sg, rel3, ?_⟩
                  have k : OKo C.P Wx σ H ((ev C.cf C.cs ig Sg).bind fun u => opS o3' [.int j', u]) _ := k
                  cases e10 : ev C.cf C.cs ig Sg with
                  | bad => rw [e10] at k; exact k
                  | exc x => rw [e10] at k; exact fun H' g => k H' (gr13.trans g)
                  | val wd =>
                    rw [e10] at k
                    intro vd H4 gr4 rs4
                    have k : OKo C.P Wx σ H (opS o3' [.int j', wd]) _ := k
                    by_cases z3 : opS o3' [.int j', wd] = .bad
                    · rw [z3] at k; exact k.elim
                    · obtain ⟨i2, j2, e11, e12⟩ := k3 _ z3
                      cases e11
                      rw [e12] at k
                      have v4 := rs4.view
                      unfold Rp at v4
                      subst v4
                      exact ⟨j', j2, rfl, rfl, k _ H4 (gr13.trans gr4) (Res.flat (B' := Av.nil) rfl (by unfold Rp; rfl))⟩
  exact ⟨PE.mono (pe_chain3 r1 r2 r3 ha hb hd hg hm) m, PT.mono (pt_chain3 r1 r2 r3 ha hb hd hg hm) (test1 m)⟩
end
end Mx
/-! # Mx10: the expressions, all -/
namespace Mx
open PySem L2 PyProof.Rows
theorem bt_sum : bootBuiltins "sum" = some (.builtin "sum") := by decide +kernel
theorem bt_abs : bootBuiltins "abs" = some (.builtin "abs") := by decide +kernel
theorem bt_min : bootBuiltins "min" = some (.builtin "min") := by decide +kernel
theorem bt_max : bootBuiltins "max" = some (.builtin "max") := by decide +kernel
theorem bt_all : bootBuiltins "all" = some (.builtin "all") := by decide +kernel
theorem bt_any : bootBuiltins "any" = some (.builtin "any") := by decide +kernel
theorem bt_sorted : bootBuiltins "sorted" = some (.builtin "sorted") := by decide +kernel
theorem bt_isinstance : bootBuiltins "isinstance" = some (.builtin "isinstance") := by decide +kernel
theorem bt_int : bootBuiltins "int" = some (.type "int") := by decide +kernel
theorem bt_list : bootBuiltins "list" = some (.type "list") := by decide +kernel
theorem bt_bool : bootBuiltins "bool" = some (.type "bool") := by decide +kernel
theorem bt_tuple : bootBuiltins "tuple" = some (.type "tuple") := by decide +kernel
section
variable {X : Cx} {c : Ck} {C : Cc} {Wx : WX} {lv : Nat} {ms : List Md} {pos p : Pos}
/-- a built-in by its name -/
theorem pe_blt (f : FitX X c C Wx lv) {o : Op} {x : Str} {k : Nat} {e : Expr} {es : List Expr} {is : List E} (h : bltO o = some (x, k)) (hg : glbB c x = true) (hl : (e :: es).length = k) (hs : ∀ y ∈ e :: es, isStar y = false) (ha : PA X (e :: es) (SpA C ms Wx is)) :
    PE X (.Call (.Name x p) (e :: es) [] pos) (SpE C ms Wx (.op o is)) := by
  obtain ⟨g1, g2⟩ := f.gl hg
  have s1 : starEach (e :: es) X.env = (false, eval e X.env) :: starEach es X.env := star1 (hs e List.mem_cons_self)
  have s2 : (backTo pos (starEach es X.env)).any (·.1) = false := star_any fun y hy => hs y (List.mem_cons_of_mem _ hy)
  have eK := f.K
  have hc := f.calm
  cases o with
  | len => cases h; exact PE.mono (pe_callB call_len_seq g1 f.blt PySem.boot_len ha (by decide) g2 s1 s2) fun σ H Q q => call1 (fun hB g r k => by rw [eK]; exact o_len r k) q
  | sum => cases h; exact PE.mono (pe_callB (cr_sum hc) g1 f.blt bt_sum ha (by decide) g2 s1 s2) fun σ H Q q => call1 (fun hB g r k => by rw [eK]; exact o_sum r k) q
  | abs => cases h; exact PE.mono (pe_callB call_abs g1 f.blt bt_abs ha (by decide) g2 s1 s2) fun σ H Q q => call1 (fun hB g r k => o_abs r k) q
  | min1 => cases h; exact PE.mono (pe_callB (cr_min hc) g1 f.blt bt_min ha (by decide) g2 s1 s2) fun σ H Q q => call1 (fun hB g r k => by rw [eK]; exact o_min1 r k) q
  | max1 => cases h; exact PE.mono (pe_callB (cr_max hc) g1 f.blt bt_max ha (by decide) g2 s1 s2) fun σ H Q q => call1 (fun hB g r k => by rw [eK]; exact o_max1 r k) q
  | min2 => cases h; exact PE.mono (pe_callB (call_min2 hc) g1 f.blt bt_min ha (by decide) g2 s1 s2) fun σ H Q q => call1 (fun hB g r k => o_min2 r k) q
  | max2 => cases h; exact PE.mono (pe_callB (call_max2 hc) g1 f.blt bt_max ha (by decide) g2 s1 s2) fun σ H Q q => call1 (fun hB g r k => o_max2 r k) q
  | all1 => cases h; exact PE.mono (pe_callB (cr_all hc) g1 f.blt bt_all ha (by decide) g2 s1 s2) fun σ H Q q => call1 (fun hB g r k => by rw [eK]; exact o_all1 r k) q
  | any1 => cases h; exact PE.mono (pe_callB (cr_any hc) g1 f.blt bt_any ha (by decide) g2 s1 s2) fun σ H Q q => call1 (fun hB g r k => by rw [eK]; exact o_any1 r k) q
  | sorted => cases h; exact PE.mono (pe_callB cr_sortedI g1 f.blt bt_sorted ha (by decide) g2 s1 s2) fun σ H Q q => call1 (fun hB g r k => by rw [eK]; exact o_sorted hB g r k) q
  | sortedP => cases h; exact PE.mono (pe_callB cr_sortedPO g1 f.blt bt_sorted ha (by decide) g2 s1 s2) fun σ H Q q => call1 (fun hB g r k => by rw [eK]; exact o_sortedP hB g r k) q
  | int1 => cases h; exact PE.mono (pe_callTy call_int1 g1 f.blt bt_int ha (by decide) g2 s1 s2) fun σ H Q q => call1 (fun hB g r k => o_int1 r k) q
  | list fl => cases h; exact PE.mono (pe_callTy call_list_of g1 f.blt bt_list ha (by decide) g2 s1 s2) fun σ H Q q => call1 (fun hB g r k => by rw [eK]; exact o_list hB g r k) q
  | _ => cases h
theorem pe_isiX (f : FitX X c C Wx lv) {t : Nat} {a : Expr} {ia : E} {y : Str} {p2 : Pos} (ht : t < 4) (hy : y = Str.ofString (tyNm t)) (hg : glbB c "isinstance" = true) (hg2 : glbB c y = true) (hs : isStar a = false) (ha : PE X a (SpE C ms Wx ia)) :
    PE X (.Call (.Name "isinstance" p) [a, .Name y p2] [] pos) (SpE C ms Wx (.op (.isi t) [ia])) := by
  obtain ⟨g1, g2⟩ := f.gl hg
  obtain ⟨g3, g4⟩ := f.gl hg2
  have eK := f.K
  have hb : PE X (.Name y p2) (tC (.ty (tyNm t))) := by
    subst hy
    match t, ht with
    | 0, _ => exact pe_bltn g3 f.blt bt_int rfl (by decide) g4
    | 1, _ => exact pe_bltn g3 f.blt bt_bool rfl (by decide) g4
    | 2, _ => exact pe_bltn g3 f.blt bt_list rfl (by decide) g4
    | 3, _ => exact pe_bltn g3 f.blt bt_tuple rfl (by decide) g4
  refine PE.mono (pe_callB call_isi g1 f.blt bt_isinstance (pa_cons ha (pa_cons hb pa_nil) (star1 hs)) (by decide) g2 (star1 hs) rfl) fun σ H Q q => ?_
  have := un1 (r := fun x H Q => rIsi C.K [x, .ty (tyNm t)] H Q) (fun hB g r k => o_isi r k) q
  refine SpE.mono (fun x H1 q => ?_) this
  show rIsi X.K [x, .ty (tyNm t)] H1 Q
  rw [eK]
  exact q
theorem pe_rngLX (f : FitX X c C Wx lv) {a : Expr} {ia : E} {p2 p3 : Pos} (hg : glbB c "list" = true) (hg2 : glbB c "range" = true) (hs : isStar a = false) (ha : PE X a (SpE C ms Wx ia)) :
    PE X (.Call (.Name "list" p) [.Call (.Name "range" p2) [a] [] p3] [] pos) (SpE C ms Wx (.op .rngL [ia])) := by
  obtain ⟨g1, g2⟩ := f.gl hg
  obtain ⟨g3, g4⟩ := f.gl hg2
  refine PE.mono (pe_listRg f.calm g1 f.blt (prg_1 g3 f.blt ha (star1 hs)) rfl) fun σ H Q q => ?_
  exact un1 (r := fun x H1 Q => ∃ n : Int, x = .int n ∧ RgOk 0 n ∧ ∀ q, H1 q = none → Q (.ref q) (upd H1 q (.lst (rgV 0 n)))) (fun hB g r k => o_rngL hB g r k) q
/-- list(range(i, j, c)) -/
theorem pe_rng3X (f : FitX X c C Wx lv) {a b d : Expr} {is : List E} {p2 p3 : Pos} (hg : glbB c "list" = true) (hg2 : glbB c "range" = true) (hs : ∀ e ∈ [a, b, d], isStar e = false) (ha : PA X [a, b, d] (SpA C ms Wx is)) :
    PE X (.Call (.Name "list" p) [.Call (.Name "range" p2) [a, b, d] [] p3] [] pos) (SpE C ms Wx (.op .rng3 is)) := by
  obtain ⟨g1, g2⟩ := f.gl hg
  obtain ⟨g3, g4⟩ := f.gl hg2
  have s1 : starEach [a, b, d] X.env = (false, eval a X.env) :: starEach [b, d] X.env := star1 (hs a List.mem_cons_self)
  have s2 : (backTo p3 (starEach [b, d] X.env)).any (·.1) = false := star_any fun y hy => hs y (List.mem_cons_of_mem _ hy)
  refine PE.mono (t := fun σ H Q => SpA C ms Wx is σ H fun vs H1 => ∃ (i j c : Int) (n : Nat), vs = [.int i, .int j, .int c] ∧ RgC i j c n ∧ n ≤ 2 ^ 24 ∧ ∀ q, H1 q = none → Q (.ref q) (upd H1 q (.lst (rgC i c n)))) ?_ fun σ H Q q => call1 (fun hB g r k => o_rng3 hB g r k) q
  refine ⟨fun pins s σ H Q I h => ?_⟩
  have hr : wpAny (model X.prog X.w) X.A (eval (.Call (.Name "range" p2) [a, b, d] [] p3) X.env) (fun x s' => ∃ r i j c t u v H1, ∃ n : Nat, x = .ref r ∧ IsRange s'.heap r i j c t u v ∧ Inv X pins σ H1 s' ∧ RgC i j c n ∧ n ≤ 2 ^ 24 ∧ ∀ q, H1 q = none → Q (.ref q) (upd H1 q (.lst (rgC i c n)))) X.xe s := by
    refine Call_ (ld_blt I g3 f.blt boot_range (PyProof.Rows.callWith_type1 (thn (ha.run p3 pins s σ H _ I h) fun us s1 ⟨vs, H1, I1, r1, q1⟩ => ?_) s1 s2))
    obtain ⟨i, j, k, n, e, hk, hn, q⟩ := q1
    subst e
    cases r1 with
    | cons r rr =>
      cases rr with
      | cons r' rr =>
        cases rr with
        | cons r'' rr =>
          cases rr
          obtain ⟨t, rfl⟩ := r
          obtain ⟨t', rfl⟩ := r'
          obtain ⟨t'', rfl⟩ := r''
          refine call_range_3 hk.1 ?_ (.inl (PyProof.noPylong_small hk.2.1))
          exact ⟨_, i, j, k, _, _, _, H1, n, rfl, IsRange.new .., I1.kept fun b u e => Heap.get?_push_of_some _ e, hk, hn, q⟩
  have s3 : starEach [.Call (.Name "range" p2) [a, b, d] [] p3] X.env = (false, eval (.Call (.Name "range" p2) [a, b, d] [] p3) X.env) :: starEach [] X.env := rfl
  refine Call_ (ld_blt I g1 f.blt boot_list (PyProof.Rows.callWith_type1 (args_cons (thn hr fun x s1 ⟨r, i, j, c, t, u, v, H1, n, ex, hr, I1, hk, hn, q⟩ => args_nil ?_) s3) s3))
  subst ex
  refine call_list_range (n := n) (I1.ok.hd f.calm) hr hk.2.2.1 hk.2.2.2 hn fun h' tk acc c' hkk e' hi => ?_
  have hv : Vals (rgC i c n) acc.toList := by
    have e : acc.toList.length = n := by rw [Array.length_toList]; exact hi.1
    unfold rgC
    rw [← e]
    refine vals_of_get acc.toList _ fun j u hj => ?_
    obtain ⟨t, rfl⟩ := hi.2 j u (by rw [← hj, Array.getElem?_toList])
    exact ⟨t, rfl⟩
  refine ⟨.ref s1.heap.objs.size, upd H1 s1.heap.objs.size (.lst (rgC i c n)), I1.laid hkk (Nat.le_refl _) (show ObjOk X.prog X.w _ _ _ (.lst (rgC i c n)) from ⟨?_, acc.toList, c', hv, ?_⟩), rfl, q _ (I1.hok.fresh (Nat.le_refl _))⟩
  · unfold rgC
    rw [List.length_map, List.length_range, sizeLine_eq]
    omega
  · rw [Array.toArray_toList]; exact e'
theorem pe_callX (f : FitX X c C Wx lv) {x : Str} {id : Nat} {e : Expr} {es : List Expr} {is : List E} (hm : (x, id, (e :: es).length) ∈ c.gf) (hg : glbB c x = true) (hs : ∀ y ∈ e :: es, isStar y = false) (ha : PA X (e :: es) (SpA C ms Wx is)) (hl : (e :: es).length = is.length) :
    PE X (.Call (.Name x p) (e :: es) [] pos) (SpE C ms Wx (.call id is)) := by
  obtain ⟨g1, g2⟩ := f.gl hg
  have s1 : starEach (e :: es) X.env = (false, eval e X.env) :: starEach es X.env := star1 (hs e List.mem_cons_self)
  have s2 : (backTo pos (starEach es X.env)).any (·.1) = false := star_any fun y hy => hs y (List.mem_cons_of_mem _ hy)
  obtain ⟨m1, m2, fd, ps, m3, m4, m5⟩ := f.fns _ _ _ hm
  refine PE.mono (pe_callS (E := WE Wx) m5 f.room g1 m1 m2 m4 (fun σ => passAt f.takes σ) ha g2 s1 s2) fun σ H Q q => ?_
  have := sp_call q
  obtain ⟨B, F, Sg, r, k⟩ := this
  refine ⟨B, F, Sg, r, ?_⟩
  cases e1 : evs C.cf C.cs is Sg with
  | bad => rw [e1] at k; exact k
  | exc c => rw [e1] at k; exact k
  | vals ws =>
    rw [e1] at k
    intro vs H' g rs
    have k' : spD C id vs.length vs H' Q (WE Wx σ) := k vs H' g rs
    have l1 := RpL.length _ _ rs.view
    have l2 : ws.length = is.length := evs_len e1
    rw [l1, l2, ← hl] at k'
    exact k'
where
  evs_len : ∀ {is : List E} {Sg : Mx.Sg} {ws : List W}, evs C.cf C.cs is Sg = .vals ws → ws.length = is.length
  | [], Sg, ws, h => by unfold evs at h; cases h; rfl
  | i :: is, Sg, ws, h => by
    unfold evs at h
    cases e1 : ev C.cf C.cs i Sg with
    | bad => rw [e1] at h; cases h
    | exc c => rw [e1] at h; cases h
    | val w =>
      rw [e1] at h
      cases e2 : evs C.cf C.cs is Sg with
      | bad => rw [e2] at h; cases h
      | exc c => rw [e2] at h; cases h
      | vals us =>
        rw [e2] at h
        cases h
        rw [List.length_cons, List.length_cons, evs_len e2]
/-! ## own classes -/
theorem passF {X : Cx} : Passes (L2.CX X.prog X.w) X (fun _ _ _ => False) := fun pins σ H s e s' I h => by
  obtain ⟨a, B, H', cls, d, _, _, _, _, _, _, _, z⟩ := h
  exact z.elim
theorem pe_mkX (f : FitX X c C Wx lv) {x : Str} {id : Nat} {e : Expr} {es : List Expr} {is : List E} (hm : (x, id, (e :: es).length) ∈ c.gk) (hg : glbB c x = true) (hs : ∀ y ∈ e :: es, isStar y = false) (ha : PA X (e :: es) (SpA C ms Wx is)) (hl : (e :: es).length = is.length) :
    PE X (.Call (.Name x p) (e :: es) [] pos) (SpE C ms Wx (.call id is)) := by
  obtain ⟨g1, g2⟩ := f.gl hg
  have s1 : starEach (e :: es) X.env = (false, eval e X.env) :: starEach es X.env := star1 (hs e List.mem_cons_self)
  have s2 : (backTo pos (starEach es X.env)).any (·.1) = false := star_any fun y hy => hs y (List.mem_cons_of_mem _ hy)
  obtain ⟨m1, kp, hsp⟩ := f.mks _ _ _ hm
  refine ⟨fun pins s σ H Q I h => ?_⟩
  refine wpAny_Call_Name_kw (ld_glob I g1 m1 ?_ g2)
  have h2 : SpA C ms Wx is σ H fun vs H2 => spD C id (e :: es).length vs H2 Q (WE Wx σ) := by
    obtain ⟨B, F, Sg, r, k⟩ := sp_call h
    refine ⟨B, F, Sg, r, ?_⟩
    cases e1 : evs C.cf C.cs is Sg with
    | bad => rw [e1] at k; exact k
    | exc c => rw [e1] at k; exact k
    | vals ws =>
      rw [e1] at k
      intro vs H' g rs
      have k' : spD C id vs.length vs H' Q (WE Wx σ) := k vs H' g rs
      have l1 := RpL.length _ _ rs.view
      have l2 : ws.length = is.length := pe_callX.evs_len e1
      rw [l1, l2, ← hl] at k'
      exact k'
  refine PySem.W.callWith_K (h₀ := X.base) I.ok.mod.kin kp (thn (ha.run pos pins s σ H _ I h2) fun us s1 ⟨vs, H1, I1, r, q⟩ => ⟨I1.kIn, ?_⟩) s1 s2
  obtain ⟨g, fd, ps, sp', k', M, F, hk, hb, hmk⟩ := hsp vs H1 Q _ q
  exact run_make (E := fun _ _ _ => False) M F (f.room.mono hk) hb .nil passF I1 r fun x dx hx hdx hne => by
    rw [List.append_nil]
    exact hmk x dx hx hdx hne
theorem run_mkz {pins : List (Addr × Obj)} {σ : L2.St} {H : Hp} {s : Shared} {Q : VK} {D : Addr} (M : MkZ X.K D) (I : Inv X pins σ H s) (h : ∀ x dx, H x = none → H dx = none → dx ≠ x → Q (.ref x) (upd (upd H dx (.own x)) x (.ins D dx []))) :
    wpAny (model X.prog X.w) X.A (call (.ref D) []) (EP X pins σ Q) X.xe s := by
  have hq := h (s.heap.objs.size + 1) s.heap.objs.size (I.hok.fresh (Nat.le_succ _)) (I.hok.fresh (Nat.le_refl _)) (Nat.ne_of_lt (Nat.lt_succ_self _))
  have I2 := Inv.made (C := D) I
  refine wpAny_call (make_map0 I.kIn M.makes M.init (fun self => PySem.W.Looks.of_pure (PySem.W.oi_bind self)) ?_)
  have e2 : ((s.heap.push PySem.W.emptyDict).push (PySem.W.instObj D s.heap.objs.size)).get? (s.heap.objs.size + 1) = some (PySem.W.instObj D s.heap.objs.size) := by
    have := Heap.get?_push_size (s.heap.push PySem.W.emptyDict) (o := PySem.W.instObj D s.heap.objs.size) rfl
    rwa [Heap.size_push] at this
  have t1 : PySem.W.Looks (model X.prog X.w) ((s.heap.push PySem.W.emptyDict).push (PySem.W.instObj D s.heap.objs.size)) (typeOf (.ref (s.heap.objs.size + 1))) (.ref D) := (PySem.W.Looks.ld e2).andThen .now
  have t2 : PySem.W.Looks (model X.prog X.w) ((s.heap.push PySem.W.emptyDict).push (PySem.W.instObj D s.heap.objs.size)) (isInstance (.ref (s.heap.objs.size + 1)) (.type "object")) true := t1.andThen (PySem.W.looks_mroIn I2.kIn M.top)
  refine codeAny_call_builtin PySem.W.oi_plain PySem.W.entry_oi (@PySem.W.check_slot (model X.prog X.w) _ _ _ "object.__init__" "object" "__init__" (.ref (s.heap.objs.size + 1)) [] [] _ PySem.W.oi_kind PySem.W.oi_split t2 (PySem.W.oi_args _) ?_)
  rw [PySem.W.oi_run]
  exact wpAny_pure (And.intro rfl ⟨V.ref (s.heap.objs.size + 1), _, I2, rfl, hq⟩)
theorem pe_mkzX (f : FitX X c C Wx lv) {x : Str} {id : Nat} (hm : (x, id) ∈ c.gz) (hg : glbB c x = true) : PE X (.Call (.Name x p) [] [] pos) (SpE C ms Wx (.call id [])) := by
  obtain ⟨g1, g2⟩ := f.gl hg
  obtain ⟨m1, M, hsp⟩ := f.mkz _ _ hm
  refine ⟨fun pins s σ H Q I h => ?_⟩
  refine wpAny_Call_Name_kw (ld_glob I g1 m1 ?_ g2)
  refine PySem.W.callWith_K0 I.kIn M.kp (run_mkz M I fun x dx hx hdx hne => ?_)
  have k := SpA_nil (sp_call h)
  exact hsp H Q _ k x dx hx hdx hne
theorem pe_iscX (f : FitX X c C Wx lv) {ts : List (Nat × Bool)} {a : Expr} {ia : E} {y : Str} {p2 : Pos} (ht : (ts.all fun p => decide ((y, p.1, p.2) ∈ c.gi)) = true) (hne : ts ≠ []) (hg : glbB c "isinstance" = true) (hg2 : glbB c y = true) (hs : isStar a = false) (ha : PE X a (SpE C ms Wx ia)) :
    PE X (.Call (.Name "isinstance" p) [a, .Name y p2] [] pos) (SpE C ms Wx (.op (.isc ts) [ia])) := by
  obtain ⟨g1, g2⟩ := f.gl hg
  obtain ⟨g3, g4⟩ := f.gl hg2
  have eK := f.K
  have tsi : ∀ d b, (d, b) ∈ ts → ∃ D, X.mg y = some (.ref D) ∧ InsT X.K (C.P.cad d) ∧ PySem.W.kitOne X.K (.ref (C.P.cad d)) (.ref D) = some b := fun d b h => f.isi _ _ _ (of_decide_eq_true (List.all_eq_true.mp ht (d, b) h))
  obtain ⟨D, hD⟩ : ∃ D, X.mg y = some (.ref D) := by
    cases ts with
    | nil => exact absurd rfl hne
    | cons q ts =>
      obtain ⟨D, h1, _⟩ := tsi q.1 q.2 List.mem_cons_self
      exact ⟨D, h1⟩
  have hb : PE X (.Name y p2) (tC (.ref D)) := pe_glob g3 hD rfl g4
  refine PE.mono (pe_callB call_isi g1 f.blt bt_isinstance (pa_cons ha (pa_cons hb pa_nil) (star1 hs)) (by decide) g2 (star1 hs) rfl) fun σ H Q q => ?_
  have := un1 (r := fun x H Q => ∃ a dx d fs b, x = .ref a ∧ H a = some (.ins (C.P.cad d) dx fs) ∧ (d, b) ∈ ts ∧ Q (.bl b) H) (fun hB g r k => by
    obtain ⟨a, dx, d, fs, b, e, h1, h2, h3⟩ := o_isc r k
    exact ⟨_, e, a, dx, d, fs, b, rfl, h1, h2, h3⟩) q
  refine SpE.mono (fun x H1 q => ?_) this
  obtain ⟨a, dx, d, fs, b, rfl, h1, h2, h3⟩ := q
  obtain ⟨D', e1, it, kt⟩ := tsi d b h2
  rw [hD] at e1
  cases e1
  exact ⟨.ref a, .ref D, _, _, b, rfl, .own D, .base (.ins h1 it.cl it.ha it.hn it.htk it.hm), kt, h3⟩
theorem pe_fldX (f : FitX X c C Wx lv) {k : Nat} {x fl : Str} {p2 : Pos} {ia : E} (hm : (fl, k) ∈ c.ga) (ha : PE X (.Name x p2) (SpE C ms Wx ia)) : PE X (.Attribute (.Name x p2) fl pos) (SpE C ms Wx (.op (.fld k) [ia])) := by
  obtain ⟨h1, h2, h3⟩ := f.fds _ _ hm
  refine PE.mono (pe_fld ha rfl) fun σ H Q q => ?_
  have := un1 (r := fun x H Q => ∃ a dx y, x = .ref a ∧ H a = some (.ins (C.P.cad k) dx ((C.P.fld k).zip [y])) ∧ Q y H) (fun hB g r k => by
    obtain ⟨a, dx, y, e, _, h1, h2⟩ := o_fld hB r k
    exact ⟨_, e, a, dx, y, rfl, h1, h2⟩) q
  refine SpE.mono (fun x H1 q => ?_) this
  obtain ⟨a, dx, y, rfl, g1, g2⟩ := q
  rw [h3] at g1
  exact ⟨a, _, dx, _, y, rfl, g1, h1, h2, by simp [List.zip, List.lookup], g2⟩
/-! ## names, constants -/
theorem pe_varX (f : FitX X c C Wx lv) {k : Nat} {x : Str} (h1 : c.N[k]? = some x) (h2 : visB c x = true) : PE X (.Name x pos) (SpE C ms Wx (.var k)) := by
  obtain ⟨v1, v2, v3⟩ := f.vis h2
  refine PE.mono (pe_var (by rw [f.N]; exact h1) v1 v2 v3) fun σ H Q q => ?_
  obtain ⟨B, F, Sg, r, k'⟩ := q
  unfold ev Mx.Sg.get at k'
  cases e1 : Sg[k]? with
  | none => rw [e1] at k'; exact k'.elim
  | some o =>
    cases o with
    | none => rw [e1] at k'; exact k'.elim
    | some w =>
      rw [e1] at k'
      obtain ⟨v, e2, q⟩ := r.slots k w e1
      refine ⟨v, e2, k' v H (Grow.refl _) ?_⟩
      unfold mdE
      cases e3 : ms.getD k Md.cl with
      | vw => rw [e3] at q; exact Res.vw q.view
      | flat => rw [e3] at q; exact Res.flat q.2.1 q.2.2
      | fr d =>
        rw [e3] at q
        cases d with
        | none => exact Res.vw q.view
        | some d =>
          cases d with
          | zero => exact Res.cl ((Ow.zero _ _ _).mp q).2
          | succ d => exact Res.vw q.view
/-! ## x.index(y) -/
theorem SpE.flatE {i' : E} {σ : L2.St} {H : Hp} {Q : VK} (q : SpE C ms Wx (.flat i') σ H Q) : SpE C ms Wx i' σ H Q := by
  obtain ⟨B, F, Sg, r, k⟩ := q
  refine ⟨B, F, Sg, r, ?_⟩
  unfold ev at k
  cases e1 : ev C.cf C.cs i' Sg with
  | bad => rw [e1] at k; exact k
  | exc x => rw [e1] at k; exact k
  | val w =>
    rw [e1] at k
    intro v H' g rs
    have k : OKo C.P Wx σ H (if w.isFlat = true then .val w else .bad) _ := k
    split at k
    · rename_i hf
      exact k v H' g (by unfold mdE; exact Res.flat hf rs.view)
    · exact k.elim
theorem SpE.varE {k : Nat} {σ : L2.St} {H : Hp} {Q : VK} (q : SpE C ms Wx (.var k) σ H Q) : ∃ v, Q v H := by
  obtain ⟨B, F, Sg, r, k'⟩ := q
  unfold ev Mx.Sg.get at k'
  cases e1 : Sg[k]? with
  | none => rw [e1] at k'; exact k'.elim
  | some o =>
    cases o with
    | none => rw [e1] at k'; exact k'.elim
    | some w =>
      rw [e1] at k'
      obtain ⟨v, e2, q⟩ := r.slots k w e1
      refine ⟨v, k' v H (Grow.refl _) ?_⟩
      unfold mdE
      cases e3 : ms.getD k Md.cl with
      | vw => rw [e3] at q; exact Res.vw q.view
      | flat => rw [e3] at q; exact Res.flat q.2.1 q.2.2
      | fr d =>
        rw [e3] at q
        cases d with
        | none => exact Res.vw q.view
        | some d =>
          cases d with
          | zero => exact Res.cl ((Ow.zero _ _ _).mp q).2
          | succ d => exact Res.vw q.view
theorem SpE.vr {ib : E} (h : isVr ib = true) {σ : L2.St} {H : Hp} {Q : VK} (q : SpE C ms Wx ib σ H Q) : ∃ v, Q v H := by
  unfold isVr at h
  split at h
  · exact q.varE
  · exact q.flatE.varE
  · cases h
theorem pe_indexX (f : FitX X c C Wx lv) {x y : Str} {p2 p3 ap : Pos} {ia ib : E} (h6 : (ap.endLine == pos.line) = true) (hv : isVr ib = true) (ha : PE X (.Name x p2) (SpE C ms Wx ia)) (hb : PE X (.Name y p3) (SpE C ms Wx ib)) : PE X (.Call (.Attribute (.Name x p2) "index" ap) [.Name y p3] [] pos) (SpE C ms Wx (.op .index [ia, ib])) := by
  have h4 : isStar (.Name y p3) = false := rfl
  refine PE.mono (pe_bm PySem.F.plainAttrs_list PySem.F.slot_list_index PySem.F.type_list_index mt_index ha (pa_cons hb pa_nil) rfl (by rw [star1 h4]; rfl) h6 (star1 h4) rfl) fun σ H Q q => ?_
  have h1 := SpA_two (Sp_op (es := [ia, ib]) (f := opS .index) (fun _ => by simp only [ev]) (R := fun vs H2 => ∃ x y, vs = [x, y] ∧ tyV C.K "list" x H2 ∧ rIndex C.K x [y] H2 Q) (fun B ws vs H2 hB g r k => o_index r (by unfold mdE at k; exact k)) q)
  rw [f.K]
  refine SpE.mono (fun x H1 q => ?_) h1
  refine ⟨?_, SpE.mono (fun y H2 q => ?_) q⟩
  · obtain ⟨v, x', y', e, t, _⟩ := q.vr hv
    cases e
    exact t
  · obtain ⟨x', y', e, _, q⟩ := q
    cases e
    exact q
theorem pe_gciX (f : FitX X c C Wx lv) {k : Nat} {x : Str} (h1 : (x, k) ∈ c.gc) (h2 : glbB c x = true) : PE X (.Name x pos) (SpE C ms Wx (.gci k)) := by
  obtain ⟨g1, g2⟩ := f.gl h2
  obtain ⟨i, t, e1, e2⟩ := f.csts _ _ h1
  refine PE.mono (pe_glob (v := .int i) g1 e2 ⟨_, rfl⟩ g2) fun σ H Q q => ?_
  obtain ⟨B, F, Sg, r, k'⟩ := q
  unfold ev at k'
  rw [e1] at k'
  exact k' _ H (Grow.refl _) (Res.flat (B' := Av.nil) rfl (by unfold Rp; rfl))
theorem tc_ok {w : W} {v : V} (hf : w.isFlat = true) (hv : ∀ H, Rp C.K C.P H Av.nil w v) : ∀ σ H Q, SpE C ms Wx (.cst w) σ H Q → tC v σ H Q := fun σ H Q q => by
  obtain ⟨B, F, Sg, r, k'⟩ := q
  unfold ev at k'
  exact k' _ H (Grow.refl _) (Res.flat hf (hv H))
/-! ## not, and, or, if -/
variable {a b t : Expr} {ia ib it : E}
theorem pt_of_pe {e : Expr} {i : E} (h : PE X e (SpE C ms Wx i)) (hp : plainT e = true) : PT X e (SpT C ms Wx i) := PT.mono (pt_val h (plainT_ok hp)) fun σ H Q q => SpT.ofE q
theorem pe_notX (ha : PE X a (SpE C ms Wx ia)) (ht : PT X a (SpT C ms Wx ia)) : PE X (.UnaryOp .Not a pos) (SpE C ms Wx (.not ia)) ∧ PT X (.UnaryOp .Not a pos) (SpT C ms Wx (.not ia)) := by
  refine ⟨PE.mono (pe_not ha) fun σ H Q q => ?_, PT.mono (pt_not ht) fun σ H Q q => ?_⟩
  · obtain ⟨B, F, Sg, r, k⟩ := q
    refine ⟨B, F, Sg, r, ?_⟩
    unfold ev at k
    cases e1 : ev C.cf C.cs ia Sg with
    | bad => rw [e1] at k; exact k
    | exc x => rw [e1] at k; exact k
    | val w =>
      rw [e1] at k
      intro v H' g rs
      cases w with
      | bl b =>
        have v1 := rs.view
        unfold Rp at v1
        exact ⟨b, v1, k _ H' g (Res.flat (B' := Av.nil) rfl (by unfold Rp; rfl))⟩
      | _ => exact k.elim
  · obtain ⟨B, F, Sg, r, k⟩ := q
    refine ⟨B, F, Sg, r, ?_⟩
    unfold ev at k
    cases e1 : ev C.cf C.cs ia Sg with
    | bad => rw [e1] at k; exact k
    | exc x => rw [e1] at k; exact k
    | val w =>
      rw [e1] at k
      cases w with
      | bl b =>
        obtain ⟨b', e, k⟩ := k
        cases e
        exact ⟨b, rfl, k⟩
      | _ => exact k.elim
theorem pe_ifX (ht : PT X t (SpT C ms Wx it)) (ha : PE X a (SpE C ms Wx ia)) (hb : PE X b (SpE C ms Wx ib)) : PE X (.IfExp t a b pos) (SpE C ms Wx (.ifx it ia ib)) := by
  have em : mdE C.rm ms (.ifx it ia ib) = mmeet (mdE C.rm ms ia) (mdE C.rm ms ib) := by rw [mdE]
  refine PE.mono (pe_ifExp ht ha hb) fun σ H Q q => ?_
  obtain ⟨B, F, Sg, r, k⟩ := q
  refine ⟨B, F, Sg, r, ?_⟩
  unfold ev at k
  cases e1 : ev C.cf C.cs it Sg with
  | bad => rw [e1] at k; exact k
  | exc x => rw [e1] at k; exact k
  | val w =>
    rw [e1] at k
    cases w with
    | bl b =>
      refine ⟨b, rfl, fun H1 g1 => ?_⟩
      cases b with
      | true =>
        rw [if_pos rfl]
        refine ⟨B, F, Sg, r.grow0 g1, ?_⟩
        have k : OKo C.P Wx σ H (ev C.cf C.cs ia Sg) _ := k
        cases e2 : ev C.cf C.cs ia Sg with
        | bad => rw [e2] at k; exact k
        | exc x => rw [e2] at k; exact fun H' g => k H' (g1.trans g)
        | val u =>
          rw [e2] at k
          exact fun v H' g rs => k v H' (g1.trans g) ((rs.older g1).weaken r.hasB (by rw [em]; exact mle_meet_l _ _))
      | false =>
        rw [if_neg (by decide)]
        refine ⟨B, F, Sg, r.grow0 g1, ?_⟩
        have k : OKo C.P Wx σ H (ev C.cf C.cs ib Sg) _ := k
        cases e2 : ev C.cf C.cs ib Sg with
        | bad => rw [e2] at k; exact k
        | exc x => rw [e2] at k; exact fun H' g => k H' (g1.trans g)
        | val u =>
          rw [e2] at k
          exact fun v H' g rs => k v H' (g1.trans g) ((rs.older g1).weaken r.hasB (by rw [em]; exact mle_meet_r _ _))
    | _ => exact k.elim
/-- what stands between the parts of an and, an or -/
theorem OKo.later {P : Pl} {σ : L2.St} {H H1 : Hp} {o : O} {k k' : W → Prop} (g : Grow H H1) (h : ∀ w, k w → k' w) (q : OKo P Wx σ H o k) : OKo P Wx σ H1 o k' := by
  cases o with
  | val w => exact h w q
  | exc c => exact fun H' g2 => q H' (g.trans g2)
  | bad => exact q
theorem bl_one {σ : L2.St} {H : Hp} {B : Av} {F : Nat → List Addr} {Sg : Mx.Sg} {e : E} {Q : VK} (r : Rel C.K C.P ms B F Sg σ H) (k : OKo C.P Wx σ H ((ev C.cf C.cs e Sg).bind fun w => match w with | .bl b => .val (.bl b) | _ => .bad) fun w => ∀ v H', Grow H H' → Res C.K C.P .flat B H H' w v → Q v H') : SpE C ms Wx e σ H Q := by
  refine ⟨B, F, Sg, r, ?_⟩
  cases e1 : ev C.cf C.cs e Sg with
  | bad => rw [e1] at k; exact k
  | exc x => rw [e1] at k; exact k
  | val w =>
    rw [e1] at k
    cases w with
    | bl b =>
      intro v H' g rs
      exact k v H' g (Res.flat rfl rs.view)
    | _ => exact k.elim
theorem pe_andX : ∀ {es : List Expr} {is : List E}, es.length = is.length → es ≠ [] → (∀ (j : Nat) e i, es[j]? = some e → is[j]? = some i → PE X e (SpE C ms Wx i) ∧ PT X e (SpT C ms Wx i)) → PE X (.BoolOp .And es pos) (SpE C ms Wx (.and is)) ∧ PW X (.BoolOp .And es pos) (SpT C ms Wx (.and is))
  | [], is, _, h, _ => absurd rfl h
  | [e], [i], _, _, hh => by
    obtain ⟨h1, h2⟩ := hh 0 e i rfl rfl
    refine ⟨PE.mono (pe_one h1) fun σ H Q q => ?_, PW.mono (pw_and1 h2) fun σ H Q q => ?_⟩
    · obtain ⟨B, F, Sg, r, k⟩ := q
      unfold ev evAnd at k
      exact bl_one r k
    · obtain ⟨B, F, Sg, r, k⟩ := q
      refine ⟨B, F, Sg, r, ?_⟩
      unfold ev evAnd at k
      cases e1 : ev C.cf C.cs i Sg with
      | bad => rw [e1] at k; exact k
      | exc x => rw [e1] at k; exact k
      | val w =>
        rw [e1] at k
        cases w with
        | bl b => exact k
        | _ => exact k.elim
  | e :: e2 :: es, i :: i2 :: is, hl, _, hh => by
    obtain ⟨h1, h2⟩ := hh 0 e i rfl rfl
    obtain ⟨h3, h4⟩ := pe_andX (es := e2 :: es) (is := i2 :: is) (by simpa using hl) (by simp) fun j e i he hi => hh (j + 1) e i he hi
    refine ⟨PE.mono (pe_and h1 h3) fun σ H Q q => ?_, PW.mono (pw_and h2 h4) fun σ H Q q => ?_⟩
    · obtain ⟨B, F, Sg, r, k⟩ := q
      refine ⟨B, F, Sg, r, ?_⟩
      unfold ev evAnd at k
      cases e1 : ev C.cf C.cs i Sg with
      | bad => rw [e1] at k; exact k
      | exc x => rw [e1] at k; exact k
      | val w =>
        rw [e1] at k
        intro v H' g rs
        cases w with
        | bl b =>
          have v1 := rs.view
          unfold Rp at v1
          refine ⟨b, v1, ?_⟩
          cases b with
          | true =>
            rw [if_pos rfl]
            refine ⟨B, F, Sg, r.grow0 g, ?_⟩
            unfold ev
            have k : OKo C.P Wx σ H (evAnd C.cf C.cs (i2 :: is) Sg) _ := k
            exact k.later g fun w k v H'' g2 rs => k v H'' (g.trans g2) (rs.older g)
          | false =>
            rw [if_neg (by decide)]
            exact k _ H' g (Res.flat (B' := Av.nil) rfl (by unfold Rp; rfl))
        | _ => exact k.elim
    · obtain ⟨B, F, Sg, r, k⟩ := q
      refine ⟨B, F, Sg, r, ?_⟩
      unfold ev evAnd at k
      cases e1 : ev C.cf C.cs i Sg with
      | bad => rw [e1] at k; exact k
      | exc x => rw [e1] at k; exact k
      | val w =>
        rw [e1] at k
        cases w with
        | bl b =>
          refine ⟨b, rfl, fun H1 g => ?_⟩
          cases b with
          | true =>
            rw [if_pos rfl]
            refine ⟨B, F, Sg, r.grow0 g, ?_⟩
            unfold ev
            have k : OKo C.P Wx σ H (evAnd C.cf C.cs (i2 :: is) Sg) _ := k
            refine k.later g fun w k => ?_
            obtain ⟨b, e, k⟩ := k
            exact ⟨b, e, fun H' g2 => k H' (g.trans g2)⟩
          | false =>
            rw [if_neg (by decide)]
            obtain ⟨b, e, k⟩ := k
            cases e
            exact k H1 g
        | _ => exact k.elim
  | [e], [], hl, _, _ => by cases hl
  | [e], _ :: _ :: _, hl, _, _ => by cases hl
  | _ :: _ :: _, [], hl, _, _ => by cases hl
  | _ :: _ :: _, [_], hl, _, _ => by cases hl
theorem pe_orX : ∀ {es : List Expr} {is : List E}, es.length = is.length → es ≠ [] → (∀ (j : Nat) e i, es[j]? = some e → is[j]? = some i → PE X e (SpE C ms Wx i) ∧ PT X e (SpT C ms Wx i)) → PE X (.BoolOp .Or es pos) (SpE C ms Wx (.or is)) ∧ PW X (.BoolOp .Or es pos) (SpT C ms Wx (.or is))
  | [], is, _, h, _ => absurd rfl h
  | [e], [i], _, _, hh => by
    obtain ⟨h1, h2⟩ := hh 0 e i rfl rfl
    refine ⟨PE.mono (pe_one h1) fun σ H Q q => ?_, PW.mono (pw_or1 h2) fun σ H Q q => ?_⟩
    · obtain ⟨B, F, Sg, r, k⟩ := q
      unfold ev evOr at k
      exact bl_one r k
    · obtain ⟨B, F, Sg, r, k⟩ := q
      refine ⟨B, F, Sg, r, ?_⟩
      unfold ev evOr at k
      cases e1 : ev C.cf C.cs i Sg with
      | bad => rw [e1] at k; exact k
      | exc x => rw [e1] at k; exact k
      | val w =>
        rw [e1] at k
        cases w with
        | bl b => exact k
        | _ => exact k.elim
  | e :: e2 :: es, i :: i2 :: is, hl, _, hh => by
    obtain ⟨h1, h2⟩ := hh 0 e i rfl rfl
    obtain ⟨h3, h4⟩ := pe_orX (es := e2 :: es) (is := i2 :: is) (by simpa using hl) (by simp) fun j e i he hi => hh (j + 1) e i he hi
    refine ⟨PE.mono (pe_or h1 h3) fun σ H Q q => ?_, PW.mono (pw_or h2 h4) fun σ H Q q => ?_⟩
    · obtain ⟨B, F, Sg, r, k⟩ := q
      refine ⟨B, F, Sg, r, ?_⟩
      unfold ev evOr at k
      cases e1 : ev C.cf C.cs i Sg with
      | bad => rw [e1] at k; exact k
      | exc x => rw [e1] at k; exact k
      | val w =>
        rw [e1] at k
        intro v H' g rs
        cases w with
        | bl b =>
          have v1 := rs.view
          unfold Rp at v1
          refine ⟨b, v1, ?_⟩
          cases b with
          | false =>
            rw [if_neg (by decide)]
            refine ⟨B, F, Sg, r.grow0 g, ?_⟩
            unfold ev
            have k : OKo C.P Wx σ H (evOr C.cf C.cs (i2 :: is) Sg) _ := k
            exact k.later g fun w k v H'' g2 rs => k v H'' (g.trans g2) (rs.older g)
          | true =>
            rw [if_pos rfl]
            exact k _ H' g (Res.flat (B' := Av.nil) rfl (by unfold Rp; rfl))
        | _ => exact k.elim
    · obtain ⟨B, F, Sg, r, k⟩ := q
      refine ⟨B, F, Sg, r, ?_⟩
      unfold ev evOr at k
      cases e1 : ev C.cf C.cs i Sg with
      | bad => rw [e1] at k; exact k
      | exc x => rw [e1] at k; exact k
      | val w =>
        rw [e1] at k
        cases w with
        | bl b =>
          refine ⟨b, rfl, fun H1 g => ?_⟩
          cases b with
          | false =>
            rw [if_neg (by decide)]
            refine ⟨B, F, Sg, r.grow0 g, ?_⟩
            unfold ev
            have k : OKo C.P Wx σ H (evOr C.cf C.cs (i2 :: is) Sg) _ := k
            refine k.later g fun w k => ?_
            obtain ⟨b, e, k⟩ := k
            exact ⟨b, e, fun H' g2 => k H' (g.trans g2)⟩
          | true =>
            rw [if_pos rfl]
            obtain ⟨b, e, k⟩ := k
            cases e
            exact k H1 g
        | _ => exact k.elim
  | [e], [], hl, _, _ => by cases hl
  | [e], _ :: _ :: _, hl, _, _ => by cases hl
  | _ :: _ :: _, [], hl, _, _ => by cases hl
  | _ :: _ :: _, [_], hl, _, _ => by cases hl
/-! ## displays -/
theorem evs_len {is : List E} {Sg : Mx.Sg} {ws : List W} (h : evs C.cf C.cs is Sg = .vals ws) : ws.length = is.length := pe_callX.evs_len h
theorem pe_tupX {es : List Expr} {is : List E} {k : Nat} (hl : is.length ≤ 1000) (ha : PA X es (SpA C ms Wx is)) : PE X (.Tuple es k pos) (SpE C ms Wx (.tup is)) := by
  refine PE.mono (pe_tup ha) fun σ H Q q => ?_
  obtain ⟨B, F, Sg, r, k'⟩ := q
  refine ⟨B, F, Sg, r, ?_⟩
  unfold ev at k'
  cases e1 : evs C.cf C.cs is Sg with
  | bad => rw [e1] at k'; exact k'
  | exc c => rw [e1] at k'; exact k'
  | vals ws =>
    rw [e1] at k'
    intro vs H' g rs
    have l1 := RpL.length _ _ rs.view
    have l2 := evs_len e1
    refine ⟨?_, fun p hp => ?_⟩
    · rw [l1, l2]; exact Nat.le_trans hl (by decide)
    · exact new_tup r.hasB g hp (by rw [l2]; exact Nat.le_trans hl (by decide)) rs fun v H'' g2 rs => k' v H'' (g.trans g2) (by unfold mdE; exact rs)
theorem pe_lstX {es : List Expr} {is : List E} (hl : is.length ≤ 1000) (ha : PA X es (SpA C ms Wx is)) : PE X (.List es pos) (SpE C ms Wx (.lst is)) := by
  refine PE.mono (pe_lst ha) fun σ H Q q => ?_
  obtain ⟨B, F, Sg, r, k'⟩ := q
  refine ⟨B, F, Sg, r, ?_⟩
  unfold ev at k'
  cases e1 : evs C.cf C.cs is Sg with
  | bad => rw [e1] at k'; exact k'
  | exc c => rw [e1] at k'; exact k'
  | vals ws =>
    rw [e1] at k'
    intro vs H' g rs
    have l1 := RpL.length _ _ rs.view
    have l2 := evs_len e1
    refine ⟨?_, fun p hp => ?_⟩
    · rw [l1, l2]; exact Nat.le_trans hl (by decide)
    · exact new_lst r.hasB g hp (by rw [l2]; exact Nat.le_trans hl (by decide)) rs fun v H'' g2 rs => k' v H'' (g.trans g2) (by unfold mdE; exact rs)
/-! ## slices -/
theorem pe_slcA {fl : Bool} {l : Expr} {il : E} {p2 : Pos} (eK : X.K = C.K) (ha : PE X a (SpE C ms Wx ia)) (hl : PE X l (SpE C ms Wx il)) : PE X (.Subscript a (.Slice (some l) none none p2) pos) (SpE C ms Wx (.op (.slcA fl) [ia, il])) := by
  refine PE.mono (pe_slice sl_list ha (po_some hl) po_none) fun σ H Q q => ?_
  have h1 := SpA_two (Sp_op (es := [ia, il]) (f := opS (.slcA fl)) (fun _ => by simp only [ev]) (R := fun vs H2 => ∃ x i, vs = [x, .int i] ∧ rSlL C.K x (some i) none H2 Q) (fun B ws vs H2 hB g r k => o_slcA hB g r (by unfold mdE at k; exact k)) q)
  refine SpE.mono (fun x H1 q => SpE.mono (fun y H2 q => ?_) q) h1
  obtain ⟨x', i, e, q⟩ := q
  cases e
  refine ⟨i, rfl, ?_⟩
  show rSlL X.K x (some i) none H2 Q
  rw [eK]
  exact q
theorem pe_slcB {fl : Bool} {l : Expr} {il : E} {p2 : Pos} (eK : X.K = C.K) (ha : PE X a (SpE C ms Wx ia)) (hl : PE X l (SpE C ms Wx il)) : PE X (.Subscript a (.Slice none (some l) none p2) pos) (SpE C ms Wx (.op (.slcB fl) [ia, il])) := by
  refine PE.mono (pe_slice sl_list ha po_none (po_some hl)) fun σ H Q q => ?_
  have h1 := SpA_two (Sp_op (es := [ia, il]) (f := opS (.slcB fl)) (fun _ => by simp only [ev]) (R := fun vs H2 => ∃ x i, vs = [x, .int i] ∧ rSlL C.K x none (some i) H2 Q) (fun B ws vs H2 hB g r k => o_slcB hB g r (by unfold mdE at k; exact k)) q)
  refine SpE.mono (fun x H1 q => ?_) h1
  show SpE C ms Wx il σ H1 _
  refine SpE.mono (fun y H2 q => ?_) q
  obtain ⟨x', i, e, q⟩ := q
  cases e
  refine ⟨i, rfl, ?_⟩
  show rSlL X.K x none (some i) H2 Q
  rw [eK]
  exact q
theorem pe_revX {fl : Bool} {k : Nat} {p1 p2 p3 : Pos} (eK : X.K = C.K) (ha : PE X a (SpE C ms Wx ia)) : PE X (.Subscript a (.Slice none none (some (.UnaryOp .USub (.Constant (.int 1) k p1) p2)) p3) pos) (SpE C ms Wx (.op (.rev fl) [ia])) := by
  refine PE.mono (pe_revL ha) fun σ H Q q => ?_
  have := un1 (r := fun x H2 Q => ∃ a xs, x = .ref a ∧ SqL C.K H2 a xs ∧ ∀ p, H2 p = none → Q (.ref p) (upd H2 p (.lst xs.reverse))) (fun hB g r k => o_rev hB g r k) q
  refine SpE.mono (fun x H1 q => ?_) this
  rw [eK]
  exact q
theorem pe_ixX (eK : X.K = C.K) (hs : isSlice b = false) (ha : PE X a (SpE C ms Wx ia)) (hb : PE X b (SpE C ms Wx ib)) : PE X (.Subscript a b pos) (SpE C ms Wx (.op .ix [ia, ib])) := by
  refine PE.mono (pe_ix (r := rIx C.K) (by rw [← eK]; exact ix_seq) ha hb (plainIx_ok hs)) fun σ H Q q => bin2 (fun hB g r k => o_ix hB r k) q
end
end Mx
/-! # Mx11: the expressions, by the checker -/
namespace Mx
open PySem L2 PyProof.Rows
section
variable {X : Cx} {c : Ck} {C : Cc} {Wx : WX} {lv : Nat} {ms : List Md} {pos p : Pos}
theorem okEs_get {rm : Nat → Md} {ms : List Md} : ∀ {is : List E} {j : Nat} {i : E}, okEs rm ms is = true → is[j]? = some i → okE rm ms i = true
  | [], j, i, h, e => by simp at e
  | x :: is, 0, i, h, e => by
    unfold okEs at h
    simp only [Bool.and_eq_true] at h
    simp at e
    rw [← e]
    exact h.1
  | x :: is, j + 1, i, h, e => by
    unfold okEs at h
    simp only [Bool.and_eq_true] at h
    exact okEs_get h.2 (by simpa using e)
theorem chkEs_get {n : Nat} : ∀ {es : List Expr} {is : List E} {j : Nat} {e : Expr} {i : E}, chkEs n c es is = true → es[j]? = some e → is[j]? = some i → ∃ m, m < n ∧ chkE m c e i = true := by
  induction n with
  | zero => intro es is j e i h; unfold chkEs at h; cases h
  | succ n ih =>
    intro es is j e i h he hi
    cases es with
    | nil => simp at he
    | cons x es =>
      cases is with
      | nil => unfold chkEs at h; cases h
      | cons y is =>
        unfold chkEs at h
        simp only [Bool.and_eq_true, Bool.not_eq_true'] at h
        cases j with
        | zero =>
          simp at he hi
          rw [← he, ← hi]
          exact ⟨n, Nat.lt_succ_self n, h.1.2⟩
        | succ j =>
          obtain ⟨m, hm, q⟩ := ih h.2 (by simpa using he) (by simpa using hi)
          exact ⟨m, Nat.lt_succ_of_lt hm, q⟩
/-! ## targets -/
theorem assignEach_star : ∀ {es : List Expr} {env : Env}, (∀ e ∈ es, isStar e = false) → (assignEach es env).findIdx? (·.1) = none ∧ (assignEach es env).length = es.length
  | [], _, _ => ⟨rfl, rfl⟩
  | e :: es, env, h => by
    obtain ⟨h1, h2⟩ := assignEach_star (env := env) fun x hx => h x (List.mem_cons_of_mem _ hx)
    have e1 : assignEach (e :: es) env = (false, assign e env) :: assignEach es env := by
      have := h e List.mem_cons_self
      cases e <;> first | rfl | cases this
    rw [e1]
    refine ⟨?_, by rw [List.length_cons, List.length_cons, h2]⟩
    rw [List.findIdx?_cons]
    simp [h1]
theorem assignEach_cons {e : Expr} {es : List Expr} {env : Env} (h : isStar e = false) : (assignEach (e :: es) env).map (·.2) = assign e env :: (assignEach es env).map (·.2) := by
  cases e <;> first | rfl | cases h
theorem pgs_names (f : FitX X c C Wx lv) : ∀ {es : List Expr} {is : List Nat}, es.length = is.length → (∀ (j : Nat) e i, es[j]? = some e → is[j]? = some i → ∃ x p, e = .Name x p ∧ c.N[i]? = some x ∧ stoB c x = true) → PGs X es (gL is)
  | [], [], _, _ => pgs_nil
  | e :: es, i :: is, hl, h => by
    obtain ⟨x, p, rfl, h1, h2⟩ := h 0 e i rfl rfl
    obtain ⟨s1, s2⟩ := f.sto h2
    exact pgs_cons (pg_name f.nd (by rw [f.N]; exact h1) s1 s2) (pgs_names f (by simpa using hl) fun j e i he hi => h (j + 1) e i he hi) (assignEach_cons rfl)
  | [], _ :: _, hl, _ => by cases hl
  | _ :: _, [], hl, _ => by cases hl
theorem tgChk_names {es : List Expr} {k : Nat} {is : List Nat} (h : tgChk c (.Tuple es k p) (.tp is) = true) : es.length = is.length ∧ ∀ (j : Nat) e i, es[j]? = some e → is[j]? = some i → ∃ x p, e = .Name x p ∧ c.N[i]? = some x ∧ stoB c x = true := by
  unfold tgChk at h
  simp only [Bool.and_eq_true, decide_eq_true_eq, List.all_eq_true] at h
  refine ⟨h.1, fun j e i he hi => ?_⟩
  have hm : (e, i) ∈ es.zip is := List.mem_of_getElem? (i := j) (by rw [List.getElem?_zip_eq_some]; exact ⟨he, hi⟩)
  have := h.2 _ hm
  cases e with
  | Name x q =>
    simp only [Bool.and_eq_true, decide_eq_true_eq] at this
    exact ⟨x, q, rfl, this.1, this.2⟩
  | _ => cases this
theorem pg_tgX (f : FitX X c C Wx lv) {tg : Expr} {itg : Tg} (h : tgChk c tg itg = true) : PG X tg (gT C itg) := by
  cases itg with
  | nm i =>
    cases tg with
    | Name x q =>
      unfold tgChk at h
      simp only [Bool.and_eq_true, decide_eq_true_eq] at h
      obtain ⟨s1, s2⟩ := f.sto h.2
      exact pg_name f.nd (by rw [f.N]; exact h.1) s1 s2
    | _ => cases h
  | tp is =>
    cases tg with
    | Tuple es k q =>
      obtain ⟨h1, h2⟩ := tgChk_names h
      have hs : ∀ e ∈ es, isStar e = false := fun e he => by
        obtain ⟨j, hj⟩ := List.getElem?_of_mem he
        have hl : j < es.length := (List.getElem?_eq_some_iff.mp hj).1
        obtain ⟨x, p, rfl, _⟩ := h2 j e _ hj (List.getElem?_eq_getElem (h1 ▸ hl))
        rfl
      obtain ⟨a1, a2⟩ := assignEach_star (env := X.env) hs
      have := pg_tup (k := k) (pos := q) f.calm (pgs_names f h1 h2) a2 a1
      show PG X _ (gTup C.K is.length (gL is))
      rw [← f.K, ← h1]
      exact this
    | _ => cases h
/-! ## all -/
def SndE (n : Nat) : Prop := ∀ (X : Cx) (c : Ck) (C : Cc) (Wx : WX) (lv : Nat) (ms : List Md) (e : Expr) (i : E), FitX X c C Wx lv → ms.length = c.N.length → chkE n c e i = true → okE C.rm ms i = true → PE X e (SpE C ms Wx i) ∧ (isIfE e = false → PT X e (SpT C ms Wx i))
def SndI (n : Nat) : Prop := ∀ (X : Cx) (c : Ck) (C : Cc) (Wx : WX) (lv : Nat) (ms : List Md) (tg e : Expr) (i : It), FitX X c C Wx lv → ms.length = c.N.length → chkIt n c tg e i = true → okIt C.rm ms i = true → PI X tg e (SpI C ms Wx i)
theorem snd_args {n : Nat} (ih : ∀ m < n, SndE m) (f : FitX X c C Wx lv) (hm : ms.length = c.N.length) : ∀ {es : List Expr} {is : List E}, chkEs n c es is = true → okEs C.rm ms is = true → PA X es (SpA C ms Wx is) := by
  intro es is h ok
  have all : ∀ (es : List Expr) (is : List E), es.length = is.length → (∀ e ∈ es, isStar e = false) → (∀ (j : Nat) e i, es[j]? = some e → is[j]? = some i → PE X e (SpE C ms Wx i)) → PA X es (SpA C ms Wx is) := by
    intro es
    induction es with
    | nil =>
      intro is hl hs hh
      cases is with
      | nil => exact PA.mono pa_nil fun σ H Q q => SpA_nil q
      | cons i is => cases hl
    | cons e es ih2 =>
      intro is hl hs hh
      cases is with
      | nil => cases hl
      | cons i is =>
        exact PA.mono (pa_cons (hh 0 e i rfl rfl) (ih2 is (by simpa using hl) (fun x hx => hs x (List.mem_cons_of_mem _ hx)) fun j e i he hi => hh (j + 1) e i he hi) (star1 (hs e List.mem_cons_self))) fun σ H Q q => SpA_cons q
  refine all es is (chkEs_len h) (chkEs_star h) fun j e i he hi => ?_
  obtain ⟨m, hm', q⟩ := chkEs_get h he hi
  exact (ih m hm' X c C Wx lv ms e i f hm q (okEs_get ok hi)).1
theorem isTupE_inv {e : Expr} (h : isTupE e = true) : ∃ es k p, e = .Tuple es k p := by
  cases e with
  | Tuple es k p => exact ⟨es, k, p, rfl⟩
  | _ => cases h
theorem sndI_of {n : Nat} (ih : ∀ m < n, SndE m) : SndI n := by
  intro X c C Wx lv ms tg e i f hm h ok
  cases n with
  | zero => unfold chkIt at h; cases h
  | succ n =>
    have ihn := ih n (Nat.lt_succ_self n)
    unfold chkIt at h
    split at h
    · cases h
    · rename_i i' hn
      cases hn
      simp only [Bool.and_eq_true, Bool.not_eq_true'] at h
      have p1 := (ihn X _ C Wx lv ms _ _ f hm h.1 (by unfold okIt at ok; exact ok)).1
      exact PI.mono (pi_list p1) fun σ H R q => by
        have := si_lst q
        show iList X.K _ σ H R
        rw [f.K]
        exact this
    · rename_i n' x p1' a p2' ia hn
      cases hn
      simp only [Bool.and_eq_true, Bool.not_eq_true', decide_eq_true_eq] at h
      obtain ⟨⟨⟨rfl, h2⟩, h3⟩, h4⟩ := h
      have p1 := (ihn X _ C Wx lv ms a _ f hm h4 (by unfold okIt at ok; exact ok)).1
      exact PI.mono (pi_range1 (f.gl h2).1 f.blt (PA.mono (pa_cons p1 pa_nil (star1 h3)) fun σ H Q q => SpA_one q) (star1 h3)) fun σ H R q => si_rng1 q
    · rename_i n' x p1' a b p2' ia ib hn
      cases hn
      simp only [Bool.and_eq_true, Bool.not_eq_true', decide_eq_true_eq] at h
      obtain ⟨⟨⟨⟨⟨rfl, h2⟩, h3⟩, h3'⟩, h4⟩, h5⟩ := h
      unfold okIt at ok
      simp only [Bool.and_eq_true] at ok
      have p1 := (ihn X _ C Wx lv ms a _ f hm h4 ok.1).1
      have p2 := (ihn X _ C Wx lv ms b _ f hm h5 ok.2).1
      exact PI.mono (pi_range2 (f.gl h2).1 f.blt (PA.mono (pa_cons p1 (pa_cons p2 pa_nil (star1 h3')) (star1 h3)) fun σ H Q q => SpA_two q) (by rw [star1 h3, star1 h3']; rfl) (by rw [star1 h3']; rfl)) fun σ H R q => si_rng2 q
    · rename_i n' x p1' a b p2' ia ib hn
      cases hn
      simp only [Bool.and_eq_true, Bool.not_eq_true', decide_eq_true_eq] at h
      obtain ⟨⟨⟨⟨⟨⟨rfl, h2⟩, ht⟩, h3⟩, h3'⟩, h4⟩, h5⟩ := h
      unfold okIt at ok
      simp only [Bool.and_eq_true] at ok
      have p1 := (ihn X _ C Wx lv ms a _ f hm h4 ok.1).1
      have p2 := (ihn X _ C Wx lv ms b _ f hm h5 ok.2).1
      obtain ⟨es, k, q, e⟩ := isTupE_inv ht
      subst e
      · exact PI.mono (pi_zip (f.gl h2).1 f.blt (PA.mono (pa_cons p1 (pa_cons p2 pa_nil (star1 h3')) (star1 h3)) fun σ H Q q => SpA_two q) (star1 h3) (star_any fun y hy => by rw [List.mem_singleton.mp hy]; exact h3')) fun σ H R q => by
          have := si_zip q
          show iZip X.K _ σ H R
          rw [f.K]
          exact this
    · rename_i n' x p1' a p2' ia hn
      cases hn
      simp only [Bool.and_eq_true, Bool.not_eq_true', decide_eq_true_eq] at h
      obtain ⟨⟨⟨⟨rfl, h2⟩, ht⟩, h3⟩, h4⟩ := h
      have p1 := (ihn X _ C Wx lv ms a _ f hm h4 (by unfold okIt at ok; exact ok)).1
      obtain ⟨es, k, q, e⟩ := isTupE_inv ht
      subst e
      · exact PI.mono (pi_enum (f.gl h2).1 f.blt (PA.mono (pa_cons p1 pa_nil (star1 h3)) fun σ H Q q => SpA_one q) (star1 h3)) fun σ H R q => by
          have := si_enum q
          show iEnum X.K _ σ H R
          rw [f.K]
          exact this
    · cases h
theorem comp_case {n : Nat} (ihn : SndE n) (iha : ∀ m < n, SndE m) {elt tg iter : Expr} {ifs : List Expr} {scope : Scope} {ielt : E} {itg : Tg} {iit : It} {icond : Option E} {vs : List Nat} (f : FitX X c C Wx lv) (hm : ms.length = c.N.length)
    (h : (match tgOwn c tg itg with
    | some own => decide (own.map (·.2) = vs) && blkC c.N c.sc scope own && chkIt n c tg iter iit && tgChk (c.blk scope) tg itg && chkE n (c.blk scope) elt ielt && chkO n (c.blk scope) ifs icond && !isSet iter
    | none => false) = true) (ok : okE C.rm ms (.comp ielt itg iit icond vs) = true) : PE X (.ListComp elt [⟨tg, iter, ifs, 0⟩] scope pos) (SpE C ms Wx (.comp ielt itg iit icond vs)) := by
  cases eo : tgOwn c tg itg with
  | none => rw [eo] at h; cases h
  | some own =>
    rw [eo] at h
    simp only [Bool.and_eq_true, Bool.not_eq_true', decide_eq_true_eq] at h
    obtain ⟨⟨⟨⟨⟨⟨h1, h2⟩, h3⟩, h4⟩, h5⟩, h6⟩, h7⟩ := h
    have ok' := ok
    unfold okE at ok'
    simp only [Bool.and_eq_true, decide_eq_true_eq, Bool.not_eq_true'] at ok'
    obtain ⟨⟨⟨⟨⟨ok1, ok2⟩, ok3⟩, ok4⟩, ok5⟩, ok6⟩ := ok'
    have B := blkOk_by h2
    have hN : X.N = c.N := f.N
    have hms : ∀ i ∈ vs, i < ms.length := fun i hi => by
      rw [← h1] at hi
      obtain ⟨q, hq, rfl⟩ := List.mem_map.mp hi
      rw [hm]
      exact (List.getElem?_eq_some_iff.mp (B.ix q hq)).1
    have hm2 : (setMs ms itg.ix (itM C.rm ms iit)).length = (c.blk scope).N.length := by rw [setMs_len]; exact hm
    have pI := sndI_of (n := n) iha X c C Wx lv ms tg iter iit f hm h3 ok1
    refine (PE.mono (pe_lc (own := own) (tt := SpO C (setMs ms itg.ix (itM C.rm ms iit)) icond) f.calm f.nd pI (by rw [hN, f.sc]; exact B) (fun s H C0 cl fp => pg_tgX (f.blk s H scope cl C0 fp) h4) (fun s H C0 cl fp => ?_) (fun s H C0 cl fp => (ihn _ _ C _ lv _ _ _ (f.blk s H scope cl C0 fp) hm2 h5 ok3).1) (noset h7)) fun σ H Q q => ?_)
    · cases n with
      | zero => unfold chkO at h6; cases h6
      | succ n =>
        unfold chkO at h6
        split at h6
        · cases h6
        · exact pts_nil
        · rename_i n' e i' hn
          cases hn
          simp only [Bool.and_eq_true, Bool.not_eq_true'] at h6
          unfold okO at ok4
          exact pts_one ((iha n (Nat.lt_succ_self n) _ _ C _ lv _ _ _ (f.blk s H scope cl C0 fp) hm2 h6.1 ok4).2 h6.2)
        · cases h6
    · rw [h1]
      exact sp_comp hms ok q
theorem sndE : ∀ n, SndE n := by
  intro n
  induction n using Nat.strongRecOn with
  | _ n ih =>
  intro X c C Wx lv ms e i f hm h ok
  have go : PE X e (SpE C ms Wx i) → (plainT e = true) → PE X e (SpE C ms Wx i) ∧ (isIfE e = false → PT X e (SpT C ms Wx i)) := fun a b => ⟨a, fun _ => pt_of_pe a b⟩
  cases n with
  | zero => unfold chkE at h; cases h
  | succ n =>
    have ihn : ∀ (X : Cx) (c : Ck) (C : Cc) (Wx : WX) (lv : Nat) (ms : List Md) (e : Expr) (i : E), FitX X c C Wx lv → ms.length = c.N.length → chkE n c e i = true → okE C.rm ms i = true → PE X e (SpE C ms Wx i) ∧ (isIfE e = false → PT X e (SpT C ms Wx i)) := ih n (Nat.lt_succ_self n)
    have iha : ∀ m < n, SndE m := fun m hm => ih m (Nat.lt_succ_of_lt hm)
    unfold chkE at h
    split at h
    · cases h
    · -- flat
      rename_i n' i' hn
      cases hn
      obtain ⟨p1, p2⟩ := ihn X _ C Wx lv ms _ i' f hm h (by unfold okE at ok; exact ok)
      have m : ∀ σ H Q, SpE C ms Wx (.flat i') σ H Q → SpE C ms Wx i' σ H Q := fun σ H Q q => by
        obtain ⟨B, F, Sg, r, k⟩ := q
        refine ⟨B, F, Sg, r, ?_⟩
        unfold ev at k
        cases e1 : ev C.cf C.cs i' Sg with
        | bad => rw [e1] at k; exact k
        | exc x => rw [e1] at k; exact k
        | val w =>
          rw [e1] at k
          intro v H' g rs
          have k : OKo C.P Wx σ H (if w.isFlat = true then .val w else .bad) _ := k
          split at k
          · rename_i hf
            exact k v H' g (by unfold mdE; exact Res.flat hf rs.view)
          · exact k.elim
      refine ⟨PE.mono p1 m, fun hi => PT.mono (p2 hi) fun σ H Q q => ?_⟩
      obtain ⟨B, F, Sg, r, k⟩ := q
      refine ⟨B, F, Sg, r, ?_⟩
      unfold ev at k
      cases e1 : ev C.cf C.cs i' Sg with
      | bad => rw [e1] at k; exact k
      | exc x => rw [e1] at k; exact k
      | val w =>
        rw [e1] at k
        have k : OKo C.P Wx σ H (if w.isFlat = true then .val w else .bad) _ := k
        split at k
        · exact k
        · exact k.elim
    · -- a name
      simp only [Bool.and_eq_true, decide_eq_true_eq] at h
      exact go (pe_varX f h.1 h.2) rfl
    · -- a constant of the module
      simp only [Bool.and_eq_true, decide_eq_true_eq] at h
      exact go (pe_gciX f h.1 h.2) rfl
    · have h := of_decide_eq_true h
      subst h
      exact go (PE.mono pe_int (tc_ok rfl fun H => by unfold Rp; rfl)) rfl
    · have h := of_decide_eq_true h
      subst h
      exact go (PE.mono pe_bl (tc_ok rfl fun H => by unfold Rp; rfl)) rfl
    · exact go (PE.mono pe_non (tc_ok rfl fun H => by unfold Rp; rfl)) rfl
    · have h := of_decide_eq_true h
      subst h
      exact go (PE.mono pe_str (tc_ok rfl fun H => by unfold Rp; rfl)) rfl
    · -- binary
      rename_i n' a o b pos o' ia ib hn
      cases hn
      simp only [Bool.and_eq_true] at h
      unfold okE okEs okEs okEs at ok
      simp only [Bool.and_eq_true] at ok
      exact go (pe_bin h.1.1 (ihn X _ C Wx lv ms _ _ f hm h.1.2 ok.1).1 (ihn X _ C Wx lv ms _ _ f hm h.2 ok.2.1).1) rfl
    · -- minus
      rename_i n' a pos ia hn
      cases hn
      unfold okE okEs okEs at ok
      simp only [Bool.and_eq_true] at ok
      exact go (PE.mono (pe_un un_neg (ihn X _ C Wx lv ms _ _ f hm h ok.1).1) fun σ H Q q => un1 (fun hB g r k => o_neg r k) q) rfl
    · -- not
      rename_i n' a pos ia hn
      cases hn
      simp only [Bool.and_eq_true, Bool.not_eq_true'] at h
      unfold okE at ok
      obtain ⟨p1, p2⟩ := ihn X _ C Wx lv ms _ _ f hm h.1 ok
      obtain ⟨q1, q2⟩ := pe_notX (pos := pos) p1 (p2 h.2)
      exact ⟨q1, fun _ => q2⟩
    · -- is None
      rename_i n' a k p pos ia hn
      cases hn
      unfold okE okEs okEs at ok
      simp only [Bool.and_eq_true] at ok
      obtain ⟨q1, q2⟩ := pe_isN (k := k) (p := p) (pos := pos) (ihn X _ C Wx lv ms _ _ f hm h ok.1).1
      exact ⟨q1, fun _ => q2⟩
    · rename_i n' a k p pos ia hn
      cases hn
      unfold okE okEs okEs at ok
      simp only [Bool.and_eq_true] at ok
      obtain ⟨q1, q2⟩ := pe_notN (k := k) (p := p) (pos := pos) (ihn X _ C Wx lv ms _ _ f hm h ok.1).1
      exact ⟨q1, fun _ => q2⟩
    · -- a comparison
      have hn := ‹n + 1 = Nat.succ _›
      cases hn
      simp only [Bool.and_eq_true, Bool.not_eq_true'] at h
      unfold okE okEs okEs okEs at ok
      simp only [Bool.and_eq_true] at ok
      have p1 := (ihn X _ C Wx lv ms _ _ f hm h.1.2 ok.1).1
      have p2 := (ihn X _ C Wx lv ms _ _ f hm h.2 ok.2.1).1
      exact ⟨(pe_cmpX f h.1.1.1 h.1.1.2 p1 p2).1, fun _ => (pe_cmpX f h.1.1.1 h.1.1.2 p1 p2).2⟩
    · -- a chain
      rename_i n' a o1 o2 b d pos o1' o2' ia ib id hn
      cases hn
      simp only [Bool.and_eq_true] at h
      unfold okE at ok
      simp only [Bool.and_eq_true] at ok
      obtain ⟨q1, q2⟩ := pe_chainX (pos := pos) h.1.1.1.1 h.1.1.1.2 (ihn X _ C Wx lv ms _ _ f hm h.1.1.2 ok.1.1).1 (ihn X _ C Wx lv ms _ _ f hm h.1.2 ok.1.2).1 (ihn X _ C Wx lv ms _ _ f hm h.2 ok.2).1
      exact ⟨q1, fun _ => q2⟩
    · -- a chain of three
      rename_i n' a o1 o2 o3 b d g pos o1' o2' o3' ia ib id ig hn
      cases hn
      simp only [Bool.and_eq_true] at h
      unfold okE at ok
      simp only [Bool.and_eq_true] at ok
      obtain ⟨⟨⟨⟨⟨⟨h1, h2⟩, h3⟩, h4⟩, h5⟩, h6⟩, h7⟩ := h
      obtain ⟨⟨⟨ok1, ok2⟩, ok3⟩, ok4⟩ := ok
      obtain ⟨q1, q2⟩ := pe_chain3X (pos := pos) h1 h2 h3 (ihn X _ C Wx lv ms _ _ f hm h4 ok1).1 (ihn X _ C Wx lv ms _ _ f hm h5 ok2).1 (ihn X _ C Wx lv ms _ _ f hm h6 ok3).1 (ihn X _ C Wx lv ms _ _ f hm h7 ok4).1
      exact ⟨q1, fun _ => q2⟩
    · -- and
      rename_i n' es pos is hn
      cases hn
      simp only [Bool.and_eq_true, Bool.not_eq_true'] at h
      unfold okE at ok
      obtain ⟨q1, q2⟩ := pe_andX (pos := pos) (X := X) (C := C) (ms := ms) (Wx := Wx) (chkEs_len h.1.1) (fun z => by rw [z] at h; simp at h) fun j e i he hi => by
        obtain ⟨m, hm', q⟩ := chkEs_get h.1.1 he hi
        obtain ⟨a1, a2⟩ := iha m hm' X _ C Wx lv ms e i f hm q (okEs_get ok hi)
        refine ⟨a1, a2 ?_⟩
        have := h.2
        rw [List.any_eq_false] at this
        simpa using this e (List.mem_of_getElem? he)
      exact ⟨q1, fun _ => q2.pt⟩
    · -- or
      rename_i n' es pos is hn
      cases hn
      simp only [Bool.and_eq_true, Bool.not_eq_true'] at h
      unfold okE at ok
      obtain ⟨q1, q2⟩ := pe_orX (pos := pos) (X := X) (C := C) (ms := ms) (Wx := Wx) (chkEs_len h.1.1) (fun z => by rw [z] at h; simp at h) fun j e i he hi => by
        obtain ⟨m, hm', q⟩ := chkEs_get h.1.1 he hi
        obtain ⟨a1, a2⟩ := iha m hm' X _ C Wx lv ms e i f hm q (okEs_get ok hi)
        refine ⟨a1, a2 ?_⟩
        have := h.2
        rw [List.any_eq_false] at this
        simpa using this e (List.mem_of_getElem? he)
      exact ⟨q1, fun _ => q2.pt⟩
    · -- if
      rename_i n' t a b pos it ia ib hn
      cases hn
      simp only [Bool.and_eq_true, Bool.not_eq_true'] at h
      unfold okE at ok
      simp only [Bool.and_eq_true] at ok
      refine ⟨pe_ifX ((ihn X _ C Wx lv ms _ _ f hm h.1.1.1 ok.1.1).2 h.2) (ihn X _ C Wx lv ms _ _ f hm h.1.1.2 ok.1.2).1 (ihn X _ C Wx lv ms _ _ f hm h.1.2 ok.2).1, fun z => ?_⟩
      unfold isIfE at z
      cases z
    · -- a tuple
      rename_i n' es k pos is hn
      cases hn
      simp only [Bool.and_eq_true, decide_eq_true_eq] at h
      unfold okE at ok
      exact go (pe_tupX (by rw [← chkEs_len h.1]; exact h.2) (snd_args iha f hm h.1 ok)) rfl
    · -- a list
      rename_i n' es pos is hn
      cases hn
      simp only [Bool.and_eq_true, decide_eq_true_eq] at h
      unfold okE at ok
      exact go (pe_lstX (by rw [← chkEs_len h.1]; exact h.2) (snd_args iha f hm h.1 ok)) rfl
    · -- slices
      rename_i n' a l p2 pos fl ia il hn
      cases hn
      simp only [Bool.and_eq_true] at h
      unfold okE okEs okEs okEs at ok
      simp only [Bool.and_eq_true] at ok
      exact go (pe_slcA f.K (ihn X _ C Wx lv ms _ _ f hm h.1 ok.1).1 (ihn X _ C Wx lv ms _ _ f hm h.2 ok.2.1).1) rfl
    · rename_i n' a l p2 pos fl ia il hn
      cases hn
      simp only [Bool.and_eq_true] at h
      unfold okE okEs okEs okEs at ok
      simp only [Bool.and_eq_true] at ok
      exact go (pe_slcB f.K (ihn X _ C Wx lv ms _ _ f hm h.1 ok.1).1 (ihn X _ C Wx lv ms _ _ f hm h.2 ok.2.1).1) rfl
    · rename_i n' a k p1 p2 p3 pos fl ia hn
      cases hn
      unfold okE okEs okEs at ok
      simp only [Bool.and_eq_true] at ok
      exact go (pe_revX f.K (ihn X _ C Wx lv ms _ _ f hm h ok.1).1) rfl
    · -- an item
      rename_i n' a b pos ia ib hn1 hn
      cases hn
      simp only [Bool.and_eq_true, Bool.not_eq_true'] at h
      unfold okE okEs okEs okEs at ok
      simp only [Bool.and_eq_true] at ok
      exact go (pe_ixX f.K h.1.1 (ihn X _ C Wx lv ms _ _ f hm h.1.2 ok.1).1 (ihn X _ C Wx lv ms _ _ f hm h.2 ok.2.1).1) rfl
    · -- isinstance
      rename_i n' x p a y p2 pos t ia hn
      cases hn
      simp only [Bool.and_eq_true, Bool.not_eq_true', decide_eq_true_eq] at h
      obtain ⟨⟨⟨⟨⟨⟨rfl, h2⟩, h3⟩, h4⟩, h5⟩, h6⟩, h7⟩ := h
      unfold okE okEs okEs at ok
      simp only [Bool.and_eq_true] at ok
      exact go (pe_isiX f h3 h2 h4 h5 h6 (ihn X _ C Wx lv ms _ _ f hm h7 ok.1).1) rfl
    · -- isinstance, an own class
      rename_i n' x p a y p2 pos ts ia hn
      cases hn
      simp only [Bool.and_eq_true, Bool.not_eq_true', decide_eq_true_eq] at h
      obtain ⟨⟨⟨⟨⟨rfl, h2⟩, h3⟩, h4⟩, h5⟩, h6⟩ := h
      unfold okE okEs okEs at ok
      simp only [Bool.and_eq_true] at ok
      exact go (pe_iscX f h6.1 h6.2 h2 h3 h4 (ihn X _ C Wx lv ms _ _ f hm h5 ok.1).1) rfl
    · -- a field
      rename_i n' x p fl pos k ia hn
      cases hn
      simp only [Bool.and_eq_true, decide_eq_true_eq] at h
      unfold okE okEs okEs at ok
      simp only [Bool.and_eq_true] at ok
      exact go (pe_fldX f h.1 (ihn X _ C Wx lv ms _ _ f hm h.2 ok.1).1) rfl
    · -- x.index(y)
      rename_i n' x p fl ap y p2 pos ia ib hn
      cases hn
      simp only [Bool.and_eq_true, decide_eq_true_eq] at h
      obtain ⟨⟨⟨⟨rfl, h2⟩, h3⟩, h4⟩, h5⟩ := h
      unfold okE okEs okEs okEs at ok
      simp only [Bool.and_eq_true] at ok
      exact go (pe_indexX f h2 h3 (ihn X _ C Wx lv ms _ _ f hm h4 ok.1).1 (ihn X _ C Wx lv ms _ _ f hm h5 ok.2.1).1) rfl
    · -- list(range(n))
      rename_i n' x p y p2 a p3 pos ia hn
      cases hn
      simp only [Bool.and_eq_true, Bool.not_eq_true', decide_eq_true_eq] at h
      obtain ⟨⟨⟨⟨⟨rfl, rfl⟩, h3⟩, h4⟩, h5⟩, h6⟩ := h
      unfold okE okEs okEs at ok
      simp only [Bool.and_eq_true] at ok
      exact go (pe_rngLX f h3 h4 h5 (ihn X _ C Wx lv ms _ _ f hm h6 ok.1).1) rfl
    · -- a def of the text
      rename_i n' x p es pos id is hn
      cases hn
      simp only [Bool.and_eq_true, Bool.not_eq_true', decide_eq_true_eq] at h
      obtain ⟨⟨h1, h2⟩, h3⟩ := h
      simp only [Bool.or_eq_true, Bool.and_eq_true, Bool.not_eq_true', decide_eq_true_eq] at h1
      unfold okE at ok
      rcases h1 with (⟨h1, h4⟩ | ⟨h1, h4⟩) | ⟨h1, h4⟩
      · cases es with
        | nil => cases h4
        | cons e es => exact go (pe_callX f h1 h2 (chkEs_star h3) (snd_args iha f hm h3 ok) (chkEs_len h3)) rfl
      · cases es with
        | nil => cases h4
        | cons e es => exact go (pe_mkX f h1 h2 (chkEs_star h3) (snd_args iha f hm h3 ok) (chkEs_len h3)) rfl
      · cases es with
        | nil =>
          have := chkEs_len h3
          cases is with
          | nil => exact go (pe_mkzX f h1 h2) rfl
          | cons i is => cases this
        | cons e es => cases h4
    · -- a built-in
      rename_i n' x p es pos o is hn0 hn1 hn2 hn
      cases hn
      simp only [Bool.and_eq_true, Bool.not_eq_true'] at h
      obtain ⟨⟨h1, h2⟩, h4⟩ := h
      unfold okE at ok
      cases eo : bltO o with
      | none =>
        rw [eo] at h1
        simp only [Bool.and_eq_true, decide_eq_true_eq] at h1
        obtain ⟨⟨⟨rfl, rfl⟩, h5⟩, h6⟩ := h1
        unfold isRg at h5
        split at h5
        · rename_i y p2 a b d p3
          simp only [Bool.and_eq_true, decide_eq_true_eq] at h5
          obtain ⟨rfl, h5⟩ := h5
          exact go (pe_rng3X f h2 h5 (chkEs_star h6) (snd_args iha f hm h6 ok)) rfl
        · cases h5
      | some yk =>
        cases es with
        | nil => cases h4
        | cons e es =>
          obtain ⟨y, k⟩ := yk
          rw [eo] at h1
          simp only [Bool.and_eq_true, decide_eq_true_eq] at h1
          obtain ⟨⟨rfl, hk⟩, h3⟩ := h1
          exact go (pe_blt f eo h2 hk (chkEs_star h3) (snd_args iha f hm h3 ok)) rfl
    · -- a comprehension
      rename_i n' elt tg iter ifs scope pos ielt itg iit icond vs hn
      cases hn
      exact go (comp_case ihn iha f hm h ok) rfl
    · cases h
end
end Mx
/-! # Mx12: statements: what they mean, what they ask -/
namespace Mx
open PySem L2 PyProof.Rows
inductive S where
  | asg (i : Nat) (m : Md) (e : E)
  | app (i : Nat) (e : E) (wp : List Nat)
  | ifs (c : E) (a b : List S)
  | forS (tg : Tg) (it : It) (body : List S)
  | whl (n : Nat) (c : E) (body : List S)
  | ret (e : E)
  | retV (i : Nat)
  | exp (e : E)
  | rai (c : Nat)
  | nev | pas | brk
  | frz (i : Nat)
  | kil (i : Nat)
  | asgT (is : List Nat) (es : List E)
  | unp (is : List Nat) (e : E)
  | setT (ts : List (Nat × E × Option E)) (es : List E) (wp : List Nat)
  | appK (i : Nat) (a e : E) (wp : List Nat)
inductive R where
  | nx (σ : Sg) | rt (w : W) | bk (σ : Sg) | ex (c : Nat) | bad
def ofO (o : O) (k : W → R) : R := match o with | .val w => k w | .exc c => .ex c | .bad => .bad
def forW (f : W → Sg → R) : List W → Sg → R
  | [], σ => .nx σ
  | x :: xs, σ => match f x σ with
    | .nx σ' => forW f xs σ'
    | .bk σ' => .nx σ'
    | r => r
def whW (c : Sg → O) (f : Sg → R) : Nat → Sg → R
  | 0, _ => .bad
  | n + 1, σ => ofO (c σ) fun w => match w with
    | .bl true => (match f σ with
      | .nx σ' => whW c f n σ'
      | .bk σ' => .nx σ'
      | r => r)
    | .bl false => .nx σ
    | _ => .bad
def tgR (tg : Tg) (k : Sg → R) (x : W) (σ : Sg) : R := match tgS tg x (wipeW σ tg.ix) with
  | some σ' => k σ'
  | none => .bad
/-- x[a] = w, x[a][b] = w -/
def stoW (cf : Nat → List W → O) (cs : List Int) (t : Nat × E × Option E) (w : W) (σ : Sg) : Option Sg := match σ.get t.1, ev cf cs t.2.1 σ with
  | .val (.lst us), .val (.int k) => (match ixN us.length k with
    | some j => (match t.2.2 with
      | none => some (σ.set t.1 (some (.lst (us.set j w))))
      | some b => (match us[j]?, ev cf cs b σ with
        | some (.lst zs), .val (.int l) => (match ixN zs.length l with
          | some j2 => some (σ.set t.1 (some (.lst (us.set j (.lst (zs.set j2 w))))))
          | none => none)
        | _, _ => none))
    | none => none)
  | _, _ => none
def stosW (cf : Nat → List W → O) (cs : List Int) : List (Nat × E × Option E) → List W → Sg → Option Sg
  | [], [], σ => some σ
  | t :: ts, w :: ws, σ => (match stoW cf cs t w σ with | some σ' => stosW cf cs ts ws σ' | none => none)
  | _, _, _ => none
section
variable (cf : Nat → List W → O) (cs : List Int)
mutual
def exS : S → Sg → R
  | .asg i _ e, σ => ofO (ev cf cs e σ) fun w => .nx (σ.set i (some w))
  | .app i e wp, σ => (match σ.get i with
    | .val (.lst ws) => ofO (ev cf cs e σ) fun w => if ws.length < LIM then .nx (wipeW (σ.set i (some (.lst (ws ++ [w])))) wp) else .bad
    | _ => .bad)
  | .ifs c a b, σ => ofO (ev cf cs c σ) fun w => match w with | .bl true => exL a σ | .bl false => exL b σ | _ => .bad
  | .forS tg it body, σ => (match evIt cf cs it σ with
    | some items => forW (tgR tg fun s => exL body s) items (wipeW σ tg.ix)
    | none => .bad)
  | .whl n c body, σ => whW (fun s => ev cf cs c s) (fun s => exL body s) n σ
  | .ret e, σ => ofO (ev cf cs e σ) fun w => .rt w
  | .retV i, σ => (match σ.get i with | .val w => .rt w | _ => .bad)
  | .exp e, σ => ofO (ev cf cs e σ) fun _ => .nx σ
  | .rai c, _ => .ex c
  | .nev, _ => .bad
  | .pas, σ => .nx σ
  | .brk, σ => .bk σ
  | .frz i, σ => .nx σ
  | .kil i, σ => .nx (wipeW σ [i])
  | .asgT is es, σ => (match evs cf cs es σ with
    | .vals ws => (match setAll σ is ws with | some σ' => .nx σ' | none => .bad)
    | .exc c => .ex c
    | .bad => .bad)
  | .unp is e, σ => ofO (ev cf cs e σ) fun w => match tgS (.tp is) w (wipeW σ is) with | some σ' => .nx σ' | none => .bad
  | .setT ts es wp, σ => (match evs cf cs es σ with
    | .vals ws => (match stosW cf cs ts ws (wipeW σ wp) with | some σ' => .nx σ' | none => .bad)
    | .exc c => .ex c
    | .bad => .bad)
  | .appK i a e wp, σ => (match σ.get i, ev cf cs a σ with
    | .val (.lst us), .val (.int k) => (match ixN us.length k with
      | some j => (match us[j]? with
        | some (.lst zs) => ofO (ev cf cs e σ) fun _ => if zs.length < LIM then .nx (wipeW σ (i :: wp)) else .bad
        | _ => .bad)
      | none => .bad)
    | _, _ => .bad)
def exL : List S → Sg → R
  | [], σ => .nx σ
  | s :: ss, σ => match exS s σ with
    | .nx σ' => exL ss σ'
    | r => r
end
end
/-! ## modes -/
def vwIn (ms : List Md) (wp : List Nat) : Bool := (List.range ms.length).all fun j => !(ms.getD j Md.cl).isVw || decide (j ∈ wp)
mutual
def deadS : S → Bool
  | .ret _ | .retV _ | .rai _ | .nev | .brk => true
  | .ifs _ a b => deadL a && deadL b
  | _ => false
def deadL : List S → Bool
  | [] => false
  | s :: ss => deadS s || deadL ss
end
/-- each its mode -/
def setMsL (ms : List Md) : List Nat → List Md → List Md
  | i :: is, m :: mds => setMsL (ms.set i m) is mds
  | _, _ => ms
section
variable (rm : Nat → Md) (rt : Md)
mutual
def outS (ms : List Md) : S → List Md
  | .asg i m _ => ms.set i m
  | .ifs _ a b => if deadL a then outL ms b else outL ms a
  | .forS tg it _ => setMs ms tg.ix (itM rm ms it)
  | .frz i => ms.set i Md.cl
  | .kil i => ms.set i Md.cl
  | .appK i _ _ _ => ms.set i Md.cl
  | .asgT is es => setMsL ms is (mdEs rm ms es)
  | .unp is e => setMs ms is (elemM (mdE rm ms e))
  | _ => ms
def outL (ms : List Md) : List S → List Md
  | [] => ms
  | s :: ss => outL (outS ms s) ss
end
def appOk (m n : Md) : Bool := match m with
  | .fr k => decide (k ≠ some 0) && mle (.fr (pdp k)) n
  | _ => false
/-- what may be stored: flat, or shared where shared things lie -/
def vOk (d : Option Nat) (m : Md) : Bool := decide (m = .flat) || (decide (m = Md.cl) && decide (d = some 0))
def tOk (ms : List Md) (t : Nat × E × Option E) (m : Md) : Bool := decide (t.1 < ms.length) && okE rm ms t.2.1 && (match ms.getD t.1 Md.cl with
  | .fr d => decide (d ≠ some 0) && (match t.2.2 with
    | none => vOk (pdp d) m
    | some b => okE rm ms b && decide (pdp d ≠ some 0) && vOk (pdp (pdp d)) m)
  | _ => false)
def tsOk (ms : List Md) : List (Nat × E × Option E) → List Md → Bool
  | [], [] => true
  | t :: ts, m :: mds => tOk rm ms t m && tsOk ms ts mds
  | _, _ => false
def frzOk (m : Md) : Bool := match m with
  | .vw => false
  | _ => true
def frOk (m : Md) : Bool := match m with
  | .fr _ => true
  | _ => false
def ow2 (m : Md) : Bool := match m with
  | .fr d => decide (d ≠ some 0) && decide (pdp d ≠ some 0)
  | _ => false
mutual
def okS (lm : List Md) (ms : List Md) : S → Bool
  | .asg i m e => okE rm ms e && mle m (mdE rm ms e) && decide (i < ms.length)
  | .app i e wp => okE rm ms e && appOk (ms.getD i Md.cl) (mdE rm ms e) && vwIn ms wp && decide (i < ms.length)
  | .ifs c a b => okE rm ms c && okL lm ms a && okL lm ms b && (deadL a || deadL b || decide (outL rm ms a = outL rm ms b))
  | .forS tg it body => okIt rm ms it && itNV rm ms it && tg.ix.all (fun i => decide (i < ms.length)) && okL (setMs ms tg.ix (itM rm ms it)) (setMs ms tg.ix (itM rm ms it)) body
      && (deadL body || decide (outL rm (setMs ms tg.ix (itM rm ms it)) body = setMs ms tg.ix (itM rm ms it)))
  | .whl _ c body => okE rm ms c && okL ms ms body && (deadL body || decide (outL rm ms body = ms))
  | .ret e => okE rm ms e && mle rt (mdE rm ms e)
  | .retV i => frOk (ms.getD i Md.cl) && mle rt (ms.getD i Md.cl)
  | .exp e => okE rm ms e
  | .rai _ | .nev | .pas => true
  | .brk => decide (lm = ms)
  | .frz i => frzOk (ms.getD i Md.cl) && decide (i < ms.length)
  | .kil i => decide (i < ms.length)
  | .asgT is es => okEs rm ms es && decide is.Nodup && is.all (fun i => decide (i < ms.length)) && decide (is.length = es.length)
  | .unp is e => okE rm ms e && is.all (fun i => decide (i < ms.length))
  | .setT ts es wp => okEs rm ms es && vwIn ms wp && tsOk rm ms ts (mdEs rm ms es)
  | .appK i a e wp => okE rm ms a && okE rm ms e && ow2 (ms.getD i Md.cl) && vwIn ms wp && decide (i < ms.length)
def okL (lm : List Md) (ms : List Md) : List S → Bool
  | [] => true
  | s :: ss => okS lm ms s && okL lm (outS rm ms s) ss
end
end
/-! ## frames -/
/-- seen from H1: what is not T's stands, what is owned is T's or new -/
structure Fr (T : Av) (H1 : Hp) (F : Nat → List Addr) (H : Hp) : Prop where
  st : Stand T H1 H
  ow : ∀ i, ∀ a ∈ F i, T a ∨ H1 a = none
structure Step (B : Av) (F : Nat → List Addr) (H : Hp) (B' : Av) (F' : Nat → List Addr) (H' : Hp) : Prop where
  fr : ∀ T H1, Fr T H1 F H → Fr T H1 F' H'
  up : ∀ a, B a → H a ≠ none → (∀ i, a ∉ F i) → B' a
  bb : ∀ a, B' a → B a ∨ H a = none
  dm : ∀ a, H a ≠ none → H' a ≠ none
section
variable {C : Cc} {ms : List Md} {Wx : WX} {σ : L2.St} {H H1 H2 H' : Hp} {B B' B'' : Av} {F F' F'' : Nat → List Addr} {Sg : Sg}
theorem Fr.self : Fr (fun a => ∃ i, a ∈ F i) H F H := ⟨Stand.ofGrow (Grow.refl H), fun i a ha => Or.inl ⟨i, ha⟩⟩
theorem Step.refl : Step B F H B F H := ⟨fun _ _ h => h, fun _ h _ _ => h, fun _ h => Or.inl h, fun _ h => h⟩
theorem Step.trans (a : Step B F H B' F' H') (b : Step B' F' H' B'' F'' H2) : Step B F H B'' F'' H2 where
  fr := fun T H1 h => b.fr T H1 (a.fr T H1 h)
  up := fun x h1 h2 h3 => b.up x (a.up x h1 h2 h3) (a.dm x h2) fun i hi => by
    rcases (a.fr _ _ Fr.self).ow i x hi with ⟨j, hj⟩ | z
    · exact h3 j hj
    · exact h2 z
  bb := fun x h => by
    rcases b.bb x h with h | h
    · exact a.bb x h
    · refine Or.inr ?_
      by_cases q : H x = none
      · exact q
      · exact absurd h (a.dm x q)
  dm := fun x h => b.dm x (a.dm x h)
theorem Fr.grow {T : Av} (f : Fr T H1 F H) (g : Grow H H') : Fr T H1 F H' := ⟨f.st.trans (Stand.ofGrow g), f.ow⟩
theorem Step.grow (g : Grow H H') : Step B F H B F H' := ⟨fun _ _ f => f.grow g, fun _ h _ _ => h, fun _ h => Or.inl h, fun _ h => g.dom h⟩
theorem Fr.new {T : Av} (f : Fr T H1 F H) {a : Addr} (h : H a = none) : T a ∨ H1 a = none := by
  by_cases q : T a
  · exact Or.inl q
  · refine Or.inr ?_
    cases e : H1 a with
    | none => rfl
    | some o => rw [f.st.st a o e q] at h; cases h
/-- what a return gives -/
def RetP (C : Cc) (rt : Md) (B : Av) (F : Nat → List Addr) (H : Hp) (w : W) (v : V) (H' : Hp) : Prop := ∀ B0 H0, Fr Av.nil H0 F H → (∀ a, B0 a → B a ∧ H0 a ≠ none) → Grow H0 H' ∧ Res C.K C.P rt B0 H0 H' w v
def ExcP (F : Nat → List Addr) (H H' : Hp) : Prop := ∀ H0, Fr Av.nil H0 F H → Grow H0 H'
theorem Fr.grows (f : Fr Av.nil H1 F H) : Grow H1 H := fun a o e => f.st.st a o e fun z => z
theorem Fr.fresh (f : Fr Av.nil H1 F H) {i : Nat} {a : Addr} (h : a ∈ F i) : H1 a = none := (f.ow i a h).elim (fun z => z.elim) id
theorem RetP.back {rt : Md} {w : W} {v : V} (s : Step B F H B' F' H') (p : RetP C rt B' F' H' w v H2) : RetP C rt B F H w v H2 := fun B0 H0 f hb => p B0 H0 (s.fr _ _ f) fun a ha =>
  ⟨s.up a (hb a ha).1 (f.grows.dom (hb a ha).2) fun i hi => (hb a ha).2 (f.fresh hi), (hb a ha).2⟩
theorem ExcP.back (s : Step B F H B' F' H') (p : ExcP F' H' H2) : ExcP F H H2 := fun H0 f => p H0 (s.fr _ _ f)
theorem ExcP.of (g : Grow H H') : ExcP F H H' := fun H0 f => f.grows.trans g
/-! ## specs -/
section
variable (C : Cc) (rt : Md) (Wx : WX) (lm ms ms' : List Md)
def OKr (B : Av) (F : Nat → List Addr) (H : Hp) (D : Ends) (r : R) : Prop := match r with
  | .nx Sg' => ∀ B' F' σ' H', Rel C.K C.P ms' B' F' Sg' σ' H' → Step B F H B' F' H' → D.nx σ' H'
  | .rt w => ∀ v H', RetP C rt B F H w v H' → D.rt v H'
  | .bk Sg' => ∀ B' F' σ' H', Rel C.K C.P lm B' F' Sg' σ' H' → Step B F H B' F' H' → D.bk σ' H'
  | .ex c => ∀ σ' H', ExcP F H H' → Wx (.ref (C.P.cad c)) none σ' H'
  | .bad => False
def SpS (s : S) : TS := fun D σ H => ∃ B F Sg, Rel C.K C.P ms B F Sg σ H ∧ OKr C rt Wx lm ms' B F H D (exS C.cf C.cs s Sg)
def SpL (ss : List S) : TS := fun D σ H => ∃ B F Sg, Rel C.K C.P ms B F Sg σ H ∧ OKr C rt Wx lm ms' B F H D (exL C.cf C.cs ss Sg)
end
variable {rt : Md} {lm ms' : List Md} {D : Ends}
theorem OKr.back {r : R} (s : Step B F H B' F' H') (h : OKr C rt Wx lm ms' B F H D r) : OKr C rt Wx lm ms' B' F' H' D r := by
  cases r with
  | nx Sg' => exact fun B2 F2 σ2 H2 r2 s2 => h B2 F2 σ2 H2 r2 (s.trans s2)
  | rt w => exact fun v H2 p => h v H2 (p.back s)
  | bk Sg' => exact fun B2 F2 σ2 H2 r2 s2 => h B2 F2 σ2 H2 r2 (s.trans s2)
  | ex c => exact fun σ2 H2 p => h σ2 H2 (p.back s)
  | bad => exact h
mutual
theorem dead_nx {cf : Nat → List W → O} {cs : List Int} : ∀ {s : S} {σ σ' : Mx.Sg}, deadS s = true → exS cf cs s σ ≠ .nx σ'
  | .ret e, σ, σ', h => by unfold exS; cases ev cf cs e σ <;> simp [ofO]
  | .retV i, σ, σ', h => by unfold exS; cases σ.get i <;> simp
  | .rai _, σ, σ', h => by unfold exS; simp
  | .nev, σ, σ', h => by unfold exS; simp
  | .brk, σ, σ', h => by unfold exS; simp
  | .ifs c a b, σ, σ', h => by
    unfold deadS at h
    simp only [Bool.and_eq_true] at h
    unfold exS
    cases ev cf cs c σ with
    | bad => simp [ofO]
    | exc d => simp [ofO]
    | val w =>
      simp only [ofO]
      cases w with
      | bl d =>
        cases d
        · exact deadL_nx h.2
        · exact deadL_nx h.1
      | _ => simp
  | .asg _ _ _, _, _, h => by unfold deadS at h; cases h
  | .app _ _ _, _, _, h => by unfold deadS at h; cases h
  | .forS _ _ _, _, _, h => by unfold deadS at h; cases h
  | .whl _ _ _, _, _, h => by unfold deadS at h; cases h
  | .exp _, _, _, h => by unfold deadS at h; cases h
  | .pas, _, _, h => by unfold deadS at h; cases h
  | .frz _, _, _, h => by unfold deadS at h; cases h
  | .kil _, _, _, h => by unfold deadS at h; cases h
  | .asgT _ _, _, _, h => by unfold deadS at h; cases h
  | .unp _ _, _, _, h => by unfold deadS at h; cases h
  | .setT _ _ _, _, _, h => by unfold deadS at h; cases h
  | .appK _ _ _ _, _, _, h => by unfold deadS at h; cases h
theorem deadL_nx {cf : Nat → List W → O} {cs : List Int} : ∀ {ss : List S} {σ σ' : Mx.Sg}, deadL ss = true → exL cf cs ss σ ≠ .nx σ'
  | [], _, _, h => by unfold deadL at h; cases h
  | s :: ss, σ, σ', h => by
    unfold deadL at h
    simp only [Bool.or_eq_true] at h
    unfold exL
    cases e : exS cf cs s σ with
    | nx σ2 =>
      rcases h with h | h
      · exact absurd e (dead_nx h)
      · exact deadL_nx h
    | _ => simp
end
theorem OKr.dead {r : R} (h0 : ∀ σ', r ≠ .nx σ') {ms2 : List Md} (h : OKr C rt Wx lm ms' B F H D r) : OKr C rt Wx lm ms2 B F H D r := by
  cases r with
  | nx Sg' => exact absurd rfl (h0 Sg')
  | _ => exact h
/-! ## one after another -/
theorem st_nil (h : SpL C rt Wx lm ms ms [] D σ H) : tNext D σ H := by
  obtain ⟨B, F, Sg, r, k⟩ := h
  unfold exL at k
  exact k B F σ H r Step.refl
theorem st_cons {s : S} {ss : List S} {ms1 : List Md} (h : SpL C rt Wx lm ms ms' (s :: ss) D σ H) : tSeq (SpS C rt Wx lm ms ms1 s) (SpL C rt Wx lm ms1 ms' ss) D σ H := by
  obtain ⟨B, F, Sg, r, k⟩ := h
  refine ⟨B, F, Sg, r, ?_⟩
  unfold exL at k
  cases e : exS C.cf C.cs s Sg with
  | nx Sg' =>
    rw [e] at k
    exact fun B' F' σ' H' r' s' => ⟨B', F', Sg', r', k.back s'⟩
  | rt w => rw [e] at k; exact k
  | bk Sg' => rw [e] at k; exact k
  | ex c => rw [e] at k; exact k
  | bad => rw [e] at k; exact k
/-! ## states -/
theorem Rel.drop (r : Rel C.K C.P ms B F Sg σ H) (vs : List Nat) : Rel C.K C.P ms B (fun i => if i ∈ vs then [] else F i) (wipeW Sg vs) σ H where
  slots := fun j u e => by
    obtain ⟨e1, e2⟩ := wipeW_some e
    obtain ⟨v, e3, e4⟩ := r.slots j u e1
    refine ⟨v, e3, ?_⟩
    rw [if_neg e2]
    exact e4
  hasB := r.hasB
  nd := fun i => by split; exact List.nodup_nil; exact r.nd i
  inB := fun i a ha => by split at ha; cases ha; exact r.inB i a ha
  dj := fun i j a hij h1 h2 => by
    split at h1
    · cases h1
    · split at h2
      · cases h2
      · exact r.dj i j a hij h1 h2
  len := by rw [wipeW_length]; exact r.len
theorem Step.drop (vs : List Nat) : Step B F H B (fun i => if i ∈ vs then [] else F i) H where
  fr := fun T H1 f => ⟨f.st, fun i a ha => by split at ha; cases ha; exact f.ow i a ha⟩
  up := fun _ h _ _ => h
  bb := fun _ h => Or.inl h
  dm := fun _ h => h
theorem Rel.recast (r : Rel C.K C.P ms B F Sg σ H) (h : ∀ (i : Nat) (w : W), Sg[i]? = some (some w) → ms'.getD i Md.cl = ms.getD i Md.cl) : Rel C.K C.P ms' B F Sg σ H where
  slots := fun j u e => by rw [h j u e]; exact r.slots j u e
  hasB := r.hasB
  nd := r.nd
  inB := r.inB
  dj := r.dj
  len := r.len
theorem setMs_out : ∀ (is : List Nat) {ms : List Md} {m : Md} {j : Nat}, j ∉ is → (setMs ms is m).getD j Md.cl = ms.getD j Md.cl
  | [], _, _, _, _ => rfl
  | i :: is, ms, m, j, h => by
    unfold setMs
    rw [setMs_out is (fun z => h (List.mem_cons_of_mem _ z))]
    rw [List.getD_eq_getElem?_getD, List.getD_eq_getElem?_getD, List.getElem?_set_ne (fun e => h (by rw [e]; exact List.mem_cons_self))]
theorem Rel.own {i : Nat} {m : Md} {w : W} {v : V} {F1 : List Addr} (r : Rel C.K C.P ms B F Sg σ H) (g : Grow H H') (hi : i < ms.length) (nd : F1.Nodup) (fr : ∀ a ∈ F1, H a = none) (q : ROw C.K C.P H' (B.or F1) m w v F1) :
    Rel C.K C.P (ms.set i m) (B.or F1) (fun j => if j = i then F1 else F j) (Sg.set i (some w)) (σ.set i (some v)) H' where
  slots := fun j u e => by
    by_cases hj : j = i
    · subst hj
      have hl : j < Sg.length := by
        have := (List.getElem?_eq_some_iff.mp e).1
        rwa [List.length_set] at this
      rw [List.getElem?_set_self hl] at e
      cases e
      refine ⟨v, by rw [List.getElem?_set_self (by rw [← r.len]; exact hl)], ?_⟩
      rw [getD_set hi, if_pos rfl, if_pos rfl]
      exact q
    · rw [List.getElem?_set_ne (Ne.symm hj)] at e
      obtain ⟨x, e1, e2⟩ := r.slots j u e
      refine ⟨x, by rw [List.getElem?_set_ne (Ne.symm hj)]; exact e1, ?_⟩
      rw [getD_set hi, if_neg hj, if_neg hj]
      exact e2.mono g fun a ha z => z.elim id fun z => absurd (fr a z) ha
  hasB := fun a z => z.elim (fun z => g.dom (r.hasB a z)) fun z => q.dom a z
  nd := fun j => by
    split
    · exact nd
    · exact r.nd j
  inB := fun j a ha => by
    split at ha
    · exact Or.inr ha
    · exact Or.inl (r.inB j a ha)
  dj := fun j k a hjk h1 h2 => by
    split at h1
    · split at h2
      · rename_i e1 e2
        exact hjk (e1.trans e2.symm)
      · exact r.hasB a (r.inB k a h2) (fr a h1)
    · split at h2
      · exact r.hasB a (r.inB j a h1) (fr a h2)
      · exact r.dj j k a hjk h1 h2
  len := by rw [List.length_set, List.length_set]; exact r.len
theorem Step.own {i : Nat} {F1 : List Addr} (g : Grow H H') (fr : ∀ a ∈ F1, H a = none) : Step B F H (B.or F1) (fun j => if j = i then F1 else F j) H' where
  fr := fun T H1 f => ⟨f.st.trans (Stand.ofGrow g), fun j a ha => by
    split at ha
    · exact f.new (fr a ha)
    · exact f.ow j a ha⟩
  up := fun _ h _ _ => Or.inl h
  bb := fun a h => h.elim Or.inl fun z => Or.inr (fr a z)
  dm := fun _ h => g.dom h
/-! ## the statements -/
theorem st_asg {i : Nat} {m : Md} {e : E} (hi : i < ms.length) (hm : mle m (mdE C.rm ms e) = true) (h : SpS C rt Wx lm ms (ms.set i m) (.asg i m e) D σ H) : tAsg (SpE C ms Wx e) (gName i) D σ H := by
  obtain ⟨B, F, Sg, r, k⟩ := h
  refine ⟨B, F, Sg, r, ?_⟩
  unfold exS at k
  cases e1 : ev C.cf C.cs e Sg with
  | bad => rw [e1] at k; exact k
  | exc c => rw [e1] at k; exact fun H' g => k σ H' (ExcP.of g)
  | val w =>
    rw [e1] at k
    intro v H' g rs
    obtain ⟨F1, nd, fr, q⟩ := rs.weaken r.hasB hm
    exact k _ _ _ _ (r.own g hi nd fr q) (Step.own g fr)
theorem st_exp {e : E} (h : SpS C rt Wx lm ms ms (.exp e) D σ H) : tDrop (SpE C ms Wx e) D σ H := by
  obtain ⟨B, F, Sg, r, k⟩ := h
  refine ⟨B, F, Sg, r, ?_⟩
  unfold exS at k
  cases e1 : ev C.cf C.cs e Sg with
  | bad => rw [e1] at k; exact k
  | exc c => rw [e1] at k; exact fun H' g => k σ H' (ExcP.of g)
  | val w =>
    rw [e1] at k
    intro v H' g rs
    exact k _ _ _ _ (r.grow0 g) (Step.grow g)
theorem st_ret {e : E} (hm : mle rt (mdE C.rm ms e) = true) (h : SpS C rt Wx lm ms ms' (.ret e) D σ H) : tRet (SpE C ms Wx e) D σ H := by
  obtain ⟨B, F, Sg, r, k⟩ := h
  refine ⟨B, F, Sg, r, ?_⟩
  unfold exS at k
  cases e1 : ev C.cf C.cs e Sg with
  | bad => rw [e1] at k; exact k
  | exc c => rw [e1] at k; exact fun H' g => k σ H' (ExcP.of g)
  | val w =>
    rw [e1] at k
    intro v H' g rs
    refine k v H' fun B0 H0 f hb => ⟨f.grows.trans g, ?_⟩
    obtain ⟨F1, nd, fr, q⟩ := rs.weaken r.hasB hm
    exact ⟨F1, nd, fun a ha => f.grows.free (fr a ha), q.mono (Grow.refl _) fun a _ z => z.elim (fun z => Or.inl (hb a z).1) Or.inr⟩
theorem get_some {i : Nat} {w : W} (h : Sg.get i = .val w) : Sg[i]? = some (some w) := by
  unfold Mx.Sg.get at h
  split at h
  · rename_i e
    cases h
    exact e
  · cases h
theorem st_retV {i : Nat} (h1 : frOk (ms.getD i Md.cl) = true) (hm : mle rt (ms.getD i Md.cl) = true) (h : SpS C rt Wx lm ms ms' (.retV i) D σ H) : tRet (tVar i) D σ H := by
  obtain ⟨B, F, Sg, r, k⟩ := h
  unfold exS at k
  cases e1 : Sg.get i with
  | bad => rw [e1] at k; exact k.elim
  | exc c => rw [e1] at k; exact k.elim
  | val w =>
    rw [e1] at k
    obtain ⟨v, e2, q⟩ := r.slots i w (get_some e1)
    refine ⟨v, e2, k v H fun B0 H0 f hb => ⟨f.grows, ?_⟩⟩
    have q1 : Res C.K C.P (ms.getD i Md.cl) B0 H0 H w v := ⟨F i, r.nd i, fun a ha => f.fresh ha, q.mono (Grow.refl _) fun a _ z => z.elim (fun z => (hb a z).1) (r.inB i a)⟩
    exact q1.weaken (fun a ha => (hb a ha).2) hm
theorem st_if {c : E} {a b : List S} {msa msb : List Md} (ha : (∀ Sg Sg', exL C.cf C.cs a Sg ≠ .nx Sg') ∨ msa = ms') (hb : (∀ Sg Sg', exL C.cf C.cs b Sg ≠ .nx Sg') ∨ msb = ms') (h : SpS C rt Wx lm ms ms' (.ifs c a b) D σ H) : tIfS (SpT C ms Wx c) (SpL C rt Wx lm ms msa a) (SpL C rt Wx lm ms msb b) D σ H := by
  obtain ⟨B, F, Sg, r, k⟩ := h
  refine ⟨B, F, Sg, r, ?_⟩
  unfold exS at k
  cases e1 : ev C.cf C.cs c Sg with
  | bad => rw [e1] at k; exact k
  | exc x => rw [e1] at k; exact fun H' g => k σ H' (ExcP.of g)
  | val w =>
    rw [e1] at k
    cases w with
    | bl d =>
      refine ⟨d, rfl, fun H' g => ?_⟩
      cases d with
      | true =>
        refine ⟨B, F, Sg, r.grow0 g, ?_⟩
        have k' : OKr C rt Wx lm ms' B F H D (exL C.cf C.cs a Sg) := k
        rcases ha with ha | rfl
        · exact (k'.dead (ha Sg)).back (Step.grow g)
        · exact k'.back (Step.grow g)
      | false =>
        refine ⟨B, F, Sg, r.grow0 g, ?_⟩
        have k' : OKr C rt Wx lm ms' B F H D (exL C.cf C.cs b Sg) := k
        rcases hb with hb | rfl
        · exact (k'.dead (hb Sg)).back (Step.grow g)
        · exact k'.back (Step.grow g)
    | _ => exact k.elim
theorem st_pas (h : SpS C rt Wx lm ms ms .pas D σ H) : tNext D σ H := by
  obtain ⟨B, F, Sg, r, k⟩ := h
  unfold exS at k
  exact k _ _ _ _ r Step.refl
theorem st_brk (h : SpS C rt Wx ms ms ms' .brk D σ H) : tBreak D σ H := by
  obtain ⟨B, F, Sg, r, k⟩ := h
  unfold exS at k
  exact k _ _ _ _ r Step.refl
theorem st_nev (h : SpS C rt Wx lm ms ms' .nev D σ H) : tNever D σ H := by
  obtain ⟨B, F, Sg, r, k⟩ := h
  unfold exS at k
  exact k.elim
theorem st_kil {i : Nat} (h : SpS C rt Wx lm ms (ms.set i Md.cl) (.kil i) D σ H) : tNext D σ H := by
  obtain ⟨B, F, Sg, r, k⟩ := h
  unfold exS at k
  refine k _ _ _ _ ((r.drop [i]).recast fun j w e => ?_) (Step.drop [i])
  have hj := (wipeW_some e).2
  rw [List.getD_eq_getElem?_getD, List.getD_eq_getElem?_getD, List.getElem?_set_ne (fun z => hj (by rw [z]; exact List.mem_cons_self))]
/-- no more to be changed -/
theorem st_frz {i : Nat} (hi : i < ms.length) (h1 : frzOk (ms.getD i Md.cl) = true) (h : SpS C rt Wx lm ms (ms.set i Md.cl) (.frz i) D σ H) : tNext D σ H := by
  obtain ⟨B, F, Sg, r, k⟩ := h
  unfold exS at k
  refine k (fun a => B a ∧ a ∉ F i) (fun j => if j = i then [] else F j) σ H ⟨fun j u e => ?_, fun a z => r.hasB a z.1, fun j => ?_, fun j a ha => ?_, fun j l a hjl h1 h2 => ?_, r.len⟩ ⟨fun T H1 f => ⟨f.st, fun j a ha => ?_⟩, fun a h1 h2 h3 => ⟨h1, h3 i⟩, fun a h => Or.inl h.1, fun _ h => h⟩
  · obtain ⟨x, e1, e2⟩ := r.slots j u e
    refine ⟨x, e1, ?_⟩
    rw [getD_set hi]
    by_cases hj : j = i
    · subst hj
      rw [if_pos rfl, if_pos rfl]
      cases em : ms.getD j Md.cl with
      | vw => rw [em] at h1; cases h1
      | flat =>
        rw [em] at e2
        exact (Ow.zero _ _ _).mpr ⟨rfl, Rp.flat _ _ e2.2.1 e2.2.2⟩
      | fr d =>
        rw [em] at e2
        exact (Ow.zero _ _ _).mpr ⟨rfl, Ow.rp (fun a _ z => z.1) d u x (F j) (fun a ha z => z.2 ha) e2⟩
    · rw [if_neg hj, if_neg hj]
      exact e2.mono (Grow.refl _) fun a _ z => z.1
  · show (if _ then _ else _ : List Addr).Nodup
    split
    · exact List.nodup_nil
    · exact r.nd j
  · have ha : a ∈ (if j = i then [] else F j : List Addr) := ha
    split at ha
    · cases ha
    · rename_i hj
      exact ⟨r.inB j a ha, fun z => r.dj j i a hj ha z⟩
  · have h1 : a ∈ (if j = i then [] else F j : List Addr) := h1
    have h2 : a ∈ (if l = i then [] else F l : List Addr) := h2
    split at h1
    · cases h1
    · split at h2
      · cases h2
      · exact r.dj j l a hjl h1 h2
  · have ha : a ∈ (if j = i then [] else F j : List Addr) := ha
    split at ha
    · cases ha
    · exact f.ow j a ha
theorem vwIn_at {wp : List Nat} {j : Nat} (h : vwIn ms wp = true) (hv : ms.getD j Md.cl = .vw) : j ∈ wp := by
  unfold vwIn at h
  rw [List.all_eq_true] at h
  have hl : j < ms.length := by
    by_cases q : j < ms.length
    · exact q
    · rw [List.getD_eq_getElem?_getD, List.getElem?_eq_none (Nat.le_of_not_lt q)] at hv
      cases hv
  have := h j (List.mem_range.mpr hl)
  rw [hv] at this
  simpa [Md.isVw] using this
theorem lim_size : LIM < sizeLine := by decide
/-- x.append(e) -/
theorem st_app {i : Nat} {e : E} {wp : List Nat} (hi : i < ms.length) (ha : appOk (ms.getD i Md.cl) (mdE C.rm ms e) = true) (hv : vwIn ms wp = true) (h : SpS C rt Wx lm ms ms (.app i e wp) D σ H) :
    tDrop (tBM C.K "list" rAppend (tVar i) (SpA C ms Wx [e])) D σ H := by
  obtain ⟨B, F, Sg, r, k⟩ := h
  unfold exS at k
  cases e1 : Sg.get i with
  | bad => rw [e1] at k; exact k.elim
  | exc c => rw [e1] at k; exact k.elim
  | val w =>
    rw [e1] at k
    cases w with
    | lst ws =>
      obtain ⟨v, e2, q⟩ := r.slots i _ (get_some e1)
      cases em : ms.getD i Md.cl with
      | vw => rw [em] at ha; cases ha
      | flat => rw [em] at ha; cases ha
      | fr d =>
        rw [em] at ha q
        unfold appOk at ha
        simp only [Bool.and_eq_true, decide_eq_true_eq] at ha
        obtain ⟨hd, ha⟩ := ha
        have q0 := q
        have q : Ow C.K C.P H B d (.lst ws) v (F i) := q
        unfold Ow at q
        rw [if_neg hd] at q
        obtain ⟨a, xs, G, rfl, h1, h2, h3, h4⟩ := q
        refine ⟨.ref a, e2, ?_, ?_⟩
        · exact Or.inl ⟨rfl, xs, SqL.of h1⟩
        refine ⟨B, F, Sg, r, ?_⟩
        have k' : OKr C rt Wx lm ms B F H D (ofO (ev C.cf C.cs e Sg) fun w => if ws.length < LIM then .nx (wipeW (Sg.set i (some (.lst (ws ++ [w])))) wp) else .bad) := k
        unfold evs
        cases e3 : ev C.cf C.cs e Sg with
        | bad => rw [e3] at k'; exact k'
        | exc c => rw [e3] at k'; exact fun H' g => k' σ H' (ExcP.of g)
        | val w =>
          rw [e3] at k'
          unfold evs
          intro vs H2 g rs
          obtain ⟨y, rfl, _⟩ := rs.view.one_inv
          have rs1 := (ResL.one (m := mdE C.rm ms e) rs).weaken r.hasB ha
          obtain ⟨F2, nd2, fr2, q2⟩ := rs1
          have k2 : OKr C rt Wx lm ms B F H D (if ws.length < LIM then .nx (wipeW (Sg.set i (some (.lst (ws ++ [w])))) wp) else .bad) := k'
          split at k2
          · rename_i hlt
            have hxl : xs.length = ws.length := RpL.length _ _ (OwL.rp (B' := Av.nil) (fun _ _ z => z.elim) _ ws xs G (fun _ _ z => z) h4)
            have ha2 : H2 a = some (.lst xs) := g _ _ h1
            refine ⟨a, xs, y, rfl, rfl, ha2, ?_, ?_⟩
            · have := lim_size
              omega
            have aF : a ∈ F i := by rw [h2]; exact List.mem_cons_self
            have aB : B a := r.inB i a aF
            have r2 := r.grow g fr2 (q2.dom)
            have aF2 : a ∉ F2 := fun z => by rw [fr2 a z] at h1; cases h1
            refine k2 (B.or F2) (fun j => if j ∈ wp then [] else (if j = i then a :: (G ++ F2) else F j)) σ _ ⟨fun j u ej => ?_, fun b hb => ?_, fun j => ?_, fun j b hb => ?_, fun j l b hjl hb1 hb2 => ?_, by rw [wipeW_length, List.length_set]; exact r.len⟩ ⟨fun T H1 f => ⟨?_, fun j b hb => ?_⟩, fun _ h _ _ => Or.inl h, fun b h => h.elim Or.inl fun z => Or.inr (fr2 b z), fun b hb => ?_⟩
            · obtain ⟨ej, hjw⟩ := wipeW_some ej
              rw [if_neg hjw]
              by_cases hj : j = i
              · subst hj
                have hl : j < Sg.length := by
                  have := (List.getElem?_eq_some_iff.mp ej).1
                  rwa [List.length_set] at this
                rw [List.getElem?_set_self hl] at ej
                cases ej
                refine ⟨.ref a, e2, ?_⟩
                rw [em, if_pos rfl]
                show Ow _ _ _ _ _ _ _ _
                unfold Ow
                rw [if_neg hd]
                refine ⟨a, xs ++ [y], G ++ F2, rfl, upd_same, rfl, by rw [List.length_append, List.length_singleton]; omega, ?_⟩
                have nd := r.nd j
                rw [h2] at nd
                have aG := (List.nodup_cons.mp nd).1
                refine OwL.upd (Or.inl aB) ha2 (fun z => (List.mem_append.mp z).elim aG aF2) ?_
                exact OwL.snoc q2 (h4.mono g fun b hb z => z.elim id fun z => absurd (fr2 b z) hb)
              · rw [List.getElem?_set_ne (Ne.symm hj)] at ej
                obtain ⟨x, ex, qx⟩ := r2.slots j u ej
                refine ⟨x, ex, ?_⟩
                rw [if_neg hj]
                cases em2 : ms.getD j Md.cl with
                | vw => exact absurd (vwIn_at hv em2) hjw
                | flat =>
                  rw [em2] at qx
                  refine ⟨qx.1, qx.2.1, ?_⟩
                  exact Rp.flat _ _ qx.2.1 (Rp.upd (B := B.or F2) (Or.inl aB) ha2 _ _ (Rp.flat _ _ qx.2.1 qx.2.2))
                | fr d2 =>
                  rw [em2] at qx
                  exact Ow.upd (Or.inl aB) ha2 (fun z => r.dj j i a hj z aF) qx
            · by_cases hba : b = a
              · rw [hba, upd_same]; simp
              · rw [upd_ne hba]
                exact r2.hasB b hb
            · show (if j ∈ wp then [] else (if j = i then a :: (G ++ F2) else F j) : List Addr).Nodup
              split
              · exact List.nodup_nil
              · split
                · have nd := r.nd i
                  rw [h2] at nd
                  obtain ⟨n1, n2⟩ := List.nodup_cons.mp nd
                  refine List.nodup_cons.mpr ⟨fun z => (List.mem_append.mp z).elim n1 aF2, List.nodup_append.mpr ⟨n2, nd2, fun x hx y hy e => ?_⟩⟩
                  exact r.hasB x (r.inB i x (by rw [h2]; exact List.mem_cons_of_mem _ hx)) (fr2 x (e ▸ hy))
                · exact r.nd j
            · have hb : b ∈ (if j ∈ wp then [] else (if j = i then a :: (G ++ F2) else F j) : List Addr) := hb
              split at hb
              · cases hb
              · split at hb
                · rcases List.mem_cons.mp hb with rfl | hb
                  · exact Or.inl aB
                  · rcases List.mem_append.mp hb with hb | hb
                    · exact Or.inl (r.inB i b (by rw [h2]; exact List.mem_cons_of_mem _ hb))
                    · exact Or.inr hb
                · exact Or.inl (r.inB j b hb)
            · have sub : ∀ l, b ∈ (if l ∈ wp then [] else (if l = i then a :: (G ++ F2) else F l) : List Addr) → b ∈ F l ∨ (l = i ∧ b ∈ F2) := fun l hb => by
                split at hb
                · cases hb
                · split at hb
                  · rename_i hl
                    subst hl
                    rcases List.mem_cons.mp hb with rfl | hb
                    · exact Or.inl aF
                    · rcases List.mem_append.mp hb with hb | hb
                      · exact Or.inl (by rw [h2]; exact List.mem_cons_of_mem _ hb)
                      · exact Or.inr ⟨rfl, hb⟩
                  · exact Or.inl hb
              rcases sub j hb1 with z1 | ⟨z1, z1'⟩
              · rcases sub l hb2 with z2 | ⟨z2, z2'⟩
                · exact r.dj j l b hjl z1 z2
                · exact r.hasB b (r.inB j b z1) (fr2 b z2')
              · rcases sub l hb2 with z2 | ⟨z2, z2'⟩
                · exact r.hasB b (r.inB l b z2) (fr2 b z1')
                · exact hjl (z1.trans z2.symm)
            · have na : ∀ b o, H1 b = some o → ¬ T b → b ≠ a := fun b o e n z => by
                rcases f.ow i a aF with q | q
                · exact n (z ▸ q)
                · rw [z, q] at e; cases e
              refine ⟨fun b o e n => ?_, fun b ys e => ?_, fun b o u e => ?_⟩
              · rw [upd_ne (na b o e n)]
                exact g _ _ (f.st.st b o e n)
              · have := g _ _ (f.st.tp b ys e)
                rw [upd_ne (fun z => by rw [z, ha2] at this; cases this)]
                exact this
              · have := g _ _ (f.st.fz b o u e)
                rw [upd_ne (fun z => by rw [z, ha2] at this; cases this)]
                exact this
            · have hb : b ∈ (if j ∈ wp then [] else (if j = i then a :: (G ++ F2) else F j) : List Addr) := hb
              split at hb
              · cases hb
              · split at hb
                · rcases List.mem_cons.mp hb with rfl | hb
                  · exact f.ow i _ aF
                  · rcases List.mem_append.mp hb with hb | hb
                    · exact f.ow i b (by rw [h2]; exact List.mem_cons_of_mem _ hb)
                    · exact f.new (fr2 b hb)
                · exact f.ow j b hb
            · by_cases hba : b = a
              · rw [hba, upd_same]; simp
              · rw [upd_ne hba]
                exact g.dom hb
          · exact k2.elim
    | _ => exact k.elim
/-! ## several at once -/
def setV (σ : L2.St) : List Nat → List V → L2.St
  | i :: is, v :: vs => setV (σ.set i (some v)) is vs
  | _, _ => σ
theorem gL_of : ∀ {is : List Nat} {vs : List V} {σ : L2.St} {k : L2.St → Hp → Prop}, is.length = vs.length → k (setV σ is vs) H → gL is vs σ H k
  | [], [], σ, k, _, h => ⟨rfl, h⟩
  | i :: is, v :: vs, σ, k, hl, h => ⟨v, vs, rfl, gL_of (by simpa using hl) h⟩
theorem Rel.put {i : Nat} {m : Md} {w : W} {v : V} {F1 : List Addr} (r : Rel C.K C.P ms B F Sg σ H) (hi : i < ms.length) (nd : F1.Nodup) (hB : ∀ a ∈ F1, B a) (dj : ∀ a ∈ F1, ∀ j, a ∉ F j) (q : ROw C.K C.P H B m w v F1) :
    Rel C.K C.P (ms.set i m) B (fun j => if j = i then F1 else F j) (Sg.set i (some w)) (σ.set i (some v)) H where
  slots := fun j u e => by
    by_cases hj : j = i
    · subst hj
      have hl : j < Sg.length := by
        have := (List.getElem?_eq_some_iff.mp e).1
        rwa [List.length_set] at this
      rw [List.getElem?_set_self hl] at e
      cases e
      refine ⟨v, by rw [List.getElem?_set_self (by rw [← r.len]; exact hl)], ?_⟩
      rw [getD_set hi, if_pos rfl, if_pos rfl]
      exact q
    · rw [List.getElem?_set_ne (Ne.symm hj)] at e
      obtain ⟨x, e1, e2⟩ := r.slots j u e
      refine ⟨x, by rw [List.getElem?_set_ne (Ne.symm hj)]; exact e1, ?_⟩
      rw [getD_set hi, if_neg hj, if_neg hj]
      exact e2
  hasB := r.hasB
  nd := fun j => by
    split
    · exact nd
    · exact r.nd j
  inB := fun j a ha => by
    split at ha
    · exact hB a ha
    · exact r.inB j a ha
  dj := fun j k a hjk h1 h2 => by
    split at h1
    · split at h2
      · rename_i e1 e2
        exact hjk (e1.trans e2.symm)
      · exact dj a h1 k h2
    · split at h2
      · exact dj a h2 j h1
      · exact r.dj j k a hjk h1 h2
  len := by rw [List.length_set, List.length_set]; exact r.len
theorem Rel.putL : ∀ {is : List Nat} {mds : List Md} {ws : List W} {vs : List V} {Fs : List Addr} {ms : List Md} {Sg Sg' : Mx.Sg} {σ : L2.St} {F : Nat → List Addr}, Rel C.K C.P ms B F Sg σ H → (∀ i ∈ is, i < ms.length) → ROwL C.K C.P H B mds ws vs Fs → Fs.Nodup → (∀ a ∈ Fs, B a) → (∀ a ∈ Fs, ∀ j, a ∉ F j) → setAll Sg is ws = some Sg' →
    ∃ F', Rel C.K C.P (setMsL ms is mds) B F' Sg' (setV σ is vs) H ∧ ∀ j, ∀ a ∈ F' j, a ∈ F j ∨ a ∈ Fs
  | [], mds, ws, vs, Fs, ms, Sg, Sg', σ, F, r, hi, q, nd, hB, dj, e => by
    cases ws with
    | cons w ws => unfold setAll at e; cases e
    | nil =>
      unfold setAll at e
      cases e
      refine ⟨F, ?_, fun j a ha => Or.inl ha⟩
      unfold setMsL setV
      exact r
  | i :: is, [], ws, vs, Fs, ms, Sg, Sg', σ, F, r, hi, q, nd, hB, dj, e => by
    rw [q.1] at e
    unfold setAll at e
    cases e
  | i :: is, m :: mds, ws, vs, Fs, ms, Sg, Sg', σ, F, r, hi, q, nd, hB, dj, e => by
    obtain ⟨w, wr, v, vr, F1, F2, rfl, rfl, rfl, q1, q2⟩ := q
    unfold setAll at e
    obtain ⟨n1, n2, n3⟩ := List.nodup_append.mp nd
    have r1 := r.put (i := i) (hi i List.mem_cons_self) n1 (fun a ha => hB a (List.mem_append_left _ ha)) (fun a ha => dj a (List.mem_append_left _ ha)) q1
    obtain ⟨F', r2, h2⟩ := Rel.putL r1 (fun j hj => by rw [List.length_set]; exact hi j (List.mem_cons_of_mem _ hj)) q2 n2 (fun a ha => hB a (List.mem_append_right _ ha)) (fun a ha j hj => by
      split at hj
      · exact n3 a hj a ha rfl
      · exact dj a (List.mem_append_right _ ha) j hj) e
    refine ⟨F', r2, fun j a ha => ?_⟩
    rcases h2 j a ha with z | z
    · split at z
      · exact Or.inr (List.mem_append_left _ z)
      · exact Or.inl z
    · exact Or.inr (List.mem_append_right _ z)
theorem setAll_len : ∀ {is : List Nat} {ws : List W} {Sg Sg' : Mx.Sg}, setAll Sg is ws = some Sg' → is.length = ws.length
  | [], [], _, _, _ => rfl
  | [], _ :: _, _, _, e => by unfold setAll at e; cases e
  | _ :: _, [], _, _, e => by unfold setAll at e; cases e
  | i :: is, w :: ws, Sg, Sg', e => by
    unfold setAll at e
    rw [List.length_cons, List.length_cons, setAll_len e]
/-- what is stored of several -/
theorem st_asgT0 {is : List Nat} {es : List E} (hi : ∀ i ∈ is, i < ms.length) (h : SpS C rt Wx lm ms (setMsL ms is (mdEs C.rm ms es)) (.asgT is es) D σ H) : SpA C ms Wx es σ H fun vs H1 => is.length = vs.length ∧ vs.length ≤ LIM + is.length ∧ ∀ H2, Grow H1 H2 → D.nx (setV σ is vs) H2 := by
  obtain ⟨B, F, Sg, r, k⟩ := h
  refine ⟨B, F, Sg, r, ?_⟩
  unfold exS at k
  cases e1 : evs C.cf C.cs es Sg with
  | bad => rw [e1] at k; exact k
  | exc c => rw [e1] at k; exact fun H' g => k σ H' (ExcP.of g)
  | vals ws =>
    rw [e1] at k
    intro vs H1 g rs
    have hl := RpL.length _ _ rs.view
    cases e2 : setAll Sg is ws with
    | none =>
      have k : OKr C rt Wx lm _ B F H D (match setAll Sg is ws with | some σ' => .nx σ' | none => .bad) := k
      rw [e2] at k
      exact k.elim
    | some Sg' =>
      have k : OKr C rt Wx lm _ B F H D (match setAll Sg is ws with | some σ' => .nx σ' | none => .bad) := k
      rw [e2] at k
      have hl2 := setAll_len e2
      refine ⟨by omega, by omega, fun H2 g2 => ?_⟩
      obtain ⟨Fs, nd, fr, q⟩ := rs
      have r1 := (r.grow g fr q.dom).grow0 g2
      have q1 := q.mono g2 (fun _ _ z => z)
      obtain ⟨F', r2, h2⟩ := r1.putL hi q1 nd (fun a ha => Or.inr ha) (fun a ha j hj => r.hasB a (r.inB j a hj) (fr a ha)) e2
      refine k (B.or Fs) F' _ H2 r2 ⟨fun T H3 f => ⟨f.st.trans (Stand.ofGrow (g.trans g2)), fun j a ha => ?_⟩, fun _ h _ _ => Or.inl h, fun a h => h.elim Or.inl fun z => Or.inr (fr a z), fun a h => (g.trans g2).dom h⟩
      rcases h2 j a ha with z | z
      · exact f.ow j a z
      · exact f.new (fr a z)
theorem st_asgT {is : List Nat} {es : List E} (hi : ∀ i ∈ is, i < ms.length) (h1000 : is.length ≤ 1000) (h : SpS C rt Wx lm ms (setMsL ms is (mdEs C.rm ms es)) (.asgT is es) D σ H) : tAsg (tTup (SpA C ms Wx es)) (gTup C.K is.length (gL is)) D σ H := by
  refine SpA.mono (fun vs H1 q => ?_) (st_asgT0 hi h)
  obtain ⟨h1, h2, q⟩ := q
  refine ⟨by rw [← h1]; exact Nat.le_trans h1000 (by decide), fun p hp => ?_⟩
  exact ⟨p, vs, rfl, SqT.of upd_same, h1.symm, gL_of h1 (q _ (Grow.new hp))⟩
theorem st_par {i j : Nat} {es : List E} (hi : ∀ l ∈ [i, j], l < ms.length) (h : SpS C rt Wx lm ms (setMsL ms [i, j] (mdEs C.rm ms es)) (.asgT [i, j] es) D σ H) : tPar i j (SpA C ms Wx es) D σ H := by
  refine SpA.mono (fun vs H1 q => ?_) (st_asgT0 hi h)
  obtain ⟨h1, h2, q⟩ := q
  match vs, h1 with
  | [v, w], _ => exact ⟨v, w, rfl, q H1 (Grow.refl _)⟩
theorem st_par3 {i j l : Nat} {es : List E} (hi : ∀ x ∈ [i, j, l], x < ms.length) (h : SpS C rt Wx lm ms (setMsL ms [i, j, l] (mdEs C.rm ms es)) (.asgT [i, j, l] es) D σ H) : tPar3 i j l (SpA C ms Wx es) D σ H := by
  refine SpA.mono (fun vs H1 q => ?_) (st_asgT0 hi h)
  obtain ⟨h1, h2, q⟩ := q
  match vs, h1 with
  | [v, w, x], _ => exact ⟨v, w, x, rfl, q H1 (Grow.refl _)⟩
/-- a tuple's items, each to a name -/
theorem st_unp {is : List Nat} {e : E} (hi : ∀ i ∈ is, i < ms.length) (h : SpS C rt Wx lm ms (setMs ms is (elemM (mdE C.rm ms e))) (.unp is e) D σ H) : tAsg (SpE C ms Wx e) (gT C (.tp is)) D σ H := by
  obtain ⟨B, F, Sg, r, k⟩ := h
  refine ⟨B, F, Sg, r, ?_⟩
  unfold exS at k
  cases e1 : ev C.cf C.cs e Sg with
  | bad => rw [e1] at k; exact k
  | exc c => rw [e1] at k; exact fun H' g => k σ H' (ExcP.of g)
  | val w =>
    rw [e1] at k
    intro v H1 g rs
    have k : OKr C rt Wx lm _ B F H D (match tgS (.tp is) w (wipeW Sg is) with | some σ' => .nx σ' | none => .bad) := k
    cases et : tgS (.tp is) w (wipeW Sg is) with
    | none => rw [et] at k; exact k.elim
    | some Sg' =>
      rw [et] at k
      have r1 := (r.grow0 g).drop is
      refine tg_rel (m := elemM (mdE C.rm ms e)) (H1 := H1) (B1 := B) r1 (fun j hj => ⟨hi j hj, if_pos hj⟩) et (elemM_zero _) (fun a _ z => z) ?_ fun σ2 r2 _ => k _ _ _ _ r2 ((Step.grow g).trans (Step.drop is))
      cases em : mdE C.rm ms e with
      | vw => exact rs.view
      | flat =>
        rw [em] at rs
        obtain ⟨F1, _, _, q⟩ := rs
        exact ⟨q.2.1, q.2.2⟩
      | fr d =>
        exact fun B' hb => Rp.mono (Grow.refl _) hb _ _ (rs.toCl r.hasB (by rw [em]; rfl))
/-! ## stores into lists -/
theorem OwL.setAt {K : PySem.W.Frag} {P : Pl} {k : Option Nat} {w : W} {v : V} (h : Ow K P H B k w v []) : ∀ {ws : List W} {vs : List V} {F1 : List Addr} (j : Nat), OwL K P H B k ws vs F1 → ∃ F', F'.Sublist F1 ∧ OwL K P H B k (ws.set j w) (vs.set j v) F'
  | [], vs, F1, j, q => by
    unfold OwL at q
    refine ⟨[], List.nil_sublist _, ?_⟩
    rw [q.1]
    unfold OwL
    exact ⟨rfl, rfl⟩
  | u :: ws, vs, F1, 0, q => by
    unfold OwL at q
    obtain ⟨x, r, G1, G2, rfl, rfl, h1, h2⟩ := q
    refine ⟨G2, List.sublist_append_right _ _, ?_⟩
    show OwL K P H B k (w :: ws) (v :: r) G2
    unfold OwL
    exact ⟨v, r, [], G2, rfl, rfl, h, h2⟩
  | u :: ws, vs, F1, j + 1, q => by
    unfold OwL at q
    obtain ⟨x, r, G1, G2, rfl, rfl, h1, h2⟩ := q
    obtain ⟨F', s, q'⟩ := OwL.setAt h j h2
    refine ⟨G1 ++ F', List.Sublist.append (List.Sublist.refl _) s, ?_⟩
    show OwL K P H B k (u :: ws.set j w) (x :: r.set j v) _
    unfold OwL
    exact ⟨x, r.set j v, G1, F', rfl, rfl, h1, q'⟩
theorem OwL.inner {K : PySem.W.Frag} {P : Pl} {k : Option Nat} (hk : k ≠ some 0) : ∀ {us : List W} {xs : List V} {G : List Addr} {j : Nat} {zs : List W}, OwL K P H B k us xs G → G.Nodup → us[j]? = some (.lst zs) →
    ∃ p ys, xs[j]? = some (.ref p) ∧ H p = some (.lst ys) ∧ ys.length = zs.length ∧ p ∈ G ∧ ∀ (j2 : Nat) (w : W) (v : V), B p → Ow K P H B (pdp k) w v [] → ∃ G', G'.Sublist G ∧ OwL K P (L2.upd H p (.lst (ys.set j2 v))) B k (us.set j (.lst (zs.set j2 w))) xs G'
  | [], xs, G, j, zs, q, nd, e => by simp at e
  | u :: us, xs, G, 0, zs, q, nd, e => by
    unfold OwL at q
    obtain ⟨x, r, G1, G2, rfl, rfl, h1, h2⟩ := q
    simp at e
    subst e
    unfold Ow at h1
    rw [if_neg hk] at h1
    obtain ⟨p, ys, F', rfl, h3, rfl, h4, h5⟩ := h1
    have hl : ys.length = zs.length := RpL.length _ _ (OwL.rp (B' := Av.nil) (fun _ _ z => z.elim) _ zs ys F' (fun _ _ z => z) h5)
    refine ⟨p, ys, rfl, h3, hl, by simp, fun j2 w v hB hw => ?_⟩
    obtain ⟨n1, n2, n3⟩ := List.nodup_append.mp nd
    have pF : p ∉ F' := (List.nodup_cons.mp n1).1
    have pG : p ∉ G2 := fun z => n3 p List.mem_cons_self p z rfl
    have hw' : Ow K P (L2.upd H p (.lst (ys.set j2 v))) B (pdp k) w v [] := hw.upd hB h3 (by simp)
    have h5' : OwL K P (L2.upd H p (.lst (ys.set j2 v))) B (pdp k) zs ys F' := h5.upd hB h3 pF
    obtain ⟨F'', s, q2⟩ := OwL.setAt hw' j2 h5'
    refine ⟨(p :: F'') ++ G2, List.Sublist.append (s.cons₂ p) (List.Sublist.refl _), ?_⟩
    show OwL K P _ B k (.lst (zs.set j2 w) :: us) (.ref p :: r) _
    unfold OwL
    refine ⟨.ref p, r, p :: F'', G2, rfl, rfl, ?_, h2.upd hB h3 pG⟩
    unfold Ow
    rw [if_neg hk]
    exact ⟨p, ys.set j2 v, F'', rfl, upd_same, rfl, by rw [List.length_set]; exact h4, q2⟩
  | u :: us, xs, G, j + 1, zs, q, nd, e => by
    unfold OwL at q
    obtain ⟨x, r, G1, G2, rfl, rfl, h1, h2⟩ := q
    obtain ⟨n1, n2, n3⟩ := List.nodup_append.mp nd
    obtain ⟨p, ys, e1, h3, hl, pG, f⟩ := OwL.inner hk h2 n2 (by simpa using e)
    refine ⟨p, ys, by simpa using e1, h3, hl, List.mem_append_right _ pG, fun j2 w v hB hw => ?_⟩
    obtain ⟨G', s, q2⟩ := f j2 w v hB hw
    refine ⟨G1 ++ G', List.Sublist.append (List.Sublist.refl _) s, ?_⟩
    show OwL K P _ B k (u :: us.set j (.lst (zs.set j2 w))) (x :: r) _
    unfold OwL
    exact ⟨x, r, G1, G', rfl, rfl, h1.upd hB h3 (fun z => n3 p z p pG rfl), q2⟩
/-- a list of an own slot changed -/
theorem Rel.updS {i : Nat} {d : Option Nat} {w' : W} {v : V} {b : Addr} {ys ys' : List V} {F1 : List Addr} (r : Rel C.K C.P ms B F Sg σ H) (hv : ∀ (j : Nat) (u : W), Sg[j]? = some (some u) → ms.getD j Md.cl ≠ .vw) (em : ms.getD i Md.cl = .fr d) (bF : b ∈ F i) (hb : H b = some (.lst ys)) (si : σ[i]? = some (some v))
    (q : Ow C.K C.P (upd H b (.lst ys')) B d w' v F1) (sub : F1.Sublist (F i)) : Rel C.K C.P ms B (fun j => if j = i then F1 else F j) (Sg.set i (some w')) σ (upd H b (.lst ys')) ∧ Step B F H B (fun j => if j = i then F1 else F j) (upd H b (.lst ys')) := by
  have bB := r.inB i b bF
  have dm : ∀ a, H a ≠ none → (upd H b (.lst ys')) a ≠ none := fun a ha => by
    by_cases e : a = b
    · rw [e, upd_same]; simp
    · rw [upd_ne e]; exact ha
  constructor
  · refine ⟨fun j u e => ?_, fun a ha => dm a (r.hasB a ha), fun j => ?_, fun j a ha => ?_, fun j l a hjl h1 h2 => ?_, by rw [List.length_set]; exact r.len⟩
    · by_cases hj : j = i
      · subst hj
        have hl : j < Sg.length := by
          have := (List.getElem?_eq_some_iff.mp e).1
          rwa [List.length_set] at this
        rw [List.getElem?_set_self hl] at e
        cases e
        refine ⟨v, si, ?_⟩
        rw [em, if_pos rfl]
        exact q
      · rw [List.getElem?_set_ne (Ne.symm hj)] at e
        obtain ⟨x, e1, e2⟩ := r.slots j u e
        refine ⟨x, e1, ?_⟩
        rw [if_neg hj]
        cases em2 : ms.getD j Md.cl with
        | vw => exact absurd em2 (hv j u e)
        | flat =>
          rw [em2] at e2
          exact ⟨e2.1, e2.2.1, Rp.flat _ _ e2.2.1 (Rp.upd (B := B) bB hb _ _ (Rp.flat _ _ e2.2.1 e2.2.2))⟩
        | fr d2 =>
          rw [em2] at e2
          exact Ow.upd bB hb (fun z => r.dj j i b hj z bF) e2
    · show (if j = i then F1 else F j : List Addr).Nodup
      split
      · exact sub.nodup (r.nd i)
      · exact r.nd j
    · have ha : a ∈ (if j = i then F1 else F j : List Addr) := ha
      split at ha
      · exact r.inB i a (sub.subset ha)
      · exact r.inB j a ha
    · have s : ∀ l, a ∈ (if l = i then F1 else F l : List Addr) → a ∈ F l := fun l h => by
        split at h
        · rename_i e
          rw [e]
          exact sub.subset h
        · exact h
      exact r.dj j l a hjl (s j h1) (s l h2)
  · refine ⟨fun T H1 f => ⟨⟨fun a o e n => ?_, fun a xs e => ?_, fun a o u e => ?_⟩, fun j a ha => ?_⟩, fun _ h _ _ => h, fun _ h => Or.inl h, dm⟩
    · rw [upd_ne (fun z => ?_)]
      · exact f.st.st a o e n
      · rcases f.ow i b bF with q | q
        · exact n (z ▸ q)
        · rw [z, q] at e; cases e
    · have := f.st.tp a xs e
      rw [upd_ne (fun z => by rw [z, hb] at this; cases this)]
      exact this
    · have := f.st.fz a o u e
      rw [upd_ne (fun z => by rw [z, hb] at this; cases this)]
      exact this
    · have ha : a ∈ (if j = i then F1 else F j : List Addr) := ha
      split at ha
      · exact f.ow i a (sub.subset ha)
      · exact f.ow j a ha
/-- a list of an own slot changed, the slot wiped -/
theorem Rel.updK {i : Nat} {b : Addr} {ys ys' : List V} {wp : List Nat} (r : Rel C.K C.P ms B F Sg σ H) (hi : i < ms.length) (hv : vwIn ms wp = true) (bF : b ∈ F i) (hb : H b = some (.lst ys)) :
    Rel C.K C.P (ms.set i Md.cl) B (fun j => if j ∈ i :: wp then [] else F j) (wipeW Sg (i :: wp)) σ (upd H b (.lst ys')) ∧ Step B F H B (fun j => if j ∈ i :: wp then [] else F j) (upd H b (.lst ys')) := by
  have bB := r.inB i b bF
  have dm : ∀ a, H a ≠ none → (upd H b (.lst ys')) a ≠ none := fun a ha => by
    by_cases e : a = b
    · rw [e, upd_same]; simp
    · rw [upd_ne e]; exact ha
  have s : ∀ l a, a ∈ (if l ∈ i :: wp then [] else F l : List Addr) → a ∈ F l := fun l a h => by
    split at h
    · cases h
    · exact h
  constructor
  · refine ⟨fun j u e => ?_, fun a ha => dm a (r.hasB a ha), fun j => ?_, fun j a ha => r.inB j a (s j a ha), fun j l a hjl h1 h2 => r.dj j l a hjl (s j a h1) (s l a h2), by rw [wipeW_length]; exact r.len⟩
    · obtain ⟨e, hj⟩ := wipeW_some e
      have hji : j ≠ i := fun z => hj (by rw [z]; exact List.mem_cons_self)
      obtain ⟨x, e1, e2⟩ := r.slots j u e
      refine ⟨x, e1, ?_⟩
      rw [if_neg hj, List.getD_eq_getElem?_getD, List.getElem?_set_ne (Ne.symm hji), ← List.getD_eq_getElem?_getD]
      cases em2 : ms.getD j Md.cl with
      | vw => exact absurd (List.mem_cons_of_mem _ (vwIn_at hv em2)) hj
      | flat =>
        rw [em2] at e2
        exact ⟨e2.1, e2.2.1, Rp.flat _ _ e2.2.1 (Rp.upd (B := B) bB hb _ _ (Rp.flat _ _ e2.2.1 e2.2.2))⟩
      | fr d2 =>
        rw [em2] at e2
        exact Ow.upd bB hb (fun z => r.dj j i b hji z bF) e2
    · show (if j ∈ i :: wp then [] else F j : List Addr).Nodup
      split
      · exact List.nodup_nil
      · exact r.nd j
  · refine ⟨fun T H1 f => ⟨⟨fun a o e n => ?_, fun a xs e => ?_, fun a o u e => ?_⟩, fun j a ha => f.ow j a (s j a ha)⟩, fun _ h _ _ => h, fun _ h => Or.inl h, dm⟩
    · rw [upd_ne (fun z => ?_)]
      · exact f.st.st a o e n
      · rcases f.ow i b bF with q | q
        · exact n (z ▸ q)
        · rw [z, q] at e; cases e
    · have := f.st.tp a xs e
      rw [upd_ne (fun z => by rw [z, hb] at this; cases this)]
      exact this
    · have := f.st.fz a o u e
      rw [upd_ne (fun z => by rw [z, hb] at this; cases this)]
      exact this
/-- x[a].append(e), x wiped -/
theorem st_appK {i : Nat} {a e : E} {wp : List Nat} (hi : i < ms.length) (ha : ow2 (ms.getD i Md.cl) = true) (hv : vwIn ms wp = true) (h : SpS C rt Wx lm ms (ms.set i Md.cl) (.appK i a e wp) D σ H) :
    tDrop (tBM C.K "list" rAppend (tOp (rIxL C.K) (tVar i) (SpE C ms Wx a)) (SpA C ms Wx [e])) D σ H := by
  obtain ⟨B, F, Sg, r, k⟩ := h
  unfold exS at k
  cases e1 : Sg.get i with
  | bad => rw [e1] at k; exact k.elim
  | exc c => rw [e1] at k; exact k.elim
  | val w =>
    rw [e1] at k
    cases w with
    | lst us =>
      cases e2 : ev C.cf C.cs a Sg with
      | bad => rw [e2] at k; exact k.elim
      | exc c => rw [e2] at k; exact k.elim
      | val wa =>
        rw [e2] at k
        cases wa with
        | int kk =>
          simp only at k
          cases e3 : ixN us.length kk with
          | none => rw [e3] at k; exact k.elim
          | some j =>
            rw [e3] at k
            simp only at k
            cases e5 : us[j]? with
            | none => rw [e5] at k; exact k.elim
            | some u =>
              rw [e5] at k
              cases u with
              | lst zs =>
                simp only at k
                obtain ⟨vi, e4, qi⟩ := r.slots i _ (get_some e1)
                cases em : ms.getD i Md.cl with
                | vw => rw [em] at ha; cases ha
                | flat => rw [em] at ha; cases ha
                | fr d =>
                  rw [em] at ha qi
                  unfold ow2 at ha
                  simp only [Bool.and_eq_true, decide_eq_true_eq] at ha
                  obtain ⟨hd, hd2⟩ := ha
                  have qi : Ow C.K C.P H B d (.lst us) vi (F i) := qi
                  unfold Ow at qi
                  rw [if_neg hd] at qi
                  obtain ⟨p, xs, G, rfl, h1, h2, h3, h4⟩ := qi
                  have ndi := r.nd i
                  rw [h2] at ndi
                  obtain ⟨pG, ndG⟩ := List.nodup_cons.mp ndi
                  have hxl : xs.length = us.length := RpL.length _ _ (OwL.rp (B' := Av.nil) (fun _ _ z => z.elim) _ us xs G (fun _ _ z => z) h4)
                  obtain ⟨p2, ys, e8, h5, hyl, p2G, _⟩ := OwL.inner hd2 h4 ndG e5
                  have p2F : p2 ∈ F i := by rw [h2]; exact List.mem_cons_of_mem _ p2G
                  refine ⟨.ref p, e4, B, F, Sg, r, ?_⟩
                  rw [e2]
                  intro iv H2 g rs
                  have ei := rs.view
                  unfold Rp at ei
                  subst ei
                  have hat : atI xs kk = some (.ref p2) := by
                    unfold atI
                    rw [hxl, e3]
                    exact e8
                  refine ⟨p, xs, kk, .ref p2, rfl, rfl, SqL.of (g _ _ h1), hat, Or.inl ⟨rfl, ys, SqL.of (g _ _ h5)⟩, B, F, Sg, r.grow0 g, ?_⟩
                  have k' : OKr C rt Wx lm (ms.set i Md.cl) B F H D (ofO (ev C.cf C.cs e Sg) fun _ => if zs.length < LIM then .nx (wipeW Sg (i :: wp)) else .bad) := k
                  unfold evs
                  cases e6 : ev C.cf C.cs e Sg with
                  | bad => rw [e6] at k'; exact k'
                  | exc c => rw [e6] at k'; exact fun H' g' => k' σ H' (ExcP.of (g.trans g'))
                  | val w =>
                    rw [e6] at k'
                    unfold evs
                    intro vs H3 g3 rs3
                    obtain ⟨y, rfl, _⟩ := rs3.view.one_inv
                    have g4 := g.trans g3
                    have k2 : OKr C rt Wx lm (ms.set i Md.cl) B F H D (if zs.length < LIM then .nx (wipeW Sg (i :: wp)) else .bad) := k'
                    split at k2
                    · rename_i hlt
                      have hp2 : H3 p2 = some (.lst ys) := g4 _ _ h5
                      refine ⟨p2, ys, y, rfl, rfl, hp2, ?_, ?_⟩
                      · have := lim_size
                        omega
                      obtain ⟨r2, s2⟩ := (r.grow0 g4).updK (ys' := ys ++ [y]) hi hv p2F hp2
                      exact k2 _ _ _ _ r2 ((Step.grow g4).trans s2)
                    · exact k2.elim
              | _ => exact k.elim
        | _ => exact k.elim
    | _ => exact k.elim
/-- the reading of a target -/
def gSt (C : Cc) (ms : List Md) (Wx : WX) (t : Nat × E × Option E) : TG := match t.2.2 with
  | none => gSub (tVar t.1) (SpE C ms Wx t.2.1) rSetL
  | some b => gSub (tOp (rIxL C.K) (tVar t.1) (SpE C ms Wx t.2.1)) (SpE C ms Wx b) rSetL
def gSts (C : Cc) (ms : List Md) (Wx : WX) : List (Nat × E × Option E) → TGs
  | [] => gNil
  | t :: ts => gCons (gSt C ms Wx t) (gSts C ms Wx ts)
theorem vOk_ow {d : Option Nat} {m : Md} {w : W} {v : V} {F1 : List Addr} (h : vOk d m = true) (q : ROw C.K C.P H B m w v F1) : F1 = [] ∧ Ow C.K C.P H B d w v [] := by
  unfold vOk at h
  simp only [Bool.or_eq_true, Bool.and_eq_true, decide_eq_true_eq] at h
  rcases h with rfl | ⟨rfl, rfl⟩
  · exact ⟨q.1, Ow.flat _ _ _ q.2.1 (Rp.flat _ _ q.2.1 q.2.2)⟩
  · have := (Ow.zero _ _ _).mp q
    rw [this.1] at q
    exact ⟨this.1, q⟩
theorem sto_ok {t : Nat × E × Option E} {m : Md} {w : W} {v : V} {Sg' : Mx.Sg} {F1 : List Addr} {k : L2.St → Hp → Prop} (r : Rel C.K C.P ms B F Sg σ H) (hv : ∀ (j : Nat) (u : W), Sg[j]? = some (some u) → ms.getD j Md.cl ≠ .vw) (ok : tOk C.rm ms t m = true) (q : ROw C.K C.P H B m w v F1) (e : stoW C.cf C.cs t w Sg = some Sg')
    (hk : ∀ F' H', Rel C.K C.P ms B F' Sg' σ H' → Step B F H B F' H' → (∀ m w v, m ≠ .vw → ROw C.K C.P H B m w v [] → ROw C.K C.P H' B m w v []) → k σ H') : gSt C ms Wx t v σ H k := by
  obtain ⟨i, a, ob⟩ := t
  unfold tOk at ok
  simp only [Bool.and_eq_true, decide_eq_true_eq] at ok
  obtain ⟨⟨hi, oka⟩, ok⟩ := ok
  unfold stoW at e
  simp only at e
  cases e1 : Sg.get i with
  | bad => rw [e1] at e; cases e
  | exc c => rw [e1] at e; cases e
  | val wi =>
    rw [e1] at e
    cases wi with
    | lst us =>
      cases e2 : ev C.cf C.cs a Sg with
      | bad => rw [e2] at e; cases e
      | exc c => rw [e2] at e; cases e
      | val wa =>
        rw [e2] at e
        cases wa with
        | int kk =>
          simp only at e
          cases e3 : ixN us.length kk with
          | none => rw [e3] at e; cases e
          | some j =>
            rw [e3] at e
            simp only at e
            obtain ⟨vi, e4, qi⟩ := r.slots i _ (get_some e1)
            cases em : ms.getD i Md.cl with
            | vw => rw [em] at ok; cases ok
            | flat => rw [em] at ok; cases ok
            | fr d =>
              rw [em] at ok qi
              simp only [Bool.and_eq_true, decide_eq_true_eq] at ok
              obtain ⟨hd, ok⟩ := ok
              have qi : Ow C.K C.P H B d (.lst us) vi (F i) := qi
              unfold Ow at qi
              rw [if_neg hd] at qi
              obtain ⟨p, xs, G, rfl, h1, h2, h3, h4⟩ := qi
              have pF : p ∈ F i := by rw [h2]; exact List.mem_cons_self
              have pB := r.inB i p pF
              have ndi := r.nd i
              rw [h2] at ndi
              obtain ⟨pG, ndG⟩ := List.nodup_cons.mp ndi
              have hxl : xs.length = us.length := RpL.length _ _ (OwL.rp (B' := Av.nil) (fun _ _ z => z.elim) _ us xs G (fun _ _ z => z) h4)
              have surv : ∀ {H2 : Hp} {b : Addr} {ys ys' : List V}, Grow H H2 → B b → H2 b = some (.lst ys) → ∀ m w v, m ≠ .vw → ROw C.K C.P H B m w v [] → ROw C.K C.P (upd H2 b (.lst ys')) B m w v [] := fun {H2 b ys ys'} g hb hy m w v hm q => by
                have q := q.mono g (fun _ _ z => z)
                cases m with
                | vw => exact absurd rfl hm
                | flat => exact ⟨q.1, q.2.1, Rp.flat _ _ q.2.1 (Rp.upd (B := B) hb hy _ _ (Rp.flat _ _ q.2.1 q.2.2))⟩
                | fr d2 => exact Ow.upd hb hy (by simp) q
              cases ob with
              | none =>
                simp only at e ok
                cases e
                obtain ⟨rfl, qw⟩ := vOk_ow ok q
                refine ⟨.ref p, e4, B, F, Sg, r, ?_⟩
                rw [e2]
                intro iv H2 g rs
                have ei := rs.view
                unfold Rp at ei
                subst ei
                have hp2 : H2 p = some (.lst xs) := g _ _ h1
                refine ⟨p, xs, kk, j, rfl, rfl, hp2, by rw [hxl]; exact e3, ?_⟩
                have qw2 : Ow C.K C.P (upd H2 p (.lst (xs.set j v))) B (pdp d) w v [] := (qw.mono g (fun _ _ z => z)).upd pB hp2 (by simp)
                have h42 : OwL C.K C.P (upd H2 p (.lst (xs.set j v))) B (pdp d) us xs G := (h4.mono g (fun _ _ z => z)).upd pB hp2 pG
                obtain ⟨G', s, q2⟩ := OwL.setAt qw2 j h42
                have qn : Ow C.K C.P (upd H2 p (.lst (xs.set j v))) B d (.lst (us.set j w)) (.ref p) (p :: G') := by
                  unfold Ow
                  rw [if_neg hd]
                  exact ⟨p, xs.set j v, G', rfl, upd_same, rfl, by rw [List.length_set]; exact h3, q2⟩
                obtain ⟨r2, s2⟩ := (r.grow0 g).updS hv em pF hp2 e4 qn (by rw [h2]; exact s.cons₂ p)
                exact hk _ _ r2 ((Step.grow g).trans s2) (surv g pB hp2)
              | some b =>
                simp only [Bool.and_eq_true, decide_eq_true_eq] at e ok
                obtain ⟨⟨okb, hd2⟩, okv⟩ := ok
                obtain ⟨rfl, qw⟩ := vOk_ow okv q
                cases e5 : us[j]? with
                | none => rw [e5] at e; cases e
                | some u =>
                  rw [e5] at e
                  cases u with
                  | lst zs =>
                    cases e6 : ev C.cf C.cs b Sg with
                    | bad => rw [e6] at e; cases e
                    | exc c => rw [e6] at e; cases e
                    | val wb =>
                      rw [e6] at e
                      cases wb with
                      | int l =>
                        simp only at e
                        cases e7 : ixN zs.length l with
                        | none => rw [e7] at e; cases e
                        | some j2 =>
                          rw [e7] at e
                          cases e
                          refine ⟨.ref p, e4, B, F, Sg, r, ?_⟩
                          rw [e2]
                          intro iv H2 g rs
                          have ei := rs.view
                          unfold Rp at ei
                          subst ei
                          have hp2 : H2 p = some (.lst xs) := g _ _ h1
                          obtain ⟨p2, ys, e8, h5, hyl, p2G, _⟩ := OwL.inner hd2 h4 ndG e5
                          have hat : atI xs kk = some (.ref p2) := by
                            unfold atI
                            rw [hxl, e3]
                            exact e8
                          refine ⟨p, xs, kk, .ref p2, rfl, rfl, SqL.of hp2, hat, B, F, Sg, r.grow0 g, ?_⟩
                          rw [e6]
                          intro bv H3 g3 rs3
                          have ei3 := rs3.view
                          unfold Rp at ei3
                          subst ei3
                          have g4 := g.trans g3
                          obtain ⟨p3, ys3, e83, h53, hyl3, p3G, f⟩ := OwL.inner hd2 (h4.mono g4 (fun _ _ z => z)) ndG e5
                          rw [e8] at e83
                          cases e83
                          have p2F : p2 ∈ F i := by rw [h2]; exact List.mem_cons_of_mem _ p2G
                          have p2B := r.inB i p2 p2F
                          refine ⟨p2, ys3, l, j2, rfl, rfl, h53, by rw [hyl3]; exact e7, ?_⟩
                          obtain ⟨G', s, q2⟩ := f j2 w v p2B (qw.mono g4 (fun _ _ z => z))
                          have np : p ≠ p2 := fun z => pG (z ▸ p2G)
                          have qn : Ow C.K C.P (upd H3 p2 (.lst (ys3.set j2 v))) B d (.lst (us.set j (.lst (zs.set j2 w)))) (.ref p) (p :: G') := by
                            unfold Ow
                            rw [if_neg hd]
                            exact ⟨p, xs, G', rfl, by rw [upd_ne np]; exact g4 _ _ h1, rfl, by rw [List.length_set]; exact h3, q2⟩
                          obtain ⟨r2, s2⟩ := (r.grow0 g4).updS hv em p2F h53 e4 qn (by rw [h2]; exact s.cons₂ p)
                          exact hk _ _ r2 ((Step.grow g4).trans s2) (surv g4 p2B h53)
                      | _ => cases e
                  | _ => cases e
        | _ => cases e
    | _ => cases e
theorem stoW_dom {t : Nat × E × Option E} {w : W} {Sg' : Mx.Sg} (e : stoW C.cf C.cs t w Sg = some Sg') (hv : ∀ (j : Nat) (u : W), Sg[j]? = some (some u) → ms.getD j Md.cl ≠ .vw) (ok : ms.getD t.1 Md.cl ≠ .vw) : ∀ (j : Nat) (u : W), Sg'[j]? = some (some u) → ms.getD j Md.cl ≠ .vw := by
  intro j u hj
  have key : ∃ x, Sg' = Sg.set t.1 x := by
    unfold stoW at e
    split at e
    · split at e
      · split at e
        · cases e; exact ⟨_, rfl⟩
        · split at e
          · split at e
            · cases e; exact ⟨_, rfl⟩
            · cases e
          · cases e
      · cases e
    · cases e
  obtain ⟨x, rfl⟩ := key
  by_cases h : j = t.1
  · rw [h]; exact ok
  · rw [List.getElem?_set_ne (Ne.symm h)] at hj
    exact hv j u hj
theorem tOk_vw {t : Nat × E × Option E} {m : Md} (ok : tOk C.rm ms t m = true) : ms.getD t.1 Md.cl ≠ .vw ∧ m ≠ .vw := by
  unfold tOk at ok
  simp only [Bool.and_eq_true, decide_eq_true_eq] at ok
  cases em : ms.getD t.1 Md.cl with
  | vw => rw [em] at ok; cases ok.2
  | flat => rw [em] at ok; cases ok.2
  | fr d =>
    refine ⟨(by intro z; cases z), fun z => ?_⟩
    subst z
    rw [em] at ok
    simp only [Bool.and_eq_true, decide_eq_true_eq] at ok
    cases et : t.2.2 with
    | none => rw [et] at ok; have := ok.2.2; unfold vOk at this; simp at this
    | some b => rw [et] at ok; have := ok.2.2; simp only [Bool.and_eq_true] at this; have := this.2; unfold vOk at this; simp at this
theorem stos_ok : ∀ {ts : List (Nat × E × Option E)} {mds : List Md} {ws : List W} {vs : List V} {F1 : List Addr} {Sg Sg' : Mx.Sg} {H : Hp} {F : Nat → List Addr} {k : L2.St → Hp → Prop}, Rel C.K C.P ms B F Sg σ H → (∀ (j : Nat) (u : W), Sg[j]? = some (some u) → ms.getD j Md.cl ≠ .vw) → tsOk C.rm ms ts mds = true → ROwL C.K C.P H B mds ws vs F1 → stosW C.cf C.cs ts ws Sg = some Sg' →
    (∀ F' H', Rel C.K C.P ms B F' Sg' σ H' → Step B F H B F' H' → k σ H') → gSts C ms Wx ts vs σ H k
  | [], mds, ws, vs, F1, Sg, Sg', H, F, k, r, hv, ok, q, e, hk => by
    cases mds with
    | cons m mds => unfold tsOk at ok; cases ok
    | nil =>
      obtain ⟨rfl, rfl, _⟩ := q
      unfold stosW at e
      cases e
      exact ⟨rfl, hk F H r Step.refl⟩
  | t :: ts, mds, ws, vs, F1, Sg, Sg', H, F, k, r, hv, ok, q, e, hk => by
    cases mds with
    | nil => unfold tsOk at ok; cases ok
    | cons m mds =>
      unfold tsOk at ok
      simp only [Bool.and_eq_true] at ok
      obtain ⟨w, wr, v, vr, G1, G2, rfl, rfl, rfl, q1, q2⟩ := q
      unfold stosW at e
      cases e1 : stoW C.cf C.cs t w Sg with
      | none => rw [e1] at e; cases e
      | some Sg1 =>
        rw [e1] at e
        refine ⟨v, vr, rfl, ?_⟩
        refine sto_ok r hv ok.1 q1 e1 fun F' H' r' s' sv => ?_
        -- the other values stand
        have hq : ∀ {ts : List (Nat × E × Option E)} {mds : List Md} {wr : List W} {vr : List V} {G2 : List Addr}, tsOk C.rm ms ts mds = true → ROwL C.K C.P H B mds wr vr G2 → ROwL C.K C.P H' B mds wr vr G2 := by
          intro ts
          induction ts with
          | nil =>
            intro mds wr vr G2 ok q
            cases mds with
            | nil => exact q
            | cons m mds => unfold tsOk at ok; cases ok
          | cons t ts ih =>
            intro mds wr vr G2 ok q
            cases mds with
            | nil => unfold tsOk at ok; cases ok
            | cons m mds =>
              unfold tsOk at ok
              simp only [Bool.and_eq_true] at ok
              obtain ⟨w, wr, v, vr, G1, G2, rfl, rfl, rfl, q1, q2⟩ := q
              have hG : G1 = [] := by
                have := ok.1
                unfold tOk at this
                simp only [Bool.and_eq_true, decide_eq_true_eq] at this
                obtain ⟨_, this⟩ := this
                split at this
                · simp only [Bool.and_eq_true, decide_eq_true_eq] at this
                  obtain ⟨_, this⟩ := this
                  split at this
                  · exact (vOk_ow this q1).1
                  · simp only [Bool.and_eq_true, decide_eq_true_eq] at this
                    exact (vOk_ow this.2 q1).1
                · cases this
              subst hG
              exact ⟨w, wr, v, vr, [], G2, rfl, rfl, rfl, sv m w v (tOk_vw ok.1).2 q1, ih ok.2 q2⟩
        exact stos_ok r' (stoW_dom e1 hv (tOk_vw ok.1).1) ok.2 (hq ok.2 q2) e fun F2 H2 r2 s2 => hk F2 H2 r2 (s'.trans s2)
theorem wipe_novw {wp : List Nat} (h : vwIn ms wp = true) : ∀ (j : Nat) (u : W), (wipeW Sg wp)[j]? = some (some u) → ms.getD j Md.cl ≠ .vw := fun j u e z => (wipeW_some e).2 (vwIn_at h z)
theorem st_setT0 {ts : List (Nat × E × Option E)} {es : List E} {wp : List Nat} (hv : vwIn ms wp = true) (ok : tsOk C.rm ms ts (mdEs C.rm ms es) = true) (h : SpS C rt Wx lm ms ms (.setT ts es wp) D σ H) : SpA C ms Wx es σ H fun vs H1 => vs.length = es.length ∧ ∀ H2, Grow H1 H2 → gSts C ms Wx ts vs σ H2 D.nx := by
  obtain ⟨B, F, Sg, r, k⟩ := h
  refine ⟨B, F, Sg, r, ?_⟩
  unfold exS at k
  cases e1 : evs C.cf C.cs es Sg with
  | bad => rw [e1] at k; exact k
  | exc c => rw [e1] at k; exact fun H' g => k σ H' (ExcP.of g)
  | vals ws =>
    rw [e1] at k
    intro vs H1 g rs
    have k : OKr C rt Wx lm ms B F H D (match stosW C.cf C.cs ts ws (wipeW Sg wp) with | some σ' => .nx σ' | none => .bad) := k
    cases e2 : stosW C.cf C.cs ts ws (wipeW Sg wp) with
    | none => rw [e2] at k; exact k.elim
    | some Sg' =>
      rw [e2] at k
      have hl : ∀ {es : List E} {ws : List W}, evs C.cf C.cs es Sg = .vals ws → es.length = ws.length := by
        intro es
        induction es with
        | nil => intro ws h; simp only [evs] at h; cases h; rfl
        | cons e es ih =>
          intro ws h
          simp only [evs] at h
          split at h
          · split at h
            · rename_i h2
              cases h
              rw [List.length_cons, List.length_cons, ih h2]
            · cases h
            · cases h
          · cases h
          · cases h
      refine ⟨by rw [RpL.length _ _ rs.view, hl e1], fun H2 g2 => ?_⟩
      obtain ⟨Fs, nd, fr, q⟩ := rs
      have g3 := g.trans g2
      have r1 := ((r.grow g fr q.dom).grow0 g2).drop wp
      refine stos_ok r1 (wipe_novw hv) ok (q.mono g2 (fun _ _ z => z)) e2 fun F' H' r' s' => k _ _ _ _ r' ?_
      refine Step.trans ?_ s'
      refine Step.trans ?_ (Step.drop wp)
      exact ⟨fun T H3 f => ⟨f.st.trans (Stand.ofGrow g3), f.ow⟩, fun _ h _ _ => Or.inl h, fun a h => h.elim Or.inl fun z => Or.inr (fr a z), fun a h => g3.dom h⟩
theorem st_setT {ts : List (Nat × E × Option E)} {es : List E} {wp : List Nat} (hn : es.length = ts.length) (h1000 : es.length ≤ 1000) (hv : vwIn ms wp = true) (ok : tsOk C.rm ms ts (mdEs C.rm ms es) = true) (h : SpS C rt Wx lm ms ms (.setT ts es wp) D σ H) : tAsg (tTup (SpA C ms Wx es)) (gTup C.K ts.length (gSts C ms Wx ts)) D σ H := by
  refine SpA.mono (fun vs H1 q => ?_) (st_setT0 hv ok h)
  obtain ⟨h1, q⟩ := q
  exact ⟨by rw [h1]; exact Nat.le_trans h1000 (by decide), fun p hp => ⟨p, vs, rfl, SqT.of upd_same, by rw [h1, hn], q _ (Grow.new hp)⟩⟩
theorem st_set1 {t : Nat × E × Option E} {e : E} {wp : List Nat} (hv : vwIn ms wp = true) (ok : tsOk C.rm ms [t] (mdEs C.rm ms [e]) = true) (h : SpS C rt Wx lm ms ms (.setT [t] [e] wp) D σ H) : tAsg (SpE C ms Wx e) (gSt C ms Wx t) D σ H := by
  refine SpE.mono (fun v H1 q => ?_) (SpA_one (st_setT0 hv ok h))
  obtain ⟨_, q⟩ := q
  obtain ⟨v', vr, e1, q⟩ := q H1 (Grow.refl _)
  cases e1
  show gSt C ms Wx t v σ H1 D.nx
  have : ∀ {k k' : L2.St → Hp → Prop}, (∀ σ H, k σ H → k' σ H) → gSt C ms Wx t v σ H1 k → gSt C ms Wx t v σ H1 k' := fun {k k'} hm q => by
    obtain ⟨ti, ta, ob⟩ := t
    cases ob with
    | none =>
      obtain ⟨o, e1, q⟩ := q
      refine ⟨o, e1, SpE.mono (fun iv H2 q => ?_) q⟩
      obtain ⟨p, xs, k, j, a1, a2, a3, a4, q⟩ := q
      exact ⟨p, xs, k, j, a1, a2, a3, a4, hm _ _ q⟩
    | some b =>
      obtain ⟨o, e1, q⟩ := q
      refine ⟨o, e1, SpE.mono (fun iv H2 q => ?_) q⟩
      obtain ⟨p, xs, k, j, a1, a2, a3, a4, q⟩ := q
      refine ⟨p, xs, k, j, a1, a2, a3, a4, SpE.mono (fun iv H2 q => ?_) q⟩
      obtain ⟨p, xs, k, j, a1, a2, a3, a4, q⟩ := q
      exact ⟨p, xs, k, j, a1, a2, a3, a4, hm _ _ q⟩
  exact this (fun σ H q => q.2) q
/-! ## loops -/
theorem setMs_idem : ∀ {is : List Nat} {ms : List Md} {m : Md}, setMs (setMs ms is m) is m = setMs ms is m := by
  intro is ms m
  have set_comm : ∀ (is : List Nat) (ms : List Md) (i : Nat), setMs (ms.set i m) is m = (setMs ms is m).set i m := by
    intro is
    induction is with
    | nil => intro ms i; rfl
    | cons j is ih =>
      intro ms i
      unfold setMs
      by_cases e : i = j
      · subst e
        rw [List.set_set, ih, List.set_set]
      · rw [List.set_comm _ _ e, ih]
  induction is generalizing ms with
  | nil => rfl
  | cons j is ih =>
    show setMs ((setMs (ms.set j m) is m).set j m) is m = setMs (ms.set j m) is m
    rw [set_comm is _ j, ih, set_comm is ms j, List.set_set]
theorem st_for {tg : Tg} {it : It} {body : List S} {msb : List Md} (hnv : itNV C.rm ms it = true) (hix : ∀ i ∈ tg.ix, i < ms.length) (hb : (∀ Sg Sg', exL C.cf C.cs body Sg ≠ .nx Sg') ∨ msb = setMs ms tg.ix (itM C.rm ms it))
    (h : SpS C rt Wx lm ms (setMs ms tg.ix (itM C.rm ms it)) (.forS tg it body) D σ H) : tFor (SpI C ms Wx it) (gT C tg) (SpL C rt Wx (setMs ms tg.ix (itM C.rm ms it)) (setMs ms tg.ix (itM C.rm ms it)) msb body) D σ H := by
  obtain ⟨B, F, Sg, r, k⟩ := h
  refine ⟨B, F, Sg, r, ?_⟩
  unfold exS at k
  cases e1 : evIt C.cf C.cs it Sg with
  | none => rw [e1] at k; exact k
  | some items =>
    rw [e1] at k
    intro J H1 g1 src0
    have src := src0 (fun a => ∃ i, a ∈ F i) (Or.inr ⟨fun a ⟨i, hi⟩ => r.inB i a hi, hnv⟩)
    obtain ⟨Y, wk, hY⟩ := src.walk
    refine ⟨fun i m σ' H' => m = items.length - i ∧ i ≤ items.length ∧ ∃ B' F' Sg', Rel C.K C.P (setMs ms tg.ix (itM C.rm ms it)) B' F' Sg' σ' H' ∧ Step B F H1 B' F' H' ∧ OKr C rt Wx lm (setMs ms tg.ix (itM C.rm ms it)) B' F' H' D (forW (tgR tg fun s => exL C.cf C.cs body s) (items.drop i) Sg'),
      ⟨items.length, rfl, Nat.zero_le _, B, _, wipeW Sg tg.ix, ((r.grow0 g1).drop tg.ix).recast fun j w e => ?_, Step.drop tg.ix, ?_⟩, ?_⟩
    · exact setMs_out _ (wipeW_some e).2
    · have k' : OKr C rt Wx lm (setMs ms tg.ix (itM C.rm ms it)) B F H D (forW (tgR tg fun s => exL C.cf C.cs body s) items (wipeW Sg tg.ix)) := k
      exact k'.back ((Step.grow g1).trans (Step.drop tg.ix))
    · rintro i m σ' H' ⟨rfl, hi, B', F', Sg', r', s', k'⟩
      have fr := s'.fr _ _ Fr.self
      by_cases hlt : i < items.length
      · refine Or.inr ⟨wk.goes i H' hlt fr.st, fun σ2 H2 => ∃ B2 F2 Sg2, Rel C.K C.P (setMs ms tg.ix (itM C.rm ms it)) B2 F2 Sg2 σ2 H2 ∧ Step B F H1 B2 F2 H2 ∧ OKr C rt Wx lm (setMs ms tg.ix (itM C.rm ms it)) B2 F2 H2 D (forW (tgR tg fun s => exL C.cf C.cs body s) (items.drop (i + 1)) Sg2), fun σ2 H2 q => ⟨items.length - (i + 1), by omega, rfl, hlt, q⟩, fun x H2 y => ?_⟩
        obtain ⟨g2, w, ew, irs⟩ := hY i H' x H2 hlt fr.st (wk.yields i H' x H2 hlt fr.st y)
        have ed : items.drop i = w :: items.drop (i + 1) := by
          rw [List.drop_eq_getElem_cons hlt]
          congr 1
          rw [List.getElem?_eq_getElem hlt] at ew
          exact Option.some.inj ew
        rw [ed] at k'
        unfold forW at k'
        cases et : tgS tg w (wipeW Sg' tg.ix) with
        | none =>
          have : tgR tg (fun s => exL C.cf C.cs body s) w Sg' = .bad := by unfold tgR; rw [et]
          rw [this] at k'
          exact k'.elim
        | some Sg2 =>
          have eg : tgR tg (fun s => exL C.cf C.cs body s) w Sg' = exL C.cf C.cs body Sg2 := by unfold tgR; rw [et]
          rw [eg] at k'
          have r2 := (r'.grow0 g2).drop tg.ix
          have em : setMs (setMs ms tg.ix (itM C.rm ms it)) tg.ix (itM C.rm ms it) = setMs ms tg.ix (itM C.rm ms it) := setMs_idem
          refine tg_rel (m := itM C.rm ms it) (H1 := H1) (B1 := B) r2 (fun j hj => ⟨by rw [setMs_len]; exact hix j hj, if_pos hj⟩) et (itM_zero it) (fun a ha z => (s'.bb a z).elim id fun z => absurd z ha) irs fun σ2 r3 _ => ?_
          rw [em] at r3
          have s2 : Step B F H1 B' (fun j => if j ∈ tg.ix then [] else F' j) H2 := (s'.trans (Step.grow g2)).trans (Step.drop tg.ix)
          have s3 : Step B' F' H' B' (fun j => if j ∈ tg.ix then [] else F' j) H2 := (Step.grow g2).trans (Step.drop tg.ix)
          refine ⟨B', _, Sg2, r3, ?_⟩
          cases eb : exL C.cf C.cs body Sg2 with
          | nx Sg3 =>
            rw [eb] at k'
            rcases hb with hb | rfl
            · exact absurd eb (hb _ _)
            · exact fun B4 F4 σ4 H4 r4 s4 => ⟨B4, F4, Sg3, r4, s2.trans s4, OKr.back (s3.trans s4) k'⟩
          | bk Sg3 =>
            rw [eb] at k'
            exact fun B4 F4 σ4 H4 r4 s4 => k' B4 F4 σ4 H4 r4 (s3.trans s4)
          | rt w' => rw [eb] at k'; exact fun v H4 p => k' v H4 (p.back s3)
          | ex c => rw [eb] at k'; exact fun σ4 H4 p => k' σ4 H4 (p.back s3)
          | bad => rw [eb] at k'; exact k'
      · have e : i = items.length := by omega
        subst e
        rw [List.drop_length] at k'
        unfold forW at k'
        exact Or.inl ⟨wk.stops H' fr.st, k' _ _ _ _ r' Step.refl⟩
theorem st_while {n : Nat} {c : E} {body : List S} {msb : List Md} (hb : (∀ Sg Sg', exL C.cf C.cs body Sg ≠ .nx Sg') ∨ msb = ms)
    (h : SpS C rt Wx lm ms ms (.whl n c body) D σ H) : tWhile (SpT C ms Wx c) (SpL C rt Wx ms ms msb body) D σ H := by
  obtain ⟨B, F, Sg, r, k⟩ := h
  unfold exS at k
  refine ⟨fun m σ' H' => ∃ B' F' Sg', Rel C.K C.P ms B' F' Sg' σ' H' ∧ OKr C rt Wx lm ms B' F' H' D (whW (fun s => ev C.cf C.cs c s) (fun s => exL C.cf C.cs body s) m Sg'), ⟨n, B, F, Sg, r, k⟩, ?_⟩
  rintro m σ' H' ⟨B', F', Sg', r', k'⟩
  refine ⟨B', F', Sg', r', ?_⟩
  cases m with
  | zero => unfold whW at k'; exact k'.elim
  | succ m =>
    unfold whW at k'
    cases e1 : ev C.cf C.cs c Sg' with
    | bad => rw [e1] at k'; exact k'
    | exc x => rw [e1] at k'; exact fun H2 g => k' σ' H2 (ExcP.of g)
    | val w =>
      rw [e1] at k'
      cases w with
      | bl d =>
        refine ⟨d, rfl, fun H2 g => ?_⟩
        cases d with
        | false =>
          rw [if_neg (by decide)]
          exact k' _ _ _ _ (r'.grow0 g) (Step.grow g)
        | true =>
          rw [if_pos rfl]
          refine ⟨fun σ2 H2 => ∃ B2 F2 Sg2, Rel C.K C.P ms B2 F2 Sg2 σ2 H2 ∧ OKr C rt Wx lm ms B2 F2 H2 D (whW (fun s => ev C.cf C.cs c s) (fun s => exL C.cf C.cs body s) m Sg2), fun σ2 H2 q => ⟨m, Nat.lt_succ_self m, q⟩, B', F', Sg', r'.grow0 g, ?_⟩
          have k2 : OKr C rt Wx lm ms B' F' H' D (match exL C.cf C.cs body Sg' with
            | .nx σ' => whW (fun s => ev C.cf C.cs c s) (fun s => exL C.cf C.cs body s) m σ'
            | .bk σ' => .nx σ'
            | r => r) := k'
          have s3 : Step B' F' H' B' F' H2 := Step.grow g
          cases eb : exL C.cf C.cs body Sg' with
          | nx Sg3 =>
            rw [eb] at k2
            rcases hb with hb | rfl
            · exact absurd eb (hb _ _)
            · exact fun B4 F4 σ4 H4 r4 s4 => ⟨B4, F4, Sg3, r4, OKr.back (s3.trans s4) k2⟩
          | bk Sg3 =>
            rw [eb] at k2
            exact fun B4 F4 σ4 H4 r4 s4 => k2 B4 F4 σ4 H4 r4 (s3.trans s4)
          | rt w' => rw [eb] at k2; exact fun v H4 p => k2 v H4 (p.back s3)
          | ex c => rw [eb] at k2; exact fun σ4 H4 p => k2 σ4 H4 (p.back s3)
          | bad => rw [eb] at k2; exact k2
      | _ => exact k'.elim
end
end Mx
/-! # Mx13: statements: the checker, its soundness -/
namespace Mx
open PySem L2 PyProof.Rows
structure CkS extends Ck where
  ge : List (Str × Nat)
def isCmp : Expr → Bool
  | .ListComp .. | .SetComp .. | .DictComp .. => true
  | _ => false
/-- name = comprehension: stored within the comprehension's frame -/
def swB (c : Ck) (x : Str) (px pos : Pos) (scope : Scope) : Bool := kindIs c x .local && (px.line == pos.line) && !(scope.names.any fun (n, k) => n == x && (k == .local || k == .cell))
def swNames (sc : Scope) (ts : List Expr) : List Str := ts.filterMap fun
    | .Name id pos => if sc.names.lookup id == some .local && pos.line == (ts.head?.map (·.pos.line)).getD 0 then some id else none
    | _ => none
/-- a, b = x, y: none: not covered; some true: stored from the right -/
def swKind (sc : Scope) (ts vs : List Expr) : Option Bool :=
  if !(ts.length == 2 || ts.length == 3) || vs.length != ts.length then some false
  else if vs.any (fun | .Starred .. => true | _ => false) then some false
  else if (swNames sc ts).length != ts.length || (swNames sc ts).eraseDups.length != (swNames sc ts).length then some false
  else if vs.all (foldedForSure 8) then some false
  else if vs.all (constantsAlone 8) then none
  else some true
theorem sw_some {ts vs : List Expr} {k k2 : Nat} {p p2 : Pos} {env : Env} {b : Bool} (hk : env.scope.kind = .function) (h : swKind env.scope ts vs = some b) : swappedStores [.Tuple ts k p] (.Tuple vs k2 p2) env = pure (if b then some (swNames env.scope ts) else none) := by
  have hb : env.blockKind = .function := by unfold Env.blockKind; rw [hk]; rfl
  have hkd : ∀ x, env.kindOf x = env.scope.names.lookup x := fun x => rfl
  unfold swKind at h
  unfold swappedStores
  simp only [hb]
  split at h
  · rename_i c1
    cases h
    simp only [bne_self_eq_false, Bool.or_false, c1, if_true]
    rfl
  · rename_i c1
    simp only [bne_self_eq_false, Bool.or_false, c1]
    split at h
    · rename_i c2
      cases h
      exact if_pos c2
    · rename_i c2
      refine (if_neg c2).trans ?_
      split at h
      · rename_i c3
        cases h
        exact if_pos c3
      · rename_i c3
        refine (if_neg c3).trans ?_
        split at h
        · rename_i c4
          cases h
          exact if_pos c4
        · rename_i c4
          refine (if_neg c4).trans ?_
          split at h
          · cases h
          · rename_i c5
            cases h
            exact if_neg c5
def nmsB (c : Ck) (ts : List Expr) (is : List Nat) : Bool := match ts, is with
  | [.Name x _, .Name y _], [i, j] => decide (c.N[i]? = some x) && decide (c.N[j]? = some y) && kindIs c x .local && kindIs c y .local && decide (i ≠ j) && decide (swNames c.sc ts = [x, y])
  | [.Name x _, .Name y _, .Name z _], [i, j, l] => decide (c.N[i]? = some x) && decide (c.N[j]? = some y) && decide (c.N[l]? = some z) && kindIs c x .local && kindIs c y .local && kindIs c z .local && decide (i ≠ j) && decide (i ≠ l) && decide (j ≠ l) && decide (swNames c.sc ts = [x, y, z])
  | _, _ => false
/-- a target x[a], x[a][b] -/
def chkT (n : Nat) (c : Ck) : Expr → (Nat × E × Option E) → Bool
  | .Subscript (.Name x _) a _, (i, ia, none) => decide (c.N[i]? = some x) && visB c x && !isSlice a && chkE n c a ia
  | .Subscript (.Subscript (.Name x _) a _) b _, (i, ia, some ib) => decide (c.N[i]? = some x) && visB c x && !isSlice a && chkE n c a ia && !isSlice b && chkE n c b ib
  | _, _ => false
def chkTs (n : Nat) (c : Ck) : List Expr → List (Nat × E × Option E) → Bool
  | [], [] => true
  | e :: es, t :: ts => chkT n c e t && chkTs n c es ts
  | _, _ => false
mutual
def chkS : Nat → CkS → Stmt → S → Bool
  | 0, _, _, _ => false
  | n + 1, c, _, .nev => true
  | n + 1, c, .Assign [.Name x px] e pos, .asg i m ie => decide (c.N[i]? = some x) && stoB c.toCk x && chkE n c.toCk e ie && (match e with
    | .ListComp elt [⟨tg, iter, ifs, 0⟩] scope p2 => (match ie with
      | .comp .. => if swB c.toCk x px p2 scope then true else (kindIs c.toCk x .cell || scope.names.any fun (n, k) => n == x && (k == .local || k == .cell))
      | _ => false)
    | e => !isCmp e)
  | n + 1, c, .Expr (.Call (.Attribute (.Name x _) nm apos) [a] [] cpos) _, .app i ia wp => decide (nm = "append") && decide (c.N[i]? = some x) && visB c.toCk x && !isStar a && chkE n c.toCk a ia && (apos.endLine == cpos.line)
  | n + 1, c, .Expr (.Call (.Attribute (.Subscript (.Name x _) b _) nm apos) [a] [] cpos) _, .appK i ib ia wp => decide (nm = "append") && decide (c.N[i]? = some x) && visB c.toCk x && !isStar a && chkE n c.toCk a ia && (apos.endLine == cpos.line) && !isSlice b && chkE n c.toCk b ib
  | n + 1, c, .Expr e _, .exp ie => !isCmp e && chkE n c.toCk e ie
  | n + 1, c, .Expr (.Constant (.str _) _ _) _, .pas => true
  | n + 1, c, .Pass _, .pas => true
  | n + 1, c, .Break _, .brk => true
  | n + 1, c, .If t a b _, .ifs it ia ib => chkE n c.toCk t it && !isIfE t && chkSs n c a ia && chkSs n c b ib
  | n + 1, c, .For tg iter body [] _, .forS itg iit ib => chkIt n c.toCk tg iter iit && tgChk c.toCk tg itg && !isSet iter && chkSs n c body ib
  | n + 1, c, .While t body [] _, .whl _ it ib => chkE n c.toCk t it && !isIfE t && chkSs n c body ib
  | n + 1, c, .Return (some e) _, .ret ie => chkE n c.toCk e ie
  | n + 1, c, .Return (some (.Name x _)) _, .retV i => decide (c.N[i]? = some x) && visB c.toCk x
  | n + 1, c, .Assign [.Tuple ts _ _] (.Tuple vs _ _) _, .asgT is es => chkEs n c.toCk vs es && decide (vs.length ≤ 1000) && decide (ts.length = is.length) && (match swKind c.sc ts vs with
    | some true => nmsB c.toCk ts is
    | some false => tgChk c.toCk (.Tuple ts 0 ⟨0, 0, 0, 0⟩) (.tp is)
    | none => false)
  | n + 1, c, .Assign [.Tuple ts _ _] e _, .unp is ie => !isTupE e && !isCmp e && chkE n c.toCk e ie && tgChk c.toCk (.Tuple ts 0 ⟨0, 0, 0, 0⟩) (.tp is)
  | n + 1, c, .Assign [.Subscript o i p] e _, .setT [t] [ie] _ => !isCmp e && chkE n c.toCk e ie && chkT n c.toCk (.Subscript o i p) t
  | n + 1, c, .Assign [.Tuple ts _ _] (.Tuple vs _ _) _, .setT tts es _ => chkEs n c.toCk vs es && decide (vs.length ≤ 1000) && chkTs n c.toCk ts tts && decide (vs.length = ts.length) && decide (swKind c.sc ts vs = some false)
  | n + 1, c, .Raise (some (.Call (.Name x _) [.Constant (.str _) _ _] [] _)) none _, .rai k => decide ((x, k) ∈ c.ge) && glbB c.toCk x
  | _, _, _, _ => false
def chkSs : Nat → CkS → List Stmt → List S → Bool
  | 0, _, _, _ => false
  | n + 1, c, sts, .frz _ :: is => chkSs n c sts is
  | n + 1, c, sts, .kil _ :: is => chkSs n c sts is
  | n + 1, c, [], [] => true
  | n + 1, c, st :: sts, i :: is => chkS n c st i && chkSs n c sts is
  | _, _, _, _ => false
end
structure FitS (X : Cx) (c : CkS) (C : Cc) (Wx : WX) (lv : Nat) : Prop where
  x : FitX X c.toCk C Wx lv
  kind : X.env.scope.kind = .function
  pass : PassesOwn (model X.prog X.w) X.A X.env X.xe
  excs : ∀ nm k, (nm, k) ∈ c.ge → glbB c.toCk nm = true → ∀ (m : Str) (j : Nat) (p p2 pos : Pos), PMk X (.Call (.Name nm p) [.Constant (.str m) j p2] [] pos) (fun _ H Q => Q (.ref (C.P.cad k)) none H)
section
variable {X : Cx} {c : CkS} {C : Cc} {Wx : WX} {lv : Nat} {lm ms ms' : List Md} {rt : Md}
theorem setMsL_len : ∀ {is : List Nat} {mds ms : List Md}, (setMsL ms is mds).length = ms.length
  | [], _, _ => by unfold setMsL; rfl
  | _ :: _, [], _ => by unfold setMsL; rfl
  | i :: is, m :: mds, ms => by unfold setMsL; rw [setMsL_len, List.length_set]
mutual
theorem outS_len {rm : Nat → Md} : ∀ (s : S) (ms : List Md), (outS rm ms s).length = ms.length
  | .asg i m e, ms => by unfold outS; rw [List.length_set]
  | .ifs c a b, ms => by
    unfold outS
    split
    · exact outL_len b ms
    · exact outL_len a ms
  | .forS tg it b, ms => by unfold outS; rw [setMs_len]
  | .frz i, ms => by unfold outS; rw [List.length_set]
  | .kil i, ms => by unfold outS; rw [List.length_set]
  | .app .., ms => by unfold outS; rfl
  | .whl .., ms => by unfold outS; rfl
  | .ret .., ms => by unfold outS; rfl
  | .retV .., ms => by unfold outS; rfl
  | .exp .., ms => by unfold outS; rfl
  | .rai .., ms => by unfold outS; rfl
  | .nev, ms => by unfold outS; rfl
  | .pas, ms => by unfold outS; rfl
  | .brk, ms => by unfold outS; rfl
  | .setT .., ms => by unfold outS; rfl
  | .appK .., ms => by unfold outS; rw [List.length_set]
  | .unp is e, ms => by unfold outS; rw [setMs_len]
  | .asgT is es, ms => by unfold outS; rw [setMsL_len]
theorem outL_len {rm : Nat → Md} : ∀ (ss : List S) (ms : List Md), (outL rm ms ss).length = ms.length
  | [], ms => by unfold outL; rfl
  | s :: ss, ms => by unfold outL; rw [outL_len ss, outS_len s]
end
theorem sw_none {e : Expr} {t : Option Expr} {l : Nat} {env : Env} (h : isCmp e = false) : swapsWith e t l env = pure false := by
  cases e <;> first | rfl | cases h
theorem sw_sole {e t : Expr} {l : Nat} {env : Env} (h : isCmp e = false) : swapsWithSole [t] e l env = pure false := by
  unfold swapsWithSole
  exact sw_none h
theorem sw_false {elt : Expr} {gs : List Comprehension} {scope : Scope} {pos py : Pos} {y : Str} {l : Nat} {env : Env} (h : env.scope.names.lookup y = some .cell ∨ (scope.names.any fun (n, k) => n == y && (k == .local || k == .cell)) = true) : swapsWith (.ListComp elt gs scope pos) (some (.Name y py)) l env = pure false := by
  unfold swapsWith
  rcases h with h | h
  · have ky : env.kindOf y = some .cell := h
    simp only [ky]
    have : (some NameKind.cell == some NameKind.local) = false := by decide
    rw [this]
    simp
  · simp only [h]
    simp
/-- name = [..] -/
theorem asgLc {n : Nat} {i : Nat} {y : Str} {py pos spos : Pos} {elt tg iter : Expr} {ifs : List Expr} {scope : Scope} {ielt : E} {itg : Tg} {iit : It} {icond : Option E} {vs : List Nat} (f : FitS X c C Wx lv) (hm : ms.length = c.N.length)
    (hy : c.N[i]? = some y) (hsw : swB c.toCk y py pos scope = true)
    (h : (match tgOwn c.toCk tg itg with
    | some own => decide (own.map (·.2) = vs) && blkC c.N c.sc scope own && chkIt n c.toCk tg iter iit && tgChk (c.blk scope) tg itg && chkE n (c.blk scope) elt ielt && chkO n (c.blk scope) ifs icond && !isSet iter
    | none => false) = true) (ok : okE C.rm ms (.comp ielt itg iit icond vs) = true) : PS X (.Assign [.Name y py] (.ListComp elt [⟨tg, iter, ifs, 0⟩] scope pos) spos) (tAsg (SpE C ms Wx (.comp ielt itg iit icond vs)) (gName i)) := by
  cases eo : tgOwn c.toCk tg itg with
  | none => rw [eo] at h; cases h
  | some own =>
    rw [eo] at h
    simp only [Bool.and_eq_true, Bool.not_eq_true', decide_eq_true_eq] at h
    obtain ⟨⟨⟨⟨⟨⟨h1, h2⟩, h3⟩, h4⟩, h5⟩, h6⟩, h7⟩ := h
    have ok' := ok
    unfold okE at ok'
    simp only [Bool.and_eq_true, decide_eq_true_eq, Bool.not_eq_true'] at ok'
    obtain ⟨⟨⟨⟨⟨ok1, ok2⟩, ok3⟩, ok4⟩, ok5⟩, ok6⟩ := ok'
    unfold swB at hsw
    simp only [Bool.and_eq_true, Bool.not_eq_true'] at hsw
    obtain ⟨⟨s1, s2⟩, s3⟩ := hsw
    have hyl := f.x.kind s1
    have B := blkOk_by h2
    have hN : X.N = c.N := f.x.N
    have hms : ∀ i ∈ vs, i < ms.length := fun i hi => by
      rw [← h1] at hi
      obtain ⟨q, hq, rfl⟩ := List.mem_map.mp hi
      rw [hm]
      exact (List.getElem?_eq_some_iff.mp (B.ix q hq)).1
    have hm2 : (setMs ms itg.ix (itM C.rm ms iit)).length = (c.blk scope).N.length := by rw [setMs_len]; exact hm
    have pI := sndI_of (n := n) (fun m _ => sndE m) X c.toCk C Wx lv ms tg iter iit f.x hm h3 ok1
    refine PS.mono (ps_setLc (own := own) (i := i) (tt := SpO C (setMs ms itg.ix (itM C.rm ms iit)) icond) f.x.calm f.x.nd (by rw [hN]; exact hy) hyl (sw_true f.kind hyl s2 s3) pI (by rw [hN, f.x.sc]; exact B) (fun s H C0 cl fp => pg_tgX (f.x.blk s H scope cl C0 fp) h4) (fun s H C0 cl fp => ?_) (fun s H C0 cl fp => (sndE n _ _ C _ lv _ _ _ (f.x.blk s H scope cl C0 fp) hm2 h5 ok3).1) (noset h7)) fun D σ H q => ?_
    · cases n with
      | zero => unfold chkO at h6; cases h6
      | succ n =>
        unfold chkO at h6
        split at h6
        · cases h6
        · exact pts_nil
        · rename_i n' e i' hn
          cases hn
          simp only [Bool.and_eq_true, Bool.not_eq_true'] at h6
          unfold okO at ok4
          exact pts_one ((sndE n _ _ C _ lv _ _ _ (f.x.blk s H scope cl C0 fp) hm2 h6.1 ok4).2 h6.2)
        · cases h6
    · rw [h1]
      exact sp_comp hms ok q
theorem pg_tgT (f : FitX X c.toCk C Wx lv) {es : List Expr} {k : Nat} {q : Pos} {is : List Nat} (h : tgChk c.toCk (.Tuple es 0 ⟨0, 0, 0, 0⟩) (.tp is) = true) : PG X (.Tuple es k q) (gT C (.tp is)) := pg_tgX f (tg := .Tuple es k q) (itg := .tp is) h
theorem chkT_star {n : Nat} {e : Expr} {t : Nat × E × Option E} (h : chkT n c.toCk e t = true) : isStar e = false := by
  unfold chkT at h
  split at h
  · rfl
  · rfl
  · cases h
theorem asg_sub {o i : Expr} {p : Pos} {env : Env} (hs : isSlice i = false) : ∀ v, assign (.Subscript o i p) env v = (do
      let ov ← holding [v] (eval o env)
      let iv ← holding [v, ov] (eval i env)
      standAt p
      holding [v, ov, iv] (setItem ov iv v)
      release [v, ov, iv] []) := by
  intro v
  cases i <;> first | rfl | cases hs
theorem pg_T {n : Nat} (f : FitX X c.toCk C Wx lv) (hm : ms.length = c.N.length) {e : Expr} {t : Nat × E × Option E} {m : Md} (h : chkT n c.toCk e t = true) (ok : tOk C.rm ms t m = true) : PG X e (gSt C ms Wx t) := by
  unfold chkT at h
  split at h
  · rename_i x p0 a p1 i ia
    simp only [Bool.and_eq_true, decide_eq_true_eq, Bool.not_eq_true'] at h
    obtain ⟨⟨⟨h1, h2⟩, h3⟩, h4⟩ := h
    obtain ⟨v1, v2, v3⟩ := f.vis h2
    unfold tOk at ok
    simp only [Bool.and_eq_true, decide_eq_true_eq] at ok
    have po : PE X (.Name x p0) (tVar i) := pe_var (by rw [f.N]; exact h1) v1 v2 v3
    exact pg_sub po (sndE n X _ C Wx lv ms a ia f hm h4 ok.1.2).1 set_list (asg_sub h3)
  · rename_i x p0 a p1 b p2 i ia ib
    simp only [Bool.and_eq_true, decide_eq_true_eq, Bool.not_eq_true'] at h
    obtain ⟨⟨⟨⟨⟨h1, h2⟩, h3⟩, h4⟩, h5⟩, h6⟩ := h
    obtain ⟨v1, v2, v3⟩ := f.vis h2
    unfold tOk at ok
    simp only [Bool.and_eq_true, decide_eq_true_eq] at ok
    have okb : okE C.rm ms ib = true := by
      have := ok.2
      split at this
      · simp only [Bool.and_eq_true, decide_eq_true_eq] at this
        exact this.2.1.1
      · cases this
    have po : PE X (.Name x p0) (tVar i) := pe_var (by rw [f.N]; exact h1) v1 v2 v3
    have pa := (sndE n X _ C Wx lv ms a ia f hm h4 ok.1.2).1
    have pi : PE X (.Subscript (.Name x p0) a p1) (tOp (rIxL C.K) (tVar i) (SpE C ms Wx ia)) := by
      rw [← f.K]
      exact pe_ix ix_list po pa (plainIx_ok h3)
    exact pg_sub pi (sndE n X _ C Wx lv ms b ib f hm h6 okb).1 set_list (asg_sub h5)
  · cases h
theorem pgs_T {n : Nat} (f : FitX X c.toCk C Wx lv) (hm : ms.length = c.N.length) : ∀ {es : List Expr} {ts : List (Nat × E × Option E)} {mds : List Md}, chkTs n c.toCk es ts = true → tsOk C.rm ms ts mds = true → PGs X es (gSts C ms Wx ts) ∧ (∀ e ∈ es, isStar e = false) ∧ es.length = ts.length
  | [], [], mds, h, ok => ⟨pgs_nil, fun _ h => (nomatch h), rfl⟩
  | e :: es, [], mds, h, ok => by unfold chkTs at h; cases h
  | [], t :: ts, mds, h, ok => by unfold chkTs at h; cases h
  | e :: es, t :: ts, mds, h, ok => by
    cases mds with
    | nil => unfold tsOk at ok; cases ok
    | cons m mds =>
      unfold chkTs at h
      unfold tsOk at ok
      simp only [Bool.and_eq_true] at h ok
      obtain ⟨p1, p2, p3⟩ := pgs_T f hm h.2 ok.2
      have hs := chkT_star h.1
      refine ⟨pgs_cons (pg_T f hm h.1 ok.1) p1 ?_, fun x hx => ?_, by rw [List.length_cons, List.length_cons, p3]⟩
      · cases e <;> first | rfl | cases hs
      · rcases List.mem_cons.mp hx with rfl | hx
        · exact hs
        · exact p2 x hx
def SndS (n : Nat) : Prop := ∀ (X : Cx) (c : CkS) (C : Cc) (Wx : WX) (lv : Nat) (rt : Md) (lm ms : List Md) (st : Stmt) (s : S), FitS X c C Wx lv → ms.length = c.N.length → chkS n c st s = true → okS C.rm rt lm ms s = true → PS X st (SpS C rt Wx lm ms (outS C.rm ms s) s)
def SndL (n : Nat) : Prop := ∀ (X : Cx) (c : CkS) (C : Cc) (Wx : WX) (lv : Nat) (rt : Md) (lm ms : List Md) (st : List Stmt) (s : List S), FitS X c C Wx lv → ms.length = c.N.length → chkSs n c st s = true → okL C.rm rt lm ms s = true → PSs X st (SpL C rt Wx lm ms (outL C.rm ms s) s)
theorem sndL_of {n : Nat} (ih : ∀ m < n, SndS m ∧ SndL m) : SndL n := by
  intro X c C Wx lv rt lm ms st s f hm h ok
  cases n with
  | zero => unfold chkSs at h; cases h
  | succ n =>
    obtain ⟨ihS, ihL⟩ := ih n (Nat.lt_succ_self n)
    unfold chkSs at h
    split at h
    · cases h
    · rename_i n' i is hn
      cases hn
      unfold okL okS at ok
      simp only [Bool.and_eq_true, decide_eq_true_eq] at ok
      refine PSs.mono (ihL X _ C Wx lv rt lm _ _ is f (by rw [outS_len]; exact hm) h ok.2) fun D σ H q => ?_
      have := st_cons (ms1 := outS C.rm ms (.frz i)) q
      unfold outS at this
      exact st_frz ok.1.2 ok.1.1 this
    · rename_i n' i is hn
      cases hn
      unfold okL okS at ok
      simp only [Bool.and_eq_true, decide_eq_true_eq] at ok
      refine PSs.mono (ihL X _ C Wx lv rt lm _ _ is f (by rw [outS_len]; exact hm) h ok.2) fun D σ H q => ?_
      have := st_cons (ms1 := outS C.rm ms (.kil i)) q
      unfold outS at this
      exact st_kil this
    · exact PSs.mono pss_nil fun D σ H q => by unfold outL at q; exact st_nil q
    · rename_i n' st sts i is h1 h2 hn
      cases hn
      simp only [Bool.and_eq_true] at h
      unfold okL at ok
      simp only [Bool.and_eq_true] at ok
      refine PSs.mono (pss_cons (ihS X _ C Wx lv rt lm ms st i f hm h.1 ok.1) (ihL X _ C Wx lv rt lm _ sts is f (by rw [outS_len]; exact hm) h.2 ok.2)) fun D σ H q => ?_
      unfold outL at q
      exact st_cons q
    · cases h
theorem dead_or {a : List S} {msa ms2 : List Md} (h : deadL a = true ∨ msa = ms2) : (∀ Sg Sg', exL C.cf C.cs a Sg ≠ .nx Sg') ∨ msa = ms2 := h.imp (fun h _ _ => deadL_nx h) id
theorem sndS_of {n : Nat} (ih : ∀ m < n, SndS m ∧ SndL m) : SndS n := by
  intro X c C Wx lv rt lm ms st s f hm h ok
  cases n with
  | zero => unfold chkS at h; cases h
  | succ n =>
    obtain ⟨ihS, ihL⟩ := ih n (Nat.lt_succ_self n)
    unfold chkS at h
    split at h
    · cases h
    · exact PS.mono ps_never fun D σ H q => st_nev q
    · -- name = value
      rename_i n' x px e pos i m ie hn
      cases hn
      simp only [Bool.and_eq_true, decide_eq_true_eq] at h
      obtain ⟨⟨⟨h1, h2⟩, h3⟩, h4⟩ := h
      unfold okS at ok
      simp only [Bool.and_eq_true, decide_eq_true_eq] at ok
      obtain ⟨⟨ok1, ok2⟩, ok3⟩ := ok
      obtain ⟨l1, l2⟩ := f.x.sto h2
      have pe := (sndE n X _ C Wx lv ms e ie f.x hm h3 ok1).1
      have fin : PS X (.Assign [.Name x px] e pos) (tAsg (SpE C ms Wx ie) (gName i)) → PS X (.Assign [.Name x px] e pos) (SpS C rt Wx lm ms (outS C.rm ms (.asg i m ie)) (.asg i m ie)) := fun p => PS.mono p fun D σ H q => by
        unfold outS at q
        exact st_asg ok3 ok2 q
      have plain : swapsWith e (some (.Name x px)) pos.line X.env = pure false → PS X (.Assign [.Name x px] e pos) (SpS C rt Wx lm ms (outS C.rm ms (.asg i m ie)) (.asg i m ie)) := fun hs => fin (ps_set f.x.nd (by rw [f.x.N]; exact h1) l1 pe hs l2)
      split at h4
      · split at h4
        · split at h4
          · rename_i hsw
            cases n with
            | zero => unfold chkE at h3; cases h3
            | succ n =>
              unfold chkE at h3
              exact fin (asgLc (n := n) f hm h1 hsw h3 ok1)
          · simp only [Bool.or_eq_true] at h4
            exact plain (sw_false (h4.imp (fun q => f.x.kind q) id))
        · cases h4
      · simp only [Bool.not_eq_true'] at h4
        exact plain (sw_none h4)
    · -- append
      rename_i n' x p0 nm apos a cpos p1 i ia wp hn
      cases hn
      simp only [Bool.and_eq_true, decide_eq_true_eq, Bool.not_eq_true'] at h
      obtain ⟨⟨⟨⟨⟨rfl, h2⟩, h3⟩, h4⟩, h5⟩, h6⟩ := h
      unfold okS at ok
      simp only [Bool.and_eq_true, decide_eq_true_eq] at ok
      obtain ⟨⟨⟨ok1, ok2⟩, ok3⟩, ok4⟩ := ok
      obtain ⟨v1, v2, v3⟩ := f.x.vis h3
      have pa := (sndE n X _ C Wx lv ms a ia f.x hm h5 ok1).1
      have po : PE X (.Name x p0) (tVar i) := pe_var (by rw [f.x.N]; exact h2) v1 v2 v3
      have PAa : PA X [a] (SpA C ms Wx [ia]) := PA.mono (pa_cons pa pa_nil (star1 h4)) fun σ H Q q => SpA_one q
      refine PS.mono (ps_expr (pe_bm PySem.F.plainAttrs_list PySem.F.slot_list_append PySem.F.type_list_append mt_append po PAa rfl (by rw [star1 h4]; rfl) h6 (star1 h4) rfl) rfl) fun D σ H q => ?_
      have := st_app ok4 ok2 ok3 (by unfold outS at q; exact q)
      rw [f.x.K]
      exact this
    · -- append, within
      rename_i n' x p0 b p3 nm apos a cpos p1 i ib ia wp hn
      cases hn
      simp only [Bool.and_eq_true, decide_eq_true_eq, Bool.not_eq_true'] at h
      obtain ⟨⟨⟨⟨⟨⟨⟨rfl, h2⟩, h3⟩, h4⟩, h5⟩, h6⟩, h7⟩, h8⟩ := h
      unfold okS at ok
      simp only [Bool.and_eq_true, decide_eq_true_eq] at ok
      obtain ⟨⟨⟨⟨ok1, ok2⟩, ok3⟩, ok4⟩, ok5⟩ := ok
      obtain ⟨v1, v2, v3⟩ := f.x.vis h3
      have pa := (sndE n X _ C Wx lv ms a ia f.x hm h5 ok2).1
      have pb := (sndE n X _ C Wx lv ms b ib f.x hm h8 ok1).1
      have po : PE X (.Name x p0) (tVar i) := pe_var (by rw [f.x.N]; exact h2) v1 v2 v3
      have pi : PE X (.Subscript (.Name x p0) b p3) (tOp (rIxL C.K) (tVar i) (SpE C ms Wx ib)) := by
        rw [← f.x.K]
        exact pe_ix ix_list po pb (plainIx_ok h7)
      have PAa : PA X [a] (SpA C ms Wx [ia]) := PA.mono (pa_cons pa pa_nil (star1 h4)) fun σ H Q q => SpA_one q
      refine PS.mono (ps_expr (pe_bm PySem.F.plainAttrs_list PySem.F.slot_list_append PySem.F.type_list_append mt_append pi PAa rfl (by rw [star1 h4]; rfl) h6 (star1 h4) rfl) rfl) fun D σ H q => ?_
      have := st_appK ok5 ok3 ok4 (by unfold outS at q; exact q)
      rw [f.x.K]
      exact this
    · -- a value dropped
      rename_i n' e pos ie hn
      cases hn
      simp only [Bool.and_eq_true, Bool.not_eq_true'] at h
      unfold okS at ok
      have pe := (sndE n X _ C Wx lv ms e ie f.x hm h.2 ok).1
      exact PS.mono (ps_expr pe (sw_none h.1)) fun D σ H q => st_exp (by unfold outS at q; exact q)
    · exact PS.mono ps_doc fun D σ H q => st_pas (by unfold outS at q; exact q)
    · exact PS.mono ps_pass fun D σ H q => st_pas (by unfold outS at q; exact q)
    · refine PS.mono ps_break fun D σ H q => ?_
      unfold okS at ok
      simp only [decide_eq_true_eq] at ok
      subst ok
      exact st_brk q
    · -- if
      rename_i n' t a b pos it ia ib hn
      cases hn
      simp only [Bool.and_eq_true, Bool.not_eq_true'] at h
      obtain ⟨⟨⟨h1, h2⟩, h3⟩, h4⟩ := h
      unfold okS at ok
      simp only [Bool.and_eq_true, Bool.or_eq_true, decide_eq_true_eq] at ok
      obtain ⟨⟨⟨ok1, ok2⟩, ok3⟩, ok4⟩ := ok
      have pt := (sndE n X _ C Wx lv ms t it f.x hm h1 ok1).2 h2
      refine PS.mono (ps_if pt (ihL X _ C Wx lv rt lm ms a ia f hm h3 ok2) (ihL X _ C Wx lv rt lm ms b ib f hm h4 ok3)) fun D σ H q => ?_
      unfold outS at q
      by_cases hd : deadL ia = true
      · rw [if_pos hd] at q
        exact st_if (Or.inl fun _ _ => deadL_nx hd) (Or.inr rfl) q
      · rw [if_neg hd] at q
        refine st_if (Or.inr rfl) (dead_or ?_) q
        rcases ok4 with (ok4 | ok4) | ok4
        · exact absurd ok4 hd
        · exact Or.inl ok4
        · exact Or.inr ok4.symm
    · -- for
      rename_i n' tg iter body pos itg iit ib hn
      cases hn
      simp only [Bool.and_eq_true, Bool.not_eq_true'] at h
      obtain ⟨⟨⟨h1, h2⟩, h3⟩, h4⟩ := h
      unfold okS at ok
      simp only [Bool.and_eq_true, Bool.or_eq_true, decide_eq_true_eq, List.all_eq_true] at ok
      obtain ⟨⟨⟨⟨ok1, ok2⟩, ok3⟩, ok4⟩, ok5⟩ := ok
      have pI := sndI_of (n := n) (fun m _ => sndE m) X _ C Wx lv ms tg iter iit f.x hm h1 ok1
      refine PS.mono (ps_for f.pass f.x.calm pI (pg_tgX f.x h2) (ihL X _ C Wx lv rt _ _ body ib f (by rw [setMs_len]; exact hm) h4 ok4) (noset h3)) fun D σ H q => ?_
      unfold outS at q
      exact st_for ok2 (fun i hi => ok3 i hi) (dead_or ok5) q
    · -- while
      rename_i n' t body pos m it ib hn
      cases hn
      simp only [Bool.and_eq_true, Bool.not_eq_true'] at h
      obtain ⟨⟨h1, h2⟩, h3⟩ := h
      unfold okS at ok
      simp only [Bool.and_eq_true, Bool.or_eq_true, decide_eq_true_eq] at ok
      obtain ⟨⟨ok1, ok2⟩, ok3⟩ := ok
      have pt := (sndE n X _ C Wx lv ms t it f.x hm h1 ok1).2 h2
      refine PS.mono (ps_while f.pass pt (ihL X _ C Wx lv rt _ _ body ib f hm h3 ok2)) fun D σ H q => ?_
      unfold outS at q
      exact st_while (dead_or ok3) q
    · -- return
      rename_i n' e pos ie hn
      cases hn
      unfold okS at ok
      simp only [Bool.and_eq_true] at ok
      have pe := (sndE n X _ C Wx lv ms e ie f.x hm h ok.1).1
      exact PS.mono (ps_ret pe) fun D σ H q => st_ret ok.2 q
    · rename_i n' x p0 pos i hn
      cases hn
      simp only [Bool.and_eq_true, decide_eq_true_eq] at h
      unfold okS at ok
      simp only [Bool.and_eq_true] at ok
      obtain ⟨v1, v2, v3⟩ := f.x.vis h.2
      have po : PE X (.Name x p0) (tVar i) := pe_var (by rw [f.x.N]; exact h.1) v1 v2 v3
      exact PS.mono (ps_ret po) fun D σ H q => st_retV ok.1 ok.2 q
    · -- several names
      rename_i n' ts k p vs k2 p2 pos is es hn
      cases hn
      simp only [Bool.and_eq_true, decide_eq_true_eq] at h
      obtain ⟨⟨⟨h1, h2⟩, h2'⟩, h3⟩ := h
      unfold okS at ok
      simp only [Bool.and_eq_true, decide_eq_true_eq, List.all_eq_true] at ok
      obtain ⟨⟨⟨ok1, ok2⟩, ok3⟩, ok4⟩ := ok
      have hsc : X.env.scope = _ := f.x.sc
      have pa := snd_args (n := n) (fun m _ => sndE m) f.x hm h1 ok1
      rw [← hsc] at h3
      cases ek : swKind X.env.scope ts vs with
      | none => rw [ek] at h3; cases h3
      | some b =>
        rw [ek] at h3
        cases b with
        | false =>
          have hl : is.length ≤ 1000 := by rw [ok4, ← chkEs_len h1]; exact h2
          refine PS.mono (ps_asg (pe_tup pa) (pg_tgT f.x h3) rfl ((sw_some f.kind ek).trans rfl)) fun D σ H q => ?_
          unfold outS at q
          exact st_asgT (fun i hi => ok3 i hi) hl q
        | true =>
          have h3 : nmsB _ ts is = true := h3
          have hw := sw_some (k := k) (p := p) (k2 := k2) (p2 := p2) f.kind ek
          unfold nmsB at h3
          split at h3
          · rename_i x px y py i j
            simp only [Bool.and_eq_true, decide_eq_true_eq] at h3
            obtain ⟨⟨⟨⟨⟨g1, g2⟩, g3⟩, g4⟩, g5⟩, g6⟩ := h3
            rw [← hsc] at g6
            rw [if_pos rfl, g6] at hw
            have hvl : vs.length = 2 := by rw [chkEs_len h1, ← ok4]; rfl
            match vs, hvl with
            | [a, b], _ =>
              refine PS.mono (ps_par f.x.calm f.x.nd (by rw [f.x.N]; exact g1) (by rw [f.x.N]; exact g2) g5 (f.x.kind g3) (f.x.kind g4) pa hw rfl) fun D σ H q => ?_
              unfold outS at q
              exact st_par (fun i hi => ok3 i hi) q
          · rename_i x px y py z pz i j l
            simp only [Bool.and_eq_true, decide_eq_true_eq] at h3
            obtain ⟨⟨⟨⟨⟨⟨⟨⟨⟨g1, g2⟩, g3⟩, g4⟩, g5⟩, g6⟩, g7⟩, g8⟩, g9⟩, g10⟩ := h3
            rw [← hsc] at g10
            rw [if_pos rfl, g10] at hw
            have hvl : vs.length = 3 := by rw [chkEs_len h1, ← ok4]; rfl
            match vs, hvl with
            | [a, b, d], _ =>
              refine PS.mono (ps_par3 f.x.calm f.x.nd (by rw [f.x.N]; exact g1) (by rw [f.x.N]; exact g2) (by rw [f.x.N]; exact g3) g7 g8 g9 (f.x.kind g4) (f.x.kind g5) (f.x.kind g6) pa hw rfl) fun D σ H q => ?_
              unfold outS at q
              exact st_par3 (fun i hi => ok3 i hi) q
          · cases h3
    · -- a tuple's items
      rename_i n' ts k p e pos is ie hn
      cases hn
      simp only [Bool.and_eq_true, Bool.not_eq_true'] at h
      obtain ⟨⟨⟨h1, h2⟩, h3⟩, h4⟩ := h
      unfold okS at ok
      simp only [Bool.and_eq_true, decide_eq_true_eq, List.all_eq_true] at ok
      have pe := (sndE n X _ C Wx lv ms e ie f.x hm h3 ok.1).1
      refine PS.mono (ps_asg pe (pg_tgT f.x h4) (sw_sole h2) (by cases e <;> first | rfl | cases h1)) fun D σ H q => ?_
      unfold outS at q
      exact st_unp (fun i hi => ok.2 i hi) q
    · -- x[a] = e
      rename_i n' o i p e pos t ie wp hn
      cases hn
      simp only [Bool.and_eq_true, Bool.not_eq_true'] at h
      obtain ⟨⟨h1, h2⟩, h3⟩ := h
      unfold okS at ok
      simp only [Bool.and_eq_true] at ok
      obtain ⟨⟨ok1, ok2⟩, ok3⟩ := ok
      have oke : okE C.rm ms ie = true := by unfold okEs at ok1; simp only [Bool.and_eq_true] at ok1; exact ok1.1
      have okt := ok3
      unfold mdEs mdEs tsOk at okt
      simp only [Bool.and_eq_true] at okt
      have pe := (sndE n X _ C Wx lv ms e ie f.x hm h2 oke).1
      refine PS.mono (ps_asg pe (pg_T f.x hm h3 okt.1) (sw_sole h1) (by cases e <;> rfl)) fun D σ H q => ?_
      unfold outS at q
      exact st_set1 ok2 ok3 q
    · -- several stores
      rename_i n' ts k p vs k2 p2 pos tts es wp hn
      cases hn
      simp only [Bool.and_eq_true, decide_eq_true_eq] at h
      obtain ⟨⟨⟨⟨h1, h2⟩, h3⟩, h4⟩, h5⟩ := h
      unfold okS at ok
      simp only [Bool.and_eq_true] at ok
      obtain ⟨⟨ok1, ok2⟩, ok3⟩ := ok
      have pa := snd_args (n := n) (fun m _ => sndE m) f.x hm h1 ok1
      obtain ⟨pg, hs, hl⟩ := pgs_T (n := n) f.x hm h3 ok3
      obtain ⟨a1, a2⟩ := assignEach_star (env := X.env) hs
      have hsc : X.env.scope = _ := f.x.sc
      rw [← hsc] at h5
      have pt : PG X (.Tuple ts k p) (gTup C.K tts.length (gSts C ms Wx tts)) := by
        rw [← f.x.K, ← hl]
        exact pg_tup f.x.calm pg a2 a1
      have hle := chkEs_len h1
      refine PS.mono (ps_asg (pe_tup pa) pt rfl ((sw_some f.kind h5).trans rfl)) fun D σ H q => ?_
      unfold outS at q
      exact st_setT (by rw [← hle, h4, hl]) (by rw [← hle]; exact h2) ok2 ok3 q
    · rename_i n' x p0 m j p2 p3 pos k hn
      cases hn
      simp only [Bool.and_eq_true, decide_eq_true_eq] at h
      refine PS.mono (ps_raise f.x.calm f.x.takes (f.excs x k h.1 h.2 _ _ _ _ _)) fun D σ H q => ?_
      obtain ⟨B, F, Sg, r, k'⟩ := q
      unfold exS at k'
      exact k' σ H (ExcP.of (Grow.refl H))
    · cases h
theorem sndAll : ∀ n, SndS n ∧ SndL n := by
  intro n
  induction n using Nat.strongRecOn with
  | _ n ih => exact ⟨sndS_of ih, sndL_of ih⟩
end
end Mx
/-! # Mx14: defs by a table; a law's end -/
namespace Mx
open PySem L2 PyProof.Rows
/-- a def; a class by its __init__ (which sets the one field f); a class without one -/
inductive Kd where
  | fn | ini (c : Nat) (f : Str) | ini0 (c : Nat)
structure Dd where
  name : Str
  st : Stmt
  ps : List Str
  N : List Str
  rt : Md
  ir : List S
  kd : Kd := .fn
structure Tb where
  ds : List Dd
  gc : List (Str × Int)
  ge : List Str
  /-- own classes with their fields (numbered from 50 on); what isinstance says -/
  cl : List (Str × List Str) := []
  gi : List (Str × Nat × Bool) := []
def Tb.cs (T : Tb) : List Int := T.gc.map (·.2)
def Dd.md (d : Dd) : Md := match d.kd with | .fn => d.rt | _ => .fr none
def Tb.rm (T : Tb) (f : Nat) : Md := match T.ds[f]? with | some d => d.md | none => .vw
def idxF : Nat → List Dd → List (Str × Nat × Nat)
  | _, [] => []
  | n, d :: ds => match d.kd with | .fn => (d.name, n, d.ps.length) :: idxF (n + 1) ds | _ => idxF (n + 1) ds
def idxK : Nat → List Dd → List (Str × Nat × Nat)
  | _, [] => []
  | n, d :: ds => match d.kd with | .ini _ _ => (d.name, n, d.ps.length - 1) :: idxK (n + 1) ds | _ => idxK (n + 1) ds
def idxZ : Nat → List Dd → List (Str × Nat)
  | _, [] => []
  | n, d :: ds => match d.kd with | .ini0 _ => (d.name, n) :: idxZ (n + 1) ds | _ => idxZ (n + 1) ds
/-- the fields, by name -/
def idxA : Nat → List (Str × List Str) → List (Str × Nat)
  | _, [] => []
  | n, c :: cs => match c.2 with | [f] => (f, n) :: idxA (n + 1) cs | _ => idxA (n + 1) cs
def idxN {α : Type} : Nat → List α → List (α × Nat)
  | _, [] => []
  | n, d :: ds => (d, n) :: idxN (n + 1) ds
def Tb.ck (T : Tb) (d : Dd) : CkS := { N := d.N, sc := defScope d.st, fnB := fun _ => true, gf := idxF 0 T.ds, gc := idxN 0 (T.gc.map (·.1)), ge := idxN 0 T.ge, gk := idxK 0 T.ds, gz := idxZ 0 T.ds, gi := T.gi, ga := idxA 50 T.cl }
def ms0 (d : Dd) : List Md := List.replicate d.N.length Md.cl
/-- self.f = e -/
def chkI (T : Tb) (d : Dd) (f : Str) : Bool := match defBody d.st, d.ir, d.N with
  | [.Assign [.Attribute (.Name x _) g _] e _], [.ret ie], n :: _ => decide (x = n) && decide (g = f) && visB (T.ck d).toCk x && chkE 200 (T.ck d).toCk e ie && okE T.rm (ms0 d) ie && mle (.fr none) (mdE T.rm (ms0 d) ie) && decide (0 < d.ps.length)
  | _, _, _ => false
def okD (T : Tb) (d : Dd) : Bool := match d.kd with
  | .fn => C8.scC d.N d.ps (defScope d.st) && chkSs 200 (T.ck d) (defBody d.st) d.ir && okL T.rm d.rt (ms0 d) (ms0 d) d.ir
  | .ini _ f => C8.scC d.N d.ps (defScope d.st) && chkI T d f
  | .ini0 _ => true
/-- the entry's slots -/
def startW (d : Dd) (ws : List W) : Sg := ws.map some ++ List.replicate (d.N.length - ws.length) none
def ofR : R → O
  | .nx _ => .val .non
  | .rt w => .val w
  | .ex c => .exc c
  | .bk _ => .bad
  | .bad => .bad
/-- an __init__'s slots: self is not looked at -/
def startI (d : Dd) (ws : List W) : Sg := none :: (ws.map some ++ List.replicate (d.N.length - 1 - ws.length) none)
def iniR (c : Nat) : R → O
  | .rt w => .val (.ins c [w])
  | _ => .bad
/-- what a call means, n levels deep -/
def callN (T : Tb) : Nat → Nat → List W → O
  | 0, _, _ => .bad
  | n + 1, f, ws => match T.ds[f]? with
    | none => .bad
    | some d => match d.kd with
      | .fn => if ws.length = d.ps.length then ofR (exL (callN T n) T.cs d.ir (startW d ws)) else .bad
      | .ini c _ => (match n with
        | 0 => .bad
        | m + 1 => if ws.length + 1 = d.ps.length then iniR c (exL (callN T m) T.cs d.ir (startI d ws)) else .bad)
      | .ini0 c => (match ws with
        | [] => .val (.ins c [])
        | _ => .bad)
def Tb.cc (T : Tb) (K : PySem.W.Frag) (P : Pl) (n : Nat) : Cc := { K := K, P := P, cf := callN T n, cs := T.cs, rm := T.rm }
/-- what the head tells -/
structure Hd (T : Tb) (K : PySem.W.Frag) (mg : Str → Option Value) (P : Pl) : Prop where
  defs : ∀ (id : Nat) (d : Dd), T.ds[id]? = some d → d.kd = .fn → mg d.name = some (.ref (P.fad id)) ∧ ∃ fd, FunD K d.name d.name (defArgs d.st) (defBody d.st) (defScope d.st) [] [] (P.fad id) fd ∧ Binds K fd d.ps []
  inis : ∀ (id : Nat) (d : Dd) (c : Nat) (f : Str), T.ds[id]? = some d → d.kd = .ini c f → mg d.name = some (.ref (P.fad id)) ∧ P.fad id = P.cad c ∧ P.fld c = [f] ∧ Cls K (P.cad c) ∧ NoAttr K (P.cad c) f ∧ ∃ g fd qn, Mk K (P.fad id) g ∧ FunD K "__init__" qn (defArgs d.st) (defBody d.st) (defScope d.st) [] [] g fd ∧ Binds K fd d.ps []
  zs : ∀ (id : Nat) (d : Dd) (c : Nat), T.ds[id]? = some d → d.kd = .ini0 c → mg d.name = some (.ref (P.fad id)) ∧ P.fad id = P.cad c ∧ P.fld c = [] ∧ MkZ K (P.fad id)
  isi : ∀ y d b, (y, d, b) ∈ T.gi → ∃ D, mg y = some (.ref D) ∧ InsT K (P.cad d) ∧ PySem.W.kitOne K (.ref (P.cad d)) (.ref D) = some b
  fds : ∀ f d, (f, d) ∈ idxA 50 T.cl → Cls K (P.cad d) ∧ NoAttr K (P.cad d) f ∧ P.fld d = [f]
  blts : ∀ x ∈ blNames, mg x = none
  csts : ∀ (k : Nat) (x : Str) (i : Int), T.gc[k]? = some (x, i) → ∃ t, mg x = some (.int i t)
  excs : ∀ (k : Nat) (x : Str), T.ge[k]? = some x → mg x = some (.ref (P.cad k)) ∧ PySem.W.excIn K (P.cad k) He.veBase "ValueError.__new__" = true ∧ PySem.W.keepIn K (.ref (P.cad k)) = true ∧ PySem.W.subIn K (.ref (P.cad k)) (.type "BaseException") = some true ∧ PySem.W.typeIn K (.ref (P.cad k)) = some (.type "type")
theorem idxF_mem : ∀ {ds : List Dd} {n : Nat} {nm : Str} {id ar : Nat}, (nm, id, ar) ∈ idxF n ds → ∃ d, n ≤ id ∧ ds[id - n]? = some d ∧ d.name = nm ∧ d.ps.length = ar ∧ d.kd = .fn
  | [], _, _, _, _, h => nomatch h
  | d :: ds, n, nm, id, ar, h => by
    have rc : (nm, id, ar) ∈ idxF (n + 1) ds → ∃ d', n ≤ id ∧ (d :: ds)[id - n]? = some d' ∧ d'.name = nm ∧ d'.ps.length = ar ∧ d'.kd = .fn := fun h => by
      obtain ⟨d', h1, h2, h3⟩ := idxF_mem h
      refine ⟨d', by omega, ?_, h3⟩
      have : id - n = (id - (n + 1)) + 1 := by omega
      rw [this, List.getElem?_cons_succ]
      exact h2
    unfold idxF at h
    cases e : d.kd with
    | fn =>
      rw [e] at h
      rcases List.mem_cons.mp h with q | h
      · cases q
        exact ⟨d, Nat.le_refl _, by simp, rfl, rfl, e⟩
      · exact rc h
    | ini c f => rw [e] at h; exact rc h
    | ini0 c => rw [e] at h; exact rc h
theorem idxK_mem : ∀ {ds : List Dd} {n : Nat} {nm : Str} {id ar : Nat}, (nm, id, ar) ∈ idxK n ds → ∃ d c f, n ≤ id ∧ ds[id - n]? = some d ∧ d.name = nm ∧ d.ps.length - 1 = ar ∧ d.kd = .ini c f
  | [], _, _, _, _, h => nomatch h
  | d :: ds, n, nm, id, ar, h => by
    have rc : (nm, id, ar) ∈ idxK (n + 1) ds → ∃ d' c f, n ≤ id ∧ (d :: ds)[id - n]? = some d' ∧ d'.name = nm ∧ d'.ps.length - 1 = ar ∧ d'.kd = .ini c f := fun h => by
      obtain ⟨d', c, f, h1, h2, h3⟩ := idxK_mem h
      refine ⟨d', c, f, by omega, ?_, h3⟩
      have : id - n = (id - (n + 1)) + 1 := by omega
      rw [this, List.getElem?_cons_succ]
      exact h2
    unfold idxK at h
    cases e : d.kd with
    | fn => rw [e] at h; exact rc h
    | ini c f =>
      rw [e] at h
      rcases List.mem_cons.mp h with q | h
      · cases q
        exact ⟨d, c, f, Nat.le_refl _, by simp, rfl, rfl, e⟩
      · exact rc h
    | ini0 c => rw [e] at h; exact rc h
theorem idxZ_mem : ∀ {ds : List Dd} {n : Nat} {nm : Str} {id : Nat}, (nm, id) ∈ idxZ n ds → ∃ d c, n ≤ id ∧ ds[id - n]? = some d ∧ d.name = nm ∧ d.kd = .ini0 c
  | [], _, _, _, h => nomatch h
  | d :: ds, n, nm, id, h => by
    have rc : (nm, id) ∈ idxZ (n + 1) ds → ∃ d' c, n ≤ id ∧ (d :: ds)[id - n]? = some d' ∧ d'.name = nm ∧ d'.kd = .ini0 c := fun h => by
      obtain ⟨d', c, h1, h2, h3⟩ := idxZ_mem h
      refine ⟨d', c, by omega, ?_, h3⟩
      have : id - n = (id - (n + 1)) + 1 := by omega
      rw [this, List.getElem?_cons_succ]
      exact h2
    unfold idxZ at h
    cases e : d.kd with
    | fn => rw [e] at h; exact rc h
    | ini c f => rw [e] at h; exact rc h
    | ini0 c =>
      rw [e] at h
      rcases List.mem_cons.mp h with q | h
      · cases q
        exact ⟨d, c, Nat.le_refl _, by simp, rfl, e⟩
      · exact rc h
theorem idxN_mem {α : Type} : ∀ {ds : List α} {n : Nat} {nm : α} {id : Nat}, (nm, id) ∈ idxN n ds → n ≤ id ∧ ds[id - n]? = some nm
  | [], _, _, _, h => nomatch h
  | d :: ds, n, nm, id, h => by
    rcases List.mem_cons.mp h with e | h
    · cases e
      exact ⟨Nat.le_refl _, by simp⟩
    · obtain ⟨h1, h2⟩ := idxN_mem h
      refine ⟨by omega, ?_⟩
      have : id - n = (id - (n + 1)) + 1 := by omega
      rw [this, List.getElem?_cons_succ]
      exact h2
section
variable {T : Tb} {K : PySem.W.Frag} {mg : Str → Option Value} {P : Pl} {Pg : Program} {w : World} {base : Heap}
theorem exc_base : ∃ i, ExcBaseFacts "ValueError" "ValueError.__new__" i He.veBase := ⟨_, PySem.F.excBase_ValueError⟩
/-- an __init__'s promise: the one field set -/
def spI (C : Cc) (d : Dd) (c : Nat) (f : Str) : Sp := fun vs H Q _ => ∃ (x dx : Addr) (us : List V) (B : Av) (ws : List W) (w : W), vs = .ref x :: us ∧ vs.length = d.ps.length ∧ ws.length = us.length ∧ H x = some (.ins (C.P.cad c) dx []) ∧ (∀ a, B a → H a ≠ none) ∧ RpL C.K C.P H B ws us ∧
  exL C.cf C.cs d.ir (startI d ws) = .rt w ∧ ∀ v H', Grow H H' → Res C.K C.P (.fr none) B H H' w v → Q .non (upd H' x (.ins (C.P.cad c) dx [(f, v)]))
/-- the facts for a body, from the levels below -/
theorem fit_of (hd : Hd T K mg P) {n : Nat} {d : Dd} (S : FnScope d.N d.ps (defScope d.st))
    (ih : ∀ (id : Nat) (d : Dd) (fd : FuncData), T.ds[id]? = some d → d.kd = .fn → FunD K d.name d.name (defArgs d.st) (defBody d.st) (defScope d.st) [] [] (P.fad id) fd → FnOk Pg w K mg base (L2.CX Pg w) n (P.fad id) fd d.ps (spD (T.cc K P n) id d.ps.length))
    (im : ∀ (id : Nat) (d : Dd) (c : Nat) (f : Str), T.ds[id]? = some d → d.kd = .ini c f → PySem.W.keepIn K (.ref (P.fad id)) = true → MkOk Pg w K mg base n (P.fad id) (spD (T.cc K P n) id (d.ps.length - 1)))
    {qn : Str} {fa : Addr} {cdv : Value} {A : Around} {outer : List Env} {s : Shared} {H : Hp} {E : XK} (hr : Room n (A.deeper (envOfC qn (defScope d.st) s.heap.objs.size fa cdv))) :
    FitX (cxOf (L2.CX Pg w) Pg w K mg base d.N qn (defScope d.st) fa cdv A outer s H E) (T.ck d).toCk (T.cc K P n) (fun c x _ H => E c x H) n where
  N := rfl
  nd := S.nd
  sc := rfl
  fn := rfl
  calm := rfl
  K := rfl
  room := hr
  takes := takes_of rfl rfl rfl rfl
  fns := fun nm id' ar hm => by
    obtain ⟨d', _, e1, rfl, rfl, hk⟩ := idxF_mem hm
    obtain ⟨q1, fd', q2, q3⟩ := hd.defs _ d' e1 hk
    exact ⟨q1, q2.kp, fd', d'.ps, rfl, q3, ih id' d' fd' e1 hk q2⟩
  blts := hd.blts
  csts := fun nm k hm => by
    obtain ⟨_, e1⟩ := idxN_mem hm
    rw [Nat.sub_zero, List.getElem?_map] at e1
    cases e2 : T.gc[k]? with
    | none => rw [e2] at e1; cases e1
    | some p =>
      rw [e2] at e1
      cases e1
      obtain ⟨t, q⟩ := hd.csts k p.1 p.2 e2
      refine ⟨p.2, t, ?_, q⟩
      show T.cs[k]? = _
      unfold Tb.cs
      rw [List.getElem?_map, e2]
      rfl
  mks := fun nm id' ar hm => by
    obtain ⟨d', c, f, _, e1, rfl, rfl, hk⟩ := idxK_mem hm
    obtain ⟨q1, q2, q3, q4, q5, g, fd, qn, q6, q7, q8⟩ := hd.inis _ d' c f e1 hk
    exact ⟨q1, im id' d' c f e1 hk q6.kp⟩
  mkz := fun nm id' hm => by
    obtain ⟨d', c, _, e1, rfl, hk⟩ := idxZ_mem hm
    obtain ⟨q1, q2, q3, q4⟩ := hd.zs _ d' c e1 hk
    refine ⟨q1, q4, fun H Q E q x dx hx hdx hne => ?_⟩
    obtain ⟨B, ws, h1, h2, hB, hws, k⟩ := q
    obtain rfl : ws = [] := List.eq_nil_of_length_eq_zero h1
    have k' : (match callN T n id' [] with
      | .val w => ∀ v H', Grow H H' → Res K P (T.rm id') B H H' w v → Q v H'
      | .exc c => ∀ H', Grow H H' → E (.ref (P.cad c)) none H'
      | .bad => False) := k
    cases n with
    | zero => exact k'.elim
    | succ n =>
      have e1' : T.ds[id']? = some d' := by simpa using e1
      unfold callN at k'
      rw [e1'] at k'
      simp only [hk] at k'
      refine k' _ _ ?_ ⟨[x], by simp, fun a ha => by rw [List.mem_singleton.mp ha]; exact hx, ?_⟩
      · exact (Grow.new hdx).trans (Grow.new (by rw [upd_ne (Ne.symm hne)]; exact hx))
      · have : T.rm id' = .fr none := by unfold Tb.rm; rw [e1']; show Dd.md d' = _; unfold Dd.md; rw [hk]
        rw [this]
        show Ow _ _ _ _ _ _ _ _
        unfold Ow
        rw [if_neg (by intro z; cases z)]
        refine ⟨x, dx, [], [], rfl, ?_, rfl, by rw [q3]; rfl, by unfold OwL; exact ⟨rfl, rfl⟩⟩
        have q2' : P.fad id' = P.cad c := q2
        rw [upd_same, q3]
        show some (HO.ins (P.fad id') dx []) = _
        rw [q2']
        rfl
  isi := hd.isi
  fds := hd.fds
mutual
theorem Ow.insU {x : Addr} {C0 dx0 : Addr} {fs0 : List (Str × V)} {o : HO} {H : Hp} {B : Av} (hx : H x = some (.ins C0 dx0 fs0)) : ∀ (u : W) (v : V) (F : List Addr), x ∉ F → Ow K P H B none u v F → Ow K P (upd H x o) B none u v F
  | .non, v, F, _, h => by unfold Ow at *; exact h
  | .bl _, v, F, _, h => by unfold Ow at *; exact h
  | .int _, v, F, _, h => by unfold Ow at *; exact h
  | .str _, v, F, _, h => by unfold Ow at *; exact h
  | .fn _, v, F, _, h => by unfold Ow at *; exact h
  | .scr ns, v, F, _, h => by
    unfold Ow at *
    refine ⟨h.1, ?_⟩
    have h2 := h.2
    unfold Rp at h2 ⊢
    obtain ⟨a, e, h3, h4⟩ := h2
    refine ⟨a, e, ?_, h4⟩
    rcases h3 with ⟨q, h3⟩ | h3
    · exact Or.inl ⟨q, by rw [upd_ne (ne_of h3 hx (by intro z; cases z))]; exact h3⟩
    · exact Or.inr h3
  | .tup ws, v, F, hF, h => by
    unfold Ow at *
    rw [if_neg (by intro z; cases z)] at h
    rw [if_neg (by intro z; cases z)]
    obtain ⟨a, xs, e, h1, h2, h3⟩ := h
    exact ⟨a, xs, e, by rw [upd_ne (ne_of h1 hx (by intro z; cases z))]; exact h1, h2, OwL.insU hx ws xs F hF h3⟩
  | .lst ws, v, F, hF, h => by
    unfold Ow at *
    rw [if_neg (by intro z; cases z)] at h
    rw [if_neg (by intro z; cases z)]
    obtain ⟨a, xs, F', e, h1, h2, h3, h4⟩ := h
    subst h2
    exact ⟨a, xs, F', e, by rw [upd_ne (fun z => hF (by rw [z]; exact List.mem_cons_self))]; exact h1, rfl, h3, OwL.insU hx ws xs F' (fun z => hF (List.mem_cons_of_mem _ z)) h4⟩
  | .ins c ws, v, F, hF, h => by
    unfold Ow at *
    rw [if_neg (by intro z; cases z)] at h
    rw [if_neg (by intro z; cases z)]
    obtain ⟨a, dx, xs, F', e, h1, h2, h3, h4⟩ := h
    subst h2
    exact ⟨a, dx, xs, F', e, by rw [upd_ne (fun z => hF (by rw [z]; exact List.mem_cons_self))]; exact h1, rfl, h3, OwL.insU hx ws xs F' (fun z => hF (List.mem_cons_of_mem _ z)) h4⟩
  | .dic kvs, v, F, hF, h => by
    unfold Ow at *
    rw [if_neg (by intro z; cases z)] at h
    rw [if_neg (by intro z; cases z)]
    obtain ⟨a, e, h1, h2, h3⟩ := h
    subst h1
    exact ⟨a, e, rfl, h2, by rw [upd_ne (fun z => hF (by rw [z]; exact List.mem_singleton_self _))]; exact h3⟩
theorem OwL.insU {x : Addr} {C0 dx0 : Addr} {fs0 : List (Str × V)} {o : HO} {H : Hp} {B : Av} (hx : H x = some (.ins C0 dx0 fs0)) : ∀ (us : List W) (vs : List V) (F : List Addr), x ∉ F → OwL K P H B none us vs F → OwL K P (upd H x o) B none us vs F
  | [], vs, F, _, h => by unfold OwL at *; exact h
  | w :: ws, vs, F, hF, h => by
    unfold OwL at *
    obtain ⟨v, r, F1, F2, e1, e2, h1, h2⟩ := h
    subst e2
    exact ⟨v, r, F1, F2, e1, rfl, Ow.insU hx w v F1 (fun z => hF (List.mem_append_left _ z)) h1, OwL.insU hx ws r F2 (fun z => hF (List.mem_append_right _ z)) h2⟩
end
theorem sw_attr {e o : Expr} {f : Str} {p : Pos} {l : Nat} {env : Env} : swapsWith e (some (.Attribute o f p)) l env = pure false := by
  cases e <;> rfl
/-- an __init__ keeps its promise -/
theorem init_ok (hd : Hd T K mg P) {n id : Nat} {d : Dd} {c : Nat} {f : Str} (e : T.ds[id]? = some d) (hk : d.kd = .ini c f) (okd : okD T d = true) {g : Addr} {fd : FuncData} {qn : Str}
    (F : FunD K "__init__" qn (defArgs d.st) (defBody d.st) (defScope d.st) [] [] g fd)
    (ih : ∀ (id : Nat) (d : Dd) (fd : FuncData), T.ds[id]? = some d → d.kd = .fn → FunD K d.name d.name (defArgs d.st) (defBody d.st) (defScope d.st) [] [] (P.fad id) fd → FnOk Pg w K mg base (L2.CX Pg w) n (P.fad id) fd d.ps (spD (T.cc K P n) id d.ps.length))
    (im : ∀ (id : Nat) (d : Dd) (c : Nat) (f : Str), T.ds[id]? = some d → d.kd = .ini c f → PySem.W.keepIn K (.ref (P.fad id)) = true → MkOk Pg w K mg base n (P.fad id) (spD (T.cc K P n) id (d.ps.length - 1))) :
    FnOk Pg w K mg base (L2.CX Pg w) (n + 1) g fd d.ps (spI (T.cc K P n) d c f) := by
  unfold okD at okd
  rw [hk] at okd
  simp only [Bool.and_eq_true] at okd
  obtain ⟨o1, o2⟩ := okd
  have S := C8.fnScope_by o1
  obtain ⟨q1, q2, q3, q4, q5, _⟩ := hd.inis id d c f e hk
  unfold chkI at o2
  split at o2
  · rename_i x px g0 pg ex pos ie nm nr hb hir hN
    simp only [Bool.and_eq_true, decide_eq_true_eq] at o2
    obtain ⟨⟨⟨⟨⟨⟨rfl, rfl⟩, v0⟩, ck⟩, oke⟩, hmd⟩, hps⟩ := o2
    refine F.ok S (fun vs H Q E ⟨x, dx, us, B, ws, w, h1, h2, _⟩ => h2) fun cdv A outer s H vs Q E hr hs => ?_
    have fx := fit_of (Pg := Pg) (w := w) (base := base) hd S ih im (qn := qn) (fa := g) (cdv := cdv) (A := A) (outer := outer) (s := s) (H := H) (E := E) hr
    have msl : (ms0 d).length = (T.ck d).toCk.N.length := by unfold ms0; rw [List.length_replicate]; rfl
    have pe := (sndE 200 _ _ (T.cc K P n) _ n (ms0 d) ex ie fx msl ck oke).1
    obtain ⟨v1, v2, v3⟩ := fx.vis v0
    have po : PE (cxOf (L2.CX Pg w) Pg w K mg base d.N qn (defScope d.st) g cdv A outer s H E) (.Name x px) (tVar 0) := pe_var (by show d.N[0]? = _; rw [hN]; rfl) v1 v2 v3
    rw [hb]
    refine ⟨_, pss_one (ps_fld po pe sw_attr), ?_⟩
    obtain ⟨y, dx, us, B, ws, w0, rfl, h2, h3, h4, hB, hws, hex, hq⟩ := hs
    refine ⟨B, fun _ => [], startI d ws, ⟨fun i u ei => ?_, hB, fun _ => List.nodup_nil, fun _ _ ha => (nomatch ha), fun _ _ _ _ ha => (nomatch ha), ?_⟩, ?_⟩
    · unfold startI at ei
      cases i with
      | zero => cases ei
      | succ i =>
        rw [List.getElem?_cons_succ] at ei
        have hl : i < ws.length := by
          by_cases q : i < ws.length
          · exact q
          · rw [List.getElem?_append_right (by rw [List.length_map]; omega)] at ei
            rw [List.getElem?_replicate] at ei
            split at ei <;> cases ei
        have ei2 : ws[i]? = some u := by
          rw [List.getElem?_append_left (by rw [List.length_map]; exact hl), List.getElem?_map] at ei
          cases e2 : ws[i]? with
          | none => rw [e2] at ei; cases ei
          | some x => rw [e2] at ei; cases ei; rfl
        obtain ⟨v, e3, q⟩ := hws.get ei2
        refine ⟨v, ?_, ?_⟩
        · unfold L2.start
          rw [List.map_cons, List.cons_append, List.getElem?_cons_succ, List.getElem?_append_left (by rw [List.length_map, ← h3]; exact hl), List.getElem?_map, e3]
          rfl
        · have : (ms0 d).getD (i + 1) Md.cl = Md.cl := by
            unfold ms0
            rw [List.getD_eq_getElem?_getD, List.getElem?_replicate]
            split <;> rfl
          rw [this]
          exact (Ow.zero _ _ _).mpr ⟨rfl, q⟩
    · unfold startI L2.start
      rw [List.length_cons] at h2
      rw [List.length_cons, List.length_append, List.length_append, List.length_map, List.length_map, List.length_replicate, List.length_replicate, List.length_cons]
      omega
    · have e1 : ofO (ev (T.cc K P n).cf (T.cc K P n).cs ie (startI d ws)) (fun w => .rt w) = .rt w0 := by
        rw [hir] at hex
        rw [← hex]
        show _ = exL (T.cc K P n).cf (T.cc K P n).cs [.ret ie] (startI d ws)
        unfold exL exS
        cases ev (T.cc K P n).cf (T.cc K P n).cs ie (startI d ws) <;> rfl
      cases e2 : ev (T.cc K P n).cf (T.cc K P n).cs ie (startI d ws) with
      | bad => rw [e2] at e1; cases e1
      | exc x => rw [e2] at e1; cases e1
      | val w1 =>
        rw [e2] at e1
        cases e1
        intro v H1 g1 rs
        refine ⟨.ref y, by unfold L2.start; rfl, y, _, dx, [], rfl, g1 _ _ h4, q4, q5, by decide, ?_⟩
        have := hq v H1 g1 (rs.weaken hB hmd)
        exact this
  · cases o2
theorem lvlAll (okT : ∀ d ∈ T.ds, okD T d = true) (hd : Hd T K mg P) : ∀ (n : Nat), (∀ (id : Nat) (d : Dd) (fd : FuncData), T.ds[id]? = some d → d.kd = .fn → FunD K d.name d.name (defArgs d.st) (defBody d.st) (defScope d.st) [] [] (P.fad id) fd →
    FnOk Pg w K mg base (L2.CX Pg w) n (P.fad id) fd d.ps (spD (T.cc K P n) id d.ps.length)) ∧
    (∀ (id : Nat) (d : Dd) (c : Nat) (f : Str), T.ds[id]? = some d → d.kd = .ini c f → PySem.W.keepIn K (.ref (P.fad id)) = true → MkOk Pg w K mg base n (P.fad id) (spD (T.cc K P n) id (d.ps.length - 1))) := by
  intro n
  induction n using Nat.strongRecOn with
  | ind n ihs =>
  refine ⟨?_, ?_⟩
  · cases n with
    | zero =>
      intro id d fd e hkd F
      refine ⟨fun vs H Q E ⟨B, ws, h1, h2, _⟩ => h2, fun A outer s H args us vs Q E hr he hb hv hs => ?_⟩
      obtain ⟨B, ws, _, _, _, _, k⟩ := hs
      exact k.elim
    | succ n =>
    intro id d fd e hkd F
    have okd := okT d (List.mem_of_getElem? e)
    unfold okD at okd
    rw [hkd] at okd
    simp only [Bool.and_eq_true] at okd
    obtain ⟨⟨o1, o2⟩, o3⟩ := okd
    have S := C8.fnScope_by o1
    have rmE : T.rm id = d.rt := by unfold Tb.rm; rw [e]; show Dd.md d = _; unfold Dd.md; rw [hkd]
    refine F.ok S (fun vs H Q E ⟨B, ws, h1, h2, _⟩ => h2) fun cdv A outer s H vs Q E hr hs => ?_
    obtain ⟨B, ws, h1, h2, hB, hws, k⟩ := hs
    have fx := fit_of (Pg := Pg) (w := w) (base := base) hd S (ihs n (Nat.lt_succ_self n)).1 (ihs n (Nat.lt_succ_self n)).2 (qn := d.name) (fa := P.fad id) (cdv := cdv) (A := A) (outer := outer) (s := s) (H := H) (E := E) hr
    have fs : FitS (cxOf (L2.CX Pg w) Pg w K mg base d.N d.name (defScope d.st) (P.fad id) cdv A outer s H E) (T.ck d) (T.cc K P n) (fun c x _ H => E c x H) n := {
      x := fx
      kind := S.kind
      pass := passes_of rfl
      excs := fun nm k hm hg m j p p2 pos => by
        obtain ⟨_, e1⟩ := idxN_mem hm
        obtain ⟨q1, q2, q3, q4, q5⟩ := hd.excs k nm e1
        obtain ⟨i, eb⟩ := exc_base
        exact pmk_own eb q2 q1 q3 (raises_own q4 q5) (fx.gl hg).1 (fx.gl hg).2 }
    have sd := (sndAll 200).2 _ _ _ _ n d.rt (ms0 d) (ms0 d) (defBody d.st) d.ir fs (by unfold ms0; rw [List.length_replicate]; rfl) o2 o3
    refine ⟨_, sd, B, fun _ => [], startW d ws, ?_, ?_⟩
    · refine ⟨fun i u ei => ?_, hB, fun _ => List.nodup_nil, fun _ _ ha => (nomatch ha), fun _ _ _ _ ha => (nomatch ha), ?_⟩
      · have hl : i < ws.length := by
          by_cases q : i < ws.length
          · exact q
          · unfold startW at ei
            rw [List.getElem?_append_right (by rw [List.length_map]; omega)] at ei
            rw [List.getElem?_replicate] at ei
            split at ei
            · cases ei
            · cases ei
        have ei2 : ws[i]? = some u := by
          unfold startW at ei
          rw [List.getElem?_append_left (by rw [List.length_map]; exact hl), List.getElem?_map] at ei
          cases e2 : ws[i]? with
          | none => rw [e2] at ei; cases ei
          | some x => rw [e2] at ei; cases ei; rfl
        obtain ⟨v, e3, q⟩ := hws.get ei2
        refine ⟨v, ?_, ?_⟩
        · unfold L2.start
          rw [List.getElem?_append_left (by rw [List.length_map, h2, ← h1]; exact hl), List.getElem?_map, e3]
          rfl
        · have : (ms0 d).getD i Md.cl = Md.cl := by
            unfold ms0
            rw [List.getD_eq_getElem?_getD, List.getElem?_replicate]
            split <;> rfl
          rw [this]
          exact (Ow.zero _ _ _).mpr ⟨rfl, q⟩
      · unfold startW L2.start
        rw [List.length_append, List.length_append, List.length_map, List.length_map, List.length_replicate, List.length_replicate, h1, h2]
    · have fr0 : Fr Av.nil H (fun _ => []) H := ⟨Stand.ofGrow (Grow.refl H), fun _ _ ha => (nomatch ha)⟩
      have k' : (match callN T (n + 1) id ws with
        | .val w => ∀ v H', Grow H H' → Res K P (T.rm id) B H H' w v → Q v H'
        | .exc c => ∀ H', Grow H H' → E (.ref (P.cad c)) none H'
        | .bad => False) := k
      unfold callN at k'
      rw [e] at k'
      simp only [hkd, h1, if_true] at k'
      show OKr (T.cc K P n) d.rt _ _ _ B (fun _ => []) H _ (exL (callN T n) T.cs d.ir (startW d ws))
      cases er : exL (callN T n) T.cs d.ir (startW d ws) with
      | nx Sg' =>
        rw [er] at k'
        intro B' F' σ' H' r' s'
        refine k' .non H' (s'.fr _ _ fr0).grows ?_
        have : Res K P .flat B H H' .non .non := Res.flat (B' := Av.nil) rfl (by unfold Rp; rfl)
        refine this.weaken hB ?_
        cases T.rm id <;> rfl
      | rt x =>
        rw [er] at k'
        intro v H' p
        obtain ⟨g, rs⟩ := p B H fr0 fun a ha => ⟨ha, hB a ha⟩
        rw [rmE] at k'
        exact k' v H' g rs
      | bk Sg' => rw [er] at k'; exact k'.elim
      | ex c => rw [er] at k'; exact fun σ' H' p => k' H' (p H fr0)
      | bad => rw [er] at k'; exact k'.elim
  · intro id d c f e hk kp
    refine ⟨kp, fun vs H Q E q => ?_⟩
    obtain ⟨B, ws, h1, h2, hB, hws, k⟩ := q
    obtain ⟨q1, q2, q3, q4, q5, g, fd, qn, q6, q7, q8⟩ := hd.inis id d c f e hk
    have k' : (match callN T n id ws with
      | .val w => ∀ v H', Grow H H' → Res K P (T.rm id) B H H' w v → Q v H'
      | .exc c => ∀ H', Grow H H' → E (.ref (P.cad c)) none H'
      | .bad => False) := k
    cases n with
    | zero => exact k'.elim
    | succ n =>
    unfold callN at k'
    rw [e] at k'
    simp only [hk] at k'
    cases n with
    | zero => exact k'.elim
    | succ n =>
    simp only at k'
    by_cases hlen : ws.length + 1 = d.ps.length
    · rw [if_pos hlen] at k'
      cases er : exL (callN T n) T.cs d.ir (startI d ws) with
      | rt w0 =>
        rw [er] at k'
        have F1 := init_ok (Pg := Pg) (w := w) (base := base) hd e hk (okT d (List.mem_of_getElem? e)) q7 (ihs n (by omega)).1 (ihs n (by omega)).2
        refine ⟨g, fd, d.ps, _, n + 1, q6, F1, Nat.le_refl _, q8, fun x dx hx hdx hne => ?_⟩
        have gr : Grow H (upd (upd H dx (.own x)) x (.ins (P.fad id) dx [])) := (Grow.new hdx).trans (Grow.new (by rw [upd_ne (Ne.symm hne)]; exact hx))
        refine ⟨x, dx, vs, B, ws, w0, rfl, by rw [List.length_cons, h2]; omega, by rw [h1, h2], by rw [upd_same]; show some (HO.ins (P.fad id) dx []) = some (HO.ins (P.cad c) dx []); rw [q2], fun a ha => gr.dom (hB a ha), RpL.mono gr (fun _ _ z => z) _ _ hws, er, fun v H' g' rs => ⟨rfl, ?_⟩⟩
        obtain ⟨F0, nd, fr, qq⟩ := rs
        have hx' : H' x = some (.ins (P.fad id) dx []) := g' _ _ upd_same
        have xF : x ∉ F0 := fun z => by have := fr x z; rw [upd_same] at this; cases this
        refine k' _ _ ?_ ⟨x :: F0, List.nodup_cons.mpr ⟨xF, nd⟩, fun a ha => ?_, ?_⟩
        · intro a o ea
          have : a ≠ x := fun z => by rw [z, hx] at ea; cases ea
          rw [upd_ne this]
          exact g' _ _ (gr _ _ ea)
        · rcases List.mem_cons.mp ha with rfl | ha
          · exact hx
          · exact gr.free (fr a ha)
        · have : T.rm id = .fr none := by unfold Tb.rm; rw [e]; show Dd.md d = _; unfold Dd.md; rw [hk]
          rw [this]
          show Ow _ _ _ _ _ _ _ _
          unfold Ow
          rw [if_neg (by intro z; cases z)]
          refine ⟨x, dx, [v], F0, rfl, ?_, rfl, by rw [q3]; rfl, ?_⟩
          · rw [upd_same, q3]
            rfl
          · show OwL _ _ _ _ none _ _ _
            have qq : Ow K P H' (B.or F0) none w0 v F0 := qq
            have qq2 := Ow.insU (o := .ins (P.cad c) dx [(f, v)]) hx' w0 v F0 xF qq
            unfold OwL
            exact ⟨v, [], F0, [], rfl, by simp, Ow.deep _ _ _ qq2, by unfold OwL; exact ⟨rfl, rfl⟩⟩
      | nx Sg' => rw [er] at k'; exact k'.elim
      | bk Sg' => rw [er] at k'; exact k'.elim
      | ex c => rw [er] at k'; exact k'.elim
      | bad => rw [er] at k'; exact k'.elim
    · rw [if_neg hlen] at k'
      exact k'.elim
theorem lvl (okT : ∀ d ∈ T.ds, okD T d = true) (hd : Hd T K mg P) (n id : Nat) (d : Dd) (fd : FuncData) (e : T.ds[id]? = some d) (hk : d.kd = .fn) (F : FunD K d.name d.name (defArgs d.st) (defBody d.st) (defScope d.st) [] [] (P.fad id) fd) :
    FnOk Pg w K mg base (L2.CX Pg w) n (P.fad id) fd d.ps (spD (T.cc K P n) id d.ps.length) := (lvlAll okT hd n).1 id d fd e hk F
end
/-- a law's end: the head's facts, the table, and the plain meaning of the law's def -/
theorem law_end {l : PySem.W.OpenLaw} {n k : Nat} {q : Program} {loose : List Str} {XP : (Str → Option Value) → Heap → Prop} {YP : World → Heap → Prop} {d : DefRec} {x : Str} {T : Tb} {id : Nat} {dd : Dd}
    (hn : l.most = some n) (hn2 : n ≤ 1000) (hdf : d.params.defaults = []) (hr : Room k callerA) (hid : T.ds[id]? = some dd) (hps : dd.ps = [x]) (hkd : dd.kd = .fn) (okT : ∀ d ∈ T.ds, okD T d = true)
    (F : ∀ (w : World) (mg : Str → Option Value) (fa : Addr) (h : Heap), YP w h → h.Ns mainGlobals mg → mg d.name = some (.ref fa) →
      ∃ (K : PySem.W.Frag) (fd : FuncData) (P : Pl), K.In h ∧ (∀ (s : Shared) (u : Value), BindsTo s fd ⟨[u], []⟩ [(x, u)]) ∧ Hd T K mg P ∧ fa = P.fad id ∧ FunD K dd.name dd.name (defArgs dd.st) (defBody dd.st) (defScope dd.st) [] [] (P.fad id) fd)
    (hlaw : ∀ ns : List Int, ns.length ≤ n → (∀ z ∈ ns, Builtin.Int.intBits z ≤ 1048576) → callN T k id [.scr ns] = .val (.bl true)) :
    PySem.W.WalkO q loose XP YP l.row.toRowW d [] (fun f vs => PySem.call f vs) := by
  refine Att.attach_callB hn hdf fun w s₀ s₁ mg mb fa o pm cd doc a vs ns G Y ho hd hcd hmg hobj hints hlen hbits hg => ?_
  obtain ⟨K, fd, P, KX, hb, hdd, rfl, hF⟩ := F w mg fa _ Y G.T.g hmg
  have hz : n ≤ sizeLine := Nat.le_trans hn2 (by decide)
  have F1 : ∀ base : Heap, K.In base → base.Ns mainGlobals mg → FnOk l.prog w K mg base (L2.CX l.prog w) k (P.fad id) fd [x] (spD (T.cc K P k) id 1) := fun base _ _ => by
    have := lvl (Pg := l.prog) (w := w) (base := base) okT hdd k id dd fd hid hkd hF
    rw [hps] at this
    exact this
  refine law_call KX G.T.g G.T.b G.T.builtins G.T.nolimit hg hobj hints (Nat.le_trans hlen hz) hr F1 hb (fun H hO hS => ?_) fun H e s' h => ?_
  · refine ⟨Av.nil, [.scr ns], rfl, rfl, fun _ z => z.elim, RpL.one ?_, ?_⟩
    · unfold Rp
      refine ⟨a, rfl, ?_, ?_⟩
      · rcases hS with hS | hS
        · rcases hO a with z | ⟨o, xs, z⟩
          · have := Rd.dom hS
            exact absurd z this
          · left
            rcases hS with hS | ⟨o', hS⟩
            · rw [z] at hS; cases hS
            · rw [z] at hS
              cases hS
              exact ⟨_, z⟩
        · exact Or.inr (Or.inr hS)
      · exact Nat.le_trans hlen (Nat.le_trans hn2 (by decide))
    · show match callN T k id [.scr ns] with
        | .val w => _
        | .exc c => _
        | .bad => _
      rw [hlaw ns hlen hbits]
      intro v H' g rs
      have := rs.view
      unfold Rp at this
      exact this
  · obtain ⟨a, B, H', cls, d, _, _, _, _, _, _, _, z⟩ := h
    exact z
end Mx
/-! # Mx15: the head's facts, by the table -/
namespace Mx
open PySem L2 PyProof.Rows
def Dd.defD (d : Dd) : Option He.DefD := match d.kd with
  | .fn => some ⟨(d.name, none), d.name, d.name, defArgs d.st, defBody d.st, defScope d.st, [], []⟩
  | .ini _ _ => some ⟨(d.name, some "__init__"), "__init__", d.name ++ ".__init__", defArgs d.st, defBody d.st, defScope d.st, [], []⟩
  | .ini0 _ => none
def Dd.fas (d : Dd) : List He.Fa := match d.kd with
  | .fn => [.glo d.name]
  | .ini _ f => [.glo d.name, .cls d.name, .noat d.name f, .mkr d.name]
  | .ini0 _ => [.glo d.name]
def Tb.fn (T : Tb) : List He.DefD := T.ds.filterMap Dd.defD
/-- the class's name -/
def Tb.cn (T : Tb) (c : Nat) : Str := match T.cl[c - 50]? with | some p => p.1 | none => Str.empty
def Tb.fa (T : Tb) : List He.Fa := T.ds.flatMap Dd.fas ++ (blNames.map He.Fa.free ++ (T.gc.map (fun p => He.Fa.int p.1 p.2) ++ (T.ge.map He.Fa.glo ++ (T.ge.map He.Fa.exc ++ (T.cl.map (fun p => He.Fa.glo p.1) ++ (T.cl.map (fun p => He.Fa.cls p.1) ++ T.cl.flatMap fun p => p.2.map fun f => He.Fa.noat p.1 f))))))
def Tb.pl (T : Tb) (K : PySem.W.Frag) : Pl where
  fad := fun i => match T.ds[i]? with | some d => He.ga K d.name | none => 0
  cad := fun i => if i < 50 then (match T.ge[i]? with | some x => He.ga K x | none => 0) else He.ga K (T.cn i)
  fld := fun i => match T.cl[i - 50]? with | some p => p.2 | none => []
/-- the further facts: classes without an __init__, what isinstance asks -/
def mkzB (K : PySem.W.Frag) (x : Str) : Bool := PySem.W.makesIn K (He.ga K x) && (He.eqO (PySem.W.findIn K (.ref (He.ga K x)) "__init__") (some (some (.builtin "object.__init__"))) && (decide (PySem.W.mroIn K (He.ga K x) (.type "object") = some true) && PySem.W.keepIn K (.ref (He.ga K x))))
def insB (K : PySem.W.Frag) (x : Str) : Bool := He.eqO (PySem.W.findIn K (.ref (He.ga K x)) "__class__") (some (some (.builtin "object.__class__"))) && (He.eqO (PySem.W.specialIn K (.builtin "object.__class__") "__get__") (some (some (.builtin "getset_descriptor.__get__"))) && (decide (PySem.W.takesIn K (.builtin "object.__class__") = some true) && decide (PySem.W.mroIn K (He.ga K x) (.type "object") = some true)))
def kitB (K : PySem.W.Frag) (x y : Str) (b : Bool) : Bool := decide (PySem.W.kitOne K (.ref (He.ga K x)) (.ref (He.ga K y)) = some b)
/-- the table's own order: the classes of defs are the listed ones -/
def Tb.ordB (T : Tb) : Bool := (T.ds.all fun d => match d.kd with
  | .fn => true
  | .ini c f => decide (50 ≤ c) && decide (T.cl[c - 50]? = some (d.name, [f]))
  | .ini0 c => decide (50 ≤ c) && decide (T.cl[c - 50]? = some (d.name, []))) && (T.gi.all (fun p => decide (50 ≤ p.2.1) && decide (p.1 ∈ T.cl.map (·.1)) && decide (T.cn p.2.1 ∈ T.cl.map (·.1))) && decide (T.ge.length ≤ 50))
def Tb.ex (T : Tb) (K : PySem.W.Frag) : Bool := (T.ds.all fun d => match d.kd with | .ini0 _ => mkzB K d.name | _ => true) && T.gi.all fun p => insB K (T.cn p.2.1) && kitB K (T.cn p.2.1) p.1 p.2.2
def hookX (n : Nat) (fa : List He.Fa) (fn : List He.DefD) (ex : PySem.W.Frag → Bool) : PySem.W.Hook where
  α := He.AlD × Bool
  obs := fun s => (He.obsDG n fa fn s.heap.get?, ex (He.frG s.heap.get? (He.asD s.heap.get? n)))
  val := fun _ => (He.valD fn, true)
  says := fun _ h => ∃ K : PySem.W.Frag, K.In h ∧ He.SaysD fa fn K ∧ ex K = true
  of := fun _ _ e => ⟨_, He.frG_in, congrArg Prod.fst e, congrArg Prod.snd e⟩
  keeps := fun _ _ _ ⟨K, hK, c⟩ k => ⟨K, PySem.W.Frag.In.keeps hK k, c⟩
def obsX (n : Nat) (fa : List He.Fa) (fn : List He.DefD) (ex : PySem.W.Frag → Bool) (g : Addr → Option Obj) : He.AlD × Bool := (He.obsDG n fa fn g, ex (He.frG g (He.asD g n)))
theorem obsX_eq {n : Nat} {fa : List He.Fa} {fn : List He.DefD} {ex : PySem.W.Frag → Bool} {g : Addr → Option Obj} {s : Shared} (h : ∀ a, g a = s.heap.get? a) : obsX n fa fn ex g = (hookX n fa fn ex).obs s := by
  have e : g = s.heap.get? := funext h
  rw [e]
  rfl
/-- how arguments bind (no defaults): by «fun _ _ _ _ _ _ us hl => match us, hl with | [_, _], _ => rfl» -/
def Dd.fnm (d : Dd) : Str × Str := match d.kd with
  | .fn => (d.name, d.name)
  | _ => ("__init__", d.name ++ ".__init__")
def BindOk (d : Dd) : Prop := ∀ (kV doc pm : Value) (an : Option Addr) (cdv ct : Value) (us : List Value), us.length = d.ps.length →
    bindArgs (PySem.W.fnOf d.fnm.1 d.fnm.2 (defArgs d.st) (defBody d.st) (defScope d.st) .none kV doc pm an cdv ct) ⟨us, []⟩ = pure (d.ps.zip us)
def AllB : List Dd → Prop
  | [] => True
  | d :: ds => BindOk d ∧ AllB ds
theorem AllB.mem : ∀ {ds : List Dd}, AllB ds → ∀ d ∈ ds, BindOk d
  | d :: ds, h, x, hx => by
    rcases List.mem_cons.mp hx with rfl | hx
    · exact h.1
    · exact AllB.mem h.2 x hx
theorem SaysD.of_mem {fa : List He.Fa} {fn : List He.DefD} {K : PySem.W.Frag} (c : He.SaysD fa fn K) {f : He.Fa} (h : f ∈ fa) : f.ok K = true := by
  obtain ⟨i, hi⟩ := List.getElem?_of_mem h
  exact c.fact i hi
theorem SaysD.def_mem {fa : List He.Fa} {fn : List He.DefD} {K : PySem.W.Frag} (c : He.SaysD fa fn K) {d : He.DefD} (h : d ∈ fn) : ∃ fd, FunD K d.name d.qual d.params d.body d.scope (d.dvs K) (d.kws K) (He.fAd K d.at_) fd := by
  obtain ⟨i, hi⟩ := List.getElem?_of_mem h
  exact c.def_ i hi
theorem hd_of {T : Tb} {K : PySem.W.Frag} {h : Heap} {mg : Str → Option Value} (X : K.In h) (G : h.Ns mainGlobals mg) (c : He.SaysD T.fa T.fn K) (cx : T.ex K = true) (co : T.ordB = true) (ha : AllB T.ds) : Hd T K mg (T.pl K) := by
  have fact : ∀ d ∈ T.ds, ∀ f ∈ d.fas, f.ok K = true := fun d hm f hf => SaysD.of_mem c (List.mem_append_left _ (List.mem_flatMap.mpr ⟨d, hm, hf⟩))
  have glo : ∀ d ∈ T.ds, mg d.name = some (.ref (He.ga K d.name)) := fun d hm => He.glo_ok X G (fact d hm _ (by unfold Dd.fas; split <;> simp))
  have fadE : ∀ id d, T.ds[id]? = some d → (T.pl K).fad id = He.ga K d.name := fun id d e => by show (match T.ds[id]? with | some d => He.ga K d.name | none => 0) = _; rw [e]
  unfold Tb.ordB at co
  unfold Tb.ex at cx
  rw [Bool.and_eq_true, Bool.and_eq_true] at co
  rw [Bool.and_eq_true] at cx
  have co1 := fun d hm => List.all_eq_true.mp co.1 d hm
  have cadE : ∀ i, 50 ≤ i → (T.pl K).cad i = He.ga K (T.cn i) := fun i hi => by show (if i < 50 then _ else _) = _; rw [if_neg (by omega)]
  have cnE : ∀ i p, T.cl[i - 50]? = some p → T.cn i = p.1 := fun i p e => by unfold Tb.cn; rw [e]
  have fldE : ∀ i p, T.cl[i - 50]? = some p → (T.pl K).fld i = p.2 := fun i p e => by show (match T.cl[i - 50]? with | some p => p.2 | none => []) = _; rw [e]
  have clsF : ∀ p ∈ T.cl, (He.Fa.cls p.1).ok K = true := fun p hp => SaysD.of_mem c (List.mem_append_right _ (List.mem_append_right _ (List.mem_append_right _ (List.mem_append_right _ (List.mem_append_right _ (List.mem_append_right _ (List.mem_append_left _ (List.mem_map_of_mem (f := fun p : Str × List Str => He.Fa.cls p.1) hp))))))))
  have gloF : ∀ p ∈ T.cl, (He.Fa.glo p.1).ok K = true := fun p hp => SaysD.of_mem c (List.mem_append_right _ (List.mem_append_right _ (List.mem_append_right _ (List.mem_append_right _ (List.mem_append_right _ (List.mem_append_left _ (List.mem_map_of_mem (f := fun p : Str × List Str => He.Fa.glo p.1) hp)))))))
  have noF : ∀ p ∈ T.cl, ∀ f ∈ p.2, (He.Fa.noat p.1 f).ok K = true := fun p hp f hf => SaysD.of_mem c (List.mem_append_right _ (List.mem_append_right _ (List.mem_append_right _ (List.mem_append_right _ (List.mem_append_right _ (List.mem_append_right _ (List.mem_append_right _ (List.mem_flatMap.mpr ⟨p, hp, List.mem_map_of_mem hf⟩))))))))
  refine ⟨fun id d e hk => ?_, fun id d ci f e hk => ?_, fun id d ci e hk => ?_, fun y d b hm => ?_, fun f d hm => ?_, fun x hx => ?_, fun k x i e => ?_, fun k x e => ?_⟩
  · have hm : d ∈ T.ds := List.mem_of_getElem? e
    rw [fadE id d e]
    refine ⟨glo d hm, ?_⟩
    have hdf : d.defD = some ⟨(d.name, none), d.name, d.name, defArgs d.st, defBody d.st, defScope d.st, [], []⟩ := by unfold Dd.defD; rw [hk]
    obtain ⟨fd, F⟩ := SaysD.def_mem c (d := ⟨(d.name, none), d.name, d.name, defArgs d.st, defBody d.st, defScope d.st, [], []⟩) (List.mem_filterMap.mpr ⟨d, hm, hdf⟩)
    have hb := ha.mem d hm
    unfold BindOk Dd.fnm at hb
    rw [hk] at hb
    exact ⟨fd, F, F.bindsN hb⟩
  · have hm : d ∈ T.ds := List.mem_of_getElem? e
    have o := co1 d hm
    rw [hk] at o
    simp only [Bool.and_eq_true, decide_eq_true_eq] at o
    rw [fadE id d e, cadE ci o.1, cnE ci _ o.2, fldE ci _ o.2]
    have hdf : d.defD = some ⟨(d.name, some "__init__"), "__init__", d.name ++ ".__init__", defArgs d.st, defBody d.st, defScope d.st, [], []⟩ := by unfold Dd.defD; rw [hk]
    obtain ⟨fd, F⟩ := SaysD.def_mem c (d := ⟨(d.name, some "__init__"), "__init__", d.name ++ ".__init__", defArgs d.st, defBody d.st, defScope d.st, [], []⟩) (List.mem_filterMap.mpr ⟨d, hm, hdf⟩)
    have hb := ha.mem d hm
    unfold BindOk Dd.fnm at hb
    rw [hk] at hb
    have f1 := fact d hm (.cls d.name) (by unfold Dd.fas; rw [hk]; simp)
    have f2 := fact d hm (.noat d.name f) (by unfold Dd.fas; rw [hk]; simp)
    have f3 := fact d hm (.mkr d.name) (by unfold Dd.fas; rw [hk]; simp)
    exact ⟨glo d hm, rfl, rfl, He.cls_ok f1, He.noat_ok f2, _, fd, _, He.mkr_ok f3, F, F.bindsN hb⟩
  · have hm : d ∈ T.ds := List.mem_of_getElem? e
    have o := co1 d hm
    rw [hk] at o
    simp only [Bool.and_eq_true, decide_eq_true_eq] at o
    rw [fadE id d e, cadE ci o.1, cnE ci _ o.2, fldE ci _ o.2]
    have z := List.all_eq_true.mp cx.1 d hm
    rw [hk] at z
    unfold mkzB at z
    simp only [Bool.and_eq_true, decide_eq_true_eq] at z
    exact ⟨glo d hm, rfl, rfl, z.1, He.eqO_ok z.2.1, z.2.2.1, z.2.2.2⟩
  · have o := List.all_eq_true.mp co.2.1 (y, d, b) hm
    have z := List.all_eq_true.mp cx.2 (y, d, b) hm
    simp only [Bool.and_eq_true, decide_eq_true_eq] at o z
    obtain ⟨⟨o1, o2⟩, o3⟩ := o
    obtain ⟨p, hp, ep⟩ := List.mem_map.mp o2
    obtain ⟨p', hp', ep'⟩ := List.mem_map.mp o3
    rw [cadE d o1]
    have z1 := z.1
    unfold insB at z1
    simp only [Bool.and_eq_true, decide_eq_true_eq] at z1
    have z2 := z.2
    unfold kitB at z2
    have c1 := He.cls_ok (clsF p' hp')
    rw [ep'] at c1
    refine ⟨He.ga K y, ?_, ⟨c1, He.eqO_ok z1.1, He.eqO_ok z1.2.1, z1.2.2.1, z1.2.2.2⟩, of_decide_eq_true z2⟩
    rw [← ep]
    exact He.glo_ok X G (gloF p hp)
  · have key : ∀ (n : Nat) (l : List (Str × List Str)), 50 ≤ n → (∀ i, l[i]? = T.cl[i + (n - 50)]?) → (f, d) ∈ idxA n l → 50 ≤ d ∧ ∃ x, T.cl[d - 50]? = some (x, [f]) := by
      intro n l
      induction l generalizing n with
      | nil => intro _ _ z; cases z
      | cons p l ih =>
        intro hn he z
        have rc : (f, d) ∈ idxA (n + 1) l → 50 ≤ d ∧ ∃ x, T.cl[d - 50]? = some (x, [f]) := fun z => ih (n + 1) (by omega) (fun i => by
          have := he (i + 1)
          rw [List.getElem?_cons_succ] at this
          rw [this]
          congr 1
          omega) z
        unfold idxA at z
        split at z
        · rename_i f' e'
          rcases List.mem_cons.mp z with q | z
          · cases q
            have := he 0
            rw [List.getElem?_cons_zero] at this
            refine ⟨hn, p.1, ?_⟩
            rw [Nat.zero_add] at this
            rw [← this, ← e']
          · exact rc z
        · exact rc z
    obtain ⟨h50, x, hx⟩ := key 50 T.cl (Nat.le_refl _) (fun i => rfl) hm
    have hp := List.mem_of_getElem? hx
    rw [cadE d h50, cnE d _ hx, fldE d _ hx]
    exact ⟨He.cls_ok (clsF _ hp), He.noat_ok (noF _ hp f (by simp)), rfl⟩
  · exact He.free_ok X G (SaysD.of_mem c (List.mem_append_right _ (List.mem_append_left _ (List.mem_map_of_mem hx))))
  · exact He.int_ok X G (SaysD.of_mem c (List.mem_append_right _ (List.mem_append_right _ (List.mem_append_left _ (List.mem_map.mpr ⟨(x, i), List.mem_of_getElem? e, rfl⟩)))))
  · have hm : x ∈ T.ge := List.mem_of_getElem? e
    have e1 : k < 50 → (T.pl K).cad k = He.ga K x := fun hk => by show (if k < 50 then (match T.ge[k]? with | some x => He.ga K x | none => 0) else _) = _; rw [if_pos hk, e]
    have hk : k < 50 := Nat.lt_of_lt_of_le (List.getElem?_eq_some_iff.mp e).1 (of_decide_eq_true co.2.2)
    rw [e1 hk]
    have g4 : (He.Fa.glo x).ok K = true := SaysD.of_mem c (List.mem_append_right _ (List.mem_append_right _ (List.mem_append_right _ (List.mem_append_left _ (List.mem_map_of_mem (f := He.Fa.glo) hm)))))
    have g5 : (He.Fa.exc x).ok K = true := SaysD.of_mem c (List.mem_append_right _ (List.mem_append_right _ (List.mem_append_right _ (List.mem_append_right _ (List.mem_append_left _ (List.mem_map_of_mem (f := He.Fa.exc) hm))))))
    exact ⟨He.glo_ok X G g4, He.exc_ok g5⟩
end Mx
/-! # Mx16: plain tools: what the small language's terms come to -/
namespace Mx
open PySem L2
abbrev Li (ns : List Int) : W := .lst (ns.map W.int)
theorem ints_map : ∀ ns : List Int, W.ints (ns.map W.int) = some ns
  | [] => rfl
  | n :: ns => by show (W.ints (ns.map W.int)).map (n :: ·) = _; rw [ints_map ns]; rfl
theorem bls_map : ∀ bs : List Bool, W.bls (bs.map W.bl) = some bs
  | [] => rfl
  | n :: ns => by show (W.bls (ns.map W.bl)).map (n :: ·) = _; rw [bls_map ns]; rfl
theorem pys_ints : ∀ ns : List Int, W.pys (ns.map W.int) = some (ns.map PyData.int)
  | [] => rfl
  | n :: ns => by
    rw [List.map_cons]
    unfold W.pys W.py
    rw [pys_ints ns]
    rfl
theorem eqv_ints : ∀ as bs : List Int, PyData.eqvAll (as.map PyData.int) (bs.map PyData.int) = decide (as = bs)
  | [], [] => by simp [PyData.eqvAll]
  | [], b :: bs => by simp [PyData.eqvAll]
  | a :: as, [] => by simp [PyData.eqvAll]
  | a :: as, b :: bs => by
    simp only [List.map_cons, PyData.eqvAll, PyData.eqv, eqv_ints as bs]
    by_cases h : a = b <;> by_cases h2 : as = bs <;> simp [h, h2]
theorem canLay_ints : ∀ ns : List Int, PyData.canLayAll0 (ns.map PyData.int) = true
  | [] => by simp [PyData.canLayAll0]
  | n :: ns => by simp [PyData.canLayAll0, PyData.canLay0, canLay_ints ns]
theorem depth_ints : ∀ ns : List Int, PyData.depthAll (ns.map PyData.int) = 0
  | [] => by simp [PyData.depthAll]
  | n :: ns => by simp [PyData.depthAll, PyData.depth, depth_ints ns]
theorem shaped_ints (ns : List Int) : SeqAt.shaped (.list (ns.map PyData.int)) = true := by
  unfold SeqAt.shaped
  simp [PyData.canLay0, canLay_ints, PyData.depth, depth_ints]
theorem py_Li (ns : List Int) : W.py (Li ns) = some (.list (ns.map PyData.int)) := by
  show W.py (.lst (ns.map W.int)) = _
  unfold W.py
  rw [pys_ints]
  rfl
theorem eqW_Li (as bs : List Int) : eqW (Li as) (Li bs) = .val (.bl (decide (as = bs))) := by
  unfold eqW
  rw [py_Li, py_Li]
  simp [shaped_ints, PyData.eqv, eqv_ints]
theorem neW_Li (as bs : List Int) : neW (Li as) (Li bs) = .val (.bl (!decide (as = bs))) := by
  unfold neW
  rw [py_Li, py_Li]
  simp [shaped_ints, PyData.eqv, eqv_ints]
theorem eqW_int (a b : Int) : eqW (.int a) (.int b) = .val (.bl (decide (a = b))) := by
  unfold eqW W.py
  simp [SeqAt.shaped, PyData.canLay0, PyData.depth, PyData.eqv]
  by_cases h : a = b <;> simp [h]
theorem neW_int (a b : Int) : neW (.int a) (.int b) = .val (.bl (!decide (a = b))) := by
  unfold neW W.py
  simp [SeqAt.shaped, PyData.canLay0, PyData.depth, PyData.eqv]
  by_cases h : a = b <;> simp [h]
theorem neW_scr (ns : List Int) : neW (.scr ns) (.lst []) = .val (.bl (!decide (ns = []))) := by
  have h := neW_Li ns []
  unfold neW at h ⊢
  rw [py_Li] at h
  have e : W.py (.scr ns) = some (.list (ns.map PyData.int)) := by unfold W.py; rfl
  rw [e]
  exact h
/-! ## the equations -/
section
variable (cf : Nat → List W → O) (cs : List Int) (σ : Sg)
theorem ev_var (i : Nat) : ev cf cs (.var i) σ = σ.get i := by simp only [ev]
theorem ev_cst (w : W) : ev cf cs (.cst w) σ = .val w := by simp only [ev]
theorem ev_gci (k : Nat) : ev cf cs (.gci k) σ = (match cs[k]? with | some i => .val (.int i) | none => .bad) := by simp only [ev] <;> rfl
theorem ev_op (o : Op) (es : List E) : ev cf cs (.op o es) σ = (evs cf cs es σ).bind (opS o) := by simp only [ev]
theorem ev_tup (es : List E) : ev cf cs (.tup es) σ = (evs cf cs es σ).bind fun ws => .val (.tup ws) := by simp only [ev]
theorem ev_lst (es : List E) : ev cf cs (.lst es) σ = (evs cf cs es σ).bind fun ws => .val (.lst ws) := by simp only [ev]
theorem ev_call (f : Nat) (es : List E) : ev cf cs (.call f es) σ = (evs cf cs es σ).bind (cf f) := by simp only [ev]
theorem ev_and (es : List E) : ev cf cs (.and es) σ = evAnd cf cs es σ := by simp only [ev]
theorem ev_or (es : List E) : ev cf cs (.or es) σ = evOr cf cs es σ := by simp only [ev]
theorem ev_not (e : E) : ev cf cs (.not e) σ = (ev cf cs e σ).bind fun w => match w with | .bl b => .val (.bl (!b)) | _ => .bad := by simp only [ev] <;> rfl
theorem ev_ifx (c a b : E) : ev cf cs (.ifx c a b) σ = (ev cf cs c σ).bind fun w => match w with | .bl true => ev cf cs a σ | .bl false => ev cf cs b σ | _ => .bad := by simp only [ev] <;> rfl
theorem ev_chain (o1 o2 : Op) (a b c : E) : ev cf cs (.chain o1 o2 a b c) σ = (ev cf cs a σ).bind fun x => (ev cf cs b σ).bind fun y => (opS o1 [x, y]).bind fun k => match k with
    | .bl true => (ev cf cs c σ).bind fun z => opS o2 [y, z]
    | .bl false => .val (.bl false)
    | _ => .bad := by simp only [ev] <;> rfl
theorem ev_chain3 (o1 o2 o3 : Op) (a b c d : E) : ev cf cs (.chain3 o1 o2 o3 a b c d) σ = (ev cf cs a σ).bind fun x => (ev cf cs b σ).bind fun y => (opS o1 [x, y]).bind fun k => match k with
    | .bl true => (ev cf cs c σ).bind fun z => (opS o2 [y, z]).bind fun k2 => match k2 with
      | .bl true => (ev cf cs d σ).bind fun u => opS o3 [z, u]
      | .bl false => .val (.bl false)
      | _ => .bad
    | .bl false => .val (.bl false)
    | _ => .bad := by simp only [ev] <;> rfl
theorem evs_nil : evs cf cs [] σ = .vals [] := by simp only [evs]
theorem evs_cons (e : E) (es : List E) : evs cf cs (e :: es) σ = (match ev cf cs e σ with
    | .val w => (match evs cf cs es σ with | .vals ws => .vals (w :: ws) | .exc c => .exc c | .bad => .bad)
    | .exc c => .exc c
    | .bad => .bad) := by simp only [evs] <;> rfl
theorem exL_nil : exL cf cs [] σ = .nx σ := by simp only [exL]
theorem exL_cons (s : S) (ss : List S) : exL cf cs (s :: ss) σ = (match exS cf cs s σ with | .nx σ' => exL cf cs ss σ' | r => r) := by
  first
    | (rw [exL]; done)
    | (rw [exL]; cases exS cf cs s σ <;> rfl)
theorem exL_asg (i : Nat) (m : Md) (e : E) (ss : List S) {w : W} (h : ev cf cs e σ = .val w) : exL cf cs (.asg i m e :: ss) σ = exL cf cs ss (σ.set i (some w)) := by
  rw [exL_cons]
  simp only [exS, h, ofO]
theorem exL_exp (e : E) (ss : List S) {w : W} (h : ev cf cs e σ = .val w) : exL cf cs (.exp e :: ss) σ = exL cf cs ss σ := by
  rw [exL_cons]
  simp only [exS, h, ofO]
theorem exL_ret (e : E) (ss : List S) {w : W} (h : ev cf cs e σ = .val w) : exL cf cs (.ret e :: ss) σ = .rt w := by
  rw [exL_cons]
  simp only [exS, h, ofO]
theorem exL_retV (i : Nat) (ss : List S) {w : W} (h : σ.get i = .val w) : exL cf cs (.retV i :: ss) σ = .rt w := by
  rw [exL_cons]
  simp only [exS, h]
theorem exL_kil (i : Nat) (ss : List S) : exL cf cs (.kil i :: ss) σ = exL cf cs ss (σ.set i none) := by
  rw [exL_cons]
  simp only [exS, wipeW]
theorem exL_frz (i : Nat) (ss : List S) : exL cf cs (.frz i :: ss) σ = exL cf cs ss σ := by
  rw [exL_cons]
  simp only [exS]
theorem exL_ifT (c : E) (a b ss : List S) (h : ev cf cs c σ = .val (.bl true)) : exL cf cs (.ifs c a b :: ss) σ = (match exL cf cs a σ with | .nx σ' => exL cf cs ss σ' | r => r) := by
  rw [exL_cons]
  simp only [exS, h, ofO]
theorem exL_ifF (c : E) (a b ss : List S) (h : ev cf cs c σ = .val (.bl false)) : exL cf cs (.ifs c a b :: ss) σ = (match exL cf cs b σ with | .nx σ' => exL cf cs ss σ' | r => r) := by
  rw [exL_cons]
  simp only [exS, h, ofO]
theorem exL_ifF0 (c : E) (a ss : List S) (h : ev cf cs c σ = .val (.bl false)) : exL cf cs (.ifs c a [] :: ss) σ = exL cf cs ss σ := by
  rw [exL_ifF (h := h), exL_nil]
theorem exL_ifTr (c : E) (a b ss : List S) {w : W} (h : ev cf cs c σ = .val (.bl true)) (h2 : exL cf cs a σ = .rt w) : exL cf cs (.ifs c a b :: ss) σ = .rt w := by
  rw [exL_ifT (h := h), h2]
theorem exL_app (i : Nat) (e : E) (wp : List Nat) (ss : List S) {w : W} {ws : List W} (h1 : σ.get i = .val (.lst ws)) (h : ev cf cs e σ = .val w) (hl : ws.length < LIM) : exL cf cs (.app i e wp :: ss) σ = exL cf cs ss (wipeW (σ.set i (some (.lst (ws ++ [w])))) wp) := by
  rw [exL_cons]
  simp only [exS, h1, h, ofO, hl, if_true]
/-- a loop, what it makes -/
theorem exL_for (tg : Tg) (it : It) (body ss : List S) {items : List W} {σ' : Sg} (h : evIt cf cs it σ = some items) (h2 : forW (tgR tg fun s => exL cf cs body s) items (wipeW σ tg.ix) = .nx σ') : exL cf cs (.forS tg it body :: ss) σ = exL cf cs ss σ' := by
  rw [exL_cons]
  simp only [exS, h, h2]
theorem ev_comp (elt : E) (i : Nat) (it : It) {β : Type} {xs : List β} {φ g : β → W} (h : evIt cf cs it σ = some (xs.map φ)) (hf : ∀ x ∈ xs, ev cf cs elt ((σ.set i none).set i (some (φ x))) = .val (g x)) : ev cf cs (.comp elt (.nm i) it none [i]) σ = .val (.lst (xs.map g)) := by
  simp only [ev, h]
  have : ∀ ys : List β, (∀ x ∈ ys, x ∈ xs) → compW (tgB (.nm i) [i] σ fun σ' => ev cf cs elt σ') (tgB (.nm i) [i] σ fun σ' => evO cf cs none σ') (ys.map φ) = some (ys.map g) := by
    intro ys
    induction ys with
    | nil => intro _; rfl
    | cons y ys ih =>
      intro hy
      rw [List.map_cons, compW_cons]
      simp only [tgB, tgS, wipeW, evO]
      rw [hf y (hy y List.mem_cons_self)]
      simp only [tgB, tgS, wipeW, evO] at ih
      rw [ih fun x hx => hy x (List.mem_cons_of_mem _ hx)]
      rfl
  rw [this xs fun _ h => h]
theorem ev_compIf (elt : E) (i : Nat) (it : It) (cd : E) {β : Type} {xs : List β} {φ g : β → W} {p : β → Bool} (h : evIt cf cs it σ = some (xs.map φ)) (hc : ∀ x ∈ xs, ev cf cs cd ((σ.set i none).set i (some (φ x))) = .val (.bl (p x)))
    (hf : ∀ x ∈ xs, p x = true → ev cf cs elt ((σ.set i none).set i (some (φ x))) = .val (g x)) : ev cf cs (.comp elt (.nm i) it (some cd) [i]) σ = .val (.lst ((xs.filter p).map g)) := by
  simp only [ev, h]
  have : ∀ ys : List β, (∀ x ∈ ys, x ∈ xs) → compW (tgB (.nm i) [i] σ fun σ' => ev cf cs elt σ') (tgB (.nm i) [i] σ fun σ' => evO cf cs (some cd) σ') (ys.map φ) = some ((ys.filter p).map g) := by
    intro ys
    induction ys with
    | nil => intro _; rfl
    | cons y ys ih =>
      intro hy
      rw [List.map_cons, compW_cons]
      simp only [tgB, tgS, wipeW, evO]
      simp only [tgB, tgS, wipeW, evO] at ih
      rw [hc y (hy y List.mem_cons_self)]
      cases hp : p y with
      | true =>
        simp only
        rw [hf y (hy y List.mem_cons_self) hp, ih fun x hx => hy x (List.mem_cons_of_mem _ hx), List.filter_cons_of_pos hp]
        rfl
      | false =>
        simp only
        rw [ih fun x hx => hy x (List.mem_cons_of_mem _ hx), List.filter_cons_of_neg (by rw [hp]; decide)]
  rw [this xs fun _ h => h]
end
/-- a loop over one name: P tells what holds behind the items so far -/
theorem for1 {i : Nat} {k : Sg → R} {α β : Type} {xs : List β} {φ : β → W} (st : α → Sg) (P : List β → α → Prop) (hst : ∀ a, (st a).set i none = st a)
    (hs : ∀ pre x post a, xs = pre ++ x :: post → P pre a → ∃ a' o, k ((st a).set i (some (φ x))) = .nx ((st a').set i o) ∧ P (pre ++ [x]) a') :
    ∀ a, P [] a → ∃ a' o, forW (tgR (.nm i) k) (xs.map φ) (st a) = .nx ((st a').set i o) ∧ P xs a' := by
  have go : ∀ (post pre : List β) (a : α) (o : Option W), xs = pre ++ post → P pre a → ∃ a' o', forW (tgR (.nm i) k) (post.map φ) ((st a).set i o) = .nx ((st a').set i o') ∧ P xs a' := by
    intro post
    induction post with
    | nil =>
      intro pre a o e p
      rw [List.append_nil] at e
      subst e
      exact ⟨a, o, rfl, p⟩
    | cons x post ih =>
      intro pre a o e p
      obtain ⟨a', o', h1, h2⟩ := hs pre x post a e p
      obtain ⟨a2, o2, h3, h4⟩ := ih (pre ++ [x]) a' o' (by rw [e, List.append_assoc]; rfl) h2
      refine ⟨a2, o2, ?_, h4⟩
      rw [List.map_cons]
      unfold forW
      have e1 : tgR (.nm i) k (φ x) ((st a).set i o) = k ((st a).set i (some (φ x))) := by
        simp only [tgR, tgS, Tg.ix, wipeW, List.set_set]
      rw [e1, h1]
      exact h3
  intro a p
  have := go xs [] a none rfl p
  rwa [hst] at this
/-- over two names, pairs -/
theorem for2 {i j : Nat} {k : Sg → R} {α β : Type} {xs : List β} {φ ψ : β → W} (st : α → Sg) (P : List β → α → Prop) (hij : i ≠ j) (hst : ∀ a, ((st a).set j none).set i none = st a)
    (hs : ∀ pre x post a, xs = pre ++ x :: post → P pre a → ∃ a' o p, k (((st a).set i (some (φ x))).set j (some (ψ x))) = .nx (((st a').set i o).set j p) ∧ P (pre ++ [x]) a') :
    ∀ a, P [] a → ∃ a' o p, forW (tgR (.tp [i, j]) k) (xs.map fun x => .tup [φ x, ψ x]) (st a) = .nx (((st a').set i o).set j p) ∧ P xs a' := by
  have cm : ∀ (l : Sg) (x y : Option W), (l.set i x).set j y = (l.set j y).set i x := fun l x y => List.set_comm _ _ hij
  have go : ∀ (post pre : List β) (a : α) (o p : Option W), xs = pre ++ post → P pre a → ∃ a' o' p', forW (tgR (.tp [i, j]) k) (post.map fun x => .tup [φ x, ψ x]) (((st a).set i o).set j p) = .nx (((st a').set i o').set j p') ∧ P xs a' := by
    intro post
    induction post with
    | nil =>
      intro pre a o q e p
      rw [List.append_nil] at e
      subst e
      exact ⟨a, o, q, rfl, p⟩
    | cons x post ih =>
      intro pre a o q e p
      obtain ⟨a', o', p', h1, h2⟩ := hs pre x post a e p
      obtain ⟨a2, o2, p2, h3, h4⟩ := ih (pre ++ [x]) a' o' p' (by rw [e, List.append_assoc]; rfl) h2
      refine ⟨a2, o2, p2, ?_, h4⟩
      rw [List.map_cons]
      unfold forW
      have e1 : tgR (.tp [i, j]) k (.tup [φ x, ψ x]) (((st a).set i o).set j q) = k (((st a).set i (some (φ x))).set j (some (ψ x))) := by
        simp only [tgR, tgS, Tg.ix, wipeW, setAll, List.set_set]
        rw [cm, List.set_set, cm, List.set_set, cm _ (some _) (some _)]
      rw [e1, h1]
      exact h3
  intro a p
  have := go xs [] a none none rfl p
  rw [cm, hst] at this
  exact this
theorem callN_eq {T : Tb} {n f : Nat} {d : Dd} {ws : List W} (h : T.ds[f]? = some d ∧ d.kd = .fn) (hl : ws.length = d.ps.length) : callN T (n + 1) f ws = ofR (exL (callN T n) T.cs d.ir (startW d ws)) := by
  rw [callN, h.1]
  simp only [h.2, hl, if_true]
theorem callN_rt {T : Tb} {n f : Nat} {d : Dd} {ws : List W} {w : W} (h : T.ds[f]? = some d ∧ d.kd = .fn) (hl : ws.length = d.ps.length) (e : exL (callN T n) T.cs d.ir (startW d ws) = .rt w) : callN T (n + 1) f ws = .val w := by
  rw [callN_eq h hl, e]
  rfl
theorem callN_nx {T : Tb} {n f : Nat} {d : Dd} {ws : List W} {σ : Sg} (h : T.ds[f]? = some d ∧ d.kd = .fn) (hl : ws.length = d.ps.length) (e : exL (callN T n) T.cs d.ir (startW d ws) = .nx σ) : callN T (n + 1) f ws = .val .non := by
  rw [callN_eq h hl, e]
  rfl
/-! ## numbers -/
theorem mulOk_of {a b : Int} {p q : Nat} (ha : a.natAbs < 2 ^ p) (hb : b.natAbs < 2 ^ q) (h : p + q ≤ 99999999) : mulOk a b = true := by
  unfold mulOk
  rw [decide_eq_true_eq]
  have h1 : a.natAbs.log2 ≤ p := by
    by_cases z : a.natAbs = 0
    · rw [z]; simp
    · exact Nat.le_of_lt ((Nat.log2_lt z).mpr ha)
  have h2 : b.natAbs.log2 ≤ q := by
    by_cases z : b.natAbs = 0
    · rw [z]; simp
    · exact Nat.le_of_lt ((Nat.log2_lt z).mpr hb)
  omega
theorem atI_nat {α : Type} (xs : List α) (k : Nat) (h : k < xs.length) : atI xs (k : Int) = xs[k]? := by
  unfold atI ixN
  rw [if_pos (by omega), if_pos (by omega)]
  simp
theorem atI_neg1 {α : Type} (xs : List α) (x : α) : atI (xs ++ [x]) (-1) = some x := by
  have h : ixN (xs ++ [x]).length (-1) = some xs.length := by
    unfold ixN
    rw [if_neg (by omega), List.length_append, List.length_singleton]
    split
    · congr 1
      omega
    · omega
  unfold atI
  rw [h]
  simp
theorem cut_to (xs : List W) (k : Nat) : cutW xs none (some (k : Int)) = xs.take k := by
  unfold cutW
  rw [HT.sIx_none, HT.sIx_nat]
  rw [List.drop_zero, Nat.sub_zero]
  rw [List.take_eq_take_iff]
  omega
theorem cut_from (xs : List W) (k : Nat) : cutW xs (some (k : Int)) none = xs.drop k := by
  unfold cutW
  rw [HT.sIx_none, HT.sIx_nat]
  by_cases h : k ≤ xs.length
  · rw [Nat.min_eq_left h, List.take_of_length_le (by rw [List.length_drop]; exact Nat.le_refl _)]
  · rw [Nat.min_eq_right (by omega), List.drop_length, List.drop_eq_nil_of_le (by omega)]
    simp
theorem rngW_nat {k : Nat} (h : k ≤ 100000) : rngW 0 (k : Int) = some ((List.range k).map fun (i : Nat) => .int (i : Int)) := by
  unfold rngW
  rw [if_pos ⟨by show (k : Int) - 0 ≤ (100000 : Int); omega, by omega, by omega, by omega, by omega⟩]
  simp
theorem enum_ints : ∀ (k : Nat) (ns : List Int), enumFrom k (ns.map W.int) = (ns.zipIdx k).map fun p => .tup [.int (p.2 : Nat), .int p.1]
  | _, [] => rfl
  | k, n :: ns => by
    rw [List.map_cons, List.zipIdx_cons, List.map_cons]
    unfold enumFrom
    rw [enum_ints (k + 1) ns]
end Mx
/-! # Mx17: shares: the defs that reckon with them, for any table that has them -/
namespace Mx
open PySem L2
theorem ev_flat (cf : Nat → List W → O) (cs : List Int) (σ : Sg) (e : E) : ev cf cs (.flat e) σ = (ev cf cs e σ).bind fun w => if w.isFlat then .val w else .bad := by simp only [ev] <;> rfl
theorem fmod_abs_lt (a : Int) {b : Int} (h : b ≠ 0) : (a.fmod b).natAbs < b.natAbs := by
  rcases Int.lt_or_gt_of_ne h with h | h
  · have h1 : a.fmod b = -((-a).fmod (-b)) := by rw [Int.neg_fmod_neg, Int.neg_neg]
    have h2 := Int.fmod_nonneg_of_pos (-a) (show 0 < -b by omega)
    have h3 := Int.fmod_lt_of_pos (-a) (show 0 < -b by omega)
    omega
  · have h2 := Int.fmod_nonneg_of_pos a h
    have h3 := Int.fmod_lt_of_pos a h
    omega
theorem fmod_sub (a b : Int) : ∃ q, a.fmod b = a - b * q := ⟨a.fdiv b, by have := Int.mul_fdiv_add_fmod a b; omega⟩
theorem gcd_fmod (a b : Int) : Int.gcd b (a.fmod b) = Int.gcd a b := by
  obtain ⟨q, h⟩ := fmod_sub a b
  rw [h, Int.sub_eq_add_neg, ← Int.mul_neg]
  rw [Int.gcd_add_mul_left_right, Int.gcd_comm]
/-- two turns halve -/
theorem fmod_half (a : Int) {b : Int} (h : b ≠ 0) (hr : a.fmod b ≠ 0) : 2 * (b.fmod (a.fmod b)).natAbs < b.natAbs := by
  have h1 := fmod_abs_lt a h
  have h2 := fmod_abs_lt b hr
  rcases Int.lt_or_gt_of_ne h with hb | hb
  · have e1 : a.fmod b = -((-a).fmod (-b)) := by rw [Int.neg_fmod_neg, Int.neg_neg]
    have p1 := Int.fmod_nonneg_of_pos (-a) (show 0 < -b by omega)
    have p2 := Int.fmod_lt_of_pos (-a) (show 0 < -b by omega)
    generalize (-a).fmod (-b) = r at e1 p1 p2
    rw [e1] at hr h1 h2 ⊢
    have e2 : b.fmod (-r) = -((-b).fmod r) := by rw [← Int.neg_fmod_neg, Int.neg_neg]
    have hr0 : 0 < r := by omega
    have e3 := Int.mul_fdiv_add_fmod (-b) r
    have q1 := Int.fmod_nonneg_of_pos (-b) hr0
    have q2 := Int.fmod_lt_of_pos (-b) hr0
    have q3 : 1 ≤ (-b).fdiv r := by
      rw [Int.fdiv_eq_ediv_of_nonneg _ (by omega)]
      exact (Int.le_ediv_iff_mul_le hr0).mpr (by omega)
    have q4 : r * 1 ≤ r * (-b).fdiv r := Int.mul_le_mul_of_nonneg_left q3 (by omega)
    rw [e2]
    omega
  · have p1 := Int.fmod_nonneg_of_pos a hb
    have p2 := Int.fmod_lt_of_pos a hb
    generalize a.fmod b = r at hr h1 h2 p1 p2
    have hr0 : 0 < r := by omega
    have e3 := Int.mul_fdiv_add_fmod b r
    have q1 := Int.fmod_nonneg_of_pos b hr0
    have q2 := Int.fmod_lt_of_pos b hr0
    have q3 : 1 ≤ b.fdiv r := by
      rw [Int.fdiv_eq_ediv_of_nonneg _ (by omega)]
      exact (Int.le_ediv_iff_mul_le hr0).mpr (by omega)
    have q4 : r * 1 ≤ r * b.fdiv r := Int.mul_le_mul_of_nonneg_left q3 (by omega)
    omega
/-- the loop that finds what is common -/
theorem euclid {c : Sg → O} {f : Sg → R} (st : Int → Int → Sg) (P : Int → Prop) (hP : ∀ a b : Int, P b → b ≠ 0 → P (a.fmod b)) (p : Int → Bool) (hc : ∀ a b, c (st a b) = .val (.bl (p b))) (hp : ∀ b, P b → (p b = true ↔ b ≠ 0)) (hf : ∀ a b : Int, b ≠ 0 → f (st a b) = .nx (st b (a.fmod b))) :
    ∀ (k : Nat) (a b : Int), P b → b.natAbs < 2 ^ k → ∀ n, 2 * k + 1 ≤ n → ∃ g, whW c f n (st a b) = .nx (st g 0) ∧ g.natAbs = Int.gcd a b ∧ (P a → P g) := by
  have stop : ∀ (a b : Int), P b → b = 0 → ∀ n, 1 ≤ n → ∃ g, whW c f n (st a b) = .nx (st g 0) ∧ g.natAbs = Int.gcd a b ∧ (P a → P g) := by
    intro a b hb e n hn
    subst e
    obtain ⟨n, rfl⟩ : ∃ m, n = m + 1 := ⟨n - 1, by omega⟩
    have : p 0 = false := by
      cases q : p 0 with
      | false => rfl
      | true => exact absurd rfl ((hp 0 hb).mp q)
    refine ⟨a, ?_, by simp, id⟩
    unfold whW
    rw [hc, this]
    rfl
  have turn : ∀ (a b : Int), P b → b ≠ 0 → ∀ n, whW c f (n + 1) (st a b) = whW c f n (st b (a.fmod b)) := by
    intro a b hb e n
    conv => lhs; unfold whW
    rw [hc, (hp b hb).mpr e]
    simp only [ofO]
    rw [hf a b e]
  intro k
  induction k with
  | zero =>
    intro a b hb h n hn
    exact stop a b hb (by simp at h; omega) n (by omega)
  | succ k ih =>
    intro a b hb h n hn
    by_cases e : b = 0
    · exact stop a b hb e n (by omega)
    · obtain ⟨n, rfl⟩ : ∃ m, n = m + 1 := ⟨n - 1, by omega⟩
      rw [turn a b hb e]
      have hb2 := hP a b hb e
      by_cases e2 : a.fmod b = 0
      · obtain ⟨g, h1, h2, h3⟩ := stop b (a.fmod b) hb2 e2 n (by omega)
        exact ⟨g, h1, by rw [h2, gcd_fmod], fun _ => h3 hb⟩
      · obtain ⟨n, rfl⟩ : ∃ m, n = m + 1 := ⟨n - 1, by omega⟩
        rw [turn b (a.fmod b) hb2 e2]
        have hh := fmod_half a e e2
        obtain ⟨g, h1, h2, h3⟩ := ih (a.fmod b) (b.fmod (a.fmod b)) (hP _ _ hb2 e2) (by rw [Nat.pow_succ] at h; omega) n (by omega)
        exact ⟨g, h1, by rw [h2, gcd_fmod, gcd_fmod], fun _ => h3 hb2⟩
/-- a def of the table by its text -/
def Is (T : Tb) (f ar nn : Nat) (ir : List S) : Prop := ∃ d, (T.ds[f]? = some d ∧ d.kd = .fn) ∧ d.ps.length = ar ∧ d.N.length = nn ∧ d.ir = ir
theorem Is.rt {T : Tb} {n f ar nn : Nat} {ir : List S} {ws : List W} {w : W} (h : Is T f ar nn ir) (hl : ws.length = ar) (e : exL (callN T n) T.cs ir (ws.map some ++ List.replicate (nn - ws.length) none) = .rt w) : callN T (n + 1) f ws = .val w := by
  obtain ⟨d, h1, h2, h3, h4⟩ := h
  refine callN_rt h1 (by rw [hl, h2]) ?_
  unfold startW
  rw [h4, h3]
  exact e
theorem exL_whl (cf : Nat → List W → O) (cs : List Int) (σ : Sg) (n : Nat) (c : E) (body ss : List S) {σ' : Sg} (h : whW (fun s => ev cf cs c s) (fun s => exL cf cs body s) n σ = .nx σ') : exL cf cs (.whl n c body :: ss) σ = exL cf cs ss σ' := by
  rw [exL_cons]
  simp only [exS, h]
theorem exL_asgT (cf : Nat → List W → O) (cs : List Int) (σ : Sg) (is : List Nat) (es : List E) (ss : List S) {ws : List W} {σ' : Sg} (h : evs cf cs es σ = .vals ws) (h2 : setAll σ is ws = some σ') : exL cf cs (.asgT is es :: ss) σ = exL cf cs ss σ' := by
  rw [exL_cons]
  simp only [exS, h, h2]
theorem exL_unp (cf : Nat → List W → O) (cs : List Int) (σ : Sg) (is : List Nat) (e : E) (ss : List S) {ws : List W} {σ' : Sg} (h : ev cf cs e σ = .val (.tup ws)) (h2 : setAll (wipeW σ is) is ws = some σ') : exL cf cs (.unp is e :: ss) σ = exL cf cs ss σ' := by
  rw [exL_cons]
  simp only [exS, h, ofO, tgS, h2]
theorem exL_setT (cf : Nat → List W → O) (cs : List Int) (σ : Sg) (ts : List (Nat × E × Option E)) (es : List E) (wp : List Nat) (ss : List S) {ws : List W} {σ' : Sg} (h : evs cf cs es σ = .vals ws) (h2 : stosW cf cs ts ws (wipeW σ wp) = some σ') : exL cf cs (.setT ts es wp :: ss) σ = exL cf cs ss σ' := by
  rw [exL_cons]
  simp only [exS, h, h2]
/-! ## common, lowest -/
def irCommon : List S := [.whl 1000000 (.op .ne [.flat (.var 1), .cst (.int 0)]) [.asgT [0, 1] [.flat (.var 1), .op .mod [.flat (.var 0), .flat (.var 1)]], .frz 0, .frz 1], .ret (.op .abs [.flat (.var 0)])]
theorem common_ok {T : Tb} {n f : Nat} (h : Is T f 2 2 irCommon) (a b : Int) {k : Nat} (hk : k ≤ 400000) (hb : b.natAbs < 2 ^ k) : callN T (n + 1) f [.int a, .int b] = .val (.int (Int.gcd a b)) := by
  refine h.rt rfl ?_
  show exL (callN T n) T.cs irCommon [some (.int a), some (.int b)] = _
  obtain ⟨g, h1, h2, h3⟩ := euclid (c := fun s => ev (callN T n) T.cs (.op .ne [.flat (.var 1), .cst (.int 0)]) s) (f := fun s => exL (callN T n) T.cs [.asgT [0, 1] [.flat (.var 1), .op .mod [.flat (.var 0), .flat (.var 1)]], .frz 0, .frz 1] s)
    (fun a b => [some (.int a), some (.int b)]) (fun _ => True) (fun _ _ _ _ => trivial) (fun b => !decide (b = 0)) (fun a b => by simp [ev_var, ev_cst, ev_gci, ev_op, ev_tup, ev_lst, ev_call, ev_and, ev_or, ev_not, ev_ifx, ev_chain, evs_nil, evs_cons, evAnd, evOr, O.bind, Os.bind, opS, addS, subS, mulS, fdivS, modS, powS, negS, eqS, neS, ltS, leS, gtS, geS, lenS, sumS, absS, max1S, min1S, max2S, min2S, all1S, any1S, int1S, isiS, isiT, ixS, catS, repS, slcAS, slcBS, revS, sortedS, listS, rngLS, flIf, Mx.Sg.get, startW, ints_map, bls_map, eqW_Li, neW_Li, eqW_int, neW_int, ev_flat, W.isFlat, W.isFlats]) (fun b _ => by simp) (fun a b hb => by
      rw [exL_asgT (ws := [.int b, .int (a.fmod b)]) (h := by simp [ev_var, ev_cst, ev_gci, ev_op, ev_tup, ev_lst, ev_call, ev_and, ev_or, ev_not, ev_ifx, ev_chain, evs_nil, evs_cons, evAnd, evOr, O.bind, Os.bind, opS, addS, subS, mulS, fdivS, modS, powS, negS, eqS, neS, ltS, leS, gtS, geS, lenS, sumS, absS, max1S, min1S, max2S, min2S, all1S, any1S, int1S, isiS, isiT, ixS, catS, repS, slcAS, slcBS, revS, sortedS, listS, rngLS, flIf, Mx.Sg.get, startW, ints_map, bls_map, eqW_Li, neW_Li, eqW_int, neW_int, ev_flat, W.isFlat, W.isFlats, hb]) (h2 := rfl), exL_frz, exL_frz, exL_nil]
      rfl) k a b trivial hb 1000000 (by omega)
  refine (exL_whl _ _ _ _ _ _ _ h1).trans (exL_ret _ _ _ _ _ ?_)
  have e : (if g < 0 then -g else g) = (Int.gcd a b : Int) := by rw [← h2]; split <;> omega
  simp [ev_var, ev_cst, ev_gci, ev_op, ev_tup, ev_lst, ev_call, ev_and, ev_or, ev_not, ev_ifx, ev_chain, evs_nil, evs_cons, evAnd, evOr, O.bind, Os.bind, opS, addS, subS, mulS, fdivS, modS, powS, negS, eqS, neS, ltS, leS, gtS, geS, lenS, sumS, absS, max1S, min1S, max2S, min2S, all1S, any1S, int1S, isiS, isiT, ixS, catS, repS, slcAS, slcBS, revS, sortedS, listS, rngLS, flIf, Mx.Sg.get, startW, ints_map, bls_map, eqW_Li, neW_Li, eqW_int, neW_int, ev_flat, W.isFlat, W.isFlats, e]
/-- a share -/
def pt (q : Rat) : W := .tup [.int q.num, .int q.den]
theorem pt_flat (q : Rat) : (pt q).isFlat = true := by simp [pt, W.isFlat, W.isFlats]
def irLowest (c : Nat) : List S := [.asg 2 (.flat) (.call c [.flat (.var 0), .flat (.var 1)]),
  .ret (.ifx (.op .gt [.flat (.var 1), .cst (.int 0)]) (.tup [.op .fdiv [.flat (.var 0), .var 2], .op .fdiv [.flat (.var 1), .var 2]]) (.tup [.op .fdiv [.op .neg [.flat (.var 0)], .var 2], .op .fdiv [.op .neg [.flat (.var 1)], .var 2]]))]
theorem divInt_pos (a : Int) {b : Int} (h : 0 < b) : (Rat.divInt a b).num = a / (Int.gcd a b : Int) ∧ ((Rat.divInt a b).den : Int) = b / (Int.gcd a b : Int) := by
  constructor
  · rw [Rat.num_divInt, Int.sign_eq_one_of_pos h, Int.one_mul, Int.gcd_comm]
  · rw [Rat.den_divInt, if_neg (by omega), Int.gcd_comm]
    rw [Int.natCast_ediv, Int.natAbs_of_nonneg (by omega)]
theorem divOk_gcd {a b : Int} (hb : b ≠ 0) {k : Nat} (hk : k ≤ 9000) (h : b.natAbs < 2 ^ k) : divOk (Int.gcd a b : Int) = true := by
  unfold divOk
  simp only [Bool.and_eq_true, decide_eq_true_eq]
  have h0 : 0 < Int.gcd a b := Int.gcd_pos_of_ne_zero_right _ hb
  have h1 : Int.gcd a b ≤ b.natAbs := Nat.le_of_dvd (by omega) (Int.gcd_dvd_natAbs_right a b)
  refine ⟨by omega, ?_⟩
  rw [Int.natAbs_natCast]
  exact Nat.lt_of_lt_of_le ((Nat.log2_lt (by omega)).mpr (Nat.lt_of_le_of_lt h1 h)) hk
theorem lowest_ok {T : Tb} {n c f : Nat} (hc : Is T c 2 2 irCommon) (h : Is T f 2 3 (irLowest c)) (a : Int) {b : Int} (hb0 : b ≠ 0) {k : Nat} (hk : k ≤ 9000) (hb : b.natAbs < 2 ^ k) : callN T (n + 2) f [.int a, .int b] = .val (pt (Rat.divInt a b)) := by
  refine h.rt rfl ?_
  show exL (callN T (n + 1)) T.cs (irLowest c) [some (.int a), some (.int b), none] = _
  have hcm := common_ok (n := n) hc a b (k := k) (by omega) hb
  have d := divOk_gcd (a := a) hb0 hk hb
  refine (exL_asg _ _ _ _ _ _ _ (w := .int (Int.gcd a b)) (by simp [ev_var, ev_cst, ev_gci, ev_op, ev_tup, ev_lst, ev_call, ev_and, ev_or, ev_not, ev_ifx, ev_chain, evs_nil, evs_cons, evAnd, evOr, O.bind, Os.bind, opS, addS, subS, mulS, fdivS, modS, powS, negS, eqS, neS, ltS, leS, gtS, geS, lenS, sumS, absS, max1S, min1S, max2S, min2S, all1S, any1S, int1S, isiS, isiT, ixS, catS, repS, slcAS, slcBS, revS, sortedS, listS, rngLS, flIf, Mx.Sg.get, startW, ints_map, bls_map, eqW_Li, neW_Li, eqW_int, neW_int, ev_flat, W.isFlat, W.isFlats, hcm])).trans (exL_ret _ _ _ _ _ ?_)
  by_cases hp : 0 < b
  · obtain ⟨e1, e2⟩ := divInt_pos a hp
    unfold pt
    rw [e1, e2]
    simp [ev_var, ev_cst, ev_gci, ev_op, ev_tup, ev_lst, ev_call, ev_and, ev_or, ev_not, ev_ifx, ev_chain, evs_nil, evs_cons, evAnd, evOr, O.bind, Os.bind, opS, addS, subS, mulS, fdivS, modS, powS, negS, eqS, neS, ltS, leS, gtS, geS, lenS, sumS, absS, max1S, min1S, max2S, min2S, all1S, any1S, int1S, isiS, isiT, ixS, catS, repS, slcAS, slcBS, revS, sortedS, listS, rngLS, flIf, Mx.Sg.get, startW, ints_map, bls_map, eqW_Li, neW_Li, eqW_int, neW_int, ev_flat, W.isFlat, W.isFlats, hp, d]
  · have hp' : ¬ (0 < b) := hp
    obtain ⟨e1, e2⟩ := divInt_pos (-a) (show 0 < -b by omega)
    rw [Int.neg_gcd, Int.gcd_neg] at e1 e2
    rw [← Rat.neg_divInt_neg]
    unfold pt
    rw [e1, e2]
    simp [ev_var, ev_cst, ev_gci, ev_op, ev_tup, ev_lst, ev_call, ev_and, ev_or, ev_not, ev_ifx, ev_chain, evs_nil, evs_cons, evAnd, evOr, O.bind, Os.bind, opS, addS, subS, mulS, fdivS, modS, powS, negS, eqS, neS, ltS, leS, gtS, geS, lenS, sumS, absS, max1S, min1S, max2S, min2S, all1S, any1S, int1S, isiS, isiT, ixS, catS, repS, slcAS, slcBS, revS, sortedS, listS, rngLS, flIf, Mx.Sg.get, startW, ints_map, bls_map, eqW_Li, neW_Li, eqW_int, neW_int, ev_flat, W.isFlat, W.isFlats, hp', d]
/-! ## reckoning with shares -/
def Bd (q : Rat) (k : Nat) : Prop := q.num.natAbs < 2 ^ k ∧ q.den < 2 ^ k
theorem Bd.mulOk {p q : Rat} {k : Nat} (hp : Bd p k) (hq : Bd q k) (hk : k ≤ 4400) : Mx.mulOk p.num q.num = true ∧ Mx.mulOk p.num q.den = true ∧ Mx.mulOk p.den q.num = true ∧ Mx.mulOk p.den q.den = true :=
  ⟨mulOk_of hp.1 hq.1 (by omega), mulOk_of hp.1 (by rw [Int.natAbs_natCast]; exact hq.2) (by omega), mulOk_of (by rw [Int.natAbs_natCast]; exact hp.2) hq.1 (by omega), mulOk_of (by rw [Int.natAbs_natCast]; exact hp.2) (by rw [Int.natAbs_natCast]; exact hq.2) (by omega)⟩
theorem Bd.den {p q : Rat} {k : Nat} (hp : Bd p k) (hq : Bd q k) : ((p.den : Int) * (q.den : Int)).natAbs < 2 ^ (k + k) := by
  rw [Int.natAbs_mul, Int.natAbs_natCast, Int.natAbs_natCast, Nat.pow_add]
  exact Nat.mul_lt_mul'' hp.2 hq.2
theorem den_ne (p q : Rat) : (p.den : Int) * (q.den : Int) ≠ 0 := by
  have h1 := p.den_pos
  have h2 := q.den_pos
  exact Int.mul_ne_zero (by omega) (by omega)
theorem add_eq (p q : Rat) : p + q = Rat.divInt (p.num * q.den + q.num * p.den) ((p.den : Int) * (q.den : Int)) := by
  have h1 := p.den_pos
  have h2 := q.den_pos
  rw [← Rat.divInt_add_divInt p.num q.num (by omega) (by omega), Rat.num_divInt_den, Rat.num_divInt_den]
theorem sub_eq (p q : Rat) : p - q = Rat.divInt (p.num * q.den - q.num * p.den) ((p.den : Int) * (q.den : Int)) := by
  have h1 := p.den_pos
  have h2 := q.den_pos
  rw [← Rat.divInt_sub_divInt p.num q.num (by omega) (by omega), Rat.num_divInt_den, Rat.num_divInt_den]
theorem mul_eq (p q : Rat) : p * q = Rat.divInt (p.num * q.num) ((p.den : Int) * (q.den : Int)) := by
  rw [← Rat.divInt_mul_divInt, Rat.num_divInt_den, Rat.num_divInt_den]
theorem at_0 (x y : W) : atI [x, y] 0 = some x := rfl
theorem at_1 (x y : W) : atI [x, y] 1 = some y := rfl
def irPlus (l : Nat) : List S := [.ret (.call l [.op .add [.op .mul [.op .ix [.flat (.var 0), .cst (.int 0)], .op .ix [.flat (.var 1), .cst (.int 1)]], .op .mul [.op .ix [.flat (.var 1), .cst (.int 0)], .op .ix [.flat (.var 0), .cst (.int 1)]]], .op .mul [.op .ix [.flat (.var 0), .cst (.int 1)], .op .ix [.flat (.var 1), .cst (.int 1)]]])]
def irLess (l : Nat) : List S := [.ret (.call l [.op .sub [.op .mul [.op .ix [.flat (.var 0), .cst (.int 0)], .op .ix [.flat (.var 1), .cst (.int 1)]], .op .mul [.op .ix [.flat (.var 1), .cst (.int 0)], .op .ix [.flat (.var 0), .cst (.int 1)]]], .op .mul [.op .ix [.flat (.var 0), .cst (.int 1)], .op .ix [.flat (.var 1), .cst (.int 1)]]])]
def irTimes (l : Nat) : List S := [.ret (.call l [.op .mul [.op .ix [.flat (.var 0), .cst (.int 0)], .op .ix [.flat (.var 1), .cst (.int 0)]], .op .mul [.op .ix [.flat (.var 0), .cst (.int 1)], .op .ix [.flat (.var 1), .cst (.int 1)]]])]
def irIsLess : List S := [.ret (.op .lt [.op .mul [.op .ix [.flat (.var 0), .cst (.int 0)], .op .ix [.flat (.var 1), .cst (.int 1)]], .op .mul [.op .ix [.flat (.var 1), .cst (.int 0)], .op .ix [.flat (.var 0), .cst (.int 1)]]])]
section
variable {T : Tb} {n c l f : Nat} {p q : Rat} {k : Nat}
theorem plus_ok (hc : Is T c 2 2 irCommon) (hl : Is T l 2 3 (irLowest c)) (h : Is T f 2 2 (irPlus l)) (hp : Bd p k) (hq : Bd q k) (hk : k ≤ 4400) : callN T (n + 3) f [pt p, pt q] = .val (pt (p + q)) := by
  refine h.rt rfl (exL_ret _ _ _ _ _ ?_)
  obtain ⟨m1, m2, m3, m4⟩ := hp.mulOk hq hk
  obtain ⟨w1, w2, w3, w4⟩ := hq.mulOk hp hk
  have e := lowest_ok (n := n) hc hl (p.num * q.den + q.num * p.den) (den_ne p q) (k := k + k) (by omega) (hp.den hq)
  rw [← add_eq] at e
  simp [ev_var, ev_cst, ev_gci, ev_op, ev_tup, ev_lst, ev_call, ev_and, ev_or, ev_not, ev_ifx, ev_chain, evs_nil, evs_cons, evAnd, evOr, O.bind, Os.bind, opS, addS, subS, mulS, fdivS, modS, powS, negS, eqS, neS, ltS, leS, gtS, geS, lenS, sumS, absS, max1S, min1S, max2S, min2S, all1S, any1S, int1S, isiS, isiT, ixS, catS, repS, slcAS, slcBS, revS, sortedS, listS, rngLS, flIf, Mx.Sg.get, startW, ints_map, bls_map, eqW_Li, neW_Li, eqW_int, neW_int, ev_flat, W.isFlat, W.isFlats, pt, at_0, at_1, m1, m2, m3, m4, w1, w2, w3, w4]
  exact e
theorem less_ok (hc : Is T c 2 2 irCommon) (hl : Is T l 2 3 (irLowest c)) (h : Is T f 2 2 (irLess l)) (hp : Bd p k) (hq : Bd q k) (hk : k ≤ 4400) : callN T (n + 3) f [pt p, pt q] = .val (pt (p - q)) := by
  refine h.rt rfl (exL_ret _ _ _ _ _ ?_)
  obtain ⟨m1, m2, m3, m4⟩ := hp.mulOk hq hk
  obtain ⟨w1, w2, w3, w4⟩ := hq.mulOk hp hk
  have e := lowest_ok (n := n) hc hl (p.num * q.den - q.num * p.den) (den_ne p q) (k := k + k) (by omega) (hp.den hq)
  rw [← sub_eq] at e
  simp [ev_var, ev_cst, ev_gci, ev_op, ev_tup, ev_lst, ev_call, ev_and, ev_or, ev_not, ev_ifx, ev_chain, evs_nil, evs_cons, evAnd, evOr, O.bind, Os.bind, opS, addS, subS, mulS, fdivS, modS, powS, negS, eqS, neS, ltS, leS, gtS, geS, lenS, sumS, absS, max1S, min1S, max2S, min2S, all1S, any1S, int1S, isiS, isiT, ixS, catS, repS, slcAS, slcBS, revS, sortedS, listS, rngLS, flIf, Mx.Sg.get, startW, ints_map, bls_map, eqW_Li, neW_Li, eqW_int, neW_int, ev_flat, W.isFlat, W.isFlats, pt, at_0, at_1, m1, m2, m3, m4, w1, w2, w3, w4]
  exact e
theorem times_ok (hc : Is T c 2 2 irCommon) (hl : Is T l 2 3 (irLowest c)) (h : Is T f 2 2 (irTimes l)) (hp : Bd p k) (hq : Bd q k) (hk : k ≤ 4400) : callN T (n + 3) f [pt p, pt q] = .val (pt (p * q)) := by
  refine h.rt rfl (exL_ret _ _ _ _ _ ?_)
  obtain ⟨m1, m2, m3, m4⟩ := hp.mulOk hq hk
  have e := lowest_ok (n := n) hc hl (p.num * q.num) (den_ne p q) (k := k + k) (by omega) (hp.den hq)
  rw [← mul_eq] at e
  simp [ev_var, ev_cst, ev_gci, ev_op, ev_tup, ev_lst, ev_call, ev_and, ev_or, ev_not, ev_ifx, ev_chain, evs_nil, evs_cons, evAnd, evOr, O.bind, Os.bind, opS, addS, subS, mulS, fdivS, modS, powS, negS, eqS, neS, ltS, leS, gtS, geS, lenS, sumS, absS, max1S, min1S, max2S, min2S, all1S, any1S, int1S, isiS, isiT, ixS, catS, repS, slcAS, slcBS, revS, sortedS, listS, rngLS, flIf, Mx.Sg.get, startW, ints_map, bls_map, eqW_Li, neW_Li, eqW_int, neW_int, ev_flat, W.isFlat, W.isFlats, pt, at_0, at_1, m1, m2, m3, m4]
  exact e
theorem is_less_ok (h : Is T f 2 2 irIsLess) (hp : Bd p k) (hq : Bd q k) (hk : k ≤ 4400) : callN T (n + 1) f [pt p, pt q] = .val (.bl (decide (p < q))) := by
  refine h.rt rfl (exL_ret _ _ _ _ _ ?_)
  obtain ⟨m1, m2, m3, m4⟩ := hp.mulOk hq hk
  obtain ⟨w1, w2, w3, w4⟩ := hq.mulOk hp hk
  have e : (p.num * (q.den : Int) < q.num * (p.den : Int)) ↔ p < q := (Rat.lt_iff p q).symm
  simp [ev_var, ev_cst, ev_gci, ev_op, ev_tup, ev_lst, ev_call, ev_and, ev_or, ev_not, ev_ifx, ev_chain, evs_nil, evs_cons, evAnd, evOr, O.bind, Os.bind, opS, addS, subS, mulS, fdivS, modS, powS, negS, eqS, neS, ltS, leS, gtS, geS, lenS, sumS, absS, max1S, min1S, max2S, min2S, all1S, any1S, int1S, isiS, isiT, ixS, catS, repS, slcAS, slcBS, revS, sortedS, listS, rngLS, flIf, Mx.Sg.get, startW, ints_map, bls_map, eqW_Li, neW_Li, eqW_int, neW_int, ev_flat, W.isFlat, W.isFlats, pt, at_0, at_1, m1, m2, m3, m4, w1, w2, w3, w4, e]
end
/-! ## the law's own -/
def irLawLowest : List S := [.asgT [2, 3] [.op .abs [.flat (.var 0)], .flat (.var 1)],
  .whl 1000000 (.op .gt [.var 3, .cst (.int 0)]) [.asgT [2, 3] [.var 3, .op .mod [.var 2, .var 3]]],
  .ret (.tup [.op .fdiv [.flat (.var 0), .var 2], .op .fdiv [.flat (.var 1), .var 2]])]
theorem law_lowest_ok {T : Tb} {n f : Nat} (h : Is T f 2 4 irLawLowest) (a : Int) {b : Int} (hb0 : 0 < b) {k : Nat} (hk : k ≤ 9000) (hb : b.natAbs < 2 ^ k) : callN T (n + 1) f [.int a, .int b] = .val (pt (Rat.divInt a b)) := by
  refine h.rt rfl ?_
  show exL (callN T n) T.cs irLawLowest [some (.int a), some (.int b), none, none] = _
  have ea : (if a < 0 then -a else a) = (a.natAbs : Int) := by split <;> omega
  obtain ⟨g, h1, h2, h3⟩ := euclid (c := fun s => ev (callN T n) T.cs (.op .gt [.var 3, .cst (.int 0)]) s) (f := fun s => exL (callN T n) T.cs [.asgT [2, 3] [.var 3, .op .mod [.var 2, .var 3]]] s)
    (fun x y => [some (.int a), some (.int b), some (.int x), some (.int y)]) (fun y => 0 ≤ y) (fun x y h h0 => Int.fmod_nonneg_of_pos x (by omega)) (fun y => decide (0 < y)) (fun x y => by simp [ev_var, ev_cst, ev_gci, ev_op, ev_tup, ev_lst, ev_call, ev_and, ev_or, ev_not, ev_ifx, ev_chain, evs_nil, evs_cons, evAnd, evOr, O.bind, Os.bind, opS, addS, subS, mulS, fdivS, modS, powS, negS, eqS, neS, ltS, leS, gtS, geS, lenS, sumS, absS, max1S, min1S, max2S, min2S, all1S, any1S, int1S, isiS, isiT, ixS, catS, repS, slcAS, slcBS, revS, sortedS, listS, rngLS, flIf, Mx.Sg.get, startW, ints_map, bls_map, eqW_Li, neW_Li, eqW_int, neW_int, ev_flat, W.isFlat, W.isFlats]) (fun y h => by simp; omega) (fun x y hy => by
      rw [exL_asgT (ws := [.int y, .int (x.fmod y)]) (h := by simp [ev_var, ev_cst, ev_gci, ev_op, ev_tup, ev_lst, ev_call, ev_and, ev_or, ev_not, ev_ifx, ev_chain, evs_nil, evs_cons, evAnd, evOr, O.bind, Os.bind, opS, addS, subS, mulS, fdivS, modS, powS, negS, eqS, neS, ltS, leS, gtS, geS, lenS, sumS, absS, max1S, min1S, max2S, min2S, all1S, any1S, int1S, isiS, isiT, ixS, catS, repS, slcAS, slcBS, revS, sortedS, listS, rngLS, flIf, Mx.Sg.get, startW, ints_map, bls_map, eqW_Li, neW_Li, eqW_int, neW_int, ev_flat, W.isFlat, W.isFlats, hy]) (h2 := rfl), exL_nil]
      rfl) k (a.natAbs : Int) b (by omega) hb 1000000 (by omega)
  refine (exL_asgT _ _ _ _ _ _ (ws := [.int (a.natAbs : Int), .int b]) (by simp [ev_var, ev_cst, ev_gci, ev_op, ev_tup, ev_lst, ev_call, ev_and, ev_or, ev_not, ev_ifx, ev_chain, evs_nil, evs_cons, evAnd, evOr, O.bind, Os.bind, opS, addS, subS, mulS, fdivS, modS, powS, negS, eqS, neS, ltS, leS, gtS, geS, lenS, sumS, absS, max1S, min1S, max2S, min2S, all1S, any1S, int1S, isiS, isiT, ixS, catS, repS, slcAS, slcBS, revS, sortedS, listS, rngLS, flIf, Mx.Sg.get, startW, ints_map, bls_map, eqW_Li, neW_Li, eqW_int, neW_int, ev_flat, W.isFlat, W.isFlats, ea]) rfl).trans ((exL_whl _ _ _ _ _ _ _ h1).trans (exL_ret _ _ _ _ _ ?_))
  have hg : g = (Int.gcd a b : Int) := by
    have h4 : 0 ≤ g := h3 (by omega)
    have e : Int.gcd (a.natAbs : Int) b = Int.gcd a b := by simp [Int.gcd]
    rw [e] at h2
    omega
  have d := divOk_gcd (a := a) (b := b) (by omega) hk hb
  obtain ⟨e1, e2⟩ := divInt_pos a hb0
  unfold pt
  rw [e1, e2, hg]
  simp [ev_var, ev_cst, ev_gci, ev_op, ev_tup, ev_lst, ev_call, ev_and, ev_or, ev_not, ev_ifx, ev_chain, evs_nil, evs_cons, evAnd, evOr, O.bind, Os.bind, opS, addS, subS, mulS, fdivS, modS, powS, negS, eqS, neS, ltS, leS, gtS, geS, lenS, sumS, absS, max1S, min1S, max2S, min2S, all1S, any1S, int1S, isiS, isiT, ixS, catS, repS, slcAS, slcBS, revS, sortedS, listS, rngLS, flIf, Mx.Sg.get, startW, ints_map, bls_map, eqW_Li, neW_Li, eqW_int, neW_int, ev_flat, W.isFlat, W.isFlats, d]
end Mx
/-! # Mx18: what the laws draw: numbers, rows -/
namespace Mx
open PySem L2
def ab (a : Int) : Int := if a < 0 then -a else a
def irNumber : List S := [.ifs (.op .ge [.flat (.var 0), .op .pow [.cst (.int 10), .cst (.int 18)]]) [.ret (.op .fdiv [.flat (.var 0), .op .add [.cst (.int 1), .op .mod [.flat (.var 1), .cst (.int 7)]]])] [],
  .asg 3 (.flat) (.op .mod [.op .add [.op .mul [.op .add [.flat (.var 0), .op .mul [.cst (.int 977), .flat (.var 1)]], .cst (.int 48271)], .flat (.var 2)], .cst (.int 2147483647)]),
  .asg 4 (.flat) (.op .mul [.var 3, .op .add [.op .add [.flat (.var 0), .op .mul [.cst (.int 31), .flat (.var 1)]], .cst (.int 7)]]),
  .ret (.op .fdiv [.op .mul [.op .mul [.var 4, .op .add [.op .add [.var 3, .flat (.var 0)], .cst (.int 5)]], .op .add [.op .mul [.var 3, .var 3], .cst (.int 11)]], .op .add [.cst (.int 1009), .flat (.var 1)]])]
def irMany : List S := [.ret (.op .add [.cst (.int 1), .op .mod [.op .add [.op .fdiv [.op .abs [.op .sum [.op (.slcB true) [.var 0, .cst (.int 63)]]], .cst (.int 2)], .flat (.var 1)], .flat (.var 2)]])]
def rBody (nu : Nat) : List S := [.asg 8 (.flat) (.op .fdiv [.call nu [.flat (.op .ix [.var 4, .op .mod [.op .add [.var 7, .flat (.var 1)], .op .len [.var 4]]]), .op .add [.var 7, .flat (.var 1)], .var 5], .cst (.int 3)]), .app 6 (.op .sub [.op .mod [.var 8, .flat (.var 3)], .op .mod [.var 5, .cst (.int 7)]]) [], .kil 8]
def irRow (nu : Nat) : List S := [.asg 4 (.fr (some 0)) (.ifx (.op .ne [.var 0, .lst []]) (.op (.slcB true) [.var 0, .cst (.int 63)]) (.lst [.cst (.int 5)])),
  .asg 5 (.flat) (.op .add [.op .abs [.op .sum [.var 4]], .flat (.var 1)]),
  .asg 6 (.fr none) (.lst []),
  .forS (.nm 7) (.rng1 (.flat (.var 2))) [.asg 8 (.flat) (.op .fdiv [.call nu [.flat (.op .ix [.var 4, .op .mod [.op .add [.var 7, .flat (.var 1)], .op .len [.var 4]]]), .op .add [.var 7, .flat (.var 1)], .var 5], .cst (.int 3)]), .app 6 (.op .sub [.op .mod [.var 8, .flat (.var 3)], .op .mod [.var 5, .cst (.int 7)]]) [], .kil 8],
  .retV 6]
theorem nb_mono {a : Int} {p q : Nat} (h : a.natAbs < 2 ^ p) (hq : p ≤ q) : a.natAbs < 2 ^ q := Nat.lt_of_lt_of_le h (Nat.pow_le_pow_right (by decide) hq)
theorem nb_add {a b : Int} {p : Nat} (ha : a.natAbs < 2 ^ p) (hb : b.natAbs < 2 ^ p) : (a + b).natAbs < 2 ^ (p + 1) := by
  have h := Int.natAbs_add_le a b
  rw [Nat.pow_succ]
  omega
theorem nb_mul {a b : Int} {p q : Nat} (ha : a.natAbs < 2 ^ p) (hb : b.natAbs < 2 ^ q) : (a * b).natAbs < 2 ^ (p + q) := by
  rw [Int.natAbs_mul, Nat.pow_add]
  exact Nat.mul_lt_mul'' ha hb
theorem nb_small {a : Int} {p : Nat} (h : a.natAbs < 1024) (hp : 10 ≤ p) : a.natAbs < 2 ^ p := Nat.lt_of_lt_of_le h (Nat.pow_le_pow_right (n := 2) (by decide) hp)
theorem divOk_of {b : Int} (h0 : 0 < b) (h1 : b < 1000000) : divOk b = true := by
  unfold divOk
  simp only [Bool.and_eq_true, decide_eq_true_eq]
  refine ⟨h0, ?_⟩
  have h2 : b.natAbs < 2 ^ 20 := by
    have : (2 : Nat) ^ 20 = 1048576 := by decide
    omega
  exact Nat.lt_of_lt_of_le ((Nat.log2_lt (by omega)).mpr h2) (by decide)
theorem fmod_bd (a : Int) {b : Int} (h : 0 < b) : 0 ≤ a.fmod b ∧ a.fmod b < b := ⟨Int.fmod_nonneg_of_pos a h, Int.fmod_lt_of_pos a h⟩
theorem number_ok {T : Tb} {f : Nat} (h : Is T f 3 5 irNumber) (n : Nat) {c w : Int} {a p : Nat} (ha : a ≤ 100) (hp : 40 ≤ p) (hp2 : p ≤ 2000000) (hc : c.natAbs < 2 ^ p) (hw : w.natAbs < 2 ^ p) : ∃ v, callN T (n + 1) f [.int c, .int a, .int w] = .val (.int v) := by
  have m7 := fmod_bd (a : Int) (b := 7) (by decide)
  have po : powOk 10 18 = true := by decide
  have q1 : mulOk 977 (a : Int) = true := mulOk_of (p := 10) (q := 10) (by decide) (nb_small (by omega) (by omega)) (by decide)
  have q2 : mulOk 31 (a : Int) = true := mulOk_of (p := 10) (q := 10) (by decide) (nb_small (by omega) (by omega)) (by decide)
  have b1 : (977 * (a : Int)).natAbs < 2 ^ p := nb_mono (p := 20) (nb_mul (p := 10) (q := 10) (by decide) (nb_small (by omega) (by omega))) (by omega)
  have b2 : (31 * (a : Int)).natAbs < 2 ^ p := nb_mono (p := 20) (nb_mul (p := 10) (q := 10) (by decide) (nb_small (by omega) (by omega))) (by omega)
  have b3 := nb_add hc b1
  have q3 : mulOk (c + 977 * (a : Int)) 48271 = true := mulOk_of b3 (show (48271 : Int).natAbs < 2 ^ 16 by decide) (by omega)
  generalize hbl : ((c + 977 * (a : Int)) * 48271 + w).fmod 2147483647 = bl
  have m1 := fmod_bd ((c + 977 * (a : Int)) * 48271 + w) (b := 2147483647) (by decide)
  rw [hbl] at m1
  have b4 : bl.natAbs < 2 ^ 31 := by
    have : (2 : Nat) ^ 31 = 2147483648 := by decide
    omega
  have b5 : (c + 31 * (a : Int) + 7).natAbs < 2 ^ (p + 2) := nb_add (nb_add hc b2) (nb_small (by decide) (by omega))
  have q4 : mulOk bl (c + 31 * (a : Int) + 7) = true := mulOk_of b4 b5 (by omega)
  have b6 := nb_mul b4 b5
  have b7 : (bl + c + 5).natAbs < 2 ^ (p + 2) := nb_add (nb_add (nb_mono b4 (by omega)) hc) (nb_small (by decide) (by omega))
  have q5 : mulOk (bl * (c + 31 * (a : Int) + 7)) (bl + c + 5) = true := mulOk_of b6 b7 (by omega)
  have b8 := nb_mul b6 b7
  have q6 : mulOk bl bl = true := mulOk_of b4 b4 (by decide)
  have b9 : (bl * bl + 11).natAbs < 2 ^ 63 := nb_add (nb_mul b4 b4) (nb_small (by decide) (by decide))
  have q7 : mulOk (bl * (c + 31 * (a : Int) + 7) * (bl + c + 5)) (bl * bl + 11) = true := mulOk_of b8 b9 (by omega)
  have d1 : divOk (1 + (a : Int).fmod 7) = true := divOk_of (by omega) (by omega)
  have d2 : divOk (1009 + (a : Int)) = true := divOk_of (by omega) (by omega)
  by_cases hcell : (10 : Int) ^ 18 ≤ c
  · refine ⟨c / (1 + (a : Int).fmod 7), h.rt rfl (exL_ifTr _ _ _ _ _ _ _ ?_ (exL_ret _ _ _ _ _ ?_))⟩
    · simp [ev_var, ev_cst, ev_gci, ev_op, ev_tup, ev_lst, ev_call, ev_and, ev_or, ev_not, ev_ifx, ev_chain, evs_nil, evs_cons, evAnd, evOr, O.bind, Os.bind, opS, addS, subS, mulS, fdivS, modS, powS, negS, eqS, neS, ltS, leS, gtS, geS, lenS, sumS, absS, max1S, min1S, max2S, min2S, all1S, any1S, int1S, isiS, isiT, ixS, catS, repS, slcAS, slcBS, revS, sortedS, listS, rngLS, flIf, Mx.Sg.get, startW, ints_map, bls_map, eqW_Li, neW_Li, eqW_int, neW_int, ev_flat, W.isFlat, W.isFlats, po]
      exact hcell
    · simp [ev_var, ev_cst, ev_gci, ev_op, ev_tup, ev_lst, ev_call, ev_and, ev_or, ev_not, ev_ifx, ev_chain, evs_nil, evs_cons, evAnd, evOr, O.bind, Os.bind, opS, addS, subS, mulS, fdivS, modS, powS, negS, eqS, neS, ltS, leS, gtS, geS, lenS, sumS, absS, max1S, min1S, max2S, min2S, all1S, any1S, int1S, isiS, isiT, ixS, catS, repS, slcAS, slcBS, revS, sortedS, listS, rngLS, flIf, Mx.Sg.get, startW, ints_map, bls_map, eqW_Li, neW_Li, eqW_int, neW_int, ev_flat, W.isFlat, W.isFlats, irNumber, d1]
  · refine ⟨bl * (c + 31 * (a : Int) + 7) * (bl + c + 5) * (bl * bl + 11) / (1009 + (a : Int)), h.rt rfl ((exL_ifF0 _ _ _ _ _ _ ?_).trans ((exL_asg _ _ _ _ _ _ _ (w := .int bl) ?_).trans ((exL_asg _ _ _ _ _ _ _ (w := .int (bl * (c + 31 * (a : Int) + 7))) ?_).trans (exL_ret _ _ _ _ _ ?_))))⟩
    · simp [ev_var, ev_cst, ev_gci, ev_op, ev_tup, ev_lst, ev_call, ev_and, ev_or, ev_not, ev_ifx, ev_chain, evs_nil, evs_cons, evAnd, evOr, O.bind, Os.bind, opS, addS, subS, mulS, fdivS, modS, powS, negS, eqS, neS, ltS, leS, gtS, geS, lenS, sumS, absS, max1S, min1S, max2S, min2S, all1S, any1S, int1S, isiS, isiT, ixS, catS, repS, slcAS, slcBS, revS, sortedS, listS, rngLS, flIf, Mx.Sg.get, startW, ints_map, bls_map, eqW_Li, neW_Li, eqW_int, neW_int, ev_flat, W.isFlat, W.isFlats, po]
      exact Int.not_le.mp hcell
    · simp [ev_var, ev_cst, ev_gci, ev_op, ev_tup, ev_lst, ev_call, ev_and, ev_or, ev_not, ev_ifx, ev_chain, evs_nil, evs_cons, evAnd, evOr, O.bind, Os.bind, opS, addS, subS, mulS, fdivS, modS, powS, negS, eqS, neS, ltS, leS, gtS, geS, lenS, sumS, absS, max1S, min1S, max2S, min2S, all1S, any1S, int1S, isiS, isiT, ixS, catS, repS, slcAS, slcBS, revS, sortedS, listS, rngLS, flIf, Mx.Sg.get, startW, ints_map, bls_map, eqW_Li, neW_Li, eqW_int, neW_int, ev_flat, W.isFlat, W.isFlats, irNumber, q1, q3, hbl]
    · simp [ev_var, ev_cst, ev_gci, ev_op, ev_tup, ev_lst, ev_call, ev_and, ev_or, ev_not, ev_ifx, ev_chain, evs_nil, evs_cons, evAnd, evOr, O.bind, Os.bind, opS, addS, subS, mulS, fdivS, modS, powS, negS, eqS, neS, ltS, leS, gtS, geS, lenS, sumS, absS, max1S, min1S, max2S, min2S, all1S, any1S, int1S, isiS, isiT, ixS, catS, repS, slcAS, slcBS, revS, sortedS, listS, rngLS, flIf, Mx.Sg.get, startW, ints_map, bls_map, eqW_Li, neW_Li, eqW_int, neW_int, ev_flat, W.isFlat, W.isFlats, irNumber, q2, q4]
    · simp [ev_var, ev_cst, ev_gci, ev_op, ev_tup, ev_lst, ev_call, ev_and, ev_or, ev_not, ev_ifx, ev_chain, evs_nil, evs_cons, evAnd, evOr, O.bind, Os.bind, opS, addS, subS, mulS, fdivS, modS, powS, negS, eqS, neS, ltS, leS, gtS, geS, lenS, sumS, absS, max1S, min1S, max2S, min2S, all1S, any1S, int1S, isiS, isiT, ixS, catS, repS, slcAS, slcBS, revS, sortedS, listS, rngLS, flIf, Mx.Sg.get, startW, ints_map, bls_map, eqW_Li, neW_Li, eqW_int, neW_int, ev_flat, W.isFlat, W.isFlats, irNumber, q5, q6, q7, d2]
theorem bits_nb {z : Int} {p : Nat} (h : Builtin.Int.intBits z ≤ p) : z.natAbs < 2 ^ p := by
  unfold Builtin.Int.intBits at h
  by_cases hz : z = 0
  · subst hz
    exact Nat.pow_pos (by decide)
  · rw [if_neg (by simpa using hz)] at h
    exact (Nat.log2_lt (by omega)).mp (by omega)
theorem sum_le : ∀ (l : List Int) (B : Nat), (∀ x ∈ l, x.natAbs ≤ B) → l.sum.natAbs ≤ l.length * B
  | [], B, _ => by simp
  | x :: l, B, h => by
    have h1 := h x List.mem_cons_self
    have h2 := sum_le l B fun y hy => h y (List.mem_cons_of_mem _ hy)
    rw [List.sum_cons, List.length_cons, Nat.succ_mul]
    have := Int.natAbs_add_le x l.sum
    omega
theorem sum_nb {l : List Int} {p : Nat} (h : ∀ x ∈ l, x.natAbs < 2 ^ p) (hl : l.length ≤ 63) : l.sum.natAbs < 2 ^ (p + 6) := by
  have h1 := sum_le l (2 ^ p) fun x hx => Nat.le_of_lt (h x hx)
  have h2 : l.length * 2 ^ p ≤ 63 * 2 ^ p := Nat.mul_le_mul_right _ hl
  have h3 : 0 < 2 ^ p := Nat.pow_pos (by decide)
  rw [Nat.pow_add]
  omega
theorem ab_natAbs (a : Int) : (ab a).natAbs = a.natAbs := by unfold ab; split <;> omega
theorem ab_nonneg (a : Int) : 0 ≤ ab a := by unfold ab; split <;> omega
theorem cut63 (xs : List W) : cutW xs none (some 63) = xs.take 63 := cut_to xs 63
theorem take63 {ns : List Int} (h : ns.length ≤ 63) : (ns.map W.int).take 63 = ns.map W.int := List.take_of_length_le (by rw [List.length_map]; exact h)
theorem many_ok {T : Tb} {f : Nat} (h : Is T f 3 3 irMany) (n : Nat) (ns : List Int) (hl : ns.length ≤ 63) (b : Nat) : ∃ m : Nat, 1 ≤ m ∧ m ≤ 6 ∧ callN T (n + 1) f [.scr ns, .int b, .int 6] = .val (.int m) := by
  have d : divOk 2 = true := by decide
  have hm := fmod_bd (ab ns.sum / 2 + b) (b := 6) (by decide)
  refine ⟨(1 + (ab ns.sum / 2 + b).fmod 6).toNat, by omega, by omega, h.rt rfl (exL_ret _ _ _ _ _ ?_)⟩
  have e : ((1 + (ab ns.sum / 2 + b).fmod 6).toNat : Int) = 1 + (ab ns.sum / 2 + b).fmod 6 := Int.toNat_of_nonneg (by omega)
  rw [e]
  have e2 : (if ns.sum < 0 then -ns.sum else ns.sum) = ab ns.sum := rfl
  simp [ev_var, ev_cst, ev_gci, ev_op, ev_tup, ev_lst, ev_call, ev_and, ev_or, ev_not, ev_ifx, ev_chain, evs_nil, evs_cons, evAnd, evOr, O.bind, Os.bind, opS, addS, subS, mulS, fdivS, modS, powS, negS, eqS, neS, ltS, leS, gtS, geS, lenS, sumS, absS, max1S, min1S, max2S, min2S, all1S, any1S, int1S, isiS, isiT, ixS, catS, repS, slcAS, slcBS, revS, sortedS, listS, rngLS, flIf, Mx.Sg.get, startW, ints_map, bls_map, eqW_Li, neW_Li, eqW_int, neW_int, ev_flat, W.isFlat, W.isFlats, cut63, take63 hl, d, e2]
/-- the cells -/
def cells (ns : List Int) : List Int := if ns = [] then [5] else ns
theorem cells_ne (ns : List Int) : 0 < (cells ns).length := by
  unfold cells
  split
  · decide
  · rename_i h
    exact List.length_pos_iff.mpr h
theorem cells_nb {ns : List Int} {p : Nat} (hp : 10 ≤ p) (h : ∀ x ∈ ns, x.natAbs < 2 ^ p) : ∀ x ∈ cells ns, x.natAbs < 2 ^ p := by
  unfold cells
  split
  · intro x hx
    rw [List.mem_singleton.mp hx]
    exact nb_small (by decide) hp
  · exact h
theorem cells_len {ns : List Int} (h : ns.length ≤ 63) : (cells ns).length ≤ 63 := by
  unfold cells
  split
  · decide
  · exact h
theorem row_okB {T : Tb} {nu f : Nat} (hnu : Is T nu 3 5 irNumber) (h : Is T f 4 9 (irRow nu)) (n : Nat) {ns : List Int} {p : Nat} (hp : 40 ≤ p) (hp2 : p ≤ 1900000) (hl : ns.length ≤ 63) (hb : ∀ x ∈ ns, x.natAbs < 2 ^ p) {b m : Nat} (h3 : b ≤ 10) (hm : m ≤ 6) {wd : Int} (hw : 0 < wd) (hw2 : wd.natAbs < 2 ^ 150) :
    ∃ r : List Int, callN T (n + 2) f [.scr ns, .int b, .int m, .int wd] = .val (Li r) ∧ r.length = m ∧ ∀ x ∈ r, x.natAbs ≤ wd.natAbs + 7 := by
  have hc := cells_nb (by omega) hb
  have hcl := cells_len hl
  have hcn := cells_ne ns
  generalize hcs : cells ns = C at hc hcl hcn
  have hwh : (ab C.sum + (b : Int)).natAbs < 2 ^ (p + 7) := nb_add (by rw [ab_natAbs]; exact sum_nb hc hcl) (nb_small (by omega) (by omega))
  generalize hW : ab C.sum + (b : Int) = Wh at hwh
  have hs : ∀ (pre : List Nat) (x : Nat) (post : List Nat) (a : List Int), List.range m = pre ++ x :: post → (a.length = pre.length ∧ ∀ x ∈ a, x.natAbs ≤ wd.natAbs + 7) → ∃ a' o, (fun s => exL (callN T (n + 1)) T.cs (rBody nu) s) ([some (.scr ns), some (.int b), some (.int m), some (.int wd), some (Li C), some (.int Wh), some (Li a), none, none].set 7 (some (W.int (x : Int)))) = .nx ([some (.scr ns), some (.int b), some (.int m), some (.int wd), some (Li C), some (.int Wh), some (Li a'), none, none].set 7 o) ∧ (a'.length = (pre ++ [x]).length ∧ ∀ x ∈ a', x.natAbs ≤ wd.natAbs + 7) := by
    intro pre x post a e ⟨p1, p2⟩
    have hx : x < m := by
      have : x ∈ List.range m := by rw [e]; simp
      exact List.mem_range.mp this
    have hpl : pre.length ≤ m := by
      have := congrArg List.length e
      rw [List.length_range, List.length_append, List.length_cons] at this
      omega
    have hlt : (x + b) % C.length < C.length := Nat.mod_lt _ hcn
    obtain ⟨v, hv⟩ := number_ok hnu n (c := C[(x + b) % C.length]) (w := Wh) (a := x + b) (p := p + 7) (by omega) (by omega) (by omega) (nb_mono (hc _ (List.getElem_mem hlt)) (by omega)) hwh
    have ei : ((x : Int) + (b : Int)).fmod (C.length : Int) = (((x + b) % C.length : Nat) : Int) := by
      rw [Int.fmod_eq_emod_of_nonneg _ (by omega)]
      simp
    have eat : atI (C.map W.int) (((x + b) % C.length : Nat) : Int) = some (.int C[(x + b) % C.length]) := by
      rw [atI_nat _ _ (by rw [List.length_map]; exact hlt), List.getElem?_map, List.getElem?_eq_getElem hlt]
      rfl
    have en : ((x : Int) + (b : Int)) = ((x + b : Nat) : Int) := by simp
    have hnz : ¬ ((C.length : Int) = 0) := by omega
    have d3 : divOk 3 = true := by decide
    have m1 := fmod_bd (v / 3) hw
    have m2 := fmod_bd Wh (b := 7) (by decide)
    refine ⟨a ++ [(v / 3).fmod wd - Wh.fmod 7], some (W.int (x : Int)), ?_, by simp [p1], ?_⟩
    · simp only [rBody]
      rw [exL_asg (w := .int (v / 3)), exL_app (ws := a.map W.int) (w := .int ((v / 3).fmod wd - Wh.fmod 7)), exL_kil, exL_nil]
      · simp [wipeW]
      · rfl
      · have hw0 : ¬ (wd = 0) := by omega
        simp [ev_var, ev_cst, ev_gci, ev_op, ev_tup, ev_lst, ev_call, ev_and, ev_or, ev_not, ev_ifx, ev_chain, evs_nil, evs_cons, evAnd, evOr, O.bind, Os.bind, opS, addS, subS, mulS, fdivS, modS, powS, negS, eqS, neS, ltS, leS, gtS, geS, lenS, sumS, absS, max1S, min1S, max2S, min2S, all1S, any1S, int1S, isiS, isiT, ixS, catS, repS, slcAS, slcBS, revS, sortedS, listS, rngLS, flIf, Mx.Sg.get, startW, ints_map, bls_map, eqW_Li, neW_Li, eqW_int, neW_int, ev_flat, W.isFlat, W.isFlats, hw0]
      · rw [List.length_map, p1]
        show _ < 100000
        omega
      · have e1 : ev (callN T (n + 1)) T.cs (.flat (.op .ix [.var 4, .op .mod [.op .add [.var 7, .flat (.var 1)], .op .len [.var 4]]])) ([some (.scr ns), some (.int b), some (.int m), some (.int wd), some (Li C), some (.int Wh), some (Li a), none, none].set 7 (some (W.int (x : Int)))) = .val (.int C[(x + b) % C.length]) := by
          simp only [ev_var, ev_cst, ev_gci, ev_op, ev_tup, ev_lst, ev_call, ev_and, ev_or, ev_not, ev_ifx, ev_chain, evs_nil, evs_cons, evAnd, evOr, O.bind, Os.bind, opS, addS, subS, mulS, fdivS, modS, powS, negS, eqS, neS, ltS, leS, gtS, geS, lenS, sumS, absS, max1S, min1S, max2S, min2S, all1S, any1S, int1S, isiS, isiT, ixS, catS, repS, slcAS, slcBS, revS, sortedS, listS, rngLS, flIf, Mx.Sg.get, startW, ints_map, bls_map, eqW_Li, neW_Li, eqW_int, neW_int, ev_flat, W.isFlat, W.isFlats, List.set_cons_zero, List.set_cons_succ, List.getElem?_cons_zero, List.getElem?_cons_succ, List.length_map, hnz, if_false, if_true, ei, eat]
        have e2 : ev (callN T (n + 1)) T.cs (.op .add [.var 7, .flat (.var 1)]) ([some (.scr ns), some (.int b), some (.int m), some (.int wd), some (Li C), some (.int Wh), some (Li a), none, none].set 7 (some (W.int (x : Int)))) = .val (.int ((x + b : Nat) : Int)) := by
          rw [← en]
          simp [ev_var, ev_cst, ev_gci, ev_op, ev_tup, ev_lst, ev_call, ev_and, ev_or, ev_not, ev_ifx, ev_chain, evs_nil, evs_cons, evAnd, evOr, O.bind, Os.bind, opS, addS, subS, mulS, fdivS, modS, powS, negS, eqS, neS, ltS, leS, gtS, geS, lenS, sumS, absS, max1S, min1S, max2S, min2S, all1S, any1S, int1S, isiS, isiT, ixS, catS, repS, slcAS, slcBS, revS, sortedS, listS, rngLS, flIf, Mx.Sg.get, startW, ints_map, bls_map, eqW_Li, neW_Li, eqW_int, neW_int, ev_flat, W.isFlat, W.isFlats]
        have e3 : ev (callN T (n + 1)) T.cs (.call nu [.flat (.op .ix [.var 4, .op .mod [.op .add [.var 7, .flat (.var 1)], .op .len [.var 4]]]), .op .add [.var 7, .flat (.var 1)], .var 5]) ([some (.scr ns), some (.int b), some (.int m), some (.int wd), some (Li C), some (.int Wh), some (Li a), none, none].set 7 (some (W.int (x : Int)))) = .val (.int v) := by
          rw [ev_call, evs_cons, e1, evs_cons, e2]
          simp only [evs_cons, evs_nil, ev_var, Mx.Sg.get, List.set_cons_zero, List.set_cons_succ, List.getElem?_cons_zero, List.getElem?_cons_succ, Os.bind]
          exact hv
        rw [ev_op, evs_cons, e3]
        simp [ev_var, ev_cst, ev_gci, ev_op, ev_tup, ev_lst, ev_call, ev_and, ev_or, ev_not, ev_ifx, ev_chain, evs_nil, evs_cons, evAnd, evOr, O.bind, Os.bind, opS, addS, subS, mulS, fdivS, modS, powS, negS, eqS, neS, ltS, leS, gtS, geS, lenS, sumS, absS, max1S, min1S, max2S, min2S, all1S, any1S, int1S, isiS, isiT, ixS, catS, repS, slcAS, slcBS, revS, sortedS, listS, rngLS, flIf, Mx.Sg.get, startW, ints_map, bls_map, eqW_Li, neW_Li, eqW_int, neW_int, ev_flat, W.isFlat, W.isFlats, d3]
    · intro y hy
      rcases List.mem_append.mp hy with hy | hy
      · exact p2 y hy
      · rw [List.mem_singleton.mp hy]
        omega
  obtain ⟨a, o, g3, g4⟩ := for1 (i := 7) (φ := fun (i : Nat) => W.int (i : Int)) (fun (a : List Int) => [some (.scr ns), some (.int b), some (.int m), some (.int wd), some (Li C), some (.int Wh), some (Li a), none, none]) (fun pre a => a.length = pre.length ∧ ∀ x ∈ a, x.natAbs ≤ wd.natAbs + 7) (fun a => rfl) hs [] ⟨rfl, fun x hx => nomatch hx⟩
  refine ⟨a, h.rt rfl ?_, by rw [g4.1, List.length_range], g4.2⟩
  show exL (callN T (n + 1)) T.cs (irRow nu) [some (.scr ns), some (.int b), some (.int m), some (.int wd), none, none, none, none, none] = _
  unfold irRow
  have ec : ev (callN T (n + 1)) T.cs (.ifx (.op .ne [.var 0, .lst []]) (.op (.slcB true) [.var 0, .cst (.int 63)]) (.lst [.cst (.int 5)])) [some (.scr ns), some (.int b), some (.int m), some (.int wd), none, none, none, none, none] = .val (Li C) := by
    rw [← hcs]
    unfold cells
    by_cases hn : ns = []
    · subst hn
      simp [ev_var, ev_cst, ev_gci, ev_op, ev_tup, ev_lst, ev_call, ev_and, ev_or, ev_not, ev_ifx, ev_chain, evs_nil, evs_cons, evAnd, evOr, O.bind, Os.bind, opS, addS, subS, mulS, fdivS, modS, powS, negS, eqS, neS, ltS, leS, gtS, geS, lenS, sumS, absS, max1S, min1S, max2S, min2S, all1S, any1S, int1S, isiS, isiT, ixS, catS, repS, slcAS, slcBS, revS, sortedS, listS, rngLS, flIf, Mx.Sg.get, startW, ints_map, bls_map, eqW_Li, neW_Li, eqW_int, neW_int, ev_flat, W.isFlat, W.isFlats, neW_scr]
    · rw [if_neg hn]
      simp [ev_var, ev_cst, ev_gci, ev_op, ev_tup, ev_lst, ev_call, ev_and, ev_or, ev_not, ev_ifx, ev_chain, evs_nil, evs_cons, evAnd, evOr, O.bind, Os.bind, opS, addS, subS, mulS, fdivS, modS, powS, negS, eqS, neS, ltS, leS, gtS, geS, lenS, sumS, absS, max1S, min1S, max2S, min2S, all1S, any1S, int1S, isiS, isiT, ixS, catS, repS, slcAS, slcBS, revS, sortedS, listS, rngLS, flIf, Mx.Sg.get, startW, ints_map, bls_map, eqW_Li, neW_Li, eqW_int, neW_int, ev_flat, W.isFlat, W.isFlats, neW_scr, hn, cut63, take63 hl]
  have e2 : (if C.sum < 0 then -C.sum else C.sum) = ab C.sum := rfl
  rw [exL_asg (h := ec), exL_asg (w := .int Wh) (h := by simp [ev_var, ev_cst, ev_gci, ev_op, ev_tup, ev_lst, ev_call, ev_and, ev_or, ev_not, ev_ifx, ev_chain, evs_nil, evs_cons, evAnd, evOr, O.bind, Os.bind, opS, addS, subS, mulS, fdivS, modS, powS, negS, eqS, neS, ltS, leS, gtS, geS, lenS, sumS, absS, max1S, min1S, max2S, min2S, all1S, any1S, int1S, isiS, isiT, ixS, catS, repS, slcAS, slcBS, revS, sortedS, listS, rngLS, flIf, Mx.Sg.get, startW, ints_map, bls_map, eqW_Li, neW_Li, eqW_int, neW_int, ev_flat, W.isFlat, W.isFlats, e2, hW]), exL_asg (w := Li []) (h := by simp [ev_var, ev_cst, ev_gci, ev_op, ev_tup, ev_lst, ev_call, ev_and, ev_or, ev_not, ev_ifx, ev_chain, evs_nil, evs_cons, evAnd, evOr, O.bind, Os.bind, opS, addS, subS, mulS, fdivS, modS, powS, negS, eqS, neS, ltS, leS, gtS, geS, lenS, sumS, absS, max1S, min1S, max2S, min2S, all1S, any1S, int1S, isiS, isiT, ixS, catS, repS, slcAS, slcBS, revS, sortedS, listS, rngLS, flIf, Mx.Sg.get, startW, ints_map, bls_map, eqW_Li, neW_Li, eqW_int, neW_int, ev_flat, W.isFlat, W.isFlats])]
  rw [exL_for (items := (List.range m).map fun (i : Nat) => W.int (i : Int)) (h := by simp [evIt, ev_var, ev_cst, ev_gci, ev_op, ev_tup, ev_lst, ev_call, ev_and, ev_or, ev_not, ev_ifx, ev_chain, evs_nil, evs_cons, evAnd, evOr, O.bind, Os.bind, opS, addS, subS, mulS, fdivS, modS, powS, negS, eqS, neS, ltS, leS, gtS, geS, lenS, sumS, absS, max1S, min1S, max2S, min2S, all1S, any1S, int1S, isiS, isiT, ixS, catS, repS, slcAS, slcBS, revS, sortedS, listS, rngLS, flIf, Mx.Sg.get, startW, ints_map, bls_map, eqW_Li, neW_Li, eqW_int, neW_int, ev_flat, W.isFlat, W.isFlats]; exact rngW_nat (by omega)) (h2 := g3)]
  exact exL_retV _ _ _ _ _ rfl
theorem row_ok {T : Tb} {nu f : Nat} (hnu : Is T nu 3 5 irNumber) (h : Is T f 4 9 (irRow nu)) (n : Nat) {ns : List Int} {p : Nat} (hp : 40 ≤ p) (hp2 : p ≤ 1900000) (hl : ns.length ≤ 63) (hb : ∀ x ∈ ns, x.natAbs < 2 ^ p) {b m : Nat} (h3 : b ≤ 10) (hm : m ≤ 6) {wd : Int} (hw : 0 < wd) (hw2 : wd.natAbs < 2 ^ 150) :
    ∃ r : List Int, callN T (n + 2) f [.scr ns, .int b, .int m, .int wd] = .val (Li r) ∧ r.length = m ∧ ∀ x ∈ r, x.natAbs < 2 ^ 200 := by
  obtain ⟨r, h1, h2, h3⟩ := row_okB hnu h n hp hp2 hl hb h3 hm hw hw2
  refine ⟨r, h1, h2, fun x hx => ?_⟩
  have := h3 x hx
  have e : (2 : Nat) ^ 150 + 7 < 2 ^ 200 := by decide
  omega
end Mx
/-! # Mx19: rows: whole numbers asked, falling, sums of the greatest -/
namespace Mx
open PySem L2
def irIsWhole : List S := [.ret (.and [.op (.isi 0) [.var 0], .not (.op (.isi 1) [.var 0])])]
def irAskedRow (wh mo ex : Nat) : List S := [.ifs (.or [.not (.op (.isi 2) [.var 0]), .not (.chain .le .le (.cst (.int 1)) (.op .len [.var 0]) (.gci mo)), .not (.op .all1 [.comp (.call wh [.var 1]) (.nm 1) (.lst (.var 0)) none [1]])]) [.rai ex] []]
def irFalling : List S := [.ret (.op (.rev true) [.op .sorted [.var 0]])]
def gBody : List S := [.app 1 (.op .add [.flat (.op .ix [.var 1, .op .neg [.cst (.int 1)]]), .flat (.var 2)]) []]
def irGreatestOf (fa : Nat) : List S := [.asg 1 (.fr none) (.lst [.cst (.int 0)]), .forS (.nm 2) (.lst (.call fa [.var 0])) gBody, .retV 1]
def irLawGreatest : List S := [.asg 1 (.fr (some 0)) (.op (.rev true) [.op .sorted [.var 0]]),
  .ret (.comp (.op .sum [.op (.slcB true) [.var 1, .var 2]]) (.nm 2) (.rng1 (.op .add [.op .len [.var 0], .cst (.int 1)])) none [2])]
section
variable {T : Tb} {w r fa f mo ex : Nat}
theorem mapI {β : Type} (f : β → Int) (l : List β) : l.map (fun y => W.int (f y)) = (l.map f).map W.int := by rw [List.map_map]; rfl
theorem mapLi {β : Type} (f : β → Int) (l : List β) : Li (l.map f) = .lst (l.map fun y => .int (f y)) := by
  show W.lst (List.map W.int (List.map f l)) = _
  rw [← mapI]
theorem flats_ints (ns : List Int) : W.isFlats (ns.map W.int) = true := isFlats_ints ns
theorem is_whole_int (hw : Is T w 1 1 irIsWhole) (n : Nat) (z : Int) : callN T (n + 1) w [.int z] = .val (.bl true) := by
  refine hw.rt rfl (exL_ret _ _ _ _ _ ?_)
  simp [ev_var, ev_cst, ev_gci, ev_op, ev_tup, ev_lst, ev_call, ev_and, ev_or, ev_not, ev_ifx, ev_chain, evs_nil, evs_cons, evAnd, evOr, O.bind, Os.bind, opS, addS, subS, mulS, fdivS, modS, powS, negS, eqS, neS, ltS, leS, gtS, geS, lenS, sumS, absS, max1S, min1S, max2S, min2S, all1S, any1S, int1S, isiS, isiT, ixS, catS, repS, slcAS, slcBS, revS, sortedS, listS, rngLS, flIf, Mx.Sg.get, startW, ints_map, bls_map, eqW_Li, neW_Li, eqW_int, neW_int, ev_flat, W.isFlat, W.isFlats]
theorem all_whole (hw : Is T w 1 1 irIsWhole) (n : Nat) (ns : List Int) (i : Nat) (it : Mx.It) (σ : Sg) (hi : i < σ.length) (h : evIt (callN T (n + 1)) T.cs it σ = some (ns.map .int)) : ev (callN T (n + 1)) T.cs (.op .all1 [.comp (.call w [.var i]) (.nm i) it none [i]]) σ = .val (.bl true) := by
  have e : ev (callN T (n + 1)) T.cs (.comp (.call w [.var i]) (.nm i) it none [i]) σ = .val (.lst (ns.map fun _ => .bl true)) := by
    refine ev_comp _ _ _ _ _ _ h fun x _ => ?_
    simp [ev_var, ev_cst, ev_gci, ev_op, ev_tup, ev_lst, ev_call, ev_and, ev_or, ev_not, ev_ifx, ev_chain, evs_nil, evs_cons, evAnd, evOr, O.bind, Os.bind, opS, addS, subS, mulS, fdivS, modS, powS, negS, eqS, neS, ltS, leS, gtS, geS, lenS, sumS, absS, max1S, min1S, max2S, min2S, all1S, any1S, int1S, isiS, isiT, ixS, catS, repS, slcAS, slcBS, revS, sortedS, listS, rngLS, flIf, Mx.Sg.get, startW, ints_map, bls_map, eqW_Li, neW_Li, eqW_int, neW_int, ev_flat, W.isFlat, W.isFlats, hi, is_whole_int hw]
  have e2 : ns.map (fun _ => W.bl true) = (ns.map fun _ => true).map W.bl := by rw [List.map_map]; rfl
  simp only [ev_op, evs_cons, evs_nil, e, Os.bind, opS, all1S, e2, bls_map]
  congr 2
  simp
theorem asked_row_ok (hw : Is T w 1 1 irIsWhole) (hr : Is T r 1 2 (irAskedRow w mo ex)) (hmo : T.cs[mo]? = some 6) (n : Nat) (ns : List Int) (h1 : 1 ≤ ns.length) (h2 : ns.length ≤ 6) : callN T (n + 2) r [Li ns] = .val .non := by
  have ha := all_whole hw n ns 1 (.lst (.var 0)) [some (Li ns), none] (by simp) (by simp [evIt, ev_var, ev_cst, ev_gci, ev_op, ev_tup, ev_lst, ev_call, ev_and, ev_or, ev_not, ev_ifx, ev_chain, evs_nil, evs_cons, evAnd, evOr, O.bind, Os.bind, opS, addS, subS, mulS, fdivS, modS, powS, negS, eqS, neS, ltS, leS, gtS, geS, lenS, sumS, absS, max1S, min1S, max2S, min2S, all1S, any1S, int1S, isiS, isiT, ixS, catS, repS, slcAS, slcBS, revS, sortedS, listS, rngLS, flIf, Mx.Sg.get, startW, ints_map, bls_map, eqW_Li, neW_Li, eqW_int, neW_int, ev_flat, W.isFlat, W.isFlats])
  obtain ⟨d, d1, d2, d3, d4⟩ := hr
  refine callN_nx (σ := [some (Li ns), none]) d1 (by rw [d2]; rfl) ?_
  unfold startW
  rw [d4, d3]
  show exL (callN T (n + 1)) T.cs (irAskedRow w mo ex) [some (Li ns), none] = _
  refine (exL_ifF0 _ _ _ _ _ _ ?_).trans (exL_nil _ _ _)
  have h1' : (1 : Int) ≤ ns.length := by omega
  have h2' : (ns.length : Int) ≤ 6 := by omega
  simp only [ev_or, evOr, ev_not, ha]
  simp [ev_var, ev_cst, ev_gci, ev_op, ev_tup, ev_lst, ev_call, ev_and, ev_or, ev_not, ev_ifx, ev_chain, evs_nil, evs_cons, evAnd, evOr, O.bind, Os.bind, opS, addS, subS, mulS, fdivS, modS, powS, negS, eqS, neS, ltS, leS, gtS, geS, lenS, sumS, absS, max1S, min1S, max2S, min2S, all1S, any1S, int1S, isiS, isiT, ixS, catS, repS, slcAS, slcBS, revS, sortedS, listS, rngLS, flIf, Mx.Sg.get, startW, ints_map, bls_map, eqW_Li, neW_Li, eqW_int, neW_int, ev_flat, W.isFlat, W.isFlats, hmo, h1', h2']
theorem falling_ok (hf : Is T fa 1 1 irFalling) (n : Nat) (ns : List Int) : callN T (n + 1) fa [Li ns] = .val (Li (sortI ns).reverse) := by
  refine hf.rt rfl (exL_ret _ _ _ _ _ ?_)
  simp [ev_var, ev_cst, ev_gci, ev_op, ev_tup, ev_lst, ev_call, ev_and, ev_or, ev_not, ev_ifx, ev_chain, evs_nil, evs_cons, evAnd, evOr, O.bind, Os.bind, opS, addS, subS, mulS, fdivS, modS, powS, negS, eqS, neS, ltS, leS, gtS, geS, lenS, sumS, absS, max1S, min1S, max2S, min2S, all1S, any1S, int1S, isiS, isiT, ixS, catS, repS, slcAS, slcBS, revS, sortedS, listS, rngLS, flIf, Mx.Sg.get, startW, ints_map, bls_map, eqW_Li, neW_Li, eqW_int, neW_int, ev_flat, W.isFlat, W.isFlats, flats_ints]
/-- the sums of the first so many -/
def psums (l : List Int) : List Int := (List.range (l.length + 1)).map fun k => (l.take k).sum
theorem psums_snoc (l : List Int) (x : Int) : psums (l ++ [x]) = psums l ++ [l.sum + x] := by
  unfold psums
  rw [List.length_append, List.length_singleton, List.range_succ, List.map_append]
  congr 1
  · refine List.map_congr_left fun k hk => ?_
    rw [List.mem_range] at hk
    rw [List.take_append_of_le_length (by omega)]
  · rw [List.map_singleton, List.take_of_length_le (by simp)]
    simp
theorem psums_last (l : List Int) : ∃ m, psums l = m ++ [l.sum] := by
  unfold psums
  rw [List.range_succ, List.map_append]
  exact ⟨(List.range l.length).map fun k => (l.take k).sum, by simp⟩
theorem psums_len (l : List Int) : (psums l).length = l.length + 1 := by unfold psums; simp
theorem sortI_len (ns : List Int) : (sortI ns).length = ns.length := (sortI_spec ns).1.length_eq
/-- the falling row, the sums of its greatest -/
def fall (ns : List Int) : List Int := (sortI ns).reverse
def gs (ns : List Int) : List Int := psums (fall ns)
theorem greatest_of_ok (hf : Is T fa 1 1 irFalling) (hg : Is T f 1 3 (irGreatestOf fa)) (n : Nat) (ns : List Int) (h2 : ns.length ≤ 6) : callN T (n + 2) f [Li ns] = .val (Li (gs ns)) := by
  refine hg.rt rfl ?_
  show exL (callN T (n + 1)) T.cs (irGreatestOf fa) [some (Li ns), none, none] = _
  unfold irGreatestOf
  rw [exL_asg (w := Li [0]) (h := by simp [ev_var, ev_cst, ev_gci, ev_op, ev_tup, ev_lst, ev_call, ev_and, ev_or, ev_not, ev_ifx, ev_chain, evs_nil, evs_cons, evAnd, evOr, O.bind, Os.bind, opS, addS, subS, mulS, fdivS, modS, powS, negS, eqS, neS, ltS, leS, gtS, geS, lenS, sumS, absS, max1S, min1S, max2S, min2S, all1S, any1S, int1S, isiS, isiT, ixS, catS, repS, slcAS, slcBS, revS, sortedS, listS, rngLS, flIf, Mx.Sg.get, startW, ints_map, bls_map, eqW_Li, neW_Li, eqW_int, neW_int, ev_flat, W.isFlat, W.isFlats])]
  have hs : ∀ (pre : List Int) (x : Int) (post : List Int) (a : List Int), fall ns = pre ++ x :: post → a = psums pre → ∃ a' o, (fun s => exL (callN T (n + 1)) T.cs gBody s) ([some (Li ns), some (Li a), none].set 2 (some (W.int x))) = .nx ([some (Li ns), some (Li a'), none].set 2 o) ∧ a' = psums (pre ++ [x]) := by
    intro pre x post a e p
    subst p
    obtain ⟨m, hm⟩ := psums_last pre
    refine ⟨psums (pre ++ [x]), some (.int x), ?_, rfl⟩
    have hl : pre.length ≤ 6 := by
      have := congrArg List.length e
      unfold fall at this
      rw [List.length_reverse, sortI_len, List.length_append, List.length_cons] at this
      omega
    simp only [gBody]
    rw [exL_app (ws := (psums pre).map W.int) (w := .int (pre.sum + x)), exL_nil, psums_snoc]
    · simp [wipeW]
    · rfl
    · have : atI ((psums pre).map W.int) (-1) = some (.int pre.sum) := by rw [hm, List.map_append]; exact atI_neg1 _ _
      simp [ev_var, ev_cst, ev_gci, ev_op, ev_tup, ev_lst, ev_call, ev_and, ev_or, ev_not, ev_ifx, ev_chain, evs_nil, evs_cons, evAnd, evOr, O.bind, Os.bind, opS, addS, subS, mulS, fdivS, modS, powS, negS, eqS, neS, ltS, leS, gtS, geS, lenS, sumS, absS, max1S, min1S, max2S, min2S, all1S, any1S, int1S, isiS, isiT, ixS, catS, repS, slcAS, slcBS, revS, sortedS, listS, rngLS, flIf, Mx.Sg.get, startW, ints_map, bls_map, eqW_Li, neW_Li, eqW_int, neW_int, ev_flat, W.isFlat, W.isFlats, this]
    · rw [List.length_map, psums_len]
      show _ < 100000
      omega
  obtain ⟨a, o, h3, h4⟩ := for1 (i := 2) (φ := W.int) (fun (a : List Int) => [some (Li ns), some (Li a), none]) (fun pre a => a = psums pre) (fun a => rfl) hs [0] rfl
  rw [exL_for (items := (fall ns).map W.int) (σ' := [some (Li ns), some (Li a), o]) (h := by simp [evIt, ev_var, ev_cst, ev_gci, ev_op, ev_tup, ev_lst, ev_call, ev_and, ev_or, ev_not, ev_ifx, ev_chain, evs_nil, evs_cons, evAnd, evOr, O.bind, Os.bind, opS, addS, subS, mulS, fdivS, modS, powS, negS, eqS, neS, ltS, leS, gtS, geS, lenS, sumS, absS, max1S, min1S, max2S, min2S, all1S, any1S, int1S, isiS, isiT, ixS, catS, repS, slcAS, slcBS, revS, sortedS, listS, rngLS, flIf, Mx.Sg.get, startW, ints_map, bls_map, eqW_Li, neW_Li, eqW_int, neW_int, ev_flat, W.isFlat, W.isFlats, falling_ok hf, fall]) (h2 := h3)]
  rw [exL_retV (w := Li a) (h := rfl), h4]
  rfl
theorem law_greatest_ok (hg : Is T f 1 3 irLawGreatest) (n : Nat) (ns : List Int) (h2 : ns.length ≤ 6) : callN T (n + 1) f [Li ns] = .val (Li (gs ns)) := by
  refine hg.rt rfl ?_
  show exL (callN T n) T.cs irLawGreatest [some (Li ns), none, none] = _
  unfold irLawGreatest
  rw [exL_asg (w := Li (fall ns)) (h := by simp [ev_var, ev_cst, ev_gci, ev_op, ev_tup, ev_lst, ev_call, ev_and, ev_or, ev_not, ev_ifx, ev_chain, evs_nil, evs_cons, evAnd, evOr, O.bind, Os.bind, opS, addS, subS, mulS, fdivS, modS, powS, negS, eqS, neS, ltS, leS, gtS, geS, lenS, sumS, absS, max1S, min1S, max2S, min2S, all1S, any1S, int1S, isiS, isiT, ixS, catS, repS, slcAS, slcBS, revS, sortedS, listS, rngLS, flIf, Mx.Sg.get, startW, ints_map, bls_map, eqW_Li, neW_Li, eqW_int, neW_int, ev_flat, W.isFlat, W.isFlats, flats_ints, fall])]
  refine exL_ret _ _ _ _ _ ?_
  have : Li (gs ns) = .lst ((List.range (ns.length + 1)).map fun k => .int (((fall ns).take k).sum)) := by
    unfold gs psums
    rw [mapLi]
    unfold fall
    rw [List.length_reverse, sortI_len]
  rw [this]
  refine ev_comp _ _ _ _ _ _ (φ := fun (i : Nat) => .int (i : Int)) ?_ fun x _ => ?_
  · have e : (ns.length : Int) + 1 = ((ns.length + 1 : Nat) : Int) := by omega
    simp [evIt, ev_var, ev_cst, ev_gci, ev_op, ev_tup, ev_lst, ev_call, ev_and, ev_or, ev_not, ev_ifx, ev_chain, evs_nil, evs_cons, evAnd, evOr, O.bind, Os.bind, opS, addS, subS, mulS, fdivS, modS, powS, negS, eqS, neS, ltS, leS, gtS, geS, lenS, sumS, absS, max1S, min1S, max2S, min2S, all1S, any1S, int1S, isiS, isiT, ixS, catS, repS, slcAS, slcBS, revS, sortedS, listS, rngLS, flIf, Mx.Sg.get, startW, ints_map, bls_map, eqW_Li, neW_Li, eqW_int, neW_int, ev_flat, W.isFlat, W.isFlats]
    rw [e]
    exact rngW_nat (by omega)
  · simp [ev_var, ev_cst, ev_gci, ev_op, ev_tup, ev_lst, ev_call, ev_and, ev_or, ev_not, ev_ifx, ev_chain, evs_nil, evs_cons, evAnd, evOr, O.bind, Os.bind, opS, addS, subS, mulS, fdivS, modS, powS, negS, eqS, neS, ltS, leS, gtS, geS, lenS, sumS, absS, max1S, min1S, max2S, min2S, all1S, any1S, int1S, isiS, isiT, ixS, catS, repS, slcAS, slcBS, revS, sortedS, listS, rngLS, flIf, Mx.Sg.get, startW, ints_map, bls_map, eqW_Li, neW_Li, eqW_int, neW_int, ev_flat, W.isFlat, W.isFlats, cut_to, flats_ints]
    rw [← List.map_take, ints_map]
end
end Mx
/-! # Mx20: plain: sums of the greatest, what lies above a price -/
namespace Mx
/-- what lies above t -/
def abv (l : List Int) (t : Int) : Int := (l.map fun x => if t < x then x - t else 0).sum
theorem abv_nonneg : ∀ (l : List Int) (t : Int), 0 ≤ abv l t
  | [], t => by simp [abv]
  | x :: l, t => by
    have := abv_nonneg l t
    unfold abv at this ⊢
    rw [List.map_cons, List.sum_cons]
    split <;> omega
theorem sum_perm' {l m : List Int} (h : l.Perm m) : l.sum = m.sum := by
  induction h with
  | nil => rfl
  | cons x _ ih => simp [ih]
  | swap x y l => simp; omega
  | trans _ _ h1 h2 => exact h1.trans h2
theorem abv_perm {l m : List Int} (h : l.Perm m) (t : Int) : abv l t = abv m t := sum_perm' (h.map _)
theorem take_le_abv : ∀ (l : List Int) (k : Nat) (t : Int), k ≤ l.length → (l.take k).sum ≤ k * t + abv l t
  | l, 0, t, _ => by
    have := abv_nonneg l t
    simp
    exact this
  | [], k + 1, t, h => by simp at h
  | x :: l, k + 1, t, h => by
    have ih := take_le_abv l k t (by simpa using h)
    rw [List.take_succ_cons, List.sum_cons]
    have e : abv (x :: l) t = (if t < x then x - t else 0) + abv l t := by unfold abv; rw [List.map_cons, List.sum_cons]
    rw [e]
    have e2 : ((k + 1 : Nat) : Int) * t = k * t + t := by rw [Int.natCast_add, Int.add_mul]; simp
    rw [e2]
    split <;> omega
theorem abv_zero : ∀ (l : List Int) (t : Int), (∀ x ∈ l, x ≤ t) → abv l t = 0
  | [], t, _ => by simp [abv]
  | x :: l, t, h => by
    have ih := abv_zero l t fun y hy => h y (List.mem_cons_of_mem _ hy)
    have hx := h x List.mem_cons_self
    have e : abv (x :: l) t = (if t < x then x - t else 0) + abv l t := by unfold abv; rw [List.map_cons, List.sum_cons]
    rw [e, ih, if_neg (by omega)]
    rfl
theorem abv_split : ∀ (l : List Int) (k : Nat) (t : Int), k ≤ l.length → (∀ x ∈ l.take k, t ≤ x) → (∀ x ∈ l.drop k, x ≤ t) → (l.take k).sum = k * t + abv l t
  | l, 0, t, _, _, h => by
    rw [abv_zero l t (by simpa using h)]
    simp
  | [], k + 1, t, h, _, _ => by simp at h
  | x :: l, k + 1, t, h, h1, h2 => by
    have ih := abv_split l k t (by simpa using h) (fun y hy => h1 y (by rw [List.take_succ_cons]; exact List.mem_cons_of_mem _ hy)) (fun y hy => h2 y (by rw [List.drop_succ_cons]; exact hy))
    have hx := h1 x (by rw [List.take_succ_cons]; exact List.mem_cons_self)
    rw [List.take_succ_cons, List.sum_cons, ih]
    have e : abv (x :: l) t = (if t < x then x - t else 0) + abv l t := by unfold abv; rw [List.map_cons, List.sum_cons]
    rw [e]
    have e2 : ((k + 1 : Nat) : Int) * t = k * t + t := by rw [Int.natCast_add, Int.add_mul]; simp
    rw [e2]
    split <;> omega
theorem fall_perm (l : List Int) : (fall l).Perm l := (List.reverse_perm _).trans (sortI_spec l).1
theorem fall_len (l : List Int) : (fall l).length = l.length := (fall_perm l).length_eq
theorem fall_pair (l : List Int) : (fall l).Pairwise (· ≥ ·) := by
  unfold fall
  rw [List.pairwise_reverse]
  exact (sortI_spec l).2
/-- the k-th of the sums of the greatest -/
def gk (l : List Int) (k : Nat) : Int := ((fall l).take k).sum
theorem gs_eq (l : List Int) : gs l = (List.range (l.length + 1)).map (gk l) := by
  unfold gs psums
  rw [fall_len]
  rfl
theorem gk_le (l : List Int) {k : Nat} (h : k ≤ l.length) (t : Int) : gk l k ≤ k * t + abv l t := by
  rw [← abv_perm (fall_perm l) t]
  exact take_le_abv _ k t (by rw [fall_len]; exact h)
/-- a price at which the k greatest tell all that lies above -/
theorem gk_at (l : List Int) {k : Nat} (h : k ≤ l.length) : ∃ t, gk l k = k * t + abv l t := by
  have hp := fall_pair l
  by_cases h0 : k < l.length
  · have hk : k < (fall l).length := by rw [fall_len]; exact h0
    refine ⟨(fall l)[k], ?_⟩
    rw [← abv_perm (fall_perm l)]
    rw [List.pairwise_iff_getElem] at hp
    refine abv_split _ k _ (by omega) (fun x hx => ?_) (fun x hx => ?_)
    · obtain ⟨i, hi, rfl⟩ := List.mem_iff_getElem.mp hx
      rw [List.length_take] at hi
      rw [List.getElem_take]
      exact hp i k (by omega) hk (by omega)
    · obtain ⟨i, hi, rfl⟩ := List.mem_iff_getElem.mp hx
      rw [List.length_drop] at hi
      rw [List.getElem_drop]
      by_cases hi0 : i = 0
      · subst hi0
        exact Int.le_refl _
      · exact hp k (k + i) hk (by omega) (by omega)
  · have hk : k = l.length := by omega
    subst hk
    -- all of them: a price below all
    obtain ⟨t, ht⟩ : ∃ t : Int, ∀ x ∈ fall l, t ≤ x := by
      have : ∀ m : List Int, ∃ t : Int, ∀ x ∈ m, t ≤ x := by
        intro m
        induction m with
        | nil => exact ⟨0, fun x hx => nomatch hx⟩
        | cons y m ih =>
          obtain ⟨t, ht⟩ := ih
          refine ⟨min t y, fun x hx => ?_⟩
          rcases List.mem_cons.mp hx with rfl | hx
          · omega
          · have := ht x hx
            omega
      exact this _
    refine ⟨t, ?_⟩
    rw [← abv_perm (fall_perm l)]
    have e := fall_len l
    rw [← e]
    refine abv_split _ _ _ (Nat.le_refl _) (fun x hx => ht x (List.mem_of_mem_take hx)) (fun x hx => ?_)
    rw [List.drop_length] at hx
    cases hx
/-- under at each price: under at the sums of the greatest -/
theorem gk_mono {l m : List Int} (hl : l.length = m.length) (h : ∀ t, abv l t ≤ abv m t) {k : Nat} (hk : k ≤ l.length) : gk l k ≤ gk m k := by
  obtain ⟨t, ht⟩ := gk_at m (k := k) (by omega)
  have h1 := gk_le l hk t
  have h2 := h t
  omega
end Mx
/-! # Mx21: over, as the laws ask it -/
namespace Mx
open PySem L2
section
variable (cf : Nat → List W → O) (cs : List Int) (σ : Sg)
theorem ev_comp2 (elt : E) (i j : Nat) (it : Mx.It) {β : Type} {xs : List β} {φ ψ g : β → W} (h : evIt cf cs it σ = some (xs.map fun x => .tup [φ x, ψ x])) (hf : ∀ x ∈ xs, ev cf cs elt ((((σ.set j none).set i none).set i (some (φ x))).set j (some (ψ x))) = .val (g x)) : ev cf cs (.comp elt (.tp [i, j]) it none [i, j]) σ = .val (.lst (xs.map g)) := by
  simp only [ev, h]
  have : ∀ ys : List β, (∀ x ∈ ys, x ∈ xs) → compW (tgB (.tp [i, j]) [i, j] σ fun σ' => ev cf cs elt σ') (tgB (.tp [i, j]) [i, j] σ fun σ' => evO cf cs none σ') (ys.map fun x => .tup [φ x, ψ x]) = some (ys.map g) := by
    intro ys
    induction ys with
    | nil => intro _; rfl
    | cons y ys ih =>
      intro hy
      rw [List.map_cons, compW_cons]
      simp only [tgB, tgS, wipeW, setAll, evO]
      rw [hf y (hy y List.mem_cons_self)]
      simp only [tgB, tgS, wipeW, setAll, evO] at ih
      rw [ih fun x hx => hy x (List.mem_cons_of_mem _ hx)]
      rfl
  rw [this xs fun _ h => h]
end
theorem zip_ints (a b : List Int) : zipW (a.map W.int) (b.map W.int) = (a.zip b).map fun p => .tup [.int p.1, .int p.2] := by
  unfold zipW
  rw [List.zipWith_map, List.zip_eq_zipWith, List.map_zipWith]
def irLawOver (g : Nat) : List S := [.asgT [2, 3] [.call g [.var 0], .call g [.var 1]], .frz 2, .frz 3,
  .ret (.and [.op .eq [.flat (.op .ix [.var 2, .op .neg [.cst (.int 1)]]), .flat (.op .ix [.var 3, .op .neg [.cst (.int 1)]])], .op .all1 [.comp (.op .ge [.flat (.var 4), .flat (.var 5)]) (.tp [4, 5]) (.zip (.var 2) (.var 3)) none [4, 5]]])]
/-- over, by the sums of the greatest -/
def ovB (a b : List Int) : Bool := decide (a.sum = b.sum) && ((gs a).zip (gs b)).all fun p => decide (p.2 ≤ p.1)
theorem gs_last (a : List Int) : ∃ m, gs a = m ++ [a.sum] := by
  obtain ⟨m, h⟩ := psums_last (fall a)
  rw [sum_perm' (fall_perm a)] at h
  exact ⟨m, h⟩
theorem law_over_ok {T : Tb} {g f : Nat} (hg : Is T g 1 3 irLawGreatest) (h : Is T f 2 6 (irLawOver g)) (n : Nat) (a b : List Int) (ha : a.length ≤ 6) (hb : b.length ≤ 6) : callN T (n + 2) f [Li a, Li b] = .val (.bl (ovB a b)) := by
  refine h.rt rfl ?_
  show exL (callN T (n + 1)) T.cs (irLawOver g) [some (Li a), some (Li b), none, none, none, none] = _
  refine (exL_asgT _ _ _ _ _ _ (ws := [Li (gs a), Li (gs b)]) (by simp [ev_var, ev_cst, ev_gci, ev_op, ev_tup, ev_lst, ev_call, ev_and, ev_or, ev_not, ev_ifx, ev_chain, evs_nil, evs_cons, evAnd, evOr, O.bind, Os.bind, opS, addS, subS, mulS, fdivS, modS, powS, negS, eqS, neS, ltS, leS, gtS, geS, lenS, sumS, absS, max1S, min1S, max2S, min2S, all1S, any1S, int1S, isiS, isiT, ixS, catS, repS, slcAS, slcBS, revS, sortedS, listS, rngLS, flIf, Mx.Sg.get, startW, ints_map, bls_map, eqW_Li, neW_Li, eqW_int, neW_int, ev_flat, W.isFlat, W.isFlats, law_greatest_ok hg n a ha, law_greatest_ok hg n b hb]) rfl).trans ((exL_frz _ _ _ _ _).trans ((exL_frz _ _ _ _ _).trans (exL_ret _ _ _ _ _ ?_)))
  show ev (callN T (n + 1)) T.cs _ [some (Li a), some (Li b), some (Li (gs a)), some (Li (gs b)), none, none] = _
  have ec : ev (callN T (n + 1)) T.cs (.comp (.op .ge [.flat (.var 4), .flat (.var 5)]) (.tp [4, 5]) (.zip (.var 2) (.var 3)) none [4, 5]) [some (Li a), some (Li b), some (Li (gs a)), some (Li (gs b)), none, none] = .val (.lst (((gs a).zip (gs b)).map fun p => .bl (decide (p.2 ≤ p.1)))) := by
    refine ev_comp2 _ _ _ _ _ _ _ (φ := fun (p : Int × Int) => W.int p.1) (ψ := fun p => W.int p.2) (by simp [evIt, ev_var, ev_cst, ev_gci, ev_op, ev_tup, ev_lst, ev_call, ev_and, ev_or, ev_not, ev_ifx, ev_chain, evs_nil, evs_cons, evAnd, evOr, O.bind, Os.bind, opS, addS, subS, mulS, fdivS, modS, powS, negS, eqS, neS, ltS, leS, gtS, geS, lenS, sumS, absS, max1S, min1S, max2S, min2S, all1S, any1S, int1S, isiS, isiT, ixS, catS, repS, slcAS, slcBS, revS, sortedS, listS, rngLS, flIf, Mx.Sg.get, startW, ints_map, bls_map, eqW_Li, neW_Li, eqW_int, neW_int, ev_flat, W.isFlat, W.isFlats]; exact zip_ints _ _) fun p _ => ?_
    simp [ev_var, ev_cst, ev_gci, ev_op, ev_tup, ev_lst, ev_call, ev_and, ev_or, ev_not, ev_ifx, ev_chain, evs_nil, evs_cons, evAnd, evOr, O.bind, Os.bind, opS, addS, subS, mulS, fdivS, modS, powS, negS, eqS, neS, ltS, leS, gtS, geS, lenS, sumS, absS, max1S, min1S, max2S, min2S, all1S, any1S, int1S, isiS, isiT, ixS, catS, repS, slcAS, slcBS, revS, sortedS, listS, rngLS, flIf, Mx.Sg.get, startW, ints_map, bls_map, eqW_Li, neW_Li, eqW_int, neW_int, ev_flat, W.isFlat, W.isFlats]
  have e2 : ((gs a).zip (gs b)).map (fun p => W.bl (decide (p.2 ≤ p.1))) = (((gs a).zip (gs b)).map fun p => decide (p.2 ≤ p.1)).map W.bl := by rw [List.map_map]; rfl
  rw [e2] at ec
  have ea : ev (callN T (n + 1)) T.cs (.op .all1 [.comp (.op .ge [.flat (.var 4), .flat (.var 5)]) (.tp [4, 5]) (.zip (.var 2) (.var 3)) none [4, 5]]) [some (Li a), some (Li b), some (Li (gs a)), some (Li (gs b)), none, none] = .val (.bl (((gs a).zip (gs b)).all fun p => decide (p.2 ≤ p.1))) := by
    simp only [ev_op, evs_cons, evs_nil, ec, Os.bind, opS, all1S, bls_map]
    congr 2
    rw [List.all_map]
    rfl
  obtain ⟨ma, hma⟩ := gs_last a
  obtain ⟨mb, hmb⟩ := gs_last b
  have l1 : atI ((gs a).map W.int) (-1) = some (.int a.sum) := by rw [hma, List.map_append]; exact atI_neg1 _ _
  have l2 : atI ((gs b).map W.int) (-1) = some (.int b.sum) := by rw [hmb, List.map_append]; exact atI_neg1 _ _
  simp only [ev_and, evAnd, ea]
  unfold ovB
  by_cases hs : a.sum = b.sum
  · simp [ev_var, ev_cst, ev_gci, ev_op, ev_tup, ev_lst, ev_call, ev_and, ev_or, ev_not, ev_ifx, ev_chain, evs_nil, evs_cons, evAnd, evOr, O.bind, Os.bind, opS, addS, subS, mulS, fdivS, modS, powS, negS, eqS, neS, ltS, leS, gtS, geS, lenS, sumS, absS, max1S, min1S, max2S, min2S, all1S, any1S, int1S, isiS, isiT, ixS, catS, repS, slcAS, slcBS, revS, sortedS, listS, rngLS, flIf, Mx.Sg.get, startW, ints_map, bls_map, eqW_Li, neW_Li, eqW_int, neW_int, ev_flat, W.isFlat, W.isFlats, l1, l2, hs]
  · simp [ev_var, ev_cst, ev_gci, ev_op, ev_tup, ev_lst, ev_call, ev_and, ev_or, ev_not, ev_ifx, ev_chain, evs_nil, evs_cons, evAnd, evOr, O.bind, Os.bind, opS, addS, subS, mulS, fdivS, modS, powS, negS, eqS, neS, ltS, leS, gtS, geS, lenS, sumS, absS, max1S, min1S, max2S, min2S, all1S, any1S, int1S, isiS, isiT, ixS, catS, repS, slcAS, slcBS, revS, sortedS, listS, rngLS, flIf, Mx.Sg.get, startW, ints_map, bls_map, eqW_Li, neW_Li, eqW_int, neW_int, ev_flat, W.isFlat, W.isFlats, l1, l2, hs]
end Mx
/-! # Mx22: a row evened out, as the laws draw it -/
namespace Mx
open PySem L2
/-! ## plain -/
theorem sum_map_set (f : Int → Int) : ∀ (l : List Int) (i : Nat) (x : Int) (h : i < l.length), ((l.set i x).map f).sum = (l.map f).sum - f l[i] + f x
  | y :: l, 0, x, h => by simp; omega
  | y :: l, i + 1, x, h => by
    have := sum_map_set f l i x (by simpa using h)
    rw [List.set_cons_succ, List.map_cons, List.map_cons, List.sum_cons, List.sum_cons, this, List.getElem_cons_succ]
    omega
def pos (t x : Int) : Int := if t < x then x - t else 0
theorem abv_pos (l : List Int) (t : Int) : abv l t = (l.map (pos t)).sum := rfl
/-- a gift -/
def give (l : List Int) (i j : Nat) (g : Int) : List Int := (l.set i (l.getD i 0 - g)).set j ((l.set i (l.getD i 0 - g)).getD j 0 + g)
theorem give_len (l : List Int) (i j : Nat) (g : Int) : (give l i j g).length = l.length := by simp [give]
theorem getD_of {l : List Int} {i : Nat} (h : i < l.length) : l.getD i 0 = l[i] := by simp [List.getD_eq_getElem?_getD, h]
theorem give_map (f : Int → Int) {l : List Int} {i j : Nat} {g : Int} (hi : i < l.length) (hj : j < l.length) (hij : i ≠ j) : ((give l i j g).map f).sum = (l.map f).sum - f l[i] - f l[j] + f (l[i] - g) + f (l[j] + g) := by
  unfold give
  have hj2 : j < (l.set i (l[i] - g)).length := by simpa using hj
  rw [getD_of hi, getD_of hj2, sum_map_set f _ j _ hj2, sum_map_set f l i _ hi, List.getElem_set_ne hij]
  omega
theorem give_self {l : List Int} {i : Nat} (hi : i < l.length) : give l i i 0 = l := by
  unfold give
  rw [getD_of hi, Int.sub_zero, List.set_getElem_self, getD_of hi, Int.add_zero, List.set_getElem_self]
theorem give_sum {l : List Int} {i j : Nat} {g : Int} (hi : i < l.length) (hj : j < l.length) (hij : i ≠ j ∨ g = 0) : (give l i j g).sum = l.sum := by
  by_cases e : i = j
  · subst e
    rcases hij with h | rfl
    · exact absurd rfl h
    · rw [give_self hi]
  · have := give_map (fun x => x) (g := g) hi hj e
    simp at this
    omega
theorem give_abv {l : List Int} {i j : Nat} {g : Int} (hi : i < l.length) (hj : j < l.length) (hij : i ≠ j ∨ g = 0) (h0 : 0 ≤ g) (h1 : 2 * g ≤ l[i] - l[j]) (t : Int) : abv (give l i j g) t ≤ abv l t := by
  by_cases e : i = j
  · subst e
    rcases hij with h | rfl
    · exact absurd rfl h
    · rw [give_self hi]
      exact Int.le_refl _
  · rw [abv_pos, abv_pos, give_map (pos t) hi hj e]
    unfold pos
    split <;> split <;> split <;> split <;> omega
theorem give_bd {l : List Int} {i j : Nat} {g : Int} {p : Nat} (hi : i < l.length) (hj : j < l.length) (hij : i ≠ j ∨ g = 0) (h0 : 0 ≤ g) (h1 : 2 * g ≤ l[i] - l[j]) (hb : ∀ x ∈ l, x.natAbs < 2 ^ p) : ∀ x ∈ give l i j g, x.natAbs < 2 ^ p := by
  by_cases e : i = j
  · subst e
    rcases hij with h | rfl
    · exact absurd rfl h
    · rw [give_self hi]
      exact hb
  · intro x hx
    have b1 := hb _ (List.getElem_mem hi)
    have b2 := hb _ (List.getElem_mem hj)
    unfold give at hx
    have hj2 : j < (l.set i (l[i] - g)).length := by simpa using hj
    rw [getD_of hi, getD_of hj2, List.getElem_set_ne e] at hx
    rcases List.mem_or_eq_of_mem_set hx with hx | rfl
    · rcases List.mem_or_eq_of_mem_set hx with hx | rfl
      · exact hb x hx
      · omega
    · omega
/-! ## the program -/
def eBody (nu : Nat) : List S := [.asg 8 (.flat) (.flat (.op .ix [.var 3, .op .mod [.op .add [.var 4, .flat (.var 1)], .op .len [.var 3]]])), .asg 9 (.flat) (.op .abs [.call nu [.var 8, .op .add [.var 4, .op .mul [.cst (.int 3), .flat (.var 1)]], .var 6]]), .asgT [11, 12] [.op .mod [.var 9, .op .len [.var 2]], .op .mod [.op .fdiv [.var 9, .cst (.int 7)], .op .len [.var 2]]], .unp [13, 14] (.ifx (.op .gt [.flat (.op .ix [.var 7, .var 11]), .flat (.op .ix [.var 7, .var 12])]) (.tup [.var 11, .var 12]) (.tup [.var 12, .var 11])), .asg 10 (.flat) (.op .mod [.op .fdiv [.var 9, .cst (.int 50)], .op .add [.cst (.int 1), .op .fdiv [.op .sub [.flat (.op .ix [.var 7, .var 13]), .flat (.op .ix [.var 7, .var 14])], .cst (.int 2)]]]), .setT [(7, .var 13, none)] [.op .sub [.flat (.op .ix [.var 7, .var 13]), .var 10]] [], .setT [(7, .var 14, none)] [.op .add [.flat (.op .ix [.var 7, .var 14]), .var 10]] [], .kil 8, .kil 9, .kil 10, .kil 11, .kil 12, .kil 13, .kil 14]
def irEvened (nu : Nat) : List S := [.asg 3 (.fr (some 0)) (.ifx (.op .ne [.var 0, .lst []]) (.op (.slcB true) [.var 0, .cst (.int 63)]) (.lst [.cst (.int 4)])),
  .asgT [6, 7] [.op .add [.op .abs [.op .sum [.var 3]], .flat (.var 1)], .op (.list true) [.var 2]],
  .forS (.nm 4) (.rng1 (.op .mod [.var 6, .cst (.int 5)])) (eBody nu),
  .asg 5 (.flat) (.op .mod [.var 6, .op .len [.var 2]]),
  .ret (.ifx (.op .eq [.op .mod [.var 6, .cst (.int 2)], .cst (.int 0)]) (.op (.cat true) [.op (.slcA true) [.var 7, .var 5], .op (.slcB true) [.var 7, .var 5]]) (.op (.rev true) [.var 7]))]
def cells4 (ns : List Int) : List Int := if ns = [] then [4] else ns
theorem cells4_ne (ns : List Int) : 0 < (cells4 ns).length := by
  unfold cells4
  split
  · decide
  · rename_i h
    exact List.length_pos_iff.mpr h
theorem cells4_nb {ns : List Int} {p : Nat} (hp : 10 ≤ p) (h : ∀ x ∈ ns, x.natAbs < 2 ^ p) : ∀ x ∈ cells4 ns, x.natAbs < 2 ^ p := by
  unfold cells4
  split
  · intro x hx
    rw [List.mem_singleton.mp hx]
    exact nb_small (by decide) hp
  · exact h
theorem cells4_len {ns : List Int} (h : ns.length ≤ 63) : (cells4 ns).length ≤ 63 := by
  unfold cells4
  split
  · decide
  · exact h
theorem fmod_nat (a b : Nat) : (a : Int).fmod (b : Int) = ((a % b : Nat) : Int) := by
  rw [Int.fmod_eq_emod_of_nonneg _ (by omega)]
  simp
/-- under, by prices; as many; the same sum -/
def Und (l m : List Int) : Prop := l.length = m.length ∧ l.sum = m.sum ∧ ∀ t, abv l t ≤ abv m t
section
variable {T : Tb} {nu f : Nat} {ns r C a : List Int} {Wh : Int} {b : Nat} (n : Nat)
theorem turn_ok (hnu : Is T nu 3 5 irNumber) {p : Nat} (hp : 40 ≤ p) (hp2 : p ≤ 1900000) (hc : ∀ x ∈ C, x.natAbs < 2 ^ p) (hcn : 0 < C.length) (hwh : Wh.natAbs < 2 ^ (p + 7)) (hb : b ≤ 10) {x : Nat} (hx : x < 5) (hr : 1 ≤ r.length) (hal : a.length = r.length) (har : a.length ≤ 6) :
    ∃ i j g, i < a.length ∧ j < a.length ∧ (i ≠ j ∨ g = 0) ∧ 0 ≤ g ∧ 2 * g ≤ a.getD i 0 - a.getD j 0 ∧ exL (callN T (n + 1)) T.cs (eBody nu) ([some (.scr ns), some (.int b), some (Li r), some (Li C), none, none, some (.int Wh), some (Li a), none, none, none, none, none, none, none].set 4 (some (W.int (x : Int)))) = .nx ([some (.scr ns), some (.int b), some (Li r), some (Li C), none, none, some (.int Wh), some (Li (give a i j g)), none, none, none, none, none, none, none].set 4 (some (W.int (x : Int)))) := by
  have hlt : (x + b) % C.length < C.length := Nat.mod_lt _ hcn
  obtain ⟨v, hv⟩ := number_ok hnu n (c := C[(x + b) % C.length]) (w := Wh) (a := x + 3 * b) (p := p + 7) (by omega) (by omega) (by omega) (nb_mono (hc _ (List.getElem_mem hlt)) (by omega)) hwh
  generalize hV : v.natAbs = V
  have hab : (if v < 0 then -v else v) = (V : Int) := by rw [← hV]; split <;> omega
  have hra : 0 < r.length := hr
  have i1 : V % r.length < a.length := by rw [hal]; exact Nat.mod_lt _ hra
  have i2 : V / 7 % r.length < a.length := by rw [hal]; exact Nat.mod_lt _ hra
  have ei : ((x : Int) + (b : Int)).fmod (C.length : Int) = (((x + b) % C.length : Nat) : Int) := by
    rw [← fmod_nat]
    simp
  have eat : atI (C.map W.int) (((x + b) % C.length : Nat) : Int) = some (.int C[(x + b) % C.length]) := by
    rw [atI_nat _ _ (by rw [List.length_map]; exact hlt), List.getElem?_map, List.getElem?_eq_getElem hlt]
    rfl
  have hnz : ¬ ((C.length : Int) = 0) := by omega
  have hrz : ¬ ((r.length : Int) = 0) := by omega
  have q3 : mulOk 3 (b : Int) = true := mulOk_of (p := 10) (q := 10) (by decide) (nb_small (by omega) (by omega)) (by decide)
  have en : (x : Int) + 3 * (b : Int) = ((x + 3 * b : Nat) : Int) := by simp
  have d7 : divOk 7 = true := by decide
  have d50 : divOk 50 = true := by decide
  have d2 : divOk 2 = true := by decide
  have e7 : (V : Int) / 7 = ((V / 7 : Nat) : Int) := by simp
  have e50 : (V : Int) / 50 = ((V / 50 : Nat) : Int) := by simp
  have at_a : ∀ k : Nat, k < a.length → atI (a.map W.int) (k : Int) = some (.int (a.getD k 0)) := fun k hk => by
    rw [atI_nat _ _ (by rw [List.length_map]; exact hk), List.getElem?_map, List.getElem?_eq_getElem hk, getD_of hk]
    rfl
  have tail : ∀ (o t hi lo : Nat), hi < a.length → lo < a.length → (hi ≠ lo ∨ a.getD hi 0 = a.getD lo 0 ∧ hi = lo) → a.getD lo 0 ≤ a.getD hi 0 → ∃ g, (hi ≠ lo ∨ g = 0) ∧ 0 ≤ g ∧ 2 * g ≤ a.getD hi 0 - a.getD lo 0 ∧
      exL (callN T (n + 1)) T.cs (eBody nu |>.drop 4) ([some (.scr ns), some (.int b), some (Li r), some (Li C), some (W.int (x : Int)), none, some (.int Wh), some (Li a), some (.int C[(x + b) % C.length]), some (.int V), none, some (.int (o : Nat)), some (.int (t : Nat)), some (.int (hi : Nat)), some (.int (lo : Nat))]) = .nx ([some (.scr ns), some (.int b), some (Li r), some (Li C), some (W.int (x : Int)), none, some (.int Wh), some (Li (give a hi lo g)), none, none, none, none, none, none, none]) := by
    intro o t hi lo h1 h2 h3 h4
    have ah := at_a hi h1
    have al := at_a lo h2
    have gv : ∀ g, give a hi lo g = (a.set hi (a.getD hi 0 - g)).set lo ((a.set hi (a.getD hi 0 - g)).getD lo 0 + g) := fun g => rfl
    generalize hH : a.getD hi 0 = Hh at *
    generalize hL : a.getD lo 0 = Ll at *
    have hd : 0 < 1 + (Hh - Ll) / 2 := by omega
    have m := fmod_bd (V / 50 : Nat) hd
    refine ⟨((V / 50 : Nat) : Int).fmod (1 + (Hh - Ll) / 2), ?_, m.1, by omega, ?_⟩
    · rcases h3 with h3 | ⟨h3, _⟩
      · exact Or.inl h3
      · right
        rw [h3] at m ⊢
        have e0 : (Ll - Ll) / 2 = 0 := by simp
        rw [e0] at m ⊢
        omega
    · generalize hg : ((V / 50 : Nat) : Int).fmod (1 + (Hh - Ll) / 2) = g
      have hz : ¬ (1 + (Hh - Ll) / 2 = 0) := by omega
      refine (exL_asg _ _ _ _ _ _ _ (w := .int g) ?_).trans ?_
      · simp [ev_var, ev_cst, ev_gci, ev_op, ev_tup, ev_lst, ev_call, ev_and, ev_or, ev_not, ev_ifx, ev_chain, evs_nil, evs_cons, evAnd, evOr, O.bind, Os.bind, opS, addS, subS, mulS, fdivS, modS, powS, negS, eqS, neS, ltS, leS, gtS, geS, lenS, sumS, absS, max1S, min1S, max2S, min2S, all1S, any1S, int1S, isiS, isiT, ixS, catS, repS, slcAS, slcBS, revS, sortedS, listS, rngLS, flIf, Mx.Sg.get, startW, ints_map, bls_map, eqW_Li, neW_Li, eqW_int, neW_int, ev_flat, W.isFlat, W.isFlats, ah, al, d2, d50, hz]
        rw [e50]
        exact hg
      refine (exL_setT _ _ _ _ _ _ _ (ws := [.int (Hh - g)]) (σ' := [some (.scr ns), some (.int b), some (Li r), some (Li C), some (W.int (x : Int)), none, some (.int Wh), some (Li (a.set hi (Hh - g))), some (.int C[(x + b) % C.length]), some (.int V), some (.int g), some (.int (o : Nat)), some (.int (t : Nat)), some (.int (hi : Nat)), some (.int (lo : Nat))]) ?_ ?_).trans ?_
      · simp [ev_var, ev_cst, ev_gci, ev_op, ev_tup, ev_lst, ev_call, ev_and, ev_or, ev_not, ev_ifx, ev_chain, evs_nil, evs_cons, evAnd, evOr, O.bind, Os.bind, opS, addS, subS, mulS, fdivS, modS, powS, negS, eqS, neS, ltS, leS, gtS, geS, lenS, sumS, absS, max1S, min1S, max2S, min2S, all1S, any1S, int1S, isiS, isiT, ixS, catS, repS, slcAS, slcBS, revS, sortedS, listS, rngLS, flIf, Mx.Sg.get, startW, ints_map, bls_map, eqW_Li, neW_Li, eqW_int, neW_int, ev_flat, W.isFlat, W.isFlats, ah]
      · simp [stosW, stoW, ev_var, ev_cst, ev_gci, ev_op, ev_tup, ev_lst, ev_call, ev_and, ev_or, ev_not, ev_ifx, ev_chain, evs_nil, evs_cons, evAnd, evOr, O.bind, Os.bind, opS, addS, subS, mulS, fdivS, modS, powS, negS, eqS, neS, ltS, leS, gtS, geS, lenS, sumS, absS, max1S, min1S, max2S, min2S, all1S, any1S, int1S, isiS, isiT, ixS, catS, repS, slcAS, slcBS, revS, sortedS, listS, rngLS, flIf, Mx.Sg.get, startW, ints_map, bls_map, eqW_Li, neW_Li, eqW_int, neW_int, ev_flat, W.isFlat, W.isFlats, wipeW, ixN, h1]
      have hl2 : lo < (a.set hi (Hh - g)).length := by simpa using h2
      have at_b : atI ((a.set hi (Hh - g)).map W.int) (lo : Int) = some (.int ((a.set hi (Hh - g)).getD lo 0)) := by
        rw [atI_nat _ _ (by rw [List.length_map]; exact hl2), List.getElem?_map, List.getElem?_eq_getElem hl2, getD_of hl2]
        rfl
      refine (exL_setT _ _ _ _ _ _ _ (ws := [.int ((a.set hi (Hh - g)).getD lo 0 + g)]) (σ' := [some (.scr ns), some (.int b), some (Li r), some (Li C), some (W.int (x : Int)), none, some (.int Wh), some (Li (give a hi lo g)), some (.int C[(x + b) % C.length]), some (.int V), some (.int g), some (.int (o : Nat)), some (.int (t : Nat)), some (.int (hi : Nat)), some (.int (lo : Nat))]) ?_ ?_).trans ?_
      · simp only [evs_cons, evs_nil, ev_op, ev_flat, ev_var, Mx.Sg.get, List.getElem?_cons_zero, List.getElem?_cons_succ, Os.bind, O.bind, opS, ixS, addS, at_b, W.isFlat, if_true]
      · rw [gv]
        generalize (a.set hi (Hh - g)).getD lo 0 + g = z
        simp [stosW, stoW, ev_var, ev_cst, ev_gci, ev_op, ev_tup, ev_lst, ev_call, ev_and, ev_or, ev_not, ev_ifx, ev_chain, evs_nil, evs_cons, evAnd, evOr, O.bind, Os.bind, opS, addS, subS, mulS, fdivS, modS, powS, negS, eqS, neS, ltS, leS, gtS, geS, lenS, sumS, absS, max1S, min1S, max2S, min2S, all1S, any1S, int1S, isiS, isiT, ixS, catS, repS, slcAS, slcBS, revS, sortedS, listS, rngLS, flIf, Mx.Sg.get, startW, ints_map, bls_map, eqW_Li, neW_Li, eqW_int, neW_int, ev_flat, W.isFlat, W.isFlats, wipeW, ixN, h2]
      refine (exL_kil _ _ _ _ _).trans ((exL_kil _ _ _ _ _).trans ((exL_kil _ _ _ _ _).trans ((exL_kil _ _ _ _ _).trans ((exL_kil _ _ _ _ _).trans ((exL_kil _ _ _ _ _).trans ((exL_kil _ _ _ _ _).trans ?_))))))
      rw [exL_nil]
      rfl
  have head : ∀ (hi lo : Nat), (a.getD (V / 7 % r.length) 0 < a.getD (V % r.length) 0 → hi = V % r.length ∧ lo = V / 7 % r.length) → (¬ a.getD (V / 7 % r.length) 0 < a.getD (V % r.length) 0 → hi = V / 7 % r.length ∧ lo = V % r.length) →
      ∀ R, exL (callN T (n + 1)) T.cs (eBody nu |>.drop 4) ([some (.scr ns), some (.int b), some (Li r), some (Li C), some (W.int (x : Int)), none, some (.int Wh), some (Li a), some (.int C[(x + b) % C.length]), some (.int V), none, some (.int ((V % r.length : Nat) : Int)), some (.int ((V / 7 % r.length : Nat) : Int)), some (.int (hi : Nat)), some (.int (lo : Nat))]) = R → exL (callN T (n + 1)) T.cs (eBody nu) ([some (.scr ns), some (.int b), some (Li r), some (Li C), none, none, some (.int Wh), some (Li a), none, none, none, none, none, none, none].set 4 (some (W.int (x : Int)))) = R := by
    intro hi lo c1 c2 R hR
    rw [← hR]
    have a1 := at_a _ i1
    have a2 := at_a _ i2
    generalize hA : a.getD (V % r.length) 0 = A at *
    generalize hB : a.getD (V / 7 % r.length) 0 = B at *
    refine (exL_asg _ _ _ _ _ _ _ (w := .int C[(x + b) % C.length]) ?_).trans ((exL_asg _ _ _ _ _ _ _ (w := .int V) ?_).trans ((exL_asgT _ _ _ _ _ _ (ws := [.int ((V % r.length : Nat) : Int), .int ((V / 7 % r.length : Nat) : Int)]) ?_ rfl).trans ((exL_unp _ _ _ _ _ _ (ws := [.int (hi : Nat), .int (lo : Nat)]) ?_ rfl).trans rfl)))
    · simp only [ev_var, ev_cst, ev_gci, ev_op, ev_tup, ev_lst, ev_call, ev_and, ev_or, ev_not, ev_ifx, ev_chain, evs_nil, evs_cons, evAnd, evOr, O.bind, Os.bind, opS, addS, subS, mulS, fdivS, modS, powS, negS, eqS, neS, ltS, leS, gtS, geS, lenS, sumS, absS, max1S, min1S, max2S, min2S, all1S, any1S, int1S, isiS, isiT, ixS, catS, repS, slcAS, slcBS, revS, sortedS, listS, rngLS, flIf, Mx.Sg.get, startW, ints_map, bls_map, eqW_Li, neW_Li, eqW_int, neW_int, ev_flat, W.isFlat, W.isFlats, List.set_cons_zero, List.set_cons_succ, List.getElem?_cons_zero, List.getElem?_cons_succ, List.length_map, hnz, if_false, if_true, ei, eat]
    · simp [ev_var, ev_cst, ev_gci, ev_op, ev_tup, ev_lst, ev_call, ev_and, ev_or, ev_not, ev_ifx, ev_chain, evs_nil, evs_cons, evAnd, evOr, O.bind, Os.bind, opS, addS, subS, mulS, fdivS, modS, powS, negS, eqS, neS, ltS, leS, gtS, geS, lenS, sumS, absS, max1S, min1S, max2S, min2S, all1S, any1S, int1S, isiS, isiT, ixS, catS, repS, slcAS, slcBS, revS, sortedS, listS, rngLS, flIf, Mx.Sg.get, startW, ints_map, bls_map, eqW_Li, neW_Li, eqW_int, neW_int, ev_flat, W.isFlat, W.isFlats, q3]
      rw [en, hv]
      simp [hab]
    · have hrn : ¬ (r = []) := fun z => by rw [z] at hra; cases hra
      simp only [ev_var, ev_cst, ev_gci, ev_op, ev_tup, ev_lst, ev_call, ev_and, ev_or, ev_not, ev_ifx, ev_chain, evs_nil, evs_cons, evAnd, evOr, O.bind, Os.bind, opS, addS, subS, mulS, fdivS, modS, powS, negS, eqS, neS, ltS, leS, gtS, geS, lenS, sumS, absS, max1S, min1S, max2S, min2S, all1S, any1S, int1S, isiS, isiT, ixS, catS, repS, slcAS, slcBS, revS, sortedS, listS, rngLS, flIf, Mx.Sg.get, startW, ints_map, bls_map, eqW_Li, neW_Li, eqW_int, neW_int, ev_flat, W.isFlat, W.isFlats, List.set_cons_zero, List.set_cons_succ, List.getElem?_cons_zero, List.getElem?_cons_succ, List.length_map, hrz, d7, if_false, if_true, e7, fmod_nat]
    · by_cases hgt : B < A
      · obtain ⟨rfl, rfl⟩ := c1 hgt
        simp only [ev_var, ev_cst, ev_gci, ev_op, ev_tup, ev_lst, ev_call, ev_and, ev_or, ev_not, ev_ifx, ev_chain, evs_nil, evs_cons, evAnd, evOr, O.bind, Os.bind, opS, addS, subS, mulS, fdivS, modS, powS, negS, eqS, neS, ltS, leS, gtS, geS, lenS, sumS, absS, max1S, min1S, max2S, min2S, all1S, any1S, int1S, isiS, isiT, ixS, catS, repS, slcAS, slcBS, revS, sortedS, listS, rngLS, flIf, Mx.Sg.get, startW, ints_map, bls_map, eqW_Li, neW_Li, eqW_int, neW_int, ev_flat, W.isFlat, W.isFlats, List.set_cons_zero, List.set_cons_succ, List.getElem?_cons_zero, List.getElem?_cons_succ, a1, a2, hgt, decide_true, if_true]
      · obtain ⟨rfl, rfl⟩ := c2 hgt
        simp only [ev_var, ev_cst, ev_gci, ev_op, ev_tup, ev_lst, ev_call, ev_and, ev_or, ev_not, ev_ifx, ev_chain, evs_nil, evs_cons, evAnd, evOr, O.bind, Os.bind, opS, addS, subS, mulS, fdivS, modS, powS, negS, eqS, neS, ltS, leS, gtS, geS, lenS, sumS, absS, max1S, min1S, max2S, min2S, all1S, any1S, int1S, isiS, isiT, ixS, catS, repS, slcAS, slcBS, revS, sortedS, listS, rngLS, flIf, Mx.Sg.get, startW, ints_map, bls_map, eqW_Li, neW_Li, eqW_int, neW_int, ev_flat, W.isFlat, W.isFlats, List.set_cons_zero, List.set_cons_succ, List.getElem?_cons_zero, List.getElem?_cons_succ, a1, a2, hgt, decide_false, if_true]
  by_cases hgt : a.getD (V / 7 % r.length) 0 < a.getD (V % r.length) 0
  · obtain ⟨g, g1, g2, g3, g4⟩ := tail (V % r.length) (V / 7 % r.length) (V % r.length) (V / 7 % r.length) i1 i2 (by
      by_cases e : V % r.length = V / 7 % r.length
      · rw [e] at hgt; omega
      · exact Or.inl e) (by omega)
    exact ⟨_, _, g, i1, i2, g1, g2, g3, head _ _ (fun _ => ⟨rfl, rfl⟩) (fun h => absurd hgt h) _ g4⟩
  · obtain ⟨g, g1, g2, g3, g4⟩ := tail (V % r.length) (V / 7 % r.length) (V / 7 % r.length) (V % r.length) i2 i1 (by
      by_cases e : V / 7 % r.length = V % r.length
      · exact Or.inr ⟨by rw [e], e⟩
      · exact Or.inl e) (by omega)
    exact ⟨_, _, g, i2, i1, g1, g2, g3, head _ _ (fun h => absurd h hgt) (fun _ => ⟨rfl, rfl⟩) _ g4⟩
theorem evened_ok (hnu : Is T nu 3 5 irNumber) (h : Is T f 3 15 (irEvened nu)) {p q : Nat} (hp : 40 ≤ p) (hp2 : p ≤ 1900000) (hl : ns.length ≤ 63) (hns : ∀ x ∈ ns, x.natAbs < 2 ^ p) (hb : b ≤ 10) (r1 : 1 ≤ r.length) (r6 : r.length ≤ 6) (hrb : ∀ x ∈ r, x.natAbs < 2 ^ q) :
    ∃ e, callN T (n + 2) f [.scr ns, .int b, Li r] = .val (Li e) ∧ Und e r ∧ ∀ x ∈ e, x.natAbs < 2 ^ q := by
  have hc := cells4_nb (p := p) (by omega) hns
  have hcl := cells4_len hl
  have hcn := cells4_ne ns
  generalize hcs : cells4 ns = C at hc hcl hcn
  have hwh : (ab C.sum + (b : Int)).natAbs < 2 ^ (p + 7) := nb_add (by rw [ab_natAbs]; exact sum_nb hc hcl) (nb_small (by omega) (by omega))
  have hw0 : 0 ≤ ab C.sum + (b : Int) := by have := ab_nonneg C.sum; omega
  generalize hW : ab C.sum + (b : Int) = Wh at hwh hw0
  have m5 := fmod_bd Wh (b := 5) (by decide)
  obtain ⟨k, hk⟩ : ∃ k : Nat, Wh.fmod 5 = (k : Int) := ⟨(Wh.fmod 5).toNat, by omega⟩
  have hs : ∀ (pre : List Nat) (x : Nat) (post : List Nat) (a : List Int), List.range k = pre ++ x :: post → (Und a r ∧ ∀ x ∈ a, x.natAbs < 2 ^ q) → ∃ (a' : List Int) (o : Option W), (fun s => exL (callN T (n + 1)) T.cs (eBody nu) s) ([some (.scr ns), some (.int b), some (Li r), some (Li C), none, none, some (.int Wh), some (Li a), none, none, none, none, none, none, none].set 4 (some (W.int (x : Int)))) = .nx ([some (.scr ns), some (.int b), some (Li r), some (Li C), none, none, some (.int Wh), some (Li a'), none, none, none, none, none, none, none].set 4 o) ∧ (Und a' r ∧ ∀ x ∈ a', x.natAbs < 2 ^ q) := by
    intro pre x post a e ⟨⟨u1, u2, u3⟩, u4⟩
    have hx : x < k := by
      have : x ∈ List.range k := by rw [e]; simp
      exact List.mem_range.mp this
    obtain ⟨i, j, g, t1, t2, t3, t4, t5, t6⟩ := turn_ok (ns := ns) (r := r) (a := a) n hnu hp hp2 hc hcn hwh hb (x := x) (by omega) r1 u1 (by omega)
    rw [getD_of t1, getD_of t2] at t5
    exact ⟨give a i j g, _, t6, ⟨by rw [give_len]; exact u1, by rw [give_sum t1 t2 t3]; exact u2, fun t => Int.le_trans (give_abv t1 t2 t3 t4 t5 t) (u3 t)⟩, give_bd t1 t2 t3 t4 t5 u4⟩
  obtain ⟨a, o, g3, g4, g5⟩ := for1 (i := 4) (φ := fun (i : Nat) => W.int (i : Int)) (fun (a : List Int) => [some (.scr ns), some (.int b), some (Li r), some (Li C), none, none, some (.int Wh), some (Li a), none, none, none, none, none, none, none]) (fun pre a => Und a r ∧ ∀ x ∈ a, x.natAbs < 2 ^ q) (fun a => rfl) hs r ⟨⟨rfl, rfl, fun t => Int.le_refl _⟩, hrb⟩
  have hrz : ¬ ((r.length : Int) = 0) := by omega
  have mr := fmod_bd Wh (b := (r.length : Int)) (by omega)
  obtain ⟨u, hu⟩ : ∃ u : Nat, Wh.fmod (r.length : Int) = (u : Int) := ⟨(Wh.fmod (r.length : Int)).toNat, by omega⟩
  have ec : ev (callN T (n + 1)) T.cs (.ifx (.op .ne [.var 0, .lst []]) (.op (.slcB true) [.var 0, .cst (.int 63)]) (.lst [.cst (.int 4)])) [some (.scr ns), some (.int b), some (Li r), none, none, none, none, none, none, none, none, none, none, none, none] = .val (Li C) := by
    rw [← hcs]
    unfold cells4
    by_cases hn : ns = []
    · subst hn
      simp [ev_var, ev_cst, ev_gci, ev_op, ev_tup, ev_lst, ev_call, ev_and, ev_or, ev_not, ev_ifx, ev_chain, evs_nil, evs_cons, evAnd, evOr, O.bind, Os.bind, opS, addS, subS, mulS, fdivS, modS, powS, negS, eqS, neS, ltS, leS, gtS, geS, lenS, sumS, absS, max1S, min1S, max2S, min2S, all1S, any1S, int1S, isiS, isiT, ixS, catS, repS, slcAS, slcBS, revS, sortedS, listS, rngLS, flIf, Mx.Sg.get, startW, ints_map, bls_map, eqW_Li, neW_Li, eqW_int, neW_int, ev_flat, W.isFlat, W.isFlats, neW_scr]
    · rw [if_neg hn]
      simp [ev_var, ev_cst, ev_gci, ev_op, ev_tup, ev_lst, ev_call, ev_and, ev_or, ev_not, ev_ifx, ev_chain, evs_nil, evs_cons, evAnd, evOr, O.bind, Os.bind, opS, addS, subS, mulS, fdivS, modS, powS, negS, eqS, neS, ltS, leS, gtS, geS, lenS, sumS, absS, max1S, min1S, max2S, min2S, all1S, any1S, int1S, isiS, isiT, ixS, catS, repS, slcAS, slcBS, revS, sortedS, listS, rngLS, flIf, Mx.Sg.get, startW, ints_map, bls_map, eqW_Li, neW_Li, eqW_int, neW_int, ev_flat, W.isFlat, W.isFlats, neW_scr, hn, cut63, take63 hl]
  have e2 : (if C.sum < 0 then -C.sum else C.sum) = ab C.sum := rfl
  have alen : a.length = r.length := g4.1
  have pre : ∀ R, exL (callN T (n + 1)) T.cs ((irEvened nu).drop 4) ([some (.scr ns), some (.int b), some (Li r), some (Li C), o, some (.int (u : Int)), some (.int Wh), some (Li a), none, none, none, none, none, none, none]) = R → exL (callN T (n + 1)) T.cs (irEvened nu) [some (.scr ns), some (.int b), some (Li r), none, none, none, none, none, none, none, none, none, none, none, none] = R := by
    intro R hR
    rw [← hR]
    refine (exL_asg _ _ _ _ _ _ _ ec).trans ((exL_asgT _ _ _ _ _ _ (ws := [.int Wh, Li r]) ?_ rfl).trans ((exL_for _ _ _ _ _ _ _ (items := (List.range k).map fun (i : Nat) => W.int (i : Int)) ?_ g3).trans ((exL_asg _ _ _ _ _ _ _ (w := .int (u : Int)) ?_).trans rfl)))
    · simp [ev_var, ev_cst, ev_gci, ev_op, ev_tup, ev_lst, ev_call, ev_and, ev_or, ev_not, ev_ifx, ev_chain, evs_nil, evs_cons, evAnd, evOr, O.bind, Os.bind, opS, addS, subS, mulS, fdivS, modS, powS, negS, eqS, neS, ltS, leS, gtS, geS, lenS, sumS, absS, max1S, min1S, max2S, min2S, all1S, any1S, int1S, isiS, isiT, ixS, catS, repS, slcAS, slcBS, revS, sortedS, listS, rngLS, flIf, Mx.Sg.get, startW, ints_map, bls_map, eqW_Li, neW_Li, eqW_int, neW_int, ev_flat, W.isFlat, W.isFlats, e2, hW, flats_ints]
    · simp [evIt, ev_var, ev_cst, ev_gci, ev_op, ev_tup, ev_lst, ev_call, ev_and, ev_or, ev_not, ev_ifx, ev_chain, evs_nil, evs_cons, evAnd, evOr, O.bind, Os.bind, opS, addS, subS, mulS, fdivS, modS, powS, negS, eqS, neS, ltS, leS, gtS, geS, lenS, sumS, absS, max1S, min1S, max2S, min2S, all1S, any1S, int1S, isiS, isiT, ixS, catS, repS, slcAS, slcBS, revS, sortedS, listS, rngLS, flIf, Mx.Sg.get, startW, ints_map, bls_map, eqW_Li, neW_Li, eqW_int, neW_int, ev_flat, W.isFlat, W.isFlats, hk]
      exact rngW_nat (by omega)
    · simp only [ev_var, ev_cst, ev_gci, ev_op, ev_tup, ev_lst, ev_call, ev_and, ev_or, ev_not, ev_ifx, ev_chain, evs_nil, evs_cons, evAnd, evOr, O.bind, Os.bind, opS, addS, subS, mulS, fdivS, modS, powS, negS, eqS, neS, ltS, leS, gtS, geS, lenS, sumS, absS, max1S, min1S, max2S, min2S, all1S, any1S, int1S, isiS, isiT, ixS, catS, repS, slcAS, slcBS, revS, sortedS, listS, rngLS, flIf, Mx.Sg.get, startW, ints_map, bls_map, eqW_Li, neW_Li, eqW_int, neW_int, ev_flat, W.isFlat, W.isFlats, List.set_cons_zero, List.set_cons_succ, List.getElem?_cons_zero, List.getElem?_cons_succ, List.length_map, hrz, if_false, hu]
  by_cases he : Wh.fmod 2 = 0
  · refine ⟨a.drop u ++ a.take u, h.rt rfl (pre _ (exL_ret _ _ _ _ _ ?_)), ?_, ?_⟩
    · simp [ev_var, ev_cst, ev_gci, ev_op, ev_tup, ev_lst, ev_call, ev_and, ev_or, ev_not, ev_ifx, ev_chain, evs_nil, evs_cons, evAnd, evOr, O.bind, Os.bind, opS, addS, subS, mulS, fdivS, modS, powS, negS, eqS, neS, ltS, leS, gtS, geS, lenS, sumS, absS, max1S, min1S, max2S, min2S, all1S, any1S, int1S, isiS, isiT, ixS, catS, repS, slcAS, slcBS, revS, sortedS, listS, rngLS, flIf, Mx.Sg.get, startW, ints_map, bls_map, eqW_Li, neW_Li, eqW_int, neW_int, ev_flat, W.isFlat, W.isFlats, he, cut_to, cut_from, flats_ints]
      have hln : a.length - u + min u a.length ≤ LIM := by show _ ≤ 100000; omega
      have hfl : W.isFlats (a.map W.int) = true := flats_ints a
      have hf2 : W.isFlats ((a.map W.int).drop u ++ (a.map W.int).take u) = true := by rw [← List.map_drop, ← List.map_take, ← List.map_append]; exact flats_ints _
      simp [hln, hf2, hfl]
    · have hpm : (a.drop u ++ a.take u).Perm a := (List.perm_append_comm).trans (by rw [List.take_append_drop])
      exact ⟨by rw [hpm.length_eq]; exact g4.1, by rw [sum_perm' hpm]; exact g4.2.1, fun t => by rw [abv_perm hpm]; exact g4.2.2 t⟩
    · intro x hx
      rcases List.mem_append.mp hx with hx | hx
      · exact g5 x (List.mem_of_mem_drop hx)
      · exact g5 x (List.mem_of_mem_take hx)
  · refine ⟨a.reverse, h.rt rfl (pre _ (exL_ret _ _ _ _ _ ?_)), ?_, ?_⟩
    · simp [ev_var, ev_cst, ev_gci, ev_op, ev_tup, ev_lst, ev_call, ev_and, ev_or, ev_not, ev_ifx, ev_chain, evs_nil, evs_cons, evAnd, evOr, O.bind, Os.bind, opS, addS, subS, mulS, fdivS, modS, powS, negS, eqS, neS, ltS, leS, gtS, geS, lenS, sumS, absS, max1S, min1S, max2S, min2S, all1S, any1S, int1S, isiS, isiT, ixS, catS, repS, slcAS, slcBS, revS, sortedS, listS, rngLS, flIf, Mx.Sg.get, startW, ints_map, bls_map, eqW_Li, neW_Li, eqW_int, neW_int, ev_flat, W.isFlat, W.isFlats, he, flats_ints]
    · have hpm : a.reverse.Perm a := List.reverse_perm a
      exact ⟨by rw [hpm.length_eq]; exact g4.1, by rw [sum_perm' hpm]; exact g4.2.1, fun t => by rw [abv_perm hpm]; exact g4.2.2 t⟩
    · intro x hx
      exact g5 x (List.mem_reverse.mp hx)
end
end Mx
/-! # Mx23: plain: the hull of points -/
namespace Mx
/-- the sum of the first i -/
def psq (l : List Rat) (i : Nat) : Rat := (l.take i).sum
theorem psq_succ {l : List Rat} {i : Nat} (h : i < l.length) : psq l (i + 1) = psq l i + l[i] := by
  have key : ∀ (m : List Rat) (x : Rat), (m ++ [x]).sum = m.sum + x := by
    intro m x
    induction m with
    | nil => show x + 0 = 0 + x; grind
    | cons y m ih => rw [List.cons_append, List.sum_cons, List.sum_cons, ih]; grind
  unfold psq
  rw [List.take_add_one, List.getElem?_eq_getElem h]
  exact key _ _
/-- falling: what lies behind is no more than so many times the i-th, what lies ahead no less -/
theorem psq_behind {l : List Rat} (hf : l.Pairwise (· ≥ ·)) {i : Nat} : ∀ {k : Nat}, i < l.length → i + k ≤ l.length → psq l (i + k) - psq l i ≤ k * l[i]! := by
  intro k
  induction k with
  | zero => intro _ _; simp; grind
  | succ k ih =>
    intro h1 h2
    have ih := ih h1 (by omega)
    have hk : i + k < l.length := by omega
    have e : psq l (i + (k + 1)) = psq l (i + k) + l[i + k] := psq_succ hk
    have hle : l[i + k] ≤ l[i] := by
      by_cases h0 : k = 0
      · subst h0; exact Rat.le_refl
      · exact (List.pairwise_iff_getElem.mp hf) i (i + k) h1 hk (by omega)
    have e2 : l[i]! = l[i] := by simp [h1]
    rw [e2] at ih ⊢
    rw [e]
    have e3 : ((k + 1 : Nat) : Rat) = (k : Rat) + 1 := by simp
    rw [e3]
    grind
theorem psq_ahead {l : List Rat} (hf : l.Pairwise (· ≥ ·)) {i : Nat} (hi : i < l.length) : ∀ {k : Nat}, k ≤ i → (k : Rat) * l[i] ≤ psq l i - psq l (i - k) := by
  intro k
  induction k with
  | zero => intro _; simp; grind
  | succ k ih =>
    intro h1
    have ih := ih (by omega)
    have hk : i - (k + 1) < l.length := by omega
    have e : psq l (i - k) = psq l (i - (k + 1)) + l[i - (k + 1)] := by
      have := psq_succ hk
      have e0 : i - (k + 1) + 1 = i - k := by omega
      rw [e0] at this
      exact this
    have hle : l[i] ≤ l[i - (k + 1)] := (List.pairwise_iff_getElem.mp hf) (i - (k + 1)) i hk hi (by omega)
    have e3 : ((k + 1 : Nat) : Rat) = (k : Rat) + 1 := by simp
    rw [e3]
    grind
/-- no chord lies above -/
theorem psq_chord {l : List Rat} (hf : l.Pairwise (· ≥ ·)) {a i b : Nat} (h1 : a < i) (h2 : i < b) (h3 : b ≤ l.length) : psq l a * ((b - i : Nat) : Rat) + psq l b * ((i - a : Nat) : Rat) ≤ psq l i * ((b - a : Nat) : Rat) := by
  have hi : i < l.length := by omega
  have p1 := psq_behind hf (i := i) (k := b - i) hi (by omega)
  have p2 := psq_ahead hf hi (k := i - a) (by omega)
  have e1 : i + (b - i) = b := by omega
  have e2 : i - (i - a) = a := by omega
  have e4 : l[i]! = l[i] := by simp [hi]
  rw [e1, e4] at p1
  rw [e2] at p2
  have e3 : ((b - a : Nat) : Rat) = ((b - i : Nat) : Rat) + ((i - a : Nat) : Rat) := by
    have : b - a = (b - i) + (i - a) := by omega
    rw [this]
    simp
  rw [e3]
  have n1 : (0 : Rat) ≤ ((b - i : Nat) : Rat) := Rat.natCast_nonneg
  have n2 : (0 : Rat) ≤ ((i - a : Nat) : Rat) := Rat.natCast_nonneg
  generalize ((b - i : Nat) : Rat) = u at *
  generalize ((i - a : Nat) : Rat) = v at *
  have q1 := Rat.mul_le_mul_of_nonneg_left p1 n2
  have q2 := Rat.mul_le_mul_of_nonneg_left p2 n1
  grind
/-- v is what the hull of the points S has at i -/
structure Hull (S : Nat → Rat) (n i : Nat) (v : Rat) : Prop where
  pt : S i ≤ v
  ch : ∀ a b, a < i → i < b → b ≤ n → S a * ((b - i : Nat) : Rat) + S b * ((i - a : Nat) : Rat) ≤ v * ((b - a : Nat) : Rat)
  is_ : v = S i ∨ ∃ a b, a < i ∧ i < b ∧ b ≤ n ∧ v * ((b - a : Nat) : Rat) = S a * ((b - i : Nat) : Rat) + S b * ((i - a : Nat) : Rat)
theorem Hull.uniq {S : Nat → Rat} {n i : Nat} {v w : Rat} (h : Hull S n i v) (g : Hull S n i w) : v = w := by
  have key : ∀ {v w : Rat}, Hull S n i v → Hull S n i w → v ≤ w := fun {v w} h g => by
    rcases h.is_ with e | ⟨a, b, h1, h2, h3, e⟩
    · rw [e]; exact g.pt
    · have q := g.ch a b h1 h2 h3
      rw [← e] at q
      have hp : (0 : Rat) < ((b - a : Nat) : Rat) := by
        have : 0 < b - a := by omega
        exact_mod_cast this
      exact Rat.le_of_mul_le_mul_right q hp
  exact Rat.le_antisymm (key h g) (key g h)
end Mx
namespace Mx
/-! # Mx24: plain: wrapping a hull -/
theorem psq_append {l m : List Rat} {i : Nat} (h : i ≤ l.length) : psq (l ++ m) i = psq l i := by
  unfold psq
  rw [List.take_append_of_le_length h]
theorem rsum_append (l m : List Rat) : (l ++ m).sum = l.sum + m.sum := by
  induction l with
  | nil => show m.sum = 0 + m.sum; grind
  | cons y l ih => rw [List.cons_append, List.sum_cons, List.sum_cons, ih]; grind
theorem rsum_replicate (s : Rat) : ∀ k : Nat, (List.replicate k s).sum = (k : Rat) * s
  | 0 => by simp
  | k + 1 => by
    rw [List.replicate_succ, List.sum_cons, rsum_replicate s k]
    have e3 : ((k + 1 : Nat) : Rat) = (k : Rat) + 1 := by simp
    rw [e3]
    grind
theorem psq_rep {l : List Rat} {s : Rat} {d i : Nat} (h : l.length ≤ i) (h2 : i ≤ l.length + d) : psq (l ++ List.replicate d s) i = psq l l.length + ((i - l.length : Nat) : Rat) * s := by
  unfold psq
  rw [List.take_append, rsum_append, List.take_replicate, rsum_replicate, List.take_of_length_le h, List.take_length]
  congr 3
  omega
theorem natR_pos {a : Nat} (h : 0 < a) : (0 : Rat) < (a : Rat) := by exact_mod_cast h
theorem natR_sub {a b : Nat} (h : a ≤ b) : ((b - a : Nat) : Rat) = (b : Rat) - (a : Rat) := by
  have : (b : Rat) = ((b - a : Nat) : Rat) + (a : Rat) := by
    have e : b = (b - a) + a := by omega
    conv => lhs; rw [e]
    simp
  grind
/-- the wrapping so far -/
structure Wr (S : Nat → Rat) (n : Nat) (l : List Rat) : Prop where
  len : l.length ≤ n
  fall : l.Pairwise (· ≥ ·)
  pt : ∀ i, i ≤ l.length → S i ≤ psq l i
  is_ : ∀ i, i ≤ l.length → psq l i = S i ∨ ∃ a b, a < i ∧ i < b ∧ b ≤ n ∧ psq l i * ((b - a : Nat) : Rat) = S a * ((b - i : Nat) : Rat) + S b * ((i - a : Nat) : Rat)
  at_ : psq l l.length = S l.length
  bd : ∀ q ∈ l, ∀ p, l.length < p → p ≤ n → S p - S l.length ≤ q * ((p - l.length : Nat) : Rat)
theorem Wr.nil {S : Nat → Rat} {n : Nat} (h0 : S 0 = 0) : Wr S n [] where
  len := Nat.zero_le _
  fall := List.Pairwise.nil
  pt := fun i hi => by
    have : i = 0 := by simpa using hi
    subst this
    rw [h0]
    exact Rat.le_refl
  is_ := fun i hi => by
    have : i = 0 := by simpa using hi
    subst this
    left
    rw [h0]
    rfl
  at_ := by rw [show ([] : List Rat).length = 0 from rfl, h0]; rfl
  bd := fun q hq => nomatch hq
theorem Wr.step {S : Nat → Rat} {n : Nat} {l : List Rat} (h : Wr S n l) {far : Nat} {s : Rat} (h1 : l.length < far) (h2 : far ≤ n) (hs : S far - S l.length = s * ((far - l.length : Nat) : Rat))
    (hm : ∀ p, l.length < p → p ≤ n → S p - S l.length ≤ s * ((p - l.length : Nat) : Rat)) : Wr S n (l ++ List.replicate (far - l.length) s) := by
  have hL : (l ++ List.replicate (far - l.length) s).length = far := by rw [List.length_append, List.length_replicate]; omega
  have hpos : (0 : Rat) < ((far - l.length : Nat) : Rat) := natR_pos (by omega)
  have sle : ∀ q ∈ l, s ≤ q := fun q hq => by
    have := h.bd q hq far h1 h2
    rw [hs] at this
    exact Rat.le_of_mul_le_mul_right this hpos
  have mid : ∀ i, l.length ≤ i → i ≤ far → psq (l ++ List.replicate (far - l.length) s) i = S l.length + ((i - l.length : Nat) : Rat) * s := fun i h3 h4 => by
    rw [psq_rep h3 (by omega), h.at_]
  refine ⟨by omega, ?_, fun i hi => ?_, fun i hi => ?_, ?_, fun q hq p hp hp2 => ?_⟩
  · rw [List.pairwise_append]
    refine ⟨h.fall, ?_, fun q hq r hr => ?_⟩
    · rw [List.pairwise_replicate]
      exact Or.inr Rat.le_refl
    · rw [(List.mem_replicate.mp hr).2]
      exact sle q hq
  · rw [hL] at hi
    by_cases h3 : i ≤ l.length
    · rw [psq_append h3]
      exact h.pt i h3
    · rw [mid i (by omega) hi]
      have := hm i (by omega) (by omega)
      grind
  · rw [hL] at hi
    by_cases h3 : i ≤ l.length
    · rw [psq_append h3]
      exact h.is_ i h3
    · rw [mid i (by omega) hi]
      by_cases h4 : i = far
      · left
        subst h4
        grind
      · right
        refine ⟨l.length, far, by omega, by omega, h2, ?_⟩
        rw [natR_sub (show l.length ≤ i by omega), natR_sub (show l.length ≤ far by omega), natR_sub (show i ≤ far by omega)]
        rw [natR_sub (show l.length ≤ far by omega)] at hs
        grind
  · rw [hL, mid far (by omega) (Nat.le_refl _)]
    grind
  · rw [hL] at hp ⊢
    have b := hm p (by omega) hp2
    rw [natR_sub (by omega)] at b ⊢
    rw [natR_sub (by omega)] at hs
    have k : S p - S far ≤ s * ((p : Rat) - (far : Rat)) := by grind
    rcases List.mem_append.mp hq with hq | hq
    · have e := sle q hq
      have hpf : (0 : Rat) ≤ (p : Rat) - (far : Rat) := by
        rw [← natR_sub (by omega)]
        exact Rat.natCast_nonneg
      exact Rat.le_trans k (Rat.mul_le_mul_of_nonneg_right e hpf)
    · rw [(List.mem_replicate.mp hq).2]
      exact k
theorem Wr.hull {S : Nat → Rat} {n : Nat} {l : List Rat} (h : Wr S n l) (hl : l.length = n) {i : Nat} (hi : i ≤ n) : Hull S n i (psq l i) where
  pt := h.pt i (by omega)
  ch := fun a b h1 h2 h3 => by
    have c := psq_chord h.fall h1 h2 (by omega)
    have p1 := Rat.mul_le_mul_of_nonneg_right (h.pt a (by omega)) (c := ((b - i : Nat) : Rat)) Rat.natCast_nonneg
    have p2 := Rat.mul_le_mul_of_nonneg_right (h.pt b (by omega)) (c := ((i - a : Nat) : Rat)) Rat.natCast_nonneg
    grind
  is_ := h.is_ i (by omega)
end Mx
/-! # Mx25: running the small language by simp: what is not yet reached stays data, so that simp keeps out of it -/
namespace Mx
open PySem L2
/-! ## plumbing -/
@[simp] theorem osbind_vals (w : List W) (k : List W → O) : Os.bind (.vals w) k = k w := rfl
@[simp] theorem osbind_exc (c : Nat) (k : List W → O) : Os.bind (.exc c) k = .exc c := rfl
def consO (o : O) (os : Os) : Os := match o with
  | .val w => (match os with | .vals ws => .vals (w :: ws) | .exc c => .exc c | .bad => .bad)
  | .exc c => .exc c
  | .bad => .bad
@[simp] theorem consO_val (w : W) (ws : List W) : consO (.val w) (.vals ws) = .vals (w :: ws) := rfl
@[simp] theorem consO_exc (c : Nat) (os : Os) : consO (.exc c) os = .exc c := rfl
@[simp] theorem consO_exc2 (w : W) (c : Nat) : consO (.val w) (.exc c) = .exc c := rfl
def getO (o : Option (Option W)) : O := match o with | some (some w) => .val w | _ => .bad
@[simp] theorem getO_some (w : W) : getO (some (some w)) = .val w := rfl
@[simp] theorem get_eq (σ : Sg) (i : Nat) : Mx.Sg.get σ i = getO σ[i]? := rfl
@[simp] theorem ite_bl (x y : Bool) : (if x = true then O.val (.bl y) else O.val (.bl false)) = .val (.bl (x && y)) := by cases x <;> rfl
@[simp] theorem ite_bl2 (x y : Bool) : (if x = true then O.val (.bl true) else O.val (.bl y)) = .val (.bl (x || y)) := by cases x <;> rfl
def ifW {α : Type} (w : W) (a b d : α) : α := match w with | .bl true => a | .bl false => b | _ => d
def boO (w : W) : O := match w with | .bl b => .val (.bl b) | _ => .bad
@[simp] theorem boO_bl (b : Bool) : boO (.bl b) = .val (.bl b) := rfl
def kBo (o : O) : O := o.bind boO
@[simp] theorem kBo_bl (b : Bool) : kBo (.val (.bl b)) = .val (.bl b) := rfl
@[simp] theorem kBo_exc (c : Nat) : kBo (.exc c) = .exc c := rfl
def kNot (o : O) : O := o.bind fun w => match w with | .bl b => .val (.bl (!b)) | _ => .bad
@[simp] theorem kNot_bl (b : Bool) : kNot (.val (.bl b)) = .val (.bl (!b)) := rfl
@[simp] theorem kNot_exc (c : Nat) : kNot (.exc c) = .exc c := rfl
def kFlat (o : O) : O := o.bind fun w => if w.isFlat then .val w else .bad
@[simp] theorem kFlat_val (w : W) : kFlat (.val w) = if w.isFlat = true then .val w else .bad := rfl
@[simp] theorem kFlat_exc (c : Nat) : kFlat (.exc c) = .exc c := rfl
def kGci (o : Option Int) : O := match o with | some i => .val (.int i) | none => .bad
@[simp] theorem kGci_some (i : Int) : kGci (some i) = .val (.int i) := rfl
def kAt (o : Option W) : O := match o with | some w => .val w | none => .bad
@[simp] theorem kAt_some (w : W) : kAt (some w) = .val w := rfl
theorem ixS_lst (ws : List W) (i : Int) : ixS [.lst ws, .int i] = kAt (atI ws i) := rfl
theorem ixS_tup (ws : List W) (i : Int) : ixS [.tup ws, .int i] = kAt (atI ws i) := rfl
/-! ## expressions -/
section
variable (cf : Nat → List W → O) (cs : List Int) (σ : Sg)
theorem e_var (i : Nat) : ev cf cs (.var i) σ = getO σ[i]? := ev_var cf cs σ i
theorem e_gci (k : Nat) : ev cf cs (.gci k) σ = kGci cs[k]? := by rw [ev_gci]; rfl
theorem es_cons (e : E) (es : List E) : evs cf cs (e :: es) σ = consO (ev cf cs e σ) (evs cf cs es σ) := by rw [evs_cons]; rfl
theorem e_not (e : E) : ev cf cs (.not e) σ = kNot (ev cf cs e σ) := ev_not cf cs σ e
theorem e_flat (e : E) : ev cf cs (.flat e) σ = kFlat (ev cf cs e σ) := ev_flat cf cs σ e
def kIfx (a b : E) (o : O) : O := o.bind fun w => ifW w (ev cf cs a σ) (ev cf cs b σ) .bad
@[simp] theorem kIfx_t (a b : E) : kIfx cf cs σ a b (.val (.bl true)) = ev cf cs a σ := rfl
@[simp] theorem kIfx_f (a b : E) : kIfx cf cs σ a b (.val (.bl false)) = ev cf cs b σ := rfl
@[simp] theorem kIfx_s (a b : E) (x : Bool) : kIfx cf cs σ a b (.val (.bl x)) = if x = true then ev cf cs a σ else ev cf cs b σ := by cases x <;> rfl
@[simp] theorem kIfx_e (a b : E) (c : Nat) : kIfx cf cs σ a b (.exc c) = .exc c := rfl
theorem e_ifx (c a b : E) : ev cf cs (.ifx c a b) σ = kIfx cf cs σ a b (ev cf cs c σ) := by
  rw [ev_ifx]
  unfold kIfx
  congr 1
def kAnd (es : List E) (o : O) : O := o.bind fun w => ifW w (evAnd cf cs es σ) (.val (.bl false)) .bad
@[simp] theorem kAnd_t (es : List E) : kAnd cf cs σ es (.val (.bl true)) = evAnd cf cs es σ := rfl
@[simp] theorem kAnd_f (es : List E) : kAnd cf cs σ es (.val (.bl false)) = .val (.bl false) := rfl
@[simp] theorem kAnd_s (es : List E) (x : Bool) : kAnd cf cs σ es (.val (.bl x)) = if x = true then evAnd cf cs es σ else .val (.bl false) := by cases x <;> rfl
@[simp] theorem kAnd_e (es : List E) (c : Nat) : kAnd cf cs σ es (.exc c) = .exc c := rfl
def kOr (es : List E) (o : O) : O := o.bind fun w => ifW w (.val (.bl true)) (evOr cf cs es σ) .bad
@[simp] theorem kOr_t (es : List E) : kOr cf cs σ es (.val (.bl true)) = .val (.bl true) := rfl
@[simp] theorem kOr_f (es : List E) : kOr cf cs σ es (.val (.bl false)) = evOr cf cs es σ := rfl
@[simp] theorem kOr_s (es : List E) (x : Bool) : kOr cf cs σ es (.val (.bl x)) = if x = true then .val (.bl true) else evOr cf cs es σ := by cases x <;> rfl
@[simp] theorem kOr_e (es : List E) (c : Nat) : kOr cf cs σ es (.exc c) = .exc c := rfl
theorem e_and1 (e : E) : evAnd cf cs [e] σ = kBo (ev cf cs e σ) := by simp only [evAnd]; rfl
theorem e_and2 (e e2 : E) (es : List E) : evAnd cf cs (e :: e2 :: es) σ = kAnd cf cs σ (e2 :: es) (ev cf cs e σ) := by
  simp only [evAnd]
  unfold kAnd
  congr 1
theorem e_or1 (e : E) : evOr cf cs [e] σ = kBo (ev cf cs e σ) := by simp only [evOr]; rfl
theorem e_or2 (e e2 : E) (es : List E) : evOr cf cs (e :: e2 :: es) σ = kOr cf cs σ (e2 :: es) (ev cf cs e σ) := by
  simp only [evOr]
  unfold kOr
  congr 1
  funext w
  unfold ifW
  split <;> first | rfl | (split <;> first | rfl | simp_all)
def kOp (o : Op) (y : W) (p : O) : O := p.bind fun z => opS o [y, z]
@[simp] theorem kOp_val (o : Op) (y z : W) : kOp o y (.val z) = opS o [y, z] := rfl
@[simp] theorem kOp_exc (o : Op) (y : W) (c : Nat) : kOp o y (.exc c) = .exc c := rfl
def kCh2 (o2 : Op) (c : E) (y : W) (p : O) : O := p.bind fun k => ifW k (kOp o2 y (ev cf cs c σ)) (.val (.bl false)) .bad
@[simp] theorem kCh2_t (o2 : Op) (c : E) (y : W) : kCh2 cf cs σ o2 c y (.val (.bl true)) = kOp o2 y (ev cf cs c σ) := rfl
@[simp] theorem kCh2_f (o2 : Op) (c : E) (y : W) : kCh2 cf cs σ o2 c y (.val (.bl false)) = .val (.bl false) := rfl
@[simp] theorem kCh2_s (o2 : Op) (c : E) (y : W) (x : Bool) : kCh2 cf cs σ o2 c y (.val (.bl x)) = if x = true then kOp o2 y (ev cf cs c σ) else .val (.bl false) := by cases x <;> rfl
def kCh (o1 o2 : Op) (c : E) (a b : O) : O := a.bind fun x => b.bind fun y => kCh2 cf cs σ o2 c y (opS o1 [x, y])
@[simp] theorem kCh_v (o1 o2 : Op) (c : E) (x y : W) : kCh cf cs σ o1 o2 c (.val x) (.val y) = kCh2 cf cs σ o2 c y (opS o1 [x, y]) := rfl
@[simp] theorem kCh_e (o1 o2 : Op) (c : E) (e : Nat) (b : O) : kCh cf cs σ o1 o2 c (.exc e) b = .exc e := rfl
theorem e_chain (o1 o2 : Op) (a b c : E) : ev cf cs (.chain o1 o2 a b c) σ = kCh cf cs σ o1 o2 c (ev cf cs a σ) (ev cf cs b σ) := by
  rw [ev_chain]
  unfold kCh kCh2 kOp
  congr 1
def kCh3b (o3 : Op) (d : E) (z : W) (p : O) : O := p.bind fun k => ifW k (kOp o3 z (ev cf cs d σ)) (.val (.bl false)) .bad
@[simp] theorem kCh3b_t (o3 : Op) (d : E) (z : W) : kCh3b cf cs σ o3 d z (.val (.bl true)) = kOp o3 z (ev cf cs d σ) := rfl
@[simp] theorem kCh3b_f (o3 : Op) (d : E) (z : W) : kCh3b cf cs σ o3 d z (.val (.bl false)) = .val (.bl false) := rfl
@[simp] theorem kCh3b_s (o3 : Op) (d : E) (z : W) (x : Bool) : kCh3b cf cs σ o3 d z (.val (.bl x)) = if x = true then kOp o3 z (ev cf cs d σ) else .val (.bl false) := by cases x <;> rfl
def kCh3a (o2 o3 : Op) (d : E) (y : W) (p : O) : O := p.bind fun z => kCh3b cf cs σ o3 d z (opS o2 [y, z])
@[simp] theorem kCh3a_v (o2 o3 : Op) (d : E) (y z : W) : kCh3a cf cs σ o2 o3 d y (.val z) = kCh3b cf cs σ o3 d z (opS o2 [y, z]) := rfl
def kCh32 (o2 o3 : Op) (c d : E) (y : W) (p : O) : O := p.bind fun k => ifW k (kCh3a cf cs σ o2 o3 d y (ev cf cs c σ)) (.val (.bl false)) .bad
@[simp] theorem kCh32_t (o2 o3 : Op) (c d : E) (y : W) : kCh32 cf cs σ o2 o3 c d y (.val (.bl true)) = kCh3a cf cs σ o2 o3 d y (ev cf cs c σ) := rfl
@[simp] theorem kCh32_f (o2 o3 : Op) (c d : E) (y : W) : kCh32 cf cs σ o2 o3 c d y (.val (.bl false)) = .val (.bl false) := rfl
@[simp] theorem kCh32_s (o2 o3 : Op) (c d : E) (y : W) (x : Bool) : kCh32 cf cs σ o2 o3 c d y (.val (.bl x)) = if x = true then kCh3a cf cs σ o2 o3 d y (ev cf cs c σ) else .val (.bl false) := by cases x <;> rfl
def kCh3 (o1 o2 o3 : Op) (c d : E) (a b : O) : O := a.bind fun x => b.bind fun y => kCh32 cf cs σ o2 o3 c d y (opS o1 [x, y])
@[simp] theorem kCh3_v (o1 o2 o3 : Op) (c d : E) (x y : W) : kCh3 cf cs σ o1 o2 o3 c d (.val x) (.val y) = kCh32 cf cs σ o2 o3 c d y (opS o1 [x, y]) := rfl
theorem e_chain3 (o1 o2 o3 : Op) (a b c d : E) : ev cf cs (.chain3 o1 o2 o3 a b c d) σ = kCh3 cf cs σ o1 o2 o3 c d (ev cf cs a σ) (ev cf cs b σ) := by
  rw [ev_chain3]
  unfold kCh3 kCh32 kCh3a kCh3b kOp
  congr 1
/-! ## comprehensions -/
def lstO (o : Option (List W)) : O := match o with | some ws => .val (.lst ws) | none => .bad
@[simp] theorem lstO_some (ws : List W) : lstO (some ws) = .val (.lst ws) := rfl
def mapL {β : Type} (c f : β → O) : List β → Option (List W)
  | [] => some []
  | x :: xs => match c x with
    | .val (.bl true) => (match f x with | .val w => (mapL c f xs).map (w :: ·) | _ => none)
    | .val (.bl false) => mapL c f xs
    | _ => none
theorem mapL_eq (f c : W → O) : ∀ xs, compW f c xs = mapL c f xs
  | [] => rfl
  | x :: xs => by rw [compW_cons, mapL, mapL_eq f c xs] <;> rfl
theorem mapL_map {β : Type} (c f : W → O) (φ : β → W) : ∀ xs : List β, mapL c f (xs.map φ) = mapL (fun x => c (φ x)) (fun x => f (φ x)) xs
  | [] => rfl
  | x :: xs => by rw [List.map_cons, mapL, mapL, mapL_map c f φ xs]
theorem mapL_cong {β : Type} {c f c' f' : β → O} : ∀ {xs : List β}, (∀ x ∈ xs, c x = c' x) → (∀ x ∈ xs, c' x = .val (.bl true) → f x = f' x) → mapL c f xs = mapL c' f' xs
  | [], _, _ => rfl
  | x :: xs, hc, hf => by
    rw [mapL, mapL, hc x List.mem_cons_self, mapL_cong (fun y hy => hc y (List.mem_cons_of_mem _ hy)) (fun y hy => hf y (List.mem_cons_of_mem _ hy))]
    cases h : c' x with
    | val w =>
      cases w with
      | bl b =>
        cases b with
        | true => rw [hf x List.mem_cons_self h]
        | false => rfl
      | _ => rfl
    | _ => rfl
@[simp] theorem mapL_val {β : Type} (g : β → W) : ∀ xs : List β, mapL (fun _ => .val (.bl true)) (fun x => .val (g x)) xs = some (xs.map g)
  | [] => rfl
  | x :: xs => by rw [mapL, mapL_val g xs]; rfl
@[simp] theorem mapL_valIf {β : Type} (g : β → W) (p : β → Bool) : ∀ xs : List β, mapL (fun x => .val (.bl (p x))) (fun x => .val (g x)) xs = some ((xs.filter p).map g)
  | [] => rfl
  | x :: xs => by
    rw [mapL, mapL_valIf g p xs]
    cases h : p x
    · rw [List.filter_cons_of_neg (by simp [h])]
    · rw [List.filter_cons_of_pos h]; rfl
@[simp] theorem mapL_nil {β : Type} (c f : β → O) : mapL c f [] = some [] := rfl
def kCons (o : O) (l : Option (List W)) : Option (List W) := match o with | .val w => l.map (w :: ·) | _ => none
@[simp] theorem kCons_v (w : W) (l : List W) : kCons (.val w) (some l) = some (w :: l) := rfl
@[simp] theorem mapL_cons {β : Type} (f : β → O) (x : β) (xs : List β) : mapL (fun _ => .val (.bl true)) f (x :: xs) = kCons (f x) (mapL (fun _ => .val (.bl true)) f xs) := by
  rw [mapL]
  unfold kCons
  cases f x <;> rfl
theorem mapL_of {β : Type} {f : β → O} {xs : List β} (g : β → W) (h : ∀ x ∈ xs, f x = .val (g x)) : mapL (fun _ => .val (.bl true)) f xs = some (xs.map g) := by
  rw [mapL_cong (c' := fun _ => .val (.bl true)) (f' := fun x => .val (g x)) (fun _ _ => rfl) (fun x hx _ => h x hx), mapL_val]
theorem mapL_ofIf {β : Type} {c f : β → O} {xs : List β} (p : β → Bool) (g : β → W) (hc : ∀ x ∈ xs, c x = .val (.bl (p x))) (h : ∀ x ∈ xs, p x = true → f x = .val (g x)) : mapL c f xs = some ((xs.filter p).map g) := by
  rw [mapL_cong (c' := fun x => .val (.bl (p x))) (f' := fun x => .val (g x)) hc (fun x hx e => h x hx (by injection e with e; injection e)), mapL_valIf]
def kTg (e : E) (o : Option Sg) : O := match o with | some σ => ev cf cs e σ | none => .bad
@[simp] theorem kTg_some (e : E) (s : Sg) : kTg cf cs e (some s) = ev cf cs e s := rfl
def kComp (elt : E) (tg : Tg) (cd : Option E) (vs : List Nat) (it : Option (List W)) : O := match it with
  | some l => (match cd with
    | none => lstO (mapL (fun _ => .val (.bl true)) (fun x => kTg cf cs elt (tgS tg x (wipeW σ vs))) l)
    | some c => lstO (mapL (fun x => kTg cf cs c (tgS tg x (wipeW σ vs))) (fun x => kTg cf cs elt (tgS tg x (wipeW σ vs))) l))
  | none => .bad
@[simp] theorem kComp_map {β : Type} (elt : E) (tg : Tg) (vs : List Nat) (φ : β → W) (xs : List β) : kComp cf cs σ elt tg none vs (some (xs.map φ)) = lstO (mapL (fun _ => .val (.bl true)) (fun x => kTg cf cs elt (tgS tg (φ x) (wipeW σ vs))) xs) := by
  unfold kComp
  simp only [mapL_map]
@[simp] theorem kComp_mapIf {β : Type} (elt c : E) (tg : Tg) (vs : List Nat) (φ : β → W) (xs : List β) : kComp cf cs σ elt tg (some c) vs (some (xs.map φ)) = lstO (mapL (fun x => kTg cf cs c (tgS tg (φ x) (wipeW σ vs))) (fun x => kTg cf cs elt (tgS tg (φ x) (wipeW σ vs))) xs) := by
  unfold kComp
  simp only [mapL_map]
@[simp] theorem kComp_nil (elt : E) (tg : Tg) (vs : List Nat) : kComp cf cs σ elt tg none vs (some []) = .val (.lst []) := rfl
@[simp] theorem kComp_cons (elt : E) (tg : Tg) (vs : List Nat) (w : W) (ws : List W) : kComp cf cs σ elt tg none vs (some (w :: ws)) = lstO (mapL (fun _ => .val (.bl true)) (fun x => kTg cf cs elt (tgS tg x (wipeW σ vs))) (w :: ws)) := rfl
theorem e_comp (elt : E) (tg : Tg) (it : Mx.It) (cd : Option E) (vs : List Nat) : ev cf cs (.comp elt tg it cd vs) σ = kComp cf cs σ elt tg cd vs (evIt cf cs it σ) := by
  simp only [ev]
  unfold kComp
  cases evIt cf cs it σ with
  | none => rfl
  | some l =>
    simp only [mapL_eq]
    cases cd with
    | none =>
      have : mapL (tgB tg vs σ fun σ' => evO cf cs none σ') (tgB tg vs σ fun σ' => ev cf cs elt σ') l = mapL (fun _ => .val (.bl true)) (fun x => kTg cf cs elt (tgS tg x (wipeW σ vs))) l := by
        induction l with
        | nil => rfl
        | cons x l ih =>
          rw [mapL, mapL, ih]
          unfold tgB kTg
          cases tgS tg x (wipeW σ vs) with
          | none => rfl
          | some s => simp only [evO]
      rw [this]
      rfl
    | some c =>
      have : mapL (tgB tg vs σ fun σ' => evO cf cs (some c) σ') (tgB tg vs σ fun σ' => ev cf cs elt σ') l = mapL (fun x => kTg cf cs c (tgS tg x (wipeW σ vs))) (fun x => kTg cf cs elt (tgS tg x (wipeW σ vs))) l := by
        refine mapL_cong (fun x _ => ?_) (fun x _ _ => ?_)
        · unfold tgB kTg
          cases tgS tg x (wipeW σ vs) <;> simp only [evO]
        · unfold tgB kTg
          cases tgS tg x (wipeW σ vs) <;> rfl
      rw [this]
      rfl
/-! ## what is walked over -/
def itL (o : O) : Option (List W) := match o with | .val (.lst ws) => some ws | _ => none
@[simp] theorem itL_lst (ws : List W) : itL (.val (.lst ws)) = some ws := rfl
def itR (o p : O) : Option (List W) := match o, p with | .val (.int m), .val (.int n) => rngW m n | _, _ => none
@[simp] theorem itR_int (m n : Int) : itR (.val (.int m)) (.val (.int n)) = rngW m n := rfl
def itZ (o p : O) : Option (List W) := match o, p with | .val (.lst xs), .val (.lst ys) => some (zipW xs ys) | _, _ => none
@[simp] theorem itZ_lst (xs ys : List W) : itZ (.val (.lst xs)) (.val (.lst ys)) = some (zipW xs ys) := rfl
def itE (o : O) : Option (List W) := match o with | .val (.lst xs) => some (enumFrom 0 xs) | _ => none
@[simp] theorem itE_lst (xs : List W) : itE (.val (.lst xs)) = some (enumFrom 0 xs) := rfl
theorem i_lst (e : E) : evIt cf cs (.lst e) σ = itL (ev cf cs e σ) := by simp only [evIt]; rfl
theorem i_rng1 (e : E) : evIt cf cs (.rng1 e) σ = itR (.val (.int 0)) (ev cf cs e σ) := by
  simp only [evIt]
  unfold itR
  cases ev cf cs e σ with
  | val w => cases w <;> rfl
  | _ => rfl
theorem i_rng2 (a b : E) : evIt cf cs (.rng2 a b) σ = itR (ev cf cs a σ) (ev cf cs b σ) := by simp only [evIt]; rfl
theorem i_zip (a b : E) : evIt cf cs (.zip a b) σ = itZ (ev cf cs a σ) (ev cf cs b σ) := by simp only [evIt]; rfl
theorem i_enum (a : E) : evIt cf cs (.enum a) σ = itE (ev cf cs a σ) := by simp only [evIt]; rfl
/-! ## statements -/
def kAsg (i : Nat) (ss : List S) (o : O) : R := ofO o fun w => exL cf cs ss (σ.set i (some w))
@[simp] theorem kAsg_v (i : Nat) (ss : List S) (w : W) : kAsg cf cs σ i ss (.val w) = exL cf cs ss (σ.set i (some w)) := rfl
@[simp] theorem kAsg_e (i : Nat) (ss : List S) (c : Nat) : kAsg cf cs σ i ss (.exc c) = .ex c := rfl
@[simp] theorem kAsg_ite (i : Nat) (ss : List S) (p : Prop) [Decidable p] (a b : O) : kAsg cf cs σ i ss (if p then a else b) = if p then kAsg cf cs σ i ss a else kAsg cf cs σ i ss b := by split <;> rfl
theorem s_asg (i : Nat) (m : Md) (e : E) (ss : List S) : exL cf cs (.asg i m e :: ss) σ = kAsg cf cs σ i ss (ev cf cs e σ) := by
  rw [exL_cons]
  simp only [exS, kAsg]
  cases ev cf cs e σ <;> rfl
def kApp (i : Nat) (wp : List Nat) (ss : List S) (o p : O) : R := match o with
  | .val (.lst ws) => ofO p fun w => if ws.length < LIM then exL cf cs ss (wipeW (σ.set i (some (.lst (ws ++ [w])))) wp) else .bad
  | _ => .bad
@[simp] theorem kApp_v (i : Nat) (wp : List Nat) (ss : List S) (ws : List W) (w : W) : kApp cf cs σ i wp ss (.val (.lst ws)) (.val w) = if ws.length < LIM then exL cf cs ss (wipeW (σ.set i (some (.lst (ws ++ [w])))) wp) else .bad := rfl
theorem s_app (i : Nat) (e : E) (wp : List Nat) (ss : List S) : exL cf cs (.app i e wp :: ss) σ = kApp cf cs σ i wp ss (getO σ[i]?) (ev cf cs e σ) := by
  rw [exL_cons]
  simp only [exS, get_eq]
  unfold kApp
  cases getO σ[i]? with
  | val w =>
    cases w with
    | lst ws =>
      cases ev cf cs e σ with
      | val w =>
        simp only [ofO]
        by_cases h : ws.length < LIM
        · rw [if_pos h, if_pos h]
        · rw [if_neg h, if_neg h]
      | _ => rfl
    | _ => rfl
  | _ => rfl
def kSeq (ss : List S) (r : R) : R := match r with | .nx σ => exL cf cs ss σ | r => r
@[simp] theorem kSeq_nx (ss : List S) (s : Sg) : kSeq cf cs ss (.nx s) = exL cf cs ss s := rfl
@[simp] theorem kSeq_rt (ss : List S) (w : W) : kSeq cf cs ss (.rt w) = .rt w := rfl
@[simp] theorem kSeq_ex (ss : List S) (c : Nat) : kSeq cf cs ss (.ex c) = .ex c := rfl
@[simp] theorem kSeq_bk (ss : List S) (s : Sg) : kSeq cf cs ss (.bk s) = .bk s := rfl
@[simp] theorem kSeq_ite (ss : List S) (p : Prop) [Decidable p] (a b : R) : kSeq cf cs ss (if p then a else b) = if p then kSeq cf cs ss a else kSeq cf cs ss b := by split <;> rfl
def kIf (a b ss : List S) (o : O) : R := ofO o fun w => kSeq cf cs ss (ifW w (exL cf cs a σ) (exL cf cs b σ) .bad)
@[simp] theorem kIf_t (a b ss : List S) : kIf cf cs σ a b ss (.val (.bl true)) = kSeq cf cs ss (exL cf cs a σ) := rfl
@[simp] theorem kIf_f (a b ss : List S) : kIf cf cs σ a b ss (.val (.bl false)) = kSeq cf cs ss (exL cf cs b σ) := rfl
@[simp] theorem kIf_s (a b ss : List S) (x : Bool) : kIf cf cs σ a b ss (.val (.bl x)) = if x = true then kSeq cf cs ss (exL cf cs a σ) else kSeq cf cs ss (exL cf cs b σ) := by cases x <;> rfl
@[simp] theorem kIf_e (a b ss : List S) (c : Nat) : kIf cf cs σ a b ss (.exc c) = .ex c := rfl
theorem s_ifs (c : E) (a b ss : List S) : exL cf cs (.ifs c a b :: ss) σ = kIf cf cs σ a b ss (ev cf cs c σ) := by
  rw [exL_cons]
  simp only [exS, kIf]
  cases ev cf cs c σ with
  | val w =>
    simp only [ofO]
    unfold ifW
    unfold kSeq
    cases w with
    | bl x =>
      cases x
      · show (match exL cf cs b σ with | .nx σ' => _ | r => r) = _
        cases exL cf cs b σ <;> rfl
      · show (match exL cf cs a σ with | .nx σ' => _ | r => r) = _
        cases exL cf cs a σ <;> rfl
    | _ => rfl
  | _ => rfl
def kRet (o : O) : R := ofO o fun w => .rt w
@[simp] theorem kRet_v (w : W) : kRet (.val w) = .rt w := rfl
@[simp] theorem kRet_e (c : Nat) : kRet (.exc c) = .ex c := rfl
@[simp] theorem kRet_ite (p : Prop) [Decidable p] (a b : O) : kRet (if p then a else b) = if p then kRet a else kRet b := by split <;> rfl
theorem s_ret (e : E) (ss : List S) : exL cf cs (.ret e :: ss) σ = kRet (ev cf cs e σ) := by
  rw [exL_cons]
  simp only [exS, kRet]
  cases ev cf cs e σ <;> rfl
def kRetV (o : O) : R := match o with | .val w => .rt w | _ => .bad
@[simp] theorem kRetV_v (w : W) : kRetV (.val w) = .rt w := rfl
theorem s_retV (i : Nat) (ss : List S) : exL cf cs (.retV i :: ss) σ = kRetV (getO σ[i]?) := by
  rw [exL_cons]
  simp only [exS, get_eq, kRetV]
  cases getO σ[i]? <;> rfl
def kExp (ss : List S) (o : O) : R := ofO o fun _ => exL cf cs ss σ
@[simp] theorem kExp_v (ss : List S) (w : W) : kExp cf cs σ ss (.val w) = exL cf cs ss σ := rfl
@[simp] theorem kExp_e (ss : List S) (c : Nat) : kExp cf cs σ ss (.exc c) = .ex c := rfl
theorem s_exp (e : E) (ss : List S) : exL cf cs (.exp e :: ss) σ = kExp cf cs σ ss (ev cf cs e σ) := by
  rw [exL_cons]
  simp only [exS, kExp]
  cases ev cf cs e σ <;> rfl
theorem s_rai (c : Nat) (ss : List S) : exL cf cs (.rai c :: ss) σ = .ex c := by
  rw [exL_cons]
  simp only [exS]
theorem s_pas (ss : List S) : exL cf cs (.pas :: ss) σ = exL cf cs ss σ := by
  rw [exL_cons]
  simp only [exS]
theorem s_brk (ss : List S) : exL cf cs (.brk :: ss) σ = .bk σ := by
  rw [exL_cons]
  simp only [exS]
def kOpt (ss : List S) (o : Option Sg) : R := match o with | some σ' => exL cf cs ss σ' | none => .bad
@[simp] theorem kOpt_some (ss : List S) (s : Sg) : kOpt cf cs ss (some s) = exL cf cs ss s := rfl
def kAsgT (is : List Nat) (ss : List S) (os : Os) : R := match os with
  | .vals ws => kOpt cf cs ss (setAll σ is ws)
  | .exc c => .ex c
  | .bad => .bad
@[simp] theorem kAsgT_v (is : List Nat) (ss : List S) (ws : List W) : kAsgT cf cs σ is ss (.vals ws) = kOpt cf cs ss (setAll σ is ws) := rfl
@[simp] theorem kAsgT_e (is : List Nat) (ss : List S) (c : Nat) : kAsgT cf cs σ is ss (.exc c) = .ex c := rfl
theorem s_asgT (is : List Nat) (es : List E) (ss : List S) : exL cf cs (.asgT is es :: ss) σ = kAsgT cf cs σ is ss (evs cf cs es σ) := by
  rw [exL_cons]
  simp only [exS]
  unfold kAsgT kOpt
  cases evs cf cs es σ with
  | vals ws => cases h : setAll σ is ws <;> simp [h]
  | _ => rfl
def kUnp (is : List Nat) (ss : List S) (o : O) : R := ofO o fun w => kOpt cf cs ss (tgS (.tp is) w (wipeW σ is))
@[simp] theorem kUnp_v (is : List Nat) (ss : List S) (w : W) : kUnp cf cs σ is ss (.val w) = kOpt cf cs ss (tgS (.tp is) w (wipeW σ is)) := rfl
@[simp] theorem kUnp_e (is : List Nat) (ss : List S) (c : Nat) : kUnp cf cs σ is ss (.exc c) = .ex c := rfl
theorem s_unp (is : List Nat) (e : E) (ss : List S) : exL cf cs (.unp is e :: ss) σ = kUnp cf cs σ is ss (ev cf cs e σ) := by
  rw [exL_cons]
  simp only [exS, kUnp]
  cases ev cf cs e σ with
  | val w =>
    simp only [ofO]
    unfold kOpt
    cases h : tgS (.tp is) w (wipeW σ is) <;> simp [h]
  | _ => rfl
def kSetT (ts : List (Nat × E × Option E)) (wp : List Nat) (ss : List S) (os : Os) : R := match os with
  | .vals ws => kOpt cf cs ss (stosW cf cs ts ws (wipeW σ wp))
  | .exc c => .ex c
  | .bad => .bad
@[simp] theorem kSetT_v (ts : List (Nat × E × Option E)) (wp : List Nat) (ss : List S) (ws : List W) : kSetT cf cs σ ts wp ss (.vals ws) = kOpt cf cs ss (stosW cf cs ts ws (wipeW σ wp)) := rfl
theorem s_setT (ts : List (Nat × E × Option E)) (es : List E) (wp : List Nat) (ss : List S) : exL cf cs (.setT ts es wp :: ss) σ = kSetT cf cs σ ts wp ss (evs cf cs es σ) := by
  rw [exL_cons]
  simp only [exS]
  unfold kSetT kOpt
  cases evs cf cs es σ with
  | vals ws => cases h : stosW cf cs ts ws (wipeW σ wp) <;> simp [h]
  | _ => rfl
def kAppK (i : Nat) (wp : List Nat) (e : E) (ss : List S) (o p : O) : R := match o, p with
  | .val (.lst us), .val (.int k) => (match ixN us.length k with
    | some j => (match us[j]? with
      | some (.lst zs) => ofO (ev cf cs e σ) fun _ => if zs.length < LIM then exL cf cs ss (wipeW σ (i :: wp)) else .bad
      | _ => .bad)
    | none => .bad)
  | _, _ => .bad
theorem s_appK (i : Nat) (a e : E) (wp : List Nat) (ss : List S) : exL cf cs (.appK i a e wp :: ss) σ = kAppK cf cs σ i wp e ss (getO σ[i]?) (ev cf cs a σ) := by
  rw [exL_cons]
  simp only [exS, get_eq]
  unfold kAppK
  cases getO σ[i]? with
  | val w =>
    cases w with
    | lst us =>
      cases ev cf cs a σ with
      | val v =>
        cases v with
        | int k =>
          simp only
          cases ixN us.length k with
          | none => rfl
          | some j =>
            simp only
            cases us[j]? with
            | none => rfl
            | some u =>
              cases u with
              | lst zs =>
                simp only
                cases ev cf cs e σ with
                | val w =>
                  simp only [ofO]
                  by_cases h : zs.length < LIM
                  · rw [if_pos h, if_pos h]
                  · rw [if_neg h, if_neg h]
                | _ => rfl
              | _ => rfl
        | _ => rfl
      | _ => rfl
    | _ => rfl
  | _ => rfl
theorem kAppK_v {i : Nat} {wp : List Nat} {e : E} {ss : List S} {us zs : List W} {k : Int} {j : Nat} {w : W} (h1 : ixN us.length k = some j) (h2 : us[j]? = some (.lst zs)) (h3 : ev cf cs e σ = .val w) (h4 : zs.length < LIM) :
    kAppK cf cs σ i wp e ss (.val (.lst us)) (.val (.int k)) = exL cf cs ss (wipeW σ (i :: wp)) := by
  unfold kAppK
  simp only [h1, h2, h3, ofO, h4, if_true]
/-! ## stores -/
def putO (i : Nat) (o : Option W) : Option Sg := o.map fun u => σ.set i (some u)
@[simp] theorem putO_some (i : Nat) (u : W) : putO σ i (some u) = some (σ.set i (some u)) := rfl
def kJ (o : Option Nat) (us : List W) (w : W) : Option W := o.map fun j => W.lst (us.set j w)
@[simp] theorem kJ_some (j : Nat) (us : List W) (w : W) : kJ (some j) us w = some (.lst (us.set j w)) := rfl
def set1 (o k : O) (w : W) : Option W := match o, k with
  | .val (.lst us), .val (.int k) => kJ (ixN us.length k) us w
  | _, _ => none
@[simp] theorem set1_v (us : List W) (k : Int) (w : W) : set1 (.val (.lst us)) (.val (.int k)) w = kJ (ixN us.length k) us w := rfl
def set2 (o k l : O) (w : W) : Option W := match o, k with
  | .val (.lst us), .val (.int k) => (match ixN us.length k with
    | some j => (match us[j]?, l with
      | some (.lst zs), .val (.int l) => (match ixN zs.length l with
        | some j2 => some (.lst (us.set j (.lst (zs.set j2 w))))
        | none => none)
      | _, _ => none)
    | none => none)
  | _, _ => none
theorem stoW_1 (i : Nat) (a : E) (w : W) : stoW cf cs (i, a, none) w σ = putO σ i (set1 (getO σ[i]?) (ev cf cs a σ) w) := by
  unfold stoW
  simp only [get_eq]
  cases getO σ[i]? with
  | val o =>
    cases o with
    | lst us =>
      cases ev cf cs a σ with
      | val v =>
        cases v with
        | int k =>
          simp only [set1_v]
          cases ixN us.length k <;> rfl
        | _ => rfl
      | _ => rfl
    | _ => rfl
  | _ => rfl
theorem stoW_2 (i : Nat) (a b : E) (w : W) : stoW cf cs (i, a, some b) w σ = putO σ i (set2 (getO σ[i]?) (ev cf cs a σ) (ev cf cs b σ) w) := by
  unfold stoW
  simp only [get_eq]
  cases getO σ[i]? with
  | val o =>
    cases o with
    | lst us =>
      cases ev cf cs a σ with
      | val v =>
        cases v with
        | int k =>
          unfold set2
          simp only
          cases ixN us.length k with
          | none => rfl
          | some j =>
            simp only
            cases us[j]? with
            | none => rfl
            | some u =>
              cases u with
              | lst zs =>
                cases ev cf cs b σ with
                | val v =>
                  cases v with
                  | int l =>
                    simp only
                    cases ixN zs.length l <;> rfl
                  | _ => rfl
                | _ => rfl
              | _ => rfl
        | _ => rfl
      | _ => rfl
    | _ => rfl
  | _ => rfl
def kStos (ts : List (Nat × E × Option E)) (ws : List W) (o : Option Sg) : Option Sg := match o with | some s => stosW cf cs ts ws s | none => none
@[simp] theorem kStos_some (ts : List (Nat × E × Option E)) (ws : List W) (s : Sg) : kStos cf cs ts ws (some s) = stosW cf cs ts ws s := rfl
theorem stosW_nil : stosW cf cs [] [] σ = some σ := rfl
theorem stosW_cons (t : Nat × E × Option E) (ts : List (Nat × E × Option E)) (w : W) (ws : List W) : stosW cf cs (t :: ts) (w :: ws) σ = kStos cf cs ts ws (stoW cf cs t w σ) := by
  rw [stosW]
  unfold kStos
  cases stoW cf cs t w σ <;> rfl
end
end Mx
/-! # Mx26: the program's defs and the laws' shared ones, each by a number of its own; written by gen2.py --master -/
namespace Mx
open PySem L2
def ir_common : List S := [
  .whl 1000000 (.op .ne [.flat (.var 1), .cst (.int 0)]) [.asgT [0, 1] [.flat (.var 1), .op .mod [.flat (.var 0), .flat (.var 1)]], .frz 0, .frz 1],
  .ret (.op .abs [.flat (.var 0)])]
def ir_lowest : List S := [
  .asg 2 (.flat) (.call 0 [.flat (.var 0), .flat (.var 1)]),
  .ret (.ifx (.op .gt [.flat (.var 1), .cst (.int 0)]) (.tup [.op .fdiv [.flat (.var 0), .var 2], .op .fdiv [.flat (.var 1), .var 2]]) (.tup [.op .fdiv [.op .neg [.flat (.var 0)], .var 2], .op .fdiv [.op .neg [.flat (.var 1)], .var 2]]))]
def ir_plus : List S := [
  .ret (.call 1 [.op .add [.op .mul [.op .ix [.flat (.var 0), .cst (.int 0)], .op .ix [.flat (.var 1), .cst (.int 1)]], .op .mul [.op .ix [.flat (.var 1), .cst (.int 0)], .op .ix [.flat (.var 0), .cst (.int 1)]]], .op .mul [.op .ix [.flat (.var 0), .cst (.int 1)], .op .ix [.flat (.var 1), .cst (.int 1)]]])]
def ir_less : List S := [
  .ret (.call 1 [.op .sub [.op .mul [.op .ix [.flat (.var 0), .cst (.int 0)], .op .ix [.flat (.var 1), .cst (.int 1)]], .op .mul [.op .ix [.flat (.var 1), .cst (.int 0)], .op .ix [.flat (.var 0), .cst (.int 1)]]], .op .mul [.op .ix [.flat (.var 0), .cst (.int 1)], .op .ix [.flat (.var 1), .cst (.int 1)]]])]
def ir_by_times : List S := [
  .ret (.call 1 [.op .mul [.op .ix [.flat (.var 0), .cst (.int 0)], .op .ix [.flat (.var 1), .cst (.int 0)]], .op .mul [.op .ix [.flat (.var 0), .cst (.int 1)], .op .ix [.flat (.var 1), .cst (.int 1)]]])]
def ir_parted : List S := [
  .ret (.call 1 [.op .mul [.op .ix [.flat (.var 0), .cst (.int 0)], .op .ix [.flat (.var 1), .cst (.int 1)]], .op .mul [.op .ix [.flat (.var 0), .cst (.int 1)], .op .ix [.flat (.var 1), .cst (.int 0)]]])]
def ir_total : List S := [
  .asg 1 (.flat) (.tup [.cst (.int 0), .cst (.int 1)]),
  .forS (.nm 2) (.lst (.var 0)) [.asg 1 (.flat) (.call 2 [.var 1, .flat (.var 2)])],
  .ret (.var 1)]
def ir_is_less : List S := [
  .ret (.op .lt [.op .mul [.op .ix [.flat (.var 0), .cst (.int 0)], .op .ix [.flat (.var 1), .cst (.int 1)]], .op .mul [.op .ix [.flat (.var 1), .cst (.int 0)], .op .ix [.flat (.var 0), .cst (.int 1)]]])]
def ir_is_whole : List S := [
  .ret (.and [.op (.isi 0) [.var 0], .not (.op (.isi 1) [.var 0])])]
def ir_is_share : List S := [
  .ifs (.or [.not (.op (.isi 3) [.var 0]), .op .ne [.op .len [.var 0], .cst (.int 2)], .not (.call 8 [.op .ix [.var 0, .cst (.int 0)]]), .not (.call 8 [.op .ix [.var 0, .cst (.int 1)]])]) [.ret (.cst (.bl false))] [],
  .ret (.and [.chain .le .le (.cst (.int 0)) (.op .ix [.var 0, .cst (.int 0)]) (.op .ix [.var 0, .cst (.int 1)]), .op .eq [.call 0 [.op .ix [.var 0, .cst (.int 0)], .op .ix [.var 0, .cst (.int 1)]], .cst (.int 1)]])]
def ir_asked_row : List S := [
  .ifs (.or [.not (.op (.isi 2) [.var 0]), .not (.chain .le .le (.cst (.int 1)) (.op .len [.var 0]) (.gci 0)), .not (.op .all1 [.comp (.call 8 [.var 1]) (.nm 1) (.lst (.var 0)) none [1]])]) [.rai 1] []]
def ir_is_order : List S := [
  .ret (.and [.op (.isi 2) [.var 0], .op .all1 [.comp (.call 8 [.var 2]) (.nm 2) (.lst (.var 0)) none [2]], .op .eq [.op .sorted [.var 0], .op .rngL [.flat (.var 1)]]])]
def ir_falling : List S := [
  .ret (.op (.rev true) [.op .sorted [.var 0]])]
def ir_greatest_of : List S := [
  .asg 1 (.fr none) (.lst [.cst (.int 0)]),
  .forS (.nm 2) (.lst (.call 12 [.var 0])) [.app 1 (.op .add [.flat (.op .ix [.var 1, .op .neg [.cst (.int 1)]]), .flat (.var 2)]) []],
  .retV 1]
def ir_greatest : List S := [
  .exp (.call 10 [.var 0]),
  .ret (.call 13 [.var 0])]
def ir_above_of : List S := [
  .ret (.op .sum [.comp (.op .max2 [.cst (.int 0), .op .sub [.flat (.var 2), .flat (.var 1)]]) (.nm 2) (.lst (.var 0)) none [2]])]
def ir_above : List S := [
  .exp (.call 10 [.var 0]),
  .ifs (.not (.call 8 [.var 1])) [.rai 7] [],
  .ret (.call 15 [.var 0, .var 1])]
def ir_squares : List S := [
  .exp (.call 10 [.var 0]),
  .ret (.op .sum [.comp (.op .mul [.flat (.var 1), .flat (.var 1)]) (.nm 1) (.lst (.var 0)) none [1]])]
def ir_apart : List S := [
  .exp (.call 10 [.var 0]),
  .asg 1 (.flat) (.cst (.int 0)),
  .forS (.tp [2, 3]) (.enum (.var 0)) [.asg 1 (.flat) (.op .add [.var 1, .op .sum [.comp (.op .abs [.op .sub [.flat (.var 3), .flat (.var 4)]]) (.nm 4) (.lst (.op (.slcB true) [.var 0, .flat (.var 2)])) none [4]]])],
  .ret (.var 1)]
def ir_ordered : List S := [
  .exp (.call 10 [.var 0]),
  .ifs (.not (.call 11 [.var 1, .op .len [.var 0]])) [.rai 3] [],
  .ret (.comp (.flat (.op .ix [.var 0, .flat (.var 2)])) (.nm 2) (.lst (.var 1)) none [2])]
def ir_is_table : List S := [
  .ifs (.or [.not (.op (.isi 2) [.var 0]), .not (.chain .le .le (.cst (.int 1)) (.op .len [.var 0]) (.gci 0))]) [.ret (.cst (.bl false))] [],
  .forS (.nm 1) (.lst (.var 0)) [.ifs (.or [.not (.op (.isi 2) [.var 1]), .op .ne [.op .len [.var 1], .op .len [.var 0]], .not (.op .all1 [.comp (.call 9 [.var 5]) (.nm 5) (.lst (.var 1)) none [5]])]) [.ret (.cst (.bl false))] []],
  .asg 2 (.fr (some 0)) (.comp (.comp (.op .ix [.var 1, .var 3]) (.nm 1) (.lst (.var 0)) none [1]) (.nm 3) (.rng1 (.op .len [.var 0])) none [3]),
  .ret (.op .all1 [.comp (.op .eq [.call 6 [.var 4], .tup [.cst (.int 1), .cst (.int 1)]]) (.nm 4) (.lst (.op (.cat false) [.var 0, .var 2])) none [4]])]
def ir_asked_table : List S := [
  .ifs (.not (.call 20 [.var 0])) [.rai 2] []]
def ir_moved_of : List S := [
  .ret (.comp (.call 6 [.comp (.call 4 [.flat (.var 3), .flat (.var 4)]) (.tp [3, 4]) (.zip (.var 2) (.var 1)) none [3, 4]]) (.nm 2) (.lst (.var 0)) none [2])]
def ir_as_pairs : List S := [
  .ret (.comp (.tup [.flat (.var 1), .cst (.int 1)]) (.nm 1) (.lst (.var 0)) none [1])]
def ir_moved : List S := [
  .exp (.call 21 [.var 0]),
  .exp (.call 10 [.var 1]),
  .ifs (.op .ne [.op .len [.var 0], .op .len [.var 1]]) [.rai 9] [],
  .ret (.call 22 [.var 0, .call 23 [.var 1]])]
def ir_behind_of : List S := [
  .asg 2 (.fr (some 0)) (.comp (.comp (.flat (.op .ix [.var 4, .var 5])) (.nm 4) (.lst (.var 0)) none [4]) (.nm 5) (.rng1 (.op .len [.var 0])) none [5]),
  .asg 3 (.fr none) (.lst []),
  .forS (.nm 4) (.lst (.var 1)) [.app 3 (.comp (.call 6 [.comp (.call 4 [.flat (.var 7), .flat (.var 8)]) (.tp [7, 8]) (.zip (.var 4) (.var 6)) none [7, 8]]) (.nm 6) (.lst (.var 2)) none [6]) []],
  .retV 3]
def ir_behind : List S := [
  .exp (.call 21 [.var 0]),
  .exp (.call 21 [.var 1]),
  .ifs (.op .ne [.op .len [.var 0], .op .len [.var 1]]) [.rai 9] [],
  .ret (.call 25 [.var 0, .var 1])]
def ir_turned : List S := [
  .exp (.call 21 [.var 0]),
  .ret (.comp (.comp (.flat (.op .ix [.var 2, .var 1])) (.nm 2) (.lst (.var 0)) none [2]) (.nm 1) (.rng1 (.op .len [.var 0])) none [1])]
def ir_by_order : List S := [
  .ret (.comp (.comp (.tup [.op .int1 [.op .eq [.var 2, .flat (.var 1)]], .cst (.int 1)]) (.nm 2) (.rng1 (.op .len [.var 0])) none [2]) (.nm 1) (.lst (.var 0)) none [1])]
def ir_of_order : List S := [
  .ifs (.or [.not (.op (.isi 2) [.var 0]), .not (.chain .le .le (.cst (.int 1)) (.op .len [.var 0]) (.gci 0)), .not (.call 11 [.var 0, .op .len [.var 0]])]) [.rai 3] [],
  .ret (.call 28 [.var 0])]
def ir_even : List S := [
  .ifs (.or [.not (.call 8 [.var 0]), .not (.chain .le .le (.cst (.int 1)) (.var 0) (.gci 0))]) [.rai 6] [],
  .ret (.comp (.op (.rep true) [.lst [.call 1 [.cst (.int 1), .var 0]], .var 0]) (.nm 1) (.rng1 (.var 0)) none [1])]
def ir_is_step : List S := [
  .ifs (.or [.not (.op (.isi 3) [.var 0]), .op .ne [.op .len [.var 0], .cst (.int 3)], .not (.call 8 [.op .ix [.var 0, .cst (.int 0)]]), .not (.call 8 [.op .ix [.var 0, .cst (.int 1)]])]) [.ret (.cst (.bl false))] [],
  .ret (.and [.chain3 .le .lt .lt (.cst (.int 0)) (.op .ix [.var 0, .cst (.int 0)]) (.op .ix [.var 0, .cst (.int 1)]) (.flat (.var 1)), .call 9 [.op .ix [.var 0, .cst (.int 2)]]])]
def ir_asked_steps : List S := [
  .ifs (.or [.not (.op (.isi 2) [.var 0]), .op .gt [.op .len [.var 0], .gci 2], .not (.op .all1 [.comp (.call 31 [.var 2, .flat (.var 1)]) (.nm 2) (.lst (.var 0)) none [2]])]) [.rai 4] []]
def ir_step_of : List S := [
  .unp [4, 5, 6] (.flat (.var 1)),
  .asg 2 (.flat) (.call 4 [.var 6, .call 3 [.flat (.op .ix [.var 0, .var 5]), .flat (.op .ix [.var 0, .var 4])]]),
  .asg 3 (.fr none) (.op (.list true) [.var 0]),
  .setT [(3, .var 4, none), (3, .var 5, none)] [.call 2 [.flat (.op .ix [.var 0, .var 4]), .var 2], .call 3 [.flat (.op .ix [.var 0, .var 5]), .var 2]] [],
  .retV 3]
def ir_stepped : List S := [
  .exp (.call 10 [.var 0]),
  .exp (.call 32 [.var 1, .op .len [.var 0]]),
  .asg 2 (.fr none) (.call 23 [.var 0]),
  .forS (.nm 3) (.lst (.var 1)) [.asg 2 (.fr none) (.call 33 [.var 2, .flat (.var 3)])],
  .retV 2]
def ir_step_table : List S := [
  .unp [4, 5, 6] (.flat (.var 1)),
  .asg 2 (.fr none) (.call 28 [.op .rngL [.flat (.var 0)]]),
  .asg 3 (.flat) (.call 3 [.tup [.cst (.int 1), .cst (.int 1)], .var 6]),
  .setT [(2, .var 4, some (.var 4)), (2, .var 4, some (.var 5))] [.var 3, .var 6] [],
  .setT [(2, .var 5, some (.var 5)), (2, .var 5, some (.var 4))] [.var 3, .var 6] [],
  .retV 2]
def ir_table_by : List S := [
  .asg 2 (.fr none) (.call 28 [.op .rngL [.flat (.var 0)]]),
  .forS (.nm 3) (.lst (.var 1)) [.asg 2 (.fr none) (.call 25 [.var 2, .call 35 [.flat (.var 0), .flat (.var 3)]])],
  .retV 2]
def ir_table_of : List S := [
  .exp (.call 10 [.var 0]),
  .exp (.call 32 [.var 1, .op .len [.var 0]]),
  .ret (.call 36 [.op .len [.var 0], .var 1])]
def ir_is_over : List S := [
  .asgT [2, 3] [.call 13 [.var 0], .call 13 [.var 1]],
  .frz 2,
  .frz 3,
  .ret (.and [.op .eq [.flat (.op .ix [.var 2, .op .neg [.cst (.int 1)]]), .flat (.op .ix [.var 3, .op .neg [.cst (.int 1)]])], .op .all1 [.comp (.op .ge [.flat (.var 4), .flat (.var 5)]) (.tp [4, 5]) (.zip (.var 2) (.var 3)) none [4, 5]]])]
def ir_steps_of : List S := [
  .asgT [2, 3, 4] [.call 23 [.call 12 [.var 0]], .call 23 [.call 12 [.var 1]], .lst []],
  .frz 2,
  .frz 3,
  .whl 1000000 (.op .ne [.var 2, .var 3]) [.asg 5 (.flat) (.op .max1 [.comp (.var 10) (.nm 10) (.rng1 (.op .len [.var 3])) (some (.call 7 [.flat (.op .ix [.var 3, .var 10]), .flat (.op .ix [.var 2, .var 10])])) [10]]), .asg 6 (.flat) (.op .min1 [.comp (.var 10) (.nm 10) (.rng2 (.var 5) (.op .len [.var 3])) (some (.call 7 [.flat (.op .ix [.var 2, .var 10]), .flat (.op .ix [.var 3, .var 10])])) [10]]), .asgT [8, 9] [.call 3 [.flat (.op .ix [.var 2, .var 5]), .flat (.op .ix [.var 3, .var 5])], .call 3 [.flat (.op .ix [.var 3, .var 6]), .flat (.op .ix [.var 2, .var 6])]], .asg 7 (.flat) (.call 5 [.ifx (.call 7 [.var 9, .var 8]) (.var 9) (.var 8), .call 3 [.flat (.op .ix [.var 2, .var 5]), .flat (.op .ix [.var 2, .var 6])]]), .app 4 (.tup [.var 5, .var 6, .var 7]) [], .asg 2 (.fr (some 0)) (.call 33 [.var 2, .flat (.op .ix [.var 4, .op .neg [.cst (.int 1)]])]), .kil 5, .kil 6, .kil 7, .kil 8, .kil 9],
  .retV 4]
def ir_steps_to : List S := [
  .exp (.call 10 [.var 0]),
  .exp (.call 10 [.var 1]),
  .ifs (.op .ne [.op .len [.var 0], .op .len [.var 1]]) [.rai 9] [],
  .ifs (.not (.call 38 [.var 0, .var 1])) [.rai 10] [],
  .ret (.call 39 [.var 0, .var 1])]
def ir_fallen : List S := [
  .ret (.comp (.flat (.var 2)) (.tp [1, 2]) (.lst (.op .sortedP [.comp (.tup [.op .neg [.flat (.var 1)], .flat (.var 2)]) (.tp [2, 1]) (.enum (.var 0)) none [2, 1]])) none [1, 2])]
def ir_table_to : List S := [
  .asgT [3, 4] [.call 41 [.var 0], .call 41 [.var 1]],
  .frz 3,
  .frz 4,
  .asg 2 (.fr (some 0)) (.call 25 [.call 28 [.var 3], .call 36 [.op .len [.var 0], .call 39 [.var 0, .var 1]]]),
  .ret (.call 25 [.var 2, .call 28 [.comp (.op .index [.var 4, .var 5]) (.nm 5) (.rng1 (.op .len [.var 4])) none [5]]])]
def ir_compared : List S := [
  .exp (.call 10 [.var 0]),
  .exp (.call 10 [.var 1]),
  .ifs (.op .ne [.op .len [.var 0], .op .len [.var 1]]) [.rai 9] [],
  .ifs (.op .ne [.op .sum [.var 0], .op .sum [.var 1]]) [.ret (.call 88 [])] [],
  .forS (.nm 2) (.lst (.op .sorted [.var 0])) [.ifs (.op .lt [.call 15 [.var 0, .flat (.var 2)], .call 15 [.var 1, .flat (.var 2)]]) [.ret (.call 65 [.flat (.var 2)])] []],
  .ret (.call 62 [.call 42 [.var 0, .var 1]])]
def ir_is_mix : List S := [
  .forS (.nm 2) (.lst (.var 0)) [.ifs (.or [.not (.op (.isi 3) [.var 2]), .op .ne [.op .len [.var 2], .cst (.int 2)], .not (.call 9 [.op .ix [.var 2, .cst (.int 0)]]), .op .eq [.op .ix [.op .ix [.var 2, .cst (.int 0)], .cst (.int 0)], .cst (.int 0)]]) [.ret (.cst (.bl false))] [], .ifs (.not (.call 11 [.op .ix [.var 2, .cst (.int 1)], .flat (.var 1)])) [.ret (.cst (.bl false))] []],
  .asg 3 (.fr (some 0)) (.comp (.var 5) (.tp [4, 5]) (.lst (.var 0)) none [4, 5]),
  .ifs (.op .any1 [.comp (.op .ge [.op .ix [.var 3, .op .sub [.var 6, .cst (.int 1)]], .op .ix [.var 3, .var 6]]) (.nm 6) (.rng2 (.cst (.int 1)) (.op .len [.var 3])) none [6]]) [.ret (.cst (.bl false))] [],
  .ret (.op .eq [.call 6 [.comp (.var 4) (.tp [4, 5]) (.lst (.var 0)) none [4, 5]], .tup [.cst (.int 1), .cst (.int 1)]])]
def ir_mixed : List S := [
  .asg 2 (.fr none) (.lst []),
  .forS (.nm 3) (.rng1 (.flat (.var 1))) [.app 2 (.comp (.call 6 [.comp (.flat (.var 5)) (.tp [5, 6]) (.lst (.var 0)) (some (.op .eq [.flat (.op .ix [.var 6, .var 3]), .var 4])) [5, 6]]) (.nm 4) (.rng1 (.flat (.var 1))) none [4]) []],
  .retV 2]
-- no placed
-- no parts_of
def ir_mix_of : List S := [
  .exp (.call 21 [.var 0]),
  .ret (.call 67 [.call 47 [.var 0]])]
def ir_asked_mix : List S := [
  .ifs (.or [.not (.op (.isi 2) [.var 0]), .op .eq [.var 0, .lst []], .not (.op (.isi 3) [.op .ix [.var 0, .cst (.int 0)]]), .op .ne [.op .len [.op .ix [.var 0, .cst (.int 0)]], .cst (.int 2)]]) [.rai 5] [],
  .ifs (.or [.not (.op (.isi 2) [.op .ix [.op .ix [.var 0, .cst (.int 0)], .cst (.int 1)]]), .not (.chain .le .le (.cst (.int 1)) (.op .len [.op .ix [.op .ix [.var 0, .cst (.int 0)], .cst (.int 1)]]) (.gci 0))]) [.rai 5] [],
  .ifs (.not (.call 44 [.var 0, .op .len [.op .ix [.op .ix [.var 0, .cst (.int 0)], .cst (.int 1)]]])) [.rai 5] []]
def ir_table_from : List S := [
  .exp (.call 49 [.var 0]),
  .ret (.call 45 [.var 0, .op .len [.op .ix [.op .ix [.var 0, .cst (.int 0)], .cst (.int 1)]]])]
-- no cleared
def ir_tied : List S := [
  .asg 1 (.fr (some 0)) (.op (.cat false) [.comp (.comp (.flat (.op .ix [.var 10, .var 9])) (.nm 10) (.lst (.var 0)) none [10]) (.nm 9) (.rng1 (.op .len [.op .ix [.var 0, .cst (.int 0)]])) none [9], .lst [.op (.rep true) [.lst [.tup [.cst (.int 1), .cst (.int 1)]], .op .len [.var 0]]]]),
  .unp [5, 6] (.call 51 [.var 1]),
  .asg 2 (.fr (some 0)) (.comp (.var 8) (.tp [7, 8]) (.lst (.var 6)) none [7, 8]),
  .asg 3 (.fr (some 0)) (.comp (.var 8) (.nm 8) (.rng1 (.op .len [.var 0])) (some (.op .notin [.var 8, .var 2])) [8]),
  .ifs (.op .eq [.var 3, .lst []]) [.ret (.cst .non)] [],
  .asg 4 (.fr none) (.op (.rep true) [.lst [.tup [.cst (.int 0), .cst (.int 1)]], .op .len [.var 0]]),
  .setT [(4, .flat (.op .ix [.var 3, .cst (.int 0)]), none)] [.tup [.cst (.int 1), .cst (.int 1)]] [],
  .forS (.tp [7, 8]) (.lst (.var 6)) [.setT [(4, .var 8, none)] [.call 3 [.tup [.cst (.int 0), .cst (.int 1)], .op .ix [.op .ix [.var 5, .var 7], .flat (.op .ix [.var 3, .cst (.int 0)])]]] []],
  .retV 4]
def ir_fewer : List S := [
  .whl 1000000 (.cst (.bl true)) [.asg 2 (.fr (some 0)) (.comp (.comp (.tup [.flat (.op .ix [.var 1, .flat (.var 9)]), .cst (.int 1)]) (.nm 9) (.lst (.var 11)) none [9]) (.tp [10, 11]) (.lst (.var 0)) none [10, 11]), .asg 3 (.fr (some 0)) (.call 52 [.var 2]), .ifs (.op .isN [.var 3]) [.ret (.var 0)] [], .ifs (.not (.op .any1 [.comp (.op .gt [.op .ix [.flat (.var 12), .cst (.int 0)], .cst (.int 0)]) (.nm 12) (.lst (.var 3)) none [12]])) [.asg 3 (.fr (some 0)) (.comp (.call 3 [.tup [.cst (.int 0), .cst (.int 1)], .flat (.var 12)]) (.nm 12) (.lst (.var 3)) none [12])] [], .asg 4 (.fr (some 0)) (.comp (.call 5 [.flat (.op .ix [.var 8, .cst (.int 0)]), .flat (.var 12)]) (.tp [8, 12]) (.zip (.var 0) (.var 3)) (some (.op .gt [.op .ix [.flat (.var 12), .cst (.int 0)], .cst (.int 0)])) [8, 12]), .asg 5 (.flat) (.flat (.op .ix [.var 4, .cst (.int 0)])), .forS (.nm 6) (.lst (.var 4)) [.asg 5 (.flat) (.ifx (.call 7 [.flat (.var 6), .var 5]) (.flat (.var 6)) (.var 5))], .asg 7 (.fr (some 0)) (.comp (.tup [.call 3 [.flat (.op .ix [.var 8, .cst (.int 0)]), .call 4 [.var 5, .flat (.var 12)]], .op .ix [.var 8, .cst (.int 1)]]) (.tp [8, 12]) (.zip (.var 0) (.var 3)) none [8, 12]), .asg 0 (.fr (some 1)) (.comp (.var 8) (.nm 8) (.lst (.var 7)) (some (.op .gt [.op .ix [.flat (.op .ix [.var 8, .cst (.int 0)]), .cst (.int 0)], .cst (.int 0)])) [8]), .kil 2, .kil 3, .kil 4, .kil 5, .kil 6, .kil 7, .frz 0]]
def ir_few_orders : List S := [
  .exp (.call 10 [.var 0]),
  .exp (.call 10 [.var 1]),
  .ifs (.op .ne [.op .len [.var 0], .op .len [.var 1]]) [.rai 9] [],
  .ifs (.not (.call 38 [.var 0, .var 1])) [.rai 10] [],
  .ret (.call 67 [.call 53 [.call 47 [.call 42 [.var 0, .var 1]], .var 0]])]
def ir_asked_two : List S := [
  .exp (.call 10 [.var 0]),
  .exp (.call 10 [.var 1]),
  .ifs (.op .ne [.op .len [.var 0], .op .len [.var 1]]) [.rai 9] []]
def ir_under_both : List S := [
  .exp (.call 55 [.var 0, .var 1]),
  .ifs (.op .ne [.op .sum [.var 0], .op .sum [.var 1]]) [.ret (.cst .non)] [],
  .asg 2 (.fr (some 0)) (.comp (.op .min2 [.flat (.var 4), .flat (.var 5)]) (.tp [4, 5]) (.zip (.call 13 [.var 0]) (.call 13 [.var 1])) none [4, 5]),
  .ret (.comp (.op .sub [.flat (.op .ix [.var 2, .op .add [.var 3, .cst (.int 1)]]), .flat (.op .ix [.var 2, .var 3])]) (.nm 3) (.rng1 (.op .len [.var 0])) none [3])]
def ir_over_both : List S := [
  .exp (.call 55 [.var 0, .var 1]),
  .ifs (.op .ne [.op .sum [.var 0], .op .sum [.var 1]]) [.ret (.cst .non)] [],
  .asg 2 (.fr (some 0)) (.comp (.op .max2 [.flat (.var 7), .flat (.var 8)]) (.tp [7, 8]) (.zip (.call 13 [.var 0]) (.call 13 [.var 1])) none [7, 8]),
  .asgT [3, 4] [.lst [], .cst (.int 0)],
  .whl 1000000 (.op .lt [.var 4, .op .len [.var 0]]) [.asg 5 (.flat) (.op .add [.var 4, .cst (.int 1)]), .forS (.nm 6) (.rng2 (.op .add [.var 4, .cst (.int 2)]) (.op .len [.var 2])) [.ifs (.not (.call 7 [.call 1 [.op .sub [.flat (.op .ix [.var 2, .var 6]), .flat (.op .ix [.var 2, .var 4])], .op .sub [.var 6, .var 4]], .call 1 [.op .sub [.flat (.op .ix [.var 2, .var 5]), .flat (.op .ix [.var 2, .var 4])], .op .sub [.var 5, .var 4]]])) [.asg 5 (.flat) (.var 6)] []], .asg 3 (.fr none) (.op (.cat true) [.var 3, .op (.rep true) [.lst [.call 1 [.op .sub [.flat (.op .ix [.var 2, .var 5]), .flat (.op .ix [.var 2, .var 4])], .op .sub [.var 5, .var 4]]], .op .sub [.var 5, .var 4]]]), .asg 4 (.flat) (.var 5), .kil 5, .kil 6],
  .retV 3]
def ir_asked_near : List S := [
  .exp (.call 10 [.var 0]),
  .ifs (.op .gt [.op .sub [.op .max1 [.var 0], .op .min1 [.var 0]], .gci 1]) [.rai 11] []]
-- no count
-- no how_many_under
-- no under_by
def ir_Over___init__ : List S := [
  .ret (.comp (.op (.list true) [.var 2]) (.nm 2) (.lst (.var 1)) none [2])]
-- no Over.shows
-- no Uneven.shows
def ir_Priced___init__ : List S := [
  .ret (.flat (.var 1))]
-- no Priced.shows
def ir_Mix___init__ : List S := [
  .ret (.comp (.tup [.flat (.var 2), .op (.list true) [.var 3]]) (.tp [2, 3]) (.lst (.var 1)) none [2, 3])]
-- no Mix.shows
def ir__wall : List S := [
  .whl 1000000 (.cst (.bl true)) [.pas]]
def ir__law_number : List S := [
  .ifs (.op .ge [.flat (.var 0), .op .pow [.cst (.int 10), .cst (.int 18)]]) [.ret (.op .fdiv [.flat (.var 0), .op .add [.cst (.int 1), .op .mod [.flat (.var 1), .cst (.int 7)]]])] [],
  .asg 3 (.flat) (.op .mod [.op .add [.op .mul [.op .add [.flat (.var 0), .op .mul [.cst (.int 977), .flat (.var 1)]], .cst (.int 48271)], .flat (.var 2)], .cst (.int 2147483647)]),
  .asg 4 (.flat) (.op .mul [.var 3, .op .add [.op .add [.flat (.var 0), .op .mul [.cst (.int 31), .flat (.var 1)]], .cst (.int 7)]]),
  .ret (.op .fdiv [.op .mul [.op .mul [.var 4, .op .add [.op .add [.var 3, .flat (.var 0)], .cst (.int 5)]], .op .add [.op .mul [.var 3, .var 3], .cst (.int 11)]], .op .add [.cst (.int 1009), .flat (.var 1)]])]
def ir__law_row : List S := [
  .asg 4 (.fr (some 0)) (.ifx (.op .ne [.var 0, .lst []]) (.op (.slcB true) [.var 0, .cst (.int 63)]) (.lst [.cst (.int 5)])),
  .asg 5 (.flat) (.op .add [.op .abs [.op .sum [.var 4]], .flat (.var 1)]),
  .asg 6 (.fr none) (.lst []),
  .forS (.nm 7) (.rng1 (.flat (.var 2))) [.asg 8 (.flat) (.op .fdiv [.call 70 [.flat (.op .ix [.var 4, .op .mod [.op .add [.var 7, .flat (.var 1)], .op .len [.var 4]]]), .op .add [.var 7, .flat (.var 1)], .var 5], .cst (.int 3)]), .app 6 (.op .sub [.op .mod [.var 8, .flat (.var 3)], .op .mod [.var 5, .cst (.int 7)]]) [], .kil 8],
  .retV 6]
def ir__law_many : List S := [
  .ret (.op .add [.cst (.int 1), .op .mod [.op .add [.op .fdiv [.op .abs [.op .sum [.op (.slcB true) [.var 0, .cst (.int 63)]]], .cst (.int 2)], .flat (.var 1)], .flat (.var 2)]])]
def ir__law_lowest : List S := [
  .asgT [2, 3] [.op .abs [.flat (.var 0)], .flat (.var 1)],
  .whl 1000000 (.op .gt [.var 3, .cst (.int 0)]) [.asgT [2, 3] [.var 3, .op .mod [.var 2, .var 3]]],
  .ret (.tup [.op .fdiv [.flat (.var 0), .var 2], .op .fdiv [.flat (.var 1), .var 2]])]
def ir__law_whole : List S := [
  .ret (.and [.op (.isi 0) [.var 0], .not (.op (.isi 1) [.var 0])])]
def ir__law_is_part : List S := [
  .ifs (.or [.not (.op (.isi 3) [.var 0]), .op .ne [.op .len [.var 0], .cst (.int 2)], .not (.call 74 [.op .ix [.var 0, .cst (.int 0)]]), .not (.call 74 [.op .ix [.var 0, .cst (.int 1)]])]) [.ret (.cst (.bl false))] [],
  .ret (.and [.op .gt [.op .ix [.var 0, .cst (.int 1)], .cst (.int 0)], .op .eq [.call 73 [.op .ix [.var 0, .cst (.int 0)], .op .ix [.var 0, .cst (.int 1)]], .var 0]])]
def ir__law_sum : List S := [
  .asgT [2, 3] [.cst (.int 0), .cst (.int 1)],
  .forS (.nm 1) (.lst (.var 0)) [.asgT [2, 3] [.op .add [.op .mul [.var 2, .op .ix [.flat (.var 1), .cst (.int 1)]], .op .mul [.op .ix [.flat (.var 1), .cst (.int 0)], .var 3]], .op .mul [.var 3, .op .ix [.flat (.var 1), .cst (.int 1)]]], .unp [2, 3] (.call 73 [.var 2, .var 3])],
  .ret (.tup [.var 2, .var 3])]
def ir__law_is_table : List S := [
  .ifs (.or [.not (.op (.isi 2) [.var 0]), .op .ne [.op .len [.var 0], .flat (.var 1)]]) [.ret (.cst (.bl false))] [],
  .forS (.nm 2) (.lst (.var 0)) [.ifs (.or [.not (.op (.isi 2) [.var 2]), .op .ne [.op .len [.var 2], .flat (.var 1)]]) [.ret (.cst (.bl false))] [], .ifs (.not (.op .all1 [.comp (.and [.call 75 [.var 6], .op .ge [.op .ix [.var 6, .cst (.int 0)], .cst (.int 0)]]) (.nm 6) (.lst (.var 2)) none [6]])) [.ret (.cst (.bl false))] []],
  .asg 3 (.fr (some 0)) (.comp (.comp (.op .ix [.var 2, .var 4]) (.nm 2) (.lst (.var 0)) none [2]) (.nm 4) (.rng1 (.flat (.var 1))) none [4]),
  .ret (.op .all1 [.comp (.op .eq [.call 76 [.var 5], .tup [.cst (.int 1), .cst (.int 1)]]) (.nm 5) (.lst (.op (.cat false) [.var 0, .var 3])) none [5]])]
def ir__law_moved : List S := [
  .asg 2 (.fr none) (.lst []),
  .forS (.nm 3) (.lst (.var 0)) [.app 2 (.call 76 [.comp (.call 73 [.op .mul [.op .ix [.flat (.var 4), .cst (.int 0)], .op .ix [.flat (.var 5), .cst (.int 0)]], .op .mul [.op .ix [.flat (.var 4), .cst (.int 1)], .op .ix [.flat (.var 5), .cst (.int 1)]]]) (.tp [4, 5]) (.zip (.var 3) (.var 1)) none [4, 5]]) []],
  .retV 2]
def ir__law_parts : List S := [
  .ret (.comp (.tup [.flat (.var 1), .cst (.int 1)]) (.nm 1) (.lst (.var 0)) none [1])]
-- no _law_mix
-- no _law_mix_parts
-- no _law_table
def ir__law_greatest : List S := [
  .asg 1 (.fr (some 0)) (.op (.rev true) [.op .sorted [.var 0]]),
  .ret (.comp (.op .sum [.op (.slcB true) [.var 1, .var 2]]) (.nm 2) (.rng1 (.op .add [.op .len [.var 0], .cst (.int 1)])) none [2])]
def ir__law_over : List S := [
  .asgT [2, 3] [.call 83 [.var 0], .call 83 [.var 1]],
  .frz 2,
  .frz 3,
  .ret (.and [.op .eq [.flat (.op .ix [.var 2, .op .neg [.cst (.int 1)]]), .flat (.op .ix [.var 3, .op .neg [.cst (.int 1)]])], .op .all1 [.comp (.op .ge [.flat (.var 4), .flat (.var 5)]) (.tp [4, 5]) (.zip (.var 2) (.var 3)) none [4, 5]]])]
def ir__law_evened : List S := [
  .asg 3 (.fr (some 0)) (.ifx (.op .ne [.var 0, .lst []]) (.op (.slcB true) [.var 0, .cst (.int 63)]) (.lst [.cst (.int 4)])),
  .asgT [6, 7] [.op .add [.op .abs [.op .sum [.var 3]], .flat (.var 1)], .op (.list true) [.var 2]],
  .forS (.nm 4) (.rng1 (.op .mod [.var 6, .cst (.int 5)])) [.asg 8 (.flat) (.flat (.op .ix [.var 3, .op .mod [.op .add [.var 4, .flat (.var 1)], .op .len [.var 3]]])), .asg 9 (.flat) (.op .abs [.call 70 [.var 8, .op .add [.var 4, .op .mul [.cst (.int 3), .flat (.var 1)]], .var 6]]), .asgT [11, 12] [.op .mod [.var 9, .op .len [.var 2]], .op .mod [.op .fdiv [.var 9, .cst (.int 7)], .op .len [.var 2]]], .unp [13, 14] (.ifx (.op .gt [.flat (.op .ix [.var 7, .var 11]), .flat (.op .ix [.var 7, .var 12])]) (.tup [.var 11, .var 12]) (.tup [.var 12, .var 11])), .asg 10 (.flat) (.op .mod [.op .fdiv [.var 9, .cst (.int 50)], .op .add [.cst (.int 1), .op .fdiv [.op .sub [.flat (.op .ix [.var 7, .var 13]), .flat (.op .ix [.var 7, .var 14])], .cst (.int 2)]]]), .setT [(7, .var 13, none)] [.op .sub [.flat (.op .ix [.var 7, .var 13]), .var 10]] [], .setT [(7, .var 14, none)] [.op .add [.flat (.op .ix [.var 7, .var 14]), .var 10]] [], .kil 8, .kil 9, .kil 10, .kil 11, .kil 12, .kil 13, .kil 14],
  .asg 5 (.flat) (.op .mod [.var 6, .op .len [.var 2]]),
  .ret (.ifx (.op .eq [.op .mod [.var 6, .cst (.int 2)], .cst (.int 0)]) (.op (.cat true) [.op (.slcA true) [.var 7, .var 5], .op (.slcB true) [.var 7, .var 5]]) (.op (.rev true) [.var 7]))]
def ir__law_steps : List S := [
  .asg 3 (.fr (some 0)) (.ifx (.op .ne [.var 0, .lst []]) (.op (.slcB true) [.var 0, .cst (.int 63)]) (.lst [.cst (.int 4)])),
  .asgT [5, 6] [.op .add [.op .abs [.op .sum [.var 3]], .flat (.var 1)], .lst []],
  .forS (.nm 4) (.rng1 (.ifx (.op .gt [.flat (.var 2), .cst (.int 1)]) (.op .mod [.var 5, .cst (.int 5)]) (.cst (.int 0)))) [.asg 7 (.flat) (.op .abs [.call 70 [.flat (.op .ix [.var 3, .op .mod [.op .add [.var 4, .flat (.var 1)], .op .len [.var 3]]]), .op .add [.var 4, .op .mul [.cst (.int 2), .flat (.var 1)]], .var 5]]), .asg 8 (.flat) (.op .mod [.var 7, .op .sub [.flat (.var 2), .cst (.int 1)]]), .asg 9 (.flat) (.op .add [.op .add [.var 8, .cst (.int 1)], .op .mod [.op .fdiv [.var 7, .cst (.int 7)], .op .sub [.op .sub [.flat (.var 2), .cst (.int 1)], .var 8]]]), .asg 10 (.flat) (.op .add [.cst (.int 1), .op .mod [.op .fdiv [.var 7, .cst (.int 50)], .cst (.int 6)]]), .app 6 (.tup [.var 8, .var 9, .call 73 [.op .mod [.op .fdiv [.var 7, .cst (.int 300)], .op .add [.var 10, .cst (.int 1)]], .var 10]]) [], .kil 7, .kil 8, .kil 9, .kil 10],
  .retV 6]
def ir__law_stepped : List S := [
  .asg 2 (.fr none) (.op (.list true) [.var 0]),
  .forS (.tp [3, 4, 5]) (.lst (.var 1)) [.asg 6 (.flat) (.call 73 [.op .sub [.op .ix [.flat (.var 5), .cst (.int 1)], .op .ix [.flat (.var 5), .cst (.int 0)]], .op .ix [.flat (.var 5), .cst (.int 1)]]), .asgT [8, 9] [.flat (.op .ix [.var 2, .flat (.var 3)]), .flat (.op .ix [.var 2, .flat (.var 4)])], .asg 7 (.fr none) (.lst []), .forS (.tp [10, 11]) (.lst (.lst [.tup [.var 8, .var 9], .tup [.var 9, .var 8]])) [.asg 12 (.flat) (.call 73 [.op .mul [.op .ix [.var 6, .cst (.int 0)], .op .ix [.flat (.var 10), .cst (.int 0)]], .op .mul [.op .ix [.var 6, .cst (.int 1)], .op .ix [.flat (.var 10), .cst (.int 1)]]]), .app 7 (.call 76 [.lst [.var 12, .call 73 [.op .mul [.op .ix [.flat (.var 5), .cst (.int 0)], .op .ix [.flat (.var 11), .cst (.int 0)]], .op .mul [.op .ix [.flat (.var 5), .cst (.int 1)], .op .ix [.flat (.var 11), .cst (.int 1)]]]]]) [], .kil 12], .setT [(2, .flat (.var 3), none), (2, .flat (.var 4), none)] [.flat (.op .ix [.var 7, .cst (.int 0)]), .flat (.op .ix [.var 7, .cst (.int 1)])] [], .kil 6, .kil 7, .kil 8, .kil 9, .kil 10, .kil 11, .kil 12],
  .retV 2]
def ir_Uneven___init__ : List S := [
  ]
/-- arguments, slots, text -/
def prog : Nat → Nat × Nat × List S
  | 0 => (2, 2, ir_common)
  | 1 => (2, 3, ir_lowest)
  | 2 => (2, 2, ir_plus)
  | 3 => (2, 2, ir_less)
  | 4 => (2, 2, ir_by_times)
  | 5 => (2, 2, ir_parted)
  | 6 => (1, 3, ir_total)
  | 7 => (2, 2, ir_is_less)
  | 8 => (1, 1, ir_is_whole)
  | 9 => (1, 1, ir_is_share)
  | 10 => (1, 2, ir_asked_row)
  | 11 => (2, 3, ir_is_order)
  | 12 => (1, 1, ir_falling)
  | 13 => (1, 3, ir_greatest_of)
  | 14 => (1, 1, ir_greatest)
  | 15 => (2, 3, ir_above_of)
  | 16 => (2, 2, ir_above)
  | 17 => (1, 2, ir_squares)
  | 18 => (1, 5, ir_apart)
  | 19 => (2, 3, ir_ordered)
  | 20 => (1, 6, ir_is_table)
  | 21 => (1, 1, ir_asked_table)
  | 22 => (2, 5, ir_moved_of)
  | 23 => (1, 2, ir_as_pairs)
  | 24 => (2, 2, ir_moved)
  | 25 => (2, 9, ir_behind_of)
  | 26 => (2, 2, ir_behind)
  | 27 => (1, 3, ir_turned)
  | 28 => (1, 3, ir_by_order)
  | 29 => (1, 1, ir_of_order)
  | 30 => (1, 2, ir_even)
  | 31 => (2, 2, ir_is_step)
  | 32 => (2, 3, ir_asked_steps)
  | 33 => (2, 7, ir_step_of)
  | 34 => (2, 4, ir_stepped)
  | 35 => (2, 7, ir_step_table)
  | 36 => (2, 4, ir_table_by)
  | 37 => (2, 2, ir_table_of)
  | 38 => (2, 6, ir_is_over)
  | 39 => (2, 11, ir_steps_of)
  | 40 => (2, 2, ir_steps_to)
  | 41 => (1, 3, ir_fallen)
  | 42 => (2, 6, ir_table_to)
  | 43 => (2, 3, ir_compared)
  | 44 => (2, 7, ir_is_mix)
  | 45 => (2, 7, ir_mixed)
  | 48 => (1, 1, ir_mix_of)
  | 49 => (1, 1, ir_asked_mix)
  | 50 => (1, 1, ir_table_from)
  | 52 => (1, 11, ir_tied)
  | 53 => (2, 13, ir_fewer)
  | 54 => (2, 2, ir_few_orders)
  | 55 => (2, 2, ir_asked_two)
  | 56 => (2, 6, ir_under_both)
  | 57 => (2, 9, ir_over_both)
  | 58 => (1, 1, ir_asked_near)
  | 62 => (2, 3, ir_Over___init__)
  | 65 => (2, 2, ir_Priced___init__)
  | 67 => (2, 4, ir_Mix___init__)
  | 69 => (1, 1, ir__wall)
  | 70 => (3, 5, ir__law_number)
  | 71 => (4, 9, ir__law_row)
  | 72 => (3, 3, ir__law_many)
  | 73 => (2, 4, ir__law_lowest)
  | 74 => (1, 1, ir__law_whole)
  | 75 => (1, 1, ir__law_is_part)
  | 76 => (1, 4, ir__law_sum)
  | 77 => (2, 7, ir__law_is_table)
  | 78 => (2, 6, ir__law_moved)
  | 79 => (1, 2, ir__law_parts)
  | 83 => (1, 3, ir__law_greatest)
  | 84 => (2, 6, ir__law_over)
  | 85 => (3, 15, ir__law_evened)
  | 86 => (3, 11, ir__law_steps)
  | 87 => (2, 13, ir__law_stepped)
  | 88 => (0, 0, ir_Uneven___init__)
  | _ => (0, 0, [])
-- placed | call before def: placed(table, order + [at])
-- parts_of | expr: sorted(found, key=lambda part: part[1])
-- cleared | stored thing: ('fr', None) into ('fr', None): rows[here[0]] = [parted(one, lead) for one in rows[here[0]]]
-- count | expr: range(last, sums[-1] - sums[-2] - 1, -1)
-- how_many_under | expr: {}
-- under_by | expr: {}
-- _law_mix | expr: {}
-- _law_mix_parts | expr: _law_mix_here.values()
-- _law_table | expr: _law_mix_here.values()
/-- the constructors: of which class -/
def ckd : Nat → Nat
  | 62 => 51
  | 65 => 53
  | 67 => 54
  | _ => 0
def IsK (T : Tb) (f c ar nn : Nat) (ir : List S) : Prop := ∃ d fl, (T.ds[f]? = some d ∧ d.kd = .ini c fl) ∧ d.ps.length = ar ∧ d.N.length = nn ∧ d.ir = ir
def IsZ (T : Tb) (f c : Nat) : Prop := ∃ d, T.ds[f]? = some d ∧ d.kd = .ini0 c
/-- a shared def, or a constant, stands in the table -/
def IsD (T : Tb) (i : Nat) : Prop := if i = 1000 then T.cs[0]? = some 6 else if i = 1001 then T.cs[1]? = some 30 else if i = 1002 then T.cs[2]? = some 40 else if i = 88 then IsZ T 88 52 else if ckd i = 0 then Is T i (prog i).1 (prog i).2.1 (prog i).2.2 else IsK T i (ckd i) (prog i).1 (prog i).2.1 (prog i).2.2
def Has (T : Tb) : List Nat → Prop
  | [] => True
  | i :: l => IsD T i ∧ Has T l
theorem isD {T : Tb} {i : Nat} {d : Dd} (h1 : T.ds[i]? = some d ∧ d.kd = .fn) (h2 : d.ps.length = (prog i).1) (h3 : d.N.length = (prog i).2.1) (h4 : d.ir = (prog i).2.2) (hi : i < 1000 ∧ i ≠ 88 ∧ ckd i = 0) : IsD T i := by
  unfold IsD
  rw [if_neg (by omega), if_neg (by omega), if_neg (by omega), if_neg hi.2.1, if_pos hi.2.2]
  exact ⟨d, h1, h2, h3, h4⟩
theorem isK {T : Tb} {i : Nat} {d : Dd} {fl : Str} (h1 : T.ds[i]? = some d ∧ d.kd = .ini (ckd i) fl) (h2 : d.ps.length = (prog i).1) (h3 : d.N.length = (prog i).2.1) (h4 : d.ir = (prog i).2.2) (hi : i < 1000 ∧ i ≠ 88 ∧ ckd i ≠ 0) : IsD T i := by
  unfold IsD
  rw [if_neg (by omega), if_neg (by omega), if_neg (by omega), if_neg hi.2.1, if_neg hi.2.2]
  exact ⟨d, fl, h1, h2, h3, h4⟩
theorem isZ {T : Tb} {d : Dd} (h1 : T.ds[88]? = some d ∧ d.kd = .ini0 52) : IsD T 88 := by
  unfold IsD
  rw [if_neg (by omega), if_neg (by omega), if_neg (by omega), if_pos rfl]
  exact ⟨d, h1⟩
theorem IsK.run {T : Tb} {n f c ar nn : Nat} {ir : List S} {ws : List W} {w : W} (h : IsK T f c ar nn ir) (hl : ws.length + 1 = ar) (e : exL (callN T n) T.cs ir (none :: (ws.map some ++ List.replicate (nn - 1 - ws.length) none)) = .rt w) : callN T (n + 2) f ws = .val (.ins c [w]) := by
  obtain ⟨d, fl, h1, h2, h3, h4⟩ := h
  rw [callN, h1.1]
  simp only [h1.2]
  rw [if_pos (by rw [hl, h2])]
  unfold startI
  rw [h3, h4, e]
  rfl
theorem IsZ.run {T : Tb} {n f c : Nat} (h : IsZ T f c) : callN T (n + 1) f [] = .val (.ins c []) := by
  obtain ⟨d, h1⟩ := h
  rw [callN, h1.1]
  simp only [h1.2]
theorem Has.is {T : Tb} : ∀ {l : List Nat}, Has T l → ∀ i, i ∈ l → IsD T i
  | [], _, _, hi => nomatch hi
  | j :: l, h, i, hi => by
    rcases List.mem_cons.mp hi with rfl | hi
    · exact h.1
    · exact Has.is h.2 i hi
theorem Has.sub {T : Tb} {l : List Nat} (h : Has T l) : ∀ m : List Nat, (m.all fun i => decide (i ∈ l)) = true → Has T m
  | [], _ => trivial
  | i :: m, hm => by
    rw [List.all_cons, Bool.and_eq_true, decide_eq_true_eq] at hm
    exact ⟨h.is i hm.1, Has.sub h m hm.2⟩
end Mx
/-! # Mx27: shares, by the shared numbers; how great they are -/
namespace Mx
open PySem L2
/-! ## how great -/
/-- so many D-ths, at most M in all -/
def Bq (D M : Nat) (q : Rat) : Prop := ∃ z : Int, q * (D : Rat) = (z : Rat) ∧ z.natAbs ≤ M * D
theorem Bq.add {D M N : Nat} {p q : Rat} (hp : Bq D M p) (hq : Bq D N q) : Bq D (M + N) (p + q) := by
  obtain ⟨y, h1, h2⟩ := hp
  obtain ⟨z, h3, h4⟩ := hq
  refine ⟨y + z, by rw [Rat.intCast_add]; grind, ?_⟩
  have := Int.natAbs_add_le y z
  rw [Nat.add_mul]
  omega
theorem Bq.sub {D M N : Nat} {p q : Rat} (hp : Bq D M p) (hq : Bq D N q) : Bq D (M + N) (p - q) := by
  obtain ⟨y, h1, h2⟩ := hp
  obtain ⟨z, h3, h4⟩ := hq
  refine ⟨y - z, by rw [Rat.intCast_sub]; grind, ?_⟩
  have := Int.natAbs_sub_le y z
  rw [Nat.add_mul]
  omega
theorem Bq.mul {D E M N : Nat} {p q : Rat} (hp : Bq D M p) (hq : Bq E N q) : Bq (D * E) (M * N) (p * q) := by
  obtain ⟨y, h1, h2⟩ := hp
  obtain ⟨z, h3, h4⟩ := hq
  refine ⟨y * z, ?_, ?_⟩
  · rw [Rat.intCast_mul, Rat.natCast_mul, ← h1, ← h3]; grind
  · rw [Int.natAbs_mul]
    have := Nat.mul_le_mul h2 h4
    have e : M * N * (D * E) = M * D * (N * E) := by grind
    omega
theorem Bq.int {D M : Nat} (i : Int) (h : i.natAbs ≤ M) : Bq D M (i : Rat) := by
  refine ⟨i * D, by rw [Rat.intCast_mul]; rfl, ?_⟩
  rw [Int.natAbs_mul, Int.natAbs_natCast]
  exact Nat.mul_le_mul_right _ h
theorem Bq.zero {D M : Nat} : Bq D M 0 := ⟨0, by simp, by simp⟩
theorem Bq.one {D M : Nat} (h : 1 ≤ M) : Bq D M 1 := Bq.int 1 h
theorem Bq.mono {D M N : Nat} {q : Rat} (h : Bq D M q) (hn : M ≤ N) : Bq D N q := by
  obtain ⟨z, h1, h2⟩ := h
  exact ⟨z, h1, Nat.le_trans h2 (Nat.mul_le_mul_right _ hn)⟩
theorem Bq.den {D E M : Nat} {q : Rat} (h : Bq D M q) (hd : D ∣ E) : Bq E M q := by
  obtain ⟨z, h1, h2⟩ := h
  obtain ⟨c, rfl⟩ := hd
  refine ⟨z * c, ?_, ?_⟩
  · rw [Rat.natCast_mul, Rat.intCast_mul, ← h1]
    have : ((c : Int) : Rat) = (c : Rat) := rfl
    rw [this]; grind
  · rw [Int.natAbs_mul, Int.natAbs_natCast]
    have := Nat.mul_le_mul_right c h2
    rw [Nat.mul_assoc] at this
    exact this
theorem Bq.neg {D M : Nat} {q : Rat} (h : Bq D M q) : Bq D M (-q) := by
  obtain ⟨z, h1, h2⟩ := h
  refine ⟨-z, by rw [Rat.intCast_neg, ← h1]; grind, by rw [Int.natAbs_neg]; exact h2⟩
theorem Bq.sum {D M : Nat} : ∀ {l : List Rat}, (∀ q ∈ l, Bq D M q) → Bq D (l.length * M) l.sum
  | [], _ => Bq.zero
  | x :: l, h => by
    have h1 := h x List.mem_cons_self
    have h2 := Bq.sum fun y hy => h y (List.mem_cons_of_mem _ hy)
    rw [List.sum_cons, List.length_cons, Nat.succ_mul]
    rw [Nat.add_comm]
    exact h1.add h2
theorem Bq.eq {D M : Nat} {q : Rat} (hD : 0 < D) (h : Bq D M q) : ∃ z : Int, q = Rat.divInt z D ∧ z.natAbs ≤ M * D := by
  obtain ⟨z, h1, h2⟩ := h
  refine ⟨z, ?_, h2⟩
  have hd : (D : Rat) ≠ 0 := by
    intro e
    have : (D : Rat) = ((0 : Nat) : Rat) := e
    rw [Rat.natCast_inj] at this
    omega
  rw [Rat.divInt_eq_div, ← h1]
  have : (((D : Nat) : Int) : Rat) = (D : Rat) := rfl
  rw [this, Rat.mul_div_cancel hd]
theorem Bq.nd {D M : Nat} {q : Rat} (hD : 0 < D) (h : Bq D M q) : q.num.natAbs ≤ M * D ∧ q.den ≤ D := by
  obtain ⟨z, rfl, h2⟩ := h.eq hD
  obtain ⟨e1, e2⟩ := divInt_pos z (b := (D : Int)) (by omega)
  have hg : 0 < Int.gcd z (D : Int) := Int.gcd_pos_of_ne_zero_right _ (by omega)
  constructor
  · rw [e1]
    rw [Int.natAbs_ediv_of_dvd (Int.gcd_dvd_left ..), Int.natAbs_natCast]
    exact Nat.le_trans (Nat.div_le_self _ _) h2
  · have : (Rat.divInt z (D : Int)).den = D / Int.gcd z (D : Int) := by
      have e3 : (((D / Int.gcd z (D : Int) : Nat)) : Int) = (D : Int) / (Int.gcd z (D : Int) : Int) := Int.natCast_ediv _ _
      rw [← e3] at e2
      exact_mod_cast e2
    rw [this]
    exact Nat.div_le_self _ _
/-- small enough -/
def Sz (D M : Nat) : Prop := 0 < D ∧ (M + 1) * D < 2 ^ 4000
theorem Sz.bd {D M : Nat} {q : Rat} (s : Sz D M) (h : Bq D M q) : Bd q 4000 := by
  obtain ⟨h1, h2⟩ := h.nd s.1
  have := s.2
  rw [Nat.succ_mul] at this
  exact ⟨by omega, by omega⟩
theorem Sz.mono {D M N : Nat} (s : Sz D N) (h : M ≤ N) : Sz D M := ⟨s.1, Nat.lt_of_le_of_lt (Nat.mul_le_mul_right _ (by omega)) s.2⟩
theorem Sz.of {D M a b : Nat} (h0 : 0 < D) (h1 : D ≤ 2 ^ a) (h2 : M < 2 ^ b) (h : a + b < 4000) : Sz D M := by
  refine ⟨h0, ?_⟩
  have : (M + 1) * D ≤ 2 ^ b * 2 ^ a := Nat.mul_le_mul (by omega) h1
  rw [← Nat.pow_add] at this
  exact Nat.lt_of_le_of_lt this (Nat.pow_lt_pow_right (by decide) (by omega))
/-! ## the defs -/
theorem up {T : Tb} {f : Nat} {ws : List W} {o : O} {k n : Nat} (hn : k ≤ n) (h : ∀ m, callN T (m + k) f ws = o) : callN T n f ws = o := by
  have := h (n - k)
  rwa [Nat.sub_add_cancel hn] at this
section
variable {T : Tb} {n : Nat} {p q : Rat} {D M N : Nat}
abbrev cLow : List Nat := [0, 1]
theorem c_common (h : Has T [0]) (hn : 1 ≤ n) (a b : Int) {k : Nat} (hk : k ≤ 400000) (hb : b.natAbs < 2 ^ k) : callN T n 0 [.int a, .int b] = .val (.int (Int.gcd a b)) :=
  up hn fun m => common_ok (n := m) h.1 a b hk hb
theorem c_lowest (h : Has T cLow) (hn : 2 ≤ n) (a : Int) {b : Int} (hb0 : b ≠ 0) (hb : b.natAbs < 2 ^ 9000) : callN T n 1 [.int a, .int b] = .val (pt (Rat.divInt a b)) :=
  up hn fun m => lowest_ok (n := m) h.1 h.2.1 a hb0 (Nat.le_refl _) hb
theorem c_plus (h : Has T [0, 1, 2]) (hn : 3 ≤ n) (hp : Bd p 4000) (hq : Bd q 4000) : callN T n 2 [pt p, pt q] = .val (pt (p + q)) :=
  up hn fun m => plus_ok (n := m) h.1 h.2.1 h.2.2.1 hp hq (by decide)
theorem c_less (h : Has T [0, 1, 3]) (hn : 3 ≤ n) (hp : Bd p 4000) (hq : Bd q 4000) : callN T n 3 [pt p, pt q] = .val (pt (p - q)) :=
  up hn fun m => less_ok (n := m) h.1 h.2.1 h.2.2.1 hp hq (by decide)
theorem c_times (h : Has T [0, 1, 4]) (hn : 3 ≤ n) (hp : Bd p 4000) (hq : Bd q 4000) : callN T n 4 [pt p, pt q] = .val (pt (p * q)) :=
  up hn fun m => times_ok (n := m) h.1 h.2.1 h.2.2.1 hp hq (by decide)
theorem c_isless (h : Has T [7]) (hn : 1 ≤ n) (hp : Bd p 4000) (hq : Bd q 4000) : callN T n 7 [pt p, pt q] = .val (.bl (decide (p < q))) :=
  up hn fun m => is_less_ok (n := m) h.1 hp hq (by decide)
theorem c_lawlow (h : Has T [73]) (hn : 1 ≤ n) (a : Int) {b : Int} (hb0 : 0 < b) (hb : b.natAbs < 2 ^ 9000) : callN T n 73 [.int a, .int b] = .val (pt (Rat.divInt a b)) :=
  up hn fun m => law_lowest_ok (n := m) h.1 a hb0 (Nat.le_refl _) hb
theorem div_eq (p q : Rat) : p / q = Rat.divInt (p.num * q.den) ((p.den : Int) * q.num) := by
  by_cases h : q.num = 0
  · have : q = 0 := Rat.num_eq_zero.mp h
    subst this
    rw [Rat.div_def, Rat.inv_zero, Rat.mul_zero]
    simp
  · have h1 := p.den_pos
    have h2 := q.den_pos
    conv => lhs; rw [← Rat.num_divInt_den p, ← Rat.num_divInt_den q]
    rw [Rat.div_def, Rat.inv_divInt, Rat.divInt_mul_divInt]
theorem c_parted (h : Has T [0, 1, 5]) (hn : 3 ≤ n) (hp : Bd p 4000) (hq : Bd q 4000) (hq0 : q ≠ 0) : callN T n 5 [pt p, pt q] = .val (pt (p / q)) := by
  refine up hn fun m => Is.rt h.2.2.1 rfl (exL_ret _ _ _ _ _ ?_)
  obtain ⟨m1, m2, m3, m4⟩ := hp.mulOk hq (by decide)
  have hn0 : q.num ≠ 0 := fun z => hq0 (Rat.num_eq_zero.mp z)
  have hd := p.den_pos
  have hb : ((p.den : Int) * q.num).natAbs < 2 ^ 9000 := by
    rw [Int.natAbs_mul, Int.natAbs_natCast]
    have := Nat.mul_lt_mul'' hp.2 hq.1
    rw [← Nat.pow_add] at this
    exact Nat.lt_of_lt_of_le this (Nat.pow_le_pow_right (by decide) (by decide))
  have e := c_lowest (n := m + 2) ⟨h.1, h.2.1, trivial⟩ (by omega) (p.num * q.den) (Int.mul_ne_zero (by omega) hn0) hb
  rw [← div_eq] at e
  simp [ev_var, ev_cst, ev_gci, ev_op, ev_tup, ev_lst, ev_call, ev_and, ev_or, ev_not, ev_ifx, ev_chain, evs_nil, evs_cons, evAnd, evOr, O.bind, Os.bind, opS, addS, subS, mulS, fdivS, modS, powS, negS, eqS, neS, ltS, leS, gtS, geS, lenS, sumS, absS, max1S, min1S, max2S, min2S, all1S, any1S, int1S, isiS, isiT, ixS, catS, repS, slcAS, slcBS, revS, sortedS, listS, rngLS, flIf, Mx.Sg.get, startW, ints_map, bls_map, eqW_Li, neW_Li, eqW_int, neW_int, ev_flat, W.isFlat, W.isFlats, pt, at_0, at_1, m1, m2, m3, m4]
  exact e
end
end Mx
/-! # Mx28: loops, and the plain forms of lists of shares -/
namespace Mx
open PySem L2
section
variable {cf : Nat → List W → O} {cs : List Int} {σ : Sg} {r : R} {ss body : List S} {it : Mx.It}
/-- goes on in a state of a form -/
def GoTo {α : Type} (st : α → Sg) (i : Nat) (P : α → Prop) (r : R) : Prop := ∃ a' o, r = .nx ((st a').set i o) ∧ P a'
def GoTo0 {α : Type} (st : α → Sg) (P : α → Prop) (r : R) : Prop := ∃ a', r = .nx (st a') ∧ P a'
def RetTo {α : Type} (f : α → W) (P : α → Prop) (r : R) : Prop := ∃ w, r = .rt (f w) ∧ P w
theorem RetTo.call {T : Tb} {n f ar nn : Nat} {ir : List S} {ws : List W} {α : Type} {g : α → W} {P : α → Prop} (h : Is T f ar nn ir) (hl : ws.length = ar) (e : RetTo g P (exL (callN T n) T.cs ir (ws.map some ++ List.replicate (nn - ws.length) none))) : ∃ w, callN T (n + 1) f ws = .val (g w) ∧ P w := by
  obtain ⟨w, h1, h2⟩ := e
  exact ⟨w, h.rt hl h1, h2⟩
/-- a loop over one name -/
theorem loop1 {i : Nat} {α β : Type} (xs : List β) (φ : β → W) (st : α → Sg) (P : List β → α → Prop) (a0 : α) (hit : evIt cf cs it σ = some (xs.map φ)) (hσ : σ.set i none = st a0) (h0 : P [] a0)
    (hs : ∀ pre x post a, xs = pre ++ x :: post → P pre a → GoTo st i (P (pre ++ [x])) (exL cf cs body ((st a).set i (some (φ x)))))
    (hst : ∀ a, (st a).set i none = st a)
    (hk : ∀ a o, P xs a → exL cf cs ss ((st a).set i o) = r) : exL cf cs (.forS (.nm i) it body :: ss) σ = r := by
  obtain ⟨a', o, h1, h2⟩ := for1 (k := fun s => exL cf cs body s) (φ := φ) st P hst hs a0 h0
  rw [exL_for cf cs σ (.nm i) it body ss hit (by
    show forW _ _ (wipeW σ [i]) = _
    have : wipeW σ [i] = st a0 := hσ
    rw [this]
    exact h1)]
  exact hk a' o h2
theorem loop1C {i : Nat} {α β : Type} (C : R → Prop) (xs : List β) (φ : β → W) (st : α → Sg) (P : List β → α → Prop) (a0 : α) (hit : evIt cf cs it σ = some (xs.map φ)) (hσ : σ.set i none = st a0) (h0 : P [] a0)
    (hs : ∀ pre x post a, xs = pre ++ x :: post → P pre a → GoTo st i (P (pre ++ [x])) (exL cf cs body ((st a).set i (some (φ x)))))
    (hst : ∀ a, (st a).set i none = st a)
    (hk : ∀ a o, P xs a → C (exL cf cs ss ((st a).set i o))) : C (exL cf cs (.forS (.nm i) it body :: ss) σ) := by
  obtain ⟨a', o, h1, h2⟩ := for1 (k := fun s => exL cf cs body s) (φ := φ) st P hst hs a0 h0
  rw [exL_for cf cs σ (.nm i) it body ss hit (by
    show forW _ _ (wipeW σ [i]) = _
    have : wipeW σ [i] = st a0 := hσ
    rw [this]
    exact h1)]
  exact hk a' o h2
def GoTo2 {α : Type} (st : α → Sg) (i j : Nat) (P : α → Prop) (r : R) : Prop := ∃ a' o p, r = .nx (((st a').set i o).set j p) ∧ P a'
/-- a loop over pairs -/
theorem loop2C {i j : Nat} {α β : Type} (C : R → Prop) (xs : List β) (φ ψ : β → W) (st : α → Sg) (P : List β → α → Prop) (a0 : α) (hij : i ≠ j) (hit : evIt cf cs it σ = some (xs.map fun x => .tup [φ x, ψ x])) (hσ : (σ.set j none).set i none = st a0) (h0 : P [] a0)
    (hs : ∀ pre x post a, xs = pre ++ x :: post → P pre a → GoTo2 st i j (P (pre ++ [x])) (exL cf cs body (((st a).set i (some (φ x))).set j (some (ψ x)))))
    (hst : ∀ a, ((st a).set j none).set i none = st a)
    (hk : ∀ a o p, P xs a → C (exL cf cs ss (((st a).set i o).set j p))) : C (exL cf cs (.forS (.tp [i, j]) it body :: ss) σ) := by
  obtain ⟨a', o, p, h1, h2⟩ := for2 (k := fun s => exL cf cs body s) (φ := φ) (ψ := ψ) st P hij hst hs a0 h0
  rw [exL_for cf cs σ (.tp [i, j]) it body ss hit (by
    show forW _ _ (wipeW σ [i, j]) = _
    have : wipeW σ [i, j] = st a0 := hσ
    rw [this]
    exact h1)]
  exact hk a' o p h2
def GoTo3 {α : Type} (st : α → Sg) (i j l : Nat) (P : α → Prop) (r : R) : Prop := ∃ a' o p q, r = .nx ((((st a').set i o).set j p).set l q) ∧ P a'
/-- a loop over triples -/
theorem loop3C {i j l : Nat} {α β : Type} (C : R → Prop) (xs : List β) (φ ψ χ : β → W) (st : α → Sg) (P : List β → α → Prop) (a0 : α) (hij : i ≠ j) (hil : i ≠ l) (hjl : j ≠ l) (hit : evIt cf cs it σ = some (xs.map fun x => .tup [φ x, ψ x, χ x])) (hσ : ((σ.set l none).set j none).set i none = st a0) (h0 : P [] a0)
    (hs : ∀ pre x post a, xs = pre ++ x :: post → P pre a → GoTo3 st i j l (P (pre ++ [x])) (exL cf cs body ((((st a).set i (some (φ x))).set j (some (ψ x))).set l (some (χ x)))))
    (hst : ∀ a, (((st a).set l none).set j none).set i none = st a)
    (hk : ∀ a o p q, P xs a → C (exL cf cs ss ((((st a).set i o).set j p).set l q))) : C (exL cf cs (.forS (.tp [i, j, l]) it body :: ss) σ) := by
  have nrm : ∀ (s : Sg) (o p q x y z : Option W), (((((s.set i o).set j p).set l q).set l x).set j y).set i z = ((s.set l x).set j y).set i z := by
    intro s o p q x y z
    apply List.ext_getElem?
    intro k
    simp only [List.getElem?_set, List.length_set]
    grind
  have go : ∀ (post pre : List β) (a : α) (s : Sg), xs = pre ++ post → P pre a → (∃ o p q, s = (((st a).set i o).set j p).set l q) → ∃ a' o p q, forW (tgR (.tp [i, j, l]) fun s => exL cf cs body s) (post.map fun x => .tup [φ x, ψ x, χ x]) s = .nx ((((st a').set i o).set j p).set l q) ∧ P xs a' := by
    intro post
    induction post with
    | nil =>
      intro pre a s e p ⟨o, p', q, hsq⟩
      rw [List.append_nil] at e
      subst e
      exact ⟨a, o, p', q, by rw [hsq]; rfl, p⟩
    | cons x post ih =>
      intro pre a s e p ⟨o, p', q, hsq⟩
      obtain ⟨a', o2, p2, q2, h1, h2⟩ := hs pre x post a e p
      obtain ⟨a3, o3, p3, q3, h3, h4⟩ := ih (pre ++ [x]) a' _ (by rw [e, List.append_assoc]; rfl) h2 ⟨o2, p2, q2, rfl⟩
      refine ⟨a3, o3, p3, q3, ?_, h4⟩
      rw [List.map_cons]
      unfold forW
      have e1 : tgR (.tp [i, j, l]) (fun s => exL cf cs body s) (.tup [φ x, ψ x, χ x]) s = exL cf cs body ((((st a).set i (some (φ x))).set j (some (ψ x))).set l (some (χ x))) := by
        simp only [tgR, tgS, Tg.ix, wipeW, setAll, hsq]
        rw [nrm, hst]
      rw [e1, h1]
      exact h3
  have e0 : st a0 = (((st a0).set i none).set j none).set l none := by
    conv => lhs; rw [← hst a0]
    apply List.ext_getElem?
    intro k
    simp only [List.getElem?_set, List.length_set]
    grind
  obtain ⟨a', o, p, q, h1, h2⟩ := go xs [] a0 (st a0) rfl h0 ⟨none, none, none, e0⟩
  rw [exL_for cf cs σ (.tp [i, j, l]) it body ss hit (by
    show forW _ _ (wipeW σ [i, j, l]) = _
    have : wipeW σ [i, j, l] = st a0 := hσ
    rw [this]
    exact h1)]
  exact hk a' o p q h2
/-- a loop whose first turn ends the def -/
theorem loopRt {i : Nat} {x : W} {xs : List W} {w : W} (hit : evIt cf cs it σ = some (x :: xs)) (h : exL cf cs body ((σ.set i none).set i (some x)) = .rt w) : exL cf cs (.forS (.nm i) it body :: ss) σ = .rt w := by
  rw [exL_cons]
  have e : exS cf cs (.forS (.nm i) it body) σ = .rt w := by
    simp only [exS, hit]
    unfold forW
    have : tgR (.nm i) (fun s => exL cf cs body s) x (wipeW σ (Tg.nm i).ix) = .rt w := by
      rw [← h]
      simp [tgR, tgS, Tg.ix, wipeW]
    rw [this]
  rw [e]
/-- a loop that folds into one slot -/
theorem loopF {i k : Nat} {α β : Type} (xs : List β) (φ : β → W) (enc : α → W) (f : α → β → α) (a0 : α) (hik : i ≠ k) (hit : evIt cf cs it σ = some (xs.map φ)) (hσ : σ[k]? = some (some (enc a0)))
    (hs : ∀ pre x post, xs = pre ++ x :: post → exL cf cs body (((σ.set i none).set k (some (enc (pre.foldl f a0)))).set i (some (φ x))) = .nx (((σ.set i none).set k (some (enc (f (pre.foldl f a0) x)))).set i (some (φ x))))
    (hk : ∀ o, exL cf cs ss (((σ.set i none).set k (some (enc (xs.foldl f a0)))).set i o) = r) : exL cf cs (.forS (.nm i) it body :: ss) σ = r := by
  refine loop1 xs φ (fun a => (σ.set i none).set k (some (enc a))) (fun pre a => a = pre.foldl f a0) a0 hit ?_ rfl ?_ ?_ ?_
  · apply List.ext_getElem?
    intro j
    by_cases h : k = j
    · subst h
      rw [List.getElem?_set_ne hik, hσ]
      rw [List.getElem?_set_self]
      rw [List.length_set]
      exact (List.getElem?_eq_some_iff.mp hσ).1
    · rw [List.getElem?_set_ne h]
  · intro pre x post a e p
    subst p
    refine ⟨f (pre.foldl f a0) x, some (φ x), hs pre x post e, ?_⟩
    rw [List.foldl_append]
    rfl
  · intro a
    show ((σ.set i none).set k _).set i none = _
    rw [List.set_comm _ _ (Ne.symm hik), List.set_set]
  · intro a o p
    subst p
    exact hk o
/-- a loop by a measure -/
theorem loopW {n : Nat} {c : E} {α : Type} (st : α → Sg) (P : α → Prop) (m : α → Nat) (b : α → Bool) (a0 : α) (hσ : σ = st a0) (h0 : P a0) (hm : m a0 < n)
    (hc : ∀ a, P a → ev cf cs c (st a) = .val (.bl (b a)))
    (hs : ∀ a, P a → b a = true → GoTo0 st (fun a' => P a' ∧ m a' < m a) (exL cf cs body (st a)))
    (hk : ∀ a, P a → b a = false → exL cf cs ss (st a) = r) : exL cf cs (.whl n c body :: ss) σ = r := by
  have key : ∀ (k n : Nat) (a : α), P a → m a ≤ k → m a < n → ∃ a', whW (fun s => ev cf cs c s) (fun s => exL cf cs body s) n (st a) = .nx (st a') ∧ P a' ∧ b a' = false := by
    intro k
    induction k with
    | zero =>
      intro n a p hk hn
      obtain ⟨n, rfl⟩ : ∃ l, n = l + 1 := ⟨n - 1, by omega⟩
      cases hb : b a with
      | false =>
        refine ⟨a, ?_, p, hb⟩
        unfold whW
        rw [hc a p, hb]
        rfl
      | true =>
        obtain ⟨a', _, _, h3⟩ := hs a p hb
        omega
    | succ k ih =>
      intro n a p hk hn
      obtain ⟨n, rfl⟩ : ∃ l, n = l + 1 := ⟨n - 1, by omega⟩
      cases hb : b a with
      | false =>
        refine ⟨a, ?_, p, hb⟩
        unfold whW
        rw [hc a p, hb]
        rfl
      | true =>
        obtain ⟨a', h1, h2, h3⟩ := hs a p hb
        obtain ⟨a2, q1, q2, q3⟩ := ih n a' h2 (by omega) (by omega)
        refine ⟨a2, ?_, q2, q3⟩
        unfold whW
        rw [hc a p, hb]
        simp only [ofO]
        rw [h1]
        exact q1
  obtain ⟨a', q1, q2, q3⟩ := key (m a0) n a0 h0 (Nat.le_refl _) hm
  rw [hσ, exL_whl cf cs (st a0) n c body ss q1]
  exact hk a' q2 q3
theorem loopWC {n : Nat} {c : E} {α : Type} (C : R → Prop) (st : α → Sg) (P : α → Prop) (m : α → Nat) (b : α → Bool) (a0 : α) (hσ : σ = st a0) (h0 : P a0) (hm : m a0 < n)
    (hc : ∀ a, P a → ev cf cs c (st a) = .val (.bl (b a)))
    (hs : ∀ a, P a → b a = true → GoTo0 st (fun a' => P a' ∧ m a' < m a) (exL cf cs body (st a)))
    (hk : ∀ a, P a → b a = false → C (exL cf cs ss (st a))) : C (exL cf cs (.whl n c body :: ss) σ) := by
  have key : ∀ (k n : Nat) (a : α), P a → m a ≤ k → m a < n → ∃ a', whW (fun s => ev cf cs c s) (fun s => exL cf cs body s) n (st a) = .nx (st a') ∧ P a' ∧ b a' = false := by
    intro k
    induction k with
    | zero =>
      intro n a p hk hn
      obtain ⟨n, rfl⟩ : ∃ l, n = l + 1 := ⟨n - 1, by omega⟩
      cases hb : b a with
      | false =>
        refine ⟨a, ?_, p, hb⟩
        unfold whW
        rw [hc a p, hb]
        rfl
      | true =>
        obtain ⟨a', _, _, h3⟩ := hs a p hb
        omega
    | succ k ih =>
      intro n a p hk hn
      obtain ⟨n, rfl⟩ : ∃ l, n = l + 1 := ⟨n - 1, by omega⟩
      cases hb : b a with
      | false =>
        refine ⟨a, ?_, p, hb⟩
        unfold whW
        rw [hc a p, hb]
        rfl
      | true =>
        obtain ⟨a', h1, h2, h3⟩ := hs a p hb
        obtain ⟨a2, q1, q2, q3⟩ := ih n a' h2 (by omega) (by omega)
        refine ⟨a2, ?_, q2, q3⟩
        unfold whW
        rw [hc a p, hb]
        simp only [ofO]
        rw [h1]
        exact q1
  obtain ⟨a', q1, q2, q3⟩ := key (m a0) n a0 h0 (Nat.le_refl _) hm
  rw [hσ, exL_whl cf cs (st a0) n c body ss q1]
  exact hk a' q2 q3
end
/-! ## encodings -/
abbrev Lp (qs : List Rat) : W := .lst (qs.map pt)
abbrev Lt (m : List (List Rat)) : W := .lst (m.map Lp)
@[simp] theorem flat_pt (q : Rat) : W.isFlat (pt q) = true := pt_flat q
@[simp] theorem flats_pts : ∀ qs : List Rat, W.isFlats (qs.map pt) = true
  | [] => rfl
  | q :: qs => by rw [List.map_cons, W.isFlats, pt_flat, flats_pts qs]; rfl
@[simp] theorem ixS_pt0 (q : Rat) : ixS [pt q, .int 0] = .val (.int q.num) := rfl
@[simp] theorem ixS_pt1 (q : Rat) : ixS [pt q, .int 1] = .val (.int (q.den : Int)) := rfl
@[simp] theorem bls_mapf {α : Type} (f : α → Bool) (xs : List α) : W.bls (xs.map fun k => W.bl (f k)) = some (xs.map f) := by
  rw [← bls_map (xs.map f), List.map_map]
  rfl
@[simp] theorem ints_mapf {α : Type} (f : α → Int) (xs : List α) : W.ints (xs.map fun k => W.int (f k)) = some (xs.map f) := by
  rw [← ints_map (xs.map f), List.map_map]
  rfl
theorem zipW_map {α β : Type} (f : α → W) (g : β → W) (xs : List α) (ys : List β) : zipW (xs.map f) (ys.map g) = (xs.zip ys).map fun p => .tup [f p.1, g p.2] := by
  unfold zipW
  rw [List.zipWith_map, List.zip_eq_zipWith, List.map_zipWith]
theorem enumFrom_map {α : Type} (f : α → W) : ∀ (k : Nat) (xs : List α), enumFrom k (xs.map f) = (xs.zipIdx k).map fun p => .tup [.int (p.2 : Nat), f p.1]
  | _, [] => rfl
  | k, x :: xs => by
    rw [List.map_cons, List.zipIdx_cons, List.map_cons]
    unfold enumFrom
    rw [enumFrom_map f (k + 1) xs]
theorem rng_nat (k : Nat) (h : k ≤ 100000) : rngW 0 (k : Int) = some ((List.range k).map fun (i : Nat) => .int (i : Int)) := rngW_nat h
theorem rng_nat2 (a b : Nat) (h : b ≤ 100000) (ha : a ≤ 100000) : rngW (a : Int) (b : Int) = some ((List.range' a (b - a)).map fun (i : Nat) => .int (i : Int)) := by
  unfold rngW
  rw [if_pos ⟨by show (b : Int) - a ≤ (100000 : Int); omega, by omega, by omega, by omega, by omega⟩]
  have e : ((b : Int) - (a : Int)).toNat = b - a := by omega
  rw [e, List.range'_eq_map_range, List.map_map]
  congr 1
theorem atI_map {α : Type} (f : α → W) (xs : List α) (i : Int) : atI (xs.map f) i = (atI xs i).map f := by
  unfold atI
  rw [List.length_map]
  cases ixN xs.length i with
  | none => rfl
  | some j => simp
theorem at_nat {α : Type} {xs : List α} {k : Nat} (h : k < xs.length) : atI xs (k : Int) = some xs[k] := by
  rw [atI_nat _ _ h, List.getElem?_eq_getElem h]
theorem at_range {α : Type} (f : Nat → α) {n k : Nat} (h : k < n) : atI ((List.range n).map f) (k : Int) = some (f k) := by
  rw [at_nat (by simpa using h)]
  simp
theorem at_range1 {α : Type} (f : Nat → α) {n k : Nat} (h : k + 1 < n) : atI ((List.range n).map f) ((k : Int) + 1) = some (f (k + 1)) := at_range f h
theorem at_lit {α : Type} {xs : List α} {i : Int} {k : Nat} (hi : i = (k : Int)) (h : k < xs.length) : atI xs i = some xs[k] := by
  rw [hi, at_nat h]
end Mx
/-! # Mx29: sums of shares, rows, what the laws draw: by the shared numbers -/
namespace Mx
open PySem L2
section
variable {T : Tb} {n : Nat} {D M : Nat}
theorem foldl_add : ∀ (l : List Rat) (a : Rat), l.foldl (· + ·) a = a + l.sum
  | [], a => by simp [Rat.add_zero]
  | x :: l, a => by rw [List.foldl_cons, foldl_add l, List.sum_cons]; grind
theorem pt0 : pt 0 = .tup [.int 0, .int 1] := rfl
theorem pt1 : pt 1 = .tup [.int 1, .int 1] := rfl
theorem c_total (h : Has T [0, 1, 2, 6]) (hn : 4 ≤ n) {l : List Rat} (hb : ∀ q ∈ l, Bq D M q) (hs : Sz D (l.length * M + M)) : callN T n 6 [Lp l] = .val (pt l.sum) := by
  refine up hn fun m => Is.rt h.2.2.2.1 rfl ?_
  show exL (callN T (m + 3)) T.cs ir_total [some (Lp l), none, none] = _
  simp [e_var, ev_cst, e_gci, ev_op, ev_tup, ev_lst, ev_call, ev_and, ev_or, e_not, e_ifx, e_and1, e_and2, e_or1, e_or2, e_chain, e_chain3, e_comp, evs_nil, es_cons, e_flat, i_lst, i_rng1, i_rng2, i_zip, i_enum, s_asg, s_app, s_ifs, s_ret, s_retV, s_exp, s_rai, s_pas, s_brk, s_asgT, s_unp, s_setT, s_appK, exL_nil, exL_kil, exL_frz, opS, addS, subS, mulS, fdivS, modS, powS, negS, eqS, neS, ltS, leS, gtS, geS, lenS, sumS, absS, max1S, min1S, max2S, min2S, all1S, any1S, int1S, isiS, isiT, isNS, notNS, isBS, notBS, W.isNon, ixS_lst, ixS_tup, catS, repS, slcAS, slcBS, revS, sortedS, listS, rngLS, flIf, startW, ints_map, bls_map, eqW_Li, neW_Li, eqW_int, neW_int, W.isFlat, W.isFlats, wipeW, tgS, setAll, stosW_nil, stosW_cons, stoW_1, stoW_2, isinS, notinS, fldS, iscS, indexS, sortedPS, rng3S, ir_total]
  refine loopF (k := 1) l pt pt (· + ·) 0 (by decide) (by simp [e_var, ev_cst, e_gci, ev_op, ev_tup, ev_lst, ev_call, ev_and, ev_or, e_not, e_ifx, e_and1, e_and2, e_or1, e_or2, e_chain, e_chain3, e_comp, evs_nil, es_cons, e_flat, i_lst, i_rng1, i_rng2, i_zip, i_enum, s_asg, s_app, s_ifs, s_ret, s_retV, s_exp, s_rai, s_pas, s_brk, s_asgT, s_unp, s_setT, s_appK, exL_nil, exL_kil, exL_frz, opS, addS, subS, mulS, fdivS, modS, powS, negS, eqS, neS, ltS, leS, gtS, geS, lenS, sumS, absS, max1S, min1S, max2S, min2S, all1S, any1S, int1S, isiS, isiT, isNS, notNS, isBS, notBS, W.isNon, ixS_lst, ixS_tup, catS, repS, slcAS, slcBS, revS, sortedS, listS, rngLS, flIf, startW, ints_map, bls_map, eqW_Li, neW_Li, eqW_int, neW_int, W.isFlat, W.isFlats, wipeW, tgS, setAll, stosW_nil, stosW_cons, stoW_1, stoW_2, isinS, notinS, fldS, iscS, indexS, sortedPS, rng3S]) rfl (fun pre x post e => ?_) (fun o => ?_)
  · have hx : Bd x 4000 := (hs.mono (by omega)).bd (hb x (by rw [e]; simp))
    have hp : Bd (pre.foldl (· + ·) 0) 4000 := by
      rw [foldl_add, Rat.zero_add]
      have := Bq.sum (l := pre) fun q hq => hb q (by rw [e]; simp [hq])
      refine (hs.mono ?_).bd this
      rw [e, List.length_append]
      have := Nat.mul_le_mul_right M (show pre.length ≤ pre.length + (x :: post).length by omega)
      omega
    simp [e_var, ev_cst, e_gci, ev_op, ev_tup, ev_lst, ev_call, ev_and, ev_or, e_not, e_ifx, e_and1, e_and2, e_or1, e_or2, e_chain, e_chain3, e_comp, evs_nil, es_cons, e_flat, i_lst, i_rng1, i_rng2, i_zip, i_enum, s_asg, s_app, s_ifs, s_ret, s_retV, s_exp, s_rai, s_pas, s_brk, s_asgT, s_unp, s_setT, s_appK, exL_nil, exL_kil, exL_frz, opS, addS, subS, mulS, fdivS, modS, powS, negS, eqS, neS, ltS, leS, gtS, geS, lenS, sumS, absS, max1S, min1S, max2S, min2S, all1S, any1S, int1S, isiS, isiT, isNS, notNS, isBS, notBS, W.isNon, ixS_lst, ixS_tup, catS, repS, slcAS, slcBS, revS, sortedS, listS, rngLS, flIf, startW, ints_map, bls_map, eqW_Li, neW_Li, eqW_int, neW_int, W.isFlat, W.isFlats, wipeW, tgS, setAll, stosW_nil, stosW_cons, stoW_1, stoW_2, isinS, notinS, fldS, iscS, indexS, sortedPS, rng3S, c_plus (n := m + 3) (h.sub _ (by decide)) (by omega) hp hx]
  · simp [e_var, ev_cst, e_gci, ev_op, ev_tup, ev_lst, ev_call, ev_and, ev_or, e_not, e_ifx, e_and1, e_and2, e_or1, e_or2, e_chain, e_chain3, e_comp, evs_nil, es_cons, e_flat, i_lst, i_rng1, i_rng2, i_zip, i_enum, s_asg, s_app, s_ifs, s_ret, s_retV, s_exp, s_rai, s_pas, s_brk, s_asgT, s_unp, s_setT, s_appK, exL_nil, exL_kil, exL_frz, opS, addS, subS, mulS, fdivS, modS, powS, negS, eqS, neS, ltS, leS, gtS, geS, lenS, sumS, absS, max1S, min1S, max2S, min2S, all1S, any1S, int1S, isiS, isiT, isNS, notNS, isBS, notBS, W.isNon, ixS_lst, ixS_tup, catS, repS, slcAS, slcBS, revS, sortedS, listS, rngLS, flIf, startW, ints_map, bls_map, eqW_Li, neW_Li, eqW_int, neW_int, W.isFlat, W.isFlats, wipeW, tgS, setAll, stosW_nil, stosW_cons, stoW_1, stoW_2, isinS, notinS, fldS, iscS, indexS, sortedPS, rng3S, foldl_add, Rat.zero_add]
theorem c_as_pairs (h : Has T [23]) (hn : 1 ≤ n) (ns : List Int) : callN T n 23 [Li ns] = .val (Lp (ns.map fun (i : Int) => (i : Rat))) := by
  refine up hn fun m => Is.rt h.1 rfl ?_
  show exL (callN T m) T.cs ir_as_pairs [some (Li ns), none] = _
  simp [e_var, ev_cst, e_gci, ev_op, ev_tup, ev_lst, ev_call, ev_and, ev_or, e_not, e_ifx, e_and1, e_and2, e_or1, e_or2, e_chain, e_chain3, e_comp, evs_nil, es_cons, e_flat, i_lst, i_rng1, i_rng2, i_zip, i_enum, s_asg, s_app, s_ifs, s_ret, s_retV, s_exp, s_rai, s_pas, s_brk, s_asgT, s_unp, s_setT, s_appK, exL_nil, exL_kil, exL_frz, opS, addS, subS, mulS, fdivS, modS, powS, negS, eqS, neS, ltS, leS, gtS, geS, lenS, sumS, absS, max1S, min1S, max2S, min2S, all1S, any1S, int1S, isiS, isiT, isNS, notNS, isBS, notBS, W.isNon, ixS_lst, ixS_tup, catS, repS, slcAS, slcBS, revS, sortedS, listS, rngLS, flIf, startW, ints_map, bls_map, eqW_Li, neW_Li, eqW_int, neW_int, W.isFlat, W.isFlats, wipeW, tgS, setAll, stosW_nil, stosW_cons, stoW_1, stoW_2, isinS, notinS, fldS, iscS, indexS, sortedPS, rng3S, ir_as_pairs]
  intro a ha
  rfl
/-! ## rows -/
theorem c_whole (h : Has T [8]) (hn : 1 ≤ n) (z : Int) : callN T n 8 [.int z] = .val (.bl true) := up hn fun m => is_whole_int h.1 m z
theorem c_asked_row (h : Has T [8, 10, 1000]) (hn : 2 ≤ n) {ns : List Int} (h1 : 1 ≤ ns.length) (h2 : ns.length ≤ 6) : callN T n 10 [Li ns] = .val .non :=
  up hn fun m => asked_row_ok h.1 h.2.1 h.2.2.1 m ns h1 h2
theorem c_falling (h : Has T [12]) (hn : 1 ≤ n) (ns : List Int) : callN T n 12 [Li ns] = .val (Li (fall ns)) := up hn fun m => falling_ok h.1 m ns
theorem c_greatest_of (h : Has T [12, 13]) (hn : 2 ≤ n) {ns : List Int} (h2 : ns.length ≤ 6) : callN T n 13 [Li ns] = .val (Li (gs ns)) := up hn fun m => greatest_of_ok h.1 h.2.1 m ns h2
theorem c_law_greatest (h : Has T [83]) (hn : 1 ≤ n) {ns : List Int} (h2 : ns.length ≤ 6) : callN T n 83 [Li ns] = .val (Li (gs ns)) := up hn fun m => law_greatest_ok h.1 m ns h2
theorem c_law_over (h : Has T [83, 84]) (hn : 2 ≤ n) {a b : List Int} (ha : a.length ≤ 6) (hb : b.length ≤ 6) : callN T n 84 [Li a, Li b] = .val (.bl (ovB a b)) := up hn fun m => law_over_ok h.1 h.2.1 m a b ha hb
theorem c_asked_two (h : Has T [8, 10, 55, 1000]) (hn : 3 ≤ n) {a b : List Int} (h1 : 1 ≤ a.length) (h2 : a.length ≤ 6) (hl : a.length = b.length) : callN T n 55 [Li a, Li b] = .val .non := by
  refine up hn fun m => ?_
  obtain ⟨d, d1, d2, d3, d4⟩ := h.2.2.1
  refine callN_nx (σ := [some (Li a), some (Li b)]) d1 (by rw [d2]; rfl) ?_
  unfold startW
  rw [d4, d3]
  show exL (callN T (m + 2)) T.cs ir_asked_two [some (Li a), some (Li b)] = _
  have ea := c_asked_row (n := m + 2) (h.sub [8, 10, 1000] (by decide)) (by omega) h1 h2
  have eb := c_asked_row (n := m + 2) (ns := b) (h.sub [8, 10, 1000] (by decide)) (by omega) (by omega) (by omega)
  simp [e_var, ev_cst, e_gci, ev_op, ev_tup, ev_lst, ev_call, ev_and, ev_or, e_not, e_ifx, e_and1, e_and2, e_or1, e_or2, e_chain, e_chain3, e_comp, evs_nil, es_cons, e_flat, i_lst, i_rng1, i_rng2, i_zip, i_enum, s_asg, s_app, s_ifs, s_ret, s_retV, s_exp, s_rai, s_pas, s_brk, s_asgT, s_unp, s_setT, s_appK, exL_nil, exL_kil, exL_frz, opS, addS, subS, mulS, fdivS, modS, powS, negS, eqS, neS, ltS, leS, gtS, geS, lenS, sumS, absS, max1S, min1S, max2S, min2S, all1S, any1S, int1S, isiS, isiT, isNS, notNS, isBS, notBS, W.isNon, ixS_lst, ixS_tup, catS, repS, slcAS, slcBS, revS, sortedS, listS, rngLS, flIf, startW, ints_map, bls_map, eqW_Li, neW_Li, eqW_int, neW_int, W.isFlat, W.isFlats, wipeW, tgS, setAll, stosW_nil, stosW_cons, stoW_1, stoW_2, isinS, notinS, fldS, iscS, indexS, sortedPS, rng3S, ir_asked_two, ea, eb, hl]
/-! ## what the laws draw -/
theorem c_many (h : Has T [72]) (hn : 1 ≤ n) (ns : List Int) (hl : ns.length ≤ 63) (b : Nat) {k : Nat} (hk : 0 < k) : ∃ m : Nat, 1 ≤ m ∧ m ≤ k ∧ callN T n 72 [.scr ns, .int b, .int k] = .val (.int m) := by
  have d : divOk 2 = true := by decide
  have hm := fmod_bd (ab ns.sum / 2 + b) (b := (k : Int)) (by omega)
  refine ⟨(1 + (ab ns.sum / 2 + b).fmod k).toNat, by omega, by omega, up hn fun m => Is.rt h.1 rfl ?_⟩
  show exL (callN T m) T.cs ir__law_many [some (.scr ns), some (.int b), some (.int k)] = _
  have e : ((1 + (ab ns.sum / 2 + b).fmod k).toNat : Int) = 1 + (ab ns.sum / 2 + b).fmod k := Int.toNat_of_nonneg (by omega)
  have hk0 : ¬ (k = 0) := by omega
  have e2 : (if ns.sum < 0 then -ns.sum else ns.sum) = ab ns.sum := rfl
  rw [e]
  simp [e_var, ev_cst, e_gci, ev_op, ev_tup, ev_lst, ev_call, ev_and, ev_or, e_not, e_ifx, e_and1, e_and2, e_or1, e_or2, e_chain, e_chain3, e_comp, evs_nil, es_cons, e_flat, i_lst, i_rng1, i_rng2, i_zip, i_enum, s_asg, s_app, s_ifs, s_ret, s_retV, s_exp, s_rai, s_pas, s_brk, s_asgT, s_unp, s_setT, s_appK, exL_nil, exL_kil, exL_frz, opS, addS, subS, mulS, fdivS, modS, powS, negS, eqS, neS, ltS, leS, gtS, geS, lenS, sumS, absS, max1S, min1S, max2S, min2S, all1S, any1S, int1S, isiS, isiT, isNS, notNS, isBS, notBS, W.isNon, ixS_lst, ixS_tup, catS, repS, slcAS, slcBS, revS, sortedS, listS, rngLS, flIf, startW, ints_map, bls_map, eqW_Li, neW_Li, eqW_int, neW_int, W.isFlat, W.isFlats, wipeW, tgS, setAll, stosW_nil, stosW_cons, stoW_1, stoW_2, isinS, notinS, fldS, iscS, indexS, sortedPS, rng3S, ir__law_many, cut63, take63 hl, d, hk0, e2]
theorem c_row (h : Has T [70, 71]) (hn : 2 ≤ n) {ns : List Int} (hl : ns.length ≤ 63) (hb : ∀ z ∈ ns, Builtin.Int.intBits z ≤ 1048576) {b m : Nat} (h3 : b ≤ 10) (hm : m ≤ 6) {wd : Int} (hw : 0 < wd) (hw2 : wd.natAbs < 2 ^ 150) :
    ∃ r : List Int, callN T n 71 [.scr ns, .int b, .int m, .int wd] = .val (Li r) ∧ r.length = m ∧ ∀ x ∈ r, x.natAbs < 2 ^ 200 := by
  obtain ⟨k, rfl⟩ : ∃ k, n = k + 2 := ⟨n - 2, by omega⟩
  exact row_ok h.1 h.2.1 k (p := 1048576) (by decide) (by decide) hl (fun x hx => bits_nb (hb x hx)) h3 hm hw hw2
theorem c_rowB (h : Has T [70, 71]) (hn : 2 ≤ n) {ns : List Int} (hl : ns.length ≤ 63) (hb : ∀ z ∈ ns, Builtin.Int.intBits z ≤ 1048576) {b m : Nat} (h3 : b ≤ 10) (hm : m ≤ 6) {wd : Int} (hw : 0 < wd) (hw2 : wd.natAbs < 2 ^ 150) :
    ∃ r : List Int, callN T n 71 [.scr ns, .int b, .int m, .int wd] = .val (Li r) ∧ r.length = m ∧ ∀ x ∈ r, x.natAbs ≤ wd.natAbs + 7 := by
  obtain ⟨k, rfl⟩ : ∃ k, n = k + 2 := ⟨n - 2, by omega⟩
  exact row_okB h.1 h.2.1 k (p := 1048576) (by decide) (by decide) hl (fun x hx => bits_nb (hb x hx)) h3 hm hw hw2
theorem c_evened (h : Has T [70, 85]) (hn : 2 ≤ n) {ns r : List Int} (hl : ns.length ≤ 63) (hb : ∀ z ∈ ns, Builtin.Int.intBits z ≤ 1048576) {b q : Nat} (h3 : b ≤ 10) (r1 : 1 ≤ r.length) (r6 : r.length ≤ 6) (hrb : ∀ x ∈ r, x.natAbs < 2 ^ q) :
    ∃ e, callN T n 85 [.scr ns, .int b, Li r] = .val (Li e) ∧ Und e r ∧ ∀ x ∈ e, x.natAbs < 2 ^ q := by
  obtain ⟨k, rfl⟩ : ∃ k, n = k + 2 := ⟨n - 2, by omega⟩
  exact evened_ok k h.1 h.2.1 (p := 1048576) (by decide) (by decide) hl (fun x hx => bits_nb (hb x hx)) h3 r1 r6 hrb
end
end Mx
/-! # Mx30: rows under and over two -/
namespace Mx
open PySem L2
def mn (a b : List Int) (k : Nat) : Int := if gk b k < gk a k then gk b k else gk a k
def mx (a b : List Int) (k : Nat) : Int := if gk a k < gk b k then gk b k else gk a k
def dif (f : Nat → Int) (n : Nat) : List Int := (List.range n).map fun k => f (k + 1) - f k
theorem gs_zip {a b : List Int} (hl : a.length = b.length) (φ : Int → Int → Int) : ((gs a).zip (gs b)).map (fun p => φ p.1 p.2) = (List.range (a.length + 1)).map fun k => φ (gk a k) (gk b k) := by
  rw [gs_eq, gs_eq, hl, List.zip_map', List.map_map]
  rfl
section
variable {T : Tb} {n : Nat} {D M : Nat} {a b : List Int}
theorem c_under (h : Has T [8, 10, 12, 13, 55, 56, 1000]) (hn : 4 ≤ n) (h1 : 1 ≤ a.length) (h2 : a.length ≤ 6) (hl : a.length = b.length) : callN T n 56 [Li a, Li b] = .val (if a.sum = b.sum then Li (dif (mn a b) a.length) else .non) := by
  refine up hn fun m => Is.rt (h.is 56 (by decide)) rfl ?_
  show exL (callN T (m + 3)) T.cs ir_under_both [some (Li a), some (Li b), none, none, none, none] = _
  have e0 := c_asked_two (n := m + 3) (h.sub [8, 10, 55, 1000] (by decide)) (by omega) h1 h2 hl
  have e1 := c_greatest_of (n := m + 3) (h.sub [12, 13] (by decide)) (by omega) h2
  have e2 := c_greatest_of (n := m + 3) (ns := b) (h.sub [12, 13] (by decide)) (by omega) (by omega)
  have ez : (((gs a).zip (gs b)).map fun p => W.int (if p.2 < p.1 then p.2 else p.1)) = (List.range (a.length + 1)).map fun k => W.int (mn a b k) := by
    have := congrArg (List.map W.int) (gs_zip hl fun x y => if y < x then y else x)
    rw [List.map_map, List.map_map] at this
    exact this
  by_cases hs : a.sum = b.sum
  · simp [e_var, ev_cst, e_gci, ev_op, ev_tup, ev_lst, ev_call, ev_and, ev_or, e_not, e_ifx, e_and1, e_and2, e_or1, e_or2, e_chain, e_chain3, e_comp, evs_nil, es_cons, e_flat, i_lst, i_rng1, i_rng2, i_zip, i_enum, s_asg, s_app, s_ifs, s_ret, s_retV, s_exp, s_rai, s_pas, s_brk, s_asgT, s_unp, s_setT, s_appK, exL_nil, exL_kil, exL_frz, opS, addS, subS, mulS, fdivS, modS, powS, negS, eqS, neS, ltS, leS, gtS, geS, lenS, sumS, absS, max1S, min1S, max2S, min2S, all1S, any1S, int1S, isiS, isiT, isNS, notNS, isBS, notBS, W.isNon, ixS_lst, ixS_tup, catS, repS, slcAS, slcBS, revS, sortedS, listS, rngLS, flIf, startW, ints_map, bls_map, eqW_Li, neW_Li, eqW_int, neW_int, W.isFlat, W.isFlats, wipeW, tgS, setAll, stosW_nil, stosW_cons, stoW_1, stoW_2, isinS, notinS, ir_under_both, e0, e1, e2, hs, zipW_map, ez]
    simp [rng_nat a.length (by omega), e_var, ev_cst, e_gci, ev_op, ev_tup, ev_lst, ev_call, ev_and, ev_or, e_not, e_ifx, e_and1, e_and2, e_or1, e_or2, e_chain, e_chain3, e_comp, evs_nil, es_cons, e_flat, i_lst, i_rng1, i_rng2, i_zip, i_enum, s_asg, s_app, s_ifs, s_ret, s_retV, s_exp, s_rai, s_pas, s_brk, s_asgT, s_unp, s_setT, s_appK, exL_nil, exL_kil, exL_frz, opS, addS, subS, mulS, fdivS, modS, powS, negS, eqS, neS, ltS, leS, gtS, geS, lenS, sumS, absS, max1S, min1S, max2S, min2S, all1S, any1S, int1S, isiS, isiT, isNS, notNS, isBS, notBS, W.isNon, ixS_lst, ixS_tup, catS, repS, slcAS, slcBS, revS, sortedS, listS, rngLS, flIf, startW, ints_map, bls_map, eqW_Li, neW_Li, eqW_int, neW_int, W.isFlat, W.isFlats, wipeW, tgS, setAll, stosW_nil, stosW_cons, stoW_1, stoW_2, isinS, notinS]
    rw [mapL_of (fun k => .int (mn a b (k + 1) - mn a b k)) fun k hk => by
      have hk := List.mem_range.mp hk
      simp [e_var, ev_cst, e_gci, ev_op, ev_tup, ev_lst, ev_call, ev_and, ev_or, e_not, e_ifx, e_and1, e_and2, e_or1, e_or2, e_chain, e_chain3, e_comp, evs_nil, es_cons, e_flat, i_lst, i_rng1, i_rng2, i_zip, i_enum, s_asg, s_app, s_ifs, s_ret, s_retV, s_exp, s_rai, s_pas, s_brk, s_asgT, s_unp, s_setT, s_appK, exL_nil, exL_kil, exL_frz, opS, addS, subS, mulS, fdivS, modS, powS, negS, eqS, neS, ltS, leS, gtS, geS, lenS, sumS, absS, max1S, min1S, max2S, min2S, all1S, any1S, int1S, isiS, isiT, isNS, notNS, isBS, notBS, W.isNon, ixS_lst, ixS_tup, catS, repS, slcAS, slcBS, revS, sortedS, listS, rngLS, flIf, startW, ints_map, bls_map, eqW_Li, neW_Li, eqW_int, neW_int, W.isFlat, W.isFlats, wipeW, tgS, setAll, stosW_nil, stosW_cons, stoW_1, stoW_2, isinS, notinS, at_range _ (show k < a.length + 1 by omega), at_range1 _ (show k + 1 < a.length + 1 by omega)]]
    simp [dif]
  · simp [e_var, ev_cst, e_gci, ev_op, ev_tup, ev_lst, ev_call, ev_and, ev_or, e_not, e_ifx, e_and1, e_and2, e_or1, e_or2, e_chain, e_chain3, e_comp, evs_nil, es_cons, e_flat, i_lst, i_rng1, i_rng2, i_zip, i_enum, s_asg, s_app, s_ifs, s_ret, s_retV, s_exp, s_rai, s_pas, s_brk, s_asgT, s_unp, s_setT, s_appK, exL_nil, exL_kil, exL_frz, opS, addS, subS, mulS, fdivS, modS, powS, negS, eqS, neS, ltS, leS, gtS, geS, lenS, sumS, absS, max1S, min1S, max2S, min2S, all1S, any1S, int1S, isiS, isiT, isNS, notNS, isBS, notBS, W.isNon, ixS_lst, ixS_tup, catS, repS, slcAS, slcBS, revS, sortedS, listS, rngLS, flIf, startW, ints_map, bls_map, eqW_Li, neW_Li, eqW_int, neW_int, W.isFlat, W.isFlats, wipeW, tgS, setAll, stosW_nil, stosW_cons, stoW_1, stoW_2, isinS, notinS, ir_under_both, e0, e1, e2, hs]
theorem Bd_divInt {t : Int} {d : Nat} (hd : 0 < d) (hd2 : d < 2 ^ 4000) (ht : t.natAbs < 2 ^ 4000) : Bd (Rat.divInt t d) 4000 := by
  obtain ⟨e1, e2⟩ := divInt_pos t (b := (d : Int)) (by omega)
  have hg : 0 < Int.gcd t (d : Int) := Int.gcd_pos_of_ne_zero_right _ (by omega)
  constructor
  · rw [e1, Int.natAbs_ediv_of_dvd (Int.gcd_dvd_left ..), Int.natAbs_natCast]
    exact Nat.lt_of_le_of_lt (Nat.div_le_self _ _) ht
  · have e3 : (((d / Int.gcd t (d : Int) : Nat)) : Int) = (d : Int) / (Int.gcd t (d : Int) : Int) := Int.natCast_ediv _ _
    rw [← e3] at e2
    have e4 : (Rat.divInt t (d : Int)).den = d / Int.gcd t (d : Int) := by exact_mod_cast e2
    rw [e4]
    exact Nat.lt_of_le_of_lt (Nat.div_le_self _ _) hd2
/-- the slope from one place to another -/
def slp (S : Nat → Int) (i j : Nat) : Rat := Rat.divInt (S j - S i) ((j - i : Nat) : Int)
theorem slp_mul {S : Nat → Int} {i j : Nat} (h : i < j) : slp S i j * ((j - i : Nat) : Rat) = (S j : Rat) - (S i : Rat) := by
  unfold slp
  have hd : ((j - i : Nat) : Rat) ≠ 0 := by
    have := natR_pos (show 0 < j - i by omega)
    grind
  rw [Rat.divInt_eq_div]
  have e : (((j - i : Nat) : Int) : Rat) = ((j - i : Nat) : Rat) := rfl
  rw [e, Rat.div_mul_cancel hd, Rat.intCast_sub]
theorem c_over (h : Has T [0, 1, 7, 8, 10, 12, 13, 55, 57, 1000]) (hn : 4 ≤ n) (h1 : 1 ≤ a.length) (h2 : a.length ≤ 6) (hl : a.length = b.length) (hS : ∀ k, (mx a b k).natAbs < 2 ^ 300) :
    callN T n 57 [Li a, Li b] = .val .non ∧ a.sum ≠ b.sum ∨ a.sum = b.sum ∧ ∃ l : List Rat, callN T n 57 [Li a, Li b] = .val (Lp l) ∧ l.length = a.length ∧ Wr (fun k => (mx a b k : Rat)) a.length l ∧ ∀ q ∈ l, Bq 60 (2 ^ 301) q := by
  obtain ⟨m, rfl⟩ : ∃ m, n = m + 4 := ⟨n - 4, by omega⟩
  have e0 := c_asked_two (n := m + 3) (h.sub [8, 10, 55, 1000] (by decide)) (by omega) h1 h2 hl
  have e1 := c_greatest_of (n := m + 3) (h.sub [12, 13] (by decide)) (by omega) h2
  have e2 := c_greatest_of (n := m + 3) (ns := b) (h.sub [12, 13] (by decide)) (by omega) (by omega)
  have ez : (((gs a).zip (gs b)).map fun p => W.int (if p.1 < p.2 then p.2 else p.1)) = (List.range (a.length + 1)).map fun k => W.int (mx a b k) := by
    have := congrArg (List.map W.int) (gs_zip hl fun x y => if x < y then y else x)
    rw [List.map_map, List.map_map] at this
    exact this
  by_cases hs : a.sum = b.sum
  · refine Or.inr ⟨hs, ?_⟩
    -- the last state
    refine RetTo.call (h.is 57 (by decide)) rfl ?_
    show RetTo _ _ (exL (callN T (m + 3)) T.cs ir_over_both [some (Li a), some (Li b), none, none, none, none, none, none, none])
    simp [e_var, ev_cst, e_gci, ev_op, ev_tup, ev_lst, ev_call, ev_and, ev_or, e_not, e_ifx, e_and1, e_and2, e_or1, e_or2, e_chain, e_chain3, e_comp, evs_nil, es_cons, e_flat, i_lst, i_rng1, i_rng2, i_zip, i_enum, s_asg, s_app, s_ifs, s_ret, s_retV, s_exp, s_rai, s_pas, s_brk, s_asgT, s_unp, s_setT, s_appK, exL_nil, exL_kil, exL_frz, opS, addS, subS, mulS, fdivS, modS, powS, negS, eqS, neS, ltS, leS, gtS, geS, lenS, sumS, absS, max1S, min1S, max2S, min2S, all1S, any1S, int1S, isiS, isiT, isNS, notNS, isBS, notBS, W.isNon, ixS_lst, ixS_tup, catS, repS, slcAS, slcBS, revS, sortedS, listS, rngLS, flIf, startW, ints_map, bls_map, eqW_Li, neW_Li, eqW_int, neW_int, W.isFlat, W.isFlats, wipeW, tgS, setAll, stosW_nil, stosW_cons, stoW_1, stoW_2, isinS, notinS, ir_over_both, e0, e1, e2, hs, zipW_map, ez]
    refine loopWC (RetTo _ _) (fun l : List Rat => [some (Li a), some (Li b), some (W.lst (List.map (fun k => W.int (mx a b k)) (List.range (a.length + 1)))), some (Lp l), some (W.int (l.length : Nat)), none, none, none, none])
      (fun l => Wr (fun k => (mx a b k : Rat)) a.length l ∧ ∀ q ∈ l, Bq 60 (2 ^ 301) q) (fun l => a.length - l.length) (fun l => decide (l.length < a.length)) [] rfl ⟨Wr.nil ?_, fun q hq => (nomatch hq)⟩ ?_ ?_ ?_ ?_
    · simp [mx, gk]
    · simp; omega
    · intro l p
      simp [e_var, ev_cst, e_gci, ev_op, ev_tup, ev_lst, ev_call, ev_and, ev_or, e_not, e_ifx, e_and1, e_and2, e_or1, e_or2, e_chain, e_chain3, e_comp, evs_nil, es_cons, e_flat, i_lst, i_rng1, i_rng2, i_zip, i_enum, s_asg, s_app, s_ifs, s_ret, s_retV, s_exp, s_rai, s_pas, s_brk, s_asgT, s_unp, s_setT, s_appK, exL_nil, exL_kil, exL_frz, opS, addS, subS, mulS, fdivS, modS, powS, negS, eqS, neS, ltS, leS, gtS, geS, lenS, sumS, absS, max1S, min1S, max2S, min2S, all1S, any1S, int1S, isiS, isiT, isNS, notNS, isBS, notBS, W.isNon, ixS_lst, ixS_tup, catS, repS, slcAS, slcBS, revS, sortedS, listS, rngLS, flIf, startW, ints_map, bls_map, eqW_Li, neW_Li, eqW_int, neW_int, W.isFlat, W.isFlats, wipeW, tgS, setAll, stosW_nil, stosW_cons, stoW_1, stoW_2, isinS, notinS]
    · intro l ⟨p, pq⟩ hb
      simp at hb
      have hat : ∀ j, j ≤ a.length → atI (List.map (fun k => W.int (mx a b k)) (List.range (a.length + 1))) (j : Int) = some (.int (mx a b j)) := fun j hj => at_range _ (by omega)
      have hsl : ∀ j, l.length < j → j ≤ a.length → callN T (m + 3) 1 [.int (mx a b j - mx a b l.length), .int ((j : Int) - (l.length : Int))] = .val (pt (slp (mx a b) l.length j)) := fun j h3 h4 => by
        have e : (j : Int) - (l.length : Int) = ((j - l.length : Nat) : Int) := by omega
        rw [e]
        exact c_lowest (h.sub [0, 1] (by decide)) (by omega) _ (by omega) (by rw [Int.natAbs_natCast]; exact Nat.lt_of_lt_of_le (show j - l.length < 2 ^ 10 by omega) (Nat.pow_le_pow_right (by decide) (by decide)))
      have hbd : ∀ j, l.length < j → j ≤ a.length → Bd (slp (mx a b) l.length j) 4000 := fun j h3 h4 => by
        refine Bd_divInt (by omega) (Nat.lt_of_lt_of_le (show j - l.length < 2 ^ 10 by omega) (Nat.pow_le_pow_right (by decide) (by decide))) ?_
        have q := nb_add (hS j) (b := -(mx a b l.length)) (by rw [Int.natAbs_neg]; exact hS _)
        rw [← Int.sub_eq_add_neg] at q
        exact nb_mono q (by decide)
      have hfl : ∀ j, l.length < j → j ≤ a.length → ∀ k, l.length < k → k ≤ a.length → callN T (m + 3) 7 [pt (slp (mx a b) l.length j), pt (slp (mx a b) l.length k)] = .val (.bl (decide (slp (mx a b) l.length j < slp (mx a b) l.length k))) := fun j h3 h4 k h5 h6 =>
        c_isless (h.sub [7] (by decide)) (by omega) (hbd j h3 h4) (hbd k h5 h6)
      simp [e_var, ev_cst, e_gci, ev_op, ev_tup, ev_lst, ev_call, ev_and, ev_or, e_not, e_ifx, e_and1, e_and2, e_or1, e_or2, e_chain, e_chain3, e_comp, evs_nil, es_cons, e_flat, i_lst, i_rng1, i_rng2, i_zip, i_enum, s_asg, s_app, s_ifs, s_ret, s_retV, s_exp, s_rai, s_pas, s_brk, s_asgT, s_unp, s_setT, s_appK, exL_nil, exL_kil, exL_frz, opS, addS, subS, mulS, fdivS, modS, powS, negS, eqS, neS, ltS, leS, gtS, geS, lenS, sumS, absS, max1S, min1S, max2S, min2S, all1S, any1S, int1S, isiS, isiT, isNS, notNS, isBS, notBS, W.isNon, ixS_lst, ixS_tup, catS, repS, slcAS, slcBS, revS, sortedS, listS, rngLS, flIf, startW, ints_map, bls_map, eqW_Li, neW_Li, eqW_int, neW_int, W.isFlat, W.isFlats, wipeW, tgS, setAll, stosW_nil, stosW_cons, stoW_1, stoW_2, isinS, notinS]
      have pl := p.len
      refine loop1C (i := 6) (GoTo0 _ _)
        (List.range' (l.length + 2) (a.length + 1 - (l.length + 2))) (fun (i : Nat) => W.int (i : Int))
        (fun (far : Nat) => [some (Li a), some (Li b), some (W.lst (List.map (fun k => W.int (mx a b k)) (List.range (a.length + 1)))), some (Lp l), some (W.int (l.length : Nat)), some (W.int (far : Int)), none, none, none])
        (fun pre far => l.length < far ∧ far ≤ a.length ∧ slp (mx a b) l.length (l.length + 1) ≤ slp (mx a b) l.length far ∧ ∀ j ∈ pre, slp (mx a b) l.length j ≤ slp (mx a b) l.length far) (l.length + 1) ?_ rfl ?_ ?_ (fun _ => rfl) ?_
      · have e : (l.length : Int) + 2 = ((l.length + 2 : Nat) : Int) := by omega
        have e' : (a.length : Int) + 1 = ((a.length + 1 : Nat) : Int) := by omega
        simp [e_var, ev_cst, e_gci, ev_op, ev_tup, ev_lst, ev_call, ev_and, ev_or, e_not, e_ifx, e_and1, e_and2, e_or1, e_or2, e_chain, e_chain3, e_comp, evs_nil, es_cons, e_flat, i_lst, i_rng1, i_rng2, i_zip, i_enum, s_asg, s_app, s_ifs, s_ret, s_retV, s_exp, s_rai, s_pas, s_brk, s_asgT, s_unp, s_setT, s_appK, exL_nil, exL_kil, exL_frz, opS, addS, subS, mulS, fdivS, modS, powS, negS, eqS, neS, ltS, leS, gtS, geS, lenS, sumS, absS, max1S, min1S, max2S, min2S, all1S, any1S, int1S, isiS, isiT, isNS, notNS, isBS, notBS, W.isNon, ixS_lst, ixS_tup, catS, repS, slcAS, slcBS, revS, sortedS, listS, rngLS, flIf, startW, ints_map, bls_map, eqW_Li, neW_Li, eqW_int, neW_int, W.isFlat, W.isFlats, wipeW, tgS, setAll, stosW_nil, stosW_cons, stoW_1, stoW_2, isinS, notinS]
        rw [e, e', rng_nat2 _ _ (by omega) (by omega), show a.length + 1 - (l.length + 2) = a.length - (l.length + 1) by omega]
      · exact ⟨by omega, by omega, Rat.le_refl, fun j hj => nomatch hj⟩
      · intro pre x post far e ⟨f1, f2, f3, f4⟩
        have hx : x ∈ List.range' (l.length + 2) (a.length + 1 - (l.length + 2)) := by rw [e]; simp
        rw [List.mem_range'_1] at hx
        have c1 := hat x (by omega)
        have c2 := hat l.length (by omega)
        have c3 := hat far (by omega)
        have c4 := hsl x (by omega) (by omega)
        have c5 := hsl far (by omega) (by omega)
        have c6 := hfl x (by omega) (by omega) far (by omega) (by omega)
        by_cases hlt : slp (mx a b) l.length x < slp (mx a b) l.length far
        · refine ⟨far, some (.int (x : Int)), ?_, f1, f2, f3, fun j hj => ?_⟩
          · simp [e_var, ev_cst, e_gci, ev_op, ev_tup, ev_lst, ev_call, ev_and, ev_or, e_not, e_ifx, e_and1, e_and2, e_or1, e_or2, e_chain, e_chain3, e_comp, evs_nil, es_cons, e_flat, i_lst, i_rng1, i_rng2, i_zip, i_enum, s_asg, s_app, s_ifs, s_ret, s_retV, s_exp, s_rai, s_pas, s_brk, s_asgT, s_unp, s_setT, s_appK, exL_nil, exL_kil, exL_frz, opS, addS, subS, mulS, fdivS, modS, powS, negS, eqS, neS, ltS, leS, gtS, geS, lenS, sumS, absS, max1S, min1S, max2S, min2S, all1S, any1S, int1S, isiS, isiT, isNS, notNS, isBS, notBS, W.isNon, ixS_lst, ixS_tup, catS, repS, slcAS, slcBS, revS, sortedS, listS, rngLS, flIf, startW, ints_map, bls_map, eqW_Li, neW_Li, eqW_int, neW_int, W.isFlat, W.isFlats, wipeW, tgS, setAll, stosW_nil, stosW_cons, stoW_1, stoW_2, isinS, notinS, c1, c2, c3, c4, c5, c6, hlt]
          · rcases List.mem_append.mp hj with hj | hj
            · exact f4 j hj
            · rw [List.mem_singleton.mp hj]
              exact Rat.le_of_lt hlt
        · have hge : slp (mx a b) l.length far ≤ slp (mx a b) l.length x := Rat.not_lt.mp hlt
          refine ⟨x, some (.int (x : Int)), ?_, by omega, by omega, Rat.le_trans f3 hge, fun j hj => ?_⟩
          · simp [e_var, ev_cst, e_gci, ev_op, ev_tup, ev_lst, ev_call, ev_and, ev_or, e_not, e_ifx, e_and1, e_and2, e_or1, e_or2, e_chain, e_chain3, e_comp, evs_nil, es_cons, e_flat, i_lst, i_rng1, i_rng2, i_zip, i_enum, s_asg, s_app, s_ifs, s_ret, s_retV, s_exp, s_rai, s_pas, s_brk, s_asgT, s_unp, s_setT, s_appK, exL_nil, exL_kil, exL_frz, opS, addS, subS, mulS, fdivS, modS, powS, negS, eqS, neS, ltS, leS, gtS, geS, lenS, sumS, absS, max1S, min1S, max2S, min2S, all1S, any1S, int1S, isiS, isiT, isNS, notNS, isBS, notBS, W.isNon, ixS_lst, ixS_tup, catS, repS, slcAS, slcBS, revS, sortedS, listS, rngLS, flIf, startW, ints_map, bls_map, eqW_Li, neW_Li, eqW_int, neW_int, W.isFlat, W.isFlats, wipeW, tgS, setAll, stosW_nil, stosW_cons, stoW_1, stoW_2, isinS, notinS, c1, c2, c3, c4, c5, c6, hlt]
          · rcases List.mem_append.mp hj with hj | hj
            · exact Rat.le_trans (f4 j hj) hge
            · rw [List.mem_singleton.mp hj]
              exact Rat.le_refl
      · intro far o ⟨f1, f2, f3, f4⟩
        have c2 := hat l.length (by omega)
        have c3 := hat far (by omega)
        have c5 := hsl far (by omega) (by omega)
        have emul : ∀ j, l.length < j → slp (mx a b) l.length j * ((j - l.length : Nat) : Rat) = (mx a b j : Rat) - (mx a b l.length : Rat) := fun j hj => slp_mul hj
        refine ⟨l ++ List.replicate (far - l.length) (slp (mx a b) l.length far), ?_, ⟨p.step f1 f2 (by rw [emul far f1]) fun j h3 h4 => ?_, fun q hq => ?_⟩, ?_⟩
        · have e : (far : Int) - (l.length : Int) = ((far - l.length : Nat) : Int) := by omega
          have e3 : ((far : Int) - (l.length : Int)).toNat = far - l.length := by omega
          have e4 : (far : Int) - (l.length : Int) ≤ 1000000 := by omega
          have e5 : (-1000000 : Int) ≤ (far : Int) - (l.length : Int) := by omega
          have e6 : l.length + (far - l.length) = far := by omega
          have e7 : far - l.length ≤ LIM := by show _ ≤ 100000; omega
          have e8 : far ≤ LIM := by show _ ≤ 100000; omega
          have e9 : (List.replicate (far - l.length) [pt (slp (mx a b) l.length far)]).flatten = (List.replicate (far - l.length) (slp (mx a b) l.length far)).map pt := by simp [List.flatten_replicate_singleton]
          have e10 : W.isFlats (l.map pt ++ List.replicate (far - l.length) (pt (slp (mx a b) l.length far))) = true := by
            have := flats_pts (l ++ List.replicate (far - l.length) (slp (mx a b) l.length far))
            rwa [List.map_append, List.map_replicate] at this
          simp [e_var, ev_cst, e_gci, ev_op, ev_tup, ev_lst, ev_call, ev_and, ev_or, e_not, e_ifx, e_and1, e_and2, e_or1, e_or2, e_chain, e_chain3, e_comp, evs_nil, es_cons, e_flat, i_lst, i_rng1, i_rng2, i_zip, i_enum, s_asg, s_app, s_ifs, s_ret, s_retV, s_exp, s_rai, s_pas, s_brk, s_asgT, s_unp, s_setT, s_appK, exL_nil, exL_kil, exL_frz, opS, addS, subS, mulS, fdivS, modS, powS, negS, eqS, neS, ltS, leS, gtS, geS, lenS, sumS, absS, max1S, min1S, max2S, min2S, all1S, any1S, int1S, isiS, isiT, isNS, notNS, isBS, notBS, W.isNon, ixS_lst, ixS_tup, catS, repS, slcAS, slcBS, revS, sortedS, listS, rngLS, flIf, startW, ints_map, bls_map, eqW_Li, neW_Li, eqW_int, neW_int, W.isFlat, W.isFlats, wipeW, tgS, setAll, stosW_nil, stosW_cons, stoW_1, stoW_2, isinS, notinS, Lp, c2, c3, c5, e3, e4, e5, e6, e7, e8, e9, e10]
        · have hle : slp (mx a b) l.length j ≤ slp (mx a b) l.length far := by
            by_cases hj : j = l.length + 1
            · rw [hj]; exact f3
            · exact f4 j (by rw [List.mem_range'_1]; omega)
          have := Rat.mul_le_mul_of_nonneg_right hle (c := ((j - l.length : Nat) : Rat)) Rat.natCast_nonneg
          rw [emul j h3] at this
          exact this
        · rcases List.mem_append.mp hq with hq | hq
          · exact pq q hq
          · rw [(List.mem_replicate.mp hq).2]
            have hz : (mx a b far - mx a b l.length).natAbs < 2 ^ 301 := by
              have q := nb_add (hS far) (b := -(mx a b l.length)) (by rw [Int.natAbs_neg]; exact hS _)
              rw [← Int.sub_eq_add_neg] at q
              exact q
            have hb0 : Bq (far - l.length) (2 ^ 301) (slp (mx a b) l.length far) := ⟨mx a b far - mx a b l.length, by rw [emul far f1, Rat.intCast_sub], Nat.le_trans (Nat.le_of_lt hz) (Nat.le_mul_of_pos_right _ (by omega))⟩
            refine hb0.den ?_
            have hc : ∀ k, k < 7 → 0 < k → k ∣ 60 := by decide
            exact hc _ (by omega) (by omega)
        · rw [List.length_append, List.length_replicate]
          omega
    · intro l ⟨p, pq⟩ hb
      simp at hb
      have := p.len
      refine ⟨l, ?_, by omega, p, pq⟩
      simp [e_var, ev_cst, e_gci, ev_op, ev_tup, ev_lst, ev_call, ev_and, ev_or, e_not, e_ifx, e_and1, e_and2, e_or1, e_or2, e_chain, e_chain3, e_comp, evs_nil, es_cons, e_flat, i_lst, i_rng1, i_rng2, i_zip, i_enum, s_asg, s_app, s_ifs, s_ret, s_retV, s_exp, s_rai, s_pas, s_brk, s_asgT, s_unp, s_setT, s_appK, exL_nil, exL_kil, exL_frz, opS, addS, subS, mulS, fdivS, modS, powS, negS, eqS, neS, ltS, leS, gtS, geS, lenS, sumS, absS, max1S, min1S, max2S, min2S, all1S, any1S, int1S, isiS, isiT, isNS, notNS, isBS, notBS, W.isNon, ixS_lst, ixS_tup, catS, repS, slcAS, slcBS, revS, sortedS, listS, rngLS, flIf, startW, ints_map, bls_map, eqW_Li, neW_Li, eqW_int, neW_int, W.isFlat, W.isFlats, wipeW, tgS, setAll, stosW_nil, stosW_cons, stoW_1, stoW_2, isinS, notinS]
  · refine Or.inl ⟨Is.rt (h.is 57 (by decide)) rfl ?_, hs⟩
    show exL (callN T (m + 3)) T.cs ir_over_both [some (Li a), some (Li b), none, none, none, none, none, none, none] = _
    simp [e_var, ev_cst, e_gci, ev_op, ev_tup, ev_lst, ev_call, ev_and, ev_or, e_not, e_ifx, e_and1, e_and2, e_or1, e_or2, e_chain, e_chain3, e_comp, evs_nil, es_cons, e_flat, i_lst, i_rng1, i_rng2, i_zip, i_enum, s_asg, s_app, s_ifs, s_ret, s_retV, s_exp, s_rai, s_pas, s_brk, s_asgT, s_unp, s_setT, s_appK, exL_nil, exL_kil, exL_frz, opS, addS, subS, mulS, fdivS, modS, powS, negS, eqS, neS, ltS, leS, gtS, geS, lenS, sumS, absS, max1S, min1S, max2S, min2S, all1S, any1S, int1S, isiS, isiT, isNS, notNS, isBS, notBS, W.isNon, ixS_lst, ixS_tup, catS, repS, slcAS, slcBS, revS, sortedS, listS, rngLS, flIf, startW, ints_map, bls_map, eqW_Li, neW_Li, eqW_int, neW_int, W.isFlat, W.isFlats, wipeW, tgS, setAll, stosW_nil, stosW_cons, stoW_1, stoW_2, isinS, notinS, ir_over_both, e0, e1, e2, hs]
end
end Mx
/-! # Mx31: equality of plain things, by how they are written down; parts, as the laws ask them -/
namespace Mx
open PySem L2
/-- f writes things down so that alike ones are the same -/
structure Enc {α : Type} [DecidableEq α] (f : α → W) (d : Nat) (p : α → PyData) : Prop where
  py : ∀ a, (f a).py = some (p a)
  can : ∀ a, (p a).canLay0 = true
  dep : ∀ a, (p a).depth ≤ d
  eq : ∀ a b, PyData.eqv (p a) (p b) = decide (a = b)
section
variable {α β : Type} [DecidableEq α] [DecidableEq β] {f : α → W} {g : β → W} {d e : Nat} {p : α → PyData} {q : β → PyData}
theorem Enc.shaped (h : Enc f d p) (hd : d ≤ 64) (a : α) : SeqAt.shaped (p a) = true := by
  unfold SeqAt.shaped
  have := h.dep a
  simp [h.can a]
  omega
theorem Enc.eqW (h : Enc f d p) (hd : d ≤ 64) (a b : α) : eqW (f a) (f b) = .val (.bl (decide (a = b))) := by
  unfold Mx.eqW
  rw [h.py, h.py]
  simp [h.shaped hd, h.eq]
theorem Enc.neW (h : Enc f d p) (hd : d ≤ 64) (a b : α) : neW (f a) (f b) = .val (.bl (!decide (a = b))) := by
  unfold Mx.neW
  rw [h.py, h.py]
  simp [h.shaped hd, h.eq]
theorem Enc.int : Enc W.int 0 PyData.int := ⟨fun a => by simp [W.py], fun a => by simp [PyData.canLay0], fun a => by simp [PyData.depth], fun a b => by simp [PyData.eqv]; by_cases h : a = b <;> simp [h]⟩
theorem Enc.pys (h : Enc f d p) : ∀ l : List α, W.pys (l.map f) = some (l.map p)
  | [] => rfl
  | x :: l => by
    rw [List.map_cons]
    unfold W.pys
    rw [h.py, Enc.pys h l]
    rfl
theorem Enc.cans (h : Enc f d p) : ∀ l : List α, PyData.canLayAll0 (l.map p) = true
  | [] => by simp [PyData.canLayAll0]
  | x :: l => by simp [PyData.canLayAll0, h.can x, Enc.cans h l]
theorem Enc.deps (h : Enc f d p) : ∀ l : List α, PyData.depthAll (l.map p) ≤ d
  | [] => by simp [PyData.depthAll]
  | x :: l => by
    have h1 := h.dep x
    have h2 := Enc.deps h l
    simp [PyData.depthAll]
    omega
theorem Enc.eqs (h : Enc f d p) : ∀ l m : List α, PyData.eqvAll (l.map p) (m.map p) = decide (l = m)
  | [], [] => by simp [PyData.eqvAll]
  | [], b :: bs => by simp [PyData.eqvAll]
  | a :: as, [] => by simp [PyData.eqvAll]
  | a :: as, b :: bs => by
    simp only [List.map_cons, PyData.eqvAll, h.eq, Enc.eqs h as bs]
    by_cases h1 : a = b <;> by_cases h2 : as = bs <;> simp [h1, h2]
theorem Enc.lst (h : Enc f d p) : Enc (fun l : List α => W.lst (l.map f)) (d + 1) (fun l => .list (l.map p)) := by
  refine ⟨fun l => ?_, fun l => ?_, fun l => ?_, fun l m => ?_⟩
  · unfold W.py
    rw [h.pys]
    rfl
  · simp [PyData.canLay0, h.cans]
  · have := h.deps l
    simp [PyData.depth]
    omega
  · simp [PyData.eqv, h.eqs]
theorem Enc.pair (h : Enc f d p) (k : Enc g e q) : Enc (fun x : α × β => W.tup [f x.1, g x.2]) (max d e + 1) (fun x => .tuple [p x.1, q x.2]) := by
  refine ⟨fun l => ?_, fun l => ?_, fun l => ?_, fun l m => ?_⟩
  · simp [W.py, W.pys, h.py, k.py]
  · simp [PyData.canLay0, PyData.canLayAll0, h.can, k.can]
  · have h1 := h.dep l.1
    have h2 := k.dep l.2
    simp [PyData.depth, PyData.depthAll]
    omega
  · obtain ⟨a, b⟩ := l
    obtain ⟨a', b'⟩ := m
    simp [PyData.eqv, PyData.eqvAll, h.eq, k.eq]
theorem Enc.pt : Enc pt 1 (fun x => .tuple [.int x.num, .int x.den]) := by
  have h := Enc.pair Enc.int Enc.int
  refine ⟨fun x => h.py (x.num, (x.den : Int)), fun x => h.can (x.num, (x.den : Int)), fun x => h.dep (x.num, (x.den : Int)), fun x y => ?_⟩
  rw [h.eq (x.num, (x.den : Int)) (y.num, (y.den : Int))]
  congr 1
  rw [Prod.mk.injEq, eq_iff_iff]
  constructor
  · intro ⟨h1, h2⟩
    exact Rat.ext h1 (by exact_mod_cast h2)
  · intro h; subst h; exact ⟨rfl, rfl⟩
end
theorem eqW_pt (a b : Rat) : eqW (pt a) (pt b) = .val (.bl (decide (a = b))) := Enc.pt.eqW (by decide) a b
theorem eqW_Lp (a b : List Rat) : eqW (Lp a) (Lp b) = .val (.bl (decide (a = b))) := Enc.pt.lst.eqW (by decide) a b
theorem neW_Lp (a b : List Rat) : neW (Lp a) (Lp b) = .val (.bl (!decide (a = b))) := Enc.pt.lst.neW (by decide) a b
theorem eqW_Lt (a b : List (List Rat)) : eqW (Lt a) (Lt b) = .val (.bl (decide (a = b))) := Enc.pt.lst.lst.eqW (by decide) a b
theorem neW_Lt (a b : List (List Rat)) : neW (Lt a) (Lt b) = .val (.bl (!decide (a = b))) := Enc.pt.lst.lst.neW (by decide) a b
theorem neW_Lli (a b : List (List Int)) : neW (.lst (a.map Li)) (.lst (b.map Li)) = .val (.bl (!decide (a = b))) := Enc.int.lst.lst.neW (by decide) a b
theorem eqW_Lli (a b : List (List Int)) : eqW (.lst (a.map Li)) (.lst (b.map Li)) = .val (.bl (decide (a = b))) := Enc.int.lst.lst.eqW (by decide) a b
section
variable {T : Tb} {n : Nat} {D M : Nat}
theorem c_law_whole (h : Has T [74]) (hn : 1 ≤ n) (z : Int) : callN T n 74 [.int z] = .val (.bl true) := by
  refine up hn fun m => Is.rt h.1 rfl ?_
  show exL (callN T m) T.cs ir__law_whole [some (.int z)] = _
  simp [e_var, ev_cst, e_gci, ev_op, ev_tup, ev_lst, ev_call, ev_and, ev_or, e_not, e_ifx, e_and1, e_and2, e_or1, e_or2, e_chain, e_chain3, e_comp, evs_nil, es_cons, e_flat, i_lst, i_rng1, i_rng2, i_zip, i_enum, s_asg, s_app, s_ifs, s_ret, s_retV, s_exp, s_rai, s_pas, s_brk, s_asgT, s_unp, s_setT, s_appK, exL_nil, exL_kil, exL_frz, opS, addS, subS, mulS, fdivS, modS, powS, negS, eqS, neS, ltS, leS, gtS, geS, lenS, sumS, absS, max1S, min1S, max2S, min2S, all1S, any1S, int1S, isiS, isiT, isNS, notNS, isBS, notBS, W.isNon, ixS_lst, ixS_tup, catS, repS, slcAS, slcBS, revS, sortedS, listS, rngLS, flIf, startW, ints_map, bls_map, eqW_Li, neW_Li, eqW_int, neW_int, W.isFlat, W.isFlats, wipeW, tgS, setAll, stosW_nil, stosW_cons, stoW_1, stoW_2, isinS, notinS, ir__law_whole]
theorem pt_num_den (q : Rat) : Rat.divInt q.num (q.den : Int) = q := Rat.num_divInt_den q
theorem c_is_part (h : Has T [73, 74, 75]) (hn : 2 ≤ n) {q : Rat} (hq : Bd q 4000) : callN T n 75 [pt q] = .val (.bl true) := by
  refine up hn fun m => Is.rt h.2.2.1 rfl ?_
  show exL (callN T (m + 1)) T.cs ir__law_is_part [some (pt q)] = _
  have hd := q.den_pos
  have e := c_lawlow (n := m + 1) (h.sub [73] (by decide)) (by omega) q.num (b := (q.den : Int)) (by omega) (by rw [Int.natAbs_natCast]; exact Nat.lt_of_lt_of_le hq.2 (Nat.pow_le_pow_right (by decide) (by decide)))
  rw [pt_num_den] at e
  have w1 := c_law_whole (n := m + 1) (h.sub [74] (by decide)) (by omega) q.num
  have w2 := c_law_whole (n := m + 1) (h.sub [74] (by decide)) (by omega) (q.den : Int)
  have eq := eqW_pt q q
  unfold pt at e eq ⊢
  simp [e_var, ev_cst, e_gci, ev_op, ev_tup, ev_lst, ev_call, ev_and, ev_or, e_not, e_ifx, e_and1, e_and2, e_or1, e_or2, e_chain, e_chain3, e_comp, evs_nil, es_cons, e_flat, i_lst, i_rng1, i_rng2, i_zip, i_enum, s_asg, s_app, s_ifs, s_ret, s_retV, s_exp, s_rai, s_pas, s_brk, s_asgT, s_unp, s_setT, s_appK, exL_nil, exL_kil, exL_frz, opS, addS, subS, mulS, fdivS, modS, powS, negS, eqS, neS, ltS, leS, gtS, geS, lenS, sumS, absS, max1S, min1S, max2S, min2S, all1S, any1S, int1S, isiS, isiT, isNS, notNS, isBS, notBS, W.isNon, ixS_lst, ixS_tup, catS, repS, slcAS, slcBS, revS, sortedS, listS, rngLS, flIf, startW, ints_map, bls_map, eqW_Li, neW_Li, eqW_int, neW_int, W.isFlat, W.isFlats, wipeW, tgS, setAll, stosW_nil, stosW_cons, stoW_1, stoW_2, isinS, notinS, ir__law_is_part, at_0, at_1, w1, w2, e, eq, hd]
theorem c_law_sum (h : Has T [73, 76]) (hn : 2 ≤ n) {l : List Rat} (hb : ∀ q ∈ l, Bq D M q) (hs : Sz D (l.length * M + M)) : callN T n 76 [Lp l] = .val (pt l.sum) := by
  refine up hn fun m => Is.rt h.2.1 rfl ?_
  show exL (callN T (m + 1)) T.cs ir__law_sum [some (Lp l), none, none, none] = _
  simp [e_var, ev_cst, e_gci, ev_op, ev_tup, ev_lst, ev_call, ev_and, ev_or, e_not, e_ifx, e_and1, e_and2, e_or1, e_or2, e_chain, e_chain3, e_comp, evs_nil, es_cons, e_flat, i_lst, i_rng1, i_rng2, i_zip, i_enum, s_asg, s_app, s_ifs, s_ret, s_retV, s_exp, s_rai, s_pas, s_brk, s_asgT, s_unp, s_setT, s_appK, exL_nil, exL_kil, exL_frz, opS, addS, subS, mulS, fdivS, modS, powS, negS, eqS, neS, ltS, leS, gtS, geS, lenS, sumS, absS, max1S, min1S, max2S, min2S, all1S, any1S, int1S, isiS, isiT, isNS, notNS, isBS, notBS, W.isNon, ixS_lst, ixS_tup, catS, repS, slcAS, slcBS, revS, sortedS, listS, rngLS, flIf, startW, ints_map, bls_map, eqW_Li, neW_Li, eqW_int, neW_int, W.isFlat, W.isFlats, wipeW, tgS, setAll, stosW_nil, stosW_cons, stoW_1, stoW_2, isinS, notinS, ir__law_sum]
  refine loop1 l pt (fun (a : Rat) => [some (Lp l), none, some (.int a.num), some (.int a.den)]) (fun pre a => a = pre.sum) 0 (by simp [e_var, ev_cst, e_gci, ev_op, ev_tup, ev_lst, ev_call, ev_and, ev_or, e_not, e_ifx, e_and1, e_and2, e_or1, e_or2, e_chain, e_chain3, e_comp, evs_nil, es_cons, e_flat, i_lst, i_rng1, i_rng2, i_zip, i_enum, s_asg, s_app, s_ifs, s_ret, s_retV, s_exp, s_rai, s_pas, s_brk, s_asgT, s_unp, s_setT, s_appK, exL_nil, exL_kil, exL_frz, opS, addS, subS, mulS, fdivS, modS, powS, negS, eqS, neS, ltS, leS, gtS, geS, lenS, sumS, absS, max1S, min1S, max2S, min2S, all1S, any1S, int1S, isiS, isiT, isNS, notNS, isBS, notBS, W.isNon, ixS_lst, ixS_tup, catS, repS, slcAS, slcBS, revS, sortedS, listS, rngLS, flIf, startW, ints_map, bls_map, eqW_Li, neW_Li, eqW_int, neW_int, W.isFlat, W.isFlats, wipeW, tgS, setAll, stosW_nil, stosW_cons, stoW_1, stoW_2, isinS, notinS]) rfl rfl ?_ (fun _ => rfl) ?_
  · intro pre x post a e p
    have hx : Bd x 4000 := (hs.mono (by omega)).bd (hb x (by rw [e]; simp))
    have hp : Bd a 4000 := by
      rw [p]
      have := Bq.sum (l := pre) fun q hq => hb q (by rw [e]; simp [hq])
      refine (hs.mono ?_).bd this
      rw [e, List.length_append]
      have := Nat.mul_le_mul_right M (show pre.length ≤ pre.length + (x :: post).length by omega)
      omega
    obtain ⟨m1, m2, m3, m4⟩ := hp.mulOk hx (by decide)
    obtain ⟨w1, w2, w3, w4⟩ := hx.mulOk hp (by decide)
    have hd := a.den_pos
    have hd2 := x.den_pos
    have hc := c_lawlow (n := m + 1) (h.sub [73] (by decide)) (by omega) (a.num * x.den + x.num * a.den) (b := (a.den : Int) * (x.den : Int)) (Int.mul_pos (by omega) (by omega)) (Nat.lt_of_lt_of_le (hp.den hx) (Nat.pow_le_pow_right (by decide) (by decide)))
    rw [← add_eq] at hc
    refine ⟨a + x, some (pt x), ?_, ?_⟩
    · unfold pt at hc ⊢
      simp [e_var, ev_cst, e_gci, ev_op, ev_tup, ev_lst, ev_call, ev_and, ev_or, e_not, e_ifx, e_and1, e_and2, e_or1, e_or2, e_chain, e_chain3, e_comp, evs_nil, es_cons, e_flat, i_lst, i_rng1, i_rng2, i_zip, i_enum, s_asg, s_app, s_ifs, s_ret, s_retV, s_exp, s_rai, s_pas, s_brk, s_asgT, s_unp, s_setT, s_appK, exL_nil, exL_kil, exL_frz, opS, addS, subS, mulS, fdivS, modS, powS, negS, eqS, neS, ltS, leS, gtS, geS, lenS, sumS, absS, max1S, min1S, max2S, min2S, all1S, any1S, int1S, isiS, isiT, isNS, notNS, isBS, notBS, W.isNon, ixS_lst, ixS_tup, catS, repS, slcAS, slcBS, revS, sortedS, listS, rngLS, flIf, startW, ints_map, bls_map, eqW_Li, neW_Li, eqW_int, neW_int, W.isFlat, W.isFlats, wipeW, tgS, setAll, stosW_nil, stosW_cons, stoW_1, stoW_2, isinS, notinS, at_0, at_1, m1, m2, m3, m4, w1, w2, w3, w4, hc]
    · rw [p, rsum_append]
      simp [Rat.add_zero]
  · intro a o p
    subst p
    simp [e_var, ev_cst, e_gci, ev_op, ev_tup, ev_lst, ev_call, ev_and, ev_or, e_not, e_ifx, e_and1, e_and2, e_or1, e_or2, e_chain, e_chain3, e_comp, evs_nil, es_cons, e_flat, i_lst, i_rng1, i_rng2, i_zip, i_enum, s_asg, s_app, s_ifs, s_ret, s_retV, s_exp, s_rai, s_pas, s_brk, s_asgT, s_unp, s_setT, s_appK, exL_nil, exL_kil, exL_frz, opS, addS, subS, mulS, fdivS, modS, powS, negS, eqS, neS, ltS, leS, gtS, geS, lenS, sumS, absS, max1S, min1S, max2S, min2S, all1S, any1S, int1S, isiS, isiT, isNS, notNS, isBS, notBS, W.isNon, ixS_lst, ixS_tup, catS, repS, slcAS, slcBS, revS, sortedS, listS, rngLS, flIf, startW, ints_map, bls_map, eqW_Li, neW_Li, eqW_int, neW_int, W.isFlat, W.isFlats, wipeW, tgS, setAll, stosW_nil, stosW_cons, stoW_1, stoW_2, isinS, notinS, pt]
end
end Mx
/-! # Mx32: plain: sums of the greatest never bend up; the row under two -/
namespace Mx
open PySem L2
theorem take_succ_sum (l : List Int) {k : Nat} (h : k < l.length) : (l.take (k + 1)).sum = (l.take k).sum + l[k] := by
  rw [List.take_add_one, List.getElem?_eq_getElem h]
  show (l.take k ++ [l[k]]).sum = _
  rw [List.sum_append]
  simp
theorem gk_succ (l : List Int) {k : Nat} (h : k < l.length) : gk l (k + 1) = gk l k + (fall l)[k]'(by rw [fall_len]; exact h) := take_succ_sum _ _
theorem gk_bend (l : List Int) {k : Nat} (h : k + 1 < l.length) : gk l (k + 2) - gk l (k + 1) ≤ gk l (k + 1) - gk l k := by
  rw [gk_succ l h, gk_succ l (show k < l.length by omega)]
  have := (List.pairwise_iff_getElem.mp (fall_pair l)) k (k + 1) (by rw [fall_len]; omega) (by rw [fall_len]; omega) (by omega)
  omega
theorem gk_zero (l : List Int) : gk l 0 = 0 := by simp [gk]
theorem gk_all (l : List Int) : gk l l.length = l.sum := by
  unfold gk
  rw [List.take_of_length_le (by rw [fall_len]; exact Nat.le_refl _)]
  exact sum_perm' (fall_perm l)
/-- never bending up -/
def Cv (f : Nat → Int) (n : Nat) : Prop := ∀ k, k + 1 < n → f (k + 2) - f (k + 1) ≤ f (k + 1) - f k
theorem gk_cv (l : List Int) : Cv (gk l) l.length := fun _ h => gk_bend l h
theorem mn_cv {a b : List Int} (hl : a.length = b.length) : Cv (mn a b) a.length := fun k h => by
  have h1 := gk_bend a h
  have h2 := gk_bend b (show k + 1 < b.length by omega)
  unfold mn
  split <;> split <;> split <;> omega
theorem mn_zero (a b : List Int) : mn a b 0 = 0 := by simp [mn, gk_zero]
theorem mn_all {a b : List Int} (hl : a.length = b.length) (hs : a.sum = b.sum) : mn a b a.length = a.sum := by
  have h1 := gk_all a
  have h2 := gk_all b
  rw [← hl] at h2
  unfold mn
  split <;> omega
theorem mn_comm (a b : List Int) (k : Nat) : mn a b k = mn b a k := by
  unfold mn
  split <;> split <;> omega
theorem mx_comm (a b : List Int) (k : Nat) : mx a b k = mx b a k := by
  unfold mx
  split <;> split <;> omega
theorem dif_len (f : Nat → Int) (n : Nat) : (dif f n).length = n := by simp [dif]
theorem dif_get (f : Nat → Int) {n k : Nat} (h : k < (dif f n).length) : (dif f n)[k] = f (k + 1) - f k := by simp [dif]
theorem dif_take (f : Nat → Int) (n : Nat) : ∀ k, k ≤ n → ((dif f n).take k).sum = f k - f 0
  | 0, _ => by simp
  | k + 1, h => by
    rw [take_succ_sum _ (by rw [dif_len]; omega), dif_take f n k (by omega), dif_get]
    omega
theorem dif_pair {f : Nat → Int} {n : Nat} (h : Cv f n) : (dif f n).Pairwise (· ≥ ·) := by
  rw [List.pairwise_iff_getElem]
  intro i j hi hj hij
  rw [dif_get, dif_get]
  rw [dif_len] at hi hj
  obtain ⟨d, rfl⟩ : ∃ d, j = i + 1 + d := ⟨j - i - 1, by omega⟩
  induction d with
  | zero =>
    have := h i (by omega)
    simp only [Nat.add_zero]
    have e : i + 1 + 1 = i + 2 := rfl
    rw [e]
    omega
  | succ d ih =>
    have h1 := ih (by omega) (by omega)
    have h2 := h (i + 1 + d) (by omega)
    have e1 : i + 1 + d + 1 = i + 1 + (d + 1) := by omega
    have e2 : i + 1 + d + 2 = i + 1 + (d + 1) + 1 := by omega
    rw [e1, e2] at h2
    rw [e1] at h1
    omega
theorem fall_self {l : List Int} (h : l.Pairwise (· ≥ ·)) : fall l = l := by
  refine List.Perm.eq_of_pairwise (le := fun a b => a ≥ b) (fun a b _ _ h1 h2 => Int.le_antisymm h2 h1) (fall_pair l) h (fall_perm l)
theorem gk_dif {f : Nat → Int} {n k : Nat} (h : Cv f n) (hk : k ≤ n) (h0 : f 0 = 0) : gk (dif f n) k = f k := by
  unfold gk
  rw [fall_self (dif_pair h), dif_take f n k hk, h0]
  omega
theorem dif_sum {f : Nat → Int} {n : Nat} (h0 : f 0 = 0) : (dif f n).sum = f n := by
  have := dif_take f n n (Nat.le_refl _)
  rw [List.take_of_length_le (by rw [dif_len]; exact Nat.le_refl _), h0] at this
  omega
/-- over, by all sums of the greatest -/
theorem ovB_iff {a b : List Int} (hl : a.length = b.length) : ovB a b = true ↔ a.sum = b.sum ∧ ∀ k, k ≤ a.length → gk b k ≤ gk a k := by
  unfold ovB
  rw [Bool.and_eq_true, decide_eq_true_eq, gs_eq, gs_eq, hl, List.zip_map']
  simp
  intro _
  constructor
  · intro h k hk
    exact h k (by omega)
  · intro h k hk
    exact h k (by omega)
theorem Und.ov {e r : List Int} (h : Und e r) : ovB r e = true := by
  rw [ovB_iff h.1.symm]
  exact ⟨h.2.1.symm, fun k hk => gk_mono h.1 h.2.2 (by have := h.1; omega)⟩
theorem gk_bd {l : List Int} {p : Nat} (h : ∀ x ∈ l, x.natAbs < 2 ^ p) (hl : l.length ≤ 6) (k : Nat) : (gk l k).natAbs < 2 ^ (p + 6) := by
  unfold gk
  refine sum_nb (fun x hx => h x ((fall_perm l).subset (List.mem_of_mem_take hx))) ?_
  rw [List.length_take, fall_len]
  omega
theorem mx_bd {a b : List Int} {p : Nat} (ha : ∀ x ∈ a, x.natAbs < 2 ^ p) (hb : ∀ x ∈ b, x.natAbs < 2 ^ p) (h1 : a.length ≤ 6) (h2 : b.length ≤ 6) (k : Nat) : (mx a b k).natAbs < 2 ^ (p + 6) := by
  unfold mx
  split
  · exact gk_bd hb h2 k
  · exact gk_bd ha h1 k
theorem cut_last (xs : List W) (x : W) : cutW (xs ++ [x]) none (some (-1)) = xs := by
  unfold cutW
  rw [HT.sIx_none]
  have e : HT.sIx (xs ++ [x]).length (xs ++ [x]).length (some (-1)) = xs.length := by
    simp [HT.sIx]
    omega
  rw [e]
  simp
end Mx
/-! # Mx33: plain: sums over places, tables as functions -/
namespace Mx
open PySem L2
/-- the sum over the places below n -/
def sm : Nat → (Nat → Rat) → Rat
  | 0, _ => 0
  | n + 1, f => sm n f + f n
theorem sm_congr {f g : Nat → Rat} : ∀ {n : Nat}, (∀ i, i < n → f i = g i) → sm n f = sm n g
  | 0, _ => rfl
  | n + 1, h => by rw [sm, sm, sm_congr fun i hi => h i (by omega), h n (by omega)]
theorem sm_add (f g : Nat → Rat) : ∀ n, sm n (fun i => f i + g i) = sm n f + sm n g
  | 0 => by simp [sm, Rat.add_zero]
  | n + 1 => by rw [sm, sm, sm, sm_add f g n]; grind
theorem sm_sub (f g : Nat → Rat) : ∀ n, sm n (fun i => f i - g i) = sm n f - sm n g
  | 0 => by simp [sm]; grind
  | n + 1 => by rw [sm, sm, sm, sm_sub f g n]; grind
theorem sm_mul (c : Rat) (f : Nat → Rat) : ∀ n, sm n (fun i => c * f i) = c * sm n f
  | 0 => by simp [sm, Rat.mul_zero]
  | n + 1 => by rw [sm, sm, sm_mul c f n]; grind
theorem sm_mul_r (c : Rat) (f : Nat → Rat) (n : Nat) : sm n (fun i => f i * c) = sm n f * c := by
  rw [Rat.mul_comm (sm n f), ← sm_mul]
  exact sm_congr fun i _ => Rat.mul_comm _ _
theorem sm_zero (n : Nat) : sm n (fun _ => 0) = 0 := by
  induction n with
  | zero => rfl
  | succ n ih => rw [sm, ih, Rat.add_zero]
theorem sm_comm (f : Nat → Nat → Rat) (m : Nat) : ∀ n, sm n (fun i => sm m fun j => f i j) = sm m fun j => sm n fun i => f i j
  | 0 => by simp [sm, sm_zero]
  | n + 1 => by
    rw [sm, sm_comm f m n, ← sm_add]
    rfl
theorem sm_nonneg {f : Nat → Rat} : ∀ {n : Nat}, (∀ i, i < n → 0 ≤ f i) → 0 ≤ sm n f
  | 0, _ => Rat.le_refl
  | n + 1, h => by
    rw [sm]
    have h1 := sm_nonneg (n := n) fun i hi => h i (by omega)
    have h2 := h n (by omega)
    grind
theorem sm_le {f g : Nat → Rat} : ∀ {n : Nat}, (∀ i, i < n → f i ≤ g i) → sm n f ≤ sm n g
  | 0, _ => Rat.le_refl
  | n + 1, h => by
    rw [sm, sm]
    have h1 := sm_le (n := n) fun i hi => h i (by omega)
    have h2 := h n (by omega)
    grind
/-- one place alone -/
theorem sm_one {f : Nat → Rat} {k : Nat} : ∀ {n : Nat}, k < n → (∀ i, i < n → i ≠ k → f i = 0) → sm n f = f k
  | 0, h, _ => absurd h (Nat.not_lt_zero _)
  | n + 1, h, hz => by
    rw [sm]
    by_cases e : k = n
    · subst e
      rw [sm_congr (g := fun _ => 0) fun i hi => hz i (by omega) (by omega), sm_zero]
      grind
    · rw [sm_one (n := n) (by omega) fun i hi hk => hz i (by omega) hk, hz n (by omega) (fun z => e z.symm)]
      grind
theorem sm_le_one {f : Nat → Rat} {n : Nat} (h : ∀ i, i < n → 0 ≤ f i) : ∀ {k : Nat}, k < n → f k ≤ sm n f := by
  induction n with
  | zero => intro k hk; omega
  | succ n ih =>
    intro k hk
    rw [sm]
    have h1 := sm_nonneg (n := n) fun i hi => h i (by omega)
    have h2 := h n (by omega)
    by_cases e : k = n
    · subst e; grind
    · have := ih (fun i hi => h i (by omega)) (k := k) (by omega)
      grind
theorem sum_range (f : Nat → Rat) : ∀ n, ((List.range n).map f).sum = sm n f
  | 0 => rfl
  | n + 1 => by
    rw [List.range_succ, List.map_append, rsum_append, sum_range f n, sm]
    simp [Rat.add_zero]
theorem Bq.sm {D M : Nat} {f : Nat → Rat} : ∀ {n : Nat}, (∀ i, i < n → Bq D M (f i)) → Bq D (n * M) (sm n f)
  | 0, _ => Bq.zero
  | n + 1, h => by
    have h1 := Bq.sm (n := n) fun i hi => h i (by omega)
    have h2 := h n (by omega)
    rw [Nat.succ_mul]
    exact h1.add h2
/-! ## tables -/
/-- one behind the other: first g, then f -/
def mm (n : Nat) (f g : Nat → Nat → Rat) (i j : Nat) : Rat := sm n fun k => f i k * g k j
/-- a row moved -/
def mv (n : Nat) (f : Nat → Nat → Rat) (r : Nat → Rat) (i : Nat) : Rat := sm n fun k => f i k * r k
def idm (i j : Nat) : Rat := if j = i then 1 else 0
structure DS (n : Nat) (f : Nat → Nat → Rat) : Prop where
  nn : ∀ i j, i < n → j < n → 0 ≤ f i j
  row : ∀ i, i < n → sm n (f i) = 1
  col : ∀ j, j < n → sm n (fun i => f i j) = 1
theorem DS.le {n : Nat} {f : Nat → Nat → Rat} (h : DS n f) {i j : Nat} (hi : i < n) (hj : j < n) : f i j ≤ 1 := by
  rw [← h.row i hi]
  exact sm_le_one (fun k hk => h.nn i k hi hk) hj
theorem DS.congr {n : Nat} {f g : Nat → Nat → Rat} (h : DS n f) (e : ∀ i j, i < n → j < n → g i j = f i j) : DS n g where
  nn := fun i j hi hj => by rw [e i j hi hj]; exact h.nn i j hi hj
  row := fun i hi => by rw [← h.row i hi]; exact sm_congr fun j hj => e i j hi hj
  col := fun j hj => by rw [← h.col j hj]; exact sm_congr fun i hi => e i j hi hj
theorem DS.id (n : Nat) : DS n idm where
  nn := fun i j _ _ => by unfold idm; split <;> decide
  row := fun i hi => by
    rw [sm_one hi fun j _ hj => by unfold idm; rw [if_neg hj]]
    unfold idm; rw [if_pos rfl]
  col := fun j hj => by
    rw [sm_one hj fun i _ hi => by unfold idm; rw [if_neg (fun z => hi z.symm)]]
    unfold idm; rw [if_pos rfl]
theorem DS.mul {n : Nat} {f g : Nat → Nat → Rat} (hf : DS n f) (hg : DS n g) : DS n (mm n f g) where
  nn := fun i j hi hj => sm_nonneg fun k hk => Rat.mul_nonneg (hf.nn i k hi hk) (hg.nn k j hk hj)
  row := fun i hi => by
    show sm n (fun j => sm n fun k => f i k * g k j) = 1
    rw [sm_comm (fun j k => f i k * g k j) n n]
    rw [← hf.row i hi]
    refine sm_congr fun k hk => ?_
    rw [sm_mul, hg.row k hk]
    grind
  col := fun j hj => by
    show sm n (fun i => sm n fun k => f i k * g k j) = 1
    rw [sm_comm (fun i k => f i k * g k j) n n]
    rw [← hg.col j hj]
    refine sm_congr fun k hk => ?_
    rw [sm_mul_r, hf.col k hk]
    grind
theorem DS.tr {n : Nat} {f : Nat → Nat → Rat} (h : DS n f) : DS n (fun i j => f j i) := ⟨fun i j hi hj => h.nn j i hj hi, h.col, h.row⟩
theorem mm_assoc (n : Nat) (f g h : Nat → Nat → Rat) (i j : Nat) : mm n (mm n f g) h i j = mm n f (mm n g h) i j := by
  unfold mm
  have e1 : (sm n fun k => (sm n fun l => f i l * g l k) * h k j) = sm n fun k => sm n fun l => f i l * g l k * h k j := sm_congr fun k _ => (sm_mul_r _ _ _).symm
  have e2 : (sm n fun l => f i l * sm n fun k => g l k * h k j) = sm n fun l => sm n fun k => f i l * (g l k * h k j) := sm_congr fun l _ => (sm_mul _ _ _).symm
  rw [e1, e2, sm_comm]
  exact sm_congr fun l _ => sm_congr fun k _ => Rat.mul_assoc _ _ _
theorem mm_mv (n : Nat) (f g : Nat → Nat → Rat) (r : Nat → Rat) (i : Nat) : mv n (mm n f g) r i = mv n f (mv n g r) i := by
  unfold mv mm
  have e1 : (sm n fun k => (sm n fun l => f i l * g l k) * r k) = sm n fun k => sm n fun l => f i l * g l k * r k := sm_congr fun k _ => (sm_mul_r _ _ _).symm
  have e2 : (sm n fun l => f i l * sm n fun k => g l k * r k) = sm n fun l => sm n fun k => f i l * (g l k * r k) := sm_congr fun l _ => (sm_mul _ _ _).symm
  rw [e1, e2, sm_comm]
  exact sm_congr fun l _ => sm_congr fun k _ => Rat.mul_assoc _ _ _
theorem mm_congr {n : Nat} {f f' g g' : Nat → Nat → Rat} {i j : Nat} (hf : ∀ k, k < n → f i k = f' i k) (hg : ∀ k, k < n → g k j = g' k j) : mm n f g i j = mm n f' g' i j := sm_congr fun k hk => by rw [hf k hk, hg k hk]
theorem mm_id_l {n : Nat} (f : Nat → Nat → Rat) {i j : Nat} (hi : i < n) : mm n idm f i j = f i j := by
  unfold mm
  rw [sm_one hi fun k _ hk => by unfold idm; rw [if_neg hk]; grind]
  unfold idm; rw [if_pos rfl]; grind
theorem mm_id_r {n : Nat} (f : Nat → Nat → Rat) {i j : Nat} (hj : j < n) : mm n f idm i j = f i j := by
  unfold mm
  rw [sm_one hj fun k _ hk => by unfold idm; rw [if_neg (fun z => hk z.symm)]; grind]
  unfold idm; rw [if_pos rfl]; grind
theorem mv_id {n : Nat} (r : Nat → Rat) {i : Nat} (hi : i < n) : mv n idm r i = r i := by
  unfold mv
  rw [sm_one hi fun k _ hk => by unfold idm; rw [if_neg hk]; grind]
  unfold idm; rw [if_pos rfl]; grind
theorem mv_congr {n : Nat} {f f' : Nat → Nat → Rat} {r r' : Nat → Rat} {i : Nat} (hf : ∀ k, k < n → f i k = f' i k) (hr : ∀ k, k < n → r k = r' k) : mv n f r i = mv n f' r' i := sm_congr fun k hk => by rw [hf k hk, hr k hk]
/-- what a table moves comes to the same -/
theorem mv_sum {n : Nat} {f : Nat → Nat → Rat} (h : DS n f) (r : Nat → Rat) : sm n (mv n f r) = sm n r := by
  unfold mv
  rw [sm_comm (fun i k => f i k * r k) n n]
  refine sm_congr fun k hk => ?_
  rw [sm_mul_r, h.col k hk]
  grind
/-! ## written down -/
abbrev rw_ (n : Nat) (g : Nat → Rat) : List Rat := (List.range n).map g
abbrev tb (n : Nat) (f : Nat → Nat → Rat) : List (List Rat) := (List.range n).map fun i => rw_ n (f i)
theorem rw_congr {n : Nat} {g g' : Nat → Rat} (h : ∀ i, i < n → g i = g' i) : rw_ n g = rw_ n g' := List.map_congr_left fun i hi => h i (List.mem_range.mp hi)
theorem tb_congr {n : Nat} {f f' : Nat → Nat → Rat} (h : ∀ i j, i < n → j < n → f i j = f' i j) : tb n f = tb n f' := List.map_congr_left fun i hi => rw_congr fun j hj => h i j (List.mem_range.mp hi) hj
theorem rw_of (l : List Rat) : l = rw_ l.length (fun j => l.getD j 0) := by
  refine List.ext_getElem (by simp) fun i h1 h2 => ?_
  simp [h1]
theorem zip_range {α β : Type} (f : Nat → α) (g : Nat → β) (n : Nat) : ((List.range n).map f).zip ((List.range n).map g) = (List.range n).map fun i => (f i, g i) := by rw [List.zip_map']
theorem set_range {α : Type} (g : Nat → α) (n a : Nat) (v : α) : ((List.range n).map g).set a v = (List.range n).map fun j => if j = a then v else g j := by
  refine List.ext_getElem (by simp) fun i h1 h2 => ?_
  simp only [List.getElem_set, List.getElem_map, List.getElem_range]
  by_cases h : a = i
  · rw [if_pos h, if_pos h.symm]
  · rw [if_neg h, if_neg (fun z => h z.symm)]
theorem ds_bq {n D : Nat} {f : Nat → Nat → Rat} (h : DS n f) {i j : Nat} (hi : i < n) (hj : j < n) {M : Nat} (hb : Bq D M (f i j)) : Bq D 1 (f i j) := by
  obtain ⟨z, h1, h2⟩ := hb
  refine ⟨z, h1, ?_⟩
  have h0 := h.nn i j hi hj
  have h3 := h.le hi hj
  have hD : (0 : Rat) ≤ (D : Rat) := Rat.natCast_nonneg
  have z0 : (0 : Rat) ≤ (z : Rat) := by rw [← h1]; exact Rat.mul_nonneg h0 hD
  have z1 : (z : Rat) ≤ (D : Rat) := by
    rw [← h1]
    have := Rat.mul_le_mul_of_nonneg_right h3 hD
    grind
  have e0 : (0 : Int) ≤ z := by exact_mod_cast z0
  have e1 : z ≤ (D : Int) := by
    have : (z : Rat) ≤ ((D : Int) : Rat) := z1
    exact_mod_cast this
  omega
end Mx
/-! # Mx34: tables: what the program's defs make of them -/
namespace Mx
open PySem L2
abbrev Rw (n : Nat) (g : Nat → Rat) : W := .lst ((List.range n).map fun j => pt (g j))
abbrev Tw (n : Nat) (f : Nat → Nat → Rat) : W := .lst ((List.range n).map fun i => Rw n (f i))
theorem Rw_eq (n : Nat) (g : Nat → Rat) : Rw n g = Lp (rw_ n g) := by
  show W.lst _ = W.lst (List.map pt (List.map g (List.range n)))
  rw [List.map_map]
  rfl
theorem Tw_eq (n : Nat) (f : Nat → Nat → Rat) : Tw n f = Lt (tb n f) := by
  show W.lst _ = W.lst (List.map Lp (List.map (fun i => rw_ n (f i)) (List.range n)))
  rw [List.map_map]
  congr 1
  exact List.map_congr_left fun i _ => Rw_eq n (f i)
theorem Rw_congr {n : Nat} {g g' : Nat → Rat} (h : ∀ i, i < n → g i = g' i) : Rw n g = Rw n g' := by rw [Rw_eq, Rw_eq, rw_congr h]
theorem Tw_congr {n : Nat} {f f' : Nat → Nat → Rat} (h : ∀ i j, i < n → j < n → f i j = f' i j) : Tw n f = Tw n f' := by rw [Tw_eq, Tw_eq, tb_congr h]
theorem neW_Rw (n m : Nat) (g g' : Nat → Rat) : neW (Rw n g) (Rw m g') = .val (.bl (!decide (rw_ n g = rw_ m g'))) := by rw [Rw_eq, Rw_eq, neW_Lp]
theorem eqW_Rw (n m : Nat) (g g' : Nat → Rat) : eqW (Rw n g) (Rw m g') = .val (.bl (decide (rw_ n g = rw_ m g'))) := by rw [Rw_eq, Rw_eq, eqW_Lp]
theorem neW_Tw (n m : Nat) (g g' : Nat → Nat → Rat) : neW (Tw n g) (Tw m g') = .val (.bl (!decide (tb n g = tb m g'))) := by rw [Tw_eq, Tw_eq, neW_Lt]
theorem eqW_Tw (n m : Nat) (g g' : Nat → Nat → Rat) : eqW (Tw n g) (Tw m g') = .val (.bl (decide (tb n g = tb m g'))) := by rw [Tw_eq, Tw_eq, eqW_Lt]
theorem neW_Rw0 {n : Nat} {g g' : Nat → Rat} (h : ∀ i, i < n → g i = g' i) : neW (Rw n g) (Rw n g') = .val (.bl false) := by rw [neW_Rw, rw_congr h]; simp
theorem eqW_Rw1 {n : Nat} {g g' : Nat → Rat} (h : ∀ i, i < n → g i = g' i) : eqW (Rw n g) (Rw n g') = .val (.bl true) := by rw [eqW_Rw, rw_congr h]; simp
theorem neW_Tw0 {n : Nat} {g g' : Nat → Nat → Rat} (h : ∀ i j, i < n → j < n → g i j = g' i j) : neW (Tw n g) (Tw n g') = .val (.bl false) := by rw [neW_Tw, tb_congr h]; simp
theorem eqW_Tw1 {n : Nat} {g g' : Nat → Nat → Rat} (h : ∀ i j, i < n → j < n → g i j = g' i j) : eqW (Tw n g) (Tw n g') = .val (.bl true) := by rw [eqW_Tw, tb_congr h]; simp
theorem zipW_range (f g : Nat → W) (n : Nat) : zipW ((List.range n).map f) ((List.range n).map g) = (List.range n).map fun i => .tup [f i, g i] := by
  rw [zipW_map]
  have := zip_range (fun i => i) (fun i => i) n
  simp only [List.map_id'] at this
  rw [this, List.map_map]
  rfl
theorem flats_range {g : Nat → W} (h : ∀ i, (g i).isFlat = true) : ∀ l : List Nat, W.isFlats (l.map g) = true
  | [] => by simp [W.isFlats]
  | x :: l => by rw [List.map_cons, W.isFlats, h x, flats_range h l]; rfl
@[simp] theorem flats_Rw (g : Nat → Rat) (l : List Nat) : W.isFlats (l.map fun j => pt (g j)) = true := flats_range (fun i => pt_flat _) l
theorem li_range (ns : List Int) : Li ns = .lst ((List.range ns.length).map fun j => W.int (ns.getD j 0)) := by
  show W.lst (ns.map W.int) = _
  congr 1
  refine List.ext_getElem (by simp) fun i h1 h2 => ?_
  have h3 : i < ns.length := by simpa using h1
  simp [h3]
/-- the number at a place -/
def ga (ns : List Int) (j : Nat) : Rat := ((ns.getD j 0 : Int) : Rat)
theorem ga_bq {ns : List Int} {N : Nat} (hN : ∀ x ∈ ns, x.natAbs ≤ N) (j : Nat) : Bq 1 N (ga ns j) := by
  refine Bq.int _ ?_
  rw [List.getD_eq_getElem?_getD]
  by_cases hj : j < ns.length
  · rw [List.getElem?_eq_getElem hj]
    exact hN _ (List.getElem_mem hj)
  · rw [List.getElem?_eq_none (by omega)]
    simp
section
variable {T : Tb} {k n : Nat} {D M E N : Nat} {f g : Nat → Nat → Rat} {r : Nat → Rat}
theorem c_totalR (h : Has T [0, 1, 2, 6]) (hk : 4 ≤ k) (hb : ∀ i, Bq D M (r i)) (hs : Sz D (n * M + M)) : callN T k 6 [Rw n r] = .val (pt (sm n r)) := by
  rw [Rw_eq, c_total h hk (l := rw_ n r) (D := D) (M := M) (fun q hq => by obtain ⟨i, _, rfl⟩ := List.mem_map.mp hq; exact hb i) (by simpa using hs), sum_range]
theorem c_as_pairsR (h : Has T [23]) (hk : 1 ≤ k) (ns : List Int) : callN T k 23 [Li ns] = .val (Rw ns.length (ga ns)) := by
  rw [c_as_pairs h hk, Rw_eq]
  congr 2
  refine List.ext_getElem (by simp) fun i h1 h2 => ?_
  simp at h1
  simp [h1, ga]
theorem c_is_share (h : Has T [0, 8, 9]) (hk : 2 ≤ k) {q : Rat} (hq : Bd q 4000) : callN T k 9 [pt q] = .val (.bl (decide (0 ≤ q) && decide (q ≤ 1))) := by
  refine up hk fun m => Is.rt h.2.2.1 rfl ?_
  show exL (callN T (m + 1)) T.cs ir_is_share [some (pt q)] = _
  have w1 := c_whole (n := m + 1) (h.sub [8] (by decide)) (by omega) q.num
  have w2 := c_whole (n := m + 1) (h.sub [8] (by decide)) (by omega) (q.den : Int)
  have hg := c_common (n := m + 1) (h.sub [0] (by decide)) (by omega) q.num (q.den : Int) (k := 4000) (by decide) (by rw [Int.natAbs_natCast]; exact hq.2)
  have e : Int.gcd q.num (q.den : Int) = 1 := q.reduced
  rw [e] at hg
  have e1 : (0 ≤ q.num) ↔ 0 ≤ q := Rat.num_nonneg
  have e2 : (q.num ≤ (q.den : Int)) ↔ q ≤ 1 := by
    rw [Rat.le_iff]
    show _ ↔ q.num * 1 ≤ 1 * (q.den : Int)
    omega
  have e3 : eqW (.int 1) (.int 1) = .val (.bl true) := by rw [eqW_int]; simp
  unfold pt
  by_cases h1 : 0 ≤ q
  · by_cases h2 : q ≤ 1
    · simp [e_var, ev_cst, e_gci, ev_op, ev_tup, ev_lst, ev_call, ev_and, ev_or, e_not, e_ifx, e_and1, e_and2, e_or1, e_or2, e_chain, e_chain3, e_comp, evs_nil, es_cons, e_flat, i_lst, i_rng1, i_rng2, i_zip, i_enum, s_asg, s_app, s_ifs, s_ret, s_retV, s_exp, s_rai, s_pas, s_brk, s_asgT, s_unp, s_setT, s_appK, exL_nil, exL_kil, exL_frz, opS, addS, subS, mulS, fdivS, modS, powS, negS, eqS, neS, ltS, leS, gtS, geS, lenS, sumS, absS, max1S, min1S, max2S, min2S, all1S, any1S, int1S, isiS, isiT, isNS, notNS, isBS, notBS, W.isNon, ixS_lst, ixS_tup, catS, repS, slcAS, slcBS, revS, sortedS, listS, rngLS, flIf, startW, ints_map, bls_map, eqW_Li, neW_Li, eqW_int, neW_int, W.isFlat, W.isFlats, wipeW, tgS, setAll, stosW_nil, stosW_cons, stoW_1, stoW_2, isinS, notinS, ir_is_share, at_0, at_1, w1, w2, hg, e1, e2, h1, h2]
    · simp [e_var, ev_cst, e_gci, ev_op, ev_tup, ev_lst, ev_call, ev_and, ev_or, e_not, e_ifx, e_and1, e_and2, e_or1, e_or2, e_chain, e_chain3, e_comp, evs_nil, es_cons, e_flat, i_lst, i_rng1, i_rng2, i_zip, i_enum, s_asg, s_app, s_ifs, s_ret, s_retV, s_exp, s_rai, s_pas, s_brk, s_asgT, s_unp, s_setT, s_appK, exL_nil, exL_kil, exL_frz, opS, addS, subS, mulS, fdivS, modS, powS, negS, eqS, neS, ltS, leS, gtS, geS, lenS, sumS, absS, max1S, min1S, max2S, min2S, all1S, any1S, int1S, isiS, isiT, isNS, notNS, isBS, notBS, W.isNon, ixS_lst, ixS_tup, catS, repS, slcAS, slcBS, revS, sortedS, listS, rngLS, flIf, startW, ints_map, bls_map, eqW_Li, neW_Li, eqW_int, neW_int, W.isFlat, W.isFlats, wipeW, tgS, setAll, stosW_nil, stosW_cons, stoW_1, stoW_2, isinS, notinS, ir_is_share, at_0, at_1, w1, w2, hg, e1, e2, h1, h2]
  · simp [e_var, ev_cst, e_gci, ev_op, ev_tup, ev_lst, ev_call, ev_and, ev_or, e_not, e_ifx, e_and1, e_and2, e_or1, e_or2, e_chain, e_chain3, e_comp, evs_nil, es_cons, e_flat, i_lst, i_rng1, i_rng2, i_zip, i_enum, s_asg, s_app, s_ifs, s_ret, s_retV, s_exp, s_rai, s_pas, s_brk, s_asgT, s_unp, s_setT, s_appK, exL_nil, exL_kil, exL_frz, opS, addS, subS, mulS, fdivS, modS, powS, negS, eqS, neS, ltS, leS, gtS, geS, lenS, sumS, absS, max1S, min1S, max2S, min2S, all1S, any1S, int1S, isiS, isiT, isNS, notNS, isBS, notBS, W.isNon, ixS_lst, ixS_tup, catS, repS, slcAS, slcBS, revS, sortedS, listS, rngLS, flIf, startW, ints_map, bls_map, eqW_Li, neW_Li, eqW_int, neW_int, W.isFlat, W.isFlats, wipeW, tgS, setAll, stosW_nil, stosW_cons, stoW_1, stoW_2, isinS, notinS, ir_is_share, at_0, at_1, w1, w2, hg, e1, e2, h1]
theorem c_moved_of (h : Has T [0, 1, 2, 4, 6, 22]) (hk : 5 ≤ k) (hn : n ≤ 6) (hf : ∀ i j, Bq D M (f i j)) (hr : ∀ j, Bq E N (r j)) (s1 : Sz D M) (s2 : Sz E N) (s3 : Sz (D * E) (7 * (M * N))) : callN T k 22 [Tw n f, Rw n r] = .val (Rw n (mv n f r)) := by
  refine up hk fun m => Is.rt (h.is 22 (by decide)) rfl ?_
  show exL (callN T (m + 4)) T.cs ir_moved_of [some (Tw n f), some (Rw n r), none, none, none] = _
  have ht : ∀ i j, callN T (m + 4) 4 [pt (f i j), pt (r j)] = .val (pt (f i j * r j)) := fun i j => c_times (h.sub _ (by decide)) (by omega) (s1.bd (hf i j)) (s2.bd (hr j))
  have hs : ∀ i, callN T (m + 4) 6 [Rw n fun j => f i j * r j] = .val (pt (mv n f r i)) := fun i => c_totalR (D := D * E) (M := M * N) (h.sub _ (by decide)) (by omega) (fun j => (hf i j).mul (hr j)) (s3.mono (by
    have := Nat.mul_le_mul_right (M * N) hn
    omega))
  simp [e_var, ev_cst, e_gci, ev_op, ev_tup, ev_lst, ev_call, ev_and, ev_or, e_not, e_ifx, e_and1, e_and2, e_or1, e_or2, e_chain, e_chain3, e_comp, evs_nil, es_cons, e_flat, i_lst, i_rng1, i_rng2, i_zip, i_enum, s_asg, s_app, s_ifs, s_ret, s_retV, s_exp, s_rai, s_pas, s_brk, s_asgT, s_unp, s_setT, s_appK, exL_nil, exL_kil, exL_frz, opS, addS, subS, mulS, fdivS, modS, powS, negS, eqS, neS, ltS, leS, gtS, geS, lenS, sumS, absS, max1S, min1S, max2S, min2S, all1S, any1S, int1S, isiS, isiT, isNS, notNS, isBS, notBS, W.isNon, ixS_lst, ixS_tup, catS, repS, slcAS, slcBS, revS, sortedS, listS, rngLS, flIf, startW, ints_map, bls_map, eqW_Li, neW_Li, eqW_int, neW_int, W.isFlat, W.isFlats, wipeW, tgS, setAll, stosW_nil, stosW_cons, stoW_1, stoW_2, isinS, notinS, ir_moved_of, zipW_range, ht, hs]
theorem c_behind_of (h : Has T [0, 1, 2, 4, 6, 25]) (hk : 5 ≤ k) (hn : n ≤ 6) (hf : ∀ i j, Bq D M (f i j)) (hg : ∀ i j, Bq E N (g i j)) (s1 : Sz D M) (s2 : Sz E N) (s3 : Sz (E * D) (7 * (N * M))) : callN T k 25 [Tw n f, Tw n g] = .val (Tw n (mm n g f)) := by
  refine up hk fun m => Is.rt (h.is 25 (by decide)) rfl ?_
  show exL (callN T (m + 4)) T.cs ir_behind_of [some (Tw n f), some (Tw n g), none, none, none, none, none, none, none] = _
  have ht : ∀ i j l, callN T (m + 4) 4 [pt (g i l), pt (f l j)] = .val (pt (g i l * f l j)) := fun i j l => c_times (h.sub _ (by decide)) (by omega) (s2.bd (hg i l)) (s1.bd (hf l j))
  have hs : ∀ i j, callN T (m + 4) 6 [Rw n fun l => g i l * f l j] = .val (pt (mm n g f i j)) := fun i j => c_totalR (D := E * D) (M := N * M) (h.sub _ (by decide)) (by omega) (fun l => (hg i l).mul (hf l j)) (s3.mono (by
    have := Nat.mul_le_mul_right (N * M) hn
    omega))
  simp [e_var, ev_cst, e_gci, ev_op, ev_tup, ev_lst, ev_call, ev_and, ev_or, e_not, e_ifx, e_and1, e_and2, e_or1, e_or2, e_chain, e_chain3, e_comp, evs_nil, es_cons, e_flat, i_lst, i_rng1, i_rng2, i_zip, i_enum, s_asg, s_app, s_ifs, s_ret, s_retV, s_exp, s_rai, s_pas, s_brk, s_asgT, s_unp, s_setT, s_appK, exL_nil, exL_kil, exL_frz, opS, addS, subS, mulS, fdivS, modS, powS, negS, eqS, neS, ltS, leS, gtS, geS, lenS, sumS, absS, max1S, min1S, max2S, min2S, all1S, any1S, int1S, isiS, isiT, isNS, notNS, isBS, notBS, W.isNon, ixS_lst, ixS_tup, catS, repS, slcAS, slcBS, revS, sortedS, listS, rngLS, flIf, startW, ints_map, bls_map, eqW_Li, neW_Li, eqW_int, neW_int, W.isFlat, W.isFlats, wipeW, tgS, setAll, stosW_nil, stosW_cons, stoW_1, stoW_2, isinS, notinS, ir_behind_of, rng_nat n (by omega)]
  rw [mapL_of (fun j => Rw n fun l => f l j) fun j hj => by
    have hj := List.mem_range.mp hj
    have ha : ∀ l, atI ((List.range n).map fun j => pt (f l j)) (j : Int) = some (pt (f l j)) := fun l => at_range _ hj
    simp [e_var, ev_cst, e_gci, ev_op, ev_tup, ev_lst, ev_call, ev_and, ev_or, e_not, e_ifx, e_and1, e_and2, e_or1, e_or2, e_chain, e_chain3, e_comp, evs_nil, es_cons, e_flat, i_lst, i_rng1, i_rng2, i_zip, i_enum, s_asg, s_app, s_ifs, s_ret, s_retV, s_exp, s_rai, s_pas, s_brk, s_asgT, s_unp, s_setT, s_appK, exL_nil, exL_kil, exL_frz, opS, addS, subS, mulS, fdivS, modS, powS, negS, eqS, neS, ltS, leS, gtS, geS, lenS, sumS, absS, max1S, min1S, max2S, min2S, all1S, any1S, int1S, isiS, isiT, isNS, notNS, isBS, notBS, W.isNon, ixS_lst, ixS_tup, catS, repS, slcAS, slcBS, revS, sortedS, listS, rngLS, flIf, startW, ints_map, bls_map, eqW_Li, neW_Li, eqW_int, neW_int, W.isFlat, W.isFlats, wipeW, tgS, setAll, stosW_nil, stosW_cons, stoW_1, stoW_2, isinS, notinS, ha]]
  simp [e_var, ev_cst, e_gci, ev_op, ev_tup, ev_lst, ev_call, ev_and, ev_or, e_not, e_ifx, e_and1, e_and2, e_or1, e_or2, e_chain, e_chain3, e_comp, evs_nil, es_cons, e_flat, i_lst, i_rng1, i_rng2, i_zip, i_enum, s_asg, s_app, s_ifs, s_ret, s_retV, s_exp, s_rai, s_pas, s_brk, s_asgT, s_unp, s_setT, s_appK, exL_nil, exL_kil, exL_frz, opS, addS, subS, mulS, fdivS, modS, powS, negS, eqS, neS, ltS, leS, gtS, geS, lenS, sumS, absS, max1S, min1S, max2S, min2S, all1S, any1S, int1S, isiS, isiT, isNS, notNS, isBS, notBS, W.isNon, ixS_lst, ixS_tup, catS, repS, slcAS, slcBS, revS, sortedS, listS, rngLS, flIf, startW, ints_map, bls_map, eqW_Li, neW_Li, eqW_int, neW_int, W.isFlat, W.isFlats, wipeW, tgS, setAll, stosW_nil, stosW_cons, stoW_1, stoW_2, isinS, notinS]
  refine loop1 (i := 4) (List.range n) (fun i => Rw n (g i)) (fun l : List Nat => [some (Tw n f), some (Tw n g), some (.lst ((List.range n).map fun j => Rw n fun l => f l j)), some (.lst (l.map fun i => Rw n (mm n g f i))), none, none, none, none, none]) (fun pre l => l = pre) [] (by simp [e_var, ev_cst, e_gci, ev_op, ev_tup, ev_lst, ev_call, ev_and, ev_or, e_not, e_ifx, e_and1, e_and2, e_or1, e_or2, e_chain, e_chain3, e_comp, evs_nil, es_cons, e_flat, i_lst, i_rng1, i_rng2, i_zip, i_enum, s_asg, s_app, s_ifs, s_ret, s_retV, s_exp, s_rai, s_pas, s_brk, s_asgT, s_unp, s_setT, s_appK, exL_nil, exL_kil, exL_frz, opS, addS, subS, mulS, fdivS, modS, powS, negS, eqS, neS, ltS, leS, gtS, geS, lenS, sumS, absS, max1S, min1S, max2S, min2S, all1S, any1S, int1S, isiS, isiT, isNS, notNS, isBS, notBS, W.isNon, ixS_lst, ixS_tup, catS, repS, slcAS, slcBS, revS, sortedS, listS, rngLS, flIf, startW, ints_map, bls_map, eqW_Li, neW_Li, eqW_int, neW_int, W.isFlat, W.isFlats, wipeW, tgS, setAll, stosW_nil, stosW_cons, stoW_1, stoW_2, isinS, notinS]) rfl rfl ?_ (fun _ => rfl) ?_
  · intro pre i post l e p
    subst p
    have hi : l.length < LIM := by
      have := congrArg List.length e
      simp at this
      show _ < 100000
      omega
    refine ⟨l ++ [i], some (Rw n (g i)), ?_, rfl⟩
    simp [e_var, ev_cst, e_gci, ev_op, ev_tup, ev_lst, ev_call, ev_and, ev_or, e_not, e_ifx, e_and1, e_and2, e_or1, e_or2, e_chain, e_chain3, e_comp, evs_nil, es_cons, e_flat, i_lst, i_rng1, i_rng2, i_zip, i_enum, s_asg, s_app, s_ifs, s_ret, s_retV, s_exp, s_rai, s_pas, s_brk, s_asgT, s_unp, s_setT, s_appK, exL_nil, exL_kil, exL_frz, opS, addS, subS, mulS, fdivS, modS, powS, negS, eqS, neS, ltS, leS, gtS, geS, lenS, sumS, absS, max1S, min1S, max2S, min2S, all1S, any1S, int1S, isiS, isiT, isNS, notNS, isBS, notBS, W.isNon, ixS_lst, ixS_tup, catS, repS, slcAS, slcBS, revS, sortedS, listS, rngLS, flIf, startW, ints_map, bls_map, eqW_Li, neW_Li, eqW_int, neW_int, W.isFlat, W.isFlats, wipeW, tgS, setAll, stosW_nil, stosW_cons, stoW_1, stoW_2, isinS, notinS, zipW_range, ht, hs, hi]
  · intro l o p
    subst p
    simp [e_var, ev_cst, e_gci, ev_op, ev_tup, ev_lst, ev_call, ev_and, ev_or, e_not, e_ifx, e_and1, e_and2, e_or1, e_or2, e_chain, e_chain3, e_comp, evs_nil, es_cons, e_flat, i_lst, i_rng1, i_rng2, i_zip, i_enum, s_asg, s_app, s_ifs, s_ret, s_retV, s_exp, s_rai, s_pas, s_brk, s_asgT, s_unp, s_setT, s_appK, exL_nil, exL_kil, exL_frz, opS, addS, subS, mulS, fdivS, modS, powS, negS, eqS, neS, ltS, leS, gtS, geS, lenS, sumS, absS, max1S, min1S, max2S, min2S, all1S, any1S, int1S, isiS, isiT, isNS, notNS, isBS, notBS, W.isNon, ixS_lst, ixS_tup, catS, repS, slcAS, slcBS, revS, sortedS, listS, rngLS, flIf, startW, ints_map, bls_map, eqW_Li, neW_Li, eqW_int, neW_int, W.isFlat, W.isFlats, wipeW, tgS, setAll, stosW_nil, stosW_cons, stoW_1, stoW_2, isinS, notinS]
end
end Mx
/-! # Mx35: tables asked; moved, behind, by orders -/
namespace Mx
open PySem L2
theorem app_map {α β γ : Type} (φ : α → γ) (ψ : β → γ) (xs : List α) (ys : List β) : xs.map φ ++ ys.map ψ = (xs.map (Sum.inl (β := β)) ++ ys.map (Sum.inr (α := α))).map (Sum.elim φ ψ) := by
  simp [List.map_append, List.map_map, Function.comp_def]
section
variable {T : Tb} {k n : Nat} {D M E N : Nat} {f g : Nat → Nat → Rat} {r : Nat → Rat}
/-- a table, small enough -/
structure Tab (n D : Nat) (f : Nat → Nat → Rat) : Prop where
  ds : DS n f
  bd : ∀ i j, Bq D 1 (f i j)
theorem all_true {α : Type} {p : α → Bool} {l : List α} (h : ∀ x ∈ l, p x = true) : (l.map p).all id = true := by
  rw [List.all_map, List.all_eq_true]
  exact h
theorem c_is_table (h : Has T [0, 1, 2, 6, 8, 9, 20, 1000]) (hk : 5 ≤ k) (h1 : 1 ≤ n) (hn : n ≤ 6) (t : Tab n D f) (sz : Sz D 7) : callN T k 20 [Tw n f] = .val (.bl true) := by
  refine up hk fun m => Is.rt (h.is 20 (by decide)) rfl ?_
  show exL (callN T (m + 4)) T.cs ir_is_table [some (Tw n f), none, none, none, none, none] = _
  have hmo : T.cs[0]? = some 6 := h.is 1000 (by decide)
  have h1' : (1 : Int) ≤ n := by omega
  have hn' : (n : Int) ≤ 6 := by omega
  have hsh : ∀ i j, i < n → j < n → callN T (m + 4) 9 [pt (f i j)] = .val (.bl true) := fun i j hi hj => by
    rw [c_is_share (h.sub _ (by decide)) (by omega) ((sz.mono (by omega)).bd (t.bd i j))]
    simp [t.ds.nn i j hi hj, t.ds.le hi hj]
  have hs1 : ∀ i, callN T (m + 4) 6 [Rw n (f i)] = .val (pt (sm n (f i))) := fun i => c_totalR (D := D) (M := 1) (h.sub _ (by decide)) (by omega) (t.bd i) (sz.mono (by omega))
  have hs2 : ∀ j, callN T (m + 4) 6 [Rw n fun i => f i j] = .val (pt (sm n fun i => f i j)) := fun j => c_totalR (D := D) (M := 1) (h.sub _ (by decide)) (by omega) (fun i => t.bd i j) (sz.mono (by omega))
  simp [e_var, ev_cst, e_gci, ev_op, ev_tup, ev_lst, ev_call, ev_and, ev_or, e_not, e_ifx, e_and1, e_and2, e_or1, e_or2, e_chain, e_chain3, e_comp, evs_nil, es_cons, e_flat, i_lst, i_rng1, i_rng2, i_zip, i_enum, s_asg, s_app, s_ifs, s_ret, s_retV, s_exp, s_rai, s_pas, s_brk, s_asgT, s_unp, s_setT, s_appK, exL_nil, exL_kil, exL_frz, opS, addS, subS, mulS, fdivS, modS, powS, negS, eqS, neS, ltS, leS, gtS, geS, lenS, sumS, absS, max1S, min1S, max2S, min2S, all1S, any1S, int1S, isiS, isiT, isNS, notNS, isBS, notBS, W.isNon, ixS_lst, ixS_tup, catS, repS, slcAS, slcBS, revS, sortedS, listS, rngLS, flIf, startW, ints_map, bls_map, eqW_Li, neW_Li, eqW_int, neW_int, W.isFlat, W.isFlats, wipeW, tgS, setAll, stosW_nil, stosW_cons, stoW_1, stoW_2, isinS, notinS, ir_is_table, hmo, h1', hn']
  refine loop1 (i := 1) (List.range n) (fun i => Rw n (f i)) (fun _ : Unit => [some (Tw n f), none, none, none, none, none]) (fun _ _ => True) () (by simp [e_var, ev_cst, e_gci, ev_op, ev_tup, ev_lst, ev_call, ev_and, ev_or, e_not, e_ifx, e_and1, e_and2, e_or1, e_or2, e_chain, e_chain3, e_comp, evs_nil, es_cons, e_flat, i_lst, i_rng1, i_rng2, i_zip, i_enum, s_asg, s_app, s_ifs, s_ret, s_retV, s_exp, s_rai, s_pas, s_brk, s_asgT, s_unp, s_setT, s_appK, exL_nil, exL_kil, exL_frz, opS, addS, subS, mulS, fdivS, modS, powS, negS, eqS, neS, ltS, leS, gtS, geS, lenS, sumS, absS, max1S, min1S, max2S, min2S, all1S, any1S, int1S, isiS, isiT, isNS, notNS, isBS, notBS, W.isNon, ixS_lst, ixS_tup, catS, repS, slcAS, slcBS, revS, sortedS, listS, rngLS, flIf, startW, ints_map, bls_map, eqW_Li, neW_Li, eqW_int, neW_int, W.isFlat, W.isFlats, wipeW, tgS, setAll, stosW_nil, stosW_cons, stoW_1, stoW_2, isinS, notinS]) rfl trivial ?_ (fun _ => rfl) ?_
  · intro pre i post _ e _
    have hi : i < n := List.mem_range.mp (by rw [e]; simp)
    refine ⟨(), some (Rw n (f i)), ?_, trivial⟩
    simp [e_var, ev_cst, e_gci, ev_op, ev_tup, ev_lst, ev_call, ev_and, ev_or, e_not, e_ifx, e_and1, e_and2, e_or1, e_or2, e_chain, e_chain3, e_comp, evs_nil, es_cons, e_flat, i_lst, i_rng1, i_rng2, i_zip, i_enum, s_asg, s_app, s_ifs, s_ret, s_retV, s_exp, s_rai, s_pas, s_brk, s_asgT, s_unp, s_setT, s_appK, exL_nil, exL_kil, exL_frz, opS, addS, subS, mulS, fdivS, modS, powS, negS, eqS, neS, ltS, leS, gtS, geS, lenS, sumS, absS, max1S, min1S, max2S, min2S, all1S, any1S, int1S, isiS, isiT, isNS, notNS, isBS, notBS, W.isNon, ixS_lst, ixS_tup, catS, repS, slcAS, slcBS, revS, sortedS, listS, rngLS, flIf, startW, ints_map, bls_map, eqW_Li, neW_Li, eqW_int, neW_int, W.isFlat, W.isFlats, wipeW, tgS, setAll, stosW_nil, stosW_cons, stoW_1, stoW_2, isinS, notinS]
    rw [mapL_of (fun _ => .bl true) fun j hj => by simp [e_var, ev_cst, e_gci, ev_op, ev_tup, ev_lst, ev_call, ev_and, ev_or, e_not, e_ifx, e_and1, e_and2, e_or1, e_or2, e_chain, e_chain3, e_comp, evs_nil, es_cons, e_flat, i_lst, i_rng1, i_rng2, i_zip, i_enum, s_asg, s_app, s_ifs, s_ret, s_retV, s_exp, s_rai, s_pas, s_brk, s_asgT, s_unp, s_setT, s_appK, exL_nil, exL_kil, exL_frz, opS, addS, subS, mulS, fdivS, modS, powS, negS, eqS, neS, ltS, leS, gtS, geS, lenS, sumS, absS, max1S, min1S, max2S, min2S, all1S, any1S, int1S, isiS, isiT, isNS, notNS, isBS, notBS, W.isNon, ixS_lst, ixS_tup, catS, repS, slcAS, slcBS, revS, sortedS, listS, rngLS, flIf, startW, ints_map, bls_map, eqW_Li, neW_Li, eqW_int, neW_int, W.isFlat, W.isFlats, wipeW, tgS, setAll, stosW_nil, stosW_cons, stoW_1, stoW_2, isinS, notinS, hsh i j hi (List.mem_range.mp hj)]]
    have hb : W.bls ((List.range n).map fun _ => W.bl true) = some ((List.range n).map fun _ => true) := bls_mapf (fun _ => true) _
    have hall : ((List.range n).map fun _ => true).all id = true := all_true fun _ _ => rfl
    simp only [lstO_some, consO_val, osbind_vals, opS, all1S, hb, hall]
    simp [e_var, ev_cst, e_gci, ev_op, ev_tup, ev_lst, ev_call, ev_and, ev_or, e_not, e_ifx, e_and1, e_and2, e_or1, e_or2, e_chain, e_chain3, e_comp, evs_nil, es_cons, e_flat, i_lst, i_rng1, i_rng2, i_zip, i_enum, s_asg, s_app, s_ifs, s_ret, s_retV, s_exp, s_rai, s_pas, s_brk, s_asgT, s_unp, s_setT, s_appK, exL_nil, exL_kil, exL_frz, opS, addS, subS, mulS, fdivS, modS, powS, negS, eqS, neS, ltS, leS, gtS, geS, lenS, sumS, absS, max1S, min1S, max2S, min2S, all1S, any1S, int1S, isiS, isiT, isNS, notNS, isBS, notBS, W.isNon, ixS_lst, ixS_tup, catS, repS, slcAS, slcBS, revS, sortedS, listS, rngLS, flIf, startW, ints_map, bls_map, eqW_Li, neW_Li, eqW_int, neW_int, W.isFlat, W.isFlats, wipeW, tgS, setAll, stosW_nil, stosW_cons, stoW_1, stoW_2, isinS, notinS]
  · intro _ o _
    simp [e_var, ev_cst, e_gci, ev_op, ev_tup, ev_lst, ev_call, ev_and, ev_or, e_not, e_ifx, e_and1, e_and2, e_or1, e_or2, e_chain, e_chain3, e_comp, evs_nil, es_cons, e_flat, i_lst, i_rng1, i_rng2, i_zip, i_enum, s_asg, s_app, s_ifs, s_ret, s_retV, s_exp, s_rai, s_pas, s_brk, s_asgT, s_unp, s_setT, s_appK, exL_nil, exL_kil, exL_frz, opS, addS, subS, mulS, fdivS, modS, powS, negS, eqS, neS, ltS, leS, gtS, geS, lenS, sumS, absS, max1S, min1S, max2S, min2S, all1S, any1S, int1S, isiS, isiT, isNS, notNS, isBS, notBS, W.isNon, ixS_lst, ixS_tup, catS, repS, slcAS, slcBS, revS, sortedS, listS, rngLS, flIf, startW, ints_map, bls_map, eqW_Li, neW_Li, eqW_int, neW_int, W.isFlat, W.isFlats, wipeW, tgS, setAll, stosW_nil, stosW_cons, stoW_1, stoW_2, isinS, notinS, rng_nat n (by omega)]
    rw [mapL_of (fun j => Rw n fun i => f i j) fun j hj => by
      have ha : ∀ i, atI ((List.range n).map fun j => pt (f i j)) (j : Int) = some (pt (f i j)) := fun i => at_range _ (List.mem_range.mp hj)
      simp [e_var, ev_cst, e_gci, ev_op, ev_tup, ev_lst, ev_call, ev_and, ev_or, e_not, e_ifx, e_and1, e_and2, e_or1, e_or2, e_chain, e_chain3, e_comp, evs_nil, es_cons, e_flat, i_lst, i_rng1, i_rng2, i_zip, i_enum, s_asg, s_app, s_ifs, s_ret, s_retV, s_exp, s_rai, s_pas, s_brk, s_asgT, s_unp, s_setT, s_appK, exL_nil, exL_kil, exL_frz, opS, addS, subS, mulS, fdivS, modS, powS, negS, eqS, neS, ltS, leS, gtS, geS, lenS, sumS, absS, max1S, min1S, max2S, min2S, all1S, any1S, int1S, isiS, isiT, isNS, notNS, isBS, notBS, W.isNon, ixS_lst, ixS_tup, catS, repS, slcAS, slcBS, revS, sortedS, listS, rngLS, flIf, startW, ints_map, bls_map, eqW_Li, neW_Li, eqW_int, neW_int, W.isFlat, W.isFlats, wipeW, tgS, setAll, stosW_nil, stosW_cons, stoW_1, stoW_2, isinS, notinS, ha]]
    have hL : n + n ≤ LIM := by show _ ≤ 100000; omega
    simp [e_var, ev_cst, e_gci, ev_op, ev_tup, ev_lst, ev_call, ev_and, ev_or, e_not, e_ifx, e_and1, e_and2, e_or1, e_or2, e_chain, e_chain3, e_comp, evs_nil, es_cons, e_flat, i_lst, i_rng1, i_rng2, i_zip, i_enum, s_asg, s_app, s_ifs, s_ret, s_retV, s_exp, s_rai, s_pas, s_brk, s_asgT, s_unp, s_setT, s_appK, exL_nil, exL_kil, exL_frz, opS, addS, subS, mulS, fdivS, modS, powS, negS, eqS, neS, ltS, leS, gtS, geS, lenS, sumS, absS, max1S, min1S, max2S, min2S, all1S, any1S, int1S, isiS, isiT, isNS, notNS, isBS, notBS, W.isNon, ixS_lst, ixS_tup, catS, repS, slcAS, slcBS, revS, sortedS, listS, rngLS, flIf, startW, ints_map, bls_map, eqW_Li, neW_Li, eqW_int, neW_int, W.isFlat, W.isFlats, wipeW, tgS, setAll, stosW_nil, stosW_cons, stoW_1, stoW_2, isinS, notinS, hL]
    rw [app_map, kComp_map]
    have hb : ∀ x : Nat ⊕ Nat, x ∈ (List.range n).map (Sum.inl (β := Nat)) ++ (List.range n).map (Sum.inr (α := Nat)) → ∃ g : Nat → Rat, Sum.elim (fun i => Rw n (f i)) (fun j => Rw n fun i => f i j) x = Rw n g ∧ callN T (m + 4) 6 [Rw n g] = .val (pt 1) := by
      intro x hx
      rcases List.mem_append.mp hx with hx | hx
      · obtain ⟨i, hi, rfl⟩ := List.mem_map.mp hx
        exact ⟨f i, rfl, by rw [hs1, t.ds.row i (List.mem_range.mp hi)]⟩
      · obtain ⟨j, hj, rfl⟩ := List.mem_map.mp hx
        exact ⟨fun i => f i j, rfl, by rw [hs2, t.ds.col j (List.mem_range.mp hj)]⟩
    rw [mapL_of (fun _ => .bl true) fun x hx => by
      obtain ⟨g, e1, e2⟩ := hb x hx
      have e3 := eqW_pt 1 1
      simp at e3
      have e4 : W.tup [W.int 1, W.int 1] = pt 1 := rfl
      simp [e_var, ev_cst, e_gci, ev_op, ev_tup, ev_lst, ev_call, ev_and, ev_or, e_not, e_ifx, e_and1, e_and2, e_or1, e_or2, e_chain, e_chain3, e_comp, evs_nil, es_cons, e_flat, i_lst, i_rng1, i_rng2, i_zip, i_enum, s_asg, s_app, s_ifs, s_ret, s_retV, s_exp, s_rai, s_pas, s_brk, s_asgT, s_unp, s_setT, s_appK, exL_nil, exL_kil, exL_frz, opS, addS, subS, mulS, fdivS, modS, powS, negS, eqS, neS, ltS, leS, gtS, geS, lenS, sumS, absS, max1S, min1S, max2S, min2S, all1S, any1S, int1S, isiS, isiT, isNS, notNS, isBS, notBS, W.isNon, ixS_lst, ixS_tup, catS, repS, slcAS, slcBS, revS, sortedS, listS, rngLS, flIf, startW, ints_map, bls_map, eqW_Li, neW_Li, eqW_int, neW_int, W.isFlat, W.isFlats, wipeW, tgS, setAll, stosW_nil, stosW_cons, stoW_1, stoW_2, isinS, notinS, e1, e2, e4, e3]]
    have hb : W.bls (((List.range n).map (Sum.inl (β := Nat)) ++ (List.range n).map (Sum.inr (α := Nat))).map fun _ => W.bl true) = some (((List.range n).map (Sum.inl (β := Nat)) ++ (List.range n).map (Sum.inr (α := Nat))).map fun _ => true) := bls_mapf (fun _ => true) _
    have hall : (((List.range n).map (Sum.inl (β := Nat)) ++ (List.range n).map (Sum.inr (α := Nat))).map fun _ => true).all id = true := all_true fun _ _ => rfl
    simp only [lstO_some, consO_val, osbind_vals, opS, all1S, hb, hall, kRet_v]
abbrev hTab : List Nat := [0, 1, 2, 6, 8, 9, 20, 21, 1000]
theorem c_asked_table (h : Has T hTab) (hk : 6 ≤ k) (h1 : 1 ≤ n) (hn : n ≤ 6) (t : Tab n D f) (sz : Sz D 7) : callN T k 21 [Tw n f] = .val .non := by
  refine up hk fun m => ?_
  obtain ⟨d, d1, d2, d3, d4⟩ := h.is 21 (by decide)
  refine callN_nx (σ := [some (Tw n f)]) d1 (by rw [d2]; rfl) ?_
  unfold startW
  rw [d4, d3]
  show exL (callN T (m + 5)) T.cs ir_asked_table [some (Tw n f)] = _
  have e := c_is_table (k := m + 5) (h.sub _ (by decide)) (by omega) h1 hn t sz
  simp [e_var, ev_cst, e_gci, ev_op, ev_tup, ev_lst, ev_call, ev_and, ev_or, e_not, e_ifx, e_and1, e_and2, e_or1, e_or2, e_chain, e_chain3, e_comp, evs_nil, es_cons, e_flat, i_lst, i_rng1, i_rng2, i_zip, i_enum, s_asg, s_app, s_ifs, s_ret, s_retV, s_exp, s_rai, s_pas, s_brk, s_asgT, s_unp, s_setT, s_appK, exL_nil, exL_kil, exL_frz, opS, addS, subS, mulS, fdivS, modS, powS, negS, eqS, neS, ltS, leS, gtS, geS, lenS, sumS, absS, max1S, min1S, max2S, min2S, all1S, any1S, int1S, isiS, isiT, isNS, notNS, isBS, notBS, W.isNon, ixS_lst, ixS_tup, catS, repS, slcAS, slcBS, revS, sortedS, listS, rngLS, flIf, startW, ints_map, bls_map, eqW_Li, neW_Li, eqW_int, neW_int, W.isFlat, W.isFlats, wipeW, tgS, setAll, stosW_nil, stosW_cons, stoW_1, stoW_2, isinS, notinS, ir_asked_table, e]
theorem c_moved (h : Has T [0, 1, 2, 4, 6, 8, 9, 10, 20, 21, 22, 23, 24, 1000]) (hk : 7 ≤ k) (h1 : 1 ≤ n) (hn : n ≤ 6) (t : Tab n D f) {ns : List Int} (hl : ns.length = n) {N : Nat} (hN : ∀ x ∈ ns, x.natAbs ≤ N) (sz : Sz D 7) (s3 : Sz D (7 * N)) (s4 : Sz 1 N) :
    callN T k 24 [Tw n f, Li ns] = .val (Rw n (mv n f (ga ns))) := by
  refine up hk fun m => Is.rt (h.is 24 (by decide)) rfl ?_
  show exL (callN T (m + 6)) T.cs ir_moved [some (Tw n f), some (Li ns)] = _
  have e1 := c_asked_table (k := m + 6) (h.sub _ (by decide)) (by omega) h1 hn t sz
  have e2 := c_asked_row (T := T) (n := m + 6) (ns := ns) (h.sub _ (by decide)) (by omega) (by omega) (by omega)
  have e3 := c_as_pairsR (T := T) (k := m + 6) (h.sub _ (by decide)) (by omega) ns
  rw [hl] at e3
  have hr := ga_bq hN
  have e4 := c_moved_of (T := T) (k := m + 6) (n := n) (r := ga ns) (h.sub _ (by decide)) (by omega) hn t.bd hr (sz.mono (by omega)) s4 (by rw [Nat.mul_one, Nat.one_mul]; exact s3)
  have hl' : (n : Int) = ns.length := by omega
  simp [e_var, ev_cst, e_gci, ev_op, ev_tup, ev_lst, ev_call, ev_and, ev_or, e_not, e_ifx, e_and1, e_and2, e_or1, e_or2, e_chain, e_chain3, e_comp, evs_nil, es_cons, e_flat, i_lst, i_rng1, i_rng2, i_zip, i_enum, s_asg, s_app, s_ifs, s_ret, s_retV, s_exp, s_rai, s_pas, s_brk, s_asgT, s_unp, s_setT, s_appK, exL_nil, exL_kil, exL_frz, opS, addS, subS, mulS, fdivS, modS, powS, negS, eqS, neS, ltS, leS, gtS, geS, lenS, sumS, absS, max1S, min1S, max2S, min2S, all1S, any1S, int1S, isiS, isiT, isNS, notNS, isBS, notBS, W.isNon, ixS_lst, ixS_tup, catS, repS, slcAS, slcBS, revS, sortedS, listS, rngLS, flIf, startW, ints_map, bls_map, eqW_Li, neW_Li, eqW_int, neW_int, W.isFlat, W.isFlats, wipeW, tgS, setAll, stosW_nil, stosW_cons, stoW_1, stoW_2, isinS, notinS, ir_moved, e1, e2, e3, hl, e4]
theorem c_behind (h : Has T [0, 1, 2, 4, 6, 8, 9, 20, 21, 25, 26, 1000]) (hk : 7 ≤ k) (h1 : 1 ≤ n) (hn : n ≤ 6) (t : Tab n D f) (u : Tab n E g) (s1 : Sz D 7) (s2 : Sz E 7) (s3 : Sz (E * D) 7) :
    callN T k 26 [Tw n f, Tw n g] = .val (Tw n (mm n g f)) := by
  refine up hk fun m => Is.rt (h.is 26 (by decide)) rfl ?_
  show exL (callN T (m + 6)) T.cs ir_behind [some (Tw n f), some (Tw n g)] = _
  have e1 := c_asked_table (k := m + 6) (h.sub _ (by decide)) (by omega) h1 hn t s1
  have e2 := c_asked_table (k := m + 6) (h.sub _ (by decide)) (by omega) h1 hn u s2
  have e3 := c_behind_of (T := T) (k := m + 6) (n := n) (h.sub _ (by decide)) (by omega) hn t.bd u.bd (s1.mono (by omega)) (s2.mono (by omega)) s3
  simp [e_var, ev_cst, e_gci, ev_op, ev_tup, ev_lst, ev_call, ev_and, ev_or, e_not, e_ifx, e_and1, e_and2, e_or1, e_or2, e_chain, e_chain3, e_comp, evs_nil, es_cons, e_flat, i_lst, i_rng1, i_rng2, i_zip, i_enum, s_asg, s_app, s_ifs, s_ret, s_retV, s_exp, s_rai, s_pas, s_brk, s_asgT, s_unp, s_setT, s_appK, exL_nil, exL_kil, exL_frz, opS, addS, subS, mulS, fdivS, modS, powS, negS, eqS, neS, ltS, leS, gtS, geS, lenS, sumS, absS, max1S, min1S, max2S, min2S, all1S, any1S, int1S, isiS, isiT, isNS, notNS, isBS, notBS, W.isNon, ixS_lst, ixS_tup, catS, repS, slcAS, slcBS, revS, sortedS, listS, rngLS, flIf, startW, ints_map, bls_map, eqW_Li, neW_Li, eqW_int, neW_int, W.isFlat, W.isFlats, wipeW, tgS, setAll, stosW_nil, stosW_cons, stoW_1, stoW_2, isinS, notinS, ir_behind, e1, e2, e3]
/-- the table of an order -/
def ordm (o : Nat → Nat) (i j : Nat) : Rat := if j = o i then 1 else 0
theorem c_by_order (h : Has T [28]) (hk : 1 ≤ k) (hn : n ≤ 6) (o : Nat → Nat) : callN T k 28 [.lst ((List.range n).map fun i => W.int (o i : Nat))] = .val (Tw n (ordm o)) := by
  refine up hk fun m => Is.rt h.1 rfl ?_
  show exL (callN T m) T.cs ir_by_order [some (.lst ((List.range n).map fun i => W.int (o i : Nat))), none, none] = _
  simp [e_var, ev_cst, e_gci, ev_op, ev_tup, ev_lst, ev_call, ev_and, ev_or, e_not, e_ifx, e_and1, e_and2, e_or1, e_or2, e_chain, e_chain3, e_comp, evs_nil, es_cons, e_flat, i_lst, i_rng1, i_rng2, i_zip, i_enum, s_asg, s_app, s_ifs, s_ret, s_retV, s_exp, s_rai, s_pas, s_brk, s_asgT, s_unp, s_setT, s_appK, exL_nil, exL_kil, exL_frz, opS, addS, subS, mulS, fdivS, modS, powS, negS, eqS, neS, ltS, leS, gtS, geS, lenS, sumS, absS, max1S, min1S, max2S, min2S, all1S, any1S, int1S, isiS, isiT, isNS, notNS, isBS, notBS, W.isNon, ixS_lst, ixS_tup, catS, repS, slcAS, slcBS, revS, sortedS, listS, rngLS, flIf, startW, ints_map, bls_map, eqW_Li, neW_Li, eqW_int, neW_int, W.isFlat, W.isFlats, wipeW, tgS, setAll, stosW_nil, stosW_cons, stoW_1, stoW_2, isinS, notinS, ir_by_order, rng_nat n (by omega)]
  intro i hi j hj
  unfold ordm
  by_cases e : j = o i
  · simp [e, pt]
  · have e' : ¬ ((j : Int) = (o i : Int)) := by omega
    simp [e, e', pt]
theorem c_by_id (h : Has T [28]) (hk : 1 ≤ k) (hn : n ≤ 6) : callN T k 28 [.lst ((List.range n).map fun (i : Nat) => W.int (i : Int))] = .val (Tw n idm) := c_by_order h hk hn fun i => i
end
end Mx
/-! # Mx36: steps -/
namespace Mx
open PySem L2
/-- a step -/
structure Stp where
  a : Nat
  b : Nat
  s : Rat
deriving DecidableEq
def stE (p : Stp) : W := .tup [.int (p.a : Nat), .int (p.b : Nat), pt p.s]
@[simp] theorem stE_flat (p : Stp) : (stE p).isFlat = true := by simp [stE, W.isFlat, W.isFlats, pt_flat]
@[simp] theorem flats_stE : ∀ l : List Stp, W.isFlats (l.map stE) = true
  | [] => rfl
  | p :: l => by rw [List.map_cons, W.isFlats, stE_flat, flats_stE l]; rfl
/-- a right step of n numbers, its share so many D-ths -/
structure Stp.Ok (n D : Nat) (p : Stp) : Prop where
  ab : p.a < p.b
  bn : p.b < n
  s0 : 0 ≤ p.s
  s1 : p.s ≤ 1
  bd : Bq D 1 p.s
/-- a row behind a step -/
def stp (p : Stp) (r : Nat → Rat) (i : Nat) : Rat := if i = p.b then r p.b - p.s * (r p.b - r p.a) else if i = p.a then r p.a + p.s * (r p.b - r p.a) else r i
/-- its table -/
def stm (p : Stp) (i j : Nat) : Rat := if i = p.b then (if j = p.a then p.s else if j = p.b then 1 - p.s else idm i j) else if i = p.a then (if j = p.b then p.s else if j = p.a then 1 - p.s else idm i j) else idm i j
section
variable {T : Tb} {k n : Nat} {D M E N : Nat} {f g : Nat → Nat → Rat} {r : Nat → Rat} {p : Stp}
theorem at3_0 (x y z : W) : atI [x, y, z] 0 = some x := rfl
theorem at3_1 (x y z : W) : atI [x, y, z] 1 = some y := rfl
theorem at3_2 (x y z : W) : atI [x, y, z] 2 = some z := rfl
theorem c_is_step (h : Has T [0, 8, 9, 31]) (hk : 3 ≤ k) (hp : p.Ok n D) (sz : Sz D 1) : callN T k 31 [stE p, .int n] = .val (.bl true) := by
  refine up hk fun m => Is.rt (h.is 31 (by decide)) rfl ?_
  show exL (callN T (m + 2)) T.cs ir_is_step [some (stE p), some (.int n)] = _
  have w1 := c_whole (n := m + 2) (h.sub [8] (by decide)) (by omega) (p.a : Nat)
  have w2 := c_whole (n := m + 2) (h.sub [8] (by decide)) (by omega) (p.b : Nat)
  have e := c_is_share (k := m + 2) (h.sub _ (by decide)) (by omega) (sz.bd hp.bd)
  have h1 : (p.a : Int) < p.b := by have := hp.ab; omega
  have h2 : (p.b : Int) < n := by have := hp.bn; omega
  have h0 : (0 : Int) ≤ p.a := by omega
  simp [hp.s0, hp.s1] at e
  unfold stE
  simp [e_var, ev_cst, e_gci, ev_op, ev_tup, ev_lst, ev_call, ev_and, ev_or, e_not, e_ifx, e_and1, e_and2, e_or1, e_or2, e_chain, e_chain3, e_comp, evs_nil, es_cons, e_flat, i_lst, i_rng1, i_rng2, i_zip, i_enum, s_asg, s_app, s_ifs, s_ret, s_retV, s_exp, s_rai, s_pas, s_brk, s_asgT, s_unp, s_setT, s_appK, exL_nil, exL_kil, exL_frz, opS, addS, subS, mulS, fdivS, modS, powS, negS, eqS, neS, ltS, leS, gtS, geS, lenS, sumS, absS, max1S, min1S, max2S, min2S, all1S, any1S, int1S, isiS, isiT, isNS, notNS, isBS, notBS, W.isNon, ixS_lst, ixS_tup, catS, repS, slcAS, slcBS, revS, sortedS, listS, rngLS, flIf, startW, ints_map, bls_map, eqW_Li, neW_Li, eqW_int, neW_int, W.isFlat, W.isFlats, wipeW, tgS, setAll, stosW_nil, stosW_cons, stoW_1, stoW_2, isinS, notinS, ir_is_step, at3_0, at3_1, at3_2, w1, w2, e, h1, h2, h0, hp.ab, hp.bn]
abbrev hSt : List Nat := [0, 8, 9, 31, 32, 1002]
theorem c_asked_steps (h : Has T hSt) (hk : 4 ≤ k) {l : List Stp} (hl : l.length ≤ 40) (hp : ∀ p ∈ l, p.Ok n D) (sz : Sz D 1) : callN T k 32 [.lst (l.map stE), .int n] = .val .non := by
  refine up hk fun m => ?_
  obtain ⟨d, d1, d2, d3, d4⟩ := h.is 32 (by decide)
  refine callN_nx (σ := [some (.lst (l.map stE)), some (.int n), none]) d1 (by rw [d2]; rfl) ?_
  unfold startW
  rw [d4, d3]
  show exL (callN T (m + 3)) T.cs ir_asked_steps [some (.lst (l.map stE)), some (.int n), none] = _
  have hmo : T.cs[2]? = some 40 := h.is 1002 (by decide)
  have hl' : ¬ ((40 : Int) < l.length) := by omega
  have hl2 : ¬ (40 < l.length) := by omega
  have e : ∀ p ∈ l, callN T (m + 3) 31 [stE p, .int n] = .val (.bl true) := fun p hq => c_is_step (h.sub _ (by decide)) (by omega) (hp p hq) sz
  simp [e_var, ev_cst, e_gci, ev_op, ev_tup, ev_lst, ev_call, ev_and, ev_or, e_not, e_ifx, e_and1, e_and2, e_or1, e_or2, e_chain, e_chain3, e_comp, evs_nil, es_cons, e_flat, i_lst, i_rng1, i_rng2, i_zip, i_enum, s_asg, s_app, s_ifs, s_ret, s_retV, s_exp, s_rai, s_pas, s_brk, s_asgT, s_unp, s_setT, s_appK, exL_nil, exL_kil, exL_frz, opS, addS, subS, mulS, fdivS, modS, powS, negS, eqS, neS, ltS, leS, gtS, geS, lenS, sumS, absS, max1S, min1S, max2S, min2S, all1S, any1S, int1S, isiS, isiT, isNS, notNS, isBS, notBS, W.isNon, ixS_lst, ixS_tup, catS, repS, slcAS, slcBS, revS, sortedS, listS, rngLS, flIf, startW, ints_map, bls_map, eqW_Li, neW_Li, eqW_int, neW_int, W.isFlat, W.isFlats, wipeW, tgS, setAll, stosW_nil, stosW_cons, stoW_1, stoW_2, isinS, notinS, ir_asked_steps, hmo, hl', hl2]
  rw [mapL_of (fun _ => .bl true) fun p hq => by simp [e_var, ev_cst, e_gci, ev_op, ev_tup, ev_lst, ev_call, ev_and, ev_or, e_not, e_ifx, e_and1, e_and2, e_or1, e_or2, e_chain, e_chain3, e_comp, evs_nil, es_cons, e_flat, i_lst, i_rng1, i_rng2, i_zip, i_enum, s_asg, s_app, s_ifs, s_ret, s_retV, s_exp, s_rai, s_pas, s_brk, s_asgT, s_unp, s_setT, s_appK, exL_nil, exL_kil, exL_frz, opS, addS, subS, mulS, fdivS, modS, powS, negS, eqS, neS, ltS, leS, gtS, geS, lenS, sumS, absS, max1S, min1S, max2S, min2S, all1S, any1S, int1S, isiS, isiT, isNS, notNS, isBS, notBS, W.isNon, ixS_lst, ixS_tup, catS, repS, slcAS, slcBS, revS, sortedS, listS, rngLS, flIf, startW, ints_map, bls_map, eqW_Li, neW_Li, eqW_int, neW_int, W.isFlat, W.isFlats, wipeW, tgS, setAll, stosW_nil, stosW_cons, stoW_1, stoW_2, isinS, notinS, e p hq]]
  have hb : W.bls (l.map fun _ => W.bl true) = some (l.map fun _ => true) := bls_mapf (fun _ => true) _
  have hall : (l.map fun _ => true).all id = true := all_true fun _ _ => rfl
  simp only [lstO_some, consO_val, osbind_vals, opS, all1S, hb, hall]
  simp [e_var, ev_cst, e_gci, ev_op, ev_tup, ev_lst, ev_call, ev_and, ev_or, e_not, e_ifx, e_and1, e_and2, e_or1, e_or2, e_chain, e_chain3, e_comp, evs_nil, es_cons, e_flat, i_lst, i_rng1, i_rng2, i_zip, i_enum, s_asg, s_app, s_ifs, s_ret, s_retV, s_exp, s_rai, s_pas, s_brk, s_asgT, s_unp, s_setT, s_appK, exL_nil, exL_kil, exL_frz, opS, addS, subS, mulS, fdivS, modS, powS, negS, eqS, neS, ltS, leS, gtS, geS, lenS, sumS, absS, max1S, min1S, max2S, min2S, all1S, any1S, int1S, isiS, isiT, isNS, notNS, isBS, notBS, W.isNon, ixS_lst, ixS_tup, catS, repS, slcAS, slcBS, revS, sortedS, listS, rngLS, flIf, startW, ints_map, bls_map, eqW_Li, neW_Li, eqW_int, neW_int, W.isFlat, W.isFlats, wipeW, tgS, setAll, stosW_nil, stosW_cons, stoW_1, stoW_2, isinS, notinS]
/-- bounds of a row behind a step -/
theorem stp_bq (hp : p.Ok n D) (hr : ∀ i, Bq E N (r i)) (i : Nat) : Bq (E * D) (3 * N) (stp p r i) := by
  have up1 : ∀ i, Bq (E * D) N (r i) := fun i => (hr i).den ⟨D, rfl⟩
  have dif : Bq (E * D) (2 * N) (p.s * (r p.b - r p.a)) := by
    have := hp.bd.mul ((hr p.b).sub (hr p.a))
    rw [Nat.mul_comm D E, Nat.one_mul, ← Nat.two_mul] at this
    exact this
  unfold stp
  split
  · exact ((up1 p.b).sub dif).mono (by omega)
  · split
    · exact ((up1 p.a).add dif).mono (by omega)
    · exact (up1 i).mono (by omega)
theorem c_step_of (h : Has T [0, 1, 2, 3, 4, 33]) (hk : 4 ≤ k) (hn : n ≤ 6) (hp : p.Ok n D) (hr : ∀ i, Bq E N (r i)) (s1 : Sz D 1) (s2 : Sz E (2 * N)) (s3 : Sz (E * D) (2 * N)) : callN T k 33 [Rw n r, stE p] = .val (Rw n (stp p r)) := by
  refine up hk fun m => Is.rt (h.is 33 (by decide)) rfl ?_
  show exL (callN T (m + 3)) T.cs ir_step_of [some (Rw n r), some (stE p), none, none, none, none, none] = _
  have hab := hp.ab
  have hbn := hp.bn
  have bd1 : ∀ i, Bd (r i) 4000 := fun i => (s2.mono (by omega)).bd (hr i)
  have ea : atI ((List.range n).map fun j => pt (r j)) (p.a : Int) = some (pt (r p.a)) := at_range _ (by omega)
  have eb : atI ((List.range n).map fun j => pt (r j)) (p.b : Int) = some (pt (r p.b)) := at_range _ (by omega)
  have c1 := c_less (n := m + 3) (p := r p.b) (q := r p.a) (h.sub _ (by decide)) (by omega) (bd1 _) (bd1 _)
  have dq : Bq E (2 * N) (r p.b - r p.a) := by rw [Nat.two_mul]; exact (hr p.b).sub (hr p.a)
  have gq : Bq (E * D) (2 * N) (p.s * (r p.b - r p.a)) := by
    have := hp.bd.mul dq
    rw [Nat.mul_comm D E, Nat.one_mul] at this
    exact this
  have c2 := c_times (n := m + 3) (p := p.s) (q := r p.b - r p.a) (h.sub _ (by decide)) (by omega) (s1.bd hp.bd) (s2.bd dq)
  have gb := s3.bd gq
  have c3 := c_plus (n := m + 3) (p := r p.a) (q := p.s * (r p.b - r p.a)) (h.sub _ (by decide)) (by omega) (bd1 _) gb
  have c4 := c_less (n := m + 3) (p := r p.b) (q := p.s * (r p.b - r p.a)) (h.sub _ (by decide)) (by omega) (bd1 _) gb
  have ia : ixN n (p.a : Int) = some p.a := by unfold ixN; rw [if_pos (by omega)]; simp; omega
  have ib : ixN n (p.b : Int) = some p.b := by unfold ixN; rw [if_pos (by omega)]; simp; omega
  unfold stE
  simp [e_var, ev_cst, e_gci, ev_op, ev_tup, ev_lst, ev_call, ev_and, ev_or, e_not, e_ifx, e_and1, e_and2, e_or1, e_or2, e_chain, e_chain3, e_comp, evs_nil, es_cons, e_flat, i_lst, i_rng1, i_rng2, i_zip, i_enum, s_asg, s_app, s_ifs, s_ret, s_retV, s_exp, s_rai, s_pas, s_brk, s_asgT, s_unp, s_setT, s_appK, exL_nil, exL_kil, exL_frz, opS, addS, subS, mulS, fdivS, modS, powS, negS, eqS, neS, ltS, leS, gtS, geS, lenS, sumS, absS, max1S, min1S, max2S, min2S, all1S, any1S, int1S, isiS, isiT, isNS, notNS, isBS, notBS, W.isNon, ixS_lst, ixS_tup, catS, repS, slcAS, slcBS, revS, sortedS, listS, rngLS, flIf, startW, ints_map, bls_map, eqW_Li, neW_Li, eqW_int, neW_int, W.isFlat, W.isFlats, wipeW, tgS, setAll, stosW_nil, stosW_cons, stoW_1, stoW_2, isinS, notinS, ir_step_of, ea, eb, c1, c2, c3, c4, ia, ib, W.isFlat, W.isFlats]
  rw [set_range, set_range]
  refine List.map_congr_left fun j _ => ?_
  unfold stp
  split
  · rfl
  · split
    · rfl
    · rfl
/-- several -/
def stps (l : List Stp) (r : Nat → Rat) : Nat → Rat := l.foldl (fun r p => stp p r) r
theorem stps_bq {l : List Stp} (hp : ∀ p ∈ l, p.Ok n D) : ∀ {E N : Nat} {r : Nat → Rat}, (∀ i, Bq E N (r i)) → ∀ i, Bq (E * D ^ l.length) (3 ^ l.length * N) (stps l r i) := by
  induction l with
  | nil => intro E N r hr i; simpa [stps] using hr i
  | cons q l ih =>
    intro E N r hr i
    have h1 := stp_bq (hp q List.mem_cons_self) hr
    have h2 := ih (fun p h => hp p (List.mem_cons_of_mem _ h)) h1 i
    have e1 : E * D * D ^ l.length = E * D ^ (l.length + 1) := by rw [Nat.pow_succ]; grind
    have e2 : 3 ^ l.length * (3 * N) = 3 ^ (l.length + 1) * N := by rw [Nat.pow_succ]; grind
    rw [e1, e2] at h2
    exact h2
theorem c_stepped (h : Has T [0, 1, 2, 3, 4, 8, 9, 10, 23, 31, 32, 33, 34, 1000, 1002]) (hk : 5 ≤ k) (h1 : 1 ≤ n) (hn : n ≤ 6) {ns : List Int} (hl : ns.length = n) {N : Nat} (hN : ∀ x ∈ ns, x.natAbs ≤ N) {l : List Stp} (hl40 : l.length ≤ 40) (hp : ∀ p ∈ l, p.Ok n D) (s1 : Sz D 1)
    (s2 : Sz (D ^ l.length) (2 * (3 ^ l.length * N))) : callN T k 34 [Li ns, .lst (l.map stE)] = .val (Rw n (stps l (ga ns))) := by
  refine up hk fun m => Is.rt (h.is 34 (by decide)) rfl ?_
  show exL (callN T (m + 4)) T.cs ir_stepped [some (Li ns), some (.lst (l.map stE)), none, none] = _
  have e1 := c_asked_row (T := T) (n := m + 4) (ns := ns) (h.sub _ (by decide)) (by omega) (by omega) (by omega)
  have e2 := c_asked_steps (T := T) (k := m + 4) (h.sub _ (by decide)) (by omega) hl40 hp s1
  have e3 := c_as_pairsR (T := T) (k := m + 4) (h.sub _ (by decide)) (by omega) ns
  rw [hl] at e3
  simp [e_var, ev_cst, e_gci, ev_op, ev_tup, ev_lst, ev_call, ev_and, ev_or, e_not, e_ifx, e_and1, e_and2, e_or1, e_or2, e_chain, e_chain3, e_comp, evs_nil, es_cons, e_flat, i_lst, i_rng1, i_rng2, i_zip, i_enum, s_asg, s_app, s_ifs, s_ret, s_retV, s_exp, s_rai, s_pas, s_brk, s_asgT, s_unp, s_setT, s_appK, exL_nil, exL_kil, exL_frz, opS, addS, subS, mulS, fdivS, modS, powS, negS, eqS, neS, ltS, leS, gtS, geS, lenS, sumS, absS, max1S, min1S, max2S, min2S, all1S, any1S, int1S, isiS, isiT, isNS, notNS, isBS, notBS, W.isNon, ixS_lst, ixS_tup, catS, repS, slcAS, slcBS, revS, sortedS, listS, rngLS, flIf, startW, ints_map, bls_map, eqW_Li, neW_Li, eqW_int, neW_int, W.isFlat, W.isFlats, wipeW, tgS, setAll, stosW_nil, stosW_cons, stoW_1, stoW_2, isinS, notinS, ir_stepped, e1, hl, e2, e3]
  refine loopF (i := 3) (k := 2) l stE (fun r => Rw n r) (fun r p => stp p r) (ga ns) (by decide) (by simp [e_var, ev_cst, e_gci, ev_op, ev_tup, ev_lst, ev_call, ev_and, ev_or, e_not, e_ifx, e_and1, e_and2, e_or1, e_or2, e_chain, e_chain3, e_comp, evs_nil, es_cons, e_flat, i_lst, i_rng1, i_rng2, i_zip, i_enum, s_asg, s_app, s_ifs, s_ret, s_retV, s_exp, s_rai, s_pas, s_brk, s_asgT, s_unp, s_setT, s_appK, exL_nil, exL_kil, exL_frz, opS, addS, subS, mulS, fdivS, modS, powS, negS, eqS, neS, ltS, leS, gtS, geS, lenS, sumS, absS, max1S, min1S, max2S, min2S, all1S, any1S, int1S, isiS, isiT, isNS, notNS, isBS, notBS, W.isNon, ixS_lst, ixS_tup, catS, repS, slcAS, slcBS, revS, sortedS, listS, rngLS, flIf, startW, ints_map, bls_map, eqW_Li, neW_Li, eqW_int, neW_int, W.isFlat, W.isFlats, wipeW, tgS, setAll, stosW_nil, stosW_cons, stoW_1, stoW_2, isinS, notinS]) rfl (fun pre x post e => ?_) (fun o => ?_)
  · have hx := hp x (by rw [e]; simp)
    have hr := stps_bq (l := pre) (fun p h => hp p (by rw [e]; simp [h])) (ga_bq hN)
    have dpos : 0 < D := s1.1
    have hlen : pre.length + 1 ≤ l.length := by rw [e]; simp
    have n3 : 3 ^ pre.length * N ≤ 3 ^ l.length * N := Nat.mul_le_mul_right _ (Nat.pow_le_pow_right (by decide) (by omega))
    have szl : ∀ d, d ∣ D ^ l.length → Sz d (2 * (3 ^ pre.length * N)) := fun d hd => ⟨Nat.pos_of_dvd_of_pos hd (Nat.pow_pos dpos), Nat.lt_of_le_of_lt (Nat.mul_le_mul (by omega) (Nat.le_of_dvd (Nat.pow_pos dpos) hd)) s2.2⟩
    have c := c_step_of (T := T) (k := m + 4) (r := stps pre (ga ns)) (h.sub _ (by decide)) (by omega) hn hx hr s1 (szl _ (by rw [Nat.one_mul]; exact Nat.pow_dvd_pow D (by omega))) (szl _ (by rw [Nat.one_mul, ← Nat.pow_succ]; exact Nat.pow_dvd_pow D (by omega)))
    have c' : callN T (m + 4) 33 [Rw n (List.foldl (fun r p => stp p r) (ga ns) pre), stE x] = .val (Rw n (stp x (List.foldl (fun r p => stp p r) (ga ns) pre))) := c
    simp [e_var, ev_cst, e_gci, ev_op, ev_tup, ev_lst, ev_call, ev_and, ev_or, e_not, e_ifx, e_and1, e_and2, e_or1, e_or2, e_chain, e_chain3, e_comp, evs_nil, es_cons, e_flat, i_lst, i_rng1, i_rng2, i_zip, i_enum, s_asg, s_app, s_ifs, s_ret, s_retV, s_exp, s_rai, s_pas, s_brk, s_asgT, s_unp, s_setT, s_appK, exL_nil, exL_kil, exL_frz, opS, addS, subS, mulS, fdivS, modS, powS, negS, eqS, neS, ltS, leS, gtS, geS, lenS, sumS, absS, max1S, min1S, max2S, min2S, all1S, any1S, int1S, isiS, isiT, isNS, notNS, isBS, notBS, W.isNon, ixS_lst, ixS_tup, catS, repS, slcAS, slcBS, revS, sortedS, listS, rngLS, flIf, startW, ints_map, bls_map, eqW_Li, neW_Li, eqW_int, neW_int, W.isFlat, W.isFlats, wipeW, tgS, setAll, stosW_nil, stosW_cons, stoW_1, stoW_2, isinS, notinS, c']
  · simp [e_var, ev_cst, e_gci, ev_op, ev_tup, ev_lst, ev_call, ev_and, ev_or, e_not, e_ifx, e_and1, e_and2, e_or1, e_or2, e_chain, e_chain3, e_comp, evs_nil, es_cons, e_flat, i_lst, i_rng1, i_rng2, i_zip, i_enum, s_asg, s_app, s_ifs, s_ret, s_retV, s_exp, s_rai, s_pas, s_brk, s_asgT, s_unp, s_setT, s_appK, exL_nil, exL_kil, exL_frz, opS, addS, subS, mulS, fdivS, modS, powS, negS, eqS, neS, ltS, leS, gtS, geS, lenS, sumS, absS, max1S, min1S, max2S, min2S, all1S, any1S, int1S, isiS, isiT, isNS, notNS, isBS, notBS, W.isNon, ixS_lst, ixS_tup, catS, repS, slcAS, slcBS, revS, sortedS, listS, rngLS, flIf, startW, ints_map, bls_map, eqW_Li, neW_Li, eqW_int, neW_int, W.isFlat, W.isFlats, wipeW, tgS, setAll, stosW_nil, stosW_cons, stoW_1, stoW_2, isinS, notinS]
    exact fun _ _ => rfl
/-! ## the steps' tables -/
theorem stm_mv (hab : p.a < p.b) (hbn : p.b < n) {i : Nat} (hi : i < n) : mv n (stm p) r i = stp p r i := by
  have key : ∀ (c d : Rat), sm n (fun j => (if j = p.a then c else if j = p.b then d else 0) * r j) = c * r p.a + d * r p.b := by
    intro c d
    have e : ∀ j, (if j = p.a then c else if j = p.b then d else 0) * r j = (if j = p.a then c * r p.a else 0) + (if j = p.b then d * r p.b else 0) := by
      intro j
      by_cases h1 : j = p.a
      · have h2 : ¬ j = p.b := by omega
        rw [if_pos h1, if_pos h1, if_neg h2, h1]; grind
      · by_cases h2 : j = p.b
        · rw [if_neg h1, if_pos h2, if_neg h1, if_pos h2, h2]; grind
        · rw [if_neg h1, if_neg h2, if_neg h1, if_neg h2]; grind
    rw [sm_congr fun j _ => e j, sm_add, sm_one (k := p.a) (by omega) fun j _ hj => if_neg hj, sm_one (k := p.b) hbn fun j _ hj => if_neg hj, if_pos rfl, if_pos rfl]
  unfold mv stp
  by_cases h1 : i = p.b
  · rw [if_pos h1]
    have e : ∀ j, stm p i j * r j = (if j = p.a then p.s else if j = p.b then 1 - p.s else 0) * r j := fun j => by
      unfold stm idm
      rw [if_pos h1]
      by_cases h2 : j = p.a
      · rw [if_pos h2, if_pos h2]
      · by_cases h3 : j = p.b
        · rw [if_neg h2, if_pos h3, if_neg h2, if_pos h3]
        · rw [if_neg h2, if_neg h3, if_neg h2, if_neg h3, if_neg (by omega)]
    rw [sm_congr fun j _ => e j, key]
    grind
  · rw [if_neg h1]
    by_cases h4 : i = p.a
    · rw [if_pos h4]
      have e : ∀ j, stm p i j * r j = (if j = p.a then 1 - p.s else if j = p.b then p.s else 0) * r j := fun j => by
        unfold stm idm
        rw [if_neg h1, if_pos h4]
        by_cases h2 : j = p.a
        · rw [if_neg (by omega), if_pos h2, if_pos h2]
        · by_cases h3 : j = p.b
          · rw [if_pos h3, if_neg h2, if_pos h3]
          · rw [if_neg h3, if_neg h2, if_neg h2, if_neg h3, if_neg (by omega)]
      rw [sm_congr fun j _ => e j, key]
      grind
    · rw [if_neg h4]
      have e : ∀ j, stm p i j = idm i j := fun j => by unfold stm; rw [if_neg h1, if_neg h4]
      rw [sm_congr fun j _ => by rw [e j]]
      exact mv_id r hi
theorem stm_symm (hab : p.a < p.b) (i j : Nat) : stm p i j = stm p j i := by
  unfold stm idm
  grind
theorem stm_row (hab : p.a < p.b) (hbn : p.b < n) {i : Nat} (hi : i < n) : sm n (stm p i) = 1 := by
  have h := stm_mv (r := fun _ => 1) hab hbn hi
  have e : mv n (stm p) (fun _ => 1) i = sm n (stm p i) := sm_congr fun k _ => by grind
  rw [← e, h]
  unfold stp
  split
  · grind
  · split <;> grind
theorem stm_ds (hp : p.Ok n D) : DS n (stm p) where
  nn := fun i j _ _ => by
    have h0 := hp.s0
    have h1 := hp.s1
    unfold stm idm
    grind
  row := fun i hi => stm_row hp.ab hp.bn hi
  col := fun j hj => by
    rw [sm_congr fun i _ => stm_symm hp.ab i j]
    exact stm_row hp.ab hp.bn hj
theorem stm_bq (hp : p.Ok n D) (i j : Nat) : Bq D 1 (stm p i j) := by
  have hi : ∀ i j, Bq D 1 (idm i j) := fun i j => by
    unfold idm
    split
    · exact Bq.one (Nat.le_refl _)
    · exact Bq.zero
  have h1 : Bq D 1 (1 - p.s) := by
    obtain ⟨z, e1, e2⟩ := hp.bd
    refine ⟨(D : Int) - z, ?_, ?_⟩
    · rw [Rat.intCast_sub]
      have : (((D : Nat) : Int) : Rat) = (D : Rat) := rfl
      rw [this]; grind
    · have hD : (0 : Rat) ≤ (D : Rat) := Rat.natCast_nonneg
      have z0 : (0 : Rat) ≤ (z : Rat) := by rw [← e1]; exact Rat.mul_nonneg hp.s0 hD
      have e0 : (0 : Int) ≤ z := by exact_mod_cast z0
      omega
  unfold stm
  split
  · split
    · exact hp.bd
    · split
      · exact h1
      · exact hi i j
  · split
    · split
      · exact hp.bd
      · split
        · exact h1
        · exact hi i j
    · exact hi i j
theorem set_tb {n a c : Nat} (f : Nat → Nat → Rat) (v : Rat) (ha : a < n) (hc : c < n) : set2 (.val (Tw n f)) (.val (.int (a : Int))) (.val (.int (c : Int))) (pt v) = some (Tw n fun i j => if i = a ∧ j = c then v else f i j) := by
  have ix : ∀ x : Nat, x < n → ixN n (x : Int) = some x := fun x hx => by unfold ixN; rw [if_pos (by omega)]; simp; omega
  unfold set2
  simp only [List.length_map, List.length_range, ix a ha, List.getElem?_map, List.getElem?_range ha, Option.map_some, ix c hc]
  rw [set_range, set_range]
  congr 2
  refine List.map_congr_left fun i _ => ?_
  by_cases h : i = a
  · rw [if_pos h]
    refine congrArg W.lst (List.map_congr_left fun j _ => ?_)
    by_cases h2 : j = c
    · simp [h, h2]
    · simp [h, h2]
  · rw [if_neg h]
    refine congrArg W.lst (List.map_congr_left fun j _ => ?_)
    simp [h]
theorem c_step_table (h : Has T [0, 1, 3, 28, 35]) (hk : 4 ≤ k) (hn : n ≤ 6) (hp : p.Ok n D) (s1 : Sz D 1) : callN T k 35 [.int n, stE p] = .val (Tw n (stm p)) := by
  refine up hk fun m => Is.rt (h.is 35 (by decide)) rfl ?_
  show exL (callN T (m + 3)) T.cs ir_step_table [some (.int n), some (stE p), none, none, none, none, none] = _
  have hab := hp.ab
  have hbn := hp.bn
  have e1 := c_by_id (T := T) (k := m + 3) (n := n) (h.sub _ (by decide)) (by omega) hn
  have c1 := c_less (n := m + 3) (p := 1) (q := p.s) (h.sub _ (by decide)) (by omega) (s1.bd (Bq.one (Nat.le_refl _))) (s1.bd hp.bd)
  rw [pt1] at c1
  have hr : (n : Int) ≤ LIM ∧ (-1000000 : Int) ≤ n := ⟨by show (n : Int) ≤ (100000 : Nat); omega, by omega⟩
  have hb := fun f v => set_tb (n := n) (a := p.a) (c := p.a) f v (by omega) (by omega)
  have hb2 := fun f v => set_tb (n := n) (a := p.a) (c := p.b) f v (by omega) (by omega)
  have hb3 := fun f v => set_tb (n := n) (a := p.b) (c := p.b) f v (by omega) (by omega)
  have hb4 := fun f v => set_tb (n := n) (a := p.b) (c := p.a) f v (by omega) (by omega)
  unfold stE
  simp only [ir_step_table]
  simp [e_var, ev_cst, e_gci, ev_op, ev_tup, ev_lst, ev_call, ev_and, ev_or, e_not, e_ifx, e_and1, e_and2, e_or1, e_or2, e_chain, e_chain3, e_comp, evs_nil, es_cons, e_flat, i_lst, i_rng1, i_rng2, i_zip, i_enum, s_asg, s_app, s_ifs, s_ret, s_retV, s_exp, s_rai, s_pas, s_brk, s_asgT, s_unp, s_setT, s_appK, exL_nil, exL_kil, exL_frz, opS, addS, subS, mulS, fdivS, modS, powS, negS, eqS, neS, ltS, leS, gtS, geS, lenS, sumS, absS, max1S, min1S, max2S, min2S, all1S, any1S, int1S, isiS, isiT, isNS, notNS, isBS, notBS, W.isNon, ixS_lst, ixS_tup, catS, repS, slcAS, slcBS, revS, sortedS, listS, rngLS, flIf, startW, ints_map, bls_map, eqW_Li, neW_Li, eqW_int, neW_int, W.isFlat, W.isFlats, wipeW, tgS, setAll, stosW_nil, stosW_cons, stoW_1, stoW_2, isinS, notinS, e1, c1, hr.1, hr.2, W.isFlat, W.isFlats, List.map_map, hb, hb2, hb3, hb4]
  intro i hi j hj
  congr 1
  unfold stm
  grind
/-- the steps' table -/
def stbm (n : Nat) (l : List Stp) : Nat → Nat → Rat := l.foldl (fun f p => mm n (stm p) f) idm
theorem stbm_snoc (n : Nat) (l : List Stp) (p : Stp) : stbm n (l ++ [p]) = mm n (stm p) (stbm n l) := by unfold stbm; rw [List.foldl_append]; rfl
theorem snoc_ind {P : List Stp → Prop} (h0 : P []) (h1 : ∀ l p, P l → P (l ++ [p])) (l : List Stp) : P l := by
  have : ∀ m : List Stp, P m.reverse := by
    intro m
    induction m with
    | nil => exact h0
    | cons p m ih => rw [List.reverse_cons]; exact h1 _ _ ih
  have e := this l.reverse
  rwa [List.reverse_reverse] at e
theorem stbm_tab : ∀ (l : List Stp), (∀ p ∈ l, p.Ok n D) → DS n (stbm n l) ∧ ∀ i j, Bq (D ^ l.length) (n ^ l.length) (stbm n l i j) := by
  refine snoc_ind (fun _ => ⟨DS.id n, fun i j => ?_⟩) fun l p ih hp => ?_
  · show Bq 1 1 (idm i j)
    unfold idm
    split
    · exact Bq.one (Nat.le_refl _)
    · exact Bq.zero
  · obtain ⟨h1, h2⟩ := ih fun q hq => hp q (by simp [hq])
    have hq := hp p (by simp)
    rw [stbm_snoc]
    refine ⟨(stm_ds hq).mul h1, fun i j => ?_⟩
    rw [List.length_append, List.length_singleton, Nat.pow_succ, Nat.pow_succ, Nat.mul_comm (D ^ l.length), Nat.mul_comm (n ^ l.length)]
    have := Bq.sm (n := n) (f := fun k => stm p i k * stbm n l k j) fun k _ => (stm_bq hq i k).mul (h2 k j)
    rw [Nat.one_mul] at this
    exact this
theorem stbm_mv (l : List Stp) (hp : ∀ p ∈ l, p.Ok n D) : ∀ i, i < n → mv n (stbm n l) r i = stps l r i := by
  revert hp
  refine snoc_ind (P := fun l => (∀ p ∈ l, p.Ok n D) → ∀ i, i < n → mv n (stbm n l) r i = stps l r i) (fun _ i hi => mv_id r hi) (fun l p ih hp i hi => ?_) l
  have hq := hp p (by simp)
  have ih := ih fun q hq => hp q (by simp [hq])
  have e : stps (l ++ [p]) r = stp p (stps l r) := by unfold stps; rw [List.foldl_append]; rfl
  rw [stbm_snoc, mm_mv, e, mv_congr (r' := stps l r) (fun k _ => rfl) ih]
  exact stm_mv hq.ab hq.bn hi
theorem stbm_app (l m : List Stp) : ∀ i j, i < n → j < n → stbm n (l ++ m) i j = mm n (stbm n m) (stbm n l) i j := by
  refine snoc_ind (P := fun m => ∀ i j, i < n → j < n → stbm n (l ++ m) i j = mm n (stbm n m) (stbm n l) i j) (fun i j hi hj => ?_) (fun m p ih i j hi hj => ?_) m
  · rw [List.append_nil]
    exact (mm_id_l _ hi).symm
  · rw [← List.append_assoc, stbm_snoc, stbm_snoc, mm_assoc]
    exact mm_congr (fun _ _ => rfl) fun k hk => ih k j hk hj
theorem c_table_by (h : Has T [0, 1, 2, 3, 4, 6, 25, 28, 35, 36]) (hk : 6 ≤ k) (hn : n ≤ 6) {l : List Stp} (hp : ∀ p ∈ l, p.Ok n D) (s1 : Sz D 1) (s2 : Sz (D ^ l.length) (7 * 6 ^ l.length)) : callN T k 36 [.int n, .lst (l.map stE)] = .val (Tw n (stbm n l)) := by
  refine up hk fun m => Is.rt (h.is 36 (by decide)) rfl ?_
  show exL (callN T (m + 5)) T.cs ir_table_by [some (.int n), some (.lst (l.map stE)), none, none] = _
  have e1 := c_by_id (T := T) (k := m + 5) (n := n) (h.sub _ (by decide)) (by omega) hn
  have hr : (n : Int) ≤ LIM ∧ (-1000000 : Int) ≤ n := ⟨by show (n : Int) ≤ (100000 : Nat); omega, by omega⟩
  simp [e_var, ev_cst, e_gci, ev_op, ev_tup, ev_lst, ev_call, ev_and, ev_or, e_not, e_ifx, e_and1, e_and2, e_or1, e_or2, e_chain, e_chain3, e_comp, evs_nil, es_cons, e_flat, i_lst, i_rng1, i_rng2, i_zip, i_enum, s_asg, s_app, s_ifs, s_ret, s_retV, s_exp, s_rai, s_pas, s_brk, s_asgT, s_unp, s_setT, s_appK, exL_nil, exL_kil, exL_frz, opS, addS, subS, mulS, fdivS, modS, powS, negS, eqS, neS, ltS, leS, gtS, geS, lenS, sumS, absS, max1S, min1S, max2S, min2S, all1S, any1S, int1S, isiS, isiT, isNS, notNS, isBS, notBS, W.isNon, ixS_lst, ixS_tup, catS, repS, slcAS, slcBS, revS, sortedS, listS, rngLS, flIf, startW, ints_map, bls_map, eqW_Li, neW_Li, eqW_int, neW_int, W.isFlat, W.isFlats, wipeW, tgS, setAll, stosW_nil, stosW_cons, stoW_1, stoW_2, isinS, notinS, ir_table_by, e1, hr.1, hr.2, List.map_map]
  refine loopF (i := 3) (k := 2) l stE (fun f => Tw n f) (fun f p => mm n (stm p) f) idm (by decide) (by simp [e_var, ev_cst, e_gci, ev_op, ev_tup, ev_lst, ev_call, ev_and, ev_or, e_not, e_ifx, e_and1, e_and2, e_or1, e_or2, e_chain, e_chain3, e_comp, evs_nil, es_cons, e_flat, i_lst, i_rng1, i_rng2, i_zip, i_enum, s_asg, s_app, s_ifs, s_ret, s_retV, s_exp, s_rai, s_pas, s_brk, s_asgT, s_unp, s_setT, s_appK, exL_nil, exL_kil, exL_frz, opS, addS, subS, mulS, fdivS, modS, powS, negS, eqS, neS, ltS, leS, gtS, geS, lenS, sumS, absS, max1S, min1S, max2S, min2S, all1S, any1S, int1S, isiS, isiT, isNS, notNS, isBS, notBS, W.isNon, ixS_lst, ixS_tup, catS, repS, slcAS, slcBS, revS, sortedS, listS, rngLS, flIf, startW, ints_map, bls_map, eqW_Li, neW_Li, eqW_int, neW_int, W.isFlat, W.isFlats, wipeW, tgS, setAll, stosW_nil, stosW_cons, stoW_1, stoW_2, isinS, notinS]) rfl (fun pre x post e => ?_) (fun o => ?_)
  · have hx := hp x (by rw [e]; simp)
    obtain ⟨_, hb⟩ := stbm_tab (n := n) (D := D) pre (fun p h => hp p (by rw [e]; simp [h]))
    have dpos : 0 < D := s1.1
    have hlen : pre.length + 1 ≤ l.length := by rw [e]; simp
    have n6 : n ^ pre.length ≤ 6 ^ l.length := Nat.le_trans (Nat.pow_le_pow_left hn _) (Nat.pow_le_pow_right (by decide) (by omega))
    have szl : ∀ d, d ∣ D ^ l.length → Sz d (7 * (n ^ pre.length)) := fun d hd => ⟨Nat.pos_of_dvd_of_pos hd (Nat.pow_pos dpos), Nat.lt_of_le_of_lt (Nat.mul_le_mul (by omega) (Nat.le_of_dvd (Nat.pow_pos dpos) hd)) s2.2⟩
    have c2 := c_step_table (T := T) (k := m + 5) (h.sub _ (by decide)) (by omega) hn hx s1
    have c := c_behind_of (T := T) (k := m + 5) (n := n) (f := stbm n pre) (g := stm x) (h.sub _ (by decide)) (by omega) hn hb (stm_bq hx) ((szl _ (Nat.pow_dvd_pow D (by omega))).mono (by omega)) s1 (by rw [Nat.one_mul, Nat.mul_comm D, ← Nat.pow_succ]; exact szl _ (Nat.pow_dvd_pow D (by omega)))
    have c' : callN T (m + 5) 25 [Tw n (List.foldl (fun f p => mm n (stm p) f) idm pre), Tw n (stm x)] = .val (Tw n (mm n (stm x) (List.foldl (fun f p => mm n (stm p) f) idm pre))) := c
    simp [e_var, ev_cst, e_gci, ev_op, ev_tup, ev_lst, ev_call, ev_and, ev_or, e_not, e_ifx, e_and1, e_and2, e_or1, e_or2, e_chain, e_chain3, e_comp, evs_nil, es_cons, e_flat, i_lst, i_rng1, i_rng2, i_zip, i_enum, s_asg, s_app, s_ifs, s_ret, s_retV, s_exp, s_rai, s_pas, s_brk, s_asgT, s_unp, s_setT, s_appK, exL_nil, exL_kil, exL_frz, opS, addS, subS, mulS, fdivS, modS, powS, negS, eqS, neS, ltS, leS, gtS, geS, lenS, sumS, absS, max1S, min1S, max2S, min2S, all1S, any1S, int1S, isiS, isiT, isNS, notNS, isBS, notBS, W.isNon, ixS_lst, ixS_tup, catS, repS, slcAS, slcBS, revS, sortedS, listS, rngLS, flIf, startW, ints_map, bls_map, eqW_Li, neW_Li, eqW_int, neW_int, W.isFlat, W.isFlats, wipeW, tgS, setAll, stosW_nil, stosW_cons, stoW_1, stoW_2, isinS, notinS, c2, c']
  · simp [e_var, ev_cst, e_gci, ev_op, ev_tup, ev_lst, ev_call, ev_and, ev_or, e_not, e_ifx, e_and1, e_and2, e_or1, e_or2, e_chain, e_chain3, e_comp, evs_nil, es_cons, e_flat, i_lst, i_rng1, i_rng2, i_zip, i_enum, s_asg, s_app, s_ifs, s_ret, s_retV, s_exp, s_rai, s_pas, s_brk, s_asgT, s_unp, s_setT, s_appK, exL_nil, exL_kil, exL_frz, opS, addS, subS, mulS, fdivS, modS, powS, negS, eqS, neS, ltS, leS, gtS, geS, lenS, sumS, absS, max1S, min1S, max2S, min2S, all1S, any1S, int1S, isiS, isiT, isNS, notNS, isBS, notBS, W.isNon, ixS_lst, ixS_tup, catS, repS, slcAS, slcBS, revS, sortedS, listS, rngLS, flIf, startW, ints_map, bls_map, eqW_Li, neW_Li, eqW_int, neW_int, W.isFlat, W.isFlats, wipeW, tgS, setAll, stosW_nil, stosW_cons, stoW_1, stoW_2, isinS, notinS]
    exact fun _ _ _ _ => rfl
theorem c_table_of (h : Has T [0, 1, 2, 3, 4, 6, 8, 9, 10, 25, 28, 31, 32, 35, 36, 37, 1000, 1002]) (hk : 7 ≤ k) (h1 : 1 ≤ n) (hn : n ≤ 6) {ns : List Int} (hl : ns.length = n) {l : List Stp} (hl40 : l.length ≤ 40) (hp : ∀ p ∈ l, p.Ok n D) (s1 : Sz D 1) (s2 : Sz (D ^ l.length) (7 * 6 ^ l.length)) : callN T k 37 [Li ns, .lst (l.map stE)] = .val (Tw n (stbm n l)) := by
  refine up hk fun m => Is.rt (h.is 37 (by decide)) rfl ?_
  show exL (callN T (m + 6)) T.cs ir_table_of [some (Li ns), some (.lst (l.map stE))] = _
  have e1 := c_asked_row (T := T) (n := m + 6) (ns := ns) (h.sub _ (by decide)) (by omega) (by omega) (by omega)
  have e2 := c_asked_steps (T := T) (k := m + 6) (h.sub _ (by decide)) (by omega) hl40 hp s1
  have e3 := c_table_by (T := T) (k := m + 6) (h.sub _ (by decide)) (by omega) hn hp s1 s2
  simp [e_var, ev_cst, e_gci, ev_op, ev_tup, ev_lst, ev_call, ev_and, ev_or, e_not, e_ifx, e_and1, e_and2, e_or1, e_or2, e_chain, e_chain3, e_comp, evs_nil, es_cons, e_flat, i_lst, i_rng1, i_rng2, i_zip, i_enum, s_asg, s_app, s_ifs, s_ret, s_retV, s_exp, s_rai, s_pas, s_brk, s_asgT, s_unp, s_setT, s_appK, exL_nil, exL_kil, exL_frz, opS, addS, subS, mulS, fdivS, modS, powS, negS, eqS, neS, ltS, leS, gtS, geS, lenS, sumS, absS, max1S, min1S, max2S, min2S, all1S, any1S, int1S, isiS, isiT, isNS, notNS, isBS, notBS, W.isNon, ixS_lst, ixS_tup, catS, repS, slcAS, slcBS, revS, sortedS, listS, rngLS, flIf, startW, ints_map, bls_map, eqW_Li, neW_Li, eqW_int, neW_int, W.isFlat, W.isFlats, wipeW, tgS, setAll, stosW_nil, stosW_cons, stoW_1, stoW_2, isinS, notinS, ir_table_of, e1, hl, e2, e3]
end
end Mx
/-! # Mx37: tables and steps, as the laws ask and draw them -/
namespace Mx
open PySem L2
section
variable {T : Tb} {k n : Nat} {D M E N : Nat} {f g : Nat → Nat → Rat} {r : Nat → Rat} {p : Stp}
theorem c_law_parts (h : Has T [79]) (hk : 1 ≤ k) (ns : List Int) : callN T k 79 [Li ns] = .val (Rw ns.length (ga ns)) := by
  refine up hk fun m => Is.rt h.1 rfl ?_
  show exL (callN T m) T.cs ir__law_parts [some (Li ns), none] = _
  rw [Rw_eq]
  simp [e_var, ev_cst, e_gci, ev_op, ev_tup, ev_lst, ev_call, ev_and, ev_or, e_not, e_ifx, e_and1, e_and2, e_or1, e_or2, e_chain, e_chain3, e_comp, evs_nil, es_cons, e_flat, i_lst, i_rng1, i_rng2, i_zip, i_enum, s_asg, s_app, s_ifs, s_ret, s_retV, s_exp, s_rai, s_pas, s_brk, s_asgT, s_unp, s_setT, s_appK, exL_nil, exL_kil, exL_frz, opS, addS, subS, mulS, fdivS, modS, powS, negS, eqS, neS, ltS, leS, gtS, geS, lenS, sumS, absS, max1S, min1S, max2S, min2S, all1S, any1S, int1S, isiS, isiT, isNS, notNS, isBS, notBS, W.isNon, ixS_lst, ixS_tup, catS, repS, slcAS, slcBS, revS, sortedS, listS, rngLS, flIf, startW, ints_map, bls_map, eqW_Li, neW_Li, eqW_int, neW_int, W.isFlat, W.isFlats, wipeW, tgS, setAll, stosW_nil, stosW_cons, stoW_1, stoW_2, isinS, notinS, ir__law_parts]
  refine List.ext_getElem (by simp) fun i h1 h2 => ?_
  simp at h1
  simp [h1, ga]
  rfl
theorem c_law_sumR (h : Has T [73, 76]) (hk : 2 ≤ k) (hb : ∀ i, Bq D M (r i)) (hs : Sz D (n * M + M)) : callN T k 76 [Rw n r] = .val (pt (sm n r)) := by
  rw [Rw_eq, c_law_sum h hk (l := rw_ n r) (D := D) (M := M) (fun q hq => by obtain ⟨i, _, rfl⟩ := List.mem_map.mp hq; exact hb i) (by simpa using hs), sum_range]
theorem c_law_is_table (h : Has T [73, 74, 75, 76, 77]) (hk : 3 ≤ k) (h1 : 1 ≤ n) (hn : n ≤ 6) (t : Tab n D f) (sz : Sz D 7) : callN T k 77 [Tw n f, .int n] = .val (.bl true) := by
  refine up hk fun m => Is.rt (h.is 77 (by decide)) rfl ?_
  show exL (callN T (m + 2)) T.cs ir__law_is_table [some (Tw n f), some (.int n), none, none, none, none, none] = _
  have hpa : ∀ i j, callN T (m + 2) 75 [pt (f i j)] = .val (.bl true) := fun i j => c_is_part (h.sub _ (by decide)) (by omega) ((sz.mono (by omega)).bd (t.bd i j))
  have hs1 : ∀ i, callN T (m + 2) 76 [Rw n (f i)] = .val (pt (sm n (f i))) := fun i => c_law_sumR (D := D) (M := 1) (h.sub _ (by decide)) (by omega) (t.bd i) (sz.mono (by omega))
  have hs2 : ∀ j, callN T (m + 2) 76 [Rw n fun i => f i j] = .val (pt (sm n fun i => f i j)) := fun j => c_law_sumR (D := D) (M := 1) (h.sub _ (by decide)) (by omega) (fun i => t.bd i j) (sz.mono (by omega))
  simp [e_var, ev_cst, e_gci, ev_op, ev_tup, ev_lst, ev_call, ev_and, ev_or, e_not, e_ifx, e_and1, e_and2, e_or1, e_or2, e_chain, e_chain3, e_comp, evs_nil, es_cons, e_flat, i_lst, i_rng1, i_rng2, i_zip, i_enum, s_asg, s_app, s_ifs, s_ret, s_retV, s_exp, s_rai, s_pas, s_brk, s_asgT, s_unp, s_setT, s_appK, exL_nil, exL_kil, exL_frz, opS, addS, subS, mulS, fdivS, modS, powS, negS, eqS, neS, ltS, leS, gtS, geS, lenS, sumS, absS, max1S, min1S, max2S, min2S, all1S, any1S, int1S, isiS, isiT, isNS, notNS, isBS, notBS, W.isNon, ixS_lst, ixS_tup, catS, repS, slcAS, slcBS, revS, sortedS, listS, rngLS, flIf, startW, ints_map, bls_map, eqW_Li, neW_Li, eqW_int, neW_int, W.isFlat, W.isFlats, wipeW, tgS, setAll, stosW_nil, stosW_cons, stoW_1, stoW_2, isinS, notinS, ir__law_is_table]
  refine loop1 (i := 2) (List.range n) (fun i => Rw n (f i)) (fun _ : Unit => [some (Tw n f), some (.int n), none, none, none, none, none]) (fun _ _ => True) () (by simp [e_var, ev_cst, e_gci, ev_op, ev_tup, ev_lst, ev_call, ev_and, ev_or, e_not, e_ifx, e_and1, e_and2, e_or1, e_or2, e_chain, e_chain3, e_comp, evs_nil, es_cons, e_flat, i_lst, i_rng1, i_rng2, i_zip, i_enum, s_asg, s_app, s_ifs, s_ret, s_retV, s_exp, s_rai, s_pas, s_brk, s_asgT, s_unp, s_setT, s_appK, exL_nil, exL_kil, exL_frz, opS, addS, subS, mulS, fdivS, modS, powS, negS, eqS, neS, ltS, leS, gtS, geS, lenS, sumS, absS, max1S, min1S, max2S, min2S, all1S, any1S, int1S, isiS, isiT, isNS, notNS, isBS, notBS, W.isNon, ixS_lst, ixS_tup, catS, repS, slcAS, slcBS, revS, sortedS, listS, rngLS, flIf, startW, ints_map, bls_map, eqW_Li, neW_Li, eqW_int, neW_int, W.isFlat, W.isFlats, wipeW, tgS, setAll, stosW_nil, stosW_cons, stoW_1, stoW_2, isinS, notinS]) rfl trivial ?_ (fun _ => rfl) ?_
  · intro pre i post _ e _
    have hi : i < n := List.mem_range.mp (by rw [e]; simp)
    refine ⟨(), some (Rw n (f i)), ?_, trivial⟩
    simp [e_var, ev_cst, e_gci, ev_op, ev_tup, ev_lst, ev_call, ev_and, ev_or, e_not, e_ifx, e_and1, e_and2, e_or1, e_or2, e_chain, e_chain3, e_comp, evs_nil, es_cons, e_flat, i_lst, i_rng1, i_rng2, i_zip, i_enum, s_asg, s_app, s_ifs, s_ret, s_retV, s_exp, s_rai, s_pas, s_brk, s_asgT, s_unp, s_setT, s_appK, exL_nil, exL_kil, exL_frz, opS, addS, subS, mulS, fdivS, modS, powS, negS, eqS, neS, ltS, leS, gtS, geS, lenS, sumS, absS, max1S, min1S, max2S, min2S, all1S, any1S, int1S, isiS, isiT, isNS, notNS, isBS, notBS, W.isNon, ixS_lst, ixS_tup, catS, repS, slcAS, slcBS, revS, sortedS, listS, rngLS, flIf, startW, ints_map, bls_map, eqW_Li, neW_Li, eqW_int, neW_int, W.isFlat, W.isFlats, wipeW, tgS, setAll, stosW_nil, stosW_cons, stoW_1, stoW_2, isinS, notinS]
    rw [mapL_of (fun _ => .bl true) fun j hj => by
      have h0 : 0 ≤ (f i j).num := Rat.num_nonneg.mpr (t.ds.nn i j hi (List.mem_range.mp hj))
      have e := hpa i j
      unfold pt at e ⊢
      simp [e_var, ev_cst, e_gci, ev_op, ev_tup, ev_lst, ev_call, ev_and, ev_or, e_not, e_ifx, e_and1, e_and2, e_or1, e_or2, e_chain, e_chain3, e_comp, evs_nil, es_cons, e_flat, i_lst, i_rng1, i_rng2, i_zip, i_enum, s_asg, s_app, s_ifs, s_ret, s_retV, s_exp, s_rai, s_pas, s_brk, s_asgT, s_unp, s_setT, s_appK, exL_nil, exL_kil, exL_frz, opS, addS, subS, mulS, fdivS, modS, powS, negS, eqS, neS, ltS, leS, gtS, geS, lenS, sumS, absS, max1S, min1S, max2S, min2S, all1S, any1S, int1S, isiS, isiT, isNS, notNS, isBS, notBS, W.isNon, ixS_lst, ixS_tup, catS, repS, slcAS, slcBS, revS, sortedS, listS, rngLS, flIf, startW, ints_map, bls_map, eqW_Li, neW_Li, eqW_int, neW_int, W.isFlat, W.isFlats, wipeW, tgS, setAll, stosW_nil, stosW_cons, stoW_1, stoW_2, isinS, notinS, e, at_0, h0]]
    have hb : W.bls ((List.range n).map fun _ => W.bl true) = some ((List.range n).map fun _ => true) := bls_mapf (fun _ => true) _
    have hall : ((List.range n).map fun _ => true).all id = true := all_true fun _ _ => rfl
    simp only [lstO_some, consO_val, osbind_vals, opS, all1S, hb, hall]
    simp [e_var, ev_cst, e_gci, ev_op, ev_tup, ev_lst, ev_call, ev_and, ev_or, e_not, e_ifx, e_and1, e_and2, e_or1, e_or2, e_chain, e_chain3, e_comp, evs_nil, es_cons, e_flat, i_lst, i_rng1, i_rng2, i_zip, i_enum, s_asg, s_app, s_ifs, s_ret, s_retV, s_exp, s_rai, s_pas, s_brk, s_asgT, s_unp, s_setT, s_appK, exL_nil, exL_kil, exL_frz, opS, addS, subS, mulS, fdivS, modS, powS, negS, eqS, neS, ltS, leS, gtS, geS, lenS, sumS, absS, max1S, min1S, max2S, min2S, all1S, any1S, int1S, isiS, isiT, isNS, notNS, isBS, notBS, W.isNon, ixS_lst, ixS_tup, catS, repS, slcAS, slcBS, revS, sortedS, listS, rngLS, flIf, startW, ints_map, bls_map, eqW_Li, neW_Li, eqW_int, neW_int, W.isFlat, W.isFlats, wipeW, tgS, setAll, stosW_nil, stosW_cons, stoW_1, stoW_2, isinS, notinS]
  · intro _ o _
    simp [e_var, ev_cst, e_gci, ev_op, ev_tup, ev_lst, ev_call, ev_and, ev_or, e_not, e_ifx, e_and1, e_and2, e_or1, e_or2, e_chain, e_chain3, e_comp, evs_nil, es_cons, e_flat, i_lst, i_rng1, i_rng2, i_zip, i_enum, s_asg, s_app, s_ifs, s_ret, s_retV, s_exp, s_rai, s_pas, s_brk, s_asgT, s_unp, s_setT, s_appK, exL_nil, exL_kil, exL_frz, opS, addS, subS, mulS, fdivS, modS, powS, negS, eqS, neS, ltS, leS, gtS, geS, lenS, sumS, absS, max1S, min1S, max2S, min2S, all1S, any1S, int1S, isiS, isiT, isNS, notNS, isBS, notBS, W.isNon, ixS_lst, ixS_tup, catS, repS, slcAS, slcBS, revS, sortedS, listS, rngLS, flIf, startW, ints_map, bls_map, eqW_Li, neW_Li, eqW_int, neW_int, W.isFlat, W.isFlats, wipeW, tgS, setAll, stosW_nil, stosW_cons, stoW_1, stoW_2, isinS, notinS, rng_nat n (by omega)]
    rw [mapL_of (fun j => Rw n fun i => f i j) fun j hj => by
      have ha : ∀ i, atI ((List.range n).map fun j => pt (f i j)) (j : Int) = some (pt (f i j)) := fun i => at_range _ (List.mem_range.mp hj)
      simp [e_var, ev_cst, e_gci, ev_op, ev_tup, ev_lst, ev_call, ev_and, ev_or, e_not, e_ifx, e_and1, e_and2, e_or1, e_or2, e_chain, e_chain3, e_comp, evs_nil, es_cons, e_flat, i_lst, i_rng1, i_rng2, i_zip, i_enum, s_asg, s_app, s_ifs, s_ret, s_retV, s_exp, s_rai, s_pas, s_brk, s_asgT, s_unp, s_setT, s_appK, exL_nil, exL_kil, exL_frz, opS, addS, subS, mulS, fdivS, modS, powS, negS, eqS, neS, ltS, leS, gtS, geS, lenS, sumS, absS, max1S, min1S, max2S, min2S, all1S, any1S, int1S, isiS, isiT, isNS, notNS, isBS, notBS, W.isNon, ixS_lst, ixS_tup, catS, repS, slcAS, slcBS, revS, sortedS, listS, rngLS, flIf, startW, ints_map, bls_map, eqW_Li, neW_Li, eqW_int, neW_int, W.isFlat, W.isFlats, wipeW, tgS, setAll, stosW_nil, stosW_cons, stoW_1, stoW_2, isinS, notinS, ha]]
    have hL : n + n ≤ LIM := by show _ ≤ 100000; omega
    simp [e_var, ev_cst, e_gci, ev_op, ev_tup, ev_lst, ev_call, ev_and, ev_or, e_not, e_ifx, e_and1, e_and2, e_or1, e_or2, e_chain, e_chain3, e_comp, evs_nil, es_cons, e_flat, i_lst, i_rng1, i_rng2, i_zip, i_enum, s_asg, s_app, s_ifs, s_ret, s_retV, s_exp, s_rai, s_pas, s_brk, s_asgT, s_unp, s_setT, s_appK, exL_nil, exL_kil, exL_frz, opS, addS, subS, mulS, fdivS, modS, powS, negS, eqS, neS, ltS, leS, gtS, geS, lenS, sumS, absS, max1S, min1S, max2S, min2S, all1S, any1S, int1S, isiS, isiT, isNS, notNS, isBS, notBS, W.isNon, ixS_lst, ixS_tup, catS, repS, slcAS, slcBS, revS, sortedS, listS, rngLS, flIf, startW, ints_map, bls_map, eqW_Li, neW_Li, eqW_int, neW_int, W.isFlat, W.isFlats, wipeW, tgS, setAll, stosW_nil, stosW_cons, stoW_1, stoW_2, isinS, notinS, hL]
    rw [app_map, kComp_map]
    have hb : ∀ x : Nat ⊕ Nat, x ∈ (List.range n).map (Sum.inl (β := Nat)) ++ (List.range n).map (Sum.inr (α := Nat)) → ∃ g : Nat → Rat, Sum.elim (fun i => Rw n (f i)) (fun j => Rw n fun i => f i j) x = Rw n g ∧ callN T (m + 2) 76 [Rw n g] = .val (pt 1) := by
      intro x hx
      rcases List.mem_append.mp hx with hx | hx
      · obtain ⟨i, hi, rfl⟩ := List.mem_map.mp hx
        exact ⟨f i, rfl, by rw [hs1, t.ds.row i (List.mem_range.mp hi)]⟩
      · obtain ⟨j, hj, rfl⟩ := List.mem_map.mp hx
        exact ⟨fun i => f i j, rfl, by rw [hs2, t.ds.col j (List.mem_range.mp hj)]⟩
    rw [mapL_of (fun _ => .bl true) fun x hx => by
      obtain ⟨g, e1, e2⟩ := hb x hx
      have e3 := eqW_pt 1 1
      simp at e3
      have e4 : W.tup [W.int 1, W.int 1] = pt 1 := rfl
      simp [e_var, ev_cst, e_gci, ev_op, ev_tup, ev_lst, ev_call, ev_and, ev_or, e_not, e_ifx, e_and1, e_and2, e_or1, e_or2, e_chain, e_chain3, e_comp, evs_nil, es_cons, e_flat, i_lst, i_rng1, i_rng2, i_zip, i_enum, s_asg, s_app, s_ifs, s_ret, s_retV, s_exp, s_rai, s_pas, s_brk, s_asgT, s_unp, s_setT, s_appK, exL_nil, exL_kil, exL_frz, opS, addS, subS, mulS, fdivS, modS, powS, negS, eqS, neS, ltS, leS, gtS, geS, lenS, sumS, absS, max1S, min1S, max2S, min2S, all1S, any1S, int1S, isiS, isiT, isNS, notNS, isBS, notBS, W.isNon, ixS_lst, ixS_tup, catS, repS, slcAS, slcBS, revS, sortedS, listS, rngLS, flIf, startW, ints_map, bls_map, eqW_Li, neW_Li, eqW_int, neW_int, W.isFlat, W.isFlats, wipeW, tgS, setAll, stosW_nil, stosW_cons, stoW_1, stoW_2, isinS, notinS, e1, e2, e4, e3]]
    have hb : W.bls (((List.range n).map (Sum.inl (β := Nat)) ++ (List.range n).map (Sum.inr (α := Nat))).map fun _ => W.bl true) = some (((List.range n).map (Sum.inl (β := Nat)) ++ (List.range n).map (Sum.inr (α := Nat))).map fun _ => true) := bls_mapf (fun _ => true) _
    have hall : (((List.range n).map (Sum.inl (β := Nat)) ++ (List.range n).map (Sum.inr (α := Nat))).map fun _ => true).all id = true := all_true fun _ _ => rfl
    simp only [lstO_some, consO_val, osbind_vals, opS, all1S, hb, hall, kRet_v]
/-- a product in lowest terms -/
theorem c_law_times (h : Has T [73]) (hk : 1 ≤ k) {p q : Rat} (hp : Bd p 4000) (hq : Bd q 4000) : callN T k 73 [.int (p.num * q.num), .int ((p.den : Int) * (q.den : Int))] = .val (pt (p * q)) := by
  have h1 := p.den_pos
  have h2 := q.den_pos
  have := c_lawlow h hk (p.num * q.num) (b := (p.den : Int) * (q.den : Int)) (Int.mul_pos (by omega) (by omega)) (Nat.lt_of_lt_of_le (hp.den hq) (Nat.pow_le_pow_right (by decide) (by decide)))
  rw [← mul_eq] at this
  exact this
theorem c_law_moved (h : Has T [73, 76, 78]) (hk : 3 ≤ k) (hn : n ≤ 6) (hf : ∀ i j, Bq D M (f i j)) (hr : ∀ j, Bq E N (r j)) (s1 : Sz D M) (s2 : Sz E N) (s3 : Sz (D * E) (7 * (M * N))) : callN T k 78 [Tw n f, Rw n r] = .val (Rw n (mv n f r)) := by
  refine up hk fun m => Is.rt (h.is 78 (by decide)) rfl ?_
  show exL (callN T (m + 2)) T.cs ir__law_moved [some (Tw n f), some (Rw n r), none, none, none, none] = _
  have ht : ∀ i j, callN T (m + 2) 73 [.int ((f i j).num * (r j).num), .int (((f i j).den : Int) * ((r j).den : Int))] = .val (pt (f i j * r j)) := fun i j => c_law_times (h.sub _ (by decide)) (by omega) (s1.bd (hf i j)) (s2.bd (hr j))
  have hm : ∀ i j, mulOk (f i j).num (r j).num = true ∧ mulOk (f i j).den (r j).den = true := fun i j => by
    obtain ⟨m1, m2, m3, m4⟩ := (s1.bd (hf i j)).mulOk (s2.bd (hr j)) (by decide)
    exact ⟨m1, m4⟩
  have hm1 := fun i j => (hm i j).1
  have hm2 := fun i j => (hm i j).2
  have hs : ∀ i, callN T (m + 2) 76 [Rw n fun j => f i j * r j] = .val (pt (mv n f r i)) := fun i => c_law_sumR (D := D * E) (M := M * N) (h.sub _ (by decide)) (by omega) (fun j => (hf i j).mul (hr j)) (s3.mono (by
    have := Nat.mul_le_mul_right (M * N) hn
    omega))
  simp [e_var, ev_cst, e_gci, ev_op, ev_tup, ev_lst, ev_call, ev_and, ev_or, e_not, e_ifx, e_and1, e_and2, e_or1, e_or2, e_chain, e_chain3, e_comp, evs_nil, es_cons, e_flat, i_lst, i_rng1, i_rng2, i_zip, i_enum, s_asg, s_app, s_ifs, s_ret, s_retV, s_exp, s_rai, s_pas, s_brk, s_asgT, s_unp, s_setT, s_appK, exL_nil, exL_kil, exL_frz, opS, addS, subS, mulS, fdivS, modS, powS, negS, eqS, neS, ltS, leS, gtS, geS, lenS, sumS, absS, max1S, min1S, max2S, min2S, all1S, any1S, int1S, isiS, isiT, isNS, notNS, isBS, notBS, W.isNon, ixS_lst, ixS_tup, catS, repS, slcAS, slcBS, revS, sortedS, listS, rngLS, flIf, startW, ints_map, bls_map, eqW_Li, neW_Li, eqW_int, neW_int, W.isFlat, W.isFlats, wipeW, tgS, setAll, stosW_nil, stosW_cons, stoW_1, stoW_2, isinS, notinS, ir__law_moved]
  refine loop1 (i := 3) (List.range n) (fun i => Rw n (f i)) (fun l : List Nat => [some (Tw n f), some (Rw n r), some (.lst (l.map fun i => pt (mv n f r i))), none, none, none]) (fun pre l => l = pre) [] (by simp [e_var, ev_cst, e_gci, ev_op, ev_tup, ev_lst, ev_call, ev_and, ev_or, e_not, e_ifx, e_and1, e_and2, e_or1, e_or2, e_chain, e_chain3, e_comp, evs_nil, es_cons, e_flat, i_lst, i_rng1, i_rng2, i_zip, i_enum, s_asg, s_app, s_ifs, s_ret, s_retV, s_exp, s_rai, s_pas, s_brk, s_asgT, s_unp, s_setT, s_appK, exL_nil, exL_kil, exL_frz, opS, addS, subS, mulS, fdivS, modS, powS, negS, eqS, neS, ltS, leS, gtS, geS, lenS, sumS, absS, max1S, min1S, max2S, min2S, all1S, any1S, int1S, isiS, isiT, isNS, notNS, isBS, notBS, W.isNon, ixS_lst, ixS_tup, catS, repS, slcAS, slcBS, revS, sortedS, listS, rngLS, flIf, startW, ints_map, bls_map, eqW_Li, neW_Li, eqW_int, neW_int, W.isFlat, W.isFlats, wipeW, tgS, setAll, stosW_nil, stosW_cons, stoW_1, stoW_2, isinS, notinS]) rfl rfl ?_ (fun _ => rfl) ?_
  · intro pre i post l e p
    subst p
    have hi : l.length < LIM := by
      have := congrArg List.length e
      simp at this
      show _ < 100000
      omega
    refine ⟨l ++ [i], some (Rw n (f i)), ?_, rfl⟩
    have hz : zipW ((List.range n).map fun j => pt (f i j)) ((List.range n).map fun j => pt (r j)) = (List.range n).map fun j => .tup [pt (f i j), pt (r j)] := zipW_range _ _ _
    simp [e_var, ev_cst, e_gci, ev_op, ev_tup, ev_lst, ev_call, ev_and, ev_or, e_not, e_ifx, e_and1, e_and2, e_or1, e_or2, e_chain, e_chain3, e_comp, evs_nil, es_cons, e_flat, i_lst, i_rng1, i_rng2, i_zip, i_enum, s_asg, s_app, s_ifs, s_ret, s_retV, s_exp, s_rai, s_pas, s_brk, s_asgT, s_unp, s_setT, s_appK, exL_nil, exL_kil, exL_frz, opS, addS, subS, mulS, fdivS, modS, powS, negS, eqS, neS, ltS, leS, gtS, geS, lenS, sumS, absS, max1S, min1S, max2S, min2S, all1S, any1S, int1S, isiS, isiT, isNS, notNS, isBS, notBS, W.isNon, ixS_lst, ixS_tup, catS, repS, slcAS, slcBS, revS, sortedS, listS, rngLS, flIf, startW, ints_map, bls_map, eqW_Li, neW_Li, eqW_int, neW_int, W.isFlat, W.isFlats, wipeW, tgS, setAll, stosW_nil, stosW_cons, stoW_1, stoW_2, isinS, notinS, hz]
    rw [mapL_of (fun j => pt (f i j * r j)) fun j _ => by
      have e := ht i j
      unfold pt at e ⊢
      simp [e_var, ev_cst, e_gci, ev_op, ev_tup, ev_lst, ev_call, ev_and, ev_or, e_not, e_ifx, e_and1, e_and2, e_or1, e_or2, e_chain, e_chain3, e_comp, evs_nil, es_cons, e_flat, i_lst, i_rng1, i_rng2, i_zip, i_enum, s_asg, s_app, s_ifs, s_ret, s_retV, s_exp, s_rai, s_pas, s_brk, s_asgT, s_unp, s_setT, s_appK, exL_nil, exL_kil, exL_frz, opS, addS, subS, mulS, fdivS, modS, powS, negS, eqS, neS, ltS, leS, gtS, geS, lenS, sumS, absS, max1S, min1S, max2S, min2S, all1S, any1S, int1S, isiS, isiT, isNS, notNS, isBS, notBS, W.isNon, ixS_lst, ixS_tup, catS, repS, slcAS, slcBS, revS, sortedS, listS, rngLS, flIf, startW, ints_map, bls_map, eqW_Li, neW_Li, eqW_int, neW_int, W.isFlat, W.isFlats, wipeW, tgS, setAll, stosW_nil, stosW_cons, stoW_1, stoW_2, isinS, notinS, at_0, at_1, hm1, hm2, e]]
    simp [e_var, ev_cst, e_gci, ev_op, ev_tup, ev_lst, ev_call, ev_and, ev_or, e_not, e_ifx, e_and1, e_and2, e_or1, e_or2, e_chain, e_chain3, e_comp, evs_nil, es_cons, e_flat, i_lst, i_rng1, i_rng2, i_zip, i_enum, s_asg, s_app, s_ifs, s_ret, s_retV, s_exp, s_rai, s_pas, s_brk, s_asgT, s_unp, s_setT, s_appK, exL_nil, exL_kil, exL_frz, opS, addS, subS, mulS, fdivS, modS, powS, negS, eqS, neS, ltS, leS, gtS, geS, lenS, sumS, absS, max1S, min1S, max2S, min2S, all1S, any1S, int1S, isiS, isiT, isNS, notNS, isBS, notBS, W.isNon, ixS_lst, ixS_tup, catS, repS, slcAS, slcBS, revS, sortedS, listS, rngLS, flIf, startW, ints_map, bls_map, eqW_Li, neW_Li, eqW_int, neW_int, W.isFlat, W.isFlats, wipeW, tgS, setAll, stosW_nil, stosW_cons, stoW_1, stoW_2, isinS, notinS, hs, hi]
  · intro l o p
    subst p
    simp [e_var, ev_cst, e_gci, ev_op, ev_tup, ev_lst, ev_call, ev_and, ev_or, e_not, e_ifx, e_and1, e_and2, e_or1, e_or2, e_chain, e_chain3, e_comp, evs_nil, es_cons, e_flat, i_lst, i_rng1, i_rng2, i_zip, i_enum, s_asg, s_app, s_ifs, s_ret, s_retV, s_exp, s_rai, s_pas, s_brk, s_asgT, s_unp, s_setT, s_appK, exL_nil, exL_kil, exL_frz, opS, addS, subS, mulS, fdivS, modS, powS, negS, eqS, neS, ltS, leS, gtS, geS, lenS, sumS, absS, max1S, min1S, max2S, min2S, all1S, any1S, int1S, isiS, isiT, isNS, notNS, isBS, notBS, W.isNon, ixS_lst, ixS_tup, catS, repS, slcAS, slcBS, revS, sortedS, listS, rngLS, flIf, startW, ints_map, bls_map, eqW_Li, neW_Li, eqW_int, neW_int, W.isFlat, W.isFlats, wipeW, tgS, setAll, stosW_nil, stosW_cons, stoW_1, stoW_2, isinS, notinS]
/-- a step, as the laws reckon it -/
theorem c_law_stepped (h : Has T [73, 76, 87]) (hk : 3 ≤ k) (hn : n ≤ 6) {l : List Stp} (hp : ∀ p ∈ l, p.Ok n D) (hr : ∀ i, Bq E N (r i)) (s1 : Sz D 2) (s2 : Sz (E * D ^ l.length) (6 * (3 ^ l.length * N))) : callN T k 87 [Rw n r, .lst (l.map stE)] = .val (Rw n (stps l r)) := by
  refine up hk fun m => Is.rt (h.is 87 (by decide)) rfl ?_
  show exL (callN T (m + 2)) T.cs ir__law_stepped [some (Rw n r), some (.lst (l.map stE)), none, none, none, none, none, none, none, none, none, none, none] = _
  simp [e_var, ev_cst, e_gci, ev_op, ev_tup, ev_lst, ev_call, ev_and, ev_or, e_not, e_ifx, e_and1, e_and2, e_or1, e_or2, e_chain, e_chain3, e_comp, evs_nil, es_cons, e_flat, i_lst, i_rng1, i_rng2, i_zip, i_enum, s_asg, s_app, s_ifs, s_ret, s_retV, s_exp, s_rai, s_pas, s_brk, s_asgT, s_unp, s_setT, s_appK, exL_nil, exL_kil, exL_frz, opS, addS, subS, mulS, fdivS, modS, powS, negS, eqS, neS, ltS, leS, gtS, geS, lenS, sumS, absS, max1S, min1S, max2S, min2S, all1S, any1S, int1S, isiS, isiT, isNS, notNS, isBS, notBS, W.isNon, ixS_lst, ixS_tup, catS, repS, slcAS, slcBS, revS, sortedS, listS, rngLS, flIf, startW, ints_map, bls_map, eqW_Li, neW_Li, eqW_int, neW_int, W.isFlat, W.isFlats, wipeW, tgS, setAll, stosW_nil, stosW_cons, stoW_1, stoW_2, isinS, notinS, ir__law_stepped]
  refine loop3C (i := 3) (j := 4) (l := 5) (fun x => x = _) l (fun p => .int (p.a : Nat)) (fun p => .int (p.b : Nat)) (fun p => pt p.s) (fun u : Nat → Rat => [some (Rw n r), some (.lst (l.map stE)), some (Rw n u), none, none, none, none, none, none, none, none, none, none]) (fun pre u => u = stps pre r) r (by decide) (by decide) (by decide) (by simp [e_var, ev_cst, e_gci, ev_op, ev_tup, ev_lst, ev_call, ev_and, ev_or, e_not, e_ifx, e_and1, e_and2, e_or1, e_or2, e_chain, e_chain3, e_comp, evs_nil, es_cons, e_flat, i_lst, i_rng1, i_rng2, i_zip, i_enum, s_asg, s_app, s_ifs, s_ret, s_retV, s_exp, s_rai, s_pas, s_brk, s_asgT, s_unp, s_setT, s_appK, exL_nil, exL_kil, exL_frz, opS, addS, subS, mulS, fdivS, modS, powS, negS, eqS, neS, ltS, leS, gtS, geS, lenS, sumS, absS, max1S, min1S, max2S, min2S, all1S, any1S, int1S, isiS, isiT, isNS, notNS, isBS, notBS, W.isNon, ixS_lst, ixS_tup, catS, repS, slcAS, slcBS, revS, sortedS, listS, rngLS, flIf, startW, ints_map, bls_map, eqW_Li, neW_Li, eqW_int, neW_int, W.isFlat, W.isFlats, wipeW, tgS, setAll, stosW_nil, stosW_cons, stoW_1, stoW_2, isinS, notinS]; exact fun _ _ => rfl) rfl rfl ?_ (fun _ => rfl) ?_
  · intro pre p post u e pu
    have hq := hp p (by rw [e]; simp)
    have hab := hq.ab
    have hbn := hq.bn
    have dpos : 0 < D := s1.1
    have hlen : pre.length + 1 ≤ l.length := by rw [e]; simp
    have hb := stps_bq (l := pre) (fun q hq => hp q (by rw [e]; simp [hq])) hr
    rw [← pu] at hb
    have n3 : 3 ^ pre.length * N ≤ 3 ^ l.length * N := Nat.mul_le_mul_right _ (Nat.pow_le_pow_right (by decide) (by omega))
    have epos : 0 < E := Nat.pos_of_mul_pos_right s2.1
    have szl : ∀ d c, d ∣ E * D ^ l.length → c ≤ 6 * (3 ^ pre.length * N) → Sz d c := fun d c hd hc => ⟨Nat.pos_of_dvd_of_pos hd s2.1, Nat.lt_of_le_of_lt (Nat.mul_le_mul (by omega) (Nat.le_of_dvd s2.1 hd)) s2.2⟩
    have hd0 : E * D ^ pre.length ∣ E * D ^ l.length := Nat.mul_dvd_mul_left E (Nat.pow_dvd_pow D (by omega))
    have hd1 : D * (E * D ^ pre.length) ∣ E * D ^ l.length := by
      have e : D * (E * D ^ pre.length) = E * D ^ (pre.length + 1) := by rw [Nat.pow_succ]; grind
      rw [e]
      exact Nat.mul_dvd_mul_left E (Nat.pow_dvd_pow D (by omega))
    have sb := (s1.mono (by omega)).bd hq.bd
    have kq : Bq D 1 (1 - p.s) := by
      have := stm_bq hq p.a p.a
      unfold stm at this
      rw [if_neg (by omega), if_pos rfl, if_neg (by omega), if_pos rfl] at this
      exact this
    have kb := (s1.mono (by omega)).bd kq
    have ub : ∀ i, Bd (u i) 4000 := fun i => (szl _ _ hd0 (by omega)).bd (hb i)
    have sden := p.s.den_pos
    have ck : callN T (m + 2) 73 [.int ((p.s.den : Int) - p.s.num), .int (p.s.den : Int)] = .val (pt (1 - p.s)) := by
      have := c_lawlow (T := T) (n := m + 2) (h.sub [73] (by decide)) (by omega) ((p.s.den : Int) - p.s.num) (b := (p.s.den : Int)) (by omega) (by rw [Int.natAbs_natCast]; exact Nat.lt_of_lt_of_le sb.2 (Nat.pow_le_pow_right (by decide) (by decide)))
      rw [this]
      congr 2
      rw [sub_eq]
      show _ = Rat.divInt (1 * (p.s.den : Int) - p.s.num * 1) (1 * (p.s.den : Int))
      rw [Int.one_mul, Int.mul_one]
    have ea : atI ((List.range n).map fun j => pt (u j)) (p.a : Int) = some (pt (u p.a)) := at_range _ (by omega)
    have eb : atI ((List.range n).map fun j => pt (u j)) (p.b : Int) = some (pt (u p.b)) := at_range _ (by omega)
    have pair : ∀ x y : Nat, callN T (m + 2) 76 [.lst [pt ((1 - p.s) * u x), pt (p.s * u y)]] = .val (pt ((1 - p.s) * u x + p.s * u y)) := fun x y => by
      have := c_law_sum (T := T) (n := m + 2) (D := D * (E * D ^ pre.length)) (M := 3 ^ pre.length * N) (l := [(1 - p.s) * u x, p.s * u y]) (h.sub _ (by decide)) (by omega) (fun z hz => by
        simp only [List.mem_cons, List.not_mem_nil, or_false] at hz
        rcases hz with rfl | rfl
        · have := kq.mul (hb x)
          rwa [Nat.one_mul] at this
        · have := hq.bd.mul (hb y)
          rwa [Nat.one_mul] at this) (szl _ _ hd1 (by simp; omega))
      rw [show ([(1 - p.s) * u x, p.s * u y] : List Rat).sum = (1 - p.s) * u x + p.s * u y by simp [Rat.add_zero]] at this
      exact this
    have t1 : ∀ x, callN T (m + 2) 73 [.int ((1 - p.s).num * (u x).num), .int (((1 - p.s).den : Int) * ((u x).den : Int))] = .val (pt ((1 - p.s) * u x)) := fun x => c_law_times (h.sub _ (by decide)) (by omega) kb (ub x)
    have t2 : ∀ x, callN T (m + 2) 73 [.int (p.s.num * (u x).num), .int ((p.s.den : Int) * ((u x).den : Int))] = .val (pt (p.s * u x)) := fun x => c_law_times (h.sub _ (by decide)) (by omega) sb (ub x)
    have k1 : ∀ x, mulOk (1 - p.s).num (u x).num = true := fun x => (kb.mulOk (ub x) (by decide)).1
    have k2 : ∀ x, mulOk (1 - p.s).den (u x).den = true := fun x => (kb.mulOk (ub x) (by decide)).2.2.2
    have k3 : ∀ x, mulOk p.s.num (u x).num = true := fun x => (sb.mulOk (ub x) (by decide)).1
    have k4 : ∀ x, mulOk p.s.den (u x).den = true := fun x => (sb.mulOk (ub x) (by decide)).2.2.2
    simp [e_var, ev_cst, e_gci, ev_op, ev_tup, ev_lst, ev_call, ev_and, ev_or, e_not, e_ifx, e_and1, e_and2, e_or1, e_or2, e_chain, e_chain3, e_comp, evs_nil, es_cons, e_flat, i_lst, i_rng1, i_rng2, i_zip, i_enum, s_asg, s_app, s_ifs, s_ret, s_retV, s_exp, s_rai, s_pas, s_brk, s_asgT, s_unp, s_setT, s_appK, exL_nil, exL_kil, exL_frz, opS, addS, subS, mulS, fdivS, modS, powS, negS, eqS, neS, ltS, leS, gtS, geS, lenS, sumS, absS, max1S, min1S, max2S, min2S, all1S, any1S, int1S, isiS, isiT, isNS, notNS, isBS, notBS, W.isNon, ixS_lst, ixS_tup, catS, repS, slcAS, slcBS, revS, sortedS, listS, rngLS, flIf, startW, ints_map, bls_map, eqW_Li, neW_Li, eqW_int, neW_int, W.isFlat, W.isFlats, wipeW, tgS, setAll, stosW_nil, stosW_cons, stoW_1, stoW_2, isinS, notinS, ck, ea, eb]
    refine loop2C (i := 10) (j := 11) (GoTo3 _ _ _ _ _) [(p.a, p.b), (p.b, p.a)] (fun x => pt (u x.1)) (fun x => pt (u x.2)) (fun v : List Rat => [some (Rw n r), some (.lst (l.map stE)), some (Rw n u), some (.int (p.a : Nat)), some (.int (p.b : Nat)), some (pt p.s), some (pt (1 - p.s)), some (Lp v), some (pt (u p.a)), some (pt (u p.b)), none, none, none])
      (fun pre v => v = pre.map fun x => (1 - p.s) * u x.1 + p.s * u x.2) [] (by decide) ?_ ?_ rfl ?_ (fun _ => rfl) ?_
    · simp [e_var, ev_cst, e_gci, ev_op, ev_tup, ev_lst, ev_call, ev_and, ev_or, e_not, e_ifx, e_and1, e_and2, e_or1, e_or2, e_chain, e_chain3, e_comp, evs_nil, es_cons, e_flat, i_lst, i_rng1, i_rng2, i_zip, i_enum, s_asg, s_app, s_ifs, s_ret, s_retV, s_exp, s_rai, s_pas, s_brk, s_asgT, s_unp, s_setT, s_appK, exL_nil, exL_kil, exL_frz, opS, addS, subS, mulS, fdivS, modS, powS, negS, eqS, neS, ltS, leS, gtS, geS, lenS, sumS, absS, max1S, min1S, max2S, min2S, all1S, any1S, int1S, isiS, isiT, isNS, notNS, isBS, notBS, W.isNon, ixS_lst, ixS_tup, catS, repS, slcAS, slcBS, revS, sortedS, listS, rngLS, flIf, startW, ints_map, bls_map, eqW_Li, neW_Li, eqW_int, neW_int, W.isFlat, W.isFlats, wipeW, tgS, setAll, stosW_nil, stosW_cons, stoW_1, stoW_2, isinS, notinS]
    · rfl
    · intro pre2 x post2 v e2 pv
      have hL : v.length < LIM := by
        have := congrArg List.length e2
        simp at this
        rw [pv, List.length_map]
        show _ < 100000
        omega
      refine ⟨v ++ [(1 - p.s) * u x.1 + p.s * u x.2], some (pt (u x.1)), some (pt (u x.2)), ?_, by rw [pv, List.map_append]; rfl⟩
      simp [e_var, ev_cst, e_gci, ev_op, ev_tup, ev_lst, ev_call, ev_and, ev_or, e_not, e_ifx, e_and1, e_and2, e_or1, e_or2, e_chain, e_chain3, e_comp, evs_nil, es_cons, e_flat, i_lst, i_rng1, i_rng2, i_zip, i_enum, s_asg, s_app, s_ifs, s_ret, s_retV, s_exp, s_rai, s_pas, s_brk, s_asgT, s_unp, s_setT, s_appK, exL_nil, exL_kil, exL_frz, opS, addS, subS, mulS, fdivS, modS, powS, negS, eqS, neS, ltS, leS, gtS, geS, lenS, sumS, absS, max1S, min1S, max2S, min2S, all1S, any1S, int1S, isiS, isiT, isNS, notNS, isBS, notBS, W.isNon, ixS_lst, ixS_tup, catS, repS, slcAS, slcBS, revS, sortedS, listS, rngLS, flIf, startW, ints_map, bls_map, eqW_Li, neW_Li, eqW_int, neW_int, W.isFlat, W.isFlats, wipeW, tgS, setAll, stosW_nil, stosW_cons, stoW_1, stoW_2, isinS, notinS, k1, k2, k3, k4, t1, t2, pair, hL]
    · intro v o q pv
      subst pv
      have ia : ixN n (p.a : Int) = some p.a := by unfold ixN; rw [if_pos (by omega)]; simp; omega
      have ib : ixN n (p.b : Int) = some p.b := by unfold ixN; rw [if_pos (by omega)]; simp; omega
      refine ⟨stps (pre ++ [p]) r, some (.int (p.a : Nat)), some (.int (p.b : Nat)), some (pt p.s), ?_, rfl⟩
      have e3 : stps (pre ++ [p]) r = stp p u := by rw [pu]; unfold stps; rw [List.foldl_append]; rfl
      rw [e3]
      simp [e_var, ev_cst, e_gci, ev_op, ev_tup, ev_lst, ev_call, ev_and, ev_or, e_not, e_ifx, e_and1, e_and2, e_or1, e_or2, e_chain, e_chain3, e_comp, evs_nil, es_cons, e_flat, i_lst, i_rng1, i_rng2, i_zip, i_enum, s_asg, s_app, s_ifs, s_ret, s_retV, s_exp, s_rai, s_pas, s_brk, s_asgT, s_unp, s_setT, s_appK, exL_nil, exL_kil, exL_frz, opS, addS, subS, mulS, fdivS, modS, powS, negS, eqS, neS, ltS, leS, gtS, geS, lenS, sumS, absS, max1S, min1S, max2S, min2S, all1S, any1S, int1S, isiS, isiT, isNS, notNS, isBS, notBS, W.isNon, ixS_lst, ixS_tup, catS, repS, slcAS, slcBS, revS, sortedS, listS, rngLS, flIf, startW, ints_map, bls_map, eqW_Li, neW_Li, eqW_int, neW_int, W.isFlat, W.isFlats, wipeW, tgS, setAll, stosW_nil, stosW_cons, stoW_1, stoW_2, isinS, notinS, at_0, at_1, ia, ib, set_range]
      intro j hj
      unfold stp
      by_cases h3 : j = p.b
      · rw [if_pos h3, if_pos h3]
        congr 1
        grind
      · rw [if_neg h3, if_neg h3]
        by_cases h4 : j = p.a
        · rw [if_pos h4, if_pos h4]
          congr 1
          grind
        · rw [if_neg h4, if_neg h4]
  · intro u o q z pu
    subst pu
    simp [e_var, ev_cst, e_gci, ev_op, ev_tup, ev_lst, ev_call, ev_and, ev_or, e_not, e_ifx, e_and1, e_and2, e_or1, e_or2, e_chain, e_chain3, e_comp, evs_nil, es_cons, e_flat, i_lst, i_rng1, i_rng2, i_zip, i_enum, s_asg, s_app, s_ifs, s_ret, s_retV, s_exp, s_rai, s_pas, s_brk, s_asgT, s_unp, s_setT, s_appK, exL_nil, exL_kil, exL_frz, opS, addS, subS, mulS, fdivS, modS, powS, negS, eqS, neS, ltS, leS, gtS, geS, lenS, sumS, absS, max1S, min1S, max2S, min2S, all1S, any1S, int1S, isiS, isiT, isNS, notNS, isBS, notBS, W.isNon, ixS_lst, ixS_tup, catS, repS, slcAS, slcBS, revS, sortedS, listS, rngLS, flIf, startW, ints_map, bls_map, eqW_Li, neW_Li, eqW_int, neW_int, W.isFlat, W.isFlats, wipeW, tgS, setAll, stosW_nil, stosW_cons, stoW_1, stoW_2, isinS, notinS]
end
end Mx
/-! # Mx38: steps, as the laws draw them -/
namespace Mx
open PySem L2
section
variable {T : Tb} {k : Nat}
theorem share_of {t d : Nat} (h0 : 0 < d) (h6 : d ≤ 6) (ht : t ≤ d) : 0 ≤ Rat.divInt t d ∧ Rat.divInt t d ≤ 1 ∧ Bq 60 1 (Rat.divInt t d) := by
  have hd : (d : Rat) ≠ 0 := by
    have := natR_pos h0
    grind
  have e : Rat.divInt (t : Int) (d : Int) * (d : Rat) = (t : Rat) := by
    rw [Rat.divInt_eq_div]
    exact Rat.div_mul_cancel hd
  have hp := natR_pos h0
  have ht' : (t : Rat) ≤ (d : Rat) := by exact_mod_cast ht
  refine ⟨?_, ?_, ?_⟩
  · exact Rat.divInt_nonneg (by omega) (by omega)
  · refine Rat.le_of_mul_le_mul_right (c := (d : Rat)) ?_ hp
    rw [e]
    grind
  · have hb : Bq d 1 (Rat.divInt (t : Int) (d : Int)) := ⟨(t : Int), by rw [e]; rfl, by rw [Int.natAbs_natCast]; omega⟩
    refine hb.den ?_
    have hc : ∀ k, k < 7 → 0 < k → k ∣ 60 := by decide
    exact hc d (by omega) h0
theorem c_law_steps (h : Has T [70, 73, 86]) (hk : 2 ≤ k) {ns : List Int} (hl : ns.length ≤ 63) (hb : ∀ z ∈ ns, Builtin.Int.intBits z ≤ 1048576) {b m : Nat} (h3 : b ≤ 10) (h1 : 1 ≤ m) (hm : m ≤ 6) :
    ∃ l : List Stp, callN T k 86 [.scr ns, .int b, .int m] = .val (.lst (l.map stE)) ∧ l.length ≤ 4 ∧ ∀ p ∈ l, p.Ok m 60 := by
  obtain ⟨n, rfl⟩ : ∃ n, k = n + 2 := ⟨k - 2, by omega⟩
  have hc := cells4_nb (p := 1048576) (by decide) (fun x hx => bits_nb (hb x hx))
  have hcl := cells4_len hl
  have hcn := cells4_ne ns
  have ec : ev (callN T (n + 1)) T.cs (.ifx (.op .ne [.var 0, .lst []]) (.op (.slcB true) [.var 0, .cst (.int 63)]) (.lst [.cst (.int 4)])) [some (.scr ns), some (.int b), some (.int m), none, none, none, none, none, none, none, none] = .val (Li (cells4 ns)) := by
    unfold cells4
    by_cases hn : ns = []
    · subst hn
      simp [e_var, ev_cst, e_gci, ev_op, ev_tup, ev_lst, ev_call, ev_and, ev_or, e_not, e_ifx, e_and1, e_and2, e_or1, e_or2, e_chain, e_chain3, e_comp, evs_nil, es_cons, e_flat, i_lst, i_rng1, i_rng2, i_zip, i_enum, s_asg, s_app, s_ifs, s_ret, s_retV, s_exp, s_rai, s_pas, s_brk, s_asgT, s_unp, s_setT, s_appK, exL_nil, exL_kil, exL_frz, opS, addS, subS, mulS, fdivS, modS, powS, negS, eqS, neS, ltS, leS, gtS, geS, lenS, sumS, absS, max1S, min1S, max2S, min2S, all1S, any1S, int1S, isiS, isiT, isNS, notNS, isBS, notBS, W.isNon, ixS_lst, ixS_tup, catS, repS, slcAS, slcBS, revS, sortedS, listS, rngLS, flIf, startW, ints_map, bls_map, eqW_Li, neW_Li, eqW_int, neW_int, W.isFlat, W.isFlats, wipeW, tgS, setAll, stosW_nil, stosW_cons, stoW_1, stoW_2, isinS, notinS, neW_scr]
    · rw [if_neg hn]
      simp [e_var, ev_cst, e_gci, ev_op, ev_tup, ev_lst, ev_call, ev_and, ev_or, e_not, e_ifx, e_and1, e_and2, e_or1, e_or2, e_chain, e_chain3, e_comp, evs_nil, es_cons, e_flat, i_lst, i_rng1, i_rng2, i_zip, i_enum, s_asg, s_app, s_ifs, s_ret, s_retV, s_exp, s_rai, s_pas, s_brk, s_asgT, s_unp, s_setT, s_appK, exL_nil, exL_kil, exL_frz, opS, addS, subS, mulS, fdivS, modS, powS, negS, eqS, neS, ltS, leS, gtS, geS, lenS, sumS, absS, max1S, min1S, max2S, min2S, all1S, any1S, int1S, isiS, isiT, isNS, notNS, isBS, notBS, W.isNon, ixS_lst, ixS_tup, catS, repS, slcAS, slcBS, revS, sortedS, listS, rngLS, flIf, startW, ints_map, bls_map, eqW_Li, neW_Li, eqW_int, neW_int, W.isFlat, W.isFlats, wipeW, tgS, setAll, stosW_nil, stosW_cons, stoW_1, stoW_2, isinS, notinS, neW_scr, hn, cut63, take63 hl]
  generalize hcs : cells4 ns = C at hc hcl hcn ec
  have hwh : (ab C.sum + (b : Int)).natAbs < 2 ^ (1048576 + 7) := nb_add (by rw [ab_natAbs]; exact sum_nb hc hcl) (nb_small (by omega) (by decide))
  have hw0 : 0 ≤ ab C.sum + (b : Int) := by have := ab_nonneg C.sum; omega
  have e2 : (if C.sum < 0 then -C.sum else C.sum) = ab C.sum := rfl
  generalize hW : ab C.sum + (b : Int) = Wh at hwh hw0
  have m5 := fmod_bd Wh (b := 5) (by decide)
  obtain ⟨q, hq, hq4⟩ : ∃ q : Nat, (if 1 < m then Wh.fmod 5 else 0) = (q : Int) ∧ q ≤ 4 := by
    split
    · exact ⟨(Wh.fmod 5).toNat, by omega, by omega⟩
    · exact ⟨0, rfl, by omega⟩
  have hq0 : 1 < q + 1 → 1 < m := fun hz => by
    split at hq
    · assumption
    · omega
  refine RetTo.call (h.is 86 (by decide)) rfl ?_
  show RetTo _ _ (exL (callN T (n + 1)) T.cs ir__law_steps [some (.scr ns), some (.int b), some (.int m), none, none, none, none, none, none, none, none])
  unfold ir__law_steps
  rw [s_asg, ec]
  simp [e_var, ev_cst, e_gci, ev_op, ev_tup, ev_lst, ev_call, ev_and, ev_or, e_not, e_ifx, e_and1, e_and2, e_or1, e_or2, e_chain, e_chain3, e_comp, evs_nil, es_cons, e_flat, i_lst, i_rng1, i_rng2, i_zip, i_enum, s_asg, s_app, s_ifs, s_ret, s_retV, s_exp, s_rai, s_pas, s_brk, s_asgT, s_unp, s_setT, s_appK, exL_nil, exL_kil, exL_frz, opS, addS, subS, mulS, fdivS, modS, powS, negS, eqS, neS, ltS, leS, gtS, geS, lenS, sumS, absS, max1S, min1S, max2S, min2S, all1S, any1S, int1S, isiS, isiT, isNS, notNS, isBS, notBS, W.isNon, ixS_lst, ixS_tup, catS, repS, slcAS, slcBS, revS, sortedS, listS, rngLS, flIf, startW, ints_map, bls_map, eqW_Li, neW_Li, eqW_int, neW_int, W.isFlat, W.isFlats, wipeW, tgS, setAll, stosW_nil, stosW_cons, stoW_1, stoW_2, isinS, notinS, e2, hW]
  refine loop1C (i := 4) (RetTo _ _) (List.range q) (fun (i : Nat) => W.int (i : Int)) (fun l : List Stp => [some (.scr ns), some (.int b), some (.int m), some (Li C), none, some (.int Wh), some (.lst (l.map stE)), none, none, none, none]) (fun pre l => l.length = pre.length ∧ ∀ p ∈ l, p.Ok m 60) [] ?_ ?_ ⟨rfl, fun p hp => (nomatch hp)⟩ ?_ (fun _ => rfl) ?_
  · have hr := rng_nat q (by omega)
    by_cases h1m : 1 < m
    · rw [if_pos h1m] at hq
      have h1i : (1 : Int) < m := by omega
      simp [e_var, ev_cst, e_gci, ev_op, ev_tup, ev_lst, ev_call, ev_and, ev_or, e_not, e_ifx, e_and1, e_and2, e_or1, e_or2, e_chain, e_chain3, e_comp, evs_nil, es_cons, e_flat, i_lst, i_rng1, i_rng2, i_zip, i_enum, s_asg, s_app, s_ifs, s_ret, s_retV, s_exp, s_rai, s_pas, s_brk, s_asgT, s_unp, s_setT, s_appK, exL_nil, exL_kil, exL_frz, opS, addS, subS, mulS, fdivS, modS, powS, negS, eqS, neS, ltS, leS, gtS, geS, lenS, sumS, absS, max1S, min1S, max2S, min2S, all1S, any1S, int1S, isiS, isiT, isNS, notNS, isBS, notBS, W.isNon, ixS_lst, ixS_tup, catS, repS, slcAS, slcBS, revS, sortedS, listS, rngLS, flIf, startW, ints_map, bls_map, eqW_Li, neW_Li, eqW_int, neW_int, W.isFlat, W.isFlats, wipeW, tgS, setAll, stosW_nil, stosW_cons, stoW_1, stoW_2, isinS, notinS, h1i, hq, hr]
    · rw [if_neg h1m] at hq
      have hq' : q = 0 := by omega
      subst hq'
      have hr0 : rngW 0 0 = some [] := rfl
      have h1i : ¬ ((1 : Int) < m) := by omega
      simp [e_var, ev_cst, e_gci, ev_op, ev_tup, ev_lst, ev_call, ev_and, ev_or, e_not, e_ifx, e_and1, e_and2, e_or1, e_or2, e_chain, e_chain3, e_comp, evs_nil, es_cons, e_flat, i_lst, i_rng1, i_rng2, i_zip, i_enum, s_asg, s_app, s_ifs, s_ret, s_retV, s_exp, s_rai, s_pas, s_brk, s_asgT, s_unp, s_setT, s_appK, exL_nil, exL_kil, exL_frz, opS, addS, subS, mulS, fdivS, modS, powS, negS, eqS, neS, ltS, leS, gtS, geS, lenS, sumS, absS, max1S, min1S, max2S, min2S, all1S, any1S, int1S, isiS, isiT, isNS, notNS, isBS, notBS, W.isNon, ixS_lst, ixS_tup, catS, repS, slcAS, slcBS, revS, sortedS, listS, rngLS, flIf, startW, ints_map, bls_map, eqW_Li, neW_Li, eqW_int, neW_int, W.isFlat, W.isFlats, wipeW, tgS, setAll, stosW_nil, stosW_cons, stoW_1, stoW_2, isinS, notinS, h1i, hr0]
  · rfl
  · intro pre x post l e ⟨p1, p2⟩
    have hx : x < q := List.mem_range.mp (by rw [e]; simp)
    have hlen : pre.length ≤ q := by
      have := congrArg List.length e
      simp at this
      omega
    have h1m : 1 < m := hq0 (by omega)
    have hlt : (x + b) % C.length < C.length := Nat.mod_lt _ hcn
    obtain ⟨v, hv⟩ := number_ok (T := T) (f := 70) (h.is 70 (by decide)) n (c := C[(x + b) % C.length]) (w := Wh) (a := x + 2 * b) (p := 1048576 + 7) (by omega) (by decide) (by decide) (nb_mono (hc _ (List.getElem_mem hlt)) (by decide)) hwh
    generalize hV : v.natAbs = V
    have hab : (if v < 0 then -v else v) = (V : Int) := by rw [← hV]; split <;> omega
    have ei : ((x : Int) + (b : Int)).fmod (C.length : Int) = (((x + b) % C.length : Nat) : Int) := by
      rw [← fmod_nat]
      simp
    have eat : atI (C.map W.int) (((x + b) % C.length : Nat) : Int) = some (.int C[(x + b) % C.length]) := by rw [atI_map, at_nat hlt]; rfl
    have hnz : ¬ ((C.length : Int) = 0) := by omega
    have hnz2 : ¬ (C = []) := fun z => by rw [z] at hcn; cases hcn
    have q2 : mulOk 2 (b : Int) = true := mulOk_of (p := 10) (q := 10) (by decide) (nb_small (by omega) (by omega)) (by decide)
    rw [show ((x + 2 * b : Nat) : Int) = (x : Int) + 2 * (b : Int) by omega] at hv
    have d7 : divOk 7 = true := by decide
    have d50 : divOk 50 = true := by decide
    have d300 : divOk 300 = true := by decide
    generalize ho : V % (m - 1) = o
    have ho1 : o < m - 1 := by rw [← ho]; exact Nat.mod_lt _ (by omega)
    have eo : (V : Int).fmod ((m : Int) - 1) = (o : Int) := by
      rw [← ho, show (m : Int) - 1 = ((m - 1 : Nat) : Int) by omega, fmod_nat]
    generalize ht : o + 1 + V / 7 % (m - 1 - o) = t
    have ht1 : o < t ∧ t < m := by
      have := Nat.mod_lt (V / 7) (show 0 < m - 1 - o by omega)
      omega
    have et : (o : Int) + 1 + ((V : Int) / 7).fmod ((m : Int) - 1 - (o : Int)) = (t : Int) := by
      rw [← ht, show (V : Int) / 7 = ((V / 7 : Nat) : Int) by simp, show (m : Int) - 1 - (o : Int) = ((m - 1 - o : Nat) : Int) by omega, fmod_nat]
      omega
    have hz1 : ¬ ((m : Int) - 1 = 0) := by omega
    have hz2 : ¬ ((m : Int) - 1 - (o : Int) = 0) := by omega
    generalize hB : 1 + V / 50 % 6 = Bt
    have hB1 : 0 < Bt ∧ Bt ≤ 6 := by
      have := Nat.mod_lt (V / 50) (show 0 < 6 by decide)
      omega
    have eB : 1 + ((V : Int) / 50).fmod 6 = (Bt : Int) := by
      rw [← hB, show (V : Int) / 50 = ((V / 50 : Nat) : Int) by simp]
      have := fmod_nat (V / 50) 6
      simp at this ⊢
      omega
    generalize hA : V / 300 % (Bt + 1) = A
    have hA1 : A ≤ Bt := by
      have := Nat.mod_lt (V / 300) (show 0 < Bt + 1 by omega)
      omega
    have eA : ((V : Int) / 300).fmod ((Bt : Int) + 1) = (A : Int) := by
      rw [← hA, show (V : Int) / 300 = ((V / 300 : Nat) : Int) by simp, show (Bt : Int) + 1 = ((Bt + 1 : Nat) : Int) by omega, fmod_nat]
    have hz3 : ¬ ((Bt : Int) + 1 = 0) := by omega
    have cl := c_lawlow (T := T) (n := n + 1) (h.sub [73] (by decide)) (by omega) (A : Int) (b := (Bt : Int)) (by omega) (by rw [Int.natAbs_natCast]; exact Nat.lt_of_lt_of_le (show Bt < 2 ^ 10 by omega) (Nat.pow_le_pow_right (by decide) (by decide)))
    obtain ⟨g1, g2, g3⟩ := share_of hB1.1 hB1.2 hA1
    have hL : l.length < LIM := by show _ < 100000; omega
    refine ⟨l ++ [⟨o, t, Rat.divInt A Bt⟩], some (.int (x : Int)), ?_, by simp [p1], fun p hp => ?_⟩
    · have s1 : ev (callN T (n + 1)) T.cs (.op .abs [.call 70 [.flat (.op .ix [.var 3, .op .mod [.op .add [.var 4, .flat (.var 1)], .op .len [.var 3]]]), .op .add [.var 4, .op .mul [.cst (.int 2), .flat (.var 1)]], .var 5]]) [some (.scr ns), some (.int b), some (.int m), some (Li C), some (.int (x : Int)), some (.int Wh), some (.lst (l.map stE)), none, none, none, none] = .val (.int V) := by
        simp only [e_var, ev_cst, e_gci, ev_op, ev_tup, ev_lst, ev_call, ev_and, ev_or, e_not, e_ifx, e_and1, e_and2, e_or1, e_or2, e_chain, e_chain3, e_comp, evs_nil, es_cons, e_flat, i_lst, i_rng1, i_rng2, i_zip, i_enum, s_asg, s_app, s_ifs, s_ret, s_retV, s_exp, s_rai, s_pas, s_brk, s_asgT, s_unp, s_setT, s_appK, exL_nil, exL_kil, exL_frz, opS, addS, subS, mulS, fdivS, modS, powS, negS, eqS, neS, ltS, leS, gtS, geS, lenS, sumS, absS, max1S, min1S, max2S, min2S, all1S, any1S, int1S, isiS, isiT, isNS, notNS, isBS, notBS, W.isNon, ixS_lst, ixS_tup, catS, repS, slcAS, slcBS, revS, sortedS, listS, rngLS, flIf, startW, ints_map, bls_map, eqW_Li, neW_Li, eqW_int, neW_int, W.isFlat, W.isFlats, wipeW, tgS, setAll, stosW_nil, stosW_cons, stoW_1, stoW_2, isinS, notinS, List.getElem?_cons_zero, List.getElem?_cons_succ, getO_some, kFlat_val, kAt_some, if_true, consO_val, osbind_vals, List.length_map, hnz, if_false, ei, eat, q2, hv, hab]
      simp only [List.set_cons_zero, List.set_cons_succ]
      rw [s_asg, s1]
      simp [e_var, ev_cst, e_gci, ev_op, ev_tup, ev_lst, ev_call, ev_and, ev_or, e_not, e_ifx, e_and1, e_and2, e_or1, e_or2, e_chain, e_chain3, e_comp, evs_nil, es_cons, e_flat, i_lst, i_rng1, i_rng2, i_zip, i_enum, s_asg, s_app, s_ifs, s_ret, s_retV, s_exp, s_rai, s_pas, s_brk, s_asgT, s_unp, s_setT, s_appK, exL_nil, exL_kil, exL_frz, opS, addS, subS, mulS, fdivS, modS, powS, negS, eqS, neS, ltS, leS, gtS, geS, lenS, sumS, absS, max1S, min1S, max2S, min2S, all1S, any1S, int1S, isiS, isiT, isNS, notNS, isBS, notBS, W.isNon, ixS_lst, ixS_tup, catS, repS, slcAS, slcBS, revS, sortedS, listS, rngLS, flIf, startW, ints_map, bls_map, eqW_Li, neW_Li, eqW_int, neW_int, W.isFlat, W.isFlats, wipeW, tgS, setAll, stosW_nil, stosW_cons, stoW_1, stoW_2, isinS, notinS, hz1, hz2, hz3, eo, et, eB, eA, d7, d50, d300, cl, hL, stE, h1m]
    · rcases List.mem_append.mp hp with hp | hp
      · exact p2 p hp
      · rw [List.mem_singleton.mp hp]
        exact ⟨ht1.1, ht1.2, g1, g2, g3⟩
  · intro l o ⟨p1, p2⟩
    refine ⟨l, by simp [e_var, ev_cst, e_gci, ev_op, ev_tup, ev_lst, ev_call, ev_and, ev_or, e_not, e_ifx, e_and1, e_and2, e_or1, e_or2, e_chain, e_chain3, e_comp, evs_nil, es_cons, e_flat, i_lst, i_rng1, i_rng2, i_zip, i_enum, s_asg, s_app, s_ifs, s_ret, s_retV, s_exp, s_rai, s_pas, s_brk, s_asgT, s_unp, s_setT, s_appK, exL_nil, exL_kil, exL_frz, opS, addS, subS, mulS, fdivS, modS, powS, negS, eqS, neS, ltS, leS, gtS, geS, lenS, sumS, absS, max1S, min1S, max2S, min2S, all1S, any1S, int1S, isiS, isiT, isNS, notNS, isBS, notBS, W.isNon, ixS_lst, ixS_tup, catS, repS, slcAS, slcBS, revS, sortedS, listS, rngLS, flIf, startW, ints_map, bls_map, eqW_Li, neW_Li, eqW_int, neW_int, W.isFlat, W.isFlats, wipeW, tgS, setAll, stosW_nil, stosW_cons, stoW_1, stoW_2, isinS, notinS], ?_, p2⟩
    rw [p1, List.length_range]
    exact hq4
end
end Mx
/-! # Mx39: plain: a row over another: steps that lead there -/
namespace Mx
open PySem L2
theorem sm_lt {f g : Nat → Rat} : ∀ {n : Nat}, (∀ i, i < n → f i ≤ g i) → (∃ k, k < n ∧ f k < g k) → sm n f < sm n g
  | 0, _, ⟨k, h, _⟩ => absurd h (Nat.not_lt_zero _)
  | n + 1, h, ⟨k, hk, hl⟩ => by
    rw [sm, sm]
    have h2 := h n (by omega)
    by_cases e : k = n
    · subst e
      have h1 := sm_le (n := k) fun i hi => h i (by omega)
      grind
    · have h1 := sm_lt (n := n) (fun i hi => h i (by omega)) ⟨k, by omega, hl⟩
      grind
/-- the one over the other, place by place -/
structure Maj (n : Nat) (x y : Nat → Rat) : Prop where
  pre : ∀ k, k ≤ n → sm k y ≤ sm k x
  tot : sm n x = sm n y
theorem Maj.more {n : Nat} {x y : Nat → Rat} (h : Maj n x y) (hne : ∃ i, i < n ∧ x i ≠ y i) : ∃ i, i < n ∧ y i < x i := by
  apply Classical.byContradiction
  intro hc
  have hle : ∀ i, i < n → x i ≤ y i := fun i hi => by
    by_cases z : y i < x i
    · exact absurd ⟨i, hi, z⟩ hc
    · exact Rat.not_lt.mp z
  obtain ⟨i, hi, hn⟩ := hne
  have := sm_lt hle ⟨i, hi, by have := hle i hi; grind⟩
  have := h.tot
  grind
theorem Maj.less {n : Nat} {x y : Nat → Rat} (h : Maj n x y) {a : Nat} (ha : a < n) (hm : y a < x a) (hmax : ∀ j, a < j → j < n → x j ≤ y j) : ∃ j, a < j ∧ j < n ∧ x j < y j := by
  apply Classical.byContradiction
  intro hc
  have heq : ∀ j, a < j → j < n → x j = y j := fun j h1 h2 => by
    have := hmax j h1 h2
    by_cases z : x j < y j
    · exact absurd ⟨j, h1, h2, z⟩ hc
    · have := Rat.not_lt.mp z
      grind
  have key : ∀ d, a + 1 + d ≤ n → sm (a + 1 + d) y < sm (a + 1 + d) x := by
    intro d
    induction d with
    | zero =>
      intro _
      show sm a y + y a < sm a x + x a
      have := h.pre a (by omega)
      grind
    | succ d ih =>
      intro hd
      have ih := ih (by omega)
      have e := heq (a + 1 + d) (by omega) (by omega)
      show sm (a + 1 + d) y + y (a + 1 + d) < sm (a + 1 + d) x + x (a + 1 + d)
      grind
  have := key (n - (a + 1)) (by omega)
  rw [show a + 1 + (n - (a + 1)) = n by omega] at this
  have := h.tot
  grind
theorem sm_bump (x : Nat → Rat) (a : Nat) (c : Rat) : ∀ k, sm k (fun i => x i + if i = a then c else 0) = sm k x + if a < k then c else 0
  | 0 => by simp [sm, Rat.add_zero]
  | k + 1 => by
    rw [sm, sm, sm_bump x a c k]
    by_cases h : k = a
    · subst h
      rw [if_pos rfl, if_neg (Nat.lt_irrefl _), if_pos (Nat.lt_succ_self _)]
      grind
    · by_cases h2 : a < k
      · rw [if_neg h, if_pos h2, if_pos (by omega)]; grind
      · rw [if_neg h, if_neg h2, if_neg (by omega)]; grind
/-- a gift of m from a to b -/
theorem Maj.gift {n : Nat} {x y : Nat → Rat} (h : Maj n x y) {a b : Nat} {m : Rat} (hab : a < b) (hb : b < n) (hm0 : 0 ≤ m) (hma : m ≤ x a - y a) (hmid : ∀ j, a < j → j < b → x j = y j) :
    Maj n (fun i => (x i + if i = a then -m else 0) + if i = b then m else 0) y := by
  have e : ∀ k, sm k (fun i => (x i + if i = a then -m else 0) + if i = b then m else 0) = sm k x + (if a < k then -m else 0) + if b < k then m else 0 := fun k => by
    rw [sm_bump (fun i => x i + if i = a then -m else 0) b m k, sm_bump x a (-m) k]
  have key : ∀ d, a + 1 + d ≤ b → sm (a + 1 + d) y + (x a - y a) ≤ sm (a + 1 + d) x := by
    intro d
    induction d with
    | zero =>
      intro _
      show sm a y + y a + (x a - y a) ≤ sm a x + x a
      have := h.pre a (by omega)
      grind
    | succ d ih =>
      intro hd
      have ih := ih (by omega)
      have e := hmid (a + 1 + d) (by omega) (by omega)
      show sm (a + 1 + d) y + y (a + 1 + d) + (x a - y a) ≤ sm (a + 1 + d) x + x (a + 1 + d)
      grind
  refine ⟨fun k hk => ?_, ?_⟩
  · rw [e]
    have hp := h.pre k hk
    by_cases h1 : a < k
    · by_cases h2 : b < k
      · rw [if_pos h1, if_pos h2]; grind
      · rw [if_pos h1, if_neg h2]
        have := key (k - (a + 1)) (by omega)
        rw [show a + 1 + (k - (a + 1)) = k by omega] at this
        grind
    · rw [if_neg h1, if_neg (by omega)]; grind
  · rw [e, if_pos (by omega), if_pos hb, ← h.tot]
    grind
/-- how many places differ -/
def mc : Nat → (Nat → Rat) → (Nat → Rat) → Nat
  | 0, _, _ => 0
  | n + 1, x, y => mc n x y + if x n = y n then 0 else 1
theorem mc_le {y : Nat → Rat} : ∀ {n : Nat} {x x' : Nat → Rat}, (∀ i, i < n → x' i ≠ y i → x i ≠ y i) → mc n x' y ≤ mc n x y
  | 0, _, _, _ => Nat.le_refl _
  | n + 1, x, x', h => by
    rw [mc, mc]
    have h1 := mc_le (n := n) fun i hi => h i (by omega)
    have h2 := h n (by omega)
    by_cases z : x' n = y n
    · rw [if_pos z]; omega
    · rw [if_neg z, if_neg (h2 z)]; omega
theorem mc_lt {y : Nat → Rat} : ∀ {n : Nat} {x x' : Nat → Rat} {k : Nat}, (∀ i, i < n → x' i ≠ y i → x i ≠ y i) → k < n → x k ≠ y k → x' k = y k → mc n x' y < mc n x y
  | 0, _, _, k, _, h, _, _ => absurd h (Nat.not_lt_zero _)
  | n + 1, x, x', k, h, hk, h1, h2 => by
    rw [mc, mc]
    by_cases e : k = n
    · subst e
      have := mc_le (n := k) (x := x) (x' := x') fun i hi => h i (by omega)
      rw [if_pos h2, if_neg h1]
      omega
    · have := mc_lt (n := n) (fun i hi => h i (by omega)) (by omega) h1 h2
      have h3 := h n (by omega)
      by_cases z : x' n = y n
      · rw [if_pos z]; omega
      · rw [if_neg z, if_neg (h3 z)]; omega
theorem mc_two {y x : Nat → Rat} {n a b : Nat} (hab : a ≠ b) (ha : a < n) (hb : b < n) (h1 : x a ≠ y a) (h2 : x b ≠ y b) : 2 ≤ mc n x y := by
  have s1 := mc_lt (n := n) (x := x) (x' := fun i => if i = a then y a else x i) (k := a) (y := y) (fun i hi h => by
    by_cases e : i = a
    · rw [if_pos e, e] at h; exact absurd rfl h
    · rwa [if_neg e] at h) ha h1 (if_pos rfl)
  have s2 := mc_lt (n := n) (x := fun i => if i = a then y a else x i) (x' := y) (k := b) (y := y) (fun i hi h => absurd rfl h) hb (by
    show (if b = a then y a else x b) ≠ y b
    rw [if_neg (fun z => hab z.symm)]; exact h2) rfl
  omega
theorem mc_bound {y : Nat → Rat} : ∀ {n : Nat} {x : Nat → Rat}, mc n x y ≤ n
  | 0, _ => Nat.le_refl _
  | n + 1, x => by
    rw [mc]
    have := mc_bound (n := n) (x := x) (y := y)
    split <;> omega
theorem mc_zero {y : Nat → Rat} : ∀ {n : Nat} {x : Nat → Rat}, (∀ i, i < n → x i = y i) → mc n x y = 0
  | 0, _, _ => rfl
  | n + 1, x, h => by rw [mc, mc_zero (n := n) fun i hi => h i (by omega), if_pos (h n (by omega))]
/-! ## the greatest, the least of some ints -/
theorem maxI_in {l : List Int} (h : l ≠ []) : ∃ m, maxI l = some m ∧ m ∈ l ∧ ∀ x ∈ l, x ≤ m := by
  cases l with
  | nil => exact absurd rfl h
  | cons a l =>
    refine ⟨_, rfl, ?_⟩
    have key : ∀ (l : List Int) (a : Int), (l.foldl (fun a b => if b > a then b else a) a ∈ a :: l) ∧ ∀ x ∈ a :: l, x ≤ l.foldl (fun a b => if b > a then b else a) a := by
      intro l
      induction l with
      | nil => intro a; simp
      | cons b l ih =>
        intro a
        obtain ⟨h1, h2⟩ := ih (if b > a then b else a)
        rw [List.foldl_cons]
        generalize List.foldl (fun a b => if b > a then b else a) (if b > a then b else a) l = F at h1 h2 ⊢
        constructor
        · rcases List.mem_cons.mp h1 with h | h
          · rw [h]
            split <;> simp
          · simp [h]
        · intro x hx
          have h3 := h2 (if b > a then b else a) List.mem_cons_self
          rcases List.mem_cons.mp hx with rfl | hx
          · split at h3 <;> omega
          · rcases List.mem_cons.mp hx with rfl | hx
            · split at h3 <;> omega
            · exact h2 x (List.mem_cons_of_mem _ hx)
    exact key l a
theorem minI_in {l : List Int} (h : l ≠ []) : ∃ m, minI l = some m ∧ m ∈ l ∧ ∀ x ∈ l, m ≤ x := by
  cases l with
  | nil => exact absurd rfl h
  | cons a l =>
    refine ⟨_, rfl, ?_⟩
    have key : ∀ (l : List Int) (a : Int), (l.foldl (fun a b => if b < a then b else a) a ∈ a :: l) ∧ ∀ x ∈ a :: l, l.foldl (fun a b => if b < a then b else a) a ≤ x := by
      intro l
      induction l with
      | nil => intro a; simp
      | cons b l ih =>
        intro a
        obtain ⟨h1, h2⟩ := ih (if b < a then b else a)
        rw [List.foldl_cons]
        generalize List.foldl (fun a b => if b < a then b else a) (if b < a then b else a) l = F at h1 h2 ⊢
        constructor
        · rcases List.mem_cons.mp h1 with h | h
          · rw [h]
            split <;> simp
          · simp [h]
        · intro x hx
          have h3 := h2 (if b < a then b else a) List.mem_cons_self
          rcases List.mem_cons.mp hx with rfl | hx
          · split at h3 <;> omega
          · rcases List.mem_cons.mp hx with rfl | hx
            · split at h3 <;> omega
            · exact h2 x (List.mem_cons_of_mem _ hx)
    exact key l a
/-! ## whole numbers, bounded -/
def Iq (N : Nat) (q : Rat) : Prop := ∃ z : Int, q = (z : Rat) ∧ z.natAbs ≤ N
theorem Iq.bq {N : Nat} {q : Rat} (h : Iq N q) : Bq 1 N q := by
  obtain ⟨z, rfl, h⟩ := h
  exact Bq.int z h
theorem Iq.of_between {N : Nat} {p q r : Rat} (hp : Iq N p) (hr : Iq N r) (hq : ∃ z : Int, q = (z : Rat)) (h1 : p ≤ q) (h2 : q ≤ r) : Iq N q := by
  obtain ⟨z, rfl⟩ := hq
  obtain ⟨a, rfl, ha⟩ := hp
  obtain ⟨b, rfl, hb⟩ := hr
  have e1 : a ≤ z := by exact_mod_cast h1
  have e2 : z ≤ b := by exact_mod_cast h2
  exact ⟨z, rfl, by omega⟩
end Mx
/-! # Mx40: the steps that lead a row to one under it -/
namespace Mx
open PySem L2
theorem rw_inj {n : Nat} {x y : Nat → Rat} (h : rw_ n x = rw_ n y) : ∀ i, i < n → x i = y i := fun i hi => by
  have := congrArg (fun l => l[i]?) h
  simpa [hi] using this
/-- a step found on the way -/
structure Fnd (n B : Nat) (p : Stp) : Prop where
  ab : p.a < p.b
  bn : p.b < n
  s0 : 0 ≤ p.s
  s1 : p.s ≤ 1
  bd : ∃ d, 0 < d ∧ d ≤ B ∧ Bq d 1 p.s
/-- steps so far -/
structure Way (n N : Nat) (x0 y : Nat → Rat) (l : List Stp) : Prop where
  maj : Maj n (stps l x0) y
  iq : ∀ i, Iq N (stps l x0 i)
  ok : ∀ p ∈ l, Fnd n (2 * N) p
  len : l.length + max (mc n (stps l x0) y) 1 ≤ n
theorem gift_eq {x : Nat → Rat} {a b : Nat} {m d : Rat} (hab : a < b) (hd : x a - x b = d) (hd0 : d ≠ 0) : stp ⟨a, b, m / d⟩ x = fun i => (x i + if i = a then -m else 0) + if i = b then m else 0 := by
  funext i
  have e : m / d * (x b - x a) = -m := by
    have : x b - x a = -d := by grind
    rw [this]
    have := Rat.div_mul_cancel (a := m) hd0
    grind
  unfold stp
  simp only [e]
  by_cases h1 : i = b
  · have h2 : ¬ i = a := by omega
    rw [if_pos h1, if_neg h2, if_pos h1, h1]; grind
  · by_cases h2 : i = a
    · rw [if_neg h1, if_pos h2, if_pos h2, if_neg h1, h2]; grind
    · rw [if_neg h1, if_neg h2, if_neg h2, if_neg h1]; grind
/-- one more step -/
theorem Way.step {n N : Nat} {x0 y : Nat → Rat} {l : List Stp} (w : Way n N x0 y l) (hy : ∀ i j, i ≤ j → j < n → y j ≤ y i) (hyq : ∀ i, Iq N (y i)) {a b : Nat} (hab : a < b) (hb : b < n) (ha : y a < stps l x0 a) (hlo : stps l x0 b < y b) (hmid : ∀ j, a < j → j < b → stps l x0 j = y j) :
    let x := stps l x0
    let m := if y b - x b < x a - y a then y b - x b else x a - y a
    let p : Stp := ⟨a, b, m / (x a - x b)⟩
    Way n N x0 y (l ++ [p]) ∧ Fnd n (2 * N) p ∧ x a - x b ≠ 0 ∧ mc n (stps (l ++ [p]) x0) y < mc n x y := by
  intro x m p
  have hd : 0 < x a - x b := by
    have := hy a b (by omega) hb
    show (0 : Rat) < stps l x0 a - stps l x0 b
    grind
  have hd0 : x a - x b ≠ 0 := by grind
  have hm0 : 0 < m := by
    show (0 : Rat) < if y b - stps l x0 b < stps l x0 a - y a then y b - stps l x0 b else stps l x0 a - y a
    split <;> grind
  have hma : m ≤ x a - y a := by
    show (if y b - x b < x a - y a then y b - x b else x a - y a) ≤ x a - y a
    split <;> grind
  have hmb : m ≤ y b - x b := by
    show (if y b - x b < x a - y a then y b - x b else x a - y a) ≤ y b - x b
    split <;> grind
  have hmc : m = y b - x b ∨ m = x a - y a := by
    show (if y b - x b < x a - y a then y b - x b else x a - y a) = y b - x b ∨ (if y b - x b < x a - y a then y b - x b else x a - y a) = x a - y a
    split
    · exact Or.inl rfl
    · exact Or.inr rfl
  have hmd : m ≤ x a - x b := by
    have := hy a b (by omega) hb
    grind
  have es : stps (l ++ [p]) x0 = stp p x := by unfold stps; rw [List.foldl_append]; rfl
  have eg : stp p x = fun i => (x i + if i = a then -m else 0) + if i = b then m else 0 := gift_eq hab rfl hd0
  have hs0 : 0 ≤ p.s := by
    show 0 ≤ m / (x a - x b)
    refine Rat.le_of_mul_le_mul_right (c := x a - x b) ?_ hd
    rw [Rat.div_mul_cancel hd0, Rat.zero_mul]
    exact Rat.le_of_lt hm0
  have hs1 : p.s ≤ 1 := by
    show m / (x a - x b) ≤ 1
    refine Rat.le_of_mul_le_mul_right (c := x a - x b) ?_ hd
    rw [Rat.div_mul_cancel hd0]
    grind
  have hbd : ∃ d, 0 < d ∧ d ≤ 2 * N ∧ Bq d 1 p.s := by
    obtain ⟨za, ea, ha'⟩ := w.iq a
    obtain ⟨zb, eb, hb'⟩ := w.iq b
    obtain ⟨ya, fa, _⟩ := hyq a
    obtain ⟨yb, fb, _⟩ := hyq b
    have ea : x a = (za : Rat) := ea
    have eb : x b = (zb : Rat) := eb
    have ed : x a - x b = ((za - zb : Int) : Rat) := by rw [ea, eb, Rat.intCast_sub]
    have hz : 0 < za - zb := by
      rw [ed] at hd
      exact_mod_cast hd
    obtain ⟨zm, em⟩ : ∃ z : Int, m = (z : Rat) := by
      rcases hmc with h | h
      · exact ⟨yb - zb, by rw [h, fb, eb, Rat.intCast_sub]⟩
      · exact ⟨za - ya, by rw [h, ea, fa, Rat.intCast_sub]⟩
    have hzm : 0 ≤ zm ∧ zm ≤ za - zb := by
      rw [em] at hm0 hmd
      rw [ed] at hmd
      exact ⟨by have : (0 : Rat) < (zm : Rat) := hm0; have : 0 < zm := (by exact_mod_cast this); omega, by exact_mod_cast hmd⟩
    refine ⟨(za - zb).toNat, by omega, by omega, zm, ?_, by omega⟩
    show m / (x a - x b) * (((za - zb).toNat : Nat) : Rat) = (zm : Rat)
    have : (((za - zb).toNat : Nat) : Rat) = ((za - zb : Int) : Rat) := by
      have h : (((za - zb).toNat : Nat) : Int) = za - zb := Int.toNat_of_nonneg (by omega)
      have : (((za - zb).toNat : Nat) : Rat) = ((((za - zb).toNat : Nat) : Int) : Rat) := rfl
      rw [this, h]
    rw [this, ← ed, Rat.div_mul_cancel hd0, em]
  have fnd : Fnd n (2 * N) p := ⟨hab, hb, hs0, hs1, hbd⟩
  have mcl : mc n (stps (l ++ [p]) x0) y < mc n x y := by
    rw [es, eg]
    rcases hmc with h | h
    · refine mc_lt (k := b) (fun i hi hne => ?_) hb (show x b ≠ y b by show stps l x0 b ≠ y b; grind) ?_
      · by_cases e1 : i = a
        · subst e1
          show stps l x0 i ≠ y i
          grind
        · by_cases e2 : i = b
          · subst e2
            show stps l x0 i ≠ y i
            grind
          · rw [if_neg e1, if_neg e2] at hne
            intro z
            apply hne
            rw [z]
            grind
      · show (x b + if b = a then -m else 0) + (if b = b then m else 0) = y b
        rw [if_neg (by omega), if_pos rfl, h]
        grind
    · refine mc_lt (k := a) (fun i hi hne => ?_) (by omega) (show x a ≠ y a by show stps l x0 a ≠ y a; grind) ?_
      · by_cases e1 : i = a
        · subst e1
          show stps l x0 i ≠ y i
          grind
        · by_cases e2 : i = b
          · subst e2
            show stps l x0 i ≠ y i
            grind
          · rw [if_neg e1, if_neg e2] at hne
            intro z
            apply hne
            rw [z]
            grind
      · show (x a + if a = a then -m else 0) + (if a = b then m else 0) = y a
        rw [if_pos rfl, if_neg (by omega), h]
        grind
  refine ⟨⟨?_, ?_, ?_, ?_⟩, fnd, hd0, mcl⟩
  · rw [es, eg]
    exact w.maj.gift hab hb (Rat.le_of_lt hm0) hma hmid
  · intro i
    rw [es, eg]
    obtain ⟨za, ea, _⟩ := w.iq a
    obtain ⟨zb, eb, _⟩ := w.iq b
    obtain ⟨ya, fa, _⟩ := hyq a
    obtain ⟨yb, fb, _⟩ := hyq b
    obtain ⟨zm, em⟩ : ∃ z : Int, m = (z : Rat) := by
      rcases hmc with h | h
      · exact ⟨yb - zb, by rw [h, fb]; show _ - stps l x0 b = _; rw [eb, Rat.intCast_sub]⟩
      · exact ⟨za - ya, by rw [h, fa]; show stps l x0 a - _ = _; rw [ea, Rat.intCast_sub]⟩
    by_cases e1 : i = a
    · subst e1
      refine Iq.of_between (hyq i) (w.iq i) ⟨za - zm, ?_⟩ ?_ ?_
      · show (stps l x0 i + if i = i then -m else 0) + (if i = b then m else 0) = _
        rw [if_pos rfl, if_neg (by omega), ea, em, Rat.intCast_sub]
        grind
      · show y i ≤ (stps l x0 i + if i = i then -m else 0) + (if i = b then m else 0)
        rw [if_pos rfl, if_neg (by omega)]
        have : m ≤ stps l x0 i - y i := hma
        grind
      · show (stps l x0 i + if i = i then -m else 0) + (if i = b then m else 0) ≤ stps l x0 i
        rw [if_pos rfl, if_neg (by omega)]
        grind
    · by_cases e2 : i = b
      · subst e2
        refine Iq.of_between (w.iq i) (hyq i) ⟨zb + zm, ?_⟩ ?_ ?_
        · show (stps l x0 i + if i = a then -m else 0) + (if i = i then m else 0) = _
          rw [if_neg e1, if_pos rfl, eb, em, Rat.intCast_add]
          grind
        · show stps l x0 i ≤ (stps l x0 i + if i = a then -m else 0) + (if i = i then m else 0)
          rw [if_neg e1, if_pos rfl]
          grind
        · show (stps l x0 i + if i = a then -m else 0) + (if i = i then m else 0) ≤ y i
          rw [if_neg e1, if_pos rfl]
          have : m ≤ y i - stps l x0 i := hmb
          grind
      · show Iq N ((stps l x0 i + if i = a then -m else 0) + (if i = b then m else 0))
        rw [if_neg e1, if_neg e2, Rat.add_zero, Rat.add_zero]
        exact w.iq i
  · intro q hq
    rcases List.mem_append.mp hq with hq | hq
    · exact w.ok q hq
    · rw [List.mem_singleton.mp hq]
      exact fnd
  · have h2 := mc_two (n := n) (x := x) (y := y) (a := a) (b := b) (by omega) (by omega) hb (show stps l x0 a ≠ y a by grind) (show stps l x0 b ≠ y b by grind)
    have h3 := w.len
    have h4 : mc n (stps l x0) y = mc n x y := rfl
    rw [List.length_append, List.length_singleton]
    omega
section
variable {T : Tb} {k : Nat} {a b : List Int} {N : Nat}
theorem ga_iq {ns : List Int} (hN : ∀ x ∈ ns, x.natAbs ≤ N) (j : Nat) : Iq N (ga ns j) := by
  refine ⟨_, rfl, ?_⟩
  rw [List.getD_eq_getElem?_getD]
  by_cases hj : j < ns.length
  · rw [List.getElem?_eq_getElem hj]
    exact hN _ (List.getElem_mem hj)
  · rw [List.getElem?_eq_none (by omega)]
    simp
theorem ga_sm (ns : List Int) : ∀ k, k ≤ ns.length → sm k (ga ns) = (((ns.take k).sum : Int) : Rat)
  | 0, _ => by simp [sm]
  | k + 1, h => by
    rw [sm, ga_sm ns k (by omega), take_succ_sum ns (by omega), Rat.intCast_add]
    congr 1
    unfold ga
    simp [show k < ns.length by omega]
theorem ga_fall (ns : List Int) {i j : Nat} (hij : i ≤ j) (hj : j < ns.length) : ga (fall ns) j ≤ ga (fall ns) i := by
  have hl := fall_len ns
  unfold ga
  rw [List.getD_eq_getElem?_getD, List.getD_eq_getElem?_getD, List.getElem?_eq_getElem (by omega), List.getElem?_eq_getElem (by omega)]
  simp only [Option.getD_some]
  by_cases e : i = j
  · subst e; exact Rat.le_refl
  · have := (List.pairwise_iff_getElem.mp (fall_pair ns)) i j (by omega) (by omega) (by omega)
    exact_mod_cast this
/-- over, by sums: over, place by place of the falling rows -/
theorem maj_of (hl : a.length = b.length) (h : ovB a b = true) : Maj a.length (ga (fall a)) (ga (fall b)) := by
  obtain ⟨h1, h2⟩ := (ovB_iff hl).mp h
  refine ⟨fun k hk => ?_, ?_⟩
  · rw [ga_sm _ _ (by rw [fall_len]; omega), ga_sm _ _ (by rw [fall_len]; omega)]
    have := h2 k hk
    unfold gk at this
    exact_mod_cast this
  · rw [ga_sm _ _ (by rw [fall_len]; omega), ga_sm _ _ (by rw [fall_len]; omega)]
    have e1 := gk_all a
    have e2 := gk_all b
    unfold gk at e1 e2
    rw [← hl] at e2
    rw [e1, e2, h1]
theorem c_steps_of (h : Has T [0, 1, 2, 3, 4, 5, 7, 12, 23, 33, 39]) (hk : 5 ≤ k) (h1 : 1 ≤ a.length) (h6 : a.length ≤ 6) (hl : a.length = b.length) (ha : ∀ x ∈ a, x.natAbs ≤ N) (hb : ∀ x ∈ b, x.natAbs ≤ N) (hN : N < 2 ^ 1000) (ho : ovB a b = true) :
    ∃ l : List Stp, callN T k 39 [Li a, Li b] = .val (.lst (l.map stE)) ∧ l.length < a.length ∧ (∀ p ∈ l, Fnd a.length (2 * N) p) ∧ ∀ i, i < a.length → stps l (ga (fall a)) i = ga (fall b) i := by
  obtain ⟨m, rfl⟩ : ∃ m, k = m + 5 := ⟨k - 5, by omega⟩
  have ha' : ∀ x ∈ fall a, x.natAbs ≤ N := fun x hx => ha x ((fall_perm a).subset hx)
  have hb' : ∀ x ∈ fall b, x.natAbs ≤ N := fun x hx => hb x ((fall_perm b).subset hx)
  have e1 := c_falling (T := T) (n := m + 4) (h.sub _ (by decide)) (by omega) a
  have e2 := c_falling (T := T) (n := m + 4) (h.sub _ (by decide)) (by omega) b
  have e3 := c_as_pairsR (T := T) (k := m + 4) (h.sub _ (by decide)) (by omega) (fall a)
  have e4 := c_as_pairsR (T := T) (k := m + 4) (h.sub _ (by decide)) (by omega) (fall b)
  rw [fall_len] at e3 e4
  rw [← hl] at e4
  generalize hn : a.length = n at *
  generalize hx0 : ga (fall a) = x0 at e3 ⊢
  generalize hy0 : ga (fall b) = y at e4 ⊢
  have iqx : ∀ i, Iq N (x0 i) := fun i => by rw [← hx0]; exact ga_iq ha' i
  have iqy : ∀ i, Iq N (y i) := fun i => by rw [← hy0]; exact ga_iq hb' i
  have hmaj : Maj n x0 y := by rw [← hx0, ← hy0, ← hn]; exact maj_of (by omega) ho
  have hfy : ∀ i j, i ≤ j → j < n → y j ≤ y i := fun i j hij hj => by rw [← hy0]; exact ga_fall b hij (by omega)
  have p1000 : (2 : Nat) ^ 1000 * 2 ^ 1003 < 2 ^ 4000 := by rw [← Nat.pow_add]; exact Nat.pow_lt_pow_right (by decide) (by decide)
  have szN : ∀ d c, 0 < d → d ≤ 2 * N → c ≤ 2 * N + 1 → Sz d c := fun d c hd h1 h2 => ⟨hd, by
    have : (c + 1) * d ≤ (2 * N + 2) * (2 * N) := Nat.mul_le_mul (by omega) h1
    have h3 : (2 * N + 2) * (2 * N) ≤ 2 ^ 1003 * 2 ^ 1000 * 2 := by
      rw [Nat.mul_assoc ((2 : Nat) ^ 1003)]
      exact Nat.mul_le_mul (show 2 * N + 2 ≤ 2 ^ 1003 by
        have : (2 : Nat) ^ 1003 = 8 * 2 ^ 1000 := by rw [← Nat.pow_add 2 3 1000]
        omega) (show 2 * N ≤ 2 ^ 1000 * 2 by omega)
    have h4 : (2 : Nat) ^ 1003 * 2 ^ 1000 * 2 < 2 ^ 4000 := by
      rw [← Nat.pow_add, ← Nat.pow_succ]
      exact Nat.pow_lt_pow_right (by decide) (by decide)
    omega⟩
  have sz1 : ∀ c, c ≤ 2 * N + 1 → Sz 1 c := fun c hc => ⟨by decide, by
    have : (2 : Nat) ^ 1003 = 8 * 2 ^ 1000 := by rw [← Nat.pow_add 2 3 1000]
    have h4 : (2 : Nat) ^ 1003 < 2 ^ 4000 := Nat.pow_lt_pow_right (by decide) (by decide)
    omega⟩
  have bdI : ∀ q, Iq N q → Bd q 4000 := fun q hq => (sz1 N (by omega)).bd hq.bq
  refine RetTo.call (h.is 39 (by decide)) rfl ?_
  show RetTo _ _ (exL (callN T (m + 4)) T.cs ir_steps_of [some (Li a), some (Li b), none, none, none, none, none, none, none, none, none])
  simp [e_var, ev_cst, e_gci, ev_op, ev_tup, ev_lst, ev_call, ev_and, ev_or, e_not, e_ifx, e_and1, e_and2, e_or1, e_or2, e_chain, e_chain3, e_comp, evs_nil, es_cons, e_flat, i_lst, i_rng1, i_rng2, i_zip, i_enum, s_asg, s_app, s_ifs, s_ret, s_retV, s_exp, s_rai, s_pas, s_brk, s_asgT, s_unp, s_setT, s_appK, exL_nil, exL_kil, exL_frz, opS, addS, subS, mulS, fdivS, modS, powS, negS, eqS, neS, ltS, leS, gtS, geS, lenS, sumS, absS, max1S, min1S, max2S, min2S, all1S, any1S, int1S, isiS, isiT, isNS, notNS, isBS, notBS, W.isNon, ixS_lst, ixS_tup, catS, repS, slcAS, slcBS, revS, sortedS, listS, rngLS, flIf, startW, ints_map, bls_map, eqW_Li, neW_Li, eqW_int, neW_int, W.isFlat, W.isFlats, wipeW, tgS, setAll, stosW_nil, stosW_cons, stoW_1, stoW_2, isinS, notinS, ir_steps_of, e1, e2, e3, e4]
  refine loopWC (RetTo _ _) (fun l : List Stp => [some (Li a), some (Li b), some (Rw n (stps l x0)), some (Rw n y), some (.lst (l.map stE)), none, none, none, none, none, none]) (Way n N x0 y) (fun l => mc n (stps l x0) y) (fun l => !decide (rw_ n (stps l x0) = rw_ n y)) [] rfl ⟨hmaj, iqx, fun p hp => (nomatch hp), ?_⟩ ?_ ?_ ?_ ?_
  · have := mc_bound (n := n) (x := x0) (y := y)
    show 0 + max (mc n x0 y) 1 ≤ n
    omega
  · have := mc_bound (n := n) (x := x0) (y := y)
    show mc n x0 y < 1000000
    omega
  · intro l w
    simp [e_var, ev_cst, e_gci, ev_op, ev_tup, ev_lst, ev_call, ev_and, ev_or, e_not, e_ifx, e_and1, e_and2, e_or1, e_or2, e_chain, e_chain3, e_comp, evs_nil, es_cons, e_flat, i_lst, i_rng1, i_rng2, i_zip, i_enum, s_asg, s_app, s_ifs, s_ret, s_retV, s_exp, s_rai, s_pas, s_brk, s_asgT, s_unp, s_setT, s_appK, exL_nil, exL_kil, exL_frz, opS, addS, subS, mulS, fdivS, modS, powS, negS, eqS, neS, ltS, leS, gtS, geS, lenS, sumS, absS, max1S, min1S, max2S, min2S, all1S, any1S, int1S, isiS, isiT, isNS, notNS, isBS, notBS, W.isNon, ixS_lst, ixS_tup, catS, repS, slcAS, slcBS, revS, sortedS, listS, rngLS, flIf, startW, ints_map, bls_map, eqW_Li, neW_Li, eqW_int, neW_int, W.isFlat, W.isFlats, wipeW, tgS, setAll, stosW_nil, stosW_cons, stoW_1, stoW_2, isinS, notinS, neW_Rw]
  · intro l w hbl
    have hne : ∃ i, i < n ∧ stps l x0 i ≠ y i := by
      apply Classical.byContradiction
      intro hc
      have : rw_ n (stps l x0) = rw_ n y := rw_congr fun i hi => by
        apply Classical.byContradiction
        intro z
        exact hc ⟨i, hi, z⟩
      simp [this] at hbl
    generalize hx : stps l x0 = x at hne
    have xq : ∀ i, Iq N (x i) := fun i => by rw [← hx]; exact w.iq i
    have il : ∀ (u v : Nat → Rat), (∀ i, Iq N (u i)) → (∀ i, Iq N (v i)) → ∀ i, callN T (m + 4) 7 [pt (u i), pt (v i)] = .val (.bl (decide (u i < v i))) := fun u v hu hv i => c_isless (h.sub _ (by decide)) (by omega) (bdI _ (hu i)) (bdI _ (hv i))
    have il1 := il y x iqy xq
    have il2 := il x y xq iqy
    have atx : ∀ i, i < n → atI ((List.range n).map fun j => pt (x j)) (i : Int) = some (pt (x i)) := fun i hi => at_range _ hi
    have aty : ∀ i, i < n → atI ((List.range n).map fun j => pt (y j)) (i : Int) = some (pt (y i)) := fun i hi => at_range _ hi
    have mj : Maj n x y := by rw [← hx]; exact w.maj
    -- the highest place with more
    obtain ⟨i0, hi0, hi1⟩ := mj.more hne
    have ne1 : ((List.range n).filter fun i => decide (y i < x i)).map (fun (i : Nat) => (i : Int)) ≠ [] := by
      intro z
      have : (i0 : Int) ∈ ((List.range n).filter fun i => decide (y i < x i)).map (fun (i : Nat) => (i : Int)) := List.mem_map.mpr ⟨i0, List.mem_filter.mpr ⟨List.mem_range.mpr hi0, by simp [hi1]⟩, rfl⟩
      rw [z] at this
      cases this
    obtain ⟨zh, eh, mh, gh⟩ := maxI_in ne1
    obtain ⟨hi, mh2, rfl⟩ := List.mem_map.mp mh
    obtain ⟨mh3, mh4⟩ := List.mem_filter.mp mh2
    have hin : hi < n := List.mem_range.mp mh3
    have hiv : y hi < x hi := by simpa using mh4
    have hmax : ∀ j, hi < j → j < n → x j ≤ y j := fun j hj hjn => by
      apply Rat.not_lt.mp
      intro z
      have := gh (j : Int) (List.mem_map.mpr ⟨j, List.mem_filter.mpr ⟨List.mem_range.mpr hjn, by simp [z]⟩, rfl⟩)
      omega
    obtain ⟨j0, hj0, hj1, hj2⟩ := mj.less hin hiv hmax
    have ne2 : ((List.range' hi (n - hi)).filter fun i => decide (x i < y i)).map (fun (i : Nat) => (i : Int)) ≠ [] := by
      intro z
      have : (j0 : Int) ∈ ((List.range' hi (n - hi)).filter fun i => decide (x i < y i)).map (fun (i : Nat) => (i : Int)) := List.mem_map.mpr ⟨j0, List.mem_filter.mpr ⟨by rw [List.mem_range'_1]; omega, by simp [hj2]⟩, rfl⟩
      rw [z] at this
      cases this
    obtain ⟨zl, el, ml, gl⟩ := minI_in ne2
    obtain ⟨lo, ml2, rfl⟩ := List.mem_map.mp ml
    obtain ⟨ml3, ml4⟩ := List.mem_filter.mp ml2
    rw [List.mem_range'_1] at ml3
    have lov : x lo < y lo := by simpa using ml4
    have hilo : hi < lo := by
      by_cases z : hi = lo
      · rw [← z] at lov; grind
      · omega
    have hmid : ∀ j, hi < j → j < lo → x j = y j := fun j h1 h2 => by
      have q1 := hmax j h1 (by omega)
      by_cases z : x j < y j
      · have := gl (j : Int) (List.mem_map.mpr ⟨j, List.mem_filter.mpr ⟨by rw [List.mem_range'_1]; omega, by simp [z]⟩, rfl⟩)
        omega
      · have := Rat.not_lt.mp z
        grind
    obtain ⟨w', fnd, hd0, hmc⟩ := w.step hfy iqy hilo (by omega) (by rw [hx]; exact hiv) (by rw [hx]; exact lov) (by rw [hx]; exact hmid)
    rw [hx] at w' fnd hd0 hmc
    have dq : ∀ u v : Rat, Iq N u → Iq N v → Bd (u - v) 4000 := fun u v hu hv => (sz1 (N + N) (by omega)).bd (hu.bq.sub hv.bq)
    have l1 := c_less (T := T) (n := m + 4) (p := x hi) (q := y hi) (h.sub _ (by decide)) (by omega) (bdI _ (xq hi)) (bdI _ (iqy hi))
    have l2 := c_less (T := T) (n := m + 4) (p := y lo) (q := x lo) (h.sub _ (by decide)) (by omega) (bdI _ (iqy lo)) (bdI _ (xq lo))
    have l3 := c_less (T := T) (n := m + 4) (p := x hi) (q := x lo) (h.sub _ (by decide)) (by omega) (bdI _ (xq hi)) (bdI _ (xq lo))
    have l4 := c_isless (T := T) (n := m + 4) (p := y lo - x lo) (q := x hi - y hi) (h.sub _ (by decide)) (by omega) (dq _ _ (iqy lo) (xq lo)) (dq _ _ (xq hi) (iqy hi))
    have l5 := c_parted (T := T) (n := m + 4) (p := y lo - x lo) (q := x hi - x lo) (h.sub _ (by decide)) (by omega) (dq _ _ (iqy lo) (xq lo)) (dq _ _ (xq hi) (xq lo)) hd0
    have l6 := c_parted (T := T) (n := m + 4) (p := x hi - y hi) (q := x hi - x lo) (h.sub _ (by decide)) (by omega) (dq _ _ (xq hi) (iqy hi)) (dq _ _ (xq hi) (xq lo)) hd0
    obtain ⟨d, d1, d2, d3⟩ := fnd.bd
    have l7 := c_step_of (T := T) (k := m + 4) (n := n) (p := ⟨hi, lo, (if y lo - x lo < x hi - y hi then y lo - x lo else x hi - y hi) / (x hi - x lo)⟩) (r := x) (D := d) (E := 1) (N := N) (h.sub _ (by decide)) (by omega) h6 ⟨fnd.ab, fnd.bn, fnd.s0, fnd.s1, d3⟩ (fun i => (xq i).bq) (szN d 1 d1 d2 (by omega)) (sz1 _ (by omega)) (by rw [Nat.one_mul]; exact szN d _ d1 d2 (by omega))
    have hL : l.length < LIM := by
      have := w.len
      show _ < 100000
      omega
    have hll := w.len
    refine ⟨l ++ [⟨hi, lo, (if y lo - x lo < x hi - y hi then y lo - x lo else x hi - y hi) / (x hi - x lo)⟩], ?_, w', hmc⟩
    have es : stps (l ++ [⟨hi, lo, (if y lo - x lo < x hi - y hi then y lo - x lo else x hi - y hi) / (x hi - x lo)⟩]) x0 = stp ⟨hi, lo, (if y lo - x lo < x hi - y hi then y lo - x lo else x hi - y hi) / (x hi - x lo)⟩ x := by
      rw [← hx]
      unfold stps
      rw [List.foldl_append]
      rfl
    simp only [es]
    have r1 := rng_nat n (by omega)
    have r2 := rng_nat2 hi n (by omega) (by omega)
    simp [e_var, ev_cst, e_gci, ev_op, ev_tup, ev_lst, ev_call, ev_and, ev_or, e_not, e_ifx, e_and1, e_and2, e_or1, e_or2, e_chain, e_chain3, e_comp, evs_nil, es_cons, e_flat, i_lst, i_rng1, i_rng2, i_zip, i_enum, s_asg, s_app, s_ifs, s_ret, s_retV, s_exp, s_rai, s_pas, s_brk, s_asgT, s_unp, s_setT, s_appK, exL_nil, exL_kil, exL_frz, opS, addS, subS, mulS, fdivS, modS, powS, negS, eqS, neS, ltS, leS, gtS, geS, lenS, sumS, absS, max1S, min1S, max2S, min2S, all1S, any1S, int1S, isiS, isiT, isNS, notNS, isBS, notBS, W.isNon, ixS_lst, ixS_tup, catS, repS, slcAS, slcBS, revS, sortedS, listS, rngLS, flIf, startW, ints_map, bls_map, eqW_Li, neW_Li, eqW_int, neW_int, W.isFlat, W.isFlats, wipeW, tgS, setAll, stosW_nil, stosW_cons, stoW_1, stoW_2, isinS, notinS, r1]
    rw [mapL_ofIf (fun i => decide (y i < x i)) (fun (i : Nat) => .int (i : Int)) (fun i hi => by
      have hi := List.mem_range.mp hi
      simp [e_var, ev_cst, e_gci, ev_op, ev_tup, ev_lst, ev_call, ev_and, ev_or, e_not, e_ifx, e_and1, e_and2, e_or1, e_or2, e_chain, e_chain3, e_comp, evs_nil, es_cons, e_flat, i_lst, i_rng1, i_rng2, i_zip, i_enum, s_asg, s_app, s_ifs, s_ret, s_retV, s_exp, s_rai, s_pas, s_brk, s_asgT, s_unp, s_setT, s_appK, exL_nil, exL_kil, exL_frz, opS, addS, subS, mulS, fdivS, modS, powS, negS, eqS, neS, ltS, leS, gtS, geS, lenS, sumS, absS, max1S, min1S, max2S, min2S, all1S, any1S, int1S, isiS, isiT, isNS, notNS, isBS, notBS, W.isNon, ixS_lst, ixS_tup, catS, repS, slcAS, slcBS, revS, sortedS, listS, rngLS, flIf, startW, ints_map, bls_map, eqW_Li, neW_Li, eqW_int, neW_int, W.isFlat, W.isFlats, wipeW, tgS, setAll, stosW_nil, stosW_cons, stoW_1, stoW_2, isinS, notinS, atx i hi, aty i hi, il1]) (fun i hi _ => by simp [e_var, ev_cst, e_gci, ev_op, ev_tup, ev_lst, ev_call, ev_and, ev_or, e_not, e_ifx, e_and1, e_and2, e_or1, e_or2, e_chain, e_chain3, e_comp, evs_nil, es_cons, e_flat, i_lst, i_rng1, i_rng2, i_zip, i_enum, s_asg, s_app, s_ifs, s_ret, s_retV, s_exp, s_rai, s_pas, s_brk, s_asgT, s_unp, s_setT, s_appK, exL_nil, exL_kil, exL_frz, opS, addS, subS, mulS, fdivS, modS, powS, negS, eqS, neS, ltS, leS, gtS, geS, lenS, sumS, absS, max1S, min1S, max2S, min2S, all1S, any1S, int1S, isiS, isiT, isNS, notNS, isBS, notBS, W.isNon, ixS_lst, ixS_tup, catS, repS, slcAS, slcBS, revS, sortedS, listS, rngLS, flIf, startW, ints_map, bls_map, eqW_Li, neW_Li, eqW_int, neW_int, W.isFlat, W.isFlats, wipeW, tgS, setAll, stosW_nil, stosW_cons, stoW_1, stoW_2, isinS, notinS])]
    simp only [lstO_some, consO_val, osbind_vals, opS, max1S, ints_mapf, eh]
    simp [e_var, ev_cst, e_gci, ev_op, ev_tup, ev_lst, ev_call, ev_and, ev_or, e_not, e_ifx, e_and1, e_and2, e_or1, e_or2, e_chain, e_chain3, e_comp, evs_nil, es_cons, e_flat, i_lst, i_rng1, i_rng2, i_zip, i_enum, s_asg, s_app, s_ifs, s_ret, s_retV, s_exp, s_rai, s_pas, s_brk, s_asgT, s_unp, s_setT, s_appK, exL_nil, exL_kil, exL_frz, opS, addS, subS, mulS, fdivS, modS, powS, negS, eqS, neS, ltS, leS, gtS, geS, lenS, sumS, absS, max1S, min1S, max2S, min2S, all1S, any1S, int1S, isiS, isiT, isNS, notNS, isBS, notBS, W.isNon, ixS_lst, ixS_tup, catS, repS, slcAS, slcBS, revS, sortedS, listS, rngLS, flIf, startW, ints_map, bls_map, eqW_Li, neW_Li, eqW_int, neW_int, W.isFlat, W.isFlats, wipeW, tgS, setAll, stosW_nil, stosW_cons, stoW_1, stoW_2, isinS, notinS, r2]
    rw [mapL_ofIf (fun i => decide (x i < y i)) (fun (i : Nat) => .int (i : Int)) (fun i hi => by
      rw [List.mem_range'_1] at hi
      simp [e_var, ev_cst, e_gci, ev_op, ev_tup, ev_lst, ev_call, ev_and, ev_or, e_not, e_ifx, e_and1, e_and2, e_or1, e_or2, e_chain, e_chain3, e_comp, evs_nil, es_cons, e_flat, i_lst, i_rng1, i_rng2, i_zip, i_enum, s_asg, s_app, s_ifs, s_ret, s_retV, s_exp, s_rai, s_pas, s_brk, s_asgT, s_unp, s_setT, s_appK, exL_nil, exL_kil, exL_frz, opS, addS, subS, mulS, fdivS, modS, powS, negS, eqS, neS, ltS, leS, gtS, geS, lenS, sumS, absS, max1S, min1S, max2S, min2S, all1S, any1S, int1S, isiS, isiT, isNS, notNS, isBS, notBS, W.isNon, ixS_lst, ixS_tup, catS, repS, slcAS, slcBS, revS, sortedS, listS, rngLS, flIf, startW, ints_map, bls_map, eqW_Li, neW_Li, eqW_int, neW_int, W.isFlat, W.isFlats, wipeW, tgS, setAll, stosW_nil, stosW_cons, stoW_1, stoW_2, isinS, notinS, atx i (by omega), aty i (by omega), il2]) (fun i hi _ => by simp [e_var, ev_cst, e_gci, ev_op, ev_tup, ev_lst, ev_call, ev_and, ev_or, e_not, e_ifx, e_and1, e_and2, e_or1, e_or2, e_chain, e_chain3, e_comp, evs_nil, es_cons, e_flat, i_lst, i_rng1, i_rng2, i_zip, i_enum, s_asg, s_app, s_ifs, s_ret, s_retV, s_exp, s_rai, s_pas, s_brk, s_asgT, s_unp, s_setT, s_appK, exL_nil, exL_kil, exL_frz, opS, addS, subS, mulS, fdivS, modS, powS, negS, eqS, neS, ltS, leS, gtS, geS, lenS, sumS, absS, max1S, min1S, max2S, min2S, all1S, any1S, int1S, isiS, isiT, isNS, notNS, isBS, notBS, W.isNon, ixS_lst, ixS_tup, catS, repS, slcAS, slcBS, revS, sortedS, listS, rngLS, flIf, startW, ints_map, bls_map, eqW_Li, neW_Li, eqW_int, neW_int, W.isFlat, W.isFlats, wipeW, tgS, setAll, stosW_nil, stosW_cons, stoW_1, stoW_2, isinS, notinS])]
    simp only [lstO_some, consO_val, osbind_vals, opS, min1S, ints_mapf, el]
    have an : ∀ w : W, atI (l.map stE ++ [w]) (-1) = some w := fun w => atI_neg1 _ _
    by_cases hc : y lo - x lo < x hi - y hi
    · rw [if_pos hc] at l7
      have l7' : callN T (m + 4) 33 [Rw n x, .tup [.int (hi : Int), .int (lo : Int), pt ((y lo - x lo) / (x hi - x lo))]] = _ := l7
      simp [e_var, ev_cst, e_gci, ev_op, ev_tup, ev_lst, ev_call, ev_and, ev_or, e_not, e_ifx, e_and1, e_and2, e_or1, e_or2, e_chain, e_chain3, e_comp, evs_nil, es_cons, e_flat, i_lst, i_rng1, i_rng2, i_zip, i_enum, s_asg, s_app, s_ifs, s_ret, s_retV, s_exp, s_rai, s_pas, s_brk, s_asgT, s_unp, s_setT, s_appK, exL_nil, exL_kil, exL_frz, opS, addS, subS, mulS, fdivS, modS, powS, negS, eqS, neS, ltS, leS, gtS, geS, lenS, sumS, absS, max1S, min1S, max2S, min2S, all1S, any1S, int1S, isiS, isiT, isNS, notNS, isBS, notBS, W.isNon, ixS_lst, ixS_tup, catS, repS, slcAS, slcBS, revS, sortedS, listS, rngLS, flIf, startW, ints_map, bls_map, eqW_Li, neW_Li, eqW_int, neW_int, W.isFlat, W.isFlats, wipeW, tgS, setAll, stosW_nil, stosW_cons, stoW_1, stoW_2, isinS, notinS, atx hi hin, aty hi hin, atx lo (by omega), aty lo (by omega), l1, l2, l3, l4, hc, l5, an, l7', hL, stE]
    · rw [if_neg hc] at l7
      have l7' : callN T (m + 4) 33 [Rw n x, .tup [.int (hi : Int), .int (lo : Int), pt ((x hi - y hi) / (x hi - x lo))]] = _ := l7
      simp [e_var, ev_cst, e_gci, ev_op, ev_tup, ev_lst, ev_call, ev_and, ev_or, e_not, e_ifx, e_and1, e_and2, e_or1, e_or2, e_chain, e_chain3, e_comp, evs_nil, es_cons, e_flat, i_lst, i_rng1, i_rng2, i_zip, i_enum, s_asg, s_app, s_ifs, s_ret, s_retV, s_exp, s_rai, s_pas, s_brk, s_asgT, s_unp, s_setT, s_appK, exL_nil, exL_kil, exL_frz, opS, addS, subS, mulS, fdivS, modS, powS, negS, eqS, neS, ltS, leS, gtS, geS, lenS, sumS, absS, max1S, min1S, max2S, min2S, all1S, any1S, int1S, isiS, isiT, isNS, notNS, isBS, notBS, W.isNon, ixS_lst, ixS_tup, catS, repS, slcAS, slcBS, revS, sortedS, listS, rngLS, flIf, startW, ints_map, bls_map, eqW_Li, neW_Li, eqW_int, neW_int, W.isFlat, W.isFlats, wipeW, tgS, setAll, stosW_nil, stosW_cons, stoW_1, stoW_2, isinS, notinS, atx hi hin, aty hi hin, atx lo (by omega), aty lo (by omega), l1, l2, l3, l4, hc, l6, an, l7', hL, stE]
  · intro l w hbl
    have he : rw_ n (stps l x0) = rw_ n y := by
      simp at hbl
      exact rw_congr hbl
    have hll := w.len
    exact ⟨l, by simp [e_var, ev_cst, e_gci, ev_op, ev_tup, ev_lst, ev_call, ev_and, ev_or, e_not, e_ifx, e_and1, e_and2, e_or1, e_or2, e_chain, e_chain3, e_comp, evs_nil, es_cons, e_flat, i_lst, i_rng1, i_rng2, i_zip, i_enum, s_asg, s_app, s_ifs, s_ret, s_retV, s_exp, s_rai, s_pas, s_brk, s_asgT, s_unp, s_setT, s_appK, exL_nil, exL_kil, exL_frz, opS, addS, subS, mulS, fdivS, modS, powS, negS, eqS, neS, ltS, leS, gtS, geS, lenS, sumS, absS, max1S, min1S, max2S, min2S, all1S, any1S, int1S, isiS, isiT, isNS, notNS, isBS, notBS, W.isNon, ixS_lst, ixS_tup, catS, repS, slcAS, slcBS, revS, sortedS, listS, rngLS, flIf, startW, ints_map, bls_map, eqW_Li, neW_Li, eqW_int, neW_int, W.isFlat, W.isFlats, wipeW, tgS, setAll, stosW_nil, stosW_cons, stoW_1, stoW_2, isinS, notinS], by omega, w.ok, rw_inj he⟩
end
end Mx
/-! # Mx41: prices, squares, answers -/
namespace Mx
open PySem L2
section
variable {T : Tb} {n : Nat}
/-- how far the numbers stand above a price -/
theorem c_above_of (h : Has T [15]) (hn : 1 ≤ n) (ns : List Int) (p : Int) : callN T n 15 [Li ns, .int p] = .val (.int (abv ns p)) := by
  refine up hn fun m => Is.rt h.1 rfl ?_
  show exL (callN T m) T.cs ir_above_of [some (Li ns), some (.int p), none] = _
  simp [e_var, ev_cst, e_gci, ev_op, ev_tup, ev_lst, ev_call, ev_and, ev_or, e_not, e_ifx, e_and1, e_and2, e_or1, e_or2, e_chain, e_chain3, e_comp, evs_nil, es_cons, e_flat, i_lst, i_rng1, i_rng2, i_zip, i_enum, s_asg, s_app, s_ifs, s_ret, s_retV, s_exp, s_rai, s_pas, s_brk, s_asgT, s_unp, s_setT, s_appK, exL_nil, exL_kil, exL_frz, opS, addS, subS, mulS, fdivS, modS, powS, negS, eqS, neS, ltS, leS, gtS, geS, lenS, sumS, absS, max1S, min1S, max2S, min2S, all1S, any1S, int1S, isiS, isiT, isNS, notNS, isBS, notBS, W.isNon, ixS_lst, ixS_tup, catS, repS, slcAS, slcBS, revS, sortedS, listS, rngLS, flIf, startW, ints_map, bls_map, eqW_Li, neW_Li, eqW_int, neW_int, W.isFlat, W.isFlats, wipeW, tgS, setAll, stosW_nil, stosW_cons, stoW_1, stoW_2, isinS, notinS, fldS, iscS, indexS, sortedPS, rng3S, ir_above_of]
  rfl
theorem c_above (h : Has T [8, 10, 15, 16, 1000]) (hn : 3 ≤ n) {ns : List Int} (h1 : 1 ≤ ns.length) (h2 : ns.length ≤ 6) (p : Int) : callN T n 16 [Li ns, .int p] = .val (.int (abv ns p)) := by
  refine up hn fun m => Is.rt (h.is 16 (by decide)) rfl ?_
  show exL (callN T (m + 2)) T.cs ir_above [some (Li ns), some (.int p)] = _
  simp [e_var, ev_cst, e_gci, ev_op, ev_tup, ev_lst, ev_call, ev_and, ev_or, e_not, e_ifx, e_and1, e_and2, e_or1, e_or2, e_chain, e_chain3, e_comp, evs_nil, es_cons, e_flat, i_lst, i_rng1, i_rng2, i_zip, i_enum, s_asg, s_app, s_ifs, s_ret, s_retV, s_exp, s_rai, s_pas, s_brk, s_asgT, s_unp, s_setT, s_appK, exL_nil, exL_kil, exL_frz, opS, addS, subS, mulS, fdivS, modS, powS, negS, eqS, neS, ltS, leS, gtS, geS, lenS, sumS, absS, max1S, min1S, max2S, min2S, all1S, any1S, int1S, isiS, isiT, isNS, notNS, isBS, notBS, W.isNon, ixS_lst, ixS_tup, catS, repS, slcAS, slcBS, revS, sortedS, listS, rngLS, flIf, startW, ints_map, bls_map, eqW_Li, neW_Li, eqW_int, neW_int, W.isFlat, W.isFlats, wipeW, tgS, setAll, stosW_nil, stosW_cons, stoW_1, stoW_2, isinS, notinS, fldS, iscS, indexS, sortedPS, rng3S, ir_above, c_asked_row (n := m + 2) (h.sub _ (by decide)) (by omega) h1 h2, c_whole (n := m + 2) (h.sub _ (by decide)) (by omega), c_above_of (n := m + 2) (h.sub _ (by decide)) (by omega)]
theorem c_squares (h : Has T [8, 10, 17, 1000]) (hn : 3 ≤ n) {ns : List Int} (h1 : 1 ≤ ns.length) (h2 : ns.length ≤ 6) (hb : ∀ x ∈ ns, x.natAbs < 2 ^ 200) : callN T n 17 [Li ns] = .val (.int (ns.map fun x => x * x).sum) := by
  refine up hn fun m => Is.rt (h.is 17 (by decide)) rfl ?_
  show exL (callN T (m + 2)) T.cs ir_squares [some (Li ns), none] = _
  simp [e_var, ev_cst, e_gci, ev_op, ev_tup, ev_lst, ev_call, ev_and, ev_or, e_not, e_ifx, e_and1, e_and2, e_or1, e_or2, e_chain, e_chain3, e_comp, evs_nil, es_cons, e_flat, i_lst, i_rng1, i_rng2, i_zip, i_enum, s_asg, s_app, s_ifs, s_ret, s_retV, s_exp, s_rai, s_pas, s_brk, s_asgT, s_unp, s_setT, s_appK, exL_nil, exL_kil, exL_frz, opS, addS, subS, mulS, fdivS, modS, powS, negS, eqS, neS, ltS, leS, gtS, geS, lenS, sumS, absS, max1S, min1S, max2S, min2S, all1S, any1S, int1S, isiS, isiT, isNS, notNS, isBS, notBS, W.isNon, ixS_lst, ixS_tup, catS, repS, slcAS, slcBS, revS, sortedS, listS, rngLS, flIf, startW, ints_map, bls_map, eqW_Li, neW_Li, eqW_int, neW_int, W.isFlat, W.isFlats, wipeW, tgS, setAll, stosW_nil, stosW_cons, stoW_1, stoW_2, isinS, notinS, fldS, iscS, indexS, sortedPS, rng3S, ir_squares, c_asked_row (n := m + 2) (h.sub _ (by decide)) (by omega) h1 h2]
  rw [mapL_of (fun x => W.int (x * x)) fun x hx => by rw [if_pos (mulOk_of (hb x hx) (hb x hx) (by decide))]]
  have e2 : ns.map (fun x => W.int (x * x)) = (ns.map fun x => x * x).map W.int := by rw [List.map_map]; rfl
  rw [e2]
  simp only [lstO, consO, Os.bind, opS, sumS, ints_map]
  rfl
/-- the distances of all the pairs -/
def apt (ns : List Int) : Int := match ns with
  | [] => 0
  | x :: l => (l.map fun y => ab (x - y)).sum + apt l
theorem apt_snoc (l : List Int) (x : Int) : apt (l ++ [x]) = apt l + (l.map fun y => ab (x - y)).sum := by
  induction l with
  | nil => rfl
  | cons y l ih =>
    rw [List.cons_append]
    have c : ab (x - y) = ab (y - x) := by unfold ab; split <;> split <;> omega
    simp only [apt, ih, List.map_append, List.map_cons, List.map_nil, List.sum_append, List.sum_cons, List.sum_nil, c]
    omega
theorem c_apart (h : Has T [8, 10, 18, 1000]) (hn : 3 ≤ n) {ns : List Int} (h1 : 1 ≤ ns.length) (h2 : ns.length ≤ 6) : callN T n 18 [Li ns] = .val (.int (apt ns)) := by
  refine up hn fun m => Is.rt (h.is 18 (by decide)) rfl ?_
  show exL (callN T (m + 2)) T.cs ir_apart [some (Li ns), none, none, none, none] = _
  simp [e_var, ev_cst, e_gci, ev_op, ev_tup, ev_lst, ev_call, ev_and, ev_or, e_not, e_ifx, e_and1, e_and2, e_or1, e_or2, e_chain, e_chain3, e_comp, evs_nil, es_cons, e_flat, i_lst, i_rng1, i_rng2, i_zip, i_enum, s_asg, s_app, s_ifs, s_ret, s_retV, s_exp, s_rai, s_pas, s_brk, s_asgT, s_unp, s_setT, s_appK, exL_nil, exL_kil, exL_frz, opS, addS, subS, mulS, fdivS, modS, powS, negS, eqS, neS, ltS, leS, gtS, geS, lenS, sumS, absS, max1S, min1S, max2S, min2S, all1S, any1S, int1S, isiS, isiT, isNS, notNS, isBS, notBS, W.isNon, ixS_lst, ixS_tup, catS, repS, slcAS, slcBS, revS, sortedS, listS, rngLS, flIf, startW, ints_map, bls_map, eqW_Li, neW_Li, eqW_int, neW_int, W.isFlat, W.isFlats, wipeW, tgS, setAll, stosW_nil, stosW_cons, stoW_1, stoW_2, isinS, notinS, fldS, iscS, indexS, sortedPS, rng3S, ir_apart, c_asked_row (n := m + 2) (h.sub _ (by decide)) (by omega) h1 h2]
  refine loop2C (C := (· = R.rt (W.int (apt ns)))) (i := 2) (j := 3) (ns.zipIdx 0) (fun p => .int (p.2 : Nat)) (fun p => .int p.1) (fun a : Int => [some (Li ns), some (.int a), none, none, none]) (fun pre a => a = apt (pre.map (·.1))) 0 (by decide) ?_ rfl rfl ?_ (fun _ => rfl) ?_
  · simp [e_var, ev_cst, e_gci, ev_op, ev_tup, ev_lst, ev_call, ev_and, ev_or, e_not, e_ifx, e_and1, e_and2, e_or1, e_or2, e_chain, e_chain3, e_comp, evs_nil, es_cons, e_flat, i_lst, i_rng1, i_rng2, i_zip, i_enum, s_asg, s_app, s_ifs, s_ret, s_retV, s_exp, s_rai, s_pas, s_brk, s_asgT, s_unp, s_setT, s_appK, exL_nil, exL_kil, exL_frz, opS, addS, subS, mulS, fdivS, modS, powS, negS, eqS, neS, ltS, leS, gtS, geS, lenS, sumS, absS, max1S, min1S, max2S, min2S, all1S, any1S, int1S, isiS, isiT, isNS, notNS, isBS, notBS, W.isNon, ixS_lst, ixS_tup, catS, repS, slcAS, slcBS, revS, sortedS, listS, rngLS, flIf, startW, ints_map, bls_map, eqW_Li, neW_Li, eqW_int, neW_int, W.isFlat, W.isFlats, wipeW, tgS, setAll, stosW_nil, stosW_cons, stoW_1, stoW_2, isinS, notinS, fldS, iscS, indexS, sortedPS, rng3S]
    exact enumFrom_map W.int 0 ns
  · intro pre x post a e p
    subst p
    have e1 : ns = pre.map (·.1) ++ x.1 :: post.map (·.1) := by
      have := congrArg (List.map (·.1)) e
      rw [List.map_append, List.map_cons] at this
      rw [← this]
      simp
    have e2 : x.2 = pre.length := by
      have h : (ns.zipIdx 0)[pre.length]? = some x := by rw [e]; simp
      rw [List.getElem?_zipIdx] at h
      cases q : ns[pre.length]? with
      | none => rw [q] at h; cases h
      | some y =>
        rw [q] at h
        simp at h
        rw [← h]
    have e3 : ns.take x.2 = pre.map (·.1) := by
      rw [e2]
      conv => lhs; rw [e1]
      rw [List.take_append_of_le_length (by simp), List.take_of_length_le (by simp)]
    refine ⟨apt ((pre ++ [x]).map (·.1)), some (W.int (x.2 : Nat)), some (W.int x.1), ?_, rfl⟩
    rw [List.map_append, List.map_cons, List.map_nil, apt_snoc]
    have e4 : List.take x.2 (ns.map W.int) = (pre.map (·.1)).map W.int := by rw [← List.map_take, e3]
    generalize pre.map (·.1) = l at *
    simp [e_var, ev_cst, e_gci, ev_op, ev_tup, ev_lst, ev_call, ev_and, ev_or, e_not, e_ifx, e_and1, e_and2, e_or1, e_or2, e_chain, e_chain3, e_comp, evs_nil, es_cons, e_flat, i_lst, i_rng1, i_rng2, i_zip, i_enum, s_asg, s_app, s_ifs, s_ret, s_retV, s_exp, s_rai, s_pas, s_brk, s_asgT, s_unp, s_setT, s_appK, exL_nil, exL_kil, exL_frz, opS, addS, subS, mulS, fdivS, modS, powS, negS, eqS, neS, ltS, leS, gtS, geS, lenS, sumS, absS, max1S, min1S, max2S, min2S, all1S, any1S, int1S, isiS, isiT, isNS, notNS, isBS, notBS, W.isNon, ixS_lst, ixS_tup, catS, repS, slcAS, slcBS, revS, sortedS, listS, rngLS, flIf, startW, ints_map, bls_map, eqW_Li, neW_Li, eqW_int, neW_int, W.isFlat, W.isFlats, wipeW, tgS, setAll, stosW_nil, stosW_cons, stoW_1, stoW_2, isinS, notinS, fldS, iscS, indexS, sortedPS, rng3S, cut_to, e4, isFlats_ints, ab]
  · intro a o p q
    subst q
    simp [e_var, ev_cst, e_gci, ev_op, ev_tup, ev_lst, ev_call, ev_and, ev_or, e_not, e_ifx, e_and1, e_and2, e_or1, e_or2, e_chain, e_chain3, e_comp, evs_nil, es_cons, e_flat, i_lst, i_rng1, i_rng2, i_zip, i_enum, s_asg, s_app, s_ifs, s_ret, s_retV, s_exp, s_rai, s_pas, s_brk, s_asgT, s_unp, s_setT, s_appK, exL_nil, exL_kil, exL_frz, opS, addS, subS, mulS, fdivS, modS, powS, negS, eqS, neS, ltS, leS, gtS, geS, lenS, sumS, absS, max1S, min1S, max2S, min2S, all1S, any1S, int1S, isiS, isiT, isNS, notNS, isBS, notBS, W.isNon, ixS_lst, ixS_tup, catS, repS, slcAS, slcBS, revS, sortedS, listS, rngLS, flIf, startW, ints_map, bls_map, eqW_Li, neW_Li, eqW_int, neW_int, W.isFlat, W.isFlats, wipeW, tgS, setAll, stosW_nil, stosW_cons, stoW_1, stoW_2, isinS, notinS, fldS, iscS, indexS, sortedPS, rng3S]
theorem c_Priced (h : Has T [65]) (hn : 2 ≤ n) (p : Int) : callN T n 65 [.int p] = .val (.ins 53 [.int p]) := by
  refine up hn fun m => IsK.run h.1 rfl ?_
  show exL (callN T m) T.cs ir_Priced___init__ [none, some (.int p)] = _
  simp [e_var, ev_cst, e_gci, ev_op, ev_tup, ev_lst, ev_call, ev_and, ev_or, e_not, e_ifx, e_and1, e_and2, e_or1, e_or2, e_chain, e_chain3, e_comp, evs_nil, es_cons, e_flat, i_lst, i_rng1, i_rng2, i_zip, i_enum, s_asg, s_app, s_ifs, s_ret, s_retV, s_exp, s_rai, s_pas, s_brk, s_asgT, s_unp, s_setT, s_appK, exL_nil, exL_kil, exL_frz, opS, addS, subS, mulS, fdivS, modS, powS, negS, eqS, neS, ltS, leS, gtS, geS, lenS, sumS, absS, max1S, min1S, max2S, min2S, all1S, any1S, int1S, isiS, isiT, isNS, notNS, isBS, notBS, W.isNon, ixS_lst, ixS_tup, catS, repS, slcAS, slcBS, revS, sortedS, listS, rngLS, flIf, startW, ints_map, bls_map, eqW_Li, neW_Li, eqW_int, neW_int, W.isFlat, W.isFlats, wipeW, tgS, setAll, stosW_nil, stosW_cons, stoW_1, stoW_2, isinS, notinS, fldS, iscS, indexS, sortedPS, rng3S, ir_Priced___init__]
theorem c_Uneven (h : Has T [88]) (hn : 1 ≤ n) : callN T n 88 [] = .val (.ins 52 []) := up hn fun m => IsZ.run h.1
theorem c_Over (h : Has T [62]) (hn : 2 ≤ n) (k : Nat) (hk : k ≤ 6) (f : Nat → Nat → Rat) : callN T n 62 [Tw k f] = .val (.ins 51 [Tw k f]) := by
  refine up hn fun m => IsK.run h.1 rfl ?_
  show exL (callN T m) T.cs ir_Over___init__ [none, some (Tw k f), none] = _
  simp [e_var, ev_cst, e_gci, ev_op, ev_tup, ev_lst, ev_call, ev_and, ev_or, e_not, e_ifx, e_and1, e_and2, e_or1, e_or2, e_chain, e_chain3, e_comp, evs_nil, es_cons, e_flat, i_lst, i_rng1, i_rng2, i_zip, i_enum, s_asg, s_app, s_ifs, s_ret, s_retV, s_exp, s_rai, s_pas, s_brk, s_asgT, s_unp, s_setT, s_appK, exL_nil, exL_kil, exL_frz, opS, addS, subS, mulS, fdivS, modS, powS, negS, eqS, neS, ltS, leS, gtS, geS, lenS, sumS, absS, max1S, min1S, max2S, min2S, all1S, any1S, int1S, isiS, isiT, isNS, notNS, isBS, notBS, W.isNon, ixS_lst, ixS_tup, catS, repS, slcAS, slcBS, revS, sortedS, listS, rngLS, flIf, startW, ints_map, bls_map, eqW_Li, neW_Li, eqW_int, neW_int, W.isFlat, W.isFlats, wipeW, tgS, setAll, stosW_nil, stosW_cons, stoW_1, stoW_2, isinS, notinS, fldS, iscS, indexS, sortedPS, rng3S, ir_Over___init__, Tw, Rw]
end
end Mx
/-! # Mx42: the falling order -/
namespace Mx
open PySem L2
/-- (-number, place), sorted -/
def fln (ns : List Int) : List (Int × Int) := sortP ((ns.zipIdx 0).map fun p => (-p.1, ((p.2 : Nat) : Int)))
def flo (ns : List Int) : List Nat := (fln ns).map fun p => p.2.toNat
theorem fln_mem {ns : List Int} {p : Int × Int} (h : p ∈ fln ns) : ∃ i : Nat, i < ns.length ∧ p = (-ns.getD i 0, (i : Int)) := by
  have h1 := (sortP_spec _).1.subset h
  obtain ⟨q, hq, rfl⟩ := List.mem_map.mp h1
  obtain ⟨x, i⟩ := q
  have := List.mem_zipIdx hq
  refine ⟨i, by simpa using this.2.1, ?_⟩
  have e := this.2.2
  simp at e ⊢
  rw [e]
  simp [List.getD_eq_getElem?_getD, List.getElem?_eq_getElem (show i < ns.length by simpa using this.2.1)]
theorem fln_snd (ns : List Int) : (fln ns).map (·.2) = (flo ns).map fun (i : Nat) => (i : Int) := by
  unfold flo
  rw [List.map_map]
  refine List.map_congr_left fun p hp => ?_
  obtain ⟨i, _, rfl⟩ := fln_mem hp
  simp
theorem flo_perm (ns : List Int) : (flo ns).Perm (List.range ns.length) := by
  have h := ((sortP_spec ((ns.zipIdx 0).map fun p => (-p.1, ((p.2 : Nat) : Int)))).1.map fun p => p.2.toNat)
  rw [List.map_map] at h
  have e : (ns.zipIdx 0).map ((fun p : Int × Int => p.2.toNat) ∘ fun p : Int × Nat => (-p.1, ((p.2 : Nat) : Int))) = List.range ns.length := by
    have : ((fun p : Int × Int => p.2.toNat) ∘ fun p : Int × Nat => (-p.1, ((p.2 : Nat) : Int))) = Prod.snd := by
      funext p
      simp
    rw [this, List.zipIdx_map_snd, List.range_eq_range']
  rw [e] at h
  exact h
theorem flo_fall (ns : List Int) : (flo ns).map (fun i => ns.getD i 0) = fall ns := by
  have e : (flo ns).map (fun i => ns.getD i 0) = (fln ns).map fun p => -p.1 := by
    unfold flo
    rw [List.map_map]
    refine List.map_congr_left fun p hp => ?_
    obtain ⟨i, _, rfl⟩ := fln_mem hp
    simp
  rw [e]
  have hp : ((fln ns).map fun p => -p.1).Perm ns := by
    have h := ((sortP_spec ((ns.zipIdx 0).map fun p => (-p.1, ((p.2 : Nat) : Int)))).1.map fun p => -p.1)
    rw [List.map_map] at h
    have : ((fun p : Int × Int => -p.1) ∘ fun p : Int × Nat => (-p.1, ((p.2 : Nat) : Int))) = Prod.fst := by
      funext p
      simp
    rw [this, List.zipIdx_map_fst] at h
    exact h
  have hs : ((fln ns).map fun p => -p.1).Pairwise (fun a b => b ≤ a) := by
    rw [List.pairwise_map]
    refine (sortP_spec _).2.imp fun {a b} h => ?_
    unfold pairLe at h
    simp at h
    omega
  have e2 : (((fln ns).map fun p => -p.1).reverse) = sortI ns := sorted_uniq ((List.reverse_perm _).trans (hp.trans (sortI_spec ns).1.symm)) (List.pairwise_reverse.mpr hs) (sortI_spec ns).2
  unfold fall
  rw [← e2, List.reverse_reverse]
section
variable {T : Tb} {n : Nat}
theorem prs_map : ∀ ps : List (Int × Int), W.prs (ps.map prW) = some ps
  | [] => rfl
  | p :: ps => by
    rw [List.map_cons]
    unfold prW W.prs
    have := prs_map ps
    unfold prW at this
    rw [this]
    rfl
theorem c_fallen (h : Has T [41]) (hn : 1 ≤ n) (ns : List Int) : callN T n 41 [Li ns] = .val (.lst ((flo ns).map fun (i : Nat) => W.int i)) := by
  refine up hn fun m => Is.rt h.1 rfl ?_
  show exL (callN T m) T.cs ir_fallen [some (Li ns), none, none] = _
  have e0 := enumFrom_map W.int 0 ns
  have e1 : W.prs ((ns.zipIdx 0).map fun p => W.tup [W.int (-p.1), W.int ((p.2 : Nat) : Int)]) = some ((ns.zipIdx 0).map fun p => (-p.1, ((p.2 : Nat) : Int))) := by
    have := prs_map ((ns.zipIdx 0).map fun p => (-p.1, ((p.2 : Nat) : Int)))
    rw [List.map_map] at this
    exact this
  have e2 : (sortP ((ns.zipIdx 0).map fun p => (-p.1, ((p.2 : Nat) : Int)))).map prW = (fln ns).map fun p => W.tup [W.int p.1, W.int p.2] := rfl
  have e3 : ((fln ns).map fun p => W.int p.2) = (flo ns).map fun (i : Nat) => W.int i := by
    have := congrArg (List.map W.int) (fln_snd ns)
    rw [List.map_map, List.map_map] at this
    exact this
  simp [e_var, ev_cst, e_gci, ev_op, ev_tup, ev_lst, ev_call, ev_and, ev_or, e_not, e_ifx, e_and1, e_and2, e_or1, e_or2, e_chain, e_chain3, e_comp, evs_nil, es_cons, e_flat, i_lst, i_rng1, i_rng2, i_zip, i_enum, s_asg, s_app, s_ifs, s_ret, s_retV, s_exp, s_rai, s_pas, s_brk, s_asgT, s_unp, s_setT, s_appK, exL_nil, exL_kil, exL_frz, opS, addS, subS, mulS, fdivS, modS, powS, negS, eqS, neS, ltS, leS, gtS, geS, lenS, sumS, absS, max1S, min1S, max2S, min2S, all1S, any1S, int1S, isiS, isiT, isNS, notNS, isBS, notBS, W.isNon, ixS_lst, ixS_tup, catS, repS, slcAS, slcBS, revS, sortedS, listS, rngLS, flIf, startW, ints_map, bls_map, eqW_Li, neW_Li, eqW_int, neW_int, W.isFlat, W.isFlats, wipeW, tgS, setAll, stosW_nil, stosW_cons, stoW_1, stoW_2, isinS, notinS, fldS, iscS, indexS, sortedPS, rng3S, ir_fallen, e0, e1, e2]
  rw [← e3]
end
end Mx
/-! # Mx43: the table from a row to one under it -/
namespace Mx
open PySem L2
theorem fnd_D {n B : Nat} : ∀ {l : List Stp}, (∀ p ∈ l, Fnd n B p) → ∃ D, 0 < D ∧ D ≤ B ^ l.length ∧ ∀ p ∈ l, p.Ok n D
  | [], _ => ⟨1, by decide, by simp, fun p hp => nomatch hp⟩
  | p :: l, h => by
    obtain ⟨D, h1, h2, h3⟩ := fnd_D (l := l) fun q hq => h q (List.mem_cons_of_mem _ hq)
    have hp := h p List.mem_cons_self
    obtain ⟨d, d1, d2, d3⟩ := hp.bd
    refine ⟨D * d, Nat.mul_pos h1 d1, ?_, fun q hq => ?_⟩
    · rw [List.length_cons, Nat.pow_succ]
      exact Nat.mul_le_mul h2 d2
    · rcases List.mem_cons.mp hq with rfl | hq
      · exact ⟨hp.ab, hp.bn, hp.s0, hp.s1, d3.den ⟨D, Nat.mul_comm _ _⟩⟩
      · have := h3 q hq
        exact ⟨this.ab, this.bn, this.s0, this.s1, this.bd.den ⟨d, rfl⟩⟩
theorem ordm_bq {D : Nat} (o : Nat → Nat) (i j : Nat) : Bq D 1 (ordm o i j) := by
  unfold ordm
  split
  · exact Bq.one (Nat.le_refl _)
  · exact Bq.zero
theorem mm_bq {n D E M N : Nat} {f g : Nat → Nat → Rat} (hf : ∀ i j, Bq D M (f i j)) (hg : ∀ i j, Bq E N (g i j)) (i j : Nat) : Bq (D * E) (n * (M * N)) (mm n f g i j) := by
  exact Bq.sm fun k _ => (hf i k).mul (hg k j)
/-- the place of each place in an order -/
def inv (o : List Nat) (p : Nat) : Nat := o.idxOf p
theorem index_nat : ∀ {o : List Nat} {p : Nat}, p ∈ o → indexI (p : Int) (o.map fun (i : Nat) => (i : Int)) = some (inv o p)
  | x :: o, p, h => by
    unfold inv
    rw [List.map_cons, indexI]
    by_cases e : x = p
    · subst e
      simp [List.idxOf_cons]
    · have e' : ¬ (x : Int) = p := by omega
      rw [if_neg e', index_nat (o := o) (p := p) (by rcases List.mem_cons.mp h with h | h; exact absurd h.symm e; exact h)]
      have e3 : (x == p) = false := by simpa using e
      simp [List.idxOf_cons, inv, e3]
section
variable {T : Tb} {k : Nat} {a b : List Int} {N : Nat}
abbrev hTo : List Nat := [0, 1, 2, 3, 4, 5, 6, 7, 12, 23, 25, 28, 33, 35, 36, 39, 41, 42]
/-- the place of the i-th greatest -/
def fl (ns : List Int) (i : Nat) : Nat := (flo ns).getD i 0
theorem flo_len (ns : List Int) : (flo ns).length = ns.length := by rw [(flo_perm ns).length_eq, List.length_range]
theorem flo_w (ns : List Int) : ((flo ns).map fun (i : Nat) => W.int i) = (List.range ns.length).map fun i => W.int (fl ns i : Nat) := by
  refine List.ext_getElem (by simp [flo_len]) fun i h1 h2 => ?_
  simp at h1
  simp [fl, List.getD_eq_getElem?_getD, List.getElem?_eq_getElem h1]
theorem c_table_to (h : Has T hTo) (hk : 7 ≤ k) (h1 : 1 ≤ a.length) (h6 : a.length ≤ 6) (hl : a.length = b.length) (ha : ∀ x ∈ a, x.natAbs ≤ N) (hb : ∀ x ∈ b, x.natAbs ≤ N) (hN : N < 2 ^ 100) (ho : ovB a b = true) :
    ∃ l : List Stp, l.length < a.length ∧ (∀ p ∈ l, Fnd a.length (2 * N) p) ∧ (∀ i, i < a.length → stps l (ga (fall a)) i = ga (fall b) i) ∧
      callN T k 42 [Li a, Li b] = .val (Tw a.length (mm a.length (ordm (inv (flo b))) (mm a.length (stbm a.length l) (ordm (fl a))))) := by
  obtain ⟨m, rfl⟩ : ∃ m, k = m + 7 := ⟨k - 7, by omega⟩
  obtain ⟨l, c1, l1, l2, l3⟩ := c_steps_of (T := T) (k := m + 6) (h.sub _ (by decide)) (by omega) h1 h6 hl ha hb (Nat.lt_of_lt_of_le hN (Nat.pow_le_pow_right (by decide) (by decide))) ho
  refine ⟨l, l1, l2, l3, Is.rt (h.is 42 (by decide)) rfl ?_⟩
  show exL (callN T (m + 6)) T.cs ir_table_to [some (Li a), some (Li b), none, none, none, none] = _
  obtain ⟨D, d1, d2, d3⟩ := fnd_D l2
  have d4 : D ≤ 2 ^ 505 := by
    refine Nat.le_trans d2 (Nat.le_trans (Nat.pow_le_pow_left (show 2 * N ≤ 2 ^ 101 by rw [Nat.pow_succ]; omega) _) ?_)
    rw [← Nat.pow_mul]
    exact Nat.pow_le_pow_right (by decide) (by omega)
  have d5 : D ^ l.length ≤ 2 ^ 2525 := by
    refine Nat.le_trans (Nat.pow_le_pow_left d4 _) ?_
    rw [← Nat.pow_mul]
    exact Nat.pow_le_pow_right (by decide) (by omega)
  have d6 : 0 < D ^ l.length := Nat.pow_pos d1
  have n6 : ∀ n, n ≤ 6 → n ^ l.length ≤ 6 ^ 5 := fun n hn => Nat.le_trans (Nat.pow_le_pow_left hn _) (Nat.pow_le_pow_right (by decide) (by omega))
  have s1 : Sz D 1 := Sz.of d1 d4 (b := 2) (by decide) (by decide)
  have s2 : Sz (D ^ l.length) (7 * 6 ^ l.length) := Sz.of d6 d5 (b := 100) (by have := n6 6 (Nat.le_refl _); omega) (by decide)
  have s11 : Sz 1 1 := Sz.of (a := 0) (b := 2) (by decide) (by decide) (by decide) (by decide)
  have c2 := c_table_by (T := T) (k := m + 6) (n := a.length) (h.sub _ (by decide)) (by omega) h6 d3 s1 s2
  have c3 := c_fallen (T := T) (n := m + 6) (h.sub _ (by decide)) (by omega) a
  have c4 := c_fallen (T := T) (n := m + 6) (h.sub _ (by decide)) (by omega) b
  rw [flo_w] at c3
  have c5 := c_by_order (T := T) (k := m + 6) (n := a.length) (h.sub _ (by decide)) (by omega) h6 (fl a)
  have tb := stbm_tab l d3
  have nl := n6 a.length h6
  have s3 : Sz (D ^ l.length) (6 * (7 * (a.length ^ l.length))) := Sz.of d6 d5 (b := 100) (by omega) (by decide)
  have c6 := c_behind_of (T := T) (k := m + 6) (n := a.length) (D := 1) (M := 1) (E := D ^ l.length) (N := a.length ^ l.length) (f := ordm (fl a)) (g := stbm a.length l) (h.sub _ (by decide)) (by omega) h6 (ordm_bq _) tb.2 s11 (s3.mono (by omega)) (by rw [Nat.mul_one, Nat.mul_one]; exact s3.mono (by omega))
  have c7 := c_by_order (T := T) (k := m + 6) (n := a.length) (h.sub _ (by decide)) (by omega) h6 (inv (flo b))
  have mb := mm_bq (n := a.length) tb.2 (ordm_bq (D := 1) (fl a))
  have s4 : ∀ x, x ≤ 6 → Sz (D ^ l.length) (7 * (x * (a.length ^ l.length))) := fun x hx => s3.mono (by
    have := Nat.mul_le_mul_right (a.length ^ l.length) hx
    omega)
  have c8 := c_behind_of (T := T) (k := m + 6) (n := a.length) (D := D ^ l.length * 1) (M := a.length * (a.length ^ l.length * 1)) (E := 1) (N := 1) (f := mm a.length (stbm a.length l) (ordm (fl a))) (g := ordm (inv (flo b))) (h.sub _ (by decide)) (by omega) h6 mb (ordm_bq _) (by rw [Nat.mul_one, Nat.mul_one]; exact (s4 _ h6).mono (by omega)) s11 (by rw [Nat.mul_one, Nat.mul_one, Nat.one_mul, Nat.one_mul]; exact s4 _ h6)
  have c9 : ∀ p, p < a.length → indexI (p : Int) ((flo b).map fun (i : Nat) => (i : Int)) = some (inv (flo b) p) := fun p hp => index_nat ((flo_perm b).mem_iff.mpr (List.mem_range.mpr (by omega)))
  have c10 : W.ints ((flo b).map fun (i : Nat) => W.int i) = some ((flo b).map fun (i : Nat) => (i : Int)) := by
    have := ints_map ((flo b).map fun (i : Nat) => (i : Int))
    rw [List.map_map] at this
    exact this
  simp [e_var, ev_cst, e_gci, ev_op, ev_tup, ev_lst, ev_call, ev_and, ev_or, e_not, e_ifx, e_and1, e_and2, e_or1, e_or2, e_chain, e_chain3, e_comp, evs_nil, es_cons, e_flat, i_lst, i_rng1, i_rng2, i_zip, i_enum, s_asg, s_app, s_ifs, s_ret, s_retV, s_exp, s_rai, s_pas, s_brk, s_asgT, s_unp, s_setT, s_appK, exL_nil, exL_kil, exL_frz, opS, addS, subS, mulS, fdivS, modS, powS, negS, eqS, neS, ltS, leS, gtS, geS, lenS, sumS, absS, max1S, min1S, max2S, min2S, all1S, any1S, int1S, isiS, isiT, isNS, notNS, isBS, notBS, W.isNon, ixS_lst, ixS_tup, catS, repS, slcAS, slcBS, revS, sortedS, listS, rngLS, flIf, startW, ints_map, bls_map, eqW_Li, neW_Li, eqW_int, neW_int, W.isFlat, W.isFlats, wipeW, tgS, setAll, stosW_nil, stosW_cons, stoW_1, stoW_2, isinS, notinS, fldS, iscS, indexS, sortedPS, rng3S, ir_table_to, c1, c2, c3, c4, c5, c6, flo_len, ← hl, rng_nat a.length (by omega), c10]
  rw [mapL_of (fun p : Nat => W.int (inv (flo b) p)) fun p hp => by rw [c9 p (List.mem_range.mp hp)]]
  simp [e_var, ev_cst, e_gci, ev_op, ev_tup, ev_lst, ev_call, ev_and, ev_or, e_not, e_ifx, e_and1, e_and2, e_or1, e_or2, e_chain, e_chain3, e_comp, evs_nil, es_cons, e_flat, i_lst, i_rng1, i_rng2, i_zip, i_enum, s_asg, s_app, s_ifs, s_ret, s_retV, s_exp, s_rai, s_pas, s_brk, s_asgT, s_unp, s_setT, s_appK, exL_nil, exL_kil, exL_frz, opS, addS, subS, mulS, fdivS, modS, powS, negS, eqS, neS, ltS, leS, gtS, geS, lenS, sumS, absS, max1S, min1S, max2S, min2S, all1S, any1S, int1S, isiS, isiT, isNS, notNS, isBS, notBS, W.isNon, ixS_lst, ixS_tup, catS, repS, slcAS, slcBS, revS, sortedS, listS, rngLS, flIf, startW, ints_map, bls_map, eqW_Li, neW_Li, eqW_int, neW_int, W.isFlat, W.isFlats, wipeW, tgS, setAll, stosW_nil, stosW_cons, stoW_1, stoW_2, isinS, notinS, fldS, iscS, indexS, sortedPS, rng3S, lstO, consO, c7, c8]
end
end Mx
/-! # Mx44: over, by prices -/
namespace Mx
open PySem L2
theorem cut_at (t : Int) : ∀ m : List Int, m.Pairwise (· ≥ ·) → ∃ k, k ≤ m.length ∧ (∀ x ∈ m.take k, t ≤ x) ∧ ∀ x ∈ m.drop k, x ≤ t
  | [], _ => ⟨0, Nat.le_refl _, fun x hx => by simp at hx, fun x hx => by simp at hx⟩
  | y :: m, h => by
    rw [List.pairwise_cons] at h
    by_cases q : t ≤ y
    · obtain ⟨k, h1, h2, h3⟩ := cut_at t m h.2
      refine ⟨k + 1, by rw [List.length_cons]; omega, fun x hx => ?_, fun x hx => by rw [List.drop_succ_cons] at hx; exact h3 x hx⟩
      rw [List.take_succ_cons] at hx
      rcases List.mem_cons.mp hx with rfl | hx
      · exact q
      · exact h2 x hx
    · refine ⟨0, Nat.zero_le _, fun x hx => by simp at hx, fun x hx => ?_⟩
      rw [List.drop_zero] at hx
      rcases List.mem_cons.mp hx with rfl | hx
      · omega
      · have : y ≥ x := h.1 x hx
        omega
theorem abv_at (l : List Int) (t : Int) : ∃ k, k ≤ l.length ∧ gk l k = k * t + abv l t := by
  obtain ⟨k, h1, h2, h3⟩ := cut_at t (fall l) (fall_pair l)
  refine ⟨k, by rw [← fall_len l]; exact h1, ?_⟩
  rw [← abv_perm (fall_perm l)]
  exact abv_split _ k t h1 h2 h3
theorem gk_atm (l : List Int) {k : Nat} (h0 : k < l.length) : ∃ t ∈ l, gk l k = k * t + abv l t := by
  have hp := fall_pair l
  have hk : k < (fall l).length := by rw [fall_len]; exact h0
  refine ⟨(fall l)[k], (fall_perm l).subset (List.getElem_mem _), ?_⟩
  rw [← abv_perm (fall_perm l)]
  rw [List.pairwise_iff_getElem] at hp
  refine abv_split _ k _ (by omega) (fun x hx => ?_) (fun x hx => ?_)
  · obtain ⟨i, hi, rfl⟩ := List.mem_iff_getElem.mp hx
    rw [List.length_take] at hi
    rw [List.getElem_take]
    exact hp i k (by omega) hk (by omega)
  · obtain ⟨i, hi, rfl⟩ := List.mem_iff_getElem.mp hx
    rw [List.length_drop] at hi
    rw [List.getElem_drop]
    by_cases hi0 : i = 0
    · subst hi0
      exact Int.le_refl _
    · exact hp k (k + i) hk (by omega) (by omega)
theorem ov_abv {a b : List Int} (hl : a.length = b.length) (h : ovB a b = true) (t : Int) : abv b t ≤ abv a t := by
  obtain ⟨k, h1, h2⟩ := abv_at b t
  have h3 := ((ovB_iff hl).mp h).2 k (by omega)
  have h4 := gk_le a (k := k) (by omega) t
  omega
theorem ov_price {a b : List Int} (hl : a.length = b.length) (hs : a.sum = b.sum) (h : ∀ p ∈ a, abv b p ≤ abv a p) : ovB a b = true := by
  refine (ovB_iff hl).mpr ⟨hs, fun k hk => ?_⟩
  by_cases q : k < a.length
  · obtain ⟨t, ht, e⟩ := gk_atm a q
    have h1 := gk_le b (k := k) (by omega) t
    have h2 := h t ht
    omega
  · have e : k = a.length := by omega
    have h1 := gk_all a
    have h2 := gk_all b
    rw [e]
    rw [← hl] at h2
    omega
end Mx
/-! # Mx45: compared -/
namespace Mx
open PySem L2
section
variable {cf : Nat → List W → O} {cs : List Int} {σ : Sg} {it : Mx.It} {body ss : List S}
theorem forFind {i : Nat} {β : Type} (φ : β → W) (p : β → Bool) (r : β → W) (st : Sg) : ∀ (xs : List β), (∀ x ∈ xs, exL cf cs body ((st.set i none).set i (some (φ x))) = if p x then .rt (r x) else .nx ((st.set i none).set i (some (φ x)))) → ∀ o : Option W,
    (∃ x ∈ xs, p x = true ∧ forW (tgR (.nm i) fun s => exL cf cs body s) (xs.map φ) (st.set i o) = .rt (r x)) ∨ ((∀ x ∈ xs, p x = false) ∧ ∃ o', forW (tgR (.nm i) fun s => exL cf cs body s) (xs.map φ) (st.set i o) = .nx (st.set i o'))
  | [], _, o => .inr ⟨fun x hx => (nomatch hx), o, rfl⟩
  | x :: xs, h, o => by
    have e : tgR (.nm i) (fun s => exL cf cs body s) (φ x) (st.set i o) = if p x then .rt (r x) else .nx ((st.set i none).set i (some (φ x))) := by
      rw [← h x List.mem_cons_self]
      simp [tgR, tgS, Tg.ix, wipeW]
    rw [List.map_cons]
    unfold forW
    rw [e]
    by_cases q : p x = true
    · exact .inl ⟨x, List.mem_cons_self, q, by simp [q]⟩
    · have q' : p x = false := by simpa using q
      simp only [q', Bool.false_eq_true, if_false]
      rw [List.set_set]
      rcases forFind φ p r st xs (fun y hy => h y (List.mem_cons_of_mem _ hy)) (some (φ x)) with ⟨y, hy, h1, h2⟩ | ⟨h1, o', h2⟩
      · exact .inl ⟨y, List.mem_cons_of_mem _ hy, h1, h2⟩
      · refine .inr ⟨fun y hy => ?_, o', h2⟩
        rcases List.mem_cons.mp hy with rfl | hy
        · exact q'
        · exact h1 y hy
/-- a loop that may end the def, and changes nothing else -/
theorem loopFind {i : Nat} {β : Type} (C : R → Prop) (xs : List β) (φ : β → W) (p : β → Bool) (r : β → W) (hit : evIt cf cs it σ = some (xs.map φ))
    (hs : ∀ x ∈ xs, exL cf cs body ((σ.set i none).set i (some (φ x))) = if p x then .rt (r x) else .nx ((σ.set i none).set i (some (φ x))))
    (hr : ∀ x ∈ xs, p x = true → C (.rt (r x))) (hk : (∀ x ∈ xs, p x = false) → ∀ o, C (exL cf cs ss (σ.set i o))) : C (exL cf cs (.forS (.nm i) it body :: ss) σ) := by
  have hw : wipeW σ (Tg.nm i).ix = σ.set i none := by simp [Tg.ix, wipeW]
  rcases forFind φ p r σ xs hs none with ⟨x, hx, h1, h2⟩ | ⟨h1, o', h2⟩
  · have e : exL cf cs (.forS (.nm i) it body :: ss) σ = .rt (r x) := by
      rw [exL_cons]
      simp only [exS, hit, hw, h2]
    rw [e]
    exact hr x hx h1
  · rw [exL_for cf cs σ (.nm i) it body ss hit (by rw [hw]; exact h2)]
    exact hk h1 o'
end
section
variable {T : Tb} {k : Nat} {a b : List Int} {N : Nat}
abbrev hCmp : List Nat := [0, 1, 2, 3, 4, 5, 6, 7, 8, 10, 12, 15, 23, 25, 28, 33, 35, 36, 39, 41, 42, 43, 62, 65, 88, 1000]
/-- what compared answers, by kind -/
theorem c_compared (h : Has T hCmp) (hk : 8 ≤ k) (h1 : 1 ≤ a.length) (h6 : a.length ≤ 6) (hl : a.length = b.length) (ha : ∀ x ∈ a, x.natAbs ≤ N) (hb : ∀ x ∈ b, x.natAbs ≤ N) (hN : N < 2 ^ 100) :
    (ovB a b = true ∧ ∃ l : List Stp, l.length < a.length ∧ (∀ p ∈ l, Fnd a.length (2 * N) p) ∧ (∀ i, i < a.length → stps l (ga (fall a)) i = ga (fall b) i) ∧
      callN T k 43 [Li a, Li b] = .val (.ins 51 [Tw a.length (mm a.length (ordm (inv (flo b))) (mm a.length (stbm a.length l) (ordm (fl a))))])) ∨
    (ovB a b = false ∧ a.sum ≠ b.sum ∧ callN T k 43 [Li a, Li b] = .val (.ins 52 [])) ∨
    (ovB a b = false ∧ a.sum = b.sum ∧ ∃ p ∈ a, abv a p < abv b p ∧ callN T k 43 [Li a, Li b] = .val (.ins 53 [.int p])) := by
  obtain ⟨m, rfl⟩ : ∃ m, k = m + 8 := ⟨k - 8, by omega⟩
  have run : ∀ w, exL (callN T (m + 7)) T.cs ir_compared [some (Li a), some (Li b), none] = .rt w → callN T (m + 8) 43 [Li a, Li b] = .val w := fun w e => Is.rt (h.is 43 (by decide)) rfl e
  have c1 := c_asked_row (T := T) (n := m + 7) (h.sub _ (by decide)) (by omega) h1 h6
  have c2 := c_asked_row (T := T) (n := m + 7) (ns := b) (h.sub _ (by decide)) (by omega) (by omega) (by omega)
  have c3 := c_Uneven (T := T) (n := m + 7) (h.sub _ (by decide)) (by omega)
  have c4 := fun p => c_above_of (T := T) (n := m + 7) (h.sub _ (by decide)) (by omega) a p
  have c5 := fun p => c_above_of (T := T) (n := m + 7) (h.sub _ (by decide)) (by omega) b p
  have c6 := fun p => c_Priced (T := T) (n := m + 7) (h.sub _ (by decide)) (by omega) p
  by_cases hs : a.sum = b.sum
  · by_cases ho : ovB a b = true
    · obtain ⟨l, l1, l2, l3, c7⟩ := c_table_to (T := T) (k := m + 7) (h.sub _ (by decide)) (by omega) h1 h6 hl ha hb hN ho
      refine .inl ⟨ho, l, l1, l2, l3, run _ ?_⟩
      have c8 := c_Over (T := T) (n := m + 7) (h.sub _ (by decide)) (by omega) a.length h6 (mm a.length (ordm (inv (flo b))) (mm a.length (stbm a.length l) (ordm (fl a))))
      simp [e_var, ev_cst, e_gci, ev_op, ev_tup, ev_lst, ev_call, ev_and, ev_or, e_not, e_ifx, e_and1, e_and2, e_or1, e_or2, e_chain, e_chain3, e_comp, evs_nil, es_cons, e_flat, i_lst, i_rng1, i_rng2, i_zip, i_enum, s_asg, s_app, s_ifs, s_ret, s_retV, s_exp, s_rai, s_pas, s_brk, s_asgT, s_unp, s_setT, s_appK, exL_nil, exL_kil, exL_frz, opS, addS, subS, mulS, fdivS, modS, powS, negS, eqS, neS, ltS, leS, gtS, geS, lenS, sumS, absS, max1S, min1S, max2S, min2S, all1S, any1S, int1S, isiS, isiT, isNS, notNS, isBS, notBS, W.isNon, ixS_lst, ixS_tup, catS, repS, slcAS, slcBS, revS, sortedS, listS, rngLS, flIf, startW, ints_map, bls_map, eqW_Li, neW_Li, eqW_int, neW_int, W.isFlat, W.isFlats, wipeW, tgS, setAll, stosW_nil, stosW_cons, stoW_1, stoW_2, isinS, notinS, fldS, iscS, indexS, sortedPS, rng3S, ir_compared, c1, c2, hl, hs]
      refine loopFind (fun r => r = _) (sortI a) W.int (fun p => decide (abv a p < abv b p)) (fun p => .ins 53 [.int p]) (by simp [e_var, ev_cst, e_gci, ev_op, ev_tup, ev_lst, ev_call, ev_and, ev_or, e_not, e_ifx, e_and1, e_and2, e_or1, e_or2, e_chain, e_chain3, e_comp, evs_nil, es_cons, e_flat, i_lst, i_rng1, i_rng2, i_zip, i_enum, s_asg, s_app, s_ifs, s_ret, s_retV, s_exp, s_rai, s_pas, s_brk, s_asgT, s_unp, s_setT, s_appK, exL_nil, exL_kil, exL_frz, opS, addS, subS, mulS, fdivS, modS, powS, negS, eqS, neS, ltS, leS, gtS, geS, lenS, sumS, absS, max1S, min1S, max2S, min2S, all1S, any1S, int1S, isiS, isiT, isNS, notNS, isBS, notBS, W.isNon, ixS_lst, ixS_tup, catS, repS, slcAS, slcBS, revS, sortedS, listS, rngLS, flIf, startW, ints_map, bls_map, eqW_Li, neW_Li, eqW_int, neW_int, W.isFlat, W.isFlats, wipeW, tgS, setAll, stosW_nil, stosW_cons, stoW_1, stoW_2, isinS, notinS, fldS, iscS, indexS, sortedPS, rng3S]) (fun x hx => ?_) (fun x hx hp => ?_) (fun _ o => ?_)
      · by_cases q : abv a x < abv b x
        · simp [e_var, ev_cst, e_gci, ev_op, ev_tup, ev_lst, ev_call, ev_and, ev_or, e_not, e_ifx, e_and1, e_and2, e_or1, e_or2, e_chain, e_chain3, e_comp, evs_nil, es_cons, e_flat, i_lst, i_rng1, i_rng2, i_zip, i_enum, s_asg, s_app, s_ifs, s_ret, s_retV, s_exp, s_rai, s_pas, s_brk, s_asgT, s_unp, s_setT, s_appK, exL_nil, exL_kil, exL_frz, opS, addS, subS, mulS, fdivS, modS, powS, negS, eqS, neS, ltS, leS, gtS, geS, lenS, sumS, absS, max1S, min1S, max2S, min2S, all1S, any1S, int1S, isiS, isiT, isNS, notNS, isBS, notBS, W.isNon, ixS_lst, ixS_tup, catS, repS, slcAS, slcBS, revS, sortedS, listS, rngLS, flIf, startW, ints_map, bls_map, eqW_Li, neW_Li, eqW_int, neW_int, W.isFlat, W.isFlats, wipeW, tgS, setAll, stosW_nil, stosW_cons, stoW_1, stoW_2, isinS, notinS, fldS, iscS, indexS, sortedPS, rng3S, c4, c5, c6, q]
        · simp [e_var, ev_cst, e_gci, ev_op, ev_tup, ev_lst, ev_call, ev_and, ev_or, e_not, e_ifx, e_and1, e_and2, e_or1, e_or2, e_chain, e_chain3, e_comp, evs_nil, es_cons, e_flat, i_lst, i_rng1, i_rng2, i_zip, i_enum, s_asg, s_app, s_ifs, s_ret, s_retV, s_exp, s_rai, s_pas, s_brk, s_asgT, s_unp, s_setT, s_appK, exL_nil, exL_kil, exL_frz, opS, addS, subS, mulS, fdivS, modS, powS, negS, eqS, neS, ltS, leS, gtS, geS, lenS, sumS, absS, max1S, min1S, max2S, min2S, all1S, any1S, int1S, isiS, isiT, isNS, notNS, isBS, notBS, W.isNon, ixS_lst, ixS_tup, catS, repS, slcAS, slcBS, revS, sortedS, listS, rngLS, flIf, startW, ints_map, bls_map, eqW_Li, neW_Li, eqW_int, neW_int, W.isFlat, W.isFlats, wipeW, tgS, setAll, stosW_nil, stosW_cons, stoW_1, stoW_2, isinS, notinS, fldS, iscS, indexS, sortedPS, rng3S, c4, c5, c6, q]
      · have := ov_abv hl ho x
        simp at hp
        omega
      · simp only [← hl] at *
        simp [e_var, ev_cst, e_gci, ev_op, ev_tup, ev_lst, ev_call, ev_and, ev_or, e_not, e_ifx, e_and1, e_and2, e_or1, e_or2, e_chain, e_chain3, e_comp, evs_nil, es_cons, e_flat, i_lst, i_rng1, i_rng2, i_zip, i_enum, s_asg, s_app, s_ifs, s_ret, s_retV, s_exp, s_rai, s_pas, s_brk, s_asgT, s_unp, s_setT, s_appK, exL_nil, exL_kil, exL_frz, opS, addS, subS, mulS, fdivS, modS, powS, negS, eqS, neS, ltS, leS, gtS, geS, lenS, sumS, absS, max1S, min1S, max2S, min2S, all1S, any1S, int1S, isiS, isiT, isNS, notNS, isBS, notBS, W.isNon, ixS_lst, ixS_tup, catS, repS, slcAS, slcBS, revS, sortedS, listS, rngLS, flIf, startW, ints_map, bls_map, eqW_Li, neW_Li, eqW_int, neW_int, W.isFlat, W.isFlats, wipeW, tgS, setAll, stosW_nil, stosW_cons, stoW_1, stoW_2, isinS, notinS, fldS, iscS, indexS, sortedPS, rng3S, c7, c8]
    · have ho' : ovB a b = false := by simpa using ho
      have key : ∃ p ∈ a, abv a p < abv b p ∧ exL (callN T (m + 7)) T.cs ir_compared [some (Li a), some (Li b), none] = .rt (.ins 53 [.int p]) := by
        simp [e_var, ev_cst, e_gci, ev_op, ev_tup, ev_lst, ev_call, ev_and, ev_or, e_not, e_ifx, e_and1, e_and2, e_or1, e_or2, e_chain, e_chain3, e_comp, evs_nil, es_cons, e_flat, i_lst, i_rng1, i_rng2, i_zip, i_enum, s_asg, s_app, s_ifs, s_ret, s_retV, s_exp, s_rai, s_pas, s_brk, s_asgT, s_unp, s_setT, s_appK, exL_nil, exL_kil, exL_frz, opS, addS, subS, mulS, fdivS, modS, powS, negS, eqS, neS, ltS, leS, gtS, geS, lenS, sumS, absS, max1S, min1S, max2S, min2S, all1S, any1S, int1S, isiS, isiT, isNS, notNS, isBS, notBS, W.isNon, ixS_lst, ixS_tup, catS, repS, slcAS, slcBS, revS, sortedS, listS, rngLS, flIf, startW, ints_map, bls_map, eqW_Li, neW_Li, eqW_int, neW_int, W.isFlat, W.isFlats, wipeW, tgS, setAll, stosW_nil, stosW_cons, stoW_1, stoW_2, isinS, notinS, fldS, iscS, indexS, sortedPS, rng3S, ir_compared, c1, c2, hl, hs]
        refine loopFind (fun r => ∃ p ∈ a, abv a p < abv b p ∧ r = .rt (.ins 53 [.int p])) (sortI a) W.int (fun p => decide (abv a p < abv b p)) (fun p => .ins 53 [.int p]) (by simp [e_var, ev_cst, e_gci, ev_op, ev_tup, ev_lst, ev_call, ev_and, ev_or, e_not, e_ifx, e_and1, e_and2, e_or1, e_or2, e_chain, e_chain3, e_comp, evs_nil, es_cons, e_flat, i_lst, i_rng1, i_rng2, i_zip, i_enum, s_asg, s_app, s_ifs, s_ret, s_retV, s_exp, s_rai, s_pas, s_brk, s_asgT, s_unp, s_setT, s_appK, exL_nil, exL_kil, exL_frz, opS, addS, subS, mulS, fdivS, modS, powS, negS, eqS, neS, ltS, leS, gtS, geS, lenS, sumS, absS, max1S, min1S, max2S, min2S, all1S, any1S, int1S, isiS, isiT, isNS, notNS, isBS, notBS, W.isNon, ixS_lst, ixS_tup, catS, repS, slcAS, slcBS, revS, sortedS, listS, rngLS, flIf, startW, ints_map, bls_map, eqW_Li, neW_Li, eqW_int, neW_int, W.isFlat, W.isFlats, wipeW, tgS, setAll, stosW_nil, stosW_cons, stoW_1, stoW_2, isinS, notinS, fldS, iscS, indexS, sortedPS, rng3S]) (fun x hx => ?_) (fun x hx hp => ?_) (fun hn o => ?_)
        · by_cases q : abv a x < abv b x
          · simp [e_var, ev_cst, e_gci, ev_op, ev_tup, ev_lst, ev_call, ev_and, ev_or, e_not, e_ifx, e_and1, e_and2, e_or1, e_or2, e_chain, e_chain3, e_comp, evs_nil, es_cons, e_flat, i_lst, i_rng1, i_rng2, i_zip, i_enum, s_asg, s_app, s_ifs, s_ret, s_retV, s_exp, s_rai, s_pas, s_brk, s_asgT, s_unp, s_setT, s_appK, exL_nil, exL_kil, exL_frz, opS, addS, subS, mulS, fdivS, modS, powS, negS, eqS, neS, ltS, leS, gtS, geS, lenS, sumS, absS, max1S, min1S, max2S, min2S, all1S, any1S, int1S, isiS, isiT, isNS, notNS, isBS, notBS, W.isNon, ixS_lst, ixS_tup, catS, repS, slcAS, slcBS, revS, sortedS, listS, rngLS, flIf, startW, ints_map, bls_map, eqW_Li, neW_Li, eqW_int, neW_int, W.isFlat, W.isFlats, wipeW, tgS, setAll, stosW_nil, stosW_cons, stoW_1, stoW_2, isinS, notinS, fldS, iscS, indexS, sortedPS, rng3S, c4, c5, c6, q]
          · simp [e_var, ev_cst, e_gci, ev_op, ev_tup, ev_lst, ev_call, ev_and, ev_or, e_not, e_ifx, e_and1, e_and2, e_or1, e_or2, e_chain, e_chain3, e_comp, evs_nil, es_cons, e_flat, i_lst, i_rng1, i_rng2, i_zip, i_enum, s_asg, s_app, s_ifs, s_ret, s_retV, s_exp, s_rai, s_pas, s_brk, s_asgT, s_unp, s_setT, s_appK, exL_nil, exL_kil, exL_frz, opS, addS, subS, mulS, fdivS, modS, powS, negS, eqS, neS, ltS, leS, gtS, geS, lenS, sumS, absS, max1S, min1S, max2S, min2S, all1S, any1S, int1S, isiS, isiT, isNS, notNS, isBS, notBS, W.isNon, ixS_lst, ixS_tup, catS, repS, slcAS, slcBS, revS, sortedS, listS, rngLS, flIf, startW, ints_map, bls_map, eqW_Li, neW_Li, eqW_int, neW_int, W.isFlat, W.isFlats, wipeW, tgS, setAll, stosW_nil, stosW_cons, stoW_1, stoW_2, isinS, notinS, fldS, iscS, indexS, sortedPS, rng3S, c4, c5, c6, q]
        · exact ⟨x, (sortI_spec a).1.subset hx, by simpa using hp, rfl⟩
        · refine absurd (ov_price hl hs fun p hp => ?_) ho
          have := hn p ((sortI_spec a).1.mem_iff.mpr hp)
          simp at this
          exact this
      obtain ⟨p, hp, h7, e⟩ := key
      exact .inr (.inr ⟨ho', hs, p, hp, h7, run _ e⟩)
  · refine .inr (.inl ⟨?_, hs, run _ ?_⟩)
    · cases q : ovB a b with
      | false => rfl
      | true => exact absurd ((ovB_iff hl).mp q).1 hs
    · simp [e_var, ev_cst, e_gci, ev_op, ev_tup, ev_lst, ev_call, ev_and, ev_or, e_not, e_ifx, e_and1, e_and2, e_or1, e_or2, e_chain, e_chain3, e_comp, evs_nil, es_cons, e_flat, i_lst, i_rng1, i_rng2, i_zip, i_enum, s_asg, s_app, s_ifs, s_ret, s_retV, s_exp, s_rai, s_pas, s_brk, s_asgT, s_unp, s_setT, s_appK, exL_nil, exL_kil, exL_frz, opS, addS, subS, mulS, fdivS, modS, powS, negS, eqS, neS, ltS, leS, gtS, geS, lenS, sumS, absS, max1S, min1S, max2S, min2S, all1S, any1S, int1S, isiS, isiT, isNS, notNS, isBS, notBS, W.isNon, ixS_lst, ixS_tup, catS, repS, slcAS, slcBS, revS, sortedS, listS, rngLS, flIf, startW, ints_map, bls_map, eqW_Li, neW_Li, eqW_int, neW_int, W.isFlat, W.isFlats, wipeW, tgS, setAll, stosW_nil, stosW_cons, stoW_1, stoW_2, isinS, notinS, fldS, iscS, indexS, sortedPS, rng3S, ir_compared, c1, c2, c3, hl, hs]
end
end Mx
/-! # Mx46: plain: squares, distances, of a row over another -/
namespace Mx
def pz (z : Int) : Int := if 0 < z then z else 0
theorem abv_pz (l : List Int) (t : Int) : abv l t = (l.map fun x => pz (x - t)).sum := by
  unfold abv
  congr 1
  refine List.map_congr_left fun x _ => ?_
  unfold pz
  by_cases h : t < x
  · rw [if_pos h, if_pos (by omega)]
  · rw [if_neg h, if_neg (by omega)]
/-- how far the numbers stand below -/
def blw (l : List Int) (t : Int) : Int := (l.map fun x => pz (t - x)).sum
theorem blw_abv : ∀ (l : List Int) (t : Int), blw l t = abv l t - l.sum + l.length * t
  | [], t => by simp [blw, abv]
  | x :: l, t => by
    have ih := blw_abv l t
    rw [abv_pz] at ih ⊢
    unfold blw at ih ⊢
    simp only [List.map_cons, List.sum_cons, List.length_cons, ih]
    have : pz (t - x) = pz (x - t) - x + t := by unfold pz; split <;> split <;> omega
    have e : ((l.length + 1 : Nat) : Int) * t = l.length * t + t := by rw [Int.natCast_add, Int.add_mul]; simp
    rw [e]
    omega
theorem sum_map_le {α : Type} {f g : α → Int} : ∀ {l : List α}, (∀ x ∈ l, f x ≤ g x) → (l.map f).sum ≤ (l.map g).sum
  | [], _ => by simp
  | x :: l, h => by
    have h1 := h x List.mem_cons_self
    have h2 := sum_map_le (l := l) fun y hy => h y (List.mem_cons_of_mem _ hy)
    simp only [List.map_cons, List.sum_cons]
    omega
theorem sum_map_add {α : Type} (f g : α → Int) : ∀ l : List α, (l.map fun x => f x + g x).sum = (l.map f).sum + (l.map g).sum
  | [] => by simp
  | x :: l => by
    simp only [List.map_cons, List.sum_cons, sum_map_add f g l]
    omega
theorem sum_swap {α β : Type} (f : α → β → Int) (m : List β) : ∀ l : List α, (l.map fun x => (m.map fun y => f x y).sum).sum = (m.map fun y => (l.map fun x => f x y).sum).sum
  | [] => by
    have : ∀ m : List β, (m.map fun _ => (0 : Int)).sum = 0 := fun m => by
      induction m with
      | nil => rfl
      | cons y m ih => rw [List.map_cons, List.sum_cons, ih]; rfl
    exact (this m).symm
  | x :: l => by
    simp only [List.map_cons, List.sum_cons]
    rw [sum_swap f m l, sum_map_add]
theorem ab_pz (z : Int) : ab z = pz z + pz (-z) := by unfold ab pz; split <;> split <;> split <;> omega
theorem apt_abv : ∀ l : List Int, apt l = (l.map fun y => abv l y).sum
  | [] => rfl
  | x :: l => by
    have ih := apt_abv l
    have e1 : ∀ y, abv (x :: l) y = pz (x - y) + abv l y := fun y => by rw [abv_pz, abv_pz]; simp
    have e2 : (l.map fun y => ab (x - y)).sum = (l.map fun y => pz (x - y)).sum + abv l x := by
      rw [abv_pz, ← sum_map_add]
      congr 1
      refine List.map_congr_left fun y _ => ?_
      rw [ab_pz, show -(x - y) = y - x by omega]
    rw [apt, ih, List.map_cons, List.sum_cons, e1, e2]
    have e3 : (l.map fun y => abv (x :: l) y).sum = (l.map fun y => pz (x - y)).sum + (l.map fun y => abv l y).sum := by
      rw [← sum_map_add]
      congr 1
      exact List.map_congr_left fun y _ => e1 y
    rw [e3]
    have : pz (x - x) = 0 := by simp [pz]
    omega
theorem apt_le {a b : List Int} (hl : a.length = b.length) (h : ovB a b = true) : apt b ≤ apt a := by
  have hs := ((ovB_iff hl).mp h).1
  have h1 : (b.map fun y => abv b y).sum ≤ (b.map fun y => abv a y).sum := sum_map_le fun y _ => ov_abv hl h y
  have h2 : (b.map fun y => abv a y).sum = (a.map fun x => blw b x).sum := by
    have e : (b.map fun y => abv a y) = b.map fun y => (a.map fun x => pz (x - y)).sum := List.map_congr_left fun y _ => abv_pz a y
    rw [e, sum_swap (fun y x => pz (x - y)) a b]
    rfl
  have h3 : (a.map fun x => blw b x).sum ≤ (a.map fun x => blw a x).sum := sum_map_le fun x _ => by
    have := ov_abv hl h x
    rw [blw_abv, blw_abv, hs, hl]
    omega
  have h4 : (a.map fun x => blw a x).sum = (a.map fun y => abv a y).sum := by
    have e : (a.map fun y => abv a y) = a.map fun y => (a.map fun x => pz (x - y)).sum := List.map_congr_left fun y _ => abv_pz a y
    rw [e, sum_swap (fun y x => pz (x - y)) a a]
    rfl
  rw [apt_abv, apt_abv]
  omega
def sq (l : List Int) : Int := (l.map fun x => x * x).sum
theorem tri (z : Int) (h0 : 0 ≤ z) : ∀ m : Nat, ((m : Int) ≤ z → 2 * ((List.range m).map fun (i : Nat) => pz (z - i)).sum = m * (2 * z - m + 1)) ∧ (z ≤ m → 2 * ((List.range m).map fun (i : Nat) => pz (z - i)).sum = z * (z + 1))
  | 0 => ⟨fun _ => by simp, fun h => by have : z = 0 := by omega
                                        subst this; simp⟩
  | m + 1 => by
    obtain ⟨h1, h2⟩ := tri z h0 m
    rw [List.range_succ, List.map_append, List.sum_append]
    generalize ((List.range m).map fun (i : Nat) => pz (z - i)).sum = S at h1 h2
    simp only [List.map_cons, List.map_nil, List.sum_cons, List.sum_nil]
    have e : ((m + 1 : Nat) : Int) = (m : Int) + 1 := by omega
    rw [e]
    have key : (m : Int) + 1 ≤ z → 2 * (S + (pz (z - m) + 0)) = ((m : Int) + 1) * (2 * z - (m + 1) + 1) := fun h => by
      have p : pz (z - m) = z - m := by unfold pz; rw [if_pos (by omega)]
      have q := h1 (by omega)
      rw [p]
      grind
    refine ⟨key, fun h => ?_⟩
    by_cases q : z ≤ m
    · have p : pz (z - m) = 0 := by unfold pz; rw [if_neg (by omega)]
      rw [p]
      have := h2 q
      grind
    · have e2 : z = m + 1 := by omega
      rw [key (by omega), e2]
      grind
theorem sq_abv (L : Int) (m : Nat) : ∀ l : List Int, (∀ x ∈ l, L ≤ x ∧ x ≤ L + m) → sq l - 2 * L * l.sum + l.length * (L * L) + (l.sum - l.length * L) = 2 * ((List.range m).map fun (i : Nat) => abv l (L + i)).sum
  | [], _ => by
    have : ((List.range m).map fun (i : Nat) => abv [] (L + i)).sum = 0 := by
      have : ∀ k : List Nat, (k.map fun (i : Nat) => abv [] (L + i)).sum = 0 := fun k => by
        induction k with
        | nil => rfl
        | cons y k ih => rw [List.map_cons, List.sum_cons, ih]; rfl
      exact this _
    rw [this]
    simp [sq]
  | x :: l, h => by
    have ih := sq_abv L m l fun y hy => h y (List.mem_cons_of_mem _ hy)
    obtain ⟨h1, h2⟩ := h x List.mem_cons_self
    have t := (tri (x - L) (by omega) m).2 (by omega)
    have e : ((List.range m).map fun (i : Nat) => abv (x :: l) (L + i)) = (List.range m).map fun (i : Nat) => pz (x - L - i) + abv l (L + i) := by
      refine List.map_congr_left fun i _ => ?_
      rw [abv_pz, abv_pz, List.map_cons, List.sum_cons, show x - (L + (i : Int)) = x - L - i by omega]
    rw [e, sum_map_add, Int.mul_add, t, ← ih]
    have e2 : sq (x :: l) = x * x + sq l := by unfold sq; simp
    rw [e2, List.sum_cons, List.length_cons]
    have e3 : ((l.length + 1 : Nat) : Int) = (l.length : Int) + 1 := by omega
    rw [e3]
    grind
theorem bnd_of (l : List Int) : ∃ N : Nat, ∀ x ∈ l, x.natAbs ≤ N := by
  induction l with
  | nil => exact ⟨0, fun x hx => nomatch hx⟩
  | cons y l ih =>
    obtain ⟨N, h⟩ := ih
    refine ⟨N + y.natAbs, fun x hx => ?_⟩
    rcases List.mem_cons.mp hx with rfl | hx
    · omega
    · have := h x hx
      omega
theorem sum_map_lt {α : Type} {f g : α → Int} {y : α} : ∀ {l : List α}, (∀ x ∈ l, f x ≤ g x) → y ∈ l → f y < g y → (l.map f).sum < (l.map g).sum
  | x :: l, h, hy, hlt => by
    have h1 := h x List.mem_cons_self
    have h2 := sum_map_le (l := l) fun y hy => h y (List.mem_cons_of_mem _ hy)
    simp only [List.map_cons, List.sum_cons]
    rcases List.mem_cons.mp hy with rfl | hy
    · omega
    · have := sum_map_lt (fun y hy => h y (List.mem_cons_of_mem _ hy)) hy hlt
      omega
theorem sq_le {a b : List Int} (hl : a.length = b.length) (h : ovB a b = true) : sq b ≤ sq a ∧ (ovB b a = false → sq b < sq a) := by
  have hs := ((ovB_iff hl).mp h).1
  obtain ⟨M, hM⟩ := bnd_of (a ++ b)
  have ha := sq_abv (-M) (2 * M + 1) a fun x hx => by
    have := hM x (List.mem_append_left _ hx)
    omega
  have hb := sq_abv (-M) (2 * M + 1) b fun x hx => by
    have := hM x (List.mem_append_right _ hx)
    omega
  have le : ∀ i ∈ List.range (2 * M + 1), abv b (-(M : Int) + (i : Nat)) ≤ abv a (-(M : Int) + (i : Nat)) := fun i _ => ov_abv hl h _
  rw [hs, hl] at ha
  refine ⟨?_, fun ho => ?_⟩
  · have := sum_map_le le
    omega
  · have : ∃ p ∈ b, abv b p < abv a p := by
      apply Classical.byContradiction
      intro hn
      have := ov_price hl.symm hs.symm fun p hp => by
        apply Classical.byContradiction
        intro q
        exact hn ⟨p, hp, by omega⟩
      rw [ho] at this
      cases this
    obtain ⟨p, hp, q⟩ := this
    have hp2 := hM p (List.mem_append_right _ hp)
    have := sum_map_lt (y := (p + M).toNat) le (List.mem_range.mpr (by omega)) (by
      have e : -(M : Int) + ((p + M).toNat : Nat) = p := by omega
      rw [e]
      exact q)
    omega
theorem ov_both {a b : List Int} (hl : a.length = b.length) : (ovB a b = true ∧ ovB b a = true) ↔ sortI a = sortI b := by
  constructor
  · intro ⟨h1, h2⟩
    have e1 := ((ovB_iff hl).mp h1).2
    have e2 := ((ovB_iff hl.symm).mp h2).2
    have e : ∀ k, k ≤ a.length → gk a k = gk b k := fun k hk => by
      have := e1 k hk
      have := e2 k (by omega)
      omega
    have ef : fall a = fall b := by
      refine List.ext_getElem (by rw [fall_len, fall_len, hl]) fun i h1 h2 => ?_
      have q1 := e i (by rw [fall_len] at h1; omega)
      have q2 := e (i + 1) (by rw [fall_len] at h1; omega)
      unfold gk at q1 q2
      rw [List.take_add_one, List.take_add_one, List.sum_append, List.sum_append, List.getElem?_eq_getElem h1, List.getElem?_eq_getElem h2] at q2
      simp at q2
      omega
    unfold fall at ef
    exact List.reverse_inj.mp ef
  · intro e
    have p : a.Perm b := (sortI_spec a).1.symm.trans (e ▸ (sortI_spec b).1)
    have hs := sum_perm' p
    refine ⟨ov_price hl hs fun t _ => by rw [abv_perm p]; exact Int.le_refl _, ov_price hl.symm hs.symm fun t _ => by rw [abv_perm p]; exact Int.le_refl _⟩
end Mx
/-! # K05a: the table of law_k05_whole_prices -/
namespace K05
open PySem L2 PyProof.Rows Mx
def top (i : Nat) : Stmt := PySem.Challenge.pw_mixtables_k05_whole_prices.main.body.getD i (.Pass ⟨0, 0, 0, 0⟩)
def sub (i j : Nat) : Stmt := match top i with | .ClassDef _ _ _ b _ _ _ _ _ _ _ => b.getD j (.Pass ⟨0, 0, 0, 0⟩) | s => s
def d_Over___init__ : Dd := ⟨"Over", sub 30 0, ["self", "table"], ["self", "table", "line"], .fr none, ir_Over___init__, .ini 51 "table"⟩
def d_Uneven___init__ : Dd := ⟨"Uneven", top 31, [], [], .fr none, [], .ini0 52⟩
def d_Priced___init__ : Dd := ⟨"Priced", sub 32 0, ["self", "price"], ["self", "price"], .fr none, ir_Priced___init__, .ini 53 "price"⟩
def d__wall : Dd := ⟨"_wall", top 0, ["k"], ["k"], .flat, ir__wall, .fn⟩
def d_common : Dd := ⟨"common", top 7, ["one", "other"], ["one", "other"], .flat, ir_common, .fn⟩
def d_lowest : Dd := ⟨"lowest", top 8, ["top", "bottom"], ["top", "bottom", "by"], .flat, ir_lowest, .fn⟩
def d_plus : Dd := ⟨"plus", top 9, ["one", "other"], ["one", "other"], .flat, ir_plus, .fn⟩
def d_less : Dd := ⟨"less", top 10, ["one", "other"], ["one", "other"], .flat, ir_less, .fn⟩
def d_by_times : Dd := ⟨"by_times", top 11, ["one", "other"], ["one", "other"], .flat, ir_by_times, .fn⟩
def d_parted : Dd := ⟨"parted", top 12, ["one", "other"], ["one", "other"], .flat, ir_parted, .fn⟩
def d_total : Dd := ⟨"total", top 13, ["some"], ["some", "found", "one"], .flat, ir_total, .fn⟩
def d_is_less : Dd := ⟨"is_less", top 14, ["one", "other"], ["one", "other"], .flat, ir_is_less, .fn⟩
def d_is_whole : Dd := ⟨"is_whole", top 15, ["thing"], ["thing"], .flat, ir_is_whole, .fn⟩
def d_asked_row : Dd := ⟨"asked_row", top 18, ["row"], ["row", "one"], .flat, ir_asked_row, .fn⟩
def d_falling : Dd := ⟨"falling", top 19, ["row"], ["row"], .fr none, ir_falling, .fn⟩
def d_above_of : Dd := ⟨"above_of", top 20, ["row", "price"], ["row", "price", "one"], .flat, ir_above_of, .fn⟩
def d_above : Dd := ⟨"above", top 21, ["row", "price"], ["row", "price"], .flat, ir_above, .fn⟩
def d_squares : Dd := ⟨"squares", top 22, ["row"], ["row", "one"], .flat, ir_squares, .fn⟩
def d_apart : Dd := ⟨"apart", top 23, ["row"], ["row", "found", "at", "one", "other"], .flat, ir_apart, .fn⟩
def d_as_pairs : Dd := ⟨"as_pairs", top 25, ["row"], ["row", "one"], .fr none, ir_as_pairs, .fn⟩
def d_behind_of : Dd := ⟨"behind_of", top 26, ["one", "other"], ["one", "other", "columns", "found", "line", "at", "column", "mine", "share"], .fr none, ir_behind_of, .fn⟩
def d_by_order : Dd := ⟨"by_order", top 27, ["order"], ["order", "place", "at"], .fr none, ir_by_order, .fn⟩
def d_step_of : Dd := ⟨"step_of", top 34, ["row", "step"], ["row", "step", "gives", "found", "one", "other", "share"], .fr none, ir_step_of, .fn⟩
def d_step_table : Dd := ⟨"step_table", top 35, ["many", "step"], ["many", "step", "found", "keeps", "one", "other", "share"], .fr none, ir_step_table, .fn⟩
def d_table_by : Dd := ⟨"table_by", top 36, ["many", "steps"], ["many", "steps", "found", "step"], .fr none, ir_table_by, .fn⟩
def d_steps_of : Dd := ⟨"steps_of", top 37, ["one", "other"], ["one", "other", "here", "due", "found", "high", "low", "share", "gives", "takes", "at"], .fr none, ir_steps_of, .fn⟩
def d_fallen : Dd := ⟨"fallen", top 39, ["row"], ["row", "number", "place"], .fr none, ir_fallen, .fn⟩
def d_table_to : Dd := ⟨"table_to", top 40, ["one", "other"], ["one", "other", "found", "down", "back", "place"], .fr none, ir_table_to, .fn⟩
def d_compared : Dd := ⟨"compared", top 41, ["one", "other"], ["one", "other", "price"], .fr none, ir_compared, .fn⟩
def d__law_number : Dd := ⟨"_law_number", top 43, ["_law_cell", "_law_at", "_law_whole"], ["_law_cell", "_law_at", "_law_whole", "_law_blend", "_law_more"], .flat, ir__law_number, .fn⟩
def d__law_row : Dd := ⟨"_law_row", top 44, ["_law_script", "_law_by", "_law_many_here", "_law_wide"], ["_law_script", "_law_by", "_law_many_here", "_law_wide", "_law_cells", "_law_whole", "_law_found", "_law_at", "_law_number_here"], .fr none, ir__law_row, .fn⟩
def d__law_many : Dd := ⟨"_law_many", top 45, ["_law_script", "_law_by", "_law_most"], ["_law_script", "_law_by", "_law_most"], .flat, ir__law_many, .fn⟩
def d__law_greatest : Dd := ⟨"_law_greatest", top 46, ["_law_row_here"], ["_law_row_here", "_law_down", "_law_many_here"], .fr none, ir__law_greatest, .fn⟩
def d__law_over : Dd := ⟨"_law_over", top 47, ["_law_one", "_law_other"], ["_law_one", "_law_other", "_law_mine", "_law_theirs", "_law_more", "_law_few"], .flat, ir__law_over, .fn⟩
def d__law_evened : Dd := ⟨"_law_evened", top 48, ["_law_script", "_law_by", "_law_row_here"], ["_law_script", "_law_by", "_law_row_here", "_law_cells", "_law_at", "_law_turn", "_law_whole", "_law_found", "_law_cell", "_law_number_here", "_law_gift", "_law_one", "_law_other", "_law_high", "_law_low"], .fr none, ir__law_evened, .fn⟩
def d_law : Dd := ⟨"law", top 49, ["_law_script"], ["_law_script", "_law_whole", "_law_by", "_law_wide", "_law_many_here", "_law_one", "_law_drawn", "_law_other", "_law_over_here", "_law_step", "_law_tried", "_law_all_of", "_law_few", "_law_both", "_law_low", "_law_high", "_law_price"], .flat, [
  .asg 1 (.flat) (.op .abs [.op .sum [.op (.slcB true) [.var 0, .cst (.int 63)]]]),
  .forS (.tp [2, 3]) (.lst (.lst [.tup [.cst (.int 0), .cst (.int 6)], .tup [.cst (.int 1), .cst (.int 25)], .tup [.cst (.int 3), .cst (.int 40)]])) [.asg 4 (.flat) (.call 72 [.var 0, .flat (.var 2), .cst (.int 6)]), .asg 5 (.fr (some 0)) (.call 71 [.var 0, .flat (.var 2), .var 4, .flat (.var 3)]), .asg 6 (.fr none) (.call 71 [.var 0, .op .add [.flat (.var 2), .cst (.int 2)], .var 4, .flat (.var 3)]), .setT [(6, .cst (.int 0), none)] [.op .sub [.op .add [.flat (.op .ix [.var 6, .cst (.int 0)]), .op .sum [.var 5]], .op .sum [.var 6]]] [], .frz 6, .forS (.nm 7) (.lst (.lst [.var 6, .call 85 [.var 0, .flat (.var 2), .var 5], .op (.rev true) [.var 5]])) [.asg 8 (.flat) (.op (.isc [(51, true), (52, false), (53, false)]) [.call 43 [.var 5, .var 7]]), .asgT [14, 15] [.op .sub [.op .min1 [.op (.cat true) [.var 5, .var 7]], .cst (.int 1)], .op .add [.op .max1 [.op (.cat true) [.var 5, .var 7]], .cst (.int 1)]], .asg 9 (.flat) (.op .add [.cst (.int 1), .op .fdiv [.op .sub [.var 15, .var 14], .cst (.int 12)]]), .asg 10 (.fr (some 0)) (.op (.cat true) [.op (.cat true) [.op .rng3 [.var 14, .var 15, .var 9], .var 5], .var 7]), .asg 11 (.flat) (.op .all1 [.comp (.op .ge [.call 16 [.var 5, .flat (.var 16)], .call 16 [.var 7, .flat (.var 16)]]) (.nm 16) (.lst (.var 10)) none [16]]), .asg 12 (.flat) (.op .all1 [.comp (.op .ge [.call 16 [.var 5, .flat (.var 16)], .call 16 [.var 7, .flat (.var 16)]]) (.nm 16) (.lst (.var 5)) none [16]]), .ifs (.or [.op .ne [.var 12, .var 8], .and [.var 8, .not (.var 11)], .op .ne [.var 8, .call 84 [.var 5, .var 7]]]) [.ret (.cst (.bl false))] [], .ifs (.and [.var 8, .or [.op .lt [.call 17 [.var 5], .call 17 [.var 7]], .op .lt [.call 18 [.var 5], .call 18 [.var 7]]]]) [.ret (.cst (.bl false))] [], .asg 13 (.flat) (.and [.var 8, .op (.isc [(51, true), (52, false), (53, false)]) [.call 43 [.var 7, .var 5]]]), .ifs (.op .ne [.var 13, .op .eq [.op .sorted [.var 5], .op .sorted [.var 7]]]) [.ret (.cst (.bl false))] [], .ifs (.and [.var 8, .not (.var 13), .op .le [.call 17 [.var 5], .call 17 [.var 7]]]) [.ret (.cst (.bl false))] [], .kil 8, .kil 9, .kil 10, .kil 11, .kil 12, .kil 13, .kil 14, .kil 15], .kil 4, .kil 5, .kil 6, .kil 7, .kil 8, .kil 9, .kil 10, .kil 11, .kil 12, .kil 13, .kil 14, .kil 15],
  .ret (.and [.op .lt [.call 16 [.lst [.cst (.int 3), .cst (.int 3), .cst (.int 0)], .cst (.int 3)], .call 16 [.lst [.cst (.int 4), .cst (.int 1), .cst (.int 1)], .cst (.int 3)]], .op .lt [.call 16 [.lst [.cst (.int 1), .cst (.int 1)], .cst (.int 1)], .call 16 [.lst [.cst (.int 0), .cst (.int 2)], .cst (.int 1)]], .op .ge [.var 1, .cst (.int 0)]])], .fn⟩
def T : Tb := ⟨[d_common, d_lowest, d_plus, d_less, d_by_times, d_parted, d_total, d_is_less, d_is_whole, d_common, d_asked_row, d_common, d_falling, d_common, d_common, d_above_of, d_above, d_squares, d_apart, d_common, d_common, d_common, d_common, d_as_pairs, d_common, d_behind_of, d_common, d_common, d_by_order, d_common, d_common, d_common, d_common, d_step_of, d_common, d_step_table, d_table_by, d_common, d_common, d_steps_of, d_common, d_fallen, d_table_to, d_compared, d_common, d_common, d_common, d_common, d_common, d_common, d_common, d_common, d_common, d_common, d_common, d_common, d_common, d_common, d_common, d_common, d_common, d_common, d_Over___init__, d_common, d_common, d_Priced___init__, d_common, d_common, d_common, d__wall, d__law_number, d__law_row, d__law_many, d_common, d_common, d_common, d_common, d_common, d_common, d_common, d_common, d_common, d_common, d__law_greatest, d__law_over, d__law_evened, d_common, d_common, d_Uneven___init__, d_common, d_common, d_common, d_common, d_common, d_common, d_common, d_common, d_common, d_common, d_common, d_law], [("MOST", 6), ("MOST", 6), ("MOST", 6)], ["MixError", "BadRow", "MixError", "MixError", "MixError", "MixError", "MixError", "BadPrice", "MixError", "Unlike", "MixError", "MixError"], [("Answer", []), ("Over", ["table"]), ("Uneven", []), ("Priced", ["price"]), ("Answer", [])], [("Over", 51, true), ("Over", 52, false), ("Over", 53, false)]⟩
-- law index 100 in the table, statement 49
/-- the shared defs that are here -/
abbrev has : List Nat := [0, 1, 2, 3, 4, 5, 6, 7, 8, 10, 12, 15, 16, 17, 18, 23, 25, 28, 33, 35, 36, 39, 41, 42, 43, 62, 65, 69, 70, 71, 72, 83, 84, 85, 88, 1000]
theorem hasT : Has T has := ⟨isD (d := d_common) ⟨rfl, rfl⟩ rfl rfl rfl (by decide), isD (d := d_lowest) ⟨rfl, rfl⟩ rfl rfl rfl (by decide), isD (d := d_plus) ⟨rfl, rfl⟩ rfl rfl rfl (by decide), isD (d := d_less) ⟨rfl, rfl⟩ rfl rfl rfl (by decide), isD (d := d_by_times) ⟨rfl, rfl⟩ rfl rfl rfl (by decide), isD (d := d_parted) ⟨rfl, rfl⟩ rfl rfl rfl (by decide), isD (d := d_total) ⟨rfl, rfl⟩ rfl rfl rfl (by decide), isD (d := d_is_less) ⟨rfl, rfl⟩ rfl rfl rfl (by decide), isD (d := d_is_whole) ⟨rfl, rfl⟩ rfl rfl rfl (by decide), isD (d := d_asked_row) ⟨rfl, rfl⟩ rfl rfl rfl (by decide), isD (d := d_falling) ⟨rfl, rfl⟩ rfl rfl rfl (by decide), isD (d := d_above_of) ⟨rfl, rfl⟩ rfl rfl rfl (by decide), isD (d := d_above) ⟨rfl, rfl⟩ rfl rfl rfl (by decide), isD (d := d_squares) ⟨rfl, rfl⟩ rfl rfl rfl (by decide), isD (d := d_apart) ⟨rfl, rfl⟩ rfl rfl rfl (by decide), isD (d := d_as_pairs) ⟨rfl, rfl⟩ rfl rfl rfl (by decide), isD (d := d_behind_of) ⟨rfl, rfl⟩ rfl rfl rfl (by decide), isD (d := d_by_order) ⟨rfl, rfl⟩ rfl rfl rfl (by decide), isD (d := d_step_of) ⟨rfl, rfl⟩ rfl rfl rfl (by decide), isD (d := d_step_table) ⟨rfl, rfl⟩ rfl rfl rfl (by decide), isD (d := d_table_by) ⟨rfl, rfl⟩ rfl rfl rfl (by decide), isD (d := d_steps_of) ⟨rfl, rfl⟩ rfl rfl rfl (by decide), isD (d := d_fallen) ⟨rfl, rfl⟩ rfl rfl rfl (by decide), isD (d := d_table_to) ⟨rfl, rfl⟩ rfl rfl rfl (by decide), isD (d := d_compared) ⟨rfl, rfl⟩ rfl rfl rfl (by decide), isK (d := d_Over___init__) ⟨rfl, rfl⟩ rfl rfl rfl (by decide), isK (d := d_Priced___init__) ⟨rfl, rfl⟩ rfl rfl rfl (by decide), isD (d := d__wall) ⟨rfl, rfl⟩ rfl rfl rfl (by decide), isD (d := d__law_number) ⟨rfl, rfl⟩ rfl rfl rfl (by decide), isD (d := d__law_row) ⟨rfl, rfl⟩ rfl rfl rfl (by decide), isD (d := d__law_many) ⟨rfl, rfl⟩ rfl rfl rfl (by decide), isD (d := d__law_greatest) ⟨rfl, rfl⟩ rfl rfl rfl (by decide), isD (d := d__law_over) ⟨rfl, rfl⟩ rfl rfl rfl (by decide), isD (d := d__law_evened) ⟨rfl, rfl⟩ rfl rfl rfl (by decide), isZ (d := d_Uneven___init__) ⟨rfl, rfl⟩, rfl, trivial⟩
def loose : List PySem.Str := [("_wall" : PySem.Str), ("MixError" : PySem.Str), ("BadRow" : PySem.Str), ("BadPrice" : PySem.Str), ("Unlike" : PySem.Str), ("common" : PySem.Str), ("lowest" : PySem.Str), ("plus" : PySem.Str), ("less" : PySem.Str), ("by_times" : PySem.Str), ("parted" : PySem.Str), ("total" : PySem.Str), ("is_less" : PySem.Str), ("is_whole" : PySem.Str), ("MOST" : PySem.Str), ("asked_row" : PySem.Str), ("falling" : PySem.Str), ("above_of" : PySem.Str), ("above" : PySem.Str), ("squares" : PySem.Str), ("apart" : PySem.Str), ("as_pairs" : PySem.Str), ("behind_of" : PySem.Str), ("by_order" : PySem.Str), ("Answer" : PySem.Str), ("Over" : PySem.Str), ("Uneven" : PySem.Str), ("Priced" : PySem.Str), ("step_of" : PySem.Str), ("step_table" : PySem.Str), ("table_by" : PySem.Str), ("steps_of" : PySem.Str), ("fallen" : PySem.Str), ("table_to" : PySem.Str), ("compared" : PySem.Str), ("_law_number" : PySem.Str), ("_law_row" : PySem.Str), ("_law_many" : PySem.Str), ("_law_greatest" : PySem.Str), ("_law_over" : PySem.Str), ("_law_evened" : PySem.Str)]
theorem okT : ∀ d ∈ T.ds, okD T d = true := by
  have h : (T.ds.all (okD T)) = true := by decide +kernel
  exact fun d hd => List.all_eq_true.mp h d hd
end K05
/-! # K05b: the head -/
namespace K05
open PySem L2 PyProof.Rows Mx
abbrev R : PySem.W.OpenRow := PySem.W.OpenLaw.row PySem.Challenge.rw_mixtables_k05_whole_prices
abbrev hk : PySem.W.Hook := hookX 4 T.fa T.fn T.ex
def ob (s : PySem.W.SharedT) : He.AlD × Bool := obsX 4 T.fa T.fn T.ex (HandSHeadRun.getT s)
theorem ob_eq (s : PySem.W.SharedT) : ob s = hk.obs s.abs := obsX_eq (HandSHeadRun.getT_eq s)
theorem run (w : World) : HandSHeadRun.RunEq R (PySem.W.view R.prog [49]) hk ob 6000 loose w := by
  intro os
  kernel_rfl
end K05
/-! # K05c: the end -/
namespace K05
open PySem L2 PyProof.Rows Mx
theorem bk_d_Over___init__ : BindOk d_Over___init__ := fun _ _ _ _ _ _ us hl => match us, hl with | [_, _], _ => rfl
theorem bk_d_Uneven___init__ : BindOk d_Uneven___init__ := fun _ _ _ _ _ _ us hl => match us, hl with | [], _ => rfl
theorem bk_d_Priced___init__ : BindOk d_Priced___init__ := fun _ _ _ _ _ _ us hl => match us, hl with | [_, _], _ => rfl
theorem bk_d__wall : BindOk d__wall := fun _ _ _ _ _ _ us hl => match us, hl with | [_], _ => rfl
theorem bk_d_common : BindOk d_common := fun _ _ _ _ _ _ us hl => match us, hl with | [_, _], _ => rfl
theorem bk_d_lowest : BindOk d_lowest := fun _ _ _ _ _ _ us hl => match us, hl with | [_, _], _ => rfl
theorem bk_d_plus : BindOk d_plus := fun _ _ _ _ _ _ us hl => match us, hl with | [_, _], _ => rfl
theorem bk_d_less : BindOk d_less := fun _ _ _ _ _ _ us hl => match us, hl with | [_, _], _ => rfl
theorem bk_d_by_times : BindOk d_by_times := fun _ _ _ _ _ _ us hl => match us, hl with | [_, _], _ => rfl
theorem bk_d_parted : BindOk d_parted := fun _ _ _ _ _ _ us hl => match us, hl with | [_, _], _ => rfl
theorem bk_d_total : BindOk d_total := fun _ _ _ _ _ _ us hl => match us, hl with | [_], _ => rfl
theorem bk_d_is_less : BindOk d_is_less := fun _ _ _ _ _ _ us hl => match us, hl with | [_, _], _ => rfl
theorem bk_d_is_whole : BindOk d_is_whole := fun _ _ _ _ _ _ us hl => match us, hl with | [_], _ => rfl
theorem bk_d_asked_row : BindOk d_asked_row := fun _ _ _ _ _ _ us hl => match us, hl with | [_], _ => rfl
theorem bk_d_falling : BindOk d_falling := fun _ _ _ _ _ _ us hl => match us, hl with | [_], _ => rfl
theorem bk_d_above_of : BindOk d_above_of := fun _ _ _ _ _ _ us hl => match us, hl with | [_, _], _ => rfl
theorem bk_d_above : BindOk d_above := fun _ _ _ _ _ _ us hl => match us, hl with | [_, _], _ => rfl
theorem bk_d_squares : BindOk d_squares := fun _ _ _ _ _ _ us hl => match us, hl with | [_], _ => rfl
theorem bk_d_apart : BindOk d_apart := fun _ _ _ _ _ _ us hl => match us, hl with | [_], _ => rfl
theorem bk_d_as_pairs : BindOk d_as_pairs := fun _ _ _ _ _ _ us hl => match us, hl with | [_], _ => rfl
theorem bk_d_behind_of : BindOk d_behind_of := fun _ _ _ _ _ _ us hl => match us, hl with | [_, _], _ => rfl
theorem bk_d_by_order : BindOk d_by_order := fun _ _ _ _ _ _ us hl => match us, hl with | [_], _ => rfl
theorem bk_d_step_of : BindOk d_step_of := fun _ _ _ _ _ _ us hl => match us, hl with | [_, _], _ => rfl
theorem bk_d_step_table : BindOk d_step_table := fun _ _ _ _ _ _ us hl => match us, hl with | [_, _], _ => rfl
theorem bk_d_table_by : BindOk d_table_by := fun _ _ _ _ _ _ us hl => match us, hl with | [_, _], _ => rfl
theorem bk_d_steps_of : BindOk d_steps_of := fun _ _ _ _ _ _ us hl => match us, hl with | [_, _], _ => rfl
theorem bk_d_fallen : BindOk d_fallen := fun _ _ _ _ _ _ us hl => match us, hl with | [_], _ => rfl
theorem bk_d_table_to : BindOk d_table_to := fun _ _ _ _ _ _ us hl => match us, hl with | [_, _], _ => rfl
theorem bk_d_compared : BindOk d_compared := fun _ _ _ _ _ _ us hl => match us, hl with | [_, _], _ => rfl
theorem bk_d__law_number : BindOk d__law_number := fun _ _ _ _ _ _ us hl => match us, hl with | [_, _, _], _ => rfl
theorem bk_d__law_row : BindOk d__law_row := fun _ _ _ _ _ _ us hl => match us, hl with | [_, _, _, _], _ => rfl
theorem bk_d__law_many : BindOk d__law_many := fun _ _ _ _ _ _ us hl => match us, hl with | [_, _, _], _ => rfl
theorem bk_d__law_greatest : BindOk d__law_greatest := fun _ _ _ _ _ _ us hl => match us, hl with | [_], _ => rfl
theorem bk_d__law_over : BindOk d__law_over := fun _ _ _ _ _ _ us hl => match us, hl with | [_, _], _ => rfl
theorem bk_d__law_evened : BindOk d__law_evened := fun _ _ _ _ _ _ us hl => match us, hl with | [_, _, _], _ => rfl
theorem bk_d_law : BindOk d_law := fun _ _ _ _ _ _ us hl => match us, hl with | [_], _ => rfl
theorem bnd : AllB T.ds := ⟨bk_d_common, bk_d_lowest, bk_d_plus, bk_d_less, bk_d_by_times, bk_d_parted, bk_d_total, bk_d_is_less, bk_d_is_whole, bk_d_common, bk_d_asked_row, bk_d_common, bk_d_falling, bk_d_common, bk_d_common, bk_d_above_of, bk_d_above, bk_d_squares, bk_d_apart, bk_d_common, bk_d_common, bk_d_common, bk_d_common, bk_d_as_pairs, bk_d_common, bk_d_behind_of, bk_d_common, bk_d_common, bk_d_by_order, bk_d_common, bk_d_common, bk_d_common, bk_d_common, bk_d_step_of, bk_d_common, bk_d_step_table, bk_d_table_by, bk_d_common, bk_d_common, bk_d_steps_of, bk_d_common, bk_d_fallen, bk_d_table_to, bk_d_compared, bk_d_common, bk_d_common, bk_d_common, bk_d_common, bk_d_common, bk_d_common, bk_d_common, bk_d_common, bk_d_common, bk_d_common, bk_d_common, bk_d_common, bk_d_common, bk_d_common, bk_d_common, bk_d_common, bk_d_common, bk_d_common, bk_d_Over___init__, bk_d_common, bk_d_common, bk_d_Priced___init__, bk_d_common, bk_d_common, bk_d_common, bk_d__wall, bk_d__law_number, bk_d__law_row, bk_d__law_many, bk_d_common, bk_d_common, bk_d_common, bk_d_common, bk_d_common, bk_d_common, bk_d_common, bk_d_common, bk_d_common, bk_d_common, bk_d__law_greatest, bk_d__law_over, bk_d__law_evened, bk_d_common, bk_d_common, bk_d_Uneven___init__, bk_d_common, bk_d_common, bk_d_common, bk_d_common, bk_d_common, bk_d_common, bk_d_common, bk_d_common, bk_d_common, bk_d_common, bk_d_common, bk_d_law, trivial⟩
end K05
section
open PySem PySem.W PySem.Calls PyProof.Rows
theorem K05.fin (hlaw : ∀ ns : List Int, ns.length ≤ 63 → (∀ z ∈ ns, Builtin.Int.intBits z ≤ 1048576) → Mx.callN K05.T 16 100 [.scr ns] = .val (.bl true)) : PySem.Challenge.rw_mixtables_k05_whole_prices.Holds := by
  w_on; o_law
  refine HandSHeadRun.head_any (r := OpenLaw.row PySem.Challenge.rw_mixtables_k05_whole_prices) (q := view (OpenLaw.row PySem.Challenge.rw_mixtables_k05_whole_prices).prog [49]) (H := K05.hk) (ob := K05.ob) (M := 6000) (loose := K05.loose) (d := HandSHeadRun.topDef (OpenLaw.row PySem.Challenge.rw_mixtables_k05_whole_prices).prog 49) (kwd := []) K05.ob_eq
    (by kernel_rfl) (fun s => by kernel_rfl) K05.run (by kernel_rfl) (by kernel_rfl) (by kernel_rfl) (by rfl) (by first | assumption | decide +kernel) (by decide +kernel) ⟨rfl, rfl, rfl, rfl, rfl, by decide +kernel⟩ ?hw ?hc
  case hw => w_witness2
  case hc =>
    refine Mx.law_end (l := PySem.Challenge.rw_mixtables_k05_whole_prices) (n := 63) (k := 16) (x := "_law_script") (T := K05.T) (id := 100) (dd := K05.d_law) rfl (by decide) (by kernel_rfl) ⟨rfl, by decide, by decide⟩ rfl rfl rfl K05.okT ?F hlaw
    intro w mg fa h Y G hmg0
    obtain ⟨K, KX, c, cx⟩ := Y
    have hmg : mg ("law" : PySem.Str) = some (.ref fa) := by
      have e : (HandSHeadRun.topDef (OpenLaw.row PySem.Challenge.rw_mixtables_k05_whole_prices).prog 49).name = ("law" : PySem.Str) := by kernel_rfl
      rw [← e]
      exact hmg0
    have hd := Mx.hd_of KX G c cx (by decide +kernel) K05.bnd
    obtain ⟨fd, F⟩ := Mx.SaysD.def_mem c (d := ⟨(K05.d_law.name, none), K05.d_law.name, K05.d_law.name, L2.defArgs K05.d_law.st, L2.defBody K05.d_law.st, L2.defScope K05.d_law.st, [], []⟩) (List.mem_filterMap.mpr ⟨K05.d_law, List.mem_of_getElem? (i := 100) rfl, rfl⟩)
    have b := L2.FunD.bindsA (ps := ["_law_script"]) F (K05.bnd.mem K05.d_law (List.mem_of_getElem? (i := 100) rfl))
    have e := hmg.symm.trans (hd.defs 100 K05.d_law rfl rfl).1
    exact ⟨K, fd, K05.T.pl K, KX, fun s v => b s [v] rfl, hd, by cases e; rfl, F⟩
end
/-! # K05d: one pair of rows -/
namespace K05
open PySem L2 Mx
/-- the inner loop's body -/
def fbd : S → List S
  | .forS _ _ b => b
  | _ => []
def inB : List S := fbd ((fbd (d_law.ir.getD 1 .pas)).getD 5 .pas)
theorem inner {r v : List Int} {o0 o1 o2 o3 o4 o6 : Option W} (h1 : 1 ≤ r.length) (h6 : r.length ≤ 6) (hl : r.length = v.length) (hs : r.sum = v.sum) (hr : ∀ x ∈ r, x.natAbs ≤ 5000) (hv : ∀ x ∈ v, x.natAbs ≤ 5000) :
    exL (callN T 15) T.cs inB [o0, o1, o2, o3, o4, some (Li r), o6, some (Li v), none, none, none, none, none, none, none, none, none] = .nx [o0, o1, o2, o3, o4, some (Li r), o6, some (Li v), none, none, none, none, none, none, none, none, none] := by
  have cmp : ∀ {a b : List Int}, 1 ≤ a.length → a.length ≤ 6 → a.length = b.length → (∀ x ∈ a, x.natAbs ≤ 5000) → (∀ x ∈ b, x.natAbs ≤ 5000) → ∃ c ws, callN T 15 43 [Li a, Li b] = .val (.ins c ws) ∧ [(51, true), (52, false), (53, false)].lookup c = some (ovB a b) := fun {a b} h1 h6 hl ha hb => by
    rcases c_compared (T := T) (k := 15) (hasT.sub _ (by decide)) (by omega) h1 h6 hl ha hb (by decide) with ⟨e, l, _, _, _, q⟩ | ⟨e, _, q⟩ | ⟨e, _, p, _, _, q⟩
    · exact ⟨_, _, q, by rw [e]; rfl⟩
    · exact ⟨_, _, q, by rw [e]; rfl⟩
    · exact ⟨_, _, q, by rw [e]; rfl⟩
  obtain ⟨c1, w1, e1, f1⟩ := cmp h1 h6 hl hr hv
  obtain ⟨c2, w2, e2, f2⟩ := cmp (by omega) (by omega) hl.symm hv hr
  have ar := fun p => c_above (T := T) (n := 15) (ns := r) (hasT.sub _ (by decide)) (by omega) h1 h6 p
  have av := fun p => c_above (T := T) (n := 15) (ns := v) (hasT.sub _ (by decide)) (by omega) (by omega) (by omega) p
  simp only [inB, fbd, d_law, List.getD_cons_zero, List.getD_cons_succ]
  have hL : r.length + v.length ≤ LIM := by show _ ≤ 100000; omega
  have fl1 : W.isFlats (List.map W.int r ++ List.map W.int v) = true := by rw [← List.map_append]; exact isFlats_ints _
  have in1 : W.ints (List.map W.int r ++ List.map W.int v) = some (r ++ v) := by rw [← List.map_append]; exact ints_map _
  obtain ⟨lo, mn, lo1, lo2⟩ := minI_in (l := r ++ v) (fun z => by have := congrArg List.length z; rw [List.length_append, List.length_nil] at this; omega)
  obtain ⟨hi, mx, hi1, hi2⟩ := maxI_in (l := r ++ v) (fun z => by have := congrArg List.length z; rw [List.length_append, List.length_nil] at this; omega)
  have bd : ∀ x ∈ r ++ v, x.natAbs ≤ 5000 := fun x hx => (List.mem_append.mp hx).elim (hr x) (hv x)
  have blo := bd lo lo1
  have bhi := bd hi hi1
  have hlh := lo2 hi hi1
  have d12 : divOk 12 = true := by decide
  simp [e_var, ev_cst, e_gci, ev_op, ev_tup, ev_lst, ev_call, ev_and, ev_or, e_not, e_ifx, e_and1, e_and2, e_or1, e_or2, e_chain, e_chain3, e_comp, evs_nil, es_cons, e_flat, i_lst, i_rng1, i_rng2, i_zip, i_enum, s_asg, s_app, s_ifs, s_ret, s_retV, s_exp, s_rai, s_pas, s_brk, s_asgT, s_unp, s_setT, s_appK, exL_nil, exL_kil, exL_frz, opS, addS, subS, mulS, fdivS, modS, powS, negS, eqS, neS, ltS, leS, gtS, geS, lenS, sumS, absS, max1S, min1S, max2S, min2S, all1S, any1S, int1S, isiS, isiT, isNS, notNS, isBS, notBS, W.isNon, ixS_lst, ixS_tup, catS, repS, slcAS, slcBS, revS, sortedS, listS, rngLS, flIf, startW, ints_map, bls_map, eqW_Li, neW_Li, eqW_int, neW_int, W.isFlat, W.isFlats, wipeW, tgS, setAll, stosW_nil, stosW_cons, stoW_1, stoW_2, isinS, notinS, fldS, iscS, indexS, sortedPS, rng3S, e1, f1, hL, fl1, in1, mn, mx, d12]
  have hst : 0 < 1 + (hi + 1 - (lo - 1)) / 12 ∧ 1 + (hi + 1 - (lo - 1)) / 12 ≤ 1000000 := by omega
  generalize 1 + (hi + 1 - (lo - 1)) / 12 = st at hst
  have hrg : rgN (lo - 1) (hi + 1) st ≤ 20000 := by
    unfold rgN
    rw [if_pos (by omega)]
    have : (hi + 1 - (lo - 1) - 1) / st ≤ hi + 1 - (lo - 1) - 1 := Int.ediv_le_self _ (by omega)
    omega
  rw [if_pos ⟨hst, by omega, by omega, by show _ ≤ 100000; omega⟩]
  obtain ⟨g, eg, gl⟩ : ∃ g : List Int, (List.range (rgN (lo - 1) (hi + 1) st)).map (fun (k : Nat) => W.int (lo - 1 + k * st)) = g.map W.int ∧ g.length ≤ 20000 := ⟨(List.range (rgN (lo - 1) (hi + 1) st)).map fun (k : Nat) => lo - 1 + k * st, by rw [List.map_map]; rfl, by simpa using hrg⟩
  rw [eg]
  have hL2 : g.length + r.length ≤ LIM := by show _ ≤ 100000; omega
  have hL3 : g.length + (r.length + v.length) ≤ LIM := by show _ ≤ 100000; omega
  have hL4 : g.length + r.length + v.length ≤ LIM := by show _ ≤ 100000; omega
  have fl2 : W.isFlats (List.map W.int g ++ List.map W.int r) = true := by rw [← List.map_append]; exact isFlats_ints _
  have fl3 : W.isFlats (List.map W.int g ++ (List.map W.int r ++ List.map W.int v)) = true := by rw [← List.map_append, ← List.map_append]; exact isFlats_ints _
  have few : (r.map fun p => decide (abv v p ≤ abv r p)).all id = ovB r v := by
    cases q : ovB r v with
    | true => exact all_true fun p _ => by simpa using ov_abv hl q p
    | false =>
      cases q2 : (r.map fun p => decide (abv v p ≤ abv r p)).all id with
      | false => rfl
      | true =>
        simp at q2
        rw [ov_price hl hs q2] at q
        cases q
  have e84 := c_law_over (T := T) (n := 15) (a := r) (b := v) (hasT.sub _ (by decide)) (by omega) (by omega) (by omega)
  have sqr := c_squares (T := T) (n := 15) (ns := r) (hasT.sub _ (by decide)) (by omega) h1 h6 fun x hx => by have := hr x hx; omega
  have sqv := c_squares (T := T) (n := 15) (ns := v) (hasT.sub _ (by decide)) (by omega) (by omega) (by omega) fun x hx => by have := hv x hx; omega
  have apr := c_apart (T := T) (n := 15) (ns := r) (hasT.sub _ (by decide)) (by omega) h1 h6
  have apv := c_apart (T := T) (n := 15) (ns := v) (hasT.sub _ (by decide)) (by omega) (by omega) (by omega)
  simp [e_var, ev_cst, e_gci, ev_op, ev_tup, ev_lst, ev_call, ev_and, ev_or, e_not, e_ifx, e_and1, e_and2, e_or1, e_or2, e_chain, e_chain3, e_comp, evs_nil, es_cons, e_flat, i_lst, i_rng1, i_rng2, i_zip, i_enum, s_asg, s_app, s_ifs, s_ret, s_retV, s_exp, s_rai, s_pas, s_brk, s_asgT, s_unp, s_setT, s_appK, exL_nil, exL_kil, exL_frz, opS, addS, subS, mulS, fdivS, modS, powS, negS, eqS, neS, ltS, leS, gtS, geS, lenS, sumS, absS, max1S, min1S, max2S, min2S, all1S, any1S, int1S, isiS, isiT, isNS, notNS, isBS, notBS, W.isNon, ixS_lst, ixS_tup, catS, repS, slcAS, slcBS, revS, sortedS, listS, rngLS, flIf, startW, ints_map, bls_map, eqW_Li, neW_Li, eqW_int, neW_int, W.isFlat, W.isFlats, wipeW, tgS, setAll, stosW_nil, stosW_cons, stoW_1, stoW_2, isinS, notinS, fldS, iscS, indexS, sortedPS, rng3S, hL2, hL3, hL4, fl2, fl3]
  rw [show List.map W.int g ++ (List.map W.int r ++ List.map W.int v) = (g ++ (r ++ v)).map W.int by rw [List.map_append, List.map_append]]
  generalize g ++ (r ++ v) = G
  have allof : ovB r v = true → (G.map fun p => decide (abv v p ≤ abv r p)).all id = true := fun q => all_true fun p _ => by simpa using ov_abv hl q p
  generalize eA : (G.map fun p => decide (abv v p ≤ abv r p)).all id = A at allof
  have bA : W.bls (G.map fun p => W.bl (decide (abv v p ≤ abv r p))) = some (G.map fun p => decide (abv v p ≤ abv r p)) := by
    have := bls_map (G.map fun p => decide (abv v p ≤ abv r p))
    rw [List.map_map] at this
    exact this
  have bF : W.bls (r.map fun p => W.bl (decide (abv v p ≤ abv r p))) = some (r.map fun p => decide (abv v p ≤ abv r p)) := by
    have := bls_map (r.map fun p => decide (abv v p ≤ abv r p))
    rw [List.map_map] at this
    exact this
  simp [e_var, ev_cst, e_gci, ev_op, ev_tup, ev_lst, ev_call, ev_and, ev_or, e_not, e_ifx, e_and1, e_and2, e_or1, e_or2, e_chain, e_chain3, e_comp, evs_nil, es_cons, e_flat, i_lst, i_rng1, i_rng2, i_zip, i_enum, s_asg, s_app, s_ifs, s_ret, s_retV, s_exp, s_rai, s_pas, s_brk, s_asgT, s_unp, s_setT, s_appK, exL_nil, exL_kil, exL_frz, opS, addS, subS, mulS, fdivS, modS, powS, negS, eqS, neS, ltS, leS, gtS, geS, lenS, sumS, absS, max1S, min1S, max2S, min2S, all1S, any1S, int1S, isiS, isiT, isNS, notNS, isBS, notBS, W.isNon, ixS_lst, ixS_tup, catS, repS, slcAS, slcBS, revS, sortedS, listS, rngLS, flIf, startW, ints_map, bls_map, eqW_Li, neW_Li, eqW_int, neW_int, W.isFlat, W.isFlats, wipeW, tgS, setAll, stosW_nil, stosW_cons, stoW_1, stoW_2, isinS, notinS, fldS, iscS, indexS, sortedPS, rng3S, ar, av, bA, bF]
  have few' : (r.all fun p => decide (abv v p ≤ abv r p)) = ovB r v := by rw [← few]; simp
  have all' : ovB r v = true → (G.all fun p => decide (abv v p ≤ abv r p)) = true := fun q => by
    have := all_true (l := G) (p := fun p => decide (abv v p ≤ abv r p)) fun p _ => by simpa using ov_abv hl q p
    simpa using this
  rw [few']
  have ntt : neW (.bl true) (.bl true) = .val (.bl false) := by kernel_rfl
  have nff : neW (.bl false) (.bl false) = .val (.bl false) := by kernel_rfl
  have both := ov_both hl
  cases q : ovB r v with
  | true =>
    rw [all' q]
    have s1 := sq_le hl q
    have s2 := apt_le hl q
    have s1' : ¬ ((r.map fun x => x * x).sum < (v.map fun x => x * x).sum) := Int.not_lt.mpr s1.1
    have s2' : ¬ (apt r < apt v) := Int.not_lt.mpr s2
    rw [q] at e84
    cases q2 : ovB v r with
    | true =>
      rw [q2] at f2
      have es := both.mp ⟨q, q2⟩
      simp [e_var, ev_cst, e_gci, ev_op, ev_tup, ev_lst, ev_call, ev_and, ev_or, e_not, e_ifx, e_and1, e_and2, e_or1, e_or2, e_chain, e_chain3, e_comp, evs_nil, es_cons, e_flat, i_lst, i_rng1, i_rng2, i_zip, i_enum, s_asg, s_app, s_ifs, s_ret, s_retV, s_exp, s_rai, s_pas, s_brk, s_asgT, s_unp, s_setT, s_appK, exL_nil, exL_kil, exL_frz, opS, addS, subS, mulS, fdivS, modS, powS, negS, eqS, neS, ltS, leS, gtS, geS, lenS, sumS, absS, max1S, min1S, max2S, min2S, all1S, any1S, int1S, isiS, isiT, isNS, notNS, isBS, notBS, W.isNon, ixS_lst, ixS_tup, catS, repS, slcAS, slcBS, revS, sortedS, listS, rngLS, flIf, startW, ints_map, bls_map, eqW_Li, neW_Li, eqW_int, neW_int, W.isFlat, W.isFlats, wipeW, tgS, setAll, stosW_nil, stosW_cons, stoW_1, stoW_2, isinS, notinS, fldS, iscS, indexS, sortedPS, rng3S, ntt, nff, e84, sqr, sqv, apr, apv, s1', s2', e2, f2, es]
    | false =>
      rw [q2] at f2
      have es : ¬ (sortI r = sortI v) := fun z => by
        have := (both.mpr z).2
        rw [q2] at this
        cases this
      have s3 : ¬ ((r.map fun x => x * x).sum ≤ (v.map fun x => x * x).sum) := Int.not_le.mpr (s1.2 q2)
      simp [e_var, ev_cst, e_gci, ev_op, ev_tup, ev_lst, ev_call, ev_and, ev_or, e_not, e_ifx, e_and1, e_and2, e_or1, e_or2, e_chain, e_chain3, e_comp, evs_nil, es_cons, e_flat, i_lst, i_rng1, i_rng2, i_zip, i_enum, s_asg, s_app, s_ifs, s_ret, s_retV, s_exp, s_rai, s_pas, s_brk, s_asgT, s_unp, s_setT, s_appK, exL_nil, exL_kil, exL_frz, opS, addS, subS, mulS, fdivS, modS, powS, negS, eqS, neS, ltS, leS, gtS, geS, lenS, sumS, absS, max1S, min1S, max2S, min2S, all1S, any1S, int1S, isiS, isiT, isNS, notNS, isBS, notBS, W.isNon, ixS_lst, ixS_tup, catS, repS, slcAS, slcBS, revS, sortedS, listS, rngLS, flIf, startW, ints_map, bls_map, eqW_Li, neW_Li, eqW_int, neW_int, W.isFlat, W.isFlats, wipeW, tgS, setAll, stosW_nil, stosW_cons, stoW_1, stoW_2, isinS, notinS, fldS, iscS, indexS, sortedPS, rng3S, ntt, nff, e84, sqr, sqv, apr, apv, s1', s2', e2, f2, es, s3]
  | false =>
    rw [q] at e84
    have es : ¬ (sortI r = sortI v) := fun z => by
      have := (both.mpr z).1
      rw [q] at this
      cases this
    simp [e_var, ev_cst, e_gci, ev_op, ev_tup, ev_lst, ev_call, ev_and, ev_or, e_not, e_ifx, e_and1, e_and2, e_or1, e_or2, e_chain, e_chain3, e_comp, evs_nil, es_cons, e_flat, i_lst, i_rng1, i_rng2, i_zip, i_enum, s_asg, s_app, s_ifs, s_ret, s_retV, s_exp, s_rai, s_pas, s_brk, s_asgT, s_unp, s_setT, s_appK, exL_nil, exL_kil, exL_frz, opS, addS, subS, mulS, fdivS, modS, powS, negS, eqS, neS, ltS, leS, gtS, geS, lenS, sumS, absS, max1S, min1S, max2S, min2S, all1S, any1S, int1S, isiS, isiT, isNS, notNS, isBS, notBS, W.isNon, ixS_lst, ixS_tup, catS, repS, slcAS, slcBS, revS, sortedS, listS, rngLS, flIf, startW, ints_map, bls_map, eqW_Li, neW_Li, eqW_int, neW_int, W.isFlat, W.isFlats, wipeW, tgS, setAll, stosW_nil, stosW_cons, stoW_1, stoW_2, isinS, notinS, fldS, iscS, indexS, sortedPS, rng3S, ntt, nff, e84, es]
end K05
/-! # K05e: the law -/
namespace K05
open PySem L2 Mx
theorem sum_bd : ∀ {l : List Int} {B : Nat}, (∀ x ∈ l, x.natAbs ≤ B) → l.sum.natAbs ≤ l.length * B
  | [], _, _ => by simp
  | x :: l, B, h => by
    have h1 := h x List.mem_cons_self
    have h2 := sum_bd (l := l) fun y hy => h y (List.mem_cons_of_mem _ hy)
    rw [List.sum_cons, List.length_cons, Nat.add_mul]
    omega
theorem law_ok (ns : List Int) (hl : ns.length ≤ 63) (hb : ∀ z ∈ ns, Builtin.Int.intBits z ≤ 1048576) : callN T 16 100 [.scr ns] = .val (.bl true) := by
  refine callN_rt (d := d_law) ⟨rfl, rfl⟩ rfl ?_
  show exL (callN T 15) T.cs d_law.ir [some (.scr ns), none, none, none, none, none, none, none, none, none, none, none, none, none, none, none, none] = _
  have c1 : callN T 15 16 [.lst [.int 3, .int 3, .int 0], .int 3] = .val (.int 0) := by kernel_rfl
  have c2 : callN T 15 16 [.lst [.int 4, .int 1, .int 1], .int 3] = .val (.int 1) := by kernel_rfl
  have c3 : callN T 15 16 [.lst [.int 1, .int 1], .int 1] = .val (.int 0) := by kernel_rfl
  have c4 : callN T 15 16 [.lst [.int 0, .int 2], .int 1] = .val (.int 1) := by kernel_rfl
  have ei : d_law.ir = [.asg 1 (.flat) (.op .abs [.op .sum [.op (.slcB true) [.var 0, .cst (.int 63)]]]), d_law.ir.getD 1 .pas, d_law.ir.getD 2 .pas] := rfl
  have eb : fbd (d_law.ir.getD 1 .pas) = (fbd (d_law.ir.getD 1 .pas)).take 5 ++ [.forS (.nm 7) (.lst (.lst [.var 6, .call 85 [.var 0, .flat (.var 2), .var 5], .op (.rev true) [.var 5]])) inB] ++ (fbd (d_law.ir.getD 1 .pas)).drop 6 := rfl
  generalize hI : inB = I at *
  have hin := @inner
  rw [hI] at hin
  have ef : d_law.ir.getD 1 .pas = .forS (.tp [2, 3]) (.lst (.lst [.tup [.cst (.int 0), .cst (.int 6)], .tup [.cst (.int 1), .cst (.int 25)], .tup [.cst (.int 3), .cst (.int 40)]])) (fbd (d_law.ir.getD 1 .pas)) := rfl
  rw [ei, ef, eb]
  have e63 : ns.take 63 = ns := List.take_of_length_le hl
  have aw : ∃ wh : Int, 0 ≤ wh ∧ (if ns.sum < 0 then -ns.sum else ns.sum) = wh := ⟨_, by split <;> omega, rfl⟩
  obtain ⟨wh, wh0, ewh⟩ := aw
  simp [e_var, ev_cst, e_gci, ev_op, ev_tup, ev_lst, ev_call, ev_and, ev_or, e_not, e_ifx, e_and1, e_and2, e_or1, e_or2, e_chain, e_chain3, e_comp, evs_nil, es_cons, e_flat, i_lst, i_rng1, i_rng2, i_zip, i_enum, s_asg, s_app, s_ifs, s_ret, s_retV, s_exp, s_rai, s_pas, s_brk, s_asgT, s_unp, s_setT, s_appK, exL_nil, exL_kil, exL_frz, opS, addS, subS, mulS, fdivS, modS, powS, negS, eqS, neS, ltS, leS, gtS, geS, lenS, sumS, absS, max1S, min1S, max2S, min2S, all1S, any1S, int1S, isiS, isiT, isNS, notNS, isBS, notBS, W.isNon, ixS_lst, ixS_tup, catS, repS, slcAS, slcBS, revS, sortedS, listS, rngLS, flIf, startW, ints_map, bls_map, eqW_Li, neW_Li, eqW_int, neW_int, W.isFlat, W.isFlats, wipeW, tgS, setAll, stosW_nil, stosW_cons, stoW_1, stoW_2, isinS, notinS, fldS, iscS, indexS, sortedPS, rng3S, cut63, take63 hl, ewh]
  simp only [d_law, fbd, List.getD_cons_zero, List.getD_cons_succ, List.take_succ_cons, List.take_zero, List.drop_succ_cons, List.drop_zero, List.cons_append, List.nil_append]
  refine loop2C (i := 2) (j := 3) (fun r => r = _) [((0 : Nat), (6 : Int)), (1, 25), (3, 40)] (fun p => W.int (p.1 : Nat)) (fun p => W.int p.2) (fun _ : Unit => [some (.scr ns), some (.int wh), none, none, none, none, none, none, none, none, none, none, none, none, none, none, none]) (fun _ _ => True) () (by decide) ?_ rfl trivial ?_ (fun _ => rfl) ?_
  · simp [e_var, ev_cst, e_gci, ev_op, ev_tup, ev_lst, ev_call, ev_and, ev_or, e_not, e_ifx, e_and1, e_and2, e_or1, e_or2, e_chain, e_chain3, e_comp, evs_nil, es_cons, e_flat, i_lst, i_rng1, i_rng2, i_zip, i_enum, s_asg, s_app, s_ifs, s_ret, s_retV, s_exp, s_rai, s_pas, s_brk, s_asgT, s_unp, s_setT, s_appK, exL_nil, exL_kil, exL_frz, opS, addS, subS, mulS, fdivS, modS, powS, negS, eqS, neS, ltS, leS, gtS, geS, lenS, sumS, absS, max1S, min1S, max2S, min2S, all1S, any1S, int1S, isiS, isiT, isNS, notNS, isBS, notBS, W.isNon, ixS_lst, ixS_tup, catS, repS, slcAS, slcBS, revS, sortedS, listS, rngLS, flIf, startW, ints_map, bls_map, eqW_Li, neW_Li, eqW_int, neW_int, W.isFlat, W.isFlats, wipeW, tgS, setAll, stosW_nil, stosW_cons, stoW_1, stoW_2, isinS, notinS, fldS, iscS, indexS, sortedPS, rng3S]
  · intro pre x post _ e _
    obtain ⟨b, wd⟩ := x
    have hx : (b, wd) ∈ [((0 : Nat), (6 : Int)), (1, 25), (3, 40)] := by rw [e]; simp
    have hb8 : b ≤ 3 := by simp at hx; omega
    have hw : 0 < wd ∧ wd ≤ 40 := by simp at hx; omega
    have hw2 : wd.natAbs < 2 ^ 150 := by omega
    obtain ⟨m, m1, m6, em⟩ := c_many (T := T) (n := 15) (hasT.sub _ (by decide)) (by omega) ns hl b (k := 6) (by decide)
    obtain ⟨r, er, rl, rb⟩ := c_rowB (T := T) (n := 15) (hasT.sub _ (by decide)) (by omega) hl hb (b := b) (m := m) (by omega) m6 hw.1 hw2
    obtain ⟨s, es, sl, sb⟩ := c_rowB (T := T) (n := 15) (hasT.sub _ (by decide)) (by omega) hl hb (b := b + 2) (m := m) (by omega) m6 hw.1 hw2
    have rb6 : ∀ x ∈ r, x.natAbs < 2 ^ 6 := fun x hx => by have := rb x hx; omega
    obtain ⟨u, eu, un, ub⟩ := c_evened (T := T) (n := 15) (hasT.sub _ (by decide)) (by omega) hl hb (b := b) (r := r) (by omega) (by omega) (by omega) rb6
    rw [show ((b + 2 : Nat) : Int) = (b : Int) + 2 by omega] at es
    have em' : callN T 15 72 [.scr ns, .int b, .int 6] = .val (.int m) := em
    obtain ⟨s0, s', rfl⟩ : ∃ s0 s', s = s0 :: s' := by
      cases s with
      | nil => simp at sl; omega
      | cons s0 s' => exact ⟨s0, s', rfl⟩
    have a0 : ∀ x : W, ∀ l : List W, atI (x :: l) 0 = some x := fun x l => by
      have := at_nat (xs := x :: l) (k := 0) (by simp)
      simpa using this
    have i0 : ∀ n : Nat, ixN (n + 1) 0 = some 0 := fun n => by simp [ixN]
    have hi : W.ints (W.int s0 :: s'.map W.int) = some (s0 :: s') := ints_map (s0 :: s')
    simp [e_var, ev_cst, e_gci, ev_op, ev_tup, ev_lst, ev_call, ev_and, ev_or, e_not, e_ifx, e_and1, e_and2, e_or1, e_or2, e_chain, e_chain3, e_comp, evs_nil, es_cons, e_flat, i_lst, i_rng1, i_rng2, i_zip, i_enum, s_asg, s_app, s_ifs, s_ret, s_retV, s_exp, s_rai, s_pas, s_brk, s_asgT, s_unp, s_setT, s_appK, exL_nil, exL_kil, exL_frz, opS, addS, subS, mulS, fdivS, modS, powS, negS, eqS, neS, ltS, leS, gtS, geS, lenS, sumS, absS, max1S, min1S, max2S, min2S, all1S, any1S, int1S, isiS, isiT, isNS, notNS, isBS, notBS, W.isNon, ixS_lst, ixS_tup, catS, repS, slcAS, slcBS, revS, sortedS, listS, rngLS, flIf, startW, ints_map, bls_map, eqW_Li, neW_Li, eqW_int, neW_int, W.isFlat, W.isFlats, wipeW, tgS, setAll, stosW_nil, stosW_cons, stoW_1, stoW_2, isinS, notinS, fldS, iscS, indexS, sortedPS, rng3S, em', er, es, flats_ints, a0, i0, eu, hi]
    generalize ht : s0 + r.sum - (s0 + s'.sum) = t
    have tsum : r.sum = (t :: s').sum := by simp; omega
    have tl : r.length = (t :: s').length := by simp at sl ⊢; omega
    have rb' : ∀ x ∈ r, x.natAbs ≤ 5000 := fun x hx => by have := rb x hx; omega
    have tb : ∀ x ∈ t :: s', x.natAbs ≤ 5000 := by
      have q1 := sum_bd (l := r) (B := 47) fun x hx => by have := rb x hx; omega
      have q2 := sum_bd (l := s') (B := 47) fun x hx => by have := sb x (by simp [hx]); omega
      intro x hx
      rcases List.mem_cons.mp hx with rfl | hx
      · simp at sl
        omega
      · have := sb x (by simp [hx]); omega
    have us : r.sum = u.sum := ((ovB_iff un.1.symm).mp un.ov).1
    refine loop1C (i := 7) (GoTo2 _ _ _ _) [t :: s', u, r.reverse] (fun p => Li p) (fun _ : Unit => [some (.scr ns), some (.int wh), some (.int b), some (.int wd), some (.int m), some (Li r), some (Li (t :: s')), none, none, none, none, none, none, none, none, none, none]) (fun _ _ => True) () ?_ ?_ trivial ?_ (fun _ => rfl) ?_
    · simp [e_var, ev_cst, e_gci, ev_op, ev_tup, ev_lst, ev_call, ev_and, ev_or, e_not, e_ifx, e_and1, e_and2, e_or1, e_or2, e_chain, e_chain3, e_comp, evs_nil, es_cons, e_flat, i_lst, i_rng1, i_rng2, i_zip, i_enum, s_asg, s_app, s_ifs, s_ret, s_retV, s_exp, s_rai, s_pas, s_brk, s_asgT, s_unp, s_setT, s_appK, exL_nil, exL_kil, exL_frz, opS, addS, subS, mulS, fdivS, modS, powS, negS, eqS, neS, ltS, leS, gtS, geS, lenS, sumS, absS, max1S, min1S, max2S, min2S, all1S, any1S, int1S, isiS, isiT, isNS, notNS, isBS, notBS, W.isNon, ixS_lst, ixS_tup, catS, repS, slcAS, slcBS, revS, sortedS, listS, rngLS, flIf, startW, ints_map, bls_map, eqW_Li, neW_Li, eqW_int, neW_int, W.isFlat, W.isFlats, wipeW, tgS, setAll, stosW_nil, stosW_cons, stoW_1, stoW_2, isinS, notinS, fldS, iscS, indexS, sortedPS, rng3S, flats_ints, eu]
    · rfl
    · intro pre x post _ e2 _
      have hx : x ∈ [t :: s', u, r.reverse] := by rw [e2]; simp
      refine ⟨(), some (Li x), ?_, trivial⟩
      simp only [List.mem_cons, List.not_mem_nil, or_false] at hx
      rcases hx with rfl | rfl | rfl
      · exact hin (by omega) (by omega) tl tsum rb' tb
      · exact hin (by omega) (by omega) un.1.symm us rb' (fun x hx => by have := ub x hx; omega)
      · exact hin (by omega) (by omega) (by simp) (by simp) rb' (fun x hx => rb' x (by simpa using hx))
    · intro _ o _
      refine ⟨(), some (.int b), some (.int wd), ?_, trivial⟩
      simp [e_var, ev_cst, e_gci, ev_op, ev_tup, ev_lst, ev_call, ev_and, ev_or, e_not, e_ifx, e_and1, e_and2, e_or1, e_or2, e_chain, e_chain3, e_comp, evs_nil, es_cons, e_flat, i_lst, i_rng1, i_rng2, i_zip, i_enum, s_asg, s_app, s_ifs, s_ret, s_retV, s_exp, s_rai, s_pas, s_brk, s_asgT, s_unp, s_setT, s_appK, exL_nil, exL_kil, exL_frz, opS, addS, subS, mulS, fdivS, modS, powS, negS, eqS, neS, ltS, leS, gtS, geS, lenS, sumS, absS, max1S, min1S, max2S, min2S, all1S, any1S, int1S, isiS, isiT, isNS, notNS, isBS, notBS, W.isNon, ixS_lst, ixS_tup, catS, repS, slcAS, slcBS, revS, sortedS, listS, rngLS, flIf, startW, ints_map, bls_map, eqW_Li, neW_Li, eqW_int, neW_int, W.isFlat, W.isFlats, wipeW, tgS, setAll, stosW_nil, stosW_cons, stoW_1, stoW_2, isinS, notinS, fldS, iscS, indexS, sortedPS, rng3S]
  · intro _ o p _
    simp [e_var, ev_cst, e_gci, ev_op, ev_tup, ev_lst, ev_call, ev_and, ev_or, e_not, e_ifx, e_and1, e_and2, e_or1, e_or2, e_chain, e_chain3, e_comp, evs_nil, es_cons, e_flat, i_lst, i_rng1, i_rng2, i_zip, i_enum, s_asg, s_app, s_ifs, s_ret, s_retV, s_exp, s_rai, s_pas, s_brk, s_asgT, s_unp, s_setT, s_appK, exL_nil, exL_kil, exL_frz, opS, addS, subS, mulS, fdivS, modS, powS, negS, eqS, neS, ltS, leS, gtS, geS, lenS, sumS, absS, max1S, min1S, max2S, min2S, all1S, any1S, int1S, isiS, isiT, isNS, notNS, isBS, notBS, W.isNon, ixS_lst, ixS_tup, catS, repS, slcAS, slcBS, revS, sortedS, listS, rngLS, flIf, startW, ints_map, bls_map, eqW_Li, neW_Li, eqW_int, neW_int, W.isFlat, W.isFlats, wipeW, tgS, setAll, stosW_nil, stosW_cons, stoW_1, stoW_2, isinS, notinS, fldS, iscS, indexS, sortedPS, rng3S, c1, c2, c3, c4, wh0]
end K05
theorem PySem.Challenge.cw_mixtables_k05_whole_prices_holds : PySem.Challenge.rw_mixtables_k05_whole_prices.Holds :=
  K05.fin fun ns h1 h2 => K05.law_ok ns h1 h2
