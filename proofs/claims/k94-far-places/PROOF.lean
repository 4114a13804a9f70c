import PyProof.Rows.All
import Wide.All
import OpenK.AllK
import Wide.FinOn
import HandS.ForMost
import HandS.Flow
import HandS.Replace
import HandS.Wide
import HandS.Text
import HandS.TupMul
import HandS.TupAny
import HandS.Flt
import HandS.IsInst
import HandS.ForExc
import PyProof.LongRange
import HandS.Iter
import HandS.Head0
import HandS.Head1
import HandS.Head2
import HandS.HeadEnd
import HandS.HeadHook1
import HandS.HeadHook2
import HandS.HeadHook3
import HandS.Defaults
import HandS.Dict
import PyProof.StrOps2
import HandS.MakeKwOnly
import HandS.ExcInit
import KE.KExcSuper
import HandS.ExcField
import HandS.TryMany
import PyProof.StrReplace2
import HandS.Head3
import HandS.HeadWalk
import HandS.GenOver
import HandS.GenList
import HandS.GenCall
import PyProof.GenRules
import PyProof.GenComp
import HandS.Words
import HandS.Codes
import PySem.Challenge.RW_followon_k94_whole_far_places
set_option Elab.async false
set_option linter.all false
section
set_option Elab.async false
set_option linter.all false
namespace VE
open PySem

inductive W where
  | non | bl (b : Bool) | int (i : Int) | str (x : Str) | tup (xs : List W) | ref (i : Nat) | kl (ns : List Int)
instance : Inhabited W := ⟨.non⟩
inductive EO where
  | lst (xs : List W) | ro (xs : List W) | ins (c : Nat) (fs : List (Nat × W))
abbrev He := List EO
abbrev Sg := List (Option W)

inductive Rs (α : Type) where
  | ok (a : α) (h : He) | ex (c : Nat) (fs : List (Nat × W)) (h : He) | bad
namespace Rs
variable {α β : Type}
def bind (r : Rs α) (f : α → He → Rs β) : Rs β := match r with
  | .ok a h => f a h
  | .ex c fs h => .ex c fs h
  | .bad => .bad
def noEx (r : Rs α) : Rs α := match r with
  | .ok a h => .ok a h
  | _ => .bad
def lift (o : Option α) (h : He) : Rs α := match o with
  | some a => .ok a h
  | none => .bad
@[simp] theorem bind_ok (a : α) (h : He) (f : α → He → Rs β) : (Rs.ok a h).bind f = f a h := rfl
@[simp] theorem bind_ex (c : Nat) (fs : List (Nat × W)) (h : He) (f : α → He → Rs β) : (Rs.ex c fs h : Rs α).bind f = .ex c fs h := rfl
@[simp] theorem bind_bad (f : α → He → Rs β) : (Rs.bad : Rs α).bind f = .bad := rfl
@[simp] theorem noEx_ok (a : α) (h : He) : (Rs.ok a h).noEx = .ok a h := rfl
@[simp] theorem lift_some (a : α) (h : He) : Rs.lift (some a) h = .ok a h := rfl
theorem bind_assoc {γ : Type} (r : Rs α) (f : α → He → Rs β) (g : β → He → Rs γ) : (r.bind f).bind g = r.bind fun a h => (f a h).bind g := by cases r <;> rfl
end Rs

abbrev E := Sg → He → Rs W
abbrev ES := Sg → He → Rs (List W)
abbrev T := Sg → He → Rs Bool
abbrev G := W → Sg → He → Rs Sg
abbrev GS := List W → Sg → He → Rs Sg
abbrev F := List W → He → Rs W
inductive Fl where
  | nx (σ : Sg) | rt (w : W) | bk (σ : Sg) | ct (σ : Sg)
abbrev S := Sg → He → Rs Fl

def lstOf (h : He) : W → Option (List W)
  | .ref i => match h[i]? with
    | some (.lst xs) => some xs
    | some (.ro xs) => some xs
    | _ => none
  | .kl ns => some (ns.map .int)
  | _ => none
def seqOf (h : He) : W → Option (List W)
  | .tup xs => some xs
  | w => lstOf h w
def truth (h : He) : W → Option Bool
  | .non => some false
  | .bl b => some b
  | .int i => some (i != 0)
  | .str x => if x.length ≤ sizeLine then some ((x.length : Int) != 0) else none
  | w => (seqOf h w).map fun xs => !xs.isEmpty
def eqS : W → W → Option Bool
  | .non, .non => some true
  | .non, .int _ => some false | .int _, .non => some false
  | .non, .bl _ => some false | .bl _, .non => some false
  | .non, .str _ => some false | .str _, .non => some false
  | .int i, .int j => some (decide (i = j))
  | .bl a, .bl b => some (decide (a = b))
  | .str x, .str y => some (decide (x = y))
  | .int _, .str _ => some false | .str _, .int _ => some false
  | .bl _, .str _ => some false | .str _, .bl _ => some false
  | _, _ => none
def flatW : W → Option L2.V
  | .non => some .non | .bl b => some (.bl b) | .int i => some (.int i) | .str x => some (.str x)
  | _ => none
def flatsW : List W → Option (List L2.V)
  | [] => some []
  | w :: r => match flatW w, flatsW r with
    | some v, some vs => some (v :: vs)
    | _, _ => none
def inW (h : He) (x y : W) : Option Bool := match x, y with
  | .str a, .str z => some (!(Builtin.Str.occurrences z a 0 z.length 1).isEmpty)
  | _, _ => match flatW x, (seqOf h y).bind flatsW with
    | some v, some vs => some (L2.inV v vs)
    | _, _ => none
def isNonW : W → Bool
  | .non => true
  | _ => false
inductive Cm where | eq | ne | lt | le | gt | ge | isN | notN | in_ | notIn
def cmpW (h : He) : Cm → W → W → Option Bool
  | .eq, x, y => eqS x y
  | .ne, x, y => (eqS x y).map not
  | .lt, .int i, .int j => some (decide (i < j))
  | .le, .int i, .int j => some (decide (i ≤ j))
  | .gt, .int i, .int j => some (decide (j < i))
  | .ge, .int i, .int j => some (decide (j ≤ i))
  | .isN, x, .non => some (isNonW x)
  | .notN, x, .non => some (!isNonW x)
  | .in_, x, y => inW h x y
  | .notIn, x, y => (inW h x y).map not
  | _, _, _ => none
def cutW {α : Type} (xs : List α) (lo hi : Option Int) : List α := (xs.drop (HT.sIx xs.length 0 lo)).take (HT.sIx xs.length xs.length hi - HT.sIx xs.length 0 lo)
def atW {α : Type} (xs : List α) (i : Int) : Option α := L2.atI xs i
inductive Op2 where | add | sub | mul | fdiv | mod | pow | shl
def binW (h : He) : Op2 → W → W → Rs W
  | .add, .int i, .int j => .ok (.int (i + j)) h
  | .add, .str x, .str y => if x.length + y.length ≤ sizeLine then .ok (.str (x ++ y)) h else .bad
  | .add, .tup xs, .tup ys => if xs.length + ys.length ≤ sizeLine ∧ xs.isEmpty = false then .ok (.tup (xs ++ ys)) h else .bad
  | .add, .ref i, .ref j => match h[i]?, h[j]? with
    | some (.lst xs), some (.lst ys) => if xs.length + ys.length ≤ sizeLine then .ok (.ref h.length) (h ++ [.lst (xs ++ ys)]) else .bad
    | _, _ => .bad
  | .sub, .int i, .int j => .ok (.int (i - j)) h
  | .mul, .int i, .int j => if i.natAbs.log2 + j.natAbs.log2 < 3000000 then .ok (.int (i * j)) h else .bad
  | .mul, .tup xs, .int k => if xs.isEmpty = false ∧ 2 ≤ k ∧ k ≤ 1000 ∧ xs.length ≤ 1000 then .ok (.tup (List.replicate k.toNat xs).flatten) h else .bad
  | .fdiv, .int i, .int j => if 0 < j ∧ j.natAbs.log2 < 8000 then .ok (.int (i / j)) h else .bad
  | .mod, .int i, .int j => if 0 < j then .ok (.int (i % j)) h else .bad
  | .pow, .int i, .int j => if 0 ≤ j ∧ j ≤ 1000000 ∧ i.natAbs < 2 ^ 64 then .ok (.int (i ^ j.toNat)) h else .bad
  | .shl, .int i, .int j => if 0 ≤ j ∧ j ≤ 1000000 ∧ i.natAbs < 2 ^ 64 then .ok (.int (i * 2 ^ j.toNat)) h else .bad
  | _, _, _ => .bad
def intsOf : List W → Option (List Int)
  | [] => some []
  | .int i :: r => (intsOf r).map (i :: ·)
  | _ :: _ => none
def strsOf : List W → Option (List Str)
  | [] => some []
  | .str x :: r => (strsOf r).map (x :: ·)
  | _ :: _ => none
def maxI : Int → List Int → Int
  | m, [] => m
  | m, x :: r => maxI (if x > m then x else m) r
def fputW (fs : List (Nat × W)) (k : Nat) (w : W) : List (Nat × W) := match fs with
  | [] => [(k, w)]
  | (j, x) :: r => if j = k then (k, w) :: r else (j, x) :: fputW r k w
def fgetW (fs : List (Nat × W)) (k : Nat) : Option W := match fs with
  | [] => none
  | (j, x) :: r => if j = k then some x else fgetW r k
def getF (h : He) (cs : List Nat) (x : W) (f : Nat) : Option W := match x with
  | .ref i => match h[i]? with
    | some (.ins c fs) => if c ∈ cs then fgetW fs f else none
    | _ => none
  | _ => none
def setF (h : He) (cs : List Nat) (x : W) (f : Nat) (w : W) : Option He := match x with
  | .ref i => match h[i]? with
    | some (.ins c fs) => if c ∈ cs ∧ fs.length < 1000 then some (h.set i (.ins c (fputW fs f w))) else none
    | _ => none
  | _ => none
def setI (h : He) (x : W) (j : W) (w : W) : Option He := match x, j with
  | .ref i, .int j => match h[i]? with
    | some (.lst xs) => (L2.ixN xs.length j).map fun j => h.set i (.lst (xs.set j w))
    | _ => none
  | _, _ => none
def isIns (h : He) (c m : Nat) (x : W) : Bool := match x with
  | .ref i => match h[i]? with
    | some (.ins d fs) => d == c && (fgetW fs m).isNone
    | _ => false
  | _ => false

def eV (i : Nat) : E := fun σ h => match σ[i]? with
  | some (some w) => .ok w h
  | _ => .bad
def eK (w : W) : E := fun _ h => .ok w h
def esN : ES := fun _ h => .ok [] h
def esC (e : E) (r : ES) : ES := fun σ h => (e σ h).bind fun w h => (r σ h).bind fun ws h => .ok (w :: ws) h
def eTup (es : ES) : E := fun σ h => (es σ h).bind fun ws h => if ws.length ≤ 1000 then .ok (.tup ws) h else .bad
def eLst (es : ES) : E := fun σ h => (es σ h).bind fun ws h => if ws.length ≤ 1000 then .ok (.ref h.length) (h ++ [.lst ws]) else .bad
def eBin (o : Op2) (a b : E) : E := fun σ h => (a σ h).bind fun x h => (b σ h).bind fun y h => binW h o x y
def eNeg (a : E) : E := fun σ h => (a σ h).bind fun x h => match x with
  | .int i => .ok (.int (-i)) h
  | _ => .bad
def cmpR (h : He) (o : Cm) (x y : W) : Rs Bool := Rs.lift (cmpW h o x y) h
def truR (h : He) (w : W) : Rs Bool := Rs.lift (truth h w) h
def eAnd (a b : E) : E := fun σ h => (a σ h).bind fun x h => (truR h x).bind fun t h => if t then b σ h else .ok x h
def eOr (a b : E) : E := fun σ h => (a σ h).bind fun x h => (truR h x).bind fun t h => if t then .ok x h else b σ h
def tV (e : E) : T := fun σ h => (e σ h).bind fun x h => truR h x
def tCmp (o : Cm) (a b : E) : T := fun σ h => (a σ h).bind fun x h => (b σ h).bind fun y h => cmpR h o x y
def tCh2 (o₁ o₂ : Cm) (a b c : E) : T := fun σ h => (a σ h).bind fun x h => (b σ h).bind fun y h => (cmpR h o₁ x y).bind fun k h => if k then (c σ h).bind fun z h => cmpR h o₂ y z else .ok false h
def tCh3 (o₁ o₂ o₃ : Cm) (a b c d : E) : T := fun σ h => (a σ h).bind fun x h => (b σ h).bind fun y h => (cmpR h o₁ x y).bind fun k h => if k then
    (c σ h).bind fun z h => (cmpR h o₂ y z).bind fun k h => if k then (d σ h).bind fun u h => cmpR h o₃ z u else .ok false h
  else .ok false h
def tNot (t : T) : T := fun σ h => (t σ h).bind fun b h => .ok (!b) h
def tAnd (t u : T) : T := fun σ h => (t σ h).bind fun b h => if b then u σ h else .ok false h
def tOr (t u : T) : T := fun σ h => (t σ h).bind fun b h => if b then .ok true h else u σ h
def tYes : T := fun _ h => .ok true h
def eB (t : T) : E := fun σ h => (t σ h).bind fun b h => .ok (.bl b) h
inductive Ty where | non | str | int | bool | tuple | list | dict
  deriving DecidableEq
def tyW (h : He) : W → Option Ty
  | .non => some .non
  | .bl _ => some .bool
  | .int _ => some .int
  | .str _ => some .str
  | .tup _ => some .tuple
  | .ref i => match h[i]? with
    | some (.lst _) => some .list
    | _ => none
  | .kl _ => none
def isTy : Ty → Ty → Bool
  | .bool, .int => true
  | a, b => decide (a = b)
def eIsi (ts : List Ty) (e : E) : E := fun σ h => (e σ h).bind fun x h => Rs.lift ((tyW h x).map fun t => .bl (ts.any fun T => isTy t T)) h
def eIf (t : T) (a b : E) : E := fun σ h => (t σ h).bind fun c h => if c then a σ h else b σ h
def eCall (f : F) (es : ES) : E := fun σ h => (es σ h).bind fun ws h => f ws h
def eMeth (c m : Nat) (f : F) (o : E) (es : ES) : E := fun σ h => (o σ h).bind fun x h => if isIns h c m x then (es σ h).bind fun ws h => f (x :: ws) h else .bad
def eNew (c : Nat) (f : F) (es : ES) : E := fun σ h => (es σ h).bind fun ws h => (f (.ref h.length :: ws) (h ++ [.ins c []])).bind fun r h' => match r with
  | .non => .ok (.ref h.length) h'
  | _ => .bad
def eFld (cs : List Nat) (f : Nat) (o : E) : E := fun σ h => (o σ h).bind fun x h => Rs.lift (getF h cs x f) h
def ixv (h : He) (x : W) (i : Int) : Option W := match x with
  | .str z => if z.length ≤ sizeLine then (atW z.cps.toList i).map fun c => .str ⟨#[c]⟩ else none
  | _ => (seqOf h x).bind fun xs => atW xs i
def eIx (a b : E) : E := fun σ h => (a σ h).bind fun x h => (b σ h).bind fun y h => match y with
  | .int i => Rs.lift (ixv h x i) h
  | _ => .bad
abbrev EP := Sg → He → Rs (Option Int)
def pNo : EP := fun _ h => .ok none h
def pSome (e : E) : EP := fun σ h => (e σ h).bind fun x h => match x with
  | .int i => .ok (some i) h
  | _ => .bad
def slW (h : He) (x : W) (lo hi : Option Int) : Rs W := match x with
  | .tup xs => .ok (.tup (cutW xs lo hi)) h
  | .str z => if z.length ≤ sizeLine then .ok (.str ⟨(cutW z.cps.toList lo hi).toArray⟩) h else .bad
  | _ => match lstOf h x with
    | some xs => .ok (.ref h.length) (h ++ [.lst (cutW xs lo hi)])
    | none => .bad
def eSl (a : E) (lo hi : EP) : E := fun σ h => (a σ h).bind fun x h => (lo σ h).bind fun l h => (hi σ h).bind fun u h => slW h x l u

def gV (i : Nat) : G := fun w σ h => if i < σ.length then .ok (σ.set i (some w)) h else .bad
def gsN : GS := fun ws σ h => match ws with
  | [] => .ok σ h
  | _ => .bad
def gsC (g : G) (r : GS) : GS := fun ws σ h => match ws with
  | w :: ws => (g w σ h).bind fun σ h => r ws σ h
  | [] => .bad
def gTup (n : Nat) (g : GS) : G := fun w σ h => match w with
  | .tup ws => if ws.length = n then g ws σ h else .bad
  | _ => .bad
def gIx (a b : E) : G := fun w σ h => (a σ h).bind fun x h => (b σ h).bind fun y h => match setI h x y w with
  | some h => .ok σ h
  | none => .bad

section
variable {α : Type}
def lcTurn (bnd : W → He → Rs Sg) (cond : T) (elt : E) (x : W) (acc : List W) (h : He) : Rs (List W) :=
  (bnd x h).bind fun σ h => (cond σ h).bind fun b h => if b then (elt σ h).bind fun y h => if acc.length < sizeLine then .ok (acc ++ [y]) h else .bad else .ok acc h
def lcFix (turn : W → List W → He → Rs (List W)) : List W → List W → He → Rs (List W)
  | [], acc, h => .ok acc h
  | x :: xs, acc, h => (turn x acc h).bind fun acc h => lcFix turn xs acc h
def lcLive (turn : W → List W → He → Rs (List W)) (a : W) : Nat → Nat → List W → He → Rs (List W)
  | 0, _, _, _ => .bad
  | n + 1, i, acc, h => match lstOf h a with
    | some xs => match xs[i]? with
      | some x => (turn x acc h).bind fun acc h => lcLive turn a n (i + 1) acc h
      | none => .ok acc h
    | none => .bad
def forNext (f : Fl) (h : He) (go : Sg → He → Rs Fl) : Rs Fl := match f with
  | .nx σ => go σ h
  | .ct σ => go σ h
  | .bk σ => .ok (.nx σ) h
  | .rt w => .ok (.rt w) h
def forFix (turn : W → Sg → He → Rs Fl) : List W → Sg → He → Rs Fl
  | [], σ, h => .ok (.nx σ) h
  | x :: xs, σ, h => (turn x σ h).bind fun f h => forNext f h fun σ h => forFix turn xs σ h
def forLive (turn : W → Sg → He → Rs Fl) (a : W) : Nat → Nat → Sg → He → Rs Fl
  | 0, _, _, _ => .bad
  | n + 1, i, σ, h => match lstOf h a with
    | some xs => match xs[i]? with
      | some x => (turn x σ h).bind fun f h => forNext f h fun σ h => forLive turn a n (i + 1) σ h
      | none => .ok (.nx σ) h
    | none => .bad
def whlF (c : T) (b : S) : Nat → Sg → He → Rs Fl
  | 0, _, _ => .bad
  | n + 1, σ, h => (c σ h).bind fun t h => if t then (b σ h).bind fun f h => forNext f h fun σ h => whlF c b n σ h else .ok (.nx σ) h
end
def FU : Nat := 10000000
inductive ItV where | fix (xs : List W) | live (a : W)
def itOf (h : He) : W → Option ItV
  | .tup xs => some (.fix xs)
  | .str x => some (.fix (x.cps.toList.map fun c => .str ⟨#[c]⟩))
  | w => (lstOf h w).map fun _ => .live w
def rgOf (lo : Int) (n : Nat) : List W := (List.range n).map fun (k : Nat) => .int (lo + (k : Int))
def rgW : List W → Option (List W)
  | [.int n] => some (rgOf 0 n.toNat)
  | [.int a, .int b] => some (rgOf a (b - a).toNat)
  | _ => none
abbrev I := Sg → He → Rs ItV
def iE (e : E) : I := fun σ h => (e σ h).bind fun x h => Rs.lift (itOf h x) h
def iRg (es : ES) : I := fun σ h => (es σ h).bind fun ws h => Rs.lift ((rgW ws).map .fix) h
def wipeE (σ : Sg) : List Nat → Sg
  | [] => σ
  | v :: vs => (wipeE σ vs).set v none
def eLc (e : E) (g : G) (it : I) (t : T) (own : List Nat) : E := fun σ h => (it σ h).bind fun v h =>
  (match v with
    | .fix xs => lcFix (fun x acc h => (lcTurn (fun x h => g x (wipeE σ own) h) t e x acc h).noEx) xs [] h
    | .live a => lcLive (fun x acc h => (lcTurn (fun x h => g x (wipeE σ own) h) t e x acc h).noEx) a FU 0 [] h).bind fun ys h => .ok (W.ref h.length) (h ++ [EO.lst ys])

def sNil : S := fun σ h => .ok (.nx σ) h
def sSeq (a b : S) : S := fun σ h => (a σ h).bind fun f h => match f with
  | .nx σ => b σ h
  | f => .ok f h
def sAsg (g : G) (e : E) : S := fun σ h => (e σ h).bind fun w h => (g w σ h).bind fun σ h => .ok (.nx σ) h
def sFld (cs : List Nat) (o : E) (f : Nat) (e : E) : S := fun σ h => (e σ h).bind fun w h => (o σ h).bind fun x h => match setF h cs x f w with
  | some h => .ok (.nx σ) h
  | none => .bad
def sPar (i j : Nat) (es : ES) : S := fun σ h => (es σ h).bind fun ws h => match ws with
  | [v, w] => .ok (.nx ((σ.set i (some v)).set j (some w))) h
  | _ => .bad
def sAug (i : Nat) (o : Op2) (e : E) : S := fun σ h => match σ[i]? with
  | some (some (.int x)) => (e σ h).bind fun y h => match o, y with
    | .add, .int y => .ok (.nx (σ.set i (some (.int (x + y))))) h
    | .sub, .int y => .ok (.nx (σ.set i (some (.int (x - y))))) h
    | _, _ => .bad
  | _ => .bad
def sEx (e : E) : S := fun σ h => (e σ h).bind fun _ h => .ok (.nx σ) h
def sRet (e : E) : S := fun σ h => (e σ h).bind fun w h => .ok (.rt w) h
def sRet0 : S := fun _ h => .ok (.rt .non) h
def sIf (t : T) (a b : S) : S := fun σ h => (t σ h).bind fun c h => if c then a σ h else b σ h
def sWhl (t : T) (b : S) : S := fun σ h => whlF t b FU σ h
def sFor (g : G) (it : I) (b : S) : S := fun σ h => (it σ h).bind fun v h => match v with
  | .fix xs => forFix (fun x σ h => (g x σ h).bind fun σ h => b σ h) xs σ h
  | .live a => forLive (fun x σ h => (g x σ h).bind fun σ h => b σ h) a FU 0 σ h
def sBrk : S := fun σ h => .ok (.bk σ) h
def sCnt : S := fun σ h => .ok (.ct σ) h
def fn (p n : Nat) (b : S) : F := fun ws h => if ws.length = p then (b (ws.map some ++ List.replicate (n - ws.length) none) h).bind fun f h => match f with
  | .rt w => .ok w h
  | .nx _ => .ok .non h
  | _ => .bad else .bad

def fLen : F := fun ws h => match ws with
  | [.str x] => if x.length ≤ sizeLine then .ok (.int x.length) h else .bad
  | [w] => Rs.lift ((seqOf h w).map fun xs => .int xs.length) h
  | _ => .bad
def fAbs : F := fun ws h => match ws with
  | [.int i] => .ok (.int (if i < 0 then -i else i)) h
  | _ => .bad
def fInt : F := fun ws h => match ws with
  | [.int i] => .ok (.int i) h
  | [.bl b] => .ok (.int (if b then 1 else 0)) h
  | [.str x] => if x.length ≤ 640 then Rs.lift ((PySem.intText? x).map .int) h else .bad
  | _ => .bad
def fStr : F := fun ws h => match ws with
  | [.int i] => if i.natAbs.log2 < 1920 then .ok (.str (toString i)) h else .bad
  | _ => .bad
def fMax : F := fun ws h => match ws with
  | [.int i, .int j] => .ok (.int (if j > i then j else i)) h
  | [.int i, .int j, .int k] => .ok (.int (maxI i [j, k])) h
  | [w] => match (lstOf h w).bind intsOf with
    | some (m :: r) => .ok (.int (maxI m r)) h
    | _ => .bad
  | _ => .bad
def fMin : F := fun ws h => match ws with
  | [.int i, .int j] => .ok (.int (if j < i then j else i)) h
  | _ => .bad
def fSum : F := fun ws h => match ws with
  | [w] => match (lstOf h w).bind intsOf with
    | some ns => .ok (.int ns.sum) h
    | none => .bad
  | _ => .bad
def fTuple : F := fun ws h => match ws with
  | [w] => Rs.lift ((seqOf h w).map .tup) h
  | _ => .bad
def fList : F := fun ws h => match ws with
  | [w] => match seqOf h w with
    | some xs => .ok (.ref h.length) (h ++ [.lst xs])
    | none => .bad
  | _ => .bad
def mAppend : F := fun ws h => match ws with
  | [.ref i, y] => match h[i]? with
    | some (.lst xs) => if xs.length < sizeLine then .ok .non (h.set i (.lst (xs ++ [y]))) else .bad
    | _ => .bad
  | _ => .bad
def mExtend : F := fun ws h => match ws with
  | [.ref i, .ref j] => match h[i]?, h[j]? with
    | some (.lst xs), some (.lst ys) => if xs.length + ys.length ≤ sizeLine then .ok .non (h.set i (.lst (xs ++ ys))) else .bad
    | _, _ => .bad
  | _ => .bad
def mPop : F := fun ws h => match ws with
  | [.ref i] => match h[i]? with
    | some (.lst xs) => match xs[xs.length - 1]? with
      | some y => .ok y (h.set i (.lst xs.dropLast))
      | none => .bad
    | _ => .bad
  | [.ref i, .int k] => match h[i]? with
    | some (.lst xs) => if -(2 ^ 63) ≤ k ∧ k < 2 ^ 63 then match L2.ixN xs.length k with
        | some j => match xs[j]? with
          | some y => .ok y (h.set i (.lst (xs.eraseIdx j)))
          | none => .bad
        | none => .bad
      else .bad
    | _ => .bad
  | _ => .bad
def mSplit : F := fun ws h => match ws with
  | [.str x, .str b] => if x.length + 2 ≤ sizeLine ∧ (b.length == 0) = false then .ok (.ref h.length) (h ++ [.lst ((Txt.split x b).map .str)]) else .bad
  | _ => .bad
def mJoin : F := fun ws h => match ws with
  | [.str a, y] => match (seqOf h y).bind strsOf with
    | some ss => if (ss.map (·.length)).sum + ss.length * a.length ≤ 16777216 then .ok (.str (Txt.join a ss)) h else .bad
    | none => .bad
  | _ => .bad
def insS (x : Str) : List Str → List Str
  | [] => [x]
  | y :: r => if PySem.Spec.ltCps y.cps.toList x.cps.toList then y :: insS x r else x :: y :: r
def sortS : List Str → List Str
  | [] => []
  | x :: r => insS x (sortS r)
def fSorted : F := fun ws h => match ws with
  | [w] => match (lstOf h w).bind strsOf with
    | some ss => if ss.length < 64 then .ok (.ref h.length) (h ++ [.lst ((sortS ss).map .str)]) else .bad
    | none => .bad
  | _ => .bad
def repW (x : Str) (n : Int) : Str := if n < 1 then Str.empty else ⟨(List.replicate n.toNat x.cps).foldl (· ++ ·) #[]⟩
def eStrMul (a b : E) : E := fun σ h => (a σ h).bind fun x h => (b σ h).bind fun y h => match x, y with
  | .str x, .int n => if 0 ≤ n ∧ n ≤ 1000 ∧ x.length ≤ 1000 then .ok (.str (repW x n)) h else .bad
  | _, _ => .bad
def dgetW (kvs : List (Str × Int)) (x : Str) : Option Int := kvs.foldl (fun o kv => if x = kv.1 then some kv.2 else o) none
def eDg (kvs : List (Str × Int)) (e : E) (d : Int) : E := fun σ h => (e σ h).bind fun x h => match x with
  | .str x => .ok (.int ((dgetW kvs x).getD d)) h
  | _ => .bad
def eGg (kvs : List (Str × Int)) (e : E) : E := fun σ h => (e σ h).bind fun x h => match x with
  | .str x => .ok (match dgetW kvs x with | some i => .int i | none => .non) h
  | _ => .bad
def eCallK (ps : List Nat) (f : F) (es : ES) : E := fun σ h => (es σ h).bind fun ws h => f (ps.map fun i => ws.getD i .non) h
def sRaise (c : Nat) (ks : List Nat) (es : ES) : S := fun σ h => (es σ h).bind fun ws h => .ex c (ks.zip ws).reverse h
def sTryH (b : S) (hd : Nat → List (Nat × W) → Option W) : S := fun σ h => match b σ h with
  | .ok f h => .ok f h
  | .ex c fs h => match hd c fs with
    | some w => .ok (.rt w) h
    | none => .bad
  | .bad => .bad
def hdT (c : Nat) (x : Str) (ks : List Nat) : Nat → List (Nat × W) → Option W := fun d fs => if d = c then (ks.mapM fun k => fgetW fs k).map fun ws => .tup (.str x :: ws) else none
def mReplace : F := fun ws h => match ws with
  | [.str x, .str a, .str b] => if x.length ≤ 100000 ∧ b.length ≤ 100 ∧ a.length = 1 then .ok (.str (Txt.replace x a b)) h else .bad
  | _ => .bad
def isStr : W → Bool
  | .str _ => true
  | _ => false
def eBmL (f : F) (o : E) (es : ES) : E := fun σ h => (o σ h).bind fun x h => if (lstOf h x).isSome then (es σ h).bind fun ws h => f (x :: ws) h else .bad
def eBmS (f : F) (o : E) (es : ES) : E := fun σ h => (o σ h).bind fun x h => if isStr x then (es σ h).bind fun ws h => f (x :: ws) h else .bad
end VE
end
section
set_option Elab.async false
set_option linter.all false
set_option autoImplicit false
set_option maxRecDepth 100000
namespace VE
open PySem PySem.Spec PyProof.Rows L2

structure Zx where
  K : PySem.W.Frag
  γ : Nat → Addr
  nms : List Str
  nd : nms.Nodup

def KL (K : PySem.W.Frag) (a : Addr) (xs : List V) : Prop := ∃ (o : Obj) (its : Array Value) (n : Nat), K.lookup a = some o ∧ o.cls = .type "list" ∧ o.dict = none ∧ o.data = .seq its n ∧ its.size ≤ sizeLine ∧ Vals xs its.toList
mutual
inductive RelW (Z : Zx) (α : List Addr) (H : Hp) : W → V → Prop where
  | non : RelW Z α H .non .non
  | bl (b : Bool) : RelW Z α H (.bl b) (.bl b)
  | int (i : Int) : RelW Z α H (.int i) (.int i)
  | str (x : Str) : RelW Z α H (.str x) (.str x)
  | tup {ws : List W} {a : Addr} {vs : List V} : SqT Z.K H a vs → RelWs Z α H ws vs → RelW Z α H (.tup ws) (.ref a)
  | ref {i : Nat} {a : Addr} : α[i]? = some a → RelW Z α H (.ref i) (.ref a)
  | kl {ns : List Int} {a : Addr} : KL Z.K a (ns.map V.int) → RelW Z α H (.kl ns) (.ref a)
inductive RelWs (Z : Zx) (α : List Addr) (H : Hp) : List W → List V → Prop where
  | nil : RelWs Z α H [] []
  | cons {w : W} {v : V} {ws : List W} {vs : List V} : RelW Z α H w v → RelWs Z α H ws vs → RelWs Z α H (w :: ws) (v :: vs)
end
inductive RelF (Z : Zx) (α : List Addr) (H : Hp) : List (Nat × W) → List (Str × V) → Prop where
  | nil : RelF Z α H [] []
  | cons {k : Nat} {x : Str} {w : W} {v : V} {fs : List (Nat × W)} {gs : List (Str × V)} : Z.nms[k]? = some x → RelW Z α H w v → RelF Z α H fs gs → RelF Z α H ((k, w) :: fs) ((x, v) :: gs)
def OR (Z : Zx) (α : List Addr) (H : Hp) (a : Addr) : EO → Prop
  | .lst ws => ∃ vs, H a = some (.lst vs) ∧ RelWs Z α H ws vs
  | .ro ws => ∃ vs, Rd H a (.lst vs) ∧ RelWs Z α H ws vs
  | .ins c fs => ∃ dx gs, H a = some (.ins (Z.γ c) dx gs) ∧ RelF Z α H fs gs
structure HR (Z : Zx) (α : List Addr) (he : He) (H : Hp) : Prop where
  len : α.length = he.length
  nd : α.Nodup
  obj : ∀ (i : Nat) o a, he[i]? = some o → α[i]? = some a → OR Z α H a o
structure SR (Z : Zx) (α : List Addr) (H : Hp) (σw : Sg) (σ : L2.St) : Prop where
  len : σw.length = σ.length
  at_ : ∀ (i : Nat) w, σw[i]? = some (some w) → ∃ v, σ[i]? = some (some v) ∧ RelW Z α H w v
structure Ext (α α' : List Addr) (H H' : Hp) : Prop where
  pre : ∀ (i : Nat) a, α[i]? = some a → α'[i]? = some a
  keep : ∀ a o, H a = some o → (a ∉ α ∨ ¬ Mut (some o)) → H' a = some o
  new : ∀ a, a ∈ α' → a ∉ α → H a = none
  len : α.length ≤ α'.length

section
variable {Z : Zx} {α α' α'' : List Addr} {H H' H'' : Hp} {he : He}
theorem Ext.refl : Ext α α H H := ⟨fun _ _ q => q, fun _ _ q _ => q, fun _ q n => absurd q n, Nat.le_refl _⟩
theorem Ext.trans (x : Ext α α' H H') (y : Ext α' α'' H' H'') : Ext α α'' H H'' where
  pre := fun i a q => y.pre i a (x.pre i a q)
  keep := fun a o q c => by
    refine y.keep a o (x.keep a o q c) ?_
    rcases c with c | c
    · by_cases z : a ∈ α'
      · have := x.new a z c
        rw [q] at this; cases this
      · exact .inl z
    · exact .inr c
  new := fun a q n => by
    by_cases z : a ∈ α'
    · exact x.new a z n
    · have q2 := y.new a q z
      cases e : H a with
      | none => rfl
      | some o =>
        have := x.keep a o e (.inl n)
        rw [q2] at this; cases this
  len := Nat.le_trans x.len y.len
theorem Ext.sqT (x : Ext α α' H H') {a : Addr} {xs : List V} (h : SqT Z.K H a xs) : SqT Z.K H' a xs := by
  rcases h with h | h
  · rcases h with h | ⟨o, h⟩
    · exact .inl (.inl (x.keep _ _ h (.inr fun z => z)))
    · exact .inl (.inr ⟨o, x.keep _ _ h (.inr fun z => z)⟩)
  · exact .inr h
mutual
theorem RelW.ext (x : Ext α α' H H') : ∀ {w : W} {v : V}, RelW Z α H w v → RelW Z α' H' w v
  | _, _, .non => .non
  | _, _, .bl b => .bl b
  | _, _, .int i => .int i
  | _, _, .str y => .str y
  | _, _, .tup h r => .tup (x.sqT h) (RelWs.ext x r)
  | _, _, .ref e => .ref (x.pre _ _ e)
  | _, _, .kl q => .kl q
theorem RelWs.ext (x : Ext α α' H H') : ∀ {ws : List W} {vs : List V}, RelWs Z α H ws vs → RelWs Z α' H' ws vs
  | _, _, .nil => .nil
  | _, _, .cons r t => .cons (RelW.ext x r) (RelWs.ext x t)
end
theorem RelF.ext (x : Ext α α' H H') {fs : List (Nat × W)} {gs : List (Str × V)} (h : RelF Z α H fs gs) : RelF Z α' H' fs gs := by
  induction h with
  | nil => exact .nil
  | cons e r t ih => exact .cons e (r.ext x) ih
theorem SR.ext (x : Ext α α' H H') {σw : Sg} {σ : L2.St} (h : SR Z α H σw σ) : SR Z α' H' σw σ :=
  ⟨h.len, fun i w e => let ⟨v, q, r⟩ := h.at_ i w e; ⟨v, q, r.ext x⟩⟩
theorem RelWs.length : ∀ {ws : List W} {vs : List V}, RelWs Z α H ws vs → ws.length = vs.length
  | _, _, .nil => rfl
  | _, _, .cons _ t => congrArg (· + 1) (RelWs.length t)
theorem RelWs.get : ∀ {ws : List W} {vs : List V} {i : Nat} {w : W}, RelWs Z α H ws vs → ws[i]? = some w → ∃ v, vs[i]? = some v ∧ RelW Z α H w v
  | _, _, i, w, .nil, e => by simp at e
  | _, _, 0, w, .cons r _, e => by simp at e; subst e; exact ⟨_, rfl, r⟩
  | _, _, i + 1, w, .cons _ t, e => by
    obtain ⟨v, h1, h2⟩ := RelWs.get (i := i) (w := w) t (by simpa using e)
    exact ⟨v, by simpa using h1, h2⟩
theorem RelWs.get' : ∀ {ws : List W} {vs : List V} {i : Nat} {v : V}, RelWs Z α H ws vs → vs[i]? = some v → ∃ w, ws[i]? = some w ∧ RelW Z α H w v
  | _, _, i, w, .nil, e => by simp at e
  | _, _, 0, w, .cons r _, e => by simp at e; subst e; exact ⟨_, rfl, r⟩
  | _, _, i + 1, w, .cons _ t, e => by
    obtain ⟨v, h1, h2⟩ := RelWs.get' (i := i) (v := w) t (by simpa using e)
    exact ⟨v, by simpa using h1, h2⟩
theorem RelWs.append : ∀ {ws xs : List W} {vs ys : List V}, RelWs Z α H ws vs → RelWs Z α H xs ys → RelWs Z α H (ws ++ xs) (vs ++ ys)
  | _, _, _, _, .nil, s => s
  | _, _, _, _, .cons r t, s => .cons r (RelWs.append t s)
theorem RelWs.take : ∀ {ws : List W} {vs : List V} (n : Nat), RelWs Z α H ws vs → RelWs Z α H (ws.take n) (vs.take n)
  | _, _, 0, _ => .nil
  | _, _, _ + 1, .nil => .nil
  | _, _, n + 1, .cons r t => .cons r (RelWs.take n t)
theorem RelWs.drop : ∀ {ws : List W} {vs : List V} (n : Nat), RelWs Z α H ws vs → RelWs Z α H (ws.drop n) (vs.drop n)
  | _, _, 0, r => r
  | _, _, _ + 1, .nil => .nil
  | _, _, n + 1, .cons _ t => RelWs.drop n t
theorem RelWs.set : ∀ {ws : List W} {vs : List V} (n : Nat) {w : W} {v : V}, RelW Z α H w v → RelWs Z α H ws vs → RelWs Z α H (ws.set n w) (vs.set n v)
  | _, _, _, _, _, _, .nil => .nil
  | _, _, 0, _, _, q, .cons _ t => .cons q t
  | _, _, n + 1, _, _, q, .cons r t => .cons r (RelWs.set n q t)
theorem RelWs.eraseIdx : ∀ {ws : List W} {vs : List V} (n : Nat), RelWs Z α H ws vs → RelWs Z α H (ws.eraseIdx n) (vs.eraseIdx n)
  | _, _, _, .nil => .nil
  | _, _, 0, .cons _ t => t
  | _, _, n + 1, .cons r t => .cons r (RelWs.eraseIdx n t)
theorem RelWs.dropLast : ∀ {ws : List W} {vs : List V}, RelWs Z α H ws vs → RelWs Z α H ws.dropLast vs.dropLast
  | _, _, .nil => .nil
  | _, _, .cons r .nil => .nil
  | _, _, .cons r (.cons q t) => .cons r (RelWs.dropLast (.cons q t))
theorem RelWs.rep {ws : List W} {vs : List V} (h : RelWs Z α H ws vs) : ∀ k : Nat, RelWs Z α H (List.replicate k ws).flatten (List.replicate k vs).flatten
  | 0 => .nil
  | k + 1 => by rw [List.replicate_succ, List.replicate_succ, List.flatten_cons, List.flatten_cons]; exact h.append (RelWs.rep h k)
theorem RelWs.cut {ws : List W} {vs : List V} (h : RelWs Z α H ws vs) (lo hi : Option Int) : RelWs Z α H (cutW ws lo hi) (cutV vs lo hi) := by
  unfold cutW cutV
  rw [h.length]
  exact (h.drop _).take _
theorem RelWs.at_ {ws : List W} {vs : List V} (h : RelWs Z α H ws vs) {i : Int} {w : W} (e : atW ws i = some w) : ∃ v, atI vs i = some v ∧ RelW Z α H w v := by
  unfold atW atI at e
  unfold atI
  rw [h.length] at e
  cases q : ixN vs.length i with
  | none => rw [q] at e; cases e
  | some j =>
    rw [q] at e
    exact h.get (i := j) e
theorem RelWs.isEmpty {ws : List W} {vs : List V} (h : RelWs Z α H ws vs) : ws.isEmpty = vs.isEmpty := by cases h <;> rfl
theorem RelWs.ints : ∀ {ws : List W} {vs : List V} {ns : List Int}, RelWs Z α H ws vs → intsOf ws = some ns → vs = ns.map V.int
  | _, _, ns, .nil, e => by cases e; rfl
  | _, _, ns, .cons (.int i) t, e => by
    simp only [intsOf, Option.map_eq_some_iff] at e
    obtain ⟨ms, e1, e2⟩ := e
    subst e2
    rw [RelWs.ints t e1]; rfl
theorem RelWs.strs : ∀ {ws : List W} {vs : List V} {ns : List Str}, RelWs Z α H ws vs → strsOf ws = some ns → vs = ns.map V.str
  | _, _, ns, .nil, e => by cases e; rfl
  | _, _, ns, .cons (.str i) t, e => by
    simp only [strsOf, Option.map_eq_some_iff] at e
    obtain ⟨ms, e1, e2⟩ := e
    subst e2
    rw [RelWs.strs t e1]; rfl
theorem RelWs.ofStrs : ∀ (xs : List Str), RelWs Z α H (xs.map W.str) (xs.map V.str)
  | [] => .nil
  | x :: xs => .cons (.str x) (RelWs.ofStrs xs)
theorem RelW.flat {w : W} {v u : V} (h : RelW Z α H w v) (e : flatW w = some u) : v = u := by
  cases h <;> cases e <;> rfl
theorem flatW_flat : ∀ {w : W} {u : V}, flatW w = some u → flatV u = true
  | .non, _, e => by cases e; rfl
  | .bl _, _, e => by cases e; rfl
  | .int _, _, e => by cases e; rfl
  | .str _, _, e => by cases e; rfl
theorem RelWs.flats : ∀ {ws : List W} {vs us : List V}, RelWs Z α H ws vs → flatsW ws = some us → vs = us ∧ us.all flatV = true
  | _, _, us, .nil, e => by cases e; exact ⟨rfl, rfl⟩
  | w :: r, _, us, .cons h t, e => by
    unfold flatsW at e
    cases q1 : flatW w with
    | none => rw [q1] at e; cases e
    | some v =>
      cases q2 : flatsW r with
      | none => rw [q1, q2] at e; cases e
      | some vs =>
        rw [q1, q2] at e
        cases e
        obtain ⟨e1, e2⟩ := RelWs.flats t q2
        rw [h.flat q1, e1]
        refine ⟨rfl, ?_⟩
        rw [List.all_cons, flatW_flat q1, e2]; rfl
end

def Got (Z : Zx) (X : XK) (α : List Addr) (H : Hp) {β : Type} (r : Rs β) (Q : β → He → List Addr → Hp → Prop) : Prop :=
  match r with
  | .ok b he => ∀ α' H', Ext α α' H H' → HR Z α' he H' → Q b he α' H'
  | .ex c fs he => ∀ α' H' d gs, Ext α α' H H' → HR Z α' he H' → H' d = some (.xd gs) → RelF Z α' H' fs gs → X (.ref (Z.γ c)) (some d) H'
  | .bad => False
section
variable {Z : Zx} {X : XK} {α α' : List Addr} {H H' : Hp} {β δ : Type} {r : Rs β} {Q Q' : β → He → List Addr → Hp → Prop}
theorem Got.ext (h : Got Z X α H r Q) (x : Ext α α' H H') : Got Z X α' H' r Q := by
  cases r with
  | ok b he => exact fun α2 H2 y hr => h α2 H2 (x.trans y) hr
  | ex c fs he => exact fun α2 H2 d gs y hr => h α2 H2 d gs (x.trans y) hr
  | bad => exact h
theorem Got.bind {f : β → He → Rs δ} {Q : δ → He → List Addr → Hp → Prop} (h : Got Z X α H (r.bind f) Q) : Got Z X α H r fun b he α' H' => Got Z X α' H' (f b he) Q := by
  cases r with
  | ok b he =>
    intro α' H' x hr
    exact Got.ext (r := f b he) h x
  | ex c fs he => exact h
  | bad => exact h
theorem Got.imp (h : Got Z X α H r Q) (q : ∀ b he α' H', Ext α α' H H' → HR Z α' he H' → Q b he α' H' → Q' b he α' H') : Got Z X α H r Q' := by
  cases r with
  | ok b he => exact fun α' H' x hr => q b he α' H' x hr (h α' H' x hr)
  | ex c fs he => exact h
  | bad => exact h
theorem Got.now {b : β} {he : He} (h : Got Z X α H (.ok b he) Q) (hr : HR Z α he H) : Q b he α H := h α H .refl hr
theorem Got.lift {o : Option β} {he : He} (h : Got Z X α H (Rs.lift o he) Q) (hr : HR Z α he H) : ∃ b, o = some b ∧ Q b he α H := by
  cases o with
  | none => exact h.elim
  | some b => exact ⟨b, rfl, Got.now h hr⟩
theorem Got.noEx {X' : XK} (h : Got Z X α H r.noEx Q) : Got Z X' α H r Q := by
  cases r with
  | ok b he => exact h
  | ex c fs he => exact h.elim
  | bad => exact h
end

def At (Z : Zx) (σw : Sg) (he : He) (α : List Addr) (σ : L2.St) (H : Hp) : Prop := HR Z α he H ∧ SR Z α H σw σ
def rE (Z : Zx) (X : XK) (m : E) : TE := fun σ H Q => ∃ α he σw, HR Z α he H ∧ SR Z α H σw σ ∧ Got Z X α H (m σw he) fun w he' α' H' => ∀ v, RelW Z α' H' w v → Q v H'
def rT (Z : Zx) (X : XK) (m : T) : TT := fun σ H Q => ∃ α he σw, HR Z α he H ∧ SR Z α H σw σ ∧ Got Z X α H (m σw he) fun b he' α' H' => Q b H'
def rA (Z : Zx) (X : XK) (m : ES) : TA := fun σ H Q => ∃ α he σw, HR Z α he H ∧ SR Z α H σw σ ∧ Got Z X α H (m σw he) fun ws he' α' H' => ∀ vs, RelWs Z α' H' ws vs → Q vs H'
def rO (Z : Zx) (X : XK) (m : EP) : TO := fun σ H Q => ∃ α he σw, HR Z α he H ∧ SR Z α H σw σ ∧ Got Z X α H (m σw he) fun o he' α' H' => Q o H'
structure Chg (is : List Nat) (σ σ' : L2.St) : Prop where
  len : σ'.length = σ.length
  out : ∀ j : Nat, j ∉ is → σ'[j]? = σ[j]?
def rG (Z : Zx) (X : XK) (is : List Nat) (m : G) : TG := fun v σ H Q => ∃ α he σw w, HR Z α he H ∧ SR Z α H σw σ ∧ RelW Z α H w v ∧ Got Z X α H (m w σw he) fun σw' he' α' H' => ∀ σ', SR Z α' H' σw' σ' → Chg is σ σ' → Q σ' H'
def rGs (Z : Zx) (X : XK) (is : List Nat) (m : GS) : TGs := fun vs σ H Q => ∃ α he σw ws, HR Z α he H ∧ SR Z α H σw σ ∧ RelWs Z α H ws vs ∧ Got Z X α H (m ws σw he) fun σw' he' α' H' => ∀ σ', SR Z α' H' σw' σ' → Chg is σ σ' → Q σ' H'
def ItV.its : ItV → He → Option (List W)
  | .fix xs, _ => some xs
  | .live a, h => lstOf h a
def Wk (Z : Zx) (α : List Addr) (H : Hp) (v : ItV) (J : It) : Prop := ∀ α1 H1 he1, Ext α α1 H H1 → HR Z α1 he1 H1 → ∀ xs (i : Nat), v.its he1 = some xs →
  (xs[i]? = none → J.stop i H1) ∧ ∀ w, xs[i]? = some w → J.go i H1 ∧ ∀ x H2, J.yld i H1 x H2 → Ext α1 α1 H1 H2 ∧ HR Z α1 he1 H2 ∧ RelW Z α1 H2 w x
def rIt (Z : Zx) (X : XK) (m : VE.I) : TI := fun σ H R => ∃ α he σw, HR Z α he H ∧ SR Z α H σw σ ∧ Got Z X α H (m σw he) fun v he' α' H' => ∀ J, Wk Z α' H' v J → R J H'
def FlQ (Z : Zx) (D : Ends) : Fl → He → List Addr → Hp → Prop := fun f he α H => match f with
  | .nx σw => ∀ σ, SR Z α H σw σ → D.nx σ H
  | .bk σw => ∀ σ, SR Z α H σw σ → D.bk σ H
  | .ct σw => ∀ σ, SR Z α H σw σ → D.ct σ H
  | .rt w => ∀ v, RelW Z α H w v → D.rt v H
def rS (Z : Zx) (X : XK) (m : S) : TS := fun D σ H => ∃ α he σw, HR Z α he H ∧ SR Z α H σw σ ∧ Got Z X α H (m σw he) (FlQ Z D)
def rF (Z : Zx) (p : Nat) (m : F) : Sp := fun vs H Q X => ∃ α he ws, HR Z α he H ∧ RelWs Z α H ws vs ∧ ws.length = p ∧ Got Z X α H (m ws he) fun w he' α' H' => ∀ v, RelW Z α' H' w v → Q v H'
theorem PE.weak {X : Cx} {e : Expr} {t t' : TE} (h : PE X e t) (w : ∀ σ H Q, t' σ H Q → t σ H Q) : PE X e t' := ⟨fun pins s σ H Q I q => h.run pins s σ H Q I (w σ H Q q)⟩
theorem PT.weak {X : Cx} {e : Expr} {t t' : TT} (h : PT X e t) (w : ∀ σ H Q, t' σ H Q → t σ H Q) : PT X e t' := ⟨fun pins s σ H Q I q => h.run pins s σ H Q I (w σ H Q q)⟩
theorem PW.weak {X : Cx} {e : Expr} {t t' : TT} (h : PW X e t) (w : ∀ σ H Q, t' σ H Q → t σ H Q) : PW X e t' := ⟨fun wh pins s σ H Q I q => h.run wh pins s σ H Q I (w σ H Q q)⟩
theorem PA.weak {X : Cx} {e : List Expr} {t t' : TA} (h : PA X e t) (w : ∀ σ H Q, t' σ H Q → t σ H Q) : PA X e t' := ⟨fun pos pins s σ H Q I q => h.run pos pins s σ H Q I (w σ H Q q)⟩
theorem PO.weak {X : Cx} {e : Option Expr} {t t' : TO} (h : PO X e t) (w : ∀ σ H Q, t' σ H Q → t σ H Q) : PO X e t' := ⟨fun pins s σ H Q I q => h.run pins s σ H Q I (w σ H Q q)⟩
theorem PS.weak {X : Cx} {e : Stmt} {t t' : TS} (h : PS X e t) (w : ∀ D σ H, t' D σ H → t D σ H) : PS X e t' := ⟨fun pins s σ H D I q => h.run pins s σ H D I (w D σ H q)⟩
theorem PSs.weak {X : Cx} {e : List Stmt} {t t' : TS} (h : PSs X e t) (w : ∀ D σ H, t' D σ H → t D σ H) : PSs X e t' := ⟨fun pins s σ H D I q => h.run pins s σ H D I (w D σ H q)⟩
theorem PG.weak {X : Cx} {e : Expr} {t t' : TG} (h : PG X e t) (w : ∀ v σ H Q, t' v σ H Q → t v σ H Q) : PG X e t' := ⟨fun pins s σ H v u Q I r q => h.run pins s σ H v u Q I r (w v σ H Q q)⟩
theorem PGs.weak {X : Cx} {e : List Expr} {t t' : TGs} (h : PGs X e t) (w : ∀ v σ H Q, t' v σ H Q → t v σ H Q) : PGs X e t' := ⟨fun pins s σ H v u Q I r q => h.run pins s σ H v u Q I r (w v σ H Q q)⟩
end VE
end
section
set_option Elab.async false
set_option linter.all false
set_option autoImplicit false
set_option maxRecDepth 100000
namespace VE
open PySem PySem.Spec PyProof.Rows L2

section
variable {Z : Zx} {α α' : List Addr} {H H' : Hp} {he : He} {a p : Addr} {i : Nat} {o : EO}
theorem OR.tracked (h : OR Z α H a o) : ∃ u, H a = some u := by
  cases o with
  | lst ws => obtain ⟨vs, e, _⟩ := h; exact ⟨_, e⟩
  | ro ws =>
    obtain ⟨vs, e, _⟩ := h
    rcases e with e | ⟨o, e⟩
    · exact ⟨_, e⟩
    · exact ⟨_, e⟩
  | ins c fs => obtain ⟨dx, gs, e, _⟩ := h; exact ⟨_, e⟩
theorem OR.ext (h : OR Z α H a o) (x : Ext α α' H H') (e : H' a = H a) : OR Z α' H' a o := by
  cases o with
  | lst ws => obtain ⟨vs, q, r⟩ := h; exact ⟨vs, e.trans q, r.ext x⟩
  | ro ws =>
    obtain ⟨vs, q, r⟩ := h
    refine ⟨vs, ?_, r.ext x⟩
    rcases q with q | ⟨o, q⟩
    · exact .inl (e.trans q)
    · exact .inr ⟨o, e.trans q⟩
  | ins c fs => obtain ⟨dx, gs, q, r⟩ := h; exact ⟨dx, gs, e.trans q, r.ext x⟩
theorem HR.at_ (h : HR Z α he H) {o : EO} (e : he[i]? = some o) : ∃ a, α[i]? = some a ∧ OR Z α H a o := by
  obtain ⟨hi, _⟩ := List.getElem?_eq_some_iff.mp e
  have hi' : i < α.length := by rw [h.len]; exact hi
  exact ⟨α[i], by simp [hi'], h.obj i o _ e (by simp [hi'])⟩
theorem HR.at' (h : HR Z α he H) {o : EO} (e : he[i]? = some o) (e2 : α[i]? = some a) : OR Z α H a o := h.obj i o a e e2
theorem HR.trk (h : HR Z α he H) (m : a ∈ α) : ∃ u, H a = some u := by
  obtain ⟨i, e⟩ := List.getElem?_of_mem m
  obtain ⟨hi, _⟩ := List.getElem?_eq_some_iff.mp e
  have hi' : i < he.length := by rw [← h.len]; exact hi
  exact (h.obj i he[i] a (by simp [hi']) e).tracked
theorem HR.out (h : HR Z α he H) (n : H p = none) : p ∉ α := fun m => by
  obtain ⟨u, e⟩ := h.trk m
  rw [n] at e; cases e
theorem HR.same (h : HR Z α he H) (x : Ext α α H H') (e : ∀ a, a ∈ α → H' a = H a) : HR Z α he H' :=
  ⟨h.len, h.nd, fun i o a e1 e2 => (h.obj i o a e1 e2).ext x (e a (List.mem_of_getElem? e2))⟩
theorem Ext.fresh {u : HO} (hp : H p = none) : Ext α α H (upd H p u) :=
  ⟨fun _ _ q => q, fun a o q _ => by rw [upd_ne (ne_of_none q hp)]; exact q, fun _ q n => absurd q n, Nat.le_refl _⟩
theorem HR.fresh (h : HR Z α he H) {u : HO} (hp : H p = none) : HR Z α he (upd H p u) := h.same (.fresh hp) fun a m => upd_ne fun e => h.out hp (e ▸ m)
theorem Ext.new' {u : HO} (hp : H p = none) : Ext α (α ++ [p]) H (upd H p u) :=
  ⟨fun i a q => by
      obtain ⟨hi, e⟩ := List.getElem?_eq_some_iff.mp q
      rw [List.getElem?_append_left hi]; exact q,
    fun a o q _ => by rw [upd_ne (ne_of_none q hp)]; exact q,
    fun a q n => by
      rcases List.mem_append.mp q with z | z
      · exact absurd z n
      · simp at z; subst z; exact hp,
    by simp⟩
theorem HR.new' (h : HR Z α he H) {u : HO} (hp : H p = none) (q : OR Z (α ++ [p]) (upd H p u) p o) : HR Z (α ++ [p]) (he ++ [o]) (upd H p u) := by
  refine ⟨by simp [h.len], ?_, fun i o' a e1 e2 => ?_⟩
  · refine List.nodup_append.mpr ⟨h.nd, by simp, fun x hx y hy e => ?_⟩
    simp at hy
    exact h.out hp (hy ▸ e ▸ hx)
  · by_cases hi : i < he.length
    · rw [List.getElem?_append_left hi] at e1
      rw [List.getElem?_append_left (by rw [h.len]; exact hi)] at e2
      exact (h.obj i o' a e1 e2).ext (.new' hp) (upd_ne fun e => h.out hp (e ▸ List.mem_of_getElem? e2))
    · have hi2 : i = he.length := by
        have := (List.getElem?_eq_some_iff.mp e1).1
        simp at this; omega
      subst hi2
      rw [List.getElem?_append_right (Nat.le_refl _)] at e1
      rw [← h.len, List.getElem?_append_right (Nat.le_refl _)] at e2
      simp at e1 e2
      subst e1; subst e2
      exact q
theorem at_new : (α ++ [p])[α.length]? = some p := by simp
theorem HR.ref_new (h : HR Z α he H) : RelW Z (α ++ [p]) H' (.ref he.length) (.ref p) := .ref (by rw [← h.len]; exact at_new)
theorem Ext.put {u u0 : HO} (e : α[i]? = some a) (q : H a = some u0) (m : Mut (some u0)) : Ext α α H (upd H a u) :=
  ⟨fun _ _ q => q, fun b o q1 c => by
      by_cases z : b = a
      · subst z
        rw [q] at q1; cases q1
        rcases c with c | c
        · exact absurd (List.mem_of_getElem? e) c
        · exact absurd m c
      · rw [upd_ne z]; exact q1,
    fun _ q n => absurd q n, Nat.le_refl _⟩
theorem nodupIx {γ : Type} {l : List γ} (hN : l.Nodup) {i j : Nat} {x : γ} (a : l[i]? = some x) (b : l[j]? = some x) : i = j := by
  obtain ⟨h1, e1⟩ := List.getElem?_eq_some_iff.mp a
  obtain ⟨h2, e2⟩ := List.getElem?_eq_some_iff.mp b
  exact (List.getElem_inj hN).mp (e1.trans e2.symm)
theorem HR.put (h : HR Z α he H) {u u0 : HO} (e : α[i]? = some a) (q : H a = some u0) (m : Mut (some u0)) (w : OR Z α (upd H a u) a o) : HR Z α (he.set i o) (upd H a u) := by
  refine ⟨by simp [h.len], h.nd, fun j o' b e1 e2 => ?_⟩
  by_cases z : j = i
  · subst z
    rw [e] at e2; cases e2
    have hj : j < he.length := by
      have := (List.getElem?_eq_some_iff.mp e1).1
      simpa using this
    rw [List.getElem?_set_self hj] at e1
    cases e1
    exact w
  · rw [List.getElem?_set_ne (Ne.symm z)] at e1
    refine (h.obj j o' b e1 e2).ext (.put e q m) (upd_ne fun x => ?_)
    subst x
    exact z (nodupIx h.nd e2 e)
theorem RelWs.ofInts : ∀ (ns : List Int), RelWs Z α H (ns.map W.int) (ns.map V.int)
  | [] => .nil
  | x :: xs => .cons (.int x) (RelWs.ofInts xs)
theorem HR.lst (h : HR Z α he H) {ws : List W} (e : he[i]? = some (.lst ws)) (e2 : α[i]? = some a) : ∃ vs, H a = some (.lst vs) ∧ RelWs Z α H ws vs := h.obj i _ a e e2
theorem HR.list (h : HR Z α he H) {w : W} {v : V} {ws : List W} (r : RelW Z α H w v) (e : lstOf he w = some ws) : ∃ a vs, v = .ref a ∧ SqL Z.K H a vs ∧ RelWs Z α H ws vs := by
  cases r with
  | ref q =>
    rename_i i a
    cases e3 : he[i]? with
    | none => simp only [lstOf, e3] at e; cases e
    | some o =>
      simp only [lstOf, e3] at e
      cases o with
      | lst xs =>
        cases e
        obtain ⟨vs, q1, q2⟩ := h.at' e3 q
        exact ⟨a, vs, rfl, .of q1, q2⟩
      | ro xs =>
        cases e
        obtain ⟨vs, q1, q2⟩ := h.at' e3 q
        exact ⟨a, vs, rfl, .inl q1, q2⟩
      | ins c fs => cases e
  | kl q =>
    cases e
    exact ⟨_, _, rfl, .inr q, RelWs.ofInts _⟩
  | _ => cases e
theorem HR.seq (h : HR Z α he H) {w : W} {v : V} {ws : List W} (r : RelW Z α H w v) (e : seqOf he w = some ws) : ∃ a vs, v = .ref a ∧ (SqL Z.K H a vs ∨ SqT Z.K H a vs) ∧ RelWs Z α H ws vs := by
  cases r with
  | tup q1 q2 => cases e; exact ⟨_, _, rfl, .inr q1, q2⟩
  | ref q =>
    obtain ⟨a, vs, e1, e2, e3⟩ := h.list (.ref q) (show lstOf he (.ref _) = some ws from e)
    exact ⟨a, vs, e1, .inl e2, e3⟩
  | kl q =>
    obtain ⟨a, vs, e1, e2, e3⟩ := h.list (.kl q) (show lstOf he (.kl _) = some ws from e)
    exact ⟨a, vs, e1, .inl e2, e3⟩
  | _ => cases e
theorem HR.truth (h : HR Z α he H) {w : W} {v : V} {k : Bool} (r : RelW Z α H w v) (e : truth he w = some k) : TruV Z.K v H k := by
  cases r with
  | non => cases e; rfl
  | bl b => cases e; rfl
  | int j => cases e; rfl
  | str x =>
    by_cases z : x.length ≤ sizeLine
    · simp only [VE.truth, if_pos z] at e; cases e; exact ⟨z, rfl⟩
    · simp only [VE.truth, if_neg z] at e; cases e
  | tup q1 q2 =>
    cases e
    exact .inr (.inl ⟨_, q1, congrArg not q2.isEmpty⟩)
  | ref q =>
    rename_i j a
    have e : (seqOf he (.ref j)).map (fun xs => !xs.isEmpty) = some k := e
    cases e2 : seqOf he (.ref j) with
    | none => rw [e2] at e; cases e
    | some ws =>
      rw [e2] at e; cases e
      obtain ⟨a', vs, e1, e3, e4⟩ := h.list (.ref q) (show lstOf he (.ref j) = some ws from e2)
      cases e1
      exact .inl ⟨vs, e3, congrArg not e4.isEmpty⟩
  | kl q =>
    cases e
    obtain ⟨a', vs, e1, e3, e4⟩ := h.list (.kl q) rfl
    cases e1
    exact .inl ⟨vs, e3, congrArg not e4.isEmpty⟩
end

section
variable {Z : Zx} {X : XK} {α : List Addr} {H : Hp} {he : He} {ws : List W} {vs : List V} {Q : VK}
abbrev QE (Z : Zx) (Q : VK) : W → He → List Addr → Hp → Prop := fun w he α H => ∀ v, RelW Z α H w v → Q v H
theorem got_lst (hr : HR Z α he H) (r : RelWs Z α H ws vs) (h : Got Z X α H (.ok (W.ref he.length) (he ++ [EO.lst ws])) (QE Z Q)) : ∀ p, H p = none → Q (.ref p) (upd H p (.lst vs)) := fun p hp =>
  h _ _ (.new' hp) (hr.new' hp ⟨vs, upd_same, r.ext (.new' hp)⟩) _ hr.ref_new
theorem got_tup (hr : HR Z α he H) (r : RelWs Z α H ws vs) (h : Got Z X α H (.ok (W.tup ws) he) (QE Z Q)) : ∀ p, H p = none → Q (.ref p) (upd H p (.tup vs)) := fun p hp =>
  h _ _ (.fresh hp) (hr.fresh hp) _ (.tup (.of upd_same) (r.ext (.fresh hp)))
theorem got_val {w : W} {v : V} (hr : HR Z α he H) (r : RelW Z α H w v) (h : Got Z X α H (.ok w he) (QE Z Q)) : Q v H := h α H .refl hr v r
theorem got_put {i : Nat} {a : Addr} {vs0 : List V} {w : W} {v : V} (hr : HR Z α he H) (e : α[i]? = some a) (q : H a = some (.lst vs0)) (r : RelWs Z α H ws vs) (rv : ∀ H', Ext α α H H' → RelW Z α H' w v)
    (h : Got Z X α H (.ok w (he.set i (.lst ws))) (QE Z Q)) : Q v (upd H a (.lst vs)) :=
  h _ _ (.put e q True.intro) (hr.put e q True.intro ⟨vs, upd_same, r.ext (.put e q True.intro)⟩) _ (rv _ (.put e q True.intro))
end

section
variable {Z : Zx} {B : XK} {X : Cx} {e a b c : Expr} {es : List Expr} {pos : Pos}
theorem e_var {i : Nat} {x : Str} (hN : X.N[i]? = some x) (hv : Vis X.env.scope x) (hd : (x == ("__debug__" : Str)) = false := by decide) (hcd : (x == ("__classdict__" : Str)) = false := by decide) : PE X (.Name x pos) (rE Z B (eV i)) :=
  PE.weak (pe_var hN hv hd hcd) fun σ H Q ⟨α, he, σw, hr, sr, g⟩ => by
    unfold eV at g
    cases q : σw[i]? with
    | none => rw [q] at g; exact g.elim
    | some o =>
      cases o with
      | none => rw [q] at g; exact g.elim
      | some w =>
        rw [q] at g
        obtain ⟨v, e1, r⟩ := sr.at_ i w q
        exact ⟨v, e1, got_val hr r g⟩
theorem e_c {v : V} {w : W} (h : PE X e (tC v)) (r : ∀ α H, RelW Z α H w v) : PE X e (rE Z B (eK w)) :=
  PE.weak h fun σ H Q ⟨α, he, σw, hr, sr, g⟩ => got_val hr (r _ _) g
theorem e_int {i j pos} : PE X (.Constant (.int i) j pos) (rE Z B (eK (.int i))) := e_c pe_int fun _ _ => .int i
theorem e_bl {i j pos} : PE X (.Constant (.bool i) j pos) (rE Z B (eK (.bl i))) := e_c pe_bl fun _ _ => .bl i
theorem e_non {j pos} : PE X (.Constant .none j pos) (rE Z B (eK .non)) := e_c pe_non fun _ _ => .non
theorem e_str {x j pos} : PE X (.Constant (.str x) j pos) (rE Z B (eK (.str x))) := e_c pe_str fun _ _ => .str x
theorem e_gint {x : Str} {i : Int} {t : Tok} (hg : Gl X x) (hm : X.mg x = some (.int i t)) (hd : (x == ("__debug__" : Str)) = false := by decide) : PE X (.Name x pos) (rE Z B (eK (.int i))) := e_c (pe_glob (v := .int i) hg hm ⟨t, rfl⟩ hd) fun _ _ => .int i
theorem e_gstr {x y : Str} {t : Tok} (hg : Gl X x) (hm : X.mg x = some (.str y t)) (hd : (x == ("__debug__" : Str)) = false := by decide) : PE X (.Name x pos) (rE Z B (eK (.str y))) := e_c (pe_glob (v := .str y) hg hm ⟨t, rfl⟩ hd) fun _ _ => .str y
theorem a_nil : PA X [] (rA Z B esN) := PA.weak pa_nil fun σ H Q ⟨α, he, σw, hr, sr, g⟩ => g α H .refl hr _ .nil
theorem a_cons {m : E} {ms : ES} (ha : PE X e (rE Z B m)) (hb : PA X es (rA Z B ms)) (hs : starEach (e :: es) X.env = (false, eval e X.env) :: starEach es X.env := by rfl) : PA X (e :: es) (rA Z B (esC m ms)) :=
  PA.weak (pa_cons ha hb hs) fun σ H Q ⟨α, he, σw, hr, sr, g⟩ =>
    ⟨α, he, σw, hr, sr, (Got.bind g).imp fun w he1 α1 H1 x1 hr1 g1 v r => ⟨α1, he1, σw, hr1, sr.ext x1, (Got.bind g1).imp fun ws he2 α2 H2 x2 hr2 g2 vs rs => g2 α2 H2 .refl hr2 _ (.cons (r.ext x2) rs)⟩⟩
theorem small1000 {n : Nat} (h : n ≤ 1000) : n ≤ sizeLine := by rw [sizeLine_eq]; omega
theorem e_tup {ms : ES} {x1} (h : PA X es (rA Z B ms)) : PE X (.Tuple es x1 pos) (rE Z B (eTup ms)) :=
  PE.weak (pe_tup h) fun σ H Q ⟨α, he, σw, hr, sr, g⟩ => ⟨α, he, σw, hr, sr, (Got.bind g).imp fun ws he1 α1 H1 x1 hr1 g1 vs r => by
    by_cases z : ws.length ≤ 1000
    · rw [if_pos z] at g1
      exact ⟨by rw [← r.length]; exact small1000 z, got_tup hr1 r g1⟩
    · rw [if_neg z] at g1; exact g1.elim⟩
theorem e_lst {ms : ES} (h : PA X es (rA Z B ms)) : PE X (.List es pos) (rE Z B (eLst ms)) :=
  PE.weak (pe_lst h) fun σ H Q ⟨α, he, σw, hr, sr, g⟩ => ⟨α, he, σw, hr, sr, (Got.bind g).imp fun ws he1 α1 H1 x1 hr1 g1 vs r => by
    by_cases z : ws.length ≤ 1000
    · rw [if_pos z] at g1
      exact ⟨by rw [← r.length]; exact small1000 z, got_lst hr1 r g1⟩
    · rw [if_neg z] at g1; exact g1.elim⟩

def Op (Z : Zx) (B : XK) (f : He → W → W → Rs W) (r : R2) : Prop := ∀ α he H x y vx vy Q, HR Z α he H → RelW Z α H x vx → RelW Z α H y vy → Got Z B α H (f he x y) (QE Z Q) → r vx vy H Q
theorem two {ma mb : E} {f : He → W → W → Rs W} {r : R2} (o : Op Z B f r) : ∀ σ H Q, rE Z B (fun σ h => (ma σ h).bind fun x h => (mb σ h).bind fun y h => f h x y) σ H Q → tOp r (rE Z B ma) (rE Z B mb) σ H Q := fun σ H Q ⟨α, he, σw, hr, sr, g⟩ =>
  ⟨α, he, σw, hr, sr, (Got.bind g).imp fun w he1 α1 H1 x1 hr1 g1 v r1 => ⟨α1, he1, σw, hr1, sr.ext x1, (Got.bind g1).imp fun w2 he2 α2 H2 x2 hr2 g2 v2 r2 => o _ _ _ _ _ _ _ _ hr2 (r1.ext x2) r2 g2⟩⟩
theorem e_bin {ma mb : E} {op : Operator} {o : Op2} {r : R2} (ho : OpR X (binaryOp op) r) (hq : Op Z B (fun h x y => binW h o x y) r) (ha : PE X a (rE Z B ma)) (hb : PE X b (rE Z B mb)) : PE X (.BinOp a op b pos) (rE Z B (eBin o ma mb)) :=
  PE.weak (pe_op ho ha hb) (two hq)
end
end VE
end
section
set_option Elab.async false
set_option linter.all false
set_option autoImplicit false
set_option maxRecDepth 100000
namespace VE
open PySem PySem.Spec PyProof.Rows L2

section
variable {Z : Zx} {B : XK} {α α' : List Addr} {H H' : Hp} {β δ : Type} {r : Rs β}
theorem Got.of_bind {f : β → He → Rs δ} {Q : δ → He → List Addr → Hp → Prop} (h : Got Z B α H r fun b he α' H' => Got Z B α' H' (f b he) Q) (hx : ∀ b he, r = .ok b he → HR Z α he H) : Got Z B α H (r.bind f) Q := by
  cases r with
  | ok b he => exact h α H .refl (hx b he rfl)
  | ex c fs he => exact h
  | bad => exact h
end

section
variable {Z : Zx} {B : XK} {X : Cx} {e a b c d : Expr} {es rest : List Expr} {pos : Pos}
theorem op_int {o : Op2} {C : Int → Int → Prop} [∀ i j, Decidable (C i j)] {g : Int → Int → Int} (hf : ∀ h x y, binW h o x y = match x, y with
    | .int i, .int j => if C i j then .ok (.int (g i j)) h else .bad
    | _, _ => .bad) {r : R2} (hr : ∀ i j H Q, C i j → Q (.int (g i j)) H → r (.int i) (.int j) H Q) : Op Z B (fun h x y => binW h o x y) r := fun α he H x y vx vy Q hr' rx ry g0 => by
  simp only [hf] at g0
  cases rx <;> cases ry <;> first
    | exact g0.elim
    | (rename_i i j
       have g0 : Got Z B α H (if C i j then Rs.ok (W.int (g i j)) he else Rs.bad) (QE Z Q) := g0
       by_cases z : C i j
       · rw [if_pos z] at g0
         exact hr _ _ _ _ z (got_val hr' (.int _) g0)
       · rw [if_neg z] at g0; exact g0.elim)
theorem w_sub : Op Z B (fun h x y => binW h .sub x y) (rI0 fun i j => .int (i - j)) := op_int (C := fun _ _ => True) (g := fun i j => i - j) (fun h x y => by cases x <;> cases y <;> simp [binW]) fun i j H Q _ q => ⟨i, j, rfl, rfl, q⟩
theorem w_fdiv : Op Z B (fun h x y => binW h .fdiv x y) (rI CDivW fun i j => .int (i / j)) := op_int (C := fun _ j => 0 < j ∧ j.natAbs.log2 < 8000) (g := fun i j => i / j) (fun h x y => by cases x <;> cases y <;> simp [binW]) fun i j H Q c q => ⟨i, j, rfl, rfl, ⟨c.1, by have := c.2; omega⟩, q⟩
theorem w_mod : Op Z B (fun h x y => binW h .mod x y) (rI (fun _ j => 0 < j) fun i j => .int (i % j)) := op_int (C := fun _ j => 0 < j) (g := fun i j => i % j) (fun h x y => by cases x <;> cases y <;> simp [binW]) fun i j H Q c q => ⟨i, j, rfl, rfl, c, q⟩
theorem w_pow : Op Z B (fun h x y => binW h .pow x y) (rI CPow fun i j => .int (i ^ j.toNat)) := op_int (C := fun i j => 0 ≤ j ∧ j ≤ 1000000 ∧ i.natAbs < 2 ^ 64) (g := fun i j => i ^ j.toNat) (fun h x y => by cases x <;> cases y <;> simp [binW]) fun i j H Q c q => ⟨i, j, rfl, rfl, c, q⟩
theorem w_shl : Op Z B (fun h x y => binW h .shl x y) (rI CPow fun i j => .int (i * 2 ^ j.toNat)) := op_int (C := fun i j => 0 ≤ j ∧ j ≤ 1000000 ∧ i.natAbs < 2 ^ 64) (g := fun i j => i * 2 ^ j.toNat) (fun h x y => by cases x <;> cases y <;> simp [binW]) fun i j H Q c q => ⟨i, j, rfl, rfl, c, q⟩
def CMulX (i j : Int) : Prop := i.natAbs.log2 + j.natAbs.log2 < 3000000
theorem bits_log (x : Int) : Builtin.Int.intBits x ≤ x.natAbs.log2 + 1 := by
  unfold Builtin.Int.intBits
  by_cases z : (x == 0) = true
  · rw [if_pos z]; exact Nat.zero_le _
  · rw [if_neg z]; exact Nat.le_refl _
theorem CMulX.fits {i j : Int} (h : CMulX i j) : IntMulOk i j := by
  unfold CMulX at h
  intro z
  have z2 := (Bool.and_eq_true_iff.mp z).2
  unfold Builtin.Int.intTooBig at z2
  have z3 := of_decide_eq_true z2
  have eb : bitsLine = 134217728 := by decide
  have := bits_log i
  have := bits_log j
  omega
theorem op_mulX : OpR X (binaryOp .Mult) (rI CMulX fun i j => .int (i * j)) := opI fun _ _ _ _ _ _ _ c q => mul_int q c.fits
def rMul (K : PySem.W.Frag) : R2 := fun x y H Q => rI CMulX (fun i j => .int (i * j)) x y H Q ∨ rRepT K x y H Q
theorem o_mul : OpR X (binaryOp .Mult) (rMul X.K) := op_mulX.or op_repT
theorem w_mul : Op Z B (fun h x y => binW h .mul x y) (rMul Z.K) := fun α he H x y vx vy Q hr rx ry g => by
  cases rx <;> cases ry <;> simp only [binW] at g <;> first
    | exact g.elim
    | skip
  · rename_i i j
    by_cases z : i.natAbs.log2 + j.natAbs.log2 < 3000000
    · rw [if_pos z] at g
      exact .inl ⟨i, j, rfl, rfl, by unfold CMulX; omega, got_val hr (.int _) g⟩
    · rw [if_neg z] at g; exact g.elim
  · rename_i ws a vs q1 q2 k
    by_cases z : ws.isEmpty = false ∧ 2 ≤ k ∧ k ≤ 1000 ∧ ws.length ≤ 1000
    · rw [if_pos z] at g
      obtain ⟨z1, z2, z3, z4⟩ := z
      refine .inr ⟨a, k, vs, rfl, rfl, q1, ?_, z2, z3, by rw [← q2.length]; exact z4, got_tup hr (q2.rep _) g⟩
      intro e; subst e; cases q2; cases z1
    · rw [if_neg z] at g; exact g.elim
def rAddW (K : PySem.W.Frag) : R2 := fun x y H Q => (∃ i j, x = .int i ∧ y = .int j ∧ Q (.int (i + j)) H) ∨ (∃ i j, x = .str i ∧ y = .str j ∧ i.length + j.length ≤ sizeLine ∧ Q (.str (i ++ j)) H) ∨ rCatT K x y H Q ∨ rCat x y H Q
theorem o_add : OpR X (binaryOp .Add) (rAddW X.K) := op_add.or (op_add_str.or (op_catT.or op_cat))
theorem w_add : Op Z B (fun h x y => binW h .add x y) (rAddW Z.K) := fun α he H x y vx vy Q hr rx ry g => by
  cases rx <;> cases ry <;> simp only [binW] at g <;> first
    | exact g.elim
    | skip
  · exact .inl ⟨_, _, rfl, rfl, got_val hr (.int _) g⟩
  · rename_i x y
    by_cases z : x.length + y.length ≤ sizeLine
    · rw [if_pos z] at g
      exact .inr (.inl ⟨_, _, rfl, rfl, z, got_val hr (.str _) g⟩)
    · rw [if_neg z] at g; exact g.elim
  · rename_i ws a vs q1 q2 xs b ys q3 q4
    by_cases z : ws.length + xs.length ≤ sizeLine ∧ ws.isEmpty = false
    · rw [if_pos z] at g
      obtain ⟨z1, z2⟩ := z
      refine .inr (.inr (.inl ⟨a, b, vs, ys, rfl, rfl, q1, q3, ?_, by rw [← q2.length, ← q4.length]; exact z1, fun e => ?_, fun _ => got_tup hr (q2.append q4) g⟩))
      · intro e; subst e; cases q2; cases z2
      · subst e; cases q4
        rw [List.append_nil] at g
        exact got_val hr (.tup q1 q2) g
    · rw [if_neg z] at g; exact g.elim
  · rename_i i a q1 j b q2
    cases e1 : he[i]? with
    | none => simp only [e1] at g; exact g.elim
    | some o1 =>
      cases e2 : he[j]? with
      | none => simp only [e1, e2] at g; cases o1 <;> exact g.elim
      | some o2 =>
        cases o1 <;> cases o2 <;> simp only [e1, e2] at g <;> first
          | exact g.elim
          | skip
        rename_i xs ys
        by_cases z : xs.length + ys.length ≤ sizeLine
        · rw [if_pos z] at g
          obtain ⟨vs, h1, r1⟩ := hr.at' e1 q1
          obtain ⟨us, h2, r2⟩ := hr.at' e2 q2
          exact .inr (.inr (.inr ⟨a, b, vs, us, rfl, rfl, h1, h2, by rw [← r1.length, ← r2.length]; exact z, got_lst hr (r1.append r2) g⟩))
        · rw [if_neg z] at g; exact g.elim
theorem e_add {ma mb : E} (hK : X.K = Z.K) (ha : PE X a (rE Z B ma)) (hb : PE X b (rE Z B mb)) : PE X (.BinOp a .Add b pos) (rE Z B (eBin .add ma mb)) := e_bin (r := rAddW Z.K) (hK ▸ o_add) w_add ha hb
theorem e_sub {ma mb : E} (ha : PE X a (rE Z B ma)) (hb : PE X b (rE Z B mb)) : PE X (.BinOp a .Sub b pos) (rE Z B (eBin .sub ma mb)) := e_bin op_sub w_sub ha hb
theorem e_mul {ma mb : E} (hK : X.K = Z.K) (ha : PE X a (rE Z B ma)) (hb : PE X b (rE Z B mb)) : PE X (.BinOp a .Mult b pos) (rE Z B (eBin .mul ma mb)) := e_bin (r := rMul Z.K) (hK ▸ o_mul) w_mul ha hb
theorem e_fdiv {ma mb : E} (ha : PE X a (rE Z B ma)) (hb : PE X b (rE Z B mb)) : PE X (.BinOp a .FloorDiv b pos) (rE Z B (eBin .fdiv ma mb)) := e_bin op_fdivW w_fdiv ha hb
theorem e_mod {ma mb : E} (ha : PE X a (rE Z B ma)) (hb : PE X b (rE Z B mb)) : PE X (.BinOp a .Mod b pos) (rE Z B (eBin .mod ma mb)) := e_bin op_mod w_mod ha hb
theorem e_pow {ma mb : E} (ha : PE X a (rE Z B ma)) (hb : PE X b (rE Z B mb)) : PE X (.BinOp a .Pow b pos) (rE Z B (eBin .pow ma mb)) := e_bin op_pow w_pow ha hb
theorem e_shl {ma mb : E} (ha : PE X a (rE Z B ma)) (hb : PE X b (rE Z B mb)) : PE X (.BinOp a .LShift b pos) (rE Z B (eBin .shl ma mb)) := e_bin op_shl w_shl ha hb
theorem e_neg {ma : E} (ha : PE X a (rE Z B ma)) : PE X (.UnaryOp .USub a pos) (rE Z B (eNeg ma)) :=
  PE.weak (pe_un un_neg ha) fun σ H Q ⟨α, he, σw, hr, sr, g⟩ => ⟨α, he, σw, hr, sr, (Got.bind g).imp fun w he1 α1 H1 x1 hr1 g1 v r1 => by
    cases r1 <;> first
      | exact ⟨_, rfl, got_val hr1 (.int _) g1⟩
      | exact g1.elim⟩

def Cp (Z : Zx) (o : Cm) (r : R2) : Prop := ∀ α he H x y vx vy k (Q : VK), HR Z α he H → RelW Z α H x vx → RelW Z α H y vy → cmpW he o x y = some k → Q (.bl k) H → r vx vy H Q
theorem eqS_scal {α : List Addr} {H : Hp} {x y : W} {vx vy : V} {k : Bool} (rx : RelW Z α H x vx) (ry : RelW Z α H y vy) (e : eqS x y = some k) : scal vx vy = true ∧ decide (vx = vy) = k := by
  cases rx <;> cases ry <;> first
    | (exfalso; cases e; done)
    | (cases e; exact ⟨rfl, by simp⟩)
theorem c_eq : Cp Z .eq rEq := fun α he H x y vx vy k Q hr rx ry e q => by
  obtain ⟨e1, e2⟩ := eqS_scal rx ry e
  exact ⟨e1, e2 ▸ q⟩
theorem c_ne : Cp Z .ne rNe := fun α he H x y vx vy k Q hr rx ry e q => by
  have e : (eqS x y).map not = some k := by cases x <;> cases y <;> exact e
  cases e3 : eqS x y with
  | none => rw [e3] at e; cases e
  | some k' =>
    rw [e3] at e
    cases e
    obtain ⟨e1, e2⟩ := eqS_scal rx ry e3
    exact ⟨e1, e2 ▸ q⟩
theorem c_lt : Cp Z .lt (rI0 fun i j => .bl (decide (i < j))) := fun α he H x y vx vy k Q hr rx ry e q => by
  cases rx <;> cases ry <;> first
    | (exfalso; cases e; done)
    | (cases e; exact ⟨_, _, rfl, rfl, q⟩)
theorem c_le : Cp Z .le (rI0 fun i j => .bl (decide (i ≤ j))) := fun α he H x y vx vy k Q hr rx ry e q => by
  cases rx <;> cases ry <;> first
    | (exfalso; cases e; done)
    | (cases e; exact ⟨_, _, rfl, rfl, q⟩)
theorem c_gt : Cp Z .gt (rI0 fun i j => .bl (decide (j < i))) := fun α he H x y vx vy k Q hr rx ry e q => by
  cases rx <;> cases ry <;> first
    | (exfalso; cases e; done)
    | (cases e; exact ⟨_, _, rfl, rfl, q⟩)
theorem c_ge : Cp Z .ge (rI0 fun i j => .bl (decide (j ≤ i))) := fun α he H x y vx vy k Q hr rx ry e q => by
  cases rx <;> cases ry <;> first
    | (exfalso; cases e; done)
    | (cases e; exact ⟨_, _, rfl, rfl, q⟩)
theorem c_isN : Cp Z .isN (fun x y H Q => y = .non ∧ Q (.bl (decide (x = .non))) H) := fun α he H x y vx vy k Q hr rx ry e q => by
  cases ry <;> first
    | (exfalso; cases x <;> cases e; done)
    | (refine ⟨rfl, ?_⟩; cases rx <;> (cases e; exact q))
theorem c_notN : Cp Z .notN (fun x y H Q => y = .non ∧ Q (.bl (!decide (x = .non))) H) := fun α he H x y vx vy k Q hr rx ry e q => by
  cases ry <;> first
    | (exfalso; cases x <;> cases e; done)
    | (refine ⟨rfl, ?_⟩; cases rx <;> (cases e; exact q))
def rInW (K : PySem.W.Frag) (neg : Bool) : R2 := fun x y H Q => (∃ i j, x = .str i ∧ y = .str j ∧ Q (.bl (if neg then !(!(Builtin.Str.occurrences j i 0 j.length 1).isEmpty) else !(Builtin.Str.occurrences j i 0 j.length 1).isEmpty)) H) ∨ rIn K neg x y H Q
theorem inW_ok {α : List Addr} {he : He} {H : Hp} {x y : W} {vx vy : V} {k neg : Bool} {Q : VK} (hr : HR Z α he H) (rx : RelW Z α H x vx) (ry : RelW Z α H y vy) (e : inW he x y = some k) (q : Q (.bl (if neg then !k else k)) H) : rInW Z.K neg vx vy H Q := by
  have seq : (match flatW x, (seqOf he y).bind flatsW with
    | some v, some vs => some (L2.inV v vs)
    | _, _ => none) = some k → rInW Z.K neg vx vy H Q := fun e => by
    cases e1 : flatW x with
    | none => simp only [e1] at e; cases e
    | some u =>
      cases e2 : seqOf he y with
      | none => simp only [e1, e2, Option.bind_none] at e; cases e
      | some ws =>
        cases e3 : flatsW ws with
        | none => simp only [e1, e2, Option.bind_some, e3] at e; cases e
        | some us =>
          simp only [e1, e2, Option.bind_some, e3] at e
          obtain ⟨a, vs, h1, h2, h3⟩ := hr.seq ry e2
          obtain ⟨h4, h5⟩ := h3.flats e3
          have h6 := rx.flat e1
          cases e
          subst h4; subst h6; subst h1
          exact .inr ⟨a, vs, rfl, h2, flatW_flat e1, h5, q⟩
  cases rx <;> first
    | exact seq e
    | (cases ry <;> first
        | exact seq e
        | (cases e; exact .inl ⟨_, _, rfl, rfl, q⟩))
theorem c_in : Cp Z .in_ (rInW Z.K false) := fun α he H x y vx vy k Q hr rx ry e q => inW_ok hr rx ry (by cases x <;> cases y <;> exact e) q
theorem c_notIn : Cp Z .notIn (rInW Z.K true) := fun α he H x y vx vy k Q hr rx ry e q => by
  have e' : (inW he x y).map not = some k := by cases x <;> cases y <;> exact e
  cases e3 : inW he x y with
  | none => rw [e3] at e'; cases e'
  | some k' =>
    rw [e3] at e'
    cases e'
    exact inW_ok hr rx ry e3 q
theorem o_in : OpR X (compareOp .In) (rInW X.K false) := op_in_str.or op_in_seq
theorem o_notIn : OpR X (compareOp .NotIn) (rInW X.K true) := op_notin_str.or op_notIn_seq
theorem Cp.got {o : Cm} {r : R2} (c : Cp Z o r) {α : List Addr} {he : He} {H : Hp} {x y : W} {vx vy : V} {Q : Bool → He → List Addr → Hp → Prop} {Q' : VK} (hr : HR Z α he H) (rx : RelW Z α H x vx) (ry : RelW Z α H y vy) (g : Got Z B α H (cmpR he o x y) Q)
    (h : ∀ k, Q k he α H → Q' (.bl k) H) : r vx vy H Q' := by
  obtain ⟨k, e, q⟩ := Got.lift g hr
  exact c _ _ _ _ _ _ _ _ _ hr rx ry e (h k q)
theorem cmp_core {ma mb : E} {o : Cm} {r : R2} (hq : Cp Z o r) {Q : Bool → He → List Addr → Hp → Prop} {Q' : VK} {α : List Addr} {he : He} {σw : Sg} {σ : L2.St} {H : Hp} (hr : HR Z α he H) (sr : SR Z α H σw σ)
    (g : Got Z B α H (tCmp o ma mb σw he) Q) (h : ∀ k he α' H', HR Z α' he H' → Q k he α' H' → Q' (.bl k) H') : tOp r (rE Z B ma) (rE Z B mb) σ H Q' :=
  ⟨α, he, σw, hr, sr, (Got.bind g).imp fun w he1 α1 H1 x1 hr1 g1 v r1 => ⟨α1, he1, σw, hr1, sr.ext x1, (Got.bind g1).imp fun w2 he2 α2 H2 x2 hr2 g2 v2 r2 => hq.got hr2 (r1.ext x2) r2 g2 fun k q => h k _ _ _ hr2 q⟩⟩
theorem t_cmp {ma mb : E} {op : CmpOp} {o : Cm} {r : R2} (ho : OpR X (compareOp op) r) (hq : Cp Z o r) (ha : PE X a (rE Z B ma)) (hb : PE X b (rE Z B mb)) (hm : behindInMarks op b = false) : PT X (.Compare a [op] [b] pos) (rT Z B (tCmp o ma mb)) :=
  PT.weak (pt_cmpR ho ha hb hm) fun σ H Q ⟨α, he, σw, hr, sr, g⟩ => cmp_core hq hr sr g fun k he α' H' hr' q => ⟨k, rfl, q⟩
theorem e_cmp {ma mb : E} {op : CmpOp} {o : Cm} {r : R2} (ho : OpR X (compareOp op) r) (hq : Cp Z o r) (ha : PE X a (rE Z B ma)) (hb : PE X b (rE Z B mb)) (hm : behindInMarks op b = false) : PE X (.Compare a [op] [b] pos) (rE Z B (eB (tCmp o ma mb))) :=
  PE.weak (pe_cmpR ho ha hb hm) fun σ H Q ⟨α, he, σw, hr, sr, g⟩ => cmp_core hq hr sr (Got.bind g) fun k he α' H' hr' q => got_val hr' (.bl k) q
theorem ch2_core {ma mb mc : E} {o o' : Cm} {r r' : R2} (hq : Cp Z o r) (hq' : Cp Z o' r') {Q : Bool → He → List Addr → Hp → Prop} {Q' : VK} {α : List Addr} {he : He} {σw : Sg} {σ : L2.St} {H : Hp} (hr : HR Z α he H) (sr : SR Z α H σw σ)
    (g : Got Z B α H (tCh2 o o' ma mb mc σw he) Q) (h : ∀ k he α' H', HR Z α' he H' → Q k he α' H' → Q' (.bl k) H') : tChain r r' (rE Z B ma) (rE Z B mb) (rE Z B mc) σ H Q' :=
  ⟨α, he, σw, hr, sr, (Got.bind g).imp fun w he1 α1 H1 x1 hr1 g1 v r1 => ⟨α1, he1, σw, hr1, sr.ext x1, (Got.bind g1).imp fun w2 he2 α2 H2 x2 hr2 g2 v2 r2 => hq.got hr2 (r1.ext x2) r2 (Got.bind g2) fun k q => ⟨k, rfl, by
    cases k with
    | false => rw [if_neg Bool.false_ne_true]; exact h _ _ _ _ hr2 (Got.now q hr2)
    | true =>
      rw [if_pos rfl]
      exact ⟨α2, he2, σw, hr2, (sr.ext x1).ext x2, (Got.bind q).imp fun w3 he3 α3 H3 x3 hr3 g3 v3 r3 => hq'.got hr3 (r2.ext x3) r3 g3 fun k q => h k _ _ _ hr3 q⟩⟩⟩⟩
theorem t_ch2 {ma mb mc : E} {op op' : CmpOp} {o o' : Cm} {r r' : R2} (ho : OpR X (compareOp op) r) (ho' : OpR X (compareOp op') r') (hq : Cp Z o r) (hq' : Cp Z o' r') (ha : PE X a (rE Z B ma)) (hb : PE X b (rE Z B mb)) (hc : PE X c (rE Z B mc))
    (hm : lastMarks [op, op'] [b, c] = false := by with_unfolding_all rfl) : PT X (.Compare a [op, op'] [b, c] pos) (rT Z B (tCh2 o o' ma mb mc)) :=
  PT.weak (pt_chain ho ho' ha hb hc hm) fun σ H Q ⟨α, he, σw, hr, sr, g⟩ => ch2_core hq hq' hr sr g fun k he α' H' hr' q => ⟨k, rfl, q⟩
theorem e_ch2 {ma mb mc : E} {op op' : CmpOp} {o o' : Cm} {r r' : R2} (ho : OpR X (compareOp op) r) (ho' : OpR X (compareOp op') r') (hq : Cp Z o r) (hq' : Cp Z o' r') (ha : PE X a (rE Z B ma)) (hb : PE X b (rE Z B mb)) (hc : PE X c (rE Z B mc))
    (hm : lastMarks [op, op'] [b, c] = false := by with_unfolding_all rfl) : PE X (.Compare a [op, op'] [b, c] pos) (rE Z B (eB (tCh2 o o' ma mb mc))) :=
  PE.weak (pe_chain ho ho' ha hb hc hm) fun σ H Q ⟨α, he, σw, hr, sr, g⟩ => ch2_core hq hq' hr sr (Got.bind g) fun k he α' H' hr' q => got_val hr' (.bl k) q
end

section
variable {Z : Zx} {B : XK} {X : Cx} {e a b c d : Expr} {es rest : List Expr} {pos : Pos}
theorem t_val {m : E} (hK : X.K = Z.K) (ha : PE X a (rE Z B m)) (he : ∀ whole, isTrue a X.env whole = (do let v ← whole; standAt a.pos; holding [v] (truthy v)) := by intro _; rfl) : PT X a (rT Z B (tV m)) :=
  PT.weak (pt_truth ha he) fun σ H Q ⟨α, he, σw, hr, sr, g⟩ => ⟨α, he, σw, hr, sr, (Got.bind g).imp fun w he1 α1 H1 x1 hr1 g1 v r1 => by
    obtain ⟨k, e1, q⟩ := Got.lift g1 hr1
    exact ⟨k, hK ▸ hr1.truth r1 e1, q⟩⟩
theorem rT_sub {t : T} {f : T} {Q Q' : Bool → Hp → Prop} {α : List Addr} {he : He} {σw : Sg} {σ : L2.St} {H : Hp} (hr : HR Z α he H) (sr : SR Z α H σw σ) {R : Bool → He → List Addr → Hp → Prop} (g : Got Z B α H (t σw he) R)
    (h : ∀ k he α' H', Ext α α' H H' → HR Z α' he H' → SR Z α' H' σw σ → R k he α' H' → Q' k H') : rT Z B t σ H Q' :=
  ⟨α, he, σw, hr, sr, g.imp fun k he1 α1 H1 x1 hr1 q => h k _ _ _ x1 hr1 (sr.ext x1) q⟩
theorem t_not {t : T} (ha : PT X a (rT Z B t)) : PT X (.UnaryOp .Not a pos) (rT Z B (tNot t)) :=
  PT.weak (pt_not ha) fun σ H Q ⟨α, he, σw, hr, sr, g⟩ => rT_sub (f := t) (Q := Q) hr sr (Got.bind g) fun k he1 α1 H1 x1 hr1 sr1 q => Got.now q hr1
theorem w_and1 {t : T} (ha : PT X a (rT Z B t)) : PW X (.BoolOp .And [a] pos) (rT Z B t) := pw_and1 ha
theorem w_or1 {t : T} (ha : PT X a (rT Z B t)) : PW X (.BoolOp .Or [a] pos) (rT Z B t) := pw_or1 ha
theorem w_and {t u : T} (ha : PT X a (rT Z B t)) (hb : PW X (.BoolOp .And (b :: rest) pos) (rT Z B u)) : PW X (.BoolOp .And (a :: b :: rest) pos) (rT Z B (tAnd t u)) :=
  PW.weak (pw_and ha hb) fun σ H Q ⟨α, he, σw, hr, sr, g⟩ => rT_sub (f := t) (Q := Q) hr sr (Got.bind g) fun k he1 α1 H1 x1 hr1 sr1 q => by
    cases k with
    | true => rw [if_pos rfl]; exact ⟨α1, he1, σw, hr1, sr1, q⟩
    | false => rw [if_neg Bool.false_ne_true]; exact Got.now q hr1
theorem w_or {t u : T} (ha : PT X a (rT Z B t)) (hb : PW X (.BoolOp .Or (b :: rest) pos) (rT Z B u)) : PW X (.BoolOp .Or (a :: b :: rest) pos) (rT Z B (tOr t u)) :=
  PW.weak (pw_or ha hb) fun σ H Q ⟨α, he, σw, hr, sr, g⟩ => rT_sub (f := t) (Q := Q) hr sr (Got.bind g) fun k he1 α1 H1 x1 hr1 sr1 q => by
    cases k with
    | true => rw [if_pos rfl]; exact Got.now q hr1
    | false => rw [if_neg Bool.false_ne_true]; exact ⟨α1, he1, σw, hr1, sr1, q⟩
theorem e_one {op} {m : E} (ha : PE X a (rE Z B m)) : PE X (.BoolOp op [a] pos) (rE Z B m) := pe_one ha
theorem e_and {ma mb : E} (hK : X.K = Z.K) (ha : PE X a (rE Z B ma)) (hb : PE X (.BoolOp .And (b :: rest) pos) (rE Z B mb)) : PE X (.BoolOp .And (a :: b :: rest) pos) (rE Z B (eAnd ma mb)) :=
  PE.weak (pe_andT ha hb) fun σ H Q ⟨α, he, σw, hr, sr, g⟩ => ⟨α, he, σw, hr, sr, (Got.bind g).imp fun w he1 α1 H1 x1 hr1 g1 v r1 => by
    obtain ⟨k, e1, q⟩ := Got.lift (Got.bind g1) hr1
    refine ⟨k, hK ▸ hr1.truth r1 e1, ?_⟩
    cases k with
    | true => rw [if_pos rfl]; exact ⟨α1, he1, σw, hr1, sr.ext x1, q⟩
    | false => rw [if_neg Bool.false_ne_true]; exact got_val hr1 r1 q⟩
theorem e_or {ma mb : E} (hK : X.K = Z.K) (ha : PE X a (rE Z B ma)) (hb : PE X (.BoolOp .Or (b :: rest) pos) (rE Z B mb)) : PE X (.BoolOp .Or (a :: b :: rest) pos) (rE Z B (eOr ma mb)) :=
  PE.weak (pe_orT ha hb) fun σ H Q ⟨α, he, σw, hr, sr, g⟩ => ⟨α, he, σw, hr, sr, (Got.bind g).imp fun w he1 α1 H1 x1 hr1 g1 v r1 => by
    obtain ⟨k, e1, q⟩ := Got.lift (Got.bind g1) hr1
    refine ⟨k, hK ▸ hr1.truth r1 e1, ?_⟩
    cases k with
    | true => rw [if_pos rfl]; exact got_val hr1 r1 q
    | false => rw [if_neg Bool.false_ne_true]; exact ⟨α1, he1, σw, hr1, sr.ext x1, q⟩⟩
theorem e_not {m : E} (hK : X.K = Z.K) (ha : PE X a (rE Z B m)) : PE X (.UnaryOp .Not a pos) (rE Z B (eB (tNot (tV m)))) :=
  PE.weak (pe_notT ha) fun σ H Q ⟨α, he, σw, hr, sr, g⟩ => ⟨α, he, σw, hr, sr, (Got.bind (Got.bind (Got.bind g))).imp fun w he1 α1 H1 x1 hr1 g1 v r1 => by
    obtain ⟨k, e1, q⟩ := Got.lift g1 hr1
    exact ⟨k, hK ▸ hr1.truth r1 e1, got_val hr1 (.bl _) (Got.now q hr1)⟩⟩
theorem e_if {t : T} {ma mb : E} (hc : PT X c (rT Z B t)) (ha : PE X a (rE Z B ma)) (hb : PE X b (rE Z B mb)) : PE X (.IfExp c a b pos) (rE Z B (eIf t ma mb)) :=
  PE.weak (pe_ifExp hc ha hb) fun σ H Q ⟨α, he, σw, hr, sr, g⟩ => rT_sub (f := t) (Q := fun _ _ => True) hr sr (Got.bind g) fun k he1 α1 H1 x1 hr1 sr1 q => by
    cases k with
    | true => rw [if_pos rfl]; exact ⟨α1, he1, σw, hr1, sr1, q⟩
    | false => rw [if_neg Bool.false_ne_true]; exact ⟨α1, he1, σw, hr1, sr1, q⟩

theorem atI_w {α : Type} (xs : List α) (i : Int) : atW xs i = atI xs i := rfl
theorem e_ix {ma mb : E} (hK : X.K = Z.K) (ha : PE X a (rE Z B ma)) (hb : PE X b (rE Z B mb)) (hs : PlainIx b) : PE X (.Subscript a b pos) (rE Z B (eIx ma mb)) :=
  PE.weak (pe_ix (r := rIx Z.K) (hK ▸ ix_seq) ha hb hs) (two (f := fun h x y => match y with
    | .int i => Rs.lift (ixv h x i) h
    | _ => .bad) fun α he H x y vx vy Q hr rx ry g => by
    cases ry <;> first
      | exact g.elim
      | skip
    rename_i i
    obtain ⟨w, e, q⟩ := Got.lift g hr
    cases rx with
    | str z =>
      by_cases hz : z.length ≤ sizeLine
      · simp only [ixv, if_pos hz] at e
        cases e2 : atW z.cps.toList i with
        | none => rw [e2] at e; cases e
        | some c =>
          rw [e2] at e
          cases e
          exact .inr (.inr ⟨z, i, c, rfl, rfl, hz, e2, q _ (.str _)⟩)
      · simp only [ixv, if_neg hz] at e; cases e
    | tup q1 q2 =>
      obtain ⟨v, e3, r3⟩ := q2.at_ (show atW _ i = some w from e)
      exact .inr (.inl ⟨_, _, i, v, rfl, rfl, q1, e3, q _ r3⟩)
    | ref q1 =>
      rename_i j a'
      have e : (seqOf he (.ref j)).bind (fun xs => atW xs i) = some w := e
      cases e2 : seqOf he (.ref j) with
      | none => rw [e2] at e; cases e
      | some ws =>
        rw [e2] at e
        obtain ⟨a2, vs, h1, h2, h3⟩ := hr.list (.ref q1) (show lstOf he (.ref j) = some ws from e2)
        obtain ⟨v, e3, r3⟩ := h3.at_ (show atW ws i = some w from e)
        exact .inl ⟨a2, vs, i, v, h1, rfl, h2, e3, q _ r3⟩
    | kl q1 =>
      obtain ⟨a2, vs, h1, h2, h3⟩ := hr.list (.kl q1) rfl
      obtain ⟨v, e3, r3⟩ := h3.at_ (show atW _ i = some w from e)
      exact .inl ⟨a2, vs, i, v, h1, rfl, h2, e3, q _ r3⟩
    | _ => cases e)
theorem o_no : PO X none (rO Z B pNo) := PO.weak po_none fun σ H Q ⟨α, he, σw, hr, sr, g⟩ => Got.now g hr
theorem o_some {m : E} (ha : PE X a (rE Z B m)) : PO X (some a) (rO Z B (pSome m)) := PO.weak (po_some ha) fun σ H Q ⟨α, he, σw, hr, sr, g⟩ =>
  ⟨α, he, σw, hr, sr, (Got.bind g).imp fun w he1 α1 H1 x1 hr1 g1 v r1 => by
    cases r1 <;> first
      | exact g1.elim
      | exact ⟨_, rfl, Got.now g1 hr1⟩⟩
def rSlW (K : PySem.W.Frag) : V → Option Int → Option Int → Hp → VK → Prop := fun x lo hi H Q => rSlS x lo hi H Q ∨ rSlA K x lo hi H Q ∨ rSlL K x lo hi H Q
theorem sl_w : SlR X (rSlW X.K) := sl_str.or (sl_tupA.or sl_list)
theorem cut_whole {xs : List V} {lo hi : Option Int} (h : HT.sIx xs.length 0 lo = 0 ∧ HT.sIx xs.length xs.length hi = xs.length) : cutV xs lo hi = xs := by
  unfold cutV
  rw [h.1, h.2, List.drop_zero, Nat.sub_zero, List.take_length]
theorem e_sl {ma : E} {ml mh : EP} {lo hi : Option Expr} {p2 : Pos} (hK : X.K = Z.K) (ha : PE X a (rE Z B ma)) (hl : PO X lo (rO Z B ml)) (hh : PO X hi (rO Z B mh)) : PE X (.Subscript a (.Slice lo hi none p2) pos) (rE Z B (eSl ma ml mh)) :=
  PE.weak (pe_slice (r := rSlW Z.K) (hK ▸ sl_w) ha hl hh) fun σ H Q ⟨α, he, σw, hr, sr, g⟩ =>
    ⟨α, he, σw, hr, sr, (Got.bind g).imp fun w he1 α1 H1 x1 hr1 g1 v r1 => ⟨α1, he1, σw, hr1, sr.ext x1, (Got.bind g1).imp fun l he2 α2 H2 x2 hr2 g2 => ⟨α2, he2, σw, hr2, (sr.ext x1).ext x2, (Got.bind g2).imp fun u he3 α3 H3 x3 hr3 g3 => by
      have r3 := (r1.ext x2).ext x3
      cases r3 with
      | str z =>
        by_cases hz : z.length ≤ sizeLine
        · simp only [slW, if_pos hz] at g3
          exact .inl ⟨z, rfl, hz, got_val hr3 (.str _) g3⟩
        · simp only [slW, if_neg hz] at g3; exact g3.elim
      | tup q1 q2 =>
        refine .inr (.inl ⟨_, _, rfl, q1, fun hw => ?_, fun _ => got_tup hr3 (q2.cut l u) g3⟩)
        have q3 := q2.cut l u
        rw [cut_whole hw] at q3
        exact got_val hr3 (.tup q1 q3) g3
      | ref q1 =>
        rename_i j a'
        cases e2 : lstOf he3 (.ref j) with
        | none => simp only [slW, e2] at g3; exact g3.elim
        | some ws =>
          simp only [slW, e2] at g3
          obtain ⟨a2, vs, h1, h2, h3⟩ := hr3.list (.ref q1) e2
          exact .inr (.inr ⟨a2, vs, h1, h2, got_lst hr3 (h3.cut l u) g3⟩)
      | kl q1 =>
        obtain ⟨a2, vs, h1, h2, h3⟩ := hr3.list (.kl q1) rfl
        exact .inr (.inr ⟨a2, vs, h1, h2, got_lst hr3 (h3.cut l u) g3⟩)
      | _ => exact g3.elim⟩⟩⟩
end
end VE
end
section
set_option Elab.async false
set_option linter.all false
set_option autoImplicit false
set_option maxRecDepth 100000
namespace VE
open PySem PySem.Spec PyProof.Rows L2

section
variable {Z : Zx} {α α' : List Addr} {H H' : Hp} {he : He}
theorem RelF.get {fs : List (Nat × W)} {gs : List (Str × V)} (h : RelF Z α H fs gs) {k : Nat} {x : Str} (hx : Z.nms[k]? = some x) : match fgetW fs k with
    | some w => ∃ v, gs.lookup x = some v ∧ RelW Z α H w v
    | none => gs.lookup x = none := by
  induction h with
  | nil => rfl
  | @cons j y w v fs gs e r t ih =>
    by_cases z : j = k
    · subst z
      rw [hx] at e; cases e
      simp only [fgetW, if_true]
      exact ⟨v, by simp [List.lookup], r⟩
    · have ne : x ≠ y := fun q => z (nodupIx Z.nd (q ▸ e) hx)
      have nb : (x == y) = false := beq_eq_false_iff_ne.mpr ne
      simp only [fgetW, if_neg z]
      have e2 : List.lookup x ((y, v) :: gs) = List.lookup x gs := by simp [List.lookup, nb]
      rw [e2]
      exact ih
theorem RelF.put {fs : List (Nat × W)} {gs : List (Str × V)} (h : RelF Z α H fs gs) {k : Nat} {x : Str} (hx : Z.nms[k]? = some x) {w : W} {v : V} (r : RelW Z α H w v) : RelF Z α H (fputW fs k w) (putF x v gs) := by
  induction h with
  | nil => exact .cons hx r .nil
  | @cons j y w' v' fs gs e r' t ih =>
    by_cases z : j = k
    · subst z
      rw [hx] at e; cases e
      simp only [fputW, putF, if_true]
      exact .cons hx r t
    · have ne : ¬ y = x := fun q => z (nodupIx Z.nd e (q ▸ hx))
      simp only [fputW, putF, if_neg z, if_neg ne]
      exact .cons e r' ih
theorem RelF.length {fs : List (Nat × W)} {gs : List (Str × V)} (h : RelF Z α H fs gs) : fs.length = gs.length := by
  induction h with
  | nil => rfl
  | cons _ _ _ ih => simp [ih]
end

def Ln (ms : ES) (p : Nat) : Prop := ∀ σ h ws h', ms σ h = .ok ws h' → ws.length = p
theorem ln0 : Ln esN 0 := fun σ h ws h' e => by cases e; rfl
theorem ln1 {m : E} {ms : ES} {p : Nat} (l : Ln ms p) : Ln (esC m ms) (p + 1) := fun σ h ws h' e => by
  unfold esC at e
  cases e1 : m σ h with
  | ok w h1 =>
    rw [e1, Rs.bind_ok] at e
    cases e2 : ms σ h1 with
    | ok ws2 h2 => rw [e2, Rs.bind_ok] at e; cases e; simp [l _ _ _ _ e2]
    | ex c fs h => rw [e2, Rs.bind_ex] at e; cases e
    | bad => rw [e2, Rs.bind_bad] at e; cases e
  | ex c fs h => rw [e1, Rs.bind_ex] at e; cases e
  | bad => rw [e1, Rs.bind_bad] at e; cases e
structure Fd (Z : Zx) (cs : List Nat) (f : Nat) (x : Str) : Prop where
  nm : Z.nms[f]? = some x
  cls : ∀ c, c ∈ cs → Cls Z.K (Z.γ c) ∧ NoAttr Z.K (Z.γ c) x
section
variable {Z : Zx} {B : XK} {X : Cx} {e o a b c d : Expr} {es rest : List Expr} {pos apos : Pos}
theorem e_fld {m : E} {cs : List Nat} {f : Nat} {x : Str} (hK : X.K = Z.K) (fd : Fd Z cs f x) (ho : PE X o (rE Z B m)) (hb : attributeBase o x X.env (eval o X.env) = eval o X.env := by rfl) : PE X (.Attribute o x pos) (rE Z B (eFld cs f m)) :=
  PE.weak (pe_fld ho hb) fun σ H Q ⟨α, he, σw, hr, sr, g⟩ => ⟨α, he, σw, hr, sr, (Got.bind g).imp fun w he1 α1 H1 x1 hr1 g1 v r1 => by
    obtain ⟨u, e1, q⟩ := Got.lift g1 hr1
    cases r1 with
    | ref q1 =>
      rename_i i a
      cases e2 : he1[i]? with
      | none => simp only [getF, e2] at e1; cases e1
      | some ob =>
        cases ob with
        | ins c fs =>
          simp only [getF, e2] at e1
          by_cases hc : c ∈ cs
          · rw [if_pos hc] at e1
            obtain ⟨dx, gs, h1, rf⟩ := hr1.at' e2 q1
            have hg := rf.get fd.nm
            rw [e1] at hg
            obtain ⟨v', e3, r3⟩ := hg
            obtain ⟨k1, k2⟩ := fd.cls c hc
            exact ⟨a, Z.γ c, dx, gs, v', rfl, h1, hK ▸ k1, hK ▸ k2, e3, q _ r3⟩
          · rw [if_neg hc] at e1; cases e1
        | _ => simp only [getF, e2] at e1; cases e1
    | _ => cases e1⟩

abbrev XN : XK := fun _ _ _ => False
theorem pass_no {X : Cx} : Passes (CX X.prog X.w) X XN := fun pins σ H s e s' I c => by
  obtain ⟨a, B, H', cls, d, _, _, _, _, _, _, _, hW⟩ := c
  exact hW.elim
theorem rF_call {p : Nat} {m : F} {α : List Addr} {he : He} {H : Hp} {ws : List W} {vs : List V} {Q : VK} (hr : HR Z α he H) (r : RelWs Z α H ws vs) (hl : ws.length = p) (g : Got Z B α H (m ws he) (QE Z Q)) : rF Z p m vs H Q B := ⟨α, he, ws, hr, r, hl, g⟩
theorem e_call {k p : Nat} {f : Addr} {fd : FuncData} {ps : List Str} {m : F} {ms : ES} {x : Str} {pp : Pos} (F : FnOk X.prog X.w X.K X.mg X.base (CX X.prog X.w) k f fd ps (rF Z p m)) (hr : Room k X.A) (hg : Gl X x) (hm : X.mg x = some (.ref f)) (hk : PySem.W.keepIn X.K (.ref f) = true) (hb : Binds X.K fd ps [])
    (hx : Passes (CX X.prog X.w) X B) (ha : PA X (e :: es) (rA Z B ms)) (hl : Ln ms p) (hdb : (x == ("__debug__" : Str)) = false := by decide) (hst : starEach (e :: es) X.env = (false, eval e X.env) :: starEach es X.env := by rfl) (hpl : (backTo pos (starEach es X.env)).any (·.1) = false := by rfl) :
    PE X (.Call (.Name x pp) (e :: es) [] pos) (rE Z B (eCall m ms)) :=
  PE.weak (pe_call (dvs := []) F hr hg hm hk hb .nil hx ha hdb hst hpl) fun σ H Q ⟨α, he, σw, hr, sr, g⟩ => ⟨α, he, σw, hr, sr, by
    have g := Got.bind g
    cases e1 : ms σw he with
    | ok ws he1 =>
      rw [e1] at g
      exact fun α1 H1 x1 hr1 vs rs => by show rF Z p m (vs ++ []) H1 Q B; rw [List.append_nil]; exact rF_call hr1 rs (hl _ _ _ _ e1) (g α1 H1 x1 hr1)
    | ex c fs h => rw [e1] at g; exact g
    | bad => rw [e1] at g; exact g⟩
theorem e_call0 {k : Nat} {f : Addr} {fd : FuncData} {ps : List Str} {m : F} {x : Str} {pp : Pos} (F : FnOk X.prog X.w X.K X.mg X.base (CX X.prog X.w) k f fd ps (rF Z 0 m)) (hr : Room k X.A) (hg : Gl X x) (hm : X.mg x = some (.ref f)) (hk : PySem.W.keepIn X.K (.ref f) = true) (hb : Binds X.K fd ps [])
    (hx : Passes (CX X.prog X.w) X B) (hdb : (x == ("__debug__" : Str)) = false := by decide) : PE X (.Call (.Name x pp) [] [] pos) (rE Z B (eCall m esN)) :=
  PE.weak (pe_call0 (dvs := []) F hr hg hm hk hb .nil hx hdb) fun σ H Q ⟨α, he, σw, hr, sr, g⟩ => rF_call (ws := []) hr .nil rfl (Got.now (Got.bind (r := Rs.ok [] he) g) hr)
theorem isIns_at {α : List Addr} {he : He} {H : Hp} {c m : Nat} {w : W} {v : V} {x : Str} (hr : HR Z α he H) (r : RelW Z α H w v) (hx : Z.nms[m]? = some x) (e : isIns he c m w = true) : ∃ a dx gs, v = .ref a ∧ H a = some (.ins (Z.γ c) dx gs) ∧ gs.lookup x = none := by
  cases r with
  | ref q1 =>
    rename_i i a
    cases e2 : he[i]? with
    | none => simp only [isIns, e2] at e; cases e
    | some ob =>
      cases ob with
      | ins d fs =>
        simp only [isIns, e2, Bool.and_eq_true, beq_iff_eq] at e
        obtain ⟨e3, e4⟩ := e
        subst e3
        obtain ⟨dx, gs, h1, rf⟩ := hr.at' e2 q1
        have hg := rf.get hx
        cases e5 : fgetW fs m with
        | none => rw [e5] at hg; exact ⟨a, dx, gs, rfl, h1, hg⟩
        | some w => rw [e5] at e4; cases e4
      | _ => simp only [isIns, e2] at e; cases e
  | _ => cases e
theorem e_meth {k p c mi : Nat} {f : Addr} {fd : FuncData} {ps : List Str} {m : F} {mo : E} {ms : ES} {x : Str} {pl : Sem Bool} (hx1 : Z.nms[mi]? = some x) (ho : PE X o (rE Z B mo)) (hc : Cls X.K (Z.γ c)) (hm : Meth X.K (Z.γ c) x f) (F : FnOk X.prog X.w X.K X.mg X.base (CX X.prog X.w) k f fd ps (rF Z (p + 1) m)) (hr : Room k X.A) (hb : Binds X.K fd ps [])
    (hx : Passes (CX X.prog X.w) X B) (ha : PA X (e :: es) (rA Z B ms)) (hl : Ln ms p) (hst : starEach (e :: es) X.env = (false, eval e X.env) :: starEach es X.env := by rfl) (hpl : (backTo pos (starEach es X.env)).any (·.1) = false := by rfl)
    (ht : eval (.Call (.Attribute o x apos) (e :: es) [] pos) X.env = (do
      let ov ← eval o X.env
      standAt apos.atName
      let (f, first) ← holding [ov] (getMethod ov x pl)
      callWith pos f first (backTo pos (starEach (e :: es) X.env)) (backToKw pos (keywordEach [] X.env))) := by rfl) :
    PE X (.Call (.Attribute o x apos) (e :: es) [] pos) (rE Z B (eMeth c mi m mo ms)) :=
  PE.weak (pe_meth (dvs := []) ho hc hm F hr hb .nil hx ha hst hpl ht) fun σ H Q ⟨α, he, σw, hr, sr, g⟩ => ⟨α, he, σw, hr, sr, (Got.bind g).imp fun w he1 α1 H1 x1 hr1 g1 v r1 => by
    cases e0 : isIns he1 c mi w with
    | false => rw [e0] at g1; exact g1.elim
    | true =>
      rw [e0, if_pos rfl] at g1
      obtain ⟨a, dx, gs, h1, h2, h3⟩ := isIns_at hr1 r1 hx1 e0
      subst h1
      refine ⟨a, dx, gs, rfl, h2, h3, α1, he1, σw, hr1, sr.ext x1, ?_⟩
      have g2 := Got.bind g1
      cases e1 : ms σw he1 with
      | ok ws he2 =>
        rw [e1] at g2
        exact fun α2 H2 x2 hr2 vs rs => by
          show rF Z (p + 1) m (.ref a :: (vs ++ [])) H2 Q B
          rw [List.append_nil]
          exact rF_call hr2 (.cons (r1.ext x2) rs) (congrArg (· + 1) (hl _ _ _ _ e1)) (g2 α2 H2 x2 hr2)
      | ex c fs h => rw [e1] at g2; exact g2
      | bad => rw [e1] at g2; exact g2⟩
theorem e_meth0 {k c mi : Nat} {f : Addr} {fd : FuncData} {ps : List Str} {m : F} {mo : E} {x : Str} {pl : Sem Bool} (hx1 : Z.nms[mi]? = some x) (ho : PE X o (rE Z B mo)) (hc : Cls X.K (Z.γ c)) (hm : Meth X.K (Z.γ c) x f) (F : FnOk X.prog X.w X.K X.mg X.base (CX X.prog X.w) k f fd ps (rF Z 1 m)) (hr : Room k X.A) (hb : Binds X.K fd ps [])
    (hx : Passes (CX X.prog X.w) X B)
    (ht : eval (.Call (.Attribute o x apos) [] [] pos) X.env = (do
      let ov ← eval o X.env
      standAt apos.atName
      let (f, first) ← holding [ov] (getMethod ov x pl)
      callWith pos f first (backTo pos (starEach [] X.env)) (backToKw pos (keywordEach [] X.env))) := by rfl) :
    PE X (.Call (.Attribute o x apos) [] [] pos) (rE Z B (eMeth c mi m mo esN)) :=
  PE.weak (pe_meth0 (dvs := []) ho hc hm F hr hb .nil hx ht) fun σ H Q ⟨α, he, σw, hr, sr, g⟩ => ⟨α, he, σw, hr, sr, (Got.bind g).imp fun w he1 α1 H1 x1 hr1 g1 v r1 => by
    cases e0 : isIns he1 c mi w with
    | false => rw [e0] at g1; exact g1.elim
    | true =>
      rw [e0, if_pos rfl] at g1
      obtain ⟨a, dx, gs, h1, h2, h3⟩ := isIns_at hr1 r1 hx1 e0
      subst h1
      exact ⟨a, dx, gs, rfl, h2, h3, rF_call hr1 (.cons r1 .nil) rfl (Got.now (Got.bind (r := Rs.ok [] he1) g1) hr1)⟩⟩
theorem new_core {c p : Nat} {m : F} {α : List Addr} {he : He} {H : Hp} {ws : List W} {vs : List V} {Q : VK} (hr : HR Z α he H) (r : RelWs Z α H ws vs) (hl : ws.length = p)
    (g : Got Z B α H ((m (.ref he.length :: ws) (he ++ [.ins c []])).bind fun r h' => match r with
      | .non => .ok (.ref he.length) h'
      | _ => .bad) (QE Z Q)) : ∀ x dx, H x = none → H dx = none → dx ≠ x → rF Z (p + 1) m (.ref x :: vs) (upd (upd H dx (.own x)) x (.ins (Z.γ c) dx [])) (fun v H2 => v = .non ∧ Q (.ref x) H2) B := fun x dx nx ndx ne => by
  have x1 : Ext α α H (upd H dx (.own x)) := .fresh ndx
  have hr1 := hr.fresh ndx (u := .own x)
  have nx' : (upd H dx (.own x)) x = none := by rw [upd_ne (Ne.symm ne)]; exact nx
  have x2 : Ext α (α ++ [x]) (upd H dx (.own x)) (upd (upd H dx (.own x)) x (.ins (Z.γ c) dx [])) := .new' nx'
  have hr2 := hr1.new' (o := .ins c []) (u := .ins (Z.γ c) dx []) nx' ⟨dx, [], upd_same, .nil⟩
  refine rF_call hr2 (.cons hr.ref_new ((r.ext x1).ext x2)) (congrArg (· + 1) hl) ?_
  refine (Got.bind (g.ext (x1.trans x2))).imp fun w he3 α3 H3 x3 hr3 g3 v r3 => ?_
  cases r3 <;> first
    | exact g3.elim
    | exact ⟨rfl, Got.now g3 hr3 _ (.ref (x3.pre _ _ (by rw [← hr.len]; exact at_new)))⟩
theorem e_new {k p c : Nat} {f : Addr} {fd : FuncData} {ps : List Str} {m : F} {ms : ES} {x : Str} {pp : Pos} (M : Mk X.K (Z.γ c) f) (F : FnOk X.prog X.w X.K X.mg X.base (CX X.prog X.w) k f fd ps (rF Z (p + 1) m)) (hr : Room (k + 1) X.A) (hg : Gl X x) (hm : X.mg x = some (.ref (Z.γ c))) (hb : Binds X.K fd ps [])
    (hx : Passes (CX X.prog X.w) X B) (ha : PA X (e :: es) (rA Z B ms)) (hl : Ln ms p) (hdb : (x == ("__debug__" : Str)) = false := by decide) (hst : starEach (e :: es) X.env = (false, eval e X.env) :: starEach es X.env := by rfl) (hpl : (backTo pos (starEach es X.env)).any (·.1) = false := by rfl) :
    PE X (.Call (.Name x pp) (e :: es) [] pos) (rE Z B (eNew c m ms)) :=
  PE.weak (pe_make (dvs := []) M F hr hg hm hb .nil hx ha hdb hst hpl) fun σ H Q ⟨α, he, σw, hr, sr, g⟩ => ⟨α, he, σw, hr, sr, by
    have g := Got.bind g
    cases e1 : ms σw he with
    | ok ws he1 =>
      rw [e1] at g
      exact fun α1 H1 x1 hr1 vs rs => by
        show ∀ x dx, _
        intro y dx n1 n2 n3
        show rF Z (p + 1) m (.ref y :: (vs ++ [])) _ _ B
        rw [List.append_nil]
        exact new_core hr1 rs (hl _ _ _ _ e1) (g α1 H1 x1 hr1) y dx n1 n2 n3
    | ex c fs h => rw [e1] at g; exact g
    | bad => rw [e1] at g; exact g⟩

def Bi (Z : Zx) (B : XK) (f : F) (r : List V → Hp → VK → Prop) : Prop := ∀ α he H ws vs Q, HR Z α he H → RelWs Z α H ws vs → Got Z B α H (f ws he) (QE Z Q) → r vs H Q
theorem bi_core {f : F} {r : List V → Hp → VK → Prop} {ms : ES} (hq : Bi Z B f r) : ∀ σ H Q, rE Z B (eCall f ms) σ H Q → tCB r (rA Z B ms) σ H Q := fun σ H Q ⟨α, he, σw, hr, sr, g⟩ =>
  ⟨α, he, σw, hr, sr, (Got.bind g).imp fun ws he1 α1 H1 x1 hr1 g1 vs rs => hq _ _ _ _ _ _ hr1 rs g1⟩
theorem e_bf {id : String} {r : List V → Hp → VK → Prop} {f : F} {ms : ES} {x : Str} {pp : Pos} (hc : CallR X (.builtin id) r) (hq : Bi Z B f r) (hg : Gl X x) (hm : X.mg x = none) (hv : bootBuiltins x = some (.builtin id)) (ha : PA X (e :: es) (rA Z B ms)) (hn : x ≠ "__name__" := by decide) (hdb : (x == ("__debug__" : Str)) = false := by decide)
    (hst : starEach (e :: es) X.env = (false, eval e X.env) :: starEach es X.env := by rfl) (hpl : (backTo pos (starEach es X.env)).any (·.1) = false := by rfl) : PE X (.Call (.Name x pp) (e :: es) [] pos) (rE Z B (eCall f ms)) :=
  PE.weak (pe_callB hc hg hm hv ha hn hdb hst hpl) (bi_core hq)
theorem e_bt {T : String} {r : List V → Hp → VK → Prop} {f : F} {ms : ES} {x : Str} {pp : Pos} (hc : CallR X (.type T) r) (hq : Bi Z B f r) (hg : Gl X x) (hm : X.mg x = none) (hv : bootBuiltins x = some (.type T)) (ha : PA X (e :: es) (rA Z B ms)) (hn : x ≠ "__name__" := by decide) (hdb : (x == ("__debug__" : Str)) = false := by decide)
    (hst : starEach (e :: es) X.env = (false, eval e X.env) :: starEach es X.env := by rfl) (hpl : (backTo pos (starEach es X.env)).any (·.1) = false := by rfl) : PE X (.Call (.Name x pp) (e :: es) [] pos) (rE Z B (eCall f ms)) :=
  PE.weak (pe_callTy hc hg hm hv ha hn hdb hst hpl) (bi_core hq)
theorem one_w {α : List Addr} {H : Hp} {ws : List W} {vs : List V} (r : RelWs Z α H ws vs) {w : W} (e : ws = [w]) : ∃ v, vs = [v] ∧ RelW Z α H w v := by
  subst e
  cases r with
  | cons r t => cases t; exact ⟨_, rfl, r⟩
def rLenW (K : PySem.W.Frag) : List V → Hp → VK → Prop := fun xs H Q => (∃ p ys, xs = [.ref p] ∧ (SqL K H p ys ∨ SqT K H p ys) ∧ Q (.int ys.length) H) ∨ (∃ z, xs = [.str z] ∧ z.length ≤ sizeLine ∧ Q (.int z.length) H)
theorem cr_len : CallR X (.builtin "len") (rLenW X.K) := call_len_seq.or call_len_str
theorem b_len : Bi Z B fLen (rLenW Z.K) := fun α he H ws vs Q hr rs g => by
  cases rs with
  | nil => exact g.elim
  | @cons w v ws vs r t =>
    cases t with
    | cons r2 t2 => cases r <;> exact g.elim
    | nil =>
      cases r with
      | str x =>
        by_cases hz : x.length ≤ sizeLine
        · simp only [fLen, if_pos hz] at g
          exact .inr ⟨x, rfl, hz, got_val hr (.int _) g⟩
        · simp only [fLen, if_neg hz] at g; exact g.elim
      | tup q1 q2 =>
        refine .inl ⟨_, _, rfl, .inr q1, ?_⟩
        rw [← q2.length]
        exact got_val hr (.int _) g
      | ref q1 =>
        rename_i j a
        obtain ⟨u, e1, q⟩ := Got.lift g hr
        cases e2 : lstOf he (.ref j) with
        | none => simp only [seqOf, e2] at e1; cases e1
        | some ws =>
          simp only [seqOf, e2] at e1
          cases e1
          obtain ⟨a2, vs, h1, h2, h3⟩ := hr.list (.ref q1) e2
          cases h1
          refine .inl ⟨_, _, rfl, .inl h2, ?_⟩
          rw [← h3.length]
          exact q _ (.int _)
      | kl q1 =>
        rename_i ns a
        have g : Got Z B α H (Rs.lift (some (W.int ((ns.map W.int).length : Nat))) he) (QE Z Q) := g
        obtain ⟨u, e1, q⟩ := Got.lift g hr
        cases e1
        obtain ⟨a2, vs, h1, h2, h3⟩ := hr.list (.kl q1) rfl
        cases h1
        refine .inl ⟨_, _, rfl, .inl h2, ?_⟩
        rw [← h3.length]
        exact q _ (.int _)
      | _ => exact g.elim
theorem b_abs : Bi Z B fAbs (fun xs H Q => ∃ i, xs = [.int i] ∧ Q (.int (if i < 0 then -i else i)) H) := fun α he H ws vs Q hr rs g => by
  cases rs with
  | nil => exact g.elim
  | cons r t => cases r <;> cases t <;> first
    | exact g.elim
    | exact ⟨_, rfl, got_val hr (.int _) g⟩
def rIntW : List V → Hp → VK → Prop := fun xs H Q => ((∃ i, xs = [.int i] ∧ Q (.int i) H) ∨ ∃ k, xs = [.bl k] ∧ Q (.int (if k then 1 else 0)) H) ∨ ∃ a n, xs = [.str a] ∧ PySem.intText? a = some n ∧ a.length ≤ 640 ∧ Q (.int n) H
theorem cr_int : CallR X (.type "int") rIntW := call_int1.or call_int_str
theorem b_int : Bi Z B fInt rIntW := fun α he H ws vs Q hr rs g => by
  cases rs with
  | nil => exact g.elim
  | cons r t =>
    cases t with
    | cons r2 t2 => cases r <;> exact g.elim
    | nil =>
      cases r with
      | int i => exact .inl (.inl ⟨i, rfl, got_val hr (.int _) g⟩)
      | bl k => exact .inl (.inr ⟨k, rfl, got_val hr (.int _) g⟩)
      | str x =>
        by_cases hz : x.length ≤ 640
        · simp only [fInt, if_pos hz] at g
          obtain ⟨u, e1, q⟩ := Got.lift g hr
          cases e2 : PySem.intText? x with
          | none => rw [e2] at e1; cases e1
          | some n =>
            rw [e2] at e1; cases e1
            exact .inr ⟨x, n, rfl, e2, hz, q _ (.int _)⟩
        · simp only [fInt, if_neg hz] at g; exact g.elim
      | _ => exact g.elim
theorem b_str : Bi Z B fStr (fun xs H Q => ∃ i, xs = [.int i] ∧ i.natAbs.log2 < 1920 ∧ Q (.str (toString i)) H) := fun α he H ws vs Q hr rs g => by
  cases rs with
  | nil => exact g.elim
  | cons r t =>
    cases t with
    | cons r2 t2 => cases r <;> exact g.elim
    | nil =>
      cases r with
      | int i =>
        by_cases hz : i.natAbs.log2 < 1920
        · simp only [fStr, if_pos hz] at g
          exact ⟨i, rfl, hz, got_val hr (.str _) g⟩
        · simp only [fStr, if_neg hz] at g; exact g.elim
      | _ => exact g.elim
theorem b_min : Bi Z B fMin (fun xs H Q => ∃ i j, xs = [.int i, .int j] ∧ Q (.int (if j < i then j else i)) H) := fun α he H ws vs Q hr rs g => by
  cases rs with
  | nil => exact g.elim
  | cons r t =>
    cases t with
    | nil => cases r <;> exact g.elim
    | cons r2 t2 => cases t2 <;> cases r <;> cases r2 <;> first
      | exact g.elim
      | exact ⟨_, _, rfl, got_val hr (.int _) g⟩
def rMaxW (K : PySem.W.Frag) : List V → Hp → VK → Prop := fun xs H Q => (∃ i j, xs = [.int i, .int j] ∧ Q (.int (if j > i then j else i)) H) ∨ rNuC3 nuMax3 xs H Q ∨ rMax K xs H Q
theorem cr_maxW (hc : X.calm = true) : CallR X (.builtin "max") (rMaxW X.K) := (call_max2 hc).or ((call_max3Nu hc).or (cr_max hc))
theorem maxI_mem : ∀ (l : List Int) (m : Int), maxI m l ∈ m :: l
  | [], m => by simp [maxI]
  | x :: r, m => by
    have h := maxI_mem r (if x > m then x else m)
    unfold maxI
    rcases List.mem_cons.mp h with e | e
    · rw [e]; split <;> simp
    · exact List.mem_cons_of_mem _ (List.mem_cons_of_mem _ e)
theorem maxI_le : ∀ (l : List Int) (m : Int), ∀ y ∈ m :: l, y ≤ maxI m l
  | [], m => fun y h => by simp at h; simp [maxI, h]
  | x :: r, m => fun y h => by
    have h1 := maxI_le r (if x > m then x else m)
    have h0 := h1 _ List.mem_cons_self
    unfold maxI
    rcases List.mem_cons.mp h with e | e
    · subst e; refine Int.le_trans ?_ h0; split <;> omega
    · rcases List.mem_cons.mp e with e | e
      · subst e; refine Int.le_trans ?_ h0; split <;> omega
      · exact h1 y (List.mem_cons_of_mem _ e)
theorem nuMax3_int (i j k : Int) : nuMax3 (.int i) (.int j) (.int k) = some (.int (maxI i [j, k])) := by
  by_cases h : i < j <;> simp [nuMax3, nuMax2, nuLt, nuCB, maxI, h] <;> (split <;> rfl)
theorem b_max : Bi Z B fMax (rMaxW Z.K) := fun α he H ws vs Q hr rs g => by
  cases rs with
  | nil => exact g.elim
  | @cons w1 v1 ws1 vs1 r t =>
    cases t with
    | nil =>
      cases e1 : (lstOf he w1).bind intsOf with
      | none => cases r <;> (simp only [fMax, e1] at g; exact g.elim)
      | some ns =>
        cases ns with
        | nil => cases r <;> (simp only [fMax, e1] at g; exact g.elim)
        | cons m l =>
          have g : Got Z B α H (.ok (.int (maxI m l)) he) (QE Z Q) := by cases r <;> (simp only [fMax, e1] at g; exact g)
          cases e2 : lstOf he w1 with
          | none => rw [e2] at e1; cases e1
          | some ws =>
            rw [e2] at e1
            obtain ⟨a, us, h1, h2, h3⟩ := hr.list r e2
            have h4 := h3.ints (show intsOf ws = some (m :: l) from e1)
            subst h4; subst h1
            refine .inr (.inr ⟨a, m :: l, rfl, h2, by simp, fun z hz hm => ?_⟩)
            have e3 : z = maxI m l := Int.le_antisymm (maxI_le l m z hz) (hm _ (maxI_mem l m))
            rw [e3]
            exact got_val hr (.int _) g
    | cons r2 t2 =>
      cases t2 with
      | nil => cases r <;> cases r2 <;> first
        | exact g.elim
        | exact .inl ⟨_, _, rfl, got_val hr (.int _) g⟩
      | cons r3 t3 =>
        cases t3 with
        | cons r4 t4 => cases r <;> cases r2 <;> cases r3 <;> exact g.elim
        | nil => cases r <;> cases r2 <;> cases r3 <;> first
          | exact g.elim
          | exact .inr (.inl ⟨_, _, _, _, rfl, nuMax3_int _ _ _, got_val hr (.int _) g⟩)
theorem b_sum : Bi Z B fSum (rSum Z.K) := fun α he H ws vs Q hr rs g => by
  cases rs with
  | nil => exact g.elim
  | @cons w1 v1 ws1 vs1 r t =>
    cases t with
    | cons r2 t2 => exact g.elim
    | nil =>
      cases e1 : (lstOf he w1).bind intsOf with
      | none => simp only [fSum, e1] at g; exact g.elim
      | some ns =>
        simp only [fSum, e1] at g
        cases e2 : lstOf he w1 with
        | none => rw [e2] at e1; cases e1
        | some ws =>
          rw [e2] at e1
          obtain ⟨a, us, h1, h2, h3⟩ := hr.list r e2
          have h4 := h3.ints (show intsOf ws = some ns from e1)
          subst h4; subst h1
          exact ⟨a, ns, rfl, h2, got_val hr (.int _) g⟩
def rTupW (K : PySem.W.Frag) : List V → Hp → VK → Prop := fun xs H Q => ∃ p ys, xs = [.ref p] ∧ ((SqL K H p ys ∧ ∀ l, H l = none → Q (.ref l) (upd H l (.tup ys))) ∨ (SqT K H p ys ∧ Q (.ref p) H))
theorem b_tuple : Bi Z B fTuple (rTupW Z.K) := fun α he H ws vs Q hr rs g => by
  cases rs with
  | nil => exact g.elim
  | @cons w1 v1 ws1 vs1 r t =>
    cases t with
    | cons r2 t2 => exact g.elim
    | nil =>
      cases e2 : seqOf he w1 with
      | none => simp only [fTuple, e2] at g; exact g.elim
      | some ws =>
        simp only [fTuple, e2] at g
        cases r with
        | tup q1 q2 => cases e2; exact ⟨_, _, rfl, .inr ⟨q1, got_val hr (.tup q1 q2) g⟩⟩
        | ref q =>
          obtain ⟨a, us, h1, h2, h3⟩ := hr.list (.ref q) (show lstOf he (.ref _) = some ws from e2)
          cases h1
          exact ⟨_, _, rfl, .inl ⟨h2, got_tup hr h3 g⟩⟩
        | kl q =>
          cases e2
          obtain ⟨a, us, h1, h2, h3⟩ := hr.list (.kl q) rfl
          cases h1
          exact ⟨_, _, rfl, .inl ⟨h2, got_tup hr h3 g⟩⟩
        | _ => cases e2
def rListW (K : PySem.W.Frag) : List V → Hp → VK → Prop := fun xs H Q => ∃ p ys, xs = [.ref p] ∧ (SqL K H p ys ∨ SqT K H p ys) ∧ ∀ l, H l = none → Q (.ref l) (upd H l (.lst ys))
theorem b_list : Bi Z B fList (rListW Z.K) := fun α he H ws vs Q hr rs g => by
  cases rs with
  | nil => exact g.elim
  | @cons w1 v1 ws1 vs1 r t =>
    cases t with
    | cons r2 t2 => exact g.elim
    | nil =>
      cases e2 : seqOf he w1 with
      | none => simp only [fList, e2] at g; exact g.elim
      | some ws =>
        simp only [fList, e2] at g
        obtain ⟨a, us, h1, h2, h3⟩ := hr.seq r e2
        subst h1
        exact ⟨_, _, rfl, h2, got_lst hr h3 g⟩

def Bmt (Z : Zx) (B : XK) (f : F) (r : V → List V → Hp → VK → Prop) : Prop := ∀ α he H w v ws vs Q, HR Z α he H → RelW Z α H w v → RelWs Z α H ws vs → Got Z B α H (f (w :: ws) he) (QE Z Q) → r v vs H Q
theorem bm_core {f : F} {r : V → List V → Hp → VK → Prop} {mo : E} {ms : ES} {T : String} {c : He → W → Bool} (hq : Bmt Z B f r) (hc : ∀ α he H w v, HR Z α he H → RelW Z α H w v → c he w = true → tyV Z.K T v H) :
    ∀ σ H Q, rE Z B (fun σ h => (mo σ h).bind fun x h => if c h x then (ms σ h).bind fun ws h => f (x :: ws) h else .bad) σ H Q → tBM Z.K T r (rE Z B mo) (rA Z B ms) σ H Q := fun σ H Q ⟨α, he, σw, hr, sr, g⟩ =>
  ⟨α, he, σw, hr, sr, (Got.bind g).imp fun w he1 α1 H1 x1 hr1 g1 v r1 => by
    cases e0 : c he1 w with
    | false => rw [e0] at g1; exact g1.elim
    | true =>
      rw [e0, if_pos rfl] at g1
      exact ⟨hc _ _ _ _ _ hr1 r1 e0, α1, he1, σw, hr1, sr.ext x1, (Got.bind g1).imp fun ws he2 α2 H2 x2 hr2 g2 vs rs => hq _ _ _ _ _ _ _ _ hr2 (r1.ext x2) rs g2⟩⟩
theorem ty_list {α : List Addr} {he : He} {H : Hp} {w : W} {v : V} (hr : HR Z α he H) (r : RelW Z α H w v) (e : (lstOf he w).isSome = true) : tyV Z.K "list" v H := by
  cases e2 : lstOf he w with
  | none => rw [e2] at e; cases e
  | some ws =>
    obtain ⟨a, vs, h1, h2, _⟩ := hr.list r e2
    subst h1
    exact .inl ⟨rfl, vs, h2⟩
theorem ty_str {α : List Addr} {he : He} {H : Hp} {w : W} {v : V} (hr : HR Z α he H) (r : RelW Z α H w v) (e : isStr w = true) : tyV Z.K "str" v H := by
  cases r <;> first
    | rfl
    | cases e
theorem e_bmL {f : F} {id : String} {r : V → List V → Hp → VK → Prop} {mo : E} {ms : ES} {x : Str} (hK : X.K = Z.K) (slot : Slot "list" x id) (hty : typeOf (.builtin id) = pure (.type "method_descriptor")) (hm : MtR X id r) (hq : Bmt Z B f r) (ho : PE X o (rE Z B mo)) (ha : PA X (e :: es) (rA Z B ms))
    (hbase : attributeBase o x X.env (eval o X.env) = eval o X.env := by rfl)
    (hfew : ((backTo pos (starEach (e :: es) X.env)).all (fun x => !x.1) && (backToKw pos (keywordEach [] X.env)).all (fun x => x.1.isSome)
      && decide ((e :: es).length + ([] : List Keyword).length + (if ([] : List Keyword).isEmpty then 0 else 1) < 30)) = true := by rfl)
    (hline : (apos.endLine == pos.line) = true := by rfl) (hs : starEach (e :: es) X.env = (false, eval e X.env) :: starEach es X.env := by rfl) (hplain : (backTo pos (starEach es X.env)).any (·.1) = false := by rfl) :
    PE X (.Call (.Attribute o x apos) (e :: es) [] pos) (rE Z B (eBmL f mo ms)) :=
  PE.weak (pe_bm PySem.F.plainAttrs_list slot hty hm ho ha hbase hfew hline hs hplain) (hK ▸ bm_core hq fun _ _ _ _ _ => ty_list)
theorem e_bmS {f : F} {id : String} {r : V → List V → Hp → VK → Prop} {mo : E} {ms : ES} {x : Str} (hK : X.K = Z.K) (slot : Slot "str" x id) (hty : typeOf (.builtin id) = pure (.type "method_descriptor")) (hm : MtR X id r) (hq : Bmt Z B f r) (ho : PE X o (rE Z B mo)) (ha : PA X (e :: es) (rA Z B ms))
    (hbase : attributeBase o x X.env (eval o X.env) = eval o X.env := by rfl)
    (hfew : ((backTo pos (starEach (e :: es) X.env)).all (fun x => !x.1) && (backToKw pos (keywordEach [] X.env)).all (fun x => x.1.isSome)
      && decide ((e :: es).length + ([] : List Keyword).length + (if ([] : List Keyword).isEmpty then 0 else 1) < 30)) = true := by rfl)
    (hline : (apos.endLine == pos.line) = true := by rfl) (hs : starEach (e :: es) X.env = (false, eval e X.env) :: starEach es X.env := by rfl) (hplain : (backTo pos (starEach es X.env)).any (·.1) = false := by rfl) :
    PE X (.Call (.Attribute o x apos) (e :: es) [] pos) (rE Z B (eBmS f mo ms)) :=
  PE.weak (pe_bm PySem.F.plainAttrs_str slot hty hm ho ha hbase hfew hline hs hplain) (hK ▸ bm_core (c := fun _ w => isStr w) hq fun _ _ _ _ _ => ty_str)
theorem e_bmL0 {f : F} {id : String} {r : V → List V → Hp → VK → Prop} {mo : E} {x : Str} (hK : X.K = Z.K) (slot : Slot "list" x id) (hty : typeOf (.builtin id) = pure (.type "method_descriptor")) (hm : MtR X id r) (hq : Bmt Z B f r) (ho : PE X o (rE Z B mo))
    (hbase : attributeBase o x X.env (eval o X.env) = eval o X.env := by rfl) (hline : (apos.endLine == pos.line) = true := by rfl) : PE X (.Call (.Attribute o x apos) [] [] pos) (rE Z B (eBmL f mo esN)) :=
  PE.weak (pe_bm0 PySem.F.plainAttrs_list slot hty hm ho hbase hline) (hK ▸ fun σ H Q ⟨α, he, σw, hr, sr, g⟩ => ⟨α, he, σw, hr, sr, (Got.bind g).imp fun w he1 α1 H1 x1 hr1 g1 v r1 => by
    cases e0 : (lstOf he1 w).isSome with
    | false => rw [e0] at g1; exact g1.elim
    | true =>
      rw [e0, if_pos rfl] at g1
      exact ⟨ty_list hr1 r1 e0, hq _ _ _ _ _ _ _ _ hr1 r1 .nil (Got.now (Got.bind (r := Rs.ok [] he1) g1) hr1)⟩⟩)
theorem lst_at {α : List Addr} {he : He} {H : Hp} {i : Nat} {a : Addr} {ws : List W} (hr : HR Z α he H) (q : α[i]? = some a) (e : he[i]? = some (.lst ws)) : ∃ vs, H a = some (.lst vs) ∧ RelWs Z α H ws vs := hr.at' e q
theorem b_append : Bmt Z B mAppend rAppend := fun α he H w v ws vs Q hr r rs g => by
  cases r with
  | ref q =>
    rename_i i a
    cases rs with
    | nil => exact g.elim
    | @cons w1 v1 ws1 vs1 r1 t =>
      cases t with
      | cons r2 t2 => exact g.elim
      | nil =>
        cases e : he[i]? with
        | none => simp only [mAppend, e] at g; exact g.elim
        | some ob =>
          cases ob with
          | lst xs =>
            by_cases z : xs.length < sizeLine
            · simp only [mAppend, e, if_pos z] at g
              obtain ⟨us, h1, r3⟩ := lst_at hr q e
              exact ⟨a, us, v1, rfl, rfl, h1, by rw [← r3.length]; exact z, got_put hr q h1 (r3.append (.cons r1 .nil)) (fun _ _ => .non) g⟩
            · simp only [mAppend, e, if_neg z] at g; exact g.elim
          | _ => simp only [mAppend, e] at g; exact g.elim
  | _ => exact g.elim
theorem b_extend : Bmt Z B mExtend rExtend := fun α he H w v ws vs Q hr r rs g => by
  cases r with
  | ref q =>
    rename_i i a
    cases rs with
    | nil => exact g.elim
    | @cons w1 v1 ws1 vs1 r1 t =>
      cases t with
      | cons r2 t2 => cases r1 <;> exact g.elim
      | nil =>
        cases r1 with
        | ref q1 =>
          rename_i j b
          cases e : he[i]? with
          | none => simp only [mExtend, e] at g; exact g.elim
          | some ob =>
            cases e1 : he[j]? with
            | none => cases ob <;> (simp only [mExtend, e, e1] at g; exact g.elim)
            | some ob1 =>
              cases ob <;> cases ob1 <;> simp only [mExtend, e, e1] at g <;> first
                | exact g.elim
                | skip
              rename_i xs ys
              by_cases z : xs.length + ys.length ≤ sizeLine
              · rw [if_pos z] at g
                obtain ⟨us, h1, r3⟩ := lst_at hr q e
                obtain ⟨us1, h2, r4⟩ := lst_at hr q1 e1
                exact ⟨a, b, us, us1, rfl, rfl, h1, h2, by rw [← r3.length, ← r4.length]; exact z, got_put hr q h1 (r3.append r4) (fun _ _ => .non) g⟩
              · rw [if_neg z] at g; exact g.elim
        | _ => exact g.elim
  | _ => exact g.elim
def rPopW : V → List V → Hp → VK → Prop := fun x xs H Q => rPop x xs H Q ∨ rPopAt x xs H Q
theorem mt_popW : MtR X "list.pop" rPopW := MtR.or mt_pop mt_popAt
theorem b_pop : Bmt Z B mPop rPopW := fun α he H w v ws vs Q hr r rs g => by
  cases r with
  | ref q =>
    rename_i i a
    cases rs with
    | nil =>
      cases e : he[i]? with
      | none => simp only [mPop, e] at g; exact g.elim
      | some ob =>
        cases ob with
        | lst xs =>
          cases e1 : xs[xs.length - 1]? with
          | none => simp only [mPop, e, e1] at g; exact g.elim
          | some y =>
            simp only [mPop, e, e1] at g
            obtain ⟨us, h1, r3⟩ := lst_at hr q e
            obtain ⟨u, h2, r4⟩ := r3.get e1
            exact .inl ⟨a, us, u, rfl, rfl, h1, by rw [← r3.length]; exact h2, got_put hr q h1 r3.dropLast (fun _ x => r4.ext x) g⟩
        | _ => simp only [mPop, e] at g; exact g.elim
    | @cons w1 v1 ws1 vs1 r1 t =>
      cases t with
      | cons r2 t2 => cases r1 <;> exact g.elim
      | nil =>
        cases r1 with
        | int k =>
          cases e : he[i]? with
          | none => simp only [mPop, e] at g; exact g.elim
          | some ob =>
            cases ob with
            | lst xs =>
              by_cases z : -(2 ^ 63) ≤ k ∧ k < 2 ^ 63
              · simp only [mPop, e, if_pos z] at g
                cases e2 : ixN xs.length k with
                | none => simp only [e2] at g; exact g.elim
                | some j =>
                  simp only [e2] at g
                  cases e3 : xs[j]? with
                  | none => simp only [e3] at g; exact g.elim
                  | some y =>
                    simp only [e3] at g
                    obtain ⟨us, h1, r3⟩ := lst_at hr q e
                    obtain ⟨u, h2, r4⟩ := r3.get e3
                    refine .inr ⟨a, us, k, j, u, rfl, rfl, h1, z.1, z.2, ?_, h2, got_put hr q h1 (r3.eraseIdx j) (fun _ x => r4.ext x) g⟩
                    rw [r3.length] at e2
                    exact (ixN_seq e2).1
              · simp only [mPop, e, if_neg z] at g; exact g.elim
            | _ => simp only [mPop, e] at g; exact g.elim
        | _ => exact g.elim
  | _ => exact g.elim
def rSplitW : V → List V → Hp → VK → Prop := fun x xs H Q => ∃ a b, x = .str a ∧ xs = [.str b] ∧ (b.length == 0) = false ∧ a.length + 2 ≤ sizeLine ∧ rNewStrs (Txt.split a b) H Q
theorem b_split : Bmt Z B mSplit rSplitW := fun α he H w v ws vs Q hr r rs g => by
  cases r with
  | str x =>
    cases rs with
    | nil => exact g.elim
    | @cons w1 v1 ws1 vs1 r1 t =>
      cases t with
      | cons r2 t2 => cases r1 <;> exact g.elim
      | nil =>
        cases r1 with
        | str b =>
          by_cases z : x.length + 2 ≤ sizeLine ∧ (b.length == 0) = false
          · simp only [mSplit, if_pos z] at g
            exact ⟨x, b, rfl, rfl, z.2, z.1, got_lst hr (RelWs.ofStrs _) g⟩
          · simp only [mSplit, if_neg z] at g; exact g.elim
        | _ => exact g.elim
  | _ => exact g.elim
def rJoinW (K : PySem.W.Frag) : V → List V → Hp → VK → Prop := fun x xs H Q => ∃ a p, ∃ ys : List Str, x = .str a ∧ xs = [.ref p] ∧ (SqL K H p (ys.map V.str) ∨ SqT K H p (ys.map V.str)) ∧ (ys.map (·.length)).sum + ys.length * a.length ≤ 16777216 ∧ Q (.str (Txt.join a ys)) H
theorem b_join : Bmt Z B mJoin (rJoinW Z.K) := fun α he H w v ws vs Q hr r rs g => by
  cases r with
  | str x =>
    cases rs with
    | nil => exact g.elim
    | @cons w1 v1 ws1 vs1 r1 t =>
      cases t with
      | cons r2 t2 => exact g.elim
      | nil =>
        cases e : (seqOf he w1).bind strsOf with
        | none => simp only [mJoin, e] at g; exact g.elim
        | some ss =>
          by_cases z : (ss.map (·.length)).sum + ss.length * x.length ≤ 16777216
          · simp only [mJoin, e, if_pos z] at g
            cases e2 : seqOf he w1 with
            | none => rw [e2] at e; cases e
            | some ws =>
              rw [e2] at e
              obtain ⟨a, us, h1, h2, h3⟩ := hr.seq r1 e2
              have h4 := h3.strs (show strsOf ws = some ss from e)
              subst h4; subst h1
              exact ⟨x, a, ss, rfl, rfl, h2, z, got_val hr (.str _) g⟩
          · simp only [mJoin, e, if_neg z] at g; exact g.elim
  | _ => exact g.elim
end
end VE
end
section
set_option Elab.async false
set_option linter.all false
set_option autoImplicit false
set_option maxRecDepth 100000
namespace VE
open PySem PySem.Spec PyProof.Rows L2
theorem turn_long {P : Program} {w : World} {K : PySem.W.Frag} {tg : Expr} (it : Addr) (lo : Int) (n : Nat) : Turn P w K tg (Itr lo n) [it] it (fun i h => IsLongIter h it (lo + (i : Nat) * 1) ((n : Int) - (i : Nat)) 1) where
  mem := List.mem_singleton.mpr rfl
  obj := fun i h st b hb => by
    obtain rfl : b = it := List.mem_singleton.mp hb
    refine ⟨_, st, fun v e => ?_⟩
    have e2 : Data.fields _ = Data.cell v := e
    cases e2
  keep := fun i h h' st k => k it (List.mem_singleton.mpr rfl) _ st
  item := by
    intro X hP hw hK hc i pins s σ H E I hf st hg
    subst hP; subst hw; subst hK
    obtain ⟨f0, f1, f2, f3, f4, f5⟩ := hf it (List.mem_singleton.mpr rfl)
    refine (Walks.longrange (prog := X.prog) (w := X.w) (I.ok.hd hc) it lo 1 n).item i s _ _ hg st fun v h' tk hv st' kk => ?_
    obtain ⟨t, ev⟩ := hv
    subst ev
    have I2 : Inv X pins σ H { s with heap := h', toks := tk } := I.turned (fun b o hb e => kk b o (by simpa using hb) e) f0 f1 f3 f4 f5
    refine ⟨_, rfl, go_of (s := { s with heap := h', toks := tk }) (n := "longrange_iterator") st' rfl rfl (by decide) ⟨.int (lo + i), H, I2, ⟨t, ?_⟩, ⟨rfl, rfl⟩, st', fun b hb => (hf b hb).1⟩⟩
    rw [Int.mul_one]
  done := by
    intro X hP hw hK hc i pins s σ H E I hf st hg
    subst hP; subst hw; subst hK
    obtain ⟨f0, f1, f2, f3, f4, f5⟩ := hf it (List.mem_singleton.mpr rfl)
    have hle : n ≤ i := hg
    exact wpAny_pyNext_long_end (I.ok.hd hc) st (by omega) fun h' eb => ⟨rfl, I.turned (t' := s.toks) (fun b o hb e => eb b o hb e) f0 f1 f3 f4 f5⟩
  self := fun _ _ _ _ _ st h => wpAny_pyIter_longiter st h
section
variable {X : Cx} {tg : Expr}
theorem range_any {pins : List (Addr × Obj)} {σ : L2.St} {H : Hp} {s : Shared} {R : It → Hp → Prop} {E : Value → Shared → Prop} {lo hi : Int} {t u v : Tok} {tk : Nat} (I : Inv X pins σ H s)
    (q : R (Itr lo (hi - lo).toNat) H) : wpAny (model X.prog X.w) X.A (pyIter (.ref s.heap.objs.size)) (PIE X pins σ tg R) E { s with heap := s.heap.push { cls := .type "range", data := .fields #[.int lo t, .int hi u, .int 1 v] }, toks := tk } := by
  have J1 : Inv X pins σ H { s with heap := s.heap.push { cls := .type "range", data := .fields #[.int lo t, .int hi u, .int 1 v] }, toks := tk } := I.kept fun b o e => Heap.get?_push_of_some _ e
  have e1 : lo + ((0 : Nat) : Int) * 1 = lo := by simp
  have e2 : (((hi - lo).toNat : Nat) : Int) - ((0 : Nat) : Int) = Builtin.Range.rangeSize lo hi 1 := by rw [rangeSize_one]; split <;> omega
  have fpo : ∀ b ∈ [(s.heap.push { cls := .type "range", data := .fields #[.int lo t, .int hi u, .int 1 v] }).objs.size], FpOk X pins H b := fun b hb => by
    obtain rfl := List.mem_singleton.mp hb
    exact J1.fpOk (Nat.le_refl _) (J1.hok.fresh (Nat.le_refl _))
  cases hs : Builtin.Range.small lo hi 1 with
  | true =>
    refine wpAny_pyIter_range (IsRange.new ..) hs ⟨_, [(s.heap.push { cls := .type "range", data := .fields #[.int lo t, .int hi u, .int 1 v] }).objs.size], _, _, H, rfl, J1.kept (t' := tk) fun b o e => Heap.get?_push_of_some _ e, turn_range _ lo (hi - lo).toNat, ?_, fpo, q⟩
    show IsRangeIter _ _ (lo + ((0 : Nat) : Int) * 1) ((((hi - lo).toNat : Nat) : Int) - ((0 : Nat) : Int)) 1
    rw [e1, e2]
    exact Heap.get?_push_size _ rfl
  | false =>
    refine wpAny_pyIter_longrange (IsRange.new ..) hs ⟨_, [(s.heap.push { cls := .type "range", data := .fields #[.int lo t, .int hi u, .int 1 v] }).objs.size], _, _, H, rfl, J1.kept (t' := tk) fun b o e => Heap.get?_push_of_some _ e, turn_long _ lo (hi - lo).toNat, ?_, fpo, q⟩
    show IsLongIter _ _ (lo + ((0 : Nat) : Int) * 1) ((((hi - lo).toNat : Nat) : Int) - ((0 : Nat) : Int)) 1
    rw [e1, e2]
    exact Heap.get?_push_size _ rfl
def iRgA1 (ta : TA) : TI := fun σ H R => ta σ H fun vs H1 => ∃ j : Int, vs = [.int j] ∧ R (Itr 0 j.toNat) H1
def iRgA2 (ta : TA) : TI := fun σ H R => ta σ H fun vs H1 => ∃ i j : Int, vs = [.int i, .int j] ∧ R (Itr i (j - i).toNat) H1
theorem pi_rgA1 {a : Expr} {ta : TA} {p pos : Pos} (hg : Gl X "range") (hm : X.mg "range" = none) (ha : PA X [a] ta) (hs : starEach [a] X.env = [(false, eval a X.env)] := by rfl) : PI X tg (.Call (.Name "range" p) [a] [] pos) (iRgA1 ta) := by
  refine ⟨fun pins s σ H R I h => Call_ (ld_blt I hg hm boot_range (PyProof.Rows.callWith_type1 (thn (ha.run pos pins s σ H _ I h) fun us s1 ⟨vs, H1, I1, r1, q1⟩ => ?_) hs rfl))⟩
  obtain ⟨j, e, q⟩ := q1
  subst e
  obtain ⟨u, rfl, t, rfl⟩ : ∃ u, us = [u] ∧ ∃ t, u = Value.int j t := by
    cases r1 with
    | cons r rr => cases rr; exact ⟨_, rfl, r⟩
  exact call_range_1 (range_any I1 (by simpa using q))
theorem pi_rgA2 {a b : Expr} {ta : TA} {p pos : Pos} (hg : Gl X "range") (hm : X.mg "range" = none) (ha : PA X [a, b] ta) (hs : starEach [a, b] X.env = [(false, eval a X.env), (false, eval b X.env)] := by rfl) (hs2 : starEach [b] X.env = [(false, eval b X.env)] := by rfl) :
    PI X tg (.Call (.Name "range" p) [a, b] [] pos) (iRgA2 ta) := by
  refine ⟨fun pins s σ H R I h => Call_ (ld_blt I hg hm boot_range (PyProof.Rows.callWith_type1 (thn (ha.run pos pins s σ H _ I h) fun us s1 ⟨vs, H1, I1, r1, q1⟩ => ?_) (by rw [hs, hs2]) (by rw [hs2]; rfl)))⟩
  obtain ⟨i, j, e, q⟩ := q1
  subst e
  obtain ⟨u, u', rfl, ⟨t, rfl⟩, ⟨t', rfl⟩⟩ := vals2 r1
  exact call_range_2 (range_any I1 q)
end
end VE
end
section
set_option Elab.async false
set_option linter.all false
set_option autoImplicit false
set_option maxRecDepth 100000
namespace VE
open PySem PySem.Spec PyProof.Rows L2

theorem Chg.refl {is : List Nat} {σ : L2.St} : Chg is σ σ := ⟨rfl, fun _ _ => rfl⟩
theorem Chg.trans {is js : List Nat} {σ σ' σ'' : L2.St} (a : Chg is σ σ') (b : Chg js σ' σ'') : Chg (is ++ js) σ σ'' :=
  ⟨b.len.trans a.len, fun j h => (b.out j fun z => h (List.mem_append_right _ z)).trans (a.out j fun z => h (List.mem_append_left _ z))⟩
theorem Chg.set {i : Nat} {σ : L2.St} {v : Option V} : Chg [i] σ (σ.set i v) := ⟨by simp, fun j h => by rw [List.getElem?_set_ne (fun e => h (by simp [e]))]⟩
theorem SR.set {Z : Zx} {α : List Addr} {H : Hp} {σw : Sg} {σ : L2.St} {i : Nat} {w : W} {v : V} (s : SR Z α H σw σ) (r : RelW Z α H w v) : SR Z α H (σw.set i (some w)) (σ.set i (some v)) :=
  ⟨by simp [s.len], fun j w' e => by
    by_cases z : i = j
    · subst z
      by_cases hi : i < σw.length
      · rw [List.getElem?_set_self hi] at e
        cases e
        exact ⟨v, by rw [List.getElem?_set_self (by rw [← s.len]; exact hi)], r⟩
      · rw [List.getElem?_eq_none (by simpa using hi)] at e; cases e
    · rw [List.getElem?_set_ne z] at e
      obtain ⟨v', e1, r1⟩ := s.at_ j w' e
      exact ⟨v', by rw [List.getElem?_set_ne z]; exact e1, r1⟩⟩
theorem SR.none {Z : Zx} {α : List Addr} {H : Hp} {σw : Sg} {σ : L2.St} {i : Nat} (s : SR Z α H σw σ) : SR Z α H (σw.set i none) (σ.set i none) :=
  ⟨by simp [s.len], fun j w' e => by
    by_cases z : i = j
    · subst z
      by_cases hi : i < σw.length
      · rw [List.getElem?_set_self hi] at e; cases e
      · rw [List.getElem?_eq_none (by simpa using hi)] at e; cases e
    · rw [List.getElem?_set_ne z] at e
      obtain ⟨v', e1, r1⟩ := s.at_ j w' e
      exact ⟨v', by rw [List.getElem?_set_ne z]; exact e1, r1⟩⟩
theorem SR.wipe {Z : Zx} {α : List Addr} {H : Hp} {σw : Sg} {σ : L2.St} (s : SR Z α H σw σ) : ∀ vs : List Nat, SR Z α H (wipeE σw vs) (L2.wipe σ vs)
  | [] => s
  | v :: vs => (SR.wipe s vs).none
theorem wipe_at {σ : L2.St} {j : Nat} : ∀ {vs : List Nat}, (L2.wipe σ vs)[j]? = if j ∈ vs then (σ[j]?).map (fun _ => none) else σ[j]?
  | [] => by simp [L2.wipe]
  | v :: vs => by
    unfold L2.wipe
    by_cases z : v = j
    · subst z
      rw [if_pos List.mem_cons_self]
      by_cases hv : v < σ.length
      · rw [List.getElem?_set_self (by rw [wipe_length]; exact hv), List.getElem?_eq_getElem hv]; rfl
      · rw [List.getElem?_eq_none (by simpa [wipe_length] using hv), List.getElem?_eq_none (by simpa using hv)]; rfl
    · rw [List.getElem?_set_ne z, wipe_at (vs := vs)]
      have : (j ∈ v :: vs) ↔ j ∈ vs := by simp [Ne.symm z]
      by_cases q : j ∈ vs
      · rw [if_pos q, if_pos (this.mpr q)]
      · rw [if_neg q, if_neg (fun h => q (this.mp h))]
theorem Chg.wipe {is vs : List Nat} {σ σ' : L2.St} (c : Chg is (L2.wipe σ vs) σ') (h : ∀ i ∈ is, i ∈ vs) : L2.wipe σ' vs = L2.wipe σ vs := by
  apply List.ext_getElem?
  intro j
  rw [wipe_at]
  by_cases q : j ∈ vs
  · rw [if_pos q, wipe_at, if_pos q]
    by_cases hj : j < σ.length
    · have hj' : j < σ'.length := by rw [c.len, wipe_length]; exact hj
      rw [List.getElem?_eq_getElem hj, List.getElem?_eq_getElem hj']; rfl
    · have hj' : ¬ j < σ'.length := by rw [c.len, wipe_length]; exact hj
      rw [List.getElem?_eq_none (Nat.le_of_not_lt hj), List.getElem?_eq_none (Nat.le_of_not_lt hj')]
  · rw [if_neg q, c.out j fun z => q (h j z)]

section
variable {Z : Zx} {B : XK} {X : Cx} {e o a b c d tg it : Expr} {es ts : List Expr} {body : List Stmt} {pos apos : Pos}
theorem g_name {i : Nat} {x : Str} (hN : X.N.Nodup) (hi : X.N[i]? = some x) (hx : Loc X.env.scope x := by first | exact .inl rfl | exact .inr rfl) (hf : X.fn x = true ∨ X.env.scope.names.lookup x = some .local := by first | exact .inl rfl | exact .inr rfl | assumption) : PG X (.Name x pos) (rG Z B [i] (gV i)) :=
  PG.weak (pg_name hN hi hx hf) fun v σ H Q ⟨α, he, σw, w, hr, sr, r, g⟩ => by
    by_cases z : i < σw.length
    · simp only [gV, if_pos z] at g
      exact Got.now g hr _ (sr.set r) .set
    · simp only [gV, if_neg z] at g; exact g.elim
theorem gs_nil : PGs X [] (rGs Z B [] gsN) := PGs.weak pgs_nil fun vs σ H Q ⟨α, he, σw, ws, hr, sr, r, g⟩ => by
  cases r with
  | nil => exact ⟨rfl, Got.now g hr _ sr .refl⟩
  | cons _ _ => exact g.elim
theorem gs_cons {is js : List Nat} {m : G} {ms : GS} (h1 : PG X e (rG Z B is m)) (h2 : PGs X es (rGs Z B js ms)) (hs : (assignEach (e :: es) X.env).map (·.2) = assign e X.env :: (assignEach es X.env).map (·.2) := by rfl) : PGs X (e :: es) (rGs Z B (is ++ js) (gsC m ms)) :=
  PGs.weak (pgs_cons h1 h2 hs) fun vs σ H Q ⟨α, he, σw, ws, hr, sr, r, g⟩ => by
    cases r with
    | nil => exact g.elim
    | cons r t => exact ⟨_, _, rfl, α, he, σw, _, hr, sr, r, (Got.bind g).imp fun σw1 he1 α1 H1 x1 hr1 g1 σ1 sr1 c1 => ⟨α1, he1, σw1, _, hr1, sr1, t.ext x1, g1.imp fun σw2 he2 α2 H2 x2 hr2 g2 σ2 sr2 c2 => g2 σ2 sr2 (c1.trans c2)⟩⟩
theorem g_tup {is : List Nat} {ms : GS} {k n : Nat} (hK : X.K = Z.K) (hc : X.calm = true) (h : PGs X es (rGs Z B is ms)) (hn : (assignEach es X.env).length = n := by rfl) (hst : (assignEach es X.env).findIdx? (·.1) = none := by rfl) : PG X (.Tuple es k pos) (rG Z B is (gTup n ms)) :=
  PG.weak (pg_tup hc h hn hst) fun v σ H Q ⟨α, he, σw, w, hr, sr, r, g⟩ => by
    cases r with
    | @tup ws a vs q1 q2 =>
      by_cases z : ws.length = n
      · simp only [gTup, if_pos z] at g
        exact ⟨a, vs, rfl, hK ▸ q1, by rw [← q2.length]; exact z, α, he, σw, ws, hr, sr, q2, g⟩
      · simp only [gTup, if_neg z] at g; exact g.elim
    | _ => exact g.elim
theorem g_ix {ma mb : E} (ha : PE X a (rE Z B ma)) (hb : PE X b (rE Z B mb))
    (hx : ∀ v, assign (.Subscript a b pos) X.env v = (do
      let ov ← holding [v] (eval a X.env)
      let iv ← holding [v, ov] (eval b X.env)
      standAt pos
      holding [v, ov, iv] (setItem ov iv v)
      release [v, ov, iv] []) := by intro _; rfl) : PG X (.Subscript a b pos) (rG Z B [] (gIx ma mb)) :=
  PG.weak (pg_sub ha hb set_list hx) fun v σ H Q ⟨α, he, σw, w, hr, sr, r, g⟩ =>
    ⟨α, he, σw, hr, sr, (Got.bind g).imp fun x he1 α1 H1 x1 hr1 g1 vx rx => ⟨α1, he1, σw, hr1, sr.ext x1, (Got.bind g1).imp fun y he2 α2 H2 x2 hr2 g2 vy ry => by
      have rx2 := rx.ext x2
      have rw2 := (r.ext x1).ext x2
      have sr2 := (sr.ext x1).ext x2
      cases rx2 with
      | ref q =>
        rename_i i a'
        cases ry with
        | int j =>
          cases e1 : he2[i]? with
          | none => simp only [setI, e1] at g2; exact g2.elim
          | some ob =>
            cases ob with
            | lst xs =>
              cases e2 : ixN xs.length j with
              | none => simp only [setI, e1, e2] at g2; exact g2.elim
              | some j' =>
                simp only [setI, e1, e2] at g2
                obtain ⟨us, h1, r3⟩ := hr2.at' e1 q
                have pe : Ext α2 α2 H2 (upd H2 a' (.lst (us.set j' v))) := .put q h1 True.intro
                exact ⟨a', us, j, j', rfl, rfl, h1, by rw [← r3.length]; exact e2, g2 _ _ pe (hr2.put q h1 True.intro ⟨_, upd_same, (r3.set j' rw2).ext pe⟩) _ (sr2.ext pe) .refl⟩
            | _ => simp only [setI, e1] at g2; exact g2.elim
        | _ => exact g2.elim
      | _ => cases ry <;> exact g2.elim⟩⟩

theorem ss_nil : PSs X [] (rS Z B sNil) := PSs.weak pss_nil fun D σ H ⟨α, he, σw, hr, sr, g⟩ => Got.now g hr _ sr
theorem ss_cons {st : Stmt} {rest : List Stmt} {m n : S} (h1 : PS X st (rS Z B m)) (h2 : PSs X rest (rS Z B n)) : PSs X (st :: rest) (rS Z B (sSeq m n)) :=
  PSs.weak (pss_cons h1 h2) fun D σ H ⟨α, he, σw, hr, sr, g⟩ => ⟨α, he, σw, hr, sr, (Got.bind g).imp fun f he1 α1 H1 x1 hr1 g1 => by
    cases f with
    | nx σw1 => exact fun σ1 sr1 => ⟨α1, he1, σw1, hr1, sr1, g1⟩
    | rt w => exact Got.now (X := B) g1 hr1
    | bk σw1 => exact Got.now (X := B) g1 hr1
    | ct σw1 => exact Got.now (X := B) g1 hr1⟩
theorem ss_one {st : Stmt} {m : S} (h1 : PS X st (rS Z B m)) : PSs X [st] (rS Z B m) := pss_one h1
theorem s_pass : PS X (.Pass pos) (rS Z B sNil) := PS.weak ps_pass fun D σ H ⟨α, he, σw, hr, sr, g⟩ => Got.now g hr _ sr
theorem s_brk : PS X (.Break pos) (rS Z B sBrk) := PS.weak ps_break fun D σ H ⟨α, he, σw, hr, sr, g⟩ => Got.now g hr _ sr
theorem s_cnt : PS X (.Continue pos) (rS Z B sCnt) := PS.weak ps_continue fun D σ H ⟨α, he, σw, hr, sr, g⟩ => Got.now g hr _ sr
theorem s_ex {m : E} (he : PE X e (rE Z B m)) (hs : swapsWith e none pos.line X.env = pure false := by rfl) : PS X (.Expr e pos) (rS Z B (sEx m)) :=
  PS.weak (ps_expr he hs) fun D σ H ⟨α, he, σw, hr, sr, g⟩ => ⟨α, he, σw, hr, sr, (Got.bind g).imp fun w he1 α1 H1 x1 hr1 g1 v r1 => Got.now g1 hr1 _ (sr.ext x1)⟩
theorem s_ret {m : E} (he : PE X e (rE Z B m)) : PS X (.Return (some e) pos) (rS Z B (sRet m)) :=
  PS.weak (ps_ret he) fun D σ H ⟨α, he, σw, hr, sr, g⟩ => ⟨α, he, σw, hr, sr, (Got.bind g).imp fun w he1 α1 H1 x1 hr1 g1 v r1 => Got.now g1 hr1 _ r1⟩
theorem s_ret0 : PS X (.Return none pos) (rS Z B sRet0) := PS.weak ps_retN fun D σ H ⟨α, he, σw, hr, sr, g⟩ => Got.now g hr _ .non
theorem s_if {t : T} {p q : List Stmt} {m n : S} (hc : PT X c (rT Z B t)) (ha : PSs X p (rS Z B m)) (hb : PSs X q (rS Z B n)) : PS X (.If c p q pos) (rS Z B (sIf t m n)) :=
  PS.weak (ps_if hc ha hb) fun D σ H ⟨α, he, σw, hr, sr, g⟩ => rT_sub (f := t) (Q := fun _ _ => True) hr sr (Got.bind g) fun k he1 α1 H1 x1 hr1 sr1 q => by
    cases k with
    | true => rw [if_pos rfl]; exact ⟨α1, he1, σw, hr1, sr1, q⟩
    | false => rw [if_neg Bool.false_ne_true]; exact ⟨α1, he1, σw, hr1, sr1, q⟩
theorem s_asg {is : List Nat} {m : E} {mg : G} (he : PE X e (rE Z B m)) (hg : PG X tg (rG Z B is mg)) (hs : swapsWithSole [tg] e pos.line X.env = pure false := by rfl) (hw : swappedStores [tg] e X.env = pure none := by rfl)
    (h1 : (assignEach [tg] X.env).map (·.2) = [assign tg X.env] := by rfl) : PS X (.Assign [tg] e pos) (rS Z B (sAsg mg m)) :=
  PS.weak (ps_asg he hg hs hw h1) fun D σ H ⟨α, he, σw, hr, sr, g⟩ => ⟨α, he, σw, hr, sr, (Got.bind g).imp fun w he1 α1 H1 x1 hr1 g1 v r1 => ⟨α1, he1, σw, w, hr1, sr.ext x1, r1, (Got.bind g1).imp fun σw2 he2 α2 H2 x2 hr2 g2 σ2 sr2 _ => Got.now g2 hr2 _ sr2⟩⟩
theorem s_set {m : E} {i : Nat} {x : Str} {pos' : Pos} (hN : X.N.Nodup) (hi : X.N[i]? = some x) (he : PE X e (rE Z B m)) (hx : Loc X.env.scope x := by first | exact .inl rfl | exact .inr rfl) (hs : swapsWith e (some (.Name x pos')) pos.line X.env = pure false := by rfl) (hf : X.fn x = true ∨ X.env.scope.names.lookup x = some .local := by first | exact .inl rfl | exact .inr rfl | assumption) :
    PS X (.Assign [.Name x pos'] e pos) (rS Z B (sAsg (gV i) m)) :=
  PS.weak (ps_set hN hi hx he hs hf) fun D σ H ⟨α, he, σw, hr, sr, g⟩ => ⟨α, he, σw, hr, sr, (Got.bind g).imp fun w he1 α1 H1 x1 hr1 g1 v r1 => by
    by_cases z : i < σw.length
    · simp only [gV, if_pos z, Rs.bind_ok] at g1
      exact Got.now g1 hr1 _ ((sr.ext x1).set r1)
    · simp only [gV, if_neg z] at g1; exact g1.elim⟩
theorem s_par {ms : ES} {i j : Nat} {x y : Str} {px py pt : Pos} {kt k2 pt2} (hc : X.calm = true) (hN : X.N.Nodup) (hi : X.N[i]? = some x) (hj : X.N[j]? = some y) (hij : i ≠ j)
    (hx : X.env.scope.names.lookup x = some .local) (hy : X.env.scope.names.lookup y = some .local) (ha : PA X [a, b] (rA Z B ms))
    (hw : swappedStores [.Tuple [.Name x px, .Name y py] kt pt] (.Tuple [a, b] k2 pt2) X.env = pure (some [x, y]))
    (hs : swapsWithSole [.Tuple [.Name x px, .Name y py] kt pt] (.Tuple [a, b] k2 pt2) pos.line X.env = pure false := by rfl) :
    PS X (.Assign [.Tuple [.Name x px, .Name y py] kt pt] (.Tuple [a, b] k2 pt2) pos) (rS Z B (sPar i j ms)) :=
  PS.weak (ps_par hc hN hi hj hij hx hy ha hw hs) fun D σ H ⟨α, he, σw, hr, sr, g⟩ => ⟨α, he, σw, hr, sr, (Got.bind g).imp fun ws he1 α1 H1 x1 hr1 g1 vs rs => by
    cases rs with
    | nil => exact g1.elim
    | cons r t =>
      cases t with
      | nil => exact g1.elim
      | cons r2 t2 =>
        cases t2 with
        | cons _ _ => exact g1.elim
        | nil => exact ⟨_, _, rfl, Got.now g1 hr1 _ (((sr.ext x1).set r).set r2)⟩⟩
theorem s_fld {m mo : E} {cs : List Nat} {f : Nat} {x : Str} {pos' : Pos} (hK : X.K = Z.K) (fd : Fd Z cs f x) (ho : PE X o (rE Z B mo)) (hv : PE X e (rE Z B m)) (hs : swapsWith e (some (.Attribute o x pos')) pos.line X.env = pure false := by rfl) : PS X (.Assign [.Attribute o x pos'] e pos) (rS Z B (sFld cs mo f m)) :=
  PS.weak (ps_fld ho hv hs) fun D σ H ⟨α, he, σw, hr, sr, g⟩ => ⟨α, he, σw, hr, sr, (Got.bind g).imp fun w he1 α1 H1 x1 hr1 g1 v r1 => ⟨α1, he1, σw, hr1, sr.ext x1, (Got.bind g1).imp fun wo he2 α2 H2 x2 hr2 g2 vo ro => by
    have rw2 := r1.ext x2
    have sr2 := (sr.ext x1).ext x2
    cases ro with
    | ref q =>
      rename_i i a
      cases e2 : he2[i]? with
      | none => simp only [setF, e2] at g2; exact g2.elim
      | some ob =>
        cases ob with
        | ins c fs =>
          by_cases z : c ∈ cs ∧ fs.length < 1000
          · simp only [setF, e2, if_pos z] at g2
            obtain ⟨dx, gs, h1, rf⟩ := hr2.at' e2 q
            obtain ⟨k1, k2⟩ := fd.cls c z.1
            have pe : Ext α2 α2 H2 (upd H2 a (.ins (Z.γ c) dx (putF x v gs))) := .put q h1 True.intro
            exact ⟨a, Z.γ c, dx, gs, rfl, h1, hK ▸ k1, hK ▸ k2, by rw [← rf.length]; exact z.2, g2 _ _ pe (hr2.put q h1 True.intro ⟨dx, _, upd_same, (rf.put fd.nm rw2).ext pe⟩) _ (sr2.ext pe)⟩
          · simp only [setF, e2, if_neg z] at g2; exact g2.elim
        | _ => simp only [setF, e2] at g2; exact g2.elim
    | _ => exact g2.elim⟩⟩

theorem s_aug_add {m : E} {i : Nat} {x : Str} {pos' : Pos} (hN : X.N.Nodup) (hi : X.N[i]? = some x) (he : PE X e (rE Z B m)) (hx : Loc X.env.scope x := by first | exact .inl rfl | exact .inr rfl) (hf : X.fn x = true ∨ X.env.scope.names.lookup x = some .local := by first | exact .inl rfl | exact .inr rfl | assumption) :
    PS X (.AugAssign (.Name x pos') .Add e pos) (rS Z B (sAug i .add m)) :=
  PS.weak (ps_aug hN hi hx he ip_add hf) fun D σ H ⟨α, he, σw, hr, sr, g⟩ => by
    unfold sAug at g
    split at g
    · rename_i x e1
      obtain ⟨v, e2, r2⟩ := sr.at_ i _ e1
      cases r2
      exact ⟨_, e2, α, he, σw, hr, sr, (Got.bind g).imp fun y he1 α1 H1 x1 hr1 g1 v r1 => by
        cases r1 <;> first
          | exact g1.elim
          | exact ⟨_, _, rfl, rfl, Got.now g1 hr1 _ ((sr.ext x1).set (.int _))⟩⟩
    · exact g.elim
theorem s_aug_sub {m : E} {i : Nat} {x : Str} {pos' : Pos} (hN : X.N.Nodup) (hi : X.N[i]? = some x) (he : PE X e (rE Z B m)) (hx : Loc X.env.scope x := by first | exact .inl rfl | exact .inr rfl) (hf : X.fn x = true ∨ X.env.scope.names.lookup x = some .local := by first | exact .inl rfl | exact .inr rfl | assumption) :
    PS X (.AugAssign (.Name x pos') .Sub e pos) (rS Z B (sAug i .sub m)) :=
  PS.weak (ps_aug hN hi hx he ip_sub hf) fun D σ H ⟨α, he, σw, hr, sr, g⟩ => by
    unfold sAug at g
    split at g
    · rename_i x e1
      obtain ⟨v, e2, r2⟩ := sr.at_ i _ e1
      cases r2
      exact ⟨_, e2, α, he, σw, hr, sr, (Got.bind g).imp fun y he1 α1 H1 x1 hr1 g1 v r1 => by
        cases r1 <;> first
          | exact g1.elim
          | exact ⟨_, _, rfl, rfl, Got.now g1 hr1 _ ((sr.ext x1).set (.int _))⟩⟩
    · exact g.elim

theorem wk_list {α : List Addr} {H : Hp} {w : W} {a : Addr} (hK : X.K = Z.K) (r : RelW Z α H w (.ref a)) (hl : ∀ xs, w ≠ .tup xs) : Wk Z α H (.live w) (Itl X.K a) := fun α1 H1 he1 x1 hr1 xs i e => by
  obtain ⟨a', vs, h1, h2, h3⟩ := hr1.list (r.ext x1) (show lstOf he1 w = some xs from e)
  cases h1
  rw [hK]
  refine ⟨fun n => ⟨vs, h2, ?_⟩, fun w e1 => ?_⟩
  · have := List.getElem?_eq_none_iff.mp n
    rw [← h3.length]; exact this
  · obtain ⟨v, e2, r2⟩ := h3.get e1
    refine ⟨⟨vs, v, h2, e2⟩, fun x H2 ⟨e3, e4⟩ => ?_⟩
    subst e3
    have e5 := e4 vs h2
    rw [e2] at e5
    cases e5
    exact ⟨.refl, hr1, r2⟩
theorem wk_tup {α : List Addr} {H : Hp} {ws : List W} {vs : List V} {a : Addr} (hK : X.K = Z.K) (q : SqT Z.K H a vs) (r : RelWs Z α H ws vs) : Wk Z α H (.fix ws) (Itt X.K a) := fun α1 H1 he1 x1 hr1 xs i e => by
  cases e
  rw [hK]
  have h2 := x1.sqT q
  have h3 := r.ext x1
  refine ⟨fun n => ⟨vs, h2, ?_⟩, fun w e1 => ?_⟩
  · have := List.getElem?_eq_none_iff.mp n
    rw [← h3.length]; exact this
  · obtain ⟨v, e2, r2⟩ := h3.get e1
    refine ⟨⟨vs, v, h2, e2⟩, fun x H2 ⟨e3, e4⟩ => ?_⟩
    subst e3
    have e5 := e4 vs h2
    rw [e2] at e5
    cases e5
    exact ⟨.refl, hr1, r2⟩
theorem wk_str {α : List Addr} {H : Hp} {x : Str} : Wk Z α H (.fix (x.cps.toList.map fun c => .str ⟨#[c]⟩)) (Its x) := fun α1 H1 he1 x1 hr1 xs i e => by
  cases e
  refine ⟨fun n => ?_, fun w e1 => ?_⟩
  · have := List.getElem?_eq_none_iff.mp n
    show x.cps.size ≤ i
    simpa using this
  · rw [List.getElem?_map] at e1
    cases e2 : x.cps.toList[i]? with
    | none => rw [e2] at e1; cases e1
    | some c =>
      rw [e2] at e1
      cases e1
      have hi : i < x.cps.size := by simpa using (List.getElem?_eq_some_iff.mp e2).1
      refine ⟨hi, fun v H2 ⟨e3, c', e4, e5⟩ => ?_⟩
      subst e3; subst e5
      have e6 : x.cps[i]? = some c := by rw [← Array.getElem?_toList]; exact e2
      rw [e6] at e4
      cases e4
      exact ⟨.refl, hr1, .str _⟩
theorem wk_rng {α : List Addr} {H : Hp} {lo : Int} {n : Nat} : Wk Z α H (.fix (rgOf lo n)) (Itr lo n) := fun α1 H1 he1 x1 hr1 xs i e => by
  cases e
  refine ⟨fun q => ?_, fun w e1 => ?_⟩
  · have := List.getElem?_eq_none_iff.mp q
    show n ≤ i
    simpa [rgOf] using this
  · unfold rgOf at e1
    rw [List.getElem?_map] at e1
    by_cases hi : i < n
    · have e2 : (List.range n)[i]? = some i := by simp [hi]
      rw [e2] at e1
      cases e1
      exact ⟨hi, fun v H2 ⟨e3, e4⟩ => by subst e3; subst e4; exact ⟨.refl, hr1, .int _⟩⟩
    · have e2 : (List.range n)[i]? = none := by simp [Nat.le_of_not_lt hi]
      rw [e2] at e1; cases e1
theorem PI.weak {wi wi' : TI} (h : PI X tg it wi) (w : ∀ σ H R, wi' σ H R → wi σ H R) : PI X tg it wi' := ⟨fun pins s σ H R I q => h.run pins s σ H R I (w σ H R q)⟩
theorem PI.or {wi wi' : TI} (h : PI X tg it wi) (h' : PI X tg it wi') : PI X tg it (fun σ H R => wi σ H R ∨ wi' σ H R) := ⟨fun pins s σ H R I q => q.elim (h.run pins s σ H R I) (h'.run pins s σ H R I)⟩
theorem i_e {m : E} (hK : X.K = Z.K) (ha : PE X a (rE Z B m)) : PI X tg a (rIt Z B (iE m)) :=
  PI.weak (PI.or (pi_list (tg := tg) ha) (PI.or (pi_tup (tg := tg) ha) (pi_str (tg := tg) ha))) fun σ H R ⟨α, he, σw, hr, sr, g⟩ => by
    have g1 := Got.bind g
    cases e : m σw he with
    | bad => rw [e] at g1; exact g1.elim
    | ex c fs h => rw [e] at g1; exact .inl ⟨α, he, σw, hr, sr, by rw [e]; exact g1⟩
    | ok w he1 =>
      rw [e] at g1
      cases w with
      | tup ws =>
        refine .inr (.inl ⟨α, he, σw, hr, sr, ?_⟩)
        rw [e]
        intro α1 H1 x1 hr1 v r
        cases r with
        | @tup ws a vs q1 q2 => exact ⟨a, rfl, ⟨vs, hK ▸ q1⟩, Got.now (g1 α1 H1 x1 hr1) hr1 _ (wk_tup hK q1 q2)⟩
      | str x =>
        refine .inr (.inr ⟨α, he, σw, hr, sr, ?_⟩)
        rw [e]
        intro α1 H1 x1 hr1 v r
        cases r
        exact ⟨x, rfl, Got.now (g1 α1 H1 x1 hr1) hr1 _ wk_str⟩
      | ref i =>
        refine .inl ⟨α, he, σw, hr, sr, ?_⟩
        rw [e]
        intro α1 H1 x1 hr1 v r
        obtain ⟨u, e1, q⟩ := Got.lift (g1 α1 H1 x1 hr1) hr1
        cases e2 : lstOf he1 (.ref i) with
        | none => simp only [itOf, e2] at e1; cases e1
        | some ws =>
          simp only [itOf, e2, Option.map_some] at e1
          cases e1
          obtain ⟨a, vs, h1, h2, _⟩ := hr1.list r e2
          subst h1
          exact ⟨a, rfl, ⟨vs, hK ▸ h2⟩, q _ (wk_list hK r fun _ z => nomatch z)⟩
      | kl ns =>
        refine .inl ⟨α, he, σw, hr, sr, ?_⟩
        rw [e]
        intro α1 H1 x1 hr1 v r
        obtain ⟨u, e1, q⟩ := Got.lift (g1 α1 H1 x1 hr1) hr1
        cases e1
        obtain ⟨a, vs, h1, h2, _⟩ := hr1.list r (show lstOf he1 (.kl ns) = some _ from rfl)
        subst h1
        exact ⟨a, rfl, ⟨vs, hK ▸ h2⟩, q _ (wk_list hK r fun _ z => nomatch z)⟩
      | _ =>
        refine .inl ⟨α, he, σw, hr, sr, ?_⟩
        rw [e]
        intro α1 H1 x1 hr1 v r
        obtain ⟨u, e1, q⟩ := Got.lift (g1 α1 H1 x1 hr1) hr1
        cases e1
theorem rg_core {σ : L2.St} {H : Hp} {R : It → Hp → Prop} {ms : ES} {n : Nat} {P : List V → Hp → Prop} (hl : Ln ms n) (h : rIt Z B (iRg ms) σ H R)
    (k : ∀ α he H1 ws vs xs, HR Z α he H1 → RelWs Z α H1 ws vs → ws.length = n → rgW ws = some xs → (∀ J, Wk Z α H1 (.fix xs) J → R J H1) → P vs H1) : rA Z B ms σ H P := by
  obtain ⟨α, he, σw, hr, sr, g⟩ := h
  refine ⟨α, he, σw, hr, sr, ?_⟩
  have g1 := Got.bind g
  cases e : ms σw he with
  | bad => rw [e] at g1; exact g1.elim
  | ex c fs h => rw [e] at g1; exact g1
  | ok ws he1 =>
    rw [e] at g1
    intro α1 H1 x1 hr1 vs rs
    obtain ⟨v, e1, q⟩ := Got.lift (g1 α1 H1 x1 hr1) hr1
    cases e2 : rgW ws with
    | none => rw [e2] at e1; cases e1
    | some xs =>
      rw [e2] at e1
      cases e1
      exact k _ _ _ _ _ _ hr1 rs (hl _ _ _ _ e) e2 q
theorem i_rg1 {x : Expr} {p : Pos} {ms : ES} (hg : Gl X "range") (hm : X.mg "range" = none) (ha : PA X [x] (rA Z B ms)) (hl : Ln ms 1) (hs : starEach [x] X.env = [(false, eval x X.env)] := by rfl) : PI X tg (.Call (.Name "range" p) [x] [] pos) (rIt Z B (iRg ms)) :=
  PI.weak (pi_rgA1 hg hm ha hs) fun σ H R h => rg_core hl h fun α he H1 ws vs xs hr rs hl e q => by
    cases rs with
    | nil => cases hl
    | cons r t =>
      cases t with
      | cons _ _ => simp at hl
      | nil =>
        cases r <;> first
          | (cases e; done)
          | skip
        rename_i n
        cases e
        exact ⟨n, rfl, q _ wk_rng⟩
theorem i_rg2 {x y : Expr} {p : Pos} {ms : ES} (hg : Gl X "range") (hm : X.mg "range" = none) (ha : PA X [x, y] (rA Z B ms)) (hl : Ln ms 2) (hs : starEach [x, y] X.env = [(false, eval x X.env), (false, eval y X.env)] := by rfl) (hs2 : starEach [y] X.env = [(false, eval y X.env)] := by rfl) :
    PI X tg (.Call (.Name "range" p) [x, y] [] pos) (rIt Z B (iRg ms)) :=
  PI.weak (pi_rgA2 hg hm ha hs hs2) fun σ H R h => rg_core hl h fun α he H1 ws vs xs hr rs hl e q => by
    cases rs with
    | nil => cases hl
    | cons r t =>
      cases t with
      | nil => simp at hl
      | cons r2 t2 =>
        cases t2 with
        | cons _ _ => simp at hl
        | nil =>
          cases r <;> cases r2 <;> first
            | (cases e; done)
            | skip
          rename_i i j
          cases e
          exact ⟨i, j, rfl, q _ wk_rng⟩

theorem got_next {D : Ends} {N : L2.St → Hp → Prop} {f : Fl} {he : He} {go : Sg → He → Rs Fl} {α : List Addr} {H : Hp} (hr : HR Z α he H) (g : Got Z B α H (forNext f he go) (FlQ Z D))
    (n : ∀ σw, Got Z B α H (go σw he) (FlQ Z D) → ∀ σ, SR Z α H σw σ → N σ H) : FlQ Z { D with nx := N, ct := N, bk := D.nx } f he α H := by
  cases f with
  | nx σw => exact n σw g
  | ct σw => exact n σw g
  | bk σw => exact Got.now (X := B) g hr
  | rt w => exact Got.now (X := B) g hr
theorem s_for {is : List Nat} {mi : VE.I} {mg : G} {mb : S} (hp : PassesOwn (model X.prog X.w) X.A X.env X.xe) (hc : X.calm = true) (hi : PI X tg it (rIt Z B mi)) (hg : PG X tg (rG Z B is mg)) (hb : PSs X body (rS Z B mb))
    (hs : ∀ x, foldedSetIterable it X.env x = pure x := by intro _; rfl) : PS X (.For tg it body [] pos) (rS Z B (sFor mg mi mb)) :=
  PS.weak (ps_for hp hc hi hg hb hs) fun D σ H ⟨α, he, σw, hr, sr, g⟩ => ⟨α, he, σw, hr, sr, (Got.bind g).imp fun v he1 α1 H1 x1 hr1 g1 J wk => by
    have turn : ∀ {α2 : List Addr} {he2 : He} {σw2 : Sg} {σ2 : L2.St} {H2 : Hp} {w : W} {x : V} {go : Sg → He → Rs Fl} {N : L2.St → Hp → Prop}, HR Z α2 he2 H2 → SR Z α2 H2 σw2 σ2 → RelW Z α2 H2 w x →
        Got Z B α2 H2 (((mg w σw2 he2).bind fun σ h => mb σ h).bind fun f h => forNext f h go) (FlQ Z D) → (∀ α3 H3 he3 σw3 σ3, Ext α2 α3 H2 H3 → HR Z α3 he3 H3 → SR Z α3 H3 σw3 σ3 → Got Z B α3 H3 (go σw3 he3) (FlQ Z D) → N σ3 H3) →
        rG Z B is mg x σ2 H2 fun σ3 H3 => rS Z B mb { D with nx := N, ct := N, bk := D.nx } σ3 H3 := fun {α2 he2 σw2 σ2 H2 w x go N} hr2 sr2 r2 g2 n =>
      ⟨α2, he2, σw2, w, hr2, sr2, r2, (Got.bind (Got.bind g2)).imp fun σw3 he3 α3 H3 x3 hr3 g3 σ3 sr3 _ => ⟨α3, he3, σw3, hr3, sr3, g3.imp fun f he4 α4 H4 x4 hr4 g4 => got_next hr4 g4 fun σw5 g5 σ5 sr5 => n _ _ _ _ _ (x3.trans x4) hr4 sr5 g5⟩⟩
    cases v with
    | fix xs =>
      refine ⟨fun i m σ H => ∃ α2 he2 σw2, Ext α1 α2 H1 H ∧ HR Z α2 he2 H ∧ SR Z α2 H σw2 σ ∧ m = (xs.drop i).length ∧ Got Z B α2 H (forFix (fun x σ h => (mg x σ h).bind fun σ h => mb σ h) (xs.drop i) σw2 he2) (FlQ Z D),
        ⟨xs.length, α1, he1, σw, .refl, hr1, sr.ext x1, by simp, g1⟩, ?_⟩
      rintro i m σ2 H2 ⟨α2, he2, σw2, x2, hr2, sr2, rfl, g2⟩
      obtain ⟨w1, w2⟩ := wk α2 H2 he2 x2 hr2 xs i rfl
      cases e : xs[i]? with
      | none =>
        have e2 : xs.drop i = [] := List.drop_eq_nil_iff.mpr (List.getElem?_eq_none_iff.mp e)
        rw [e2] at g2
        exact .inl ⟨w1 e, Got.now g2 hr2 _ sr2⟩
      | some w =>
        have hi : i < xs.length := (List.getElem?_eq_some_iff.mp e).1
        have e2 : xs.drop i = w :: xs.drop (i + 1) := by
          rw [List.drop_eq_getElem_cons hi]
          congr 1
          exact (List.getElem?_eq_some_iff.mp e).2
        obtain ⟨go, yl⟩ := w2 w e
        refine .inr ⟨go, fun σ' H' => ∃ m', m' < (xs.drop i).length ∧ ∃ α2 he2 σw2, Ext α1 α2 H1 H' ∧ HR Z α2 he2 H' ∧ SR Z α2 H' σw2 σ' ∧ m' = (xs.drop (i + 1)).length ∧ Got Z B α2 H' (forFix (fun x σ h => (mg x σ h).bind fun σ h => mb σ h) (xs.drop (i + 1)) σw2 he2) (FlQ Z D), fun _ _ q => q, fun x H3 y => ?_⟩
        obtain ⟨x3, hr3, r3⟩ := yl x H3 y
        rw [e2] at g2
        exact turn hr3 (sr2.ext x3) r3 (g2.ext x3) fun α4 H4 he4 σw4 σ4 x4 hr4 sr4 g4 => ⟨_, by rw [e2]; simp, α4, he4, σw4, (x2.trans x3).trans x4, hr4, sr4, rfl, g4⟩
    | live a =>
      refine ⟨fun i m σ H => ∃ α2 he2 σw2, Ext α1 α2 H1 H ∧ HR Z α2 he2 H ∧ SR Z α2 H σw2 σ ∧ Got Z B α2 H (forLive (fun x σ h => (mg x σ h).bind fun σ h => mb σ h) a m i σw2 he2) (FlQ Z D),
        ⟨FU, α1, he1, σw, .refl, hr1, sr.ext x1, g1⟩, ?_⟩
      rintro i m σ2 H2 ⟨α2, he2, σw2, x2, hr2, sr2, g2⟩
      cases m with
      | zero => exact g2.elim
      | succ m =>
        cases e0 : lstOf he2 a with
        | none => simp only [forLive, e0] at g2; exact g2.elim
        | some xs =>
          obtain ⟨w1, w2⟩ := wk α2 H2 he2 x2 hr2 xs i e0
          cases e : xs[i]? with
          | none =>
            simp only [forLive, e0, e] at g2
            exact .inl ⟨w1 e, Got.now g2 hr2 _ sr2⟩
          | some w =>
            simp only [forLive, e0, e] at g2
            obtain ⟨go, yl⟩ := w2 w e
            refine .inr ⟨go, fun σ' H' => ∃ m', m' < m + 1 ∧ ∃ α2 he2 σw2, Ext α1 α2 H1 H' ∧ HR Z α2 he2 H' ∧ SR Z α2 H' σw2 σ' ∧ Got Z B α2 H' (forLive (fun x σ h => (mg x σ h).bind fun σ h => mb σ h) a m' (i + 1) σw2 he2) (FlQ Z D), fun _ _ q => q, fun x H3 y => ?_⟩
            obtain ⟨x3, hr3, r3⟩ := yl x H3 y
            exact turn hr3 (sr2.ext x3) r3 (g2.ext x3) fun α4 H4 he4 σw4 σ4 x4 hr4 sr4 g4 => ⟨m, Nat.lt_succ_self _, α4, he4, σw4, (x2.trans x3).trans x4, hr4, sr4, g4⟩⟩
theorem s_whl {t : T} {mb : S} (hp : PassesOwn (model X.prog X.w) X.A X.env X.xe) (hc : PT X c (rT Z B t)) (hb : PSs X body (rS Z B mb)) : PS X (.While c body [] pos) (rS Z B (sWhl t mb)) :=
  PS.weak (ps_while hp hc hb) fun D σ H ⟨α, he, σw, hr, sr, g⟩ => by
    refine ⟨fun m σ1 H1 => ∃ α1 he1 σw1, Ext α α1 H H1 ∧ HR Z α1 he1 H1 ∧ SR Z α1 H1 σw1 σ1 ∧ Got Z B α1 H1 (whlF t mb m σw1 he1) (FlQ Z D), ⟨FU, α, he, σw, .refl, hr, sr, g⟩, ?_⟩
    rintro m σ1 H1 ⟨α1, he1, σw1, x1, hr1, sr1, g1⟩
    cases m with
    | zero => exact g1.elim
    | succ m =>
      have g1 : Got Z B α1 H1 ((t σw1 he1).bind fun k h => if k then (mb σw1 h).bind fun f h => forNext f h fun σ h => whlF t mb m σ h else .ok (.nx σw1) h) (FlQ Z D) := g1
      refine rT_sub (f := t) (Q := fun _ _ => True) hr1 sr1 (Got.bind g1) fun k he2 α2 H2 x2 hr2 sr2 q => ?_
      cases k with
      | false => rw [if_neg Bool.false_ne_true] at q ⊢; exact Got.now q hr2 _ sr2
      | true =>
        rw [if_pos rfl] at q ⊢
        refine ⟨fun σ' H' => ∃ m', m' < m + 1 ∧ ∃ α1 he1 σw1, Ext α α1 H H' ∧ HR Z α1 he1 H' ∧ SR Z α1 H' σw1 σ' ∧ Got Z B α1 H' (whlF t mb m' σw1 he1) (FlQ Z D), fun _ _ q => q, α2, he2, σw1, hr2, sr2, (Got.bind q).imp fun f he3 α3 H3 x3 hr3 g3 => ?_⟩
        exact got_next hr3 g3 fun σw4 g4 σ4 sr4 => ⟨m, Nat.lt_succ_self _, α3, he3, σw4, (x1.trans x2).trans x3, hr3, sr4, g4⟩
end
end VE
end
section
set_option Elab.async false
set_option linter.all false
set_option autoImplicit false
set_option maxRecDepth 100000
namespace VE
open PySem PySem.Spec PyProof.Rows L2

section
variable {Z : Zx} {α α' : List Addr} {H H' : Hp}
mutual
theorem RelW.gen (p : ∀ (i : Nat) a, α[i]? = some a → α'[i]? = some a) (x : ∀ a xs, SqT Z.K H a xs → SqT Z.K H' a xs) : ∀ {w : W} {v : V}, RelW Z α H w v → RelW Z α' H' w v
  | _, _, .non => .non
  | _, _, .bl b => .bl b
  | _, _, .int i => .int i
  | _, _, .str y => .str y
  | _, _, .tup h r => .tup (x _ _ h) (RelWs.gen p x r)
  | _, _, .ref e => .ref (p _ _ e)
  | _, _, .kl q => .kl q
theorem RelWs.gen (p : ∀ (i : Nat) a, α[i]? = some a → α'[i]? = some a) (x : ∀ a xs, SqT Z.K H a xs → SqT Z.K H' a xs) : ∀ {ws : List W} {vs : List V}, RelWs Z α H ws vs → RelWs Z α' H' ws vs
  | _, _, .nil => .nil
  | _, _, .cons r t => .cons (RelW.gen p x r) (RelWs.gen p x t)
end
theorem RelF.gen (p : ∀ (i : Nat) a, α[i]? = some a → α'[i]? = some a) (x : ∀ a xs, SqT Z.K H a xs → SqT Z.K H' a xs) {fs : List (Nat × W)} {gs : List (Str × V)} (h : RelF Z α H fs gs) : RelF Z α' H' fs gs := by
  induction h with
  | nil => exact .nil
  | cons e r t ih => exact .cons e (r.gen p x) ih
theorem OR.gen (p : ∀ (i : Nat) a, α[i]? = some a → α'[i]? = some a) (x : ∀ a xs, SqT Z.K H a xs → SqT Z.K H' a xs) {a : Addr} {o : EO} (h : OR Z α H a o) (e : H' a = H a) : OR Z α' H' a o := by
  cases o with
  | lst ws => obtain ⟨vs, q, r⟩ := h; exact ⟨vs, e.trans q, r.gen p x⟩
  | ro ws =>
    obtain ⟨vs, q, r⟩ := h
    refine ⟨vs, ?_, r.gen p x⟩
    rcases q with q | ⟨o, q⟩
    · exact .inl (e.trans q)
    · exact .inr ⟨o, e.trans q⟩
  | ins c fs => obtain ⟨dx, gs, q, r⟩ := h; exact ⟨dx, gs, e.trans q, r.gen p x⟩
theorem tups_put {D : Addr} {xs ys : List V} (h : H D = some (.lst xs)) : ∀ a zs, SqT Z.K H a zs → SqT Z.K (upd H D (.lst ys)) a zs := fun a zs q => by
  rcases q with q | q
  · rcases q with q | ⟨o, q⟩
    · exact .inl (.inl (by rw [upd_ne (ne_of q h fun z => nomatch z)]; exact q))
    · exact .inl (.inr ⟨o, by rw [upd_ne (ne_of q h fun z => nomatch z)]; exact q⟩)
  · exact .inr q
theorem HR.beside {he : He} {D : Addr} {xs ys : List V} (hr : HR Z α he H) (h : H D = some (.lst xs)) (n : D ∉ α) : HR Z α he (upd H D (.lst ys)) :=
  ⟨hr.len, hr.nd, fun i o a e1 e2 => (hr.obj i o a e1 e2).gen (fun _ _ q => q) (tups_put h) (upd_ne fun z => n (z ▸ List.mem_of_getElem? e2))⟩
theorem SR.beside {D : Addr} {xs ys : List V} {σw : Sg} {σ : L2.St} (s : SR Z α H σw σ) (h : H D = some (.lst xs)) : SR Z α (upd H D (.lst ys)) σw σ :=
  ⟨s.len, fun i w e => let ⟨v, q, r⟩ := s.at_ i w e; ⟨v, q, r.gen (fun _ _ q => q) (tups_put h)⟩⟩
end

section
variable {Z : Zx} {B : XK} {X : Cx} {e o a b c d tg it : Expr} {es ts ifs : List Expr} {body : List Stmt} {pos apos : Pos}
theorem ts_nil : PTs X [] (rT Z B tYes) := ⟨fun pins s σ H Q I ⟨α, he, σw, hr, sr, g⟩ => pts_nil.run pins s σ H Q I (Got.now g hr)⟩
theorem ts_one {t : T} (h : PT X c (rT Z B t)) : PTs X [c] (rT Z B t) := pts_one h
theorem ok_of {β δ ε : Type} {r : Rs β} {f : β → He → Rs δ} {go : δ → He → Rs ε} {α : List Addr} {H : Hp} {Q : ε → He → List Addr → Hp → Prop} (g : Got Z B α H (((r.bind f).noEx).bind go) Q) : ∃ b he, r = .ok b he ∧ Got Z B α H (((f b he).noEx).bind go) Q := by
  cases r with
  | ok b he => exact ⟨b, he, rfl, g⟩
  | ex c fs he => exact g.elim
  | bad => exact g.elim
theorem lc_turn {ε : Type} {is : List Nat} {mg : G} {t : T} {me : E} {own : List Nat} (hsub : ∀ i ∈ is, i ∈ own) {α1 α2 : List Addr} {he2 : He} {H1 H2 : Hp} {D : Addr} {σw : Sg} {σ : L2.St} {w : W} {x : V} {acc : List W} {vs : List V} {go : List W → He → Rs ε} {Nx : Hp → Prop} {QQ : ε → He → List Addr → Hp → Prop}
    (sr : SR Z α2 H2 σw σ) (hD : H1 D = none) (x2 : Ext α1 α2 H1 H2) (nD : D ∉ α2) (hr2 : HR Z α2 he2 H2) (rx : RelW Z α2 H2 w x) (hd : H2 D = some (.lst vs)) (racc : RelWs Z α2 H2 acc vs)
    (g2 : Got Z B α1 H1 (((lcTurn (fun x h => mg x (wipeE σw own) h) t me w acc he2).noEx).bind go) QQ)
    (fin : ∀ α3 H3 he3 acc3 vs3, Ext α1 α3 H1 H3 → D ∉ α3 → HR Z α3 he3 H3 → SR Z α3 H3 σw σ → H3 D = some (.lst vs3) → RelWs Z α3 H3 acc3 vs3 → Got Z B α1 H1 (go acc3 he3) QQ → Nx H3) :
    rG Z XN is mg x (L2.wipe σ own) H2 fun σ2 H3 => L2.wipe σ2 own = L2.wipe σ own ∧ rT Z XN t σ2 H3 fun b H4 => if b = true then rE Z XN me σ2 H4 fun y H5 => ∃ acc, H5 D = some (.lst acc) ∧ acc.length < sizeLine ∧ Nx (upd H5 D (.lst (acc ++ [y]))) else Nx H4 := by
  have out : ∀ {α4 : List Addr} {H4 : Hp}, Ext α2 α4 H2 H4 → D ∉ α4 ∧ H4 D = some (.lst vs) := fun {α4 H4} x4 =>
    ⟨fun m => (by have z := x4.new D m nD; rw [hd] at z; cases z), x4.keep D _ hd (.inl nD)⟩
  obtain ⟨σw3, he3, e3, g3⟩ := ok_of g2
  obtain ⟨k, he4, e4, g4⟩ := ok_of g3
  have e3 : mg w (wipeE σw own) he2 = .ok σw3 he3 := e3
  refine ⟨α2, he2, wipeE σw own, w, hr2, sr.wipe own, rx, ?_⟩
  rw [e3]
  intro α3 H3 x3 hr3 σ3 sr3 c3
  refine ⟨c3.wipe hsub, α3, he3, σw3, hr3, sr3, ?_⟩
  rw [e4]
  intro α4 H4 x4 hr4
  cases k with
  | false =>
    rw [if_neg Bool.false_ne_true] at g4 ⊢
    obtain ⟨o1, o2⟩ := out (x3.trans x4)
    exact fin α4 H4 he4 acc vs ((x2.trans x3).trans x4) o1 hr4 (sr.ext (x3.trans x4)) o2 (racc.ext (x3.trans x4)) g4
  | true =>
    rw [if_pos rfl] at g4 ⊢
    obtain ⟨y, he5, e5, g5⟩ := ok_of g4
    refine ⟨α4, he4, σw3, hr4, sr3.ext x4, ?_⟩
    rw [e5]
    intro α5 H5 x5 hr5 vy ry
    have x25 := (x3.trans x4).trans x5
    obtain ⟨o1, o2⟩ := out x25
    by_cases z : acc.length < sizeLine
    · rw [if_pos z] at g5
      have xx : Ext α1 α5 H1 (upd H5 D (.lst (vs ++ [vy]))) := by
        have x15 := x2.trans x25
        exact ⟨x15.pre, fun b u q c => by rw [upd_ne (ne_of_none q hD)]; exact x15.keep b u q c, x15.new, x15.len⟩
      exact ⟨vs, o2, by rw [← racc.length]; exact z, fin α5 _ he5 (acc ++ [y]) (vs ++ [vy]) xx o1 (hr5.beside o2 o1) ((sr.ext x25).beside o2) upd_same
        (((racc.ext x25).append (.cons ry .nil)).gen (fun _ _ q => q) (tups_put o2)) g5⟩
    · rw [if_neg z] at g5; exact g5.elim
theorem lc_read {is : List Nat} {mi : VE.I} {mg : G} {t : T} {me : E} {own : List Nat} (hsub : ∀ i ∈ is, i ∈ own) : ∀ σ H Q, rE Z B (eLc me mg mi t own) σ H Q → tLc (rIt Z B mi) (rG Z XN is mg) (rT Z XN t) (rE Z XN me) own σ H Q := fun σ H Q ⟨α, he, σw, hr, sr, g⟩ =>
  ⟨α, he, σw, hr, sr, (Got.bind g).imp fun v he1 α1 H1 x1 hr1 g1 J wk D hD => by
    have sr1 := sr.ext x1
    have xD : Ext α1 α1 H1 (upd H1 D (.lst [])) := .fresh hD
    have hrD : HR Z α1 he1 (upd H1 D (.lst [])) := hr1.fresh hD
    have nD := hr1.out hD
    -- at the end
    have done : ∀ {α2 : List Addr} {H2 : Hp} {he2 : He} {acc : List W} {vs : List V}, Ext α1 α2 H1 H2 → D ∉ α2 → HR Z α2 he2 H2 → H2 D = some (.lst vs) → RelWs Z α2 H2 acc vs →
        Got Z B α1 H1 ((Rs.ok acc he2).bind fun ys h => .ok (W.ref h.length) (h ++ [EO.lst ys])) (QE Z Q) → Q (.ref D) H2 := fun {α2 H2 he2 acc vs} x2 n2 hr2 h2 racc g2 => by
      have x3 : Ext α1 (α2 ++ [D]) H1 H2 := ⟨fun i a q => by
          have := x2.pre i a q
          rw [List.getElem?_append_left (List.getElem?_eq_some_iff.mp this).1]; exact this, x2.keep, fun a m n => by
          rcases List.mem_append.mp m with m | m
          · exact x2.new a m n
          · simp at m; subst m; exact hD, by have := x2.len; simp; omega⟩
      have pr : ∀ (i : Nat) a, α2[i]? = some a → (α2 ++ [D])[i]? = some a := fun i a q => by
        rw [List.getElem?_append_left (List.getElem?_eq_some_iff.mp q).1]; exact q
      refine g2 (α2 ++ [D]) H2 x3 ⟨by simp [hr2.len], ?_, fun i o a q1 q2 => ?_⟩ _ hr2.ref_new
      · refine List.nodup_append.mpr ⟨hr2.nd, by simp, fun x hx y hy e => ?_⟩
        simp at hy
        exact n2 (hy ▸ e ▸ hx)
      · by_cases hi : i < he2.length
        · rw [List.getElem?_append_left hi] at q1
          rw [List.getElem?_append_left (by rw [hr2.len]; exact hi)] at q2
          exact (hr2.obj i o a q1 q2).gen pr (fun _ _ q => q) rfl
        · have hi2 : i = he2.length := by
            have := (List.getElem?_eq_some_iff.mp q1).1
            simp at this; omega
          subst hi2
          rw [List.getElem?_append_right (Nat.le_refl _)] at q1
          rw [← hr2.len, List.getElem?_append_right (Nat.le_refl _)] at q2
          simp at q1 q2
          subst q1; subst q2
          exact ⟨vs, h2, racc.gen pr fun _ _ q => q⟩
    cases v with
    | fix xs =>
      refine ⟨fun i m H => ∃ α2 he2 acc vs, Ext α1 α2 H1 H ∧ D ∉ α2 ∧ HR Z α2 he2 H ∧ SR Z α2 H σw σ ∧ H D = some (.lst vs) ∧ RelWs Z α2 H acc vs ∧ m = (xs.drop i).length ∧
          Got Z B α1 H1 ((lcFix (fun x acc h => (lcTurn (fun x h => mg x (wipeE σw own) h) t me x acc h).noEx) (xs.drop i) acc he2).bind fun ys h => .ok (W.ref h.length) (h ++ [EO.lst ys])) (QE Z Q),
        ⟨xs.length, α1, he1, [], [], xD, nD, hrD, sr1.ext xD, upd_same, .nil, by simp, g1⟩, ?_⟩
      rintro i m H2 ⟨α2, he2, acc, vs, x2, n2, hr2, sr2, h2, racc, rfl, g2⟩
      obtain ⟨w1, w2⟩ := wk α2 H2 he2 x2 hr2 xs i rfl
      cases e : xs[i]? with
      | none =>
        have e2 : xs.drop i = [] := List.drop_eq_nil_iff.mpr (List.getElem?_eq_none_iff.mp e)
        rw [e2] at g2
        exact .inl ⟨w1 e, done x2 n2 hr2 h2 racc g2⟩
      | some w =>
        have hi : i < xs.length := (List.getElem?_eq_some_iff.mp e).1
        have e2 : xs.drop i = w :: xs.drop (i + 1) := by
          rw [List.drop_eq_getElem_cons hi]
          congr 1
          exact (List.getElem?_eq_some_iff.mp e).2
        obtain ⟨go, yl⟩ := w2 w e
        refine .inr ⟨go, fun H' => ∃ m', m' < (xs.drop i).length ∧ ∃ α2 he2 acc vs, Ext α1 α2 H1 H' ∧ D ∉ α2 ∧ HR Z α2 he2 H' ∧ SR Z α2 H' σw σ ∧ H' D = some (.lst vs) ∧ RelWs Z α2 H' acc vs ∧ m' = (xs.drop (i + 1)).length ∧
          Got Z B α1 H1 ((lcFix (fun x acc h => (lcTurn (fun x h => mg x (wipeE σw own) h) t me x acc h).noEx) (xs.drop (i + 1)) acc he2).bind fun ys h => .ok (W.ref h.length) (h ++ [EO.lst ys])) (QE Z Q), fun _ q => q, fun x H3 y => ?_⟩
        obtain ⟨x3, hr3, r3⟩ := yl x H3 y
        rw [e2, lcFix, Rs.bind_assoc] at g2
        refine lc_turn hsub (sr2.ext x3) hD (x2.trans x3) n2 hr3 r3 (x3.keep D _ h2 (.inl n2)) (racc.ext x3) g2 fun α4 H4 he4 acc4 vs4 x4 n4 hr4 sr4 h4 r4 g4 => ?_
        exact ⟨_, by rw [e2]; simp, α4, he4, acc4, vs4, x4, n4, hr4, sr4, h4, r4, rfl, g4⟩
    | live a =>
      refine ⟨fun i m H => ∃ α2 he2 acc vs, Ext α1 α2 H1 H ∧ D ∉ α2 ∧ HR Z α2 he2 H ∧ SR Z α2 H σw σ ∧ H D = some (.lst vs) ∧ RelWs Z α2 H acc vs ∧
          Got Z B α1 H1 ((lcLive (fun x acc h => (lcTurn (fun x h => mg x (wipeE σw own) h) t me x acc h).noEx) a m i acc he2).bind fun ys h => .ok (W.ref h.length) (h ++ [EO.lst ys])) (QE Z Q),
        ⟨FU, α1, he1, [], [], xD, nD, hrD, sr1.ext xD, upd_same, .nil, g1⟩, ?_⟩
      rintro i m H2 ⟨α2, he2, acc, vs, x2, n2, hr2, sr2, h2, racc, g2⟩
      cases m with
      | zero => exact g2.elim
      | succ m =>
        cases e0 : lstOf he2 a with
        | none => simp only [lcLive, e0] at g2; exact g2.elim
        | some xs =>
          obtain ⟨w1, w2⟩ := wk α2 H2 he2 x2 hr2 xs i e0
          cases e : xs[i]? with
          | none =>
            simp only [lcLive, e0, e] at g2
            exact .inl ⟨w1 e, done x2 n2 hr2 h2 racc g2⟩
          | some w =>
            simp only [lcLive, e0, e] at g2
            obtain ⟨go, yl⟩ := w2 w e
            refine .inr ⟨go, fun H' => ∃ m', m' < m + 1 ∧ ∃ α2 he2 acc vs, Ext α1 α2 H1 H' ∧ D ∉ α2 ∧ HR Z α2 he2 H' ∧ SR Z α2 H' σw σ ∧ H' D = some (.lst vs) ∧ RelWs Z α2 H' acc vs ∧
              Got Z B α1 H1 ((lcLive (fun x acc h => (lcTurn (fun x h => mg x (wipeE σw own) h) t me x acc h).noEx) a m' (i + 1) acc he2).bind fun ys h => .ok (W.ref h.length) (h ++ [EO.lst ys])) (QE Z Q), fun _ q => q, fun x H3 y => ?_⟩
            obtain ⟨x3, hr3, r3⟩ := yl x H3 y
            rw [Rs.bind_assoc] at g2
            refine lc_turn hsub (sr2.ext x3) hD (x2.trans x3) n2 hr3 r3 (x3.keep D _ h2 (.inl n2)) (racc.ext x3) g2 fun α4 H4 he4 acc4 vs4 x4 n4 hr4 sr4 h4 r4 g4 => ?_
            exact ⟨m, Nat.lt_succ_self _, α4, he4, acc4, vs4, x4, n4, hr4, sr4, h4, r4, g4⟩⟩
theorem e_lc {is : List Nat} {mi : VE.I} {mg : G} {t : T} {me : E} {scope : Scope} {own : List (Str × Nat)} (hc : X.calm = true) (hN : X.N.Nodup) (hi : PI X tg it (rIt Z B mi)) (ok : BlkOk X.N X.env.scope scope own) (hsub : ∀ i ∈ is, i ∈ own.map (·.2))
    (hg : ∀ (s : Shared) (H : Hp) (C : Addr) (cl : List (Str × Addr)) (fp : List Addr), PG (X.blk s H scope (compEnvC scope cl C X.env) fp) tg (rG Z XN is mg)) (ht : ∀ (s : Shared) (H : Hp) (C : Addr) (cl : List (Str × Addr)) (fp : List Addr), PTs (X.blk s H scope (compEnvC scope cl C X.env) fp) ifs (rT Z XN t))
    (he : ∀ (s : Shared) (H : Hp) (C : Addr) (cl : List (Str × Addr)) (fp : List Addr), PE (X.blk s H scope (compEnvC scope cl C X.env) fp) e (rE Z XN me)) (hs : ∀ x, foldedSetIterable it X.env x = pure x := by intro _; rfl) :
    PE X (.ListComp e [⟨tg, it, ifs, 0⟩] scope pos) (rE Z B (eLc me mg mi t (own.map (·.2)))) :=
  PE.weak (pe_lc hc hN hi ok hg ht he hs) (lc_read hsub)
theorem s_lc {is : List Nat} {mi : VE.I} {mg : G} {t : T} {me : E} {scope : Scope} {own : List (Str × Nat)} {i : Nat} {y : Str} {py spos : Pos} (hc : X.calm = true) (hN : X.N.Nodup) (hy : X.N[i]? = some y) (hyl : X.env.scope.names.lookup y = some .local)
    (hsw : swapsWith (.ListComp e [⟨tg, it, ifs, 0⟩] scope pos) (some (.Name y py)) spos.line X.env = pure true) (hi : PI X tg it (rIt Z B mi)) (ok : BlkOk X.N X.env.scope scope own) (hsub : ∀ i ∈ is, i ∈ own.map (·.2))
    (hg : ∀ (s : Shared) (H : Hp) (C : Addr) (cl : List (Str × Addr)) (fp : List Addr), PG (X.blk s H scope (compEnvC scope cl C X.env) fp) tg (rG Z XN is mg)) (ht : ∀ (s : Shared) (H : Hp) (C : Addr) (cl : List (Str × Addr)) (fp : List Addr), PTs (X.blk s H scope (compEnvC scope cl C X.env) fp) ifs (rT Z XN t))
    (he : ∀ (s : Shared) (H : Hp) (C : Addr) (cl : List (Str × Addr)) (fp : List Addr), PE (X.blk s H scope (compEnvC scope cl C X.env) fp) e (rE Z XN me)) (hs : ∀ x, foldedSetIterable it X.env x = pure x := by intro _; rfl) :
    PS X (.Assign [.Name y py] (.ListComp e [⟨tg, it, ifs, 0⟩] scope pos) spos) (rS Z B (sAsg (gV i) (eLc me mg mi t (own.map (·.2))))) :=
  PS.weak (ps_setLc hc hN hy hyl hsw hi ok hg ht he hs) fun D σ H ⟨α, he, σw, hr, sr, g⟩ => lc_read (B := B) hsub σ H _ ⟨α, he, σw, hr, sr, (Got.bind g).imp fun w he1 α1 H1 x1 hr1 g1 v r1 => by
    by_cases z : i < σw.length
    · simp only [gV, if_pos z, Rs.bind_ok] at g1
      exact Got.now g1 hr1 _ ((sr.ext x1).set r1)
    · simp only [gV, if_neg z] at g1; exact g1.elim⟩
end

section
variable {P : Program} {w : World} {Z : Zx} {mg : Str → Option Value} {base : Heap} {k p n : Nat} {f : Addr} {name qual : Str} {params : Arguments} {body : List Stmt} {scope : Scope} {dV kV doc pm cdv ct oc : Value} {an od : Option Addr} {osl : Array (Option Value)} {N ps : List Str} {m : S}
theorem sr_start {α : List Addr} {H : Hp} {ws : List W} {vs : List V} (r : RelWs Z α H ws vs) (n : Nat) : SR Z α H (ws.map some ++ List.replicate (n - ws.length) none) (vs.map some ++ List.replicate (n - vs.length) none) :=
  ⟨by simp [r.length], fun i w e => by
    by_cases hi : i < ws.length
    · rw [List.getElem?_append_left (by simpa using hi), List.getElem?_map] at e
      cases e2 : ws[i]? with
      | none => rw [e2] at e; cases e
      | some w' =>
        rw [e2] at e
        cases e
        obtain ⟨v, e3, r3⟩ := r.get e2
        refine ⟨v, ?_, r3⟩
        rw [List.getElem?_append_left (by simpa [← r.length] using hi), List.getElem?_map, e3]; rfl
    · rw [List.getElem?_append_right (by simpa using hi)] at e
      rw [List.getElem?_replicate] at e
      split at e <;> cases e⟩
theorem fn_ok (lk : Z.K.lookup f = some ⟨oc, od, .func (PySem.W.fnOf name qual params body scope dV kV doc pm an cdv ct), osl⟩) (hcd : PySem.W.codeIn Z.K cdv qual = true) (S : FnScope N ps scope) (hp : ps.length = p) (hn : N.length = n)
    (walk : ∀ (A : Around) (outer : List Env) (s : Shared) (H : Hp) (E : XK), Room k (A.deeper (envOfC qual scope s.heap.objs.size f cdv)) → PSs (cxOf (CX P w) P w Z.K mg base N qual scope f cdv A outer s H E) body (rS Z E m)) :
    FnOk P w Z.K mg base (CX P w) (k + 1) f (PySem.W.fnOf name qual params body scope dV kV doc pm an cdv ct) ps (rF Z p (fn p n m)) :=
  fn_of lk hcd S (fun vs H Q E ⟨α, he, ws, hr, r, hl, g⟩ => by rw [← r.length, hl, hp]) fun A outer s H vs Q E hr ⟨α, he, ws, hr', r, hl, g⟩ => by
    refine ⟨_, walk A outer s H E hr, α, he, ws.map some ++ List.replicate (n - ws.length) none, hr', ?_, ?_⟩
    · have := sr_start r n
      rw [← hn] at this ⊢
      exact this
    · unfold fn at g
      rw [if_pos hl] at g
      refine (Got.bind g).imp fun f he1 α1 H1 x1 hr1 g1 => ?_
      cases f with
      | rt w => exact Got.now (X := E) g1 hr1
      | nx σ => exact fun σ' _ => Got.now (X := E) g1 hr1 _ .non
      | bk σ => exact g1.elim
      | ct σ => exact g1.elim
theorem pass_E {A : Around} {outer : List Env} {s : Shared} {H : Hp} {E : XK} : Passes (CX P w) (cxOf (CX P w) P w Z.K mg base N qual scope f cdv A outer s H E) E := passes_call (takes_of rfl rfl rfl rfl) fun _ _ _ _ h => h
theorem owns_E {A : Around} {outer : List Env} {s : Shared} {H : Hp} {E : XK} : PassesOwn (model P w) (cxOf (CX P w) P w Z.K mg base N qual scope f cdv A outer s H E).A (cxOf (CX P w) P w Z.K mg base N qual scope f cdv A outer s H E).env (cxOf (CX P w) P w Z.K mg base N qual scope f cdv A outer s H E).xe := passes_of rfl
end
end VE
end
section
set_option Elab.async false
set_option linter.all false
set_option autoImplicit false
set_option maxRecDepth 100000
namespace VE
open PySem PySem.Spec PyProof.Rows L2

structure GF (P : Program) (w : World) (Z : Zx) (mg : Str → Option Value) (base : Heap) (k : Nat) (at_ : Str × Option Str) (p : Nat) (m : F) : Prop where
  mk' ::
  ex : ∃ fd ps, FnOk P w Z.K mg base (CX P w) k (He.fAd Z.K at_) fd ps (rF Z p m) ∧ L2.Binds Z.K fd ps []
  kp : PySem.W.keepIn Z.K (.ref (He.fAd Z.K at_)) = true
theorem GF.mk {P : Program} {w : World} {Z : Zx} {mg : Str → Option Value} {base : Heap} {k : Nat} {at_ : Str × Option Str} {p : Nat} {m : F} (fd : FuncData) (ps : List Str) (a : FnOk P w Z.K mg base (CX P w) k (He.fAd Z.K at_) fd ps (rF Z p m)) (b : L2.Binds Z.K fd ps []) (kp : PySem.W.keepIn Z.K (.ref (He.fAd Z.K at_)) = true) : GF P w Z mg base k at_ p m := ⟨⟨fd, ps, a, b⟩, kp⟩
theorem rF_len {Z : Zx} {p n : Nat} {m : S} {ps : List Str} (h : ps.length = p := by rfl) : ∀ vs H Q E, rF Z p (fn p n m) vs H Q E → vs.length = ps.length := fun vs H Q E ⟨α, he, ws, hr, r, hl, g⟩ => by rw [← r.length, hl, h]
theorem rF_start {Z : Zx} {E : XK} {p : Nat} {N : List Str} {m : S} {vs : List V} {H : Hp} {Q : VK} (h : rF Z p (fn p N.length m) vs H Q E) : rS Z E m { nx := fun _ H' => Q .non H', rt := Q } (start N vs) H := by
  obtain ⟨α, he, ws, hr', r, hl, g⟩ := h
  refine ⟨α, he, ws.map some ++ List.replicate (N.length - ws.length) none, hr', sr_start r N.length, ?_⟩
  unfold fn at g
  rw [if_pos hl] at g
  refine (Got.bind g).imp fun f he1 α1 H1 x1 hr1 g1 => ?_
  cases f with
  | rt w => exact Got.now (X := E) g1 hr1
  | nx σ => exact fun σ' _ => Got.now (X := E) g1 hr1 _ .non
  | bk σ => exact g1.elim
  | ct σ => exact g1.elim
section
variable {P : Program} {w : World} {mg : Str → Option Value} {base : Heap} {Z : Zx} {B : XK} {X : Cx} {e o a b c d : Expr} {es rest : List Expr} {pos apos : Pos} {k p : Nat} {m : F} {ms : ES}
theorem e_v {i : Nat} {x : Str} (hN : X.N[i]? = some x := by rfl) (hv : Vis X.env.scope x := by first | exact .inl rfl | exact .inr (.inl rfl) | exact .inr (.inr rfl)) (hd : (x == ("__debug__" : Str)) = false := by decide) (hcd : (x == ("__classdict__" : Str)) = false := by decide) : PE X (.Name x pos) (rE Z B (eV i)) := e_var hN hv hd hcd
theorem e_callG {x : Str} {pp : Pos} (F : GF X.prog X.w Z X.mg X.base k (x, none) p m) (hr : Room k X.A) (hK : X.K = Z.K) (hm : X.mg x = some (.ref (He.ga Z.K x))) (hx : Passes (CX X.prog X.w) X B) (ha : PA X (e :: es) (rA Z B ms)) (hl : Ln ms p) (hg : Gl X x := by rfl)
    (hdb : (x == ("__debug__" : Str)) = false := by decide) (hst : starEach (e :: es) X.env = (false, eval e X.env) :: starEach es X.env := by rfl) (hpl : (backTo pos (starEach es X.env)).any (·.1) = false := by rfl) :
    PE X (.Call (.Name x pp) (e :: es) [] pos) (rE Z B (eCall m ms)) := by
  obtain ⟨⟨fd, ps, G, b⟩, kp⟩ := F
  exact e_call (hK ▸ G) hr hg hm (hK ▸ kp) (hK ▸ b) hx ha hl hdb hst hpl
theorem e_callG0 {x : Str} {pp : Pos} (F : GF X.prog X.w Z X.mg X.base k (x, none) 0 m) (hr : Room k X.A) (hK : X.K = Z.K) (hm : X.mg x = some (.ref (He.ga Z.K x))) (hx : Passes (CX X.prog X.w) X B) (hg : Gl X x := by rfl)
    (hdb : (x == ("__debug__" : Str)) = false := by decide) : PE X (.Call (.Name x pp) [] [] pos) (rE Z B (eCall m esN)) := by
  obtain ⟨⟨fd, ps, G, b⟩, kp⟩ := F
  exact e_call0 (hK ▸ G) hr hg hm (hK ▸ kp) (hK ▸ b) hx hdb
end
end VE
end
section
set_option Elab.async false
set_option linter.all false
set_option autoImplicit false
set_option maxRecDepth 100000
namespace VE
open PySem PySem.Spec PyProof.Rows L2

section
variable {mg : Str → Option Value} {base : Heap} {Z : Zx} {B : XK} {X : Cx} {e o a b c d : Expr} {es rest : List Expr} {pos apos : Pos} {k p : Nat} {m : F} {ms : ES} {at_ : Str × Option Str}
theorem e_newG {c : Nat} {x : Str} {pp : Pos} (F : GF X.prog X.w Z X.mg X.base k at_ (p + 1) m) (M : Mk Z.K (Z.γ c) (He.fAd Z.K at_)) (hr : Room (k + 1) X.A) (hK : X.K = Z.K) (hm : X.mg x = some (.ref (Z.γ c))) (hx : Passes (CX X.prog X.w) X B) (ha : PA X (e :: es) (rA Z B ms)) (hl : Ln ms p) (hg : Gl X x := by rfl)
    (hdb : (x == ("__debug__" : Str)) = false := by decide) (hst : starEach (e :: es) X.env = (false, eval e X.env) :: starEach es X.env := by rfl) (hpl : (backTo pos (starEach es X.env)).any (·.1) = false := by rfl) :
    PE X (.Call (.Name x pp) (e :: es) [] pos) (rE Z B (eNew c m ms)) := by
  obtain ⟨⟨fd, ps, G, b⟩, kp⟩ := F
  exact e_new (hK ▸ M) (hK ▸ G) hr hg hm (hK ▸ b) hx ha hl hdb hst hpl
theorem e_methG {c mi : Nat} {x : Str} {mo : E} {pl : Sem Bool} (F : GF X.prog X.w Z X.mg X.base k at_ (p + 1) m) (hc : Cls Z.K (Z.γ c)) (hm : Meth Z.K (Z.γ c) x (He.fAd Z.K at_)) (hK : X.K = Z.K) (ho : PE X o (rE Z B mo)) (hr : Room k X.A) (hx : Passes (CX X.prog X.w) X B)
    (ha : PA X (e :: es) (rA Z B ms)) (hl : Ln ms p) (hx1 : Z.nms[mi]? = some x := by rfl) (hst : starEach (e :: es) X.env = (false, eval e X.env) :: starEach es X.env := by rfl) (hpl : (backTo pos (starEach es X.env)).any (·.1) = false := by rfl)
    (ht : eval (.Call (.Attribute o x apos) (e :: es) [] pos) X.env = (do
      let ov ← eval o X.env
      standAt apos.atName
      let (f, first) ← holding [ov] (getMethod ov x pl)
      callWith pos f first (backTo pos (starEach (e :: es) X.env)) (backToKw pos (keywordEach [] X.env))) := by rfl) :
    PE X (.Call (.Attribute o x apos) (e :: es) [] pos) (rE Z B (eMeth c mi m mo ms)) := by
  obtain ⟨⟨fd, ps, G, b⟩, kp⟩ := F
  exact e_meth hx1 ho (hK ▸ hc) (hK ▸ hm) (hK ▸ G) hr (hK ▸ b) hx ha hl hst hpl ht
theorem e_methG0 {c mi : Nat} {x : Str} {mo : E} {pl : Sem Bool} (F : GF X.prog X.w Z X.mg X.base k at_ 1 m) (hc : Cls Z.K (Z.γ c)) (hm : Meth Z.K (Z.γ c) x (He.fAd Z.K at_)) (hK : X.K = Z.K) (ho : PE X o (rE Z B mo)) (hr : Room k X.A) (hx : Passes (CX X.prog X.w) X B)
    (hx1 : Z.nms[mi]? = some x := by rfl)
    (ht : eval (.Call (.Attribute o x apos) [] [] pos) X.env = (do
      let ov ← eval o X.env
      standAt apos.atName
      let (f, first) ← holding [ov] (getMethod ov x pl)
      callWith pos f first (backTo pos (starEach [] X.env)) (backToKw pos (keywordEach [] X.env))) := by rfl) :
    PE X (.Call (.Attribute o x apos) [] [] pos) (rE Z B (eMeth c mi m mo esN)) := by
  obtain ⟨⟨fd, ps, G, b⟩, kp⟩ := F
  exact e_meth0 hx1 ho (hK ▸ hc) (hK ▸ hm) (hK ▸ G) hr (hK ▸ b) hx ht

def Ty.nm : Ty → String
  | .non => "NoneType" | .str => "str" | .int => "int" | .bool => "bool" | .tuple => "tuple" | .list => "list" | .dict => "dict"
structure PTy (X : Cx) (e : Expr) (t : Ty) : Prop where
  run : PE X e (tC (.ty t.nm))
theorem tn_str {p : Pos} (hg : Gl X "str") (hm : X.mg "str" = none) : PTy X (.Name "str" p) .str := ⟨pe_bltn hg hm PyProof.Rows.boot_str rfl⟩
theorem tn_int {p : Pos} (hg : Gl X "int") (hm : X.mg "int" = none) : PTy X (.Name "int" p) .int := ⟨pe_bltn hg hm PyProof.Rows.boot_int rfl⟩
theorem tn_bool {p : Pos} (hg : Gl X "bool") (hm : X.mg "bool" = none) : PTy X (.Name "bool" p) .bool := ⟨pe_bltn hg hm PyProof.Rows.boot_bool rfl⟩
theorem tn_tuple {p : Pos} (hg : Gl X "tuple") (hm : X.mg "tuple" = none) : PTy X (.Name "tuple" p) .tuple := ⟨pe_bltn hg hm PyProof.Rows.boot_tuple rfl⟩
theorem tn_list {p : Pos} (hg : Gl X "list") (hm : X.mg "list" = none) : PTy X (.Name "list" p) .list := ⟨pe_bltn hg hm PyProof.Rows.boot_list rfl⟩
theorem tn_dict {p : Pos} (hg : Gl X "dict") (hm : X.mg "dict" = none) : PTy X (.Name "dict" p) .dict := ⟨pe_bltn hg hm PyProof.Rows.boot_dict rfl⟩
theorem tyW_at {α : List Addr} {he : He} {H : Hp} {w : W} {v : V} {t : Ty} (hr : HR Z α he H) (r : RelW Z α H w v) (e : tyW he w = some t) : TyX Z.K H v (.type t.nm) := by
  cases r with
  | non => cases e; exact .base .non
  | bl b => cases e; exact .base (.bl b)
  | int i => cases e; exact .base (.int i)
  | str x => cases e; exact .base (.str x)
  | tup q1 q2 =>
    cases e
    rcases q1 with q | ⟨ob, its, n, q, qc, _⟩
    · rcases q with q | ⟨ob, q⟩
      · exact .base (.tup q)
      · exact .fTuple q
    · exact .kTuple q qc
  | kl q => cases e
  | ref q =>
    rename_i i a
    cases e1 : he[i]? with
    | none => simp only [tyW, e1] at e; cases e
    | some ob =>
      cases ob with
      | lst xs =>
        simp only [tyW, e1] at e
        cases e
        obtain ⟨vs, h1, _⟩ := hr.at' e1 q
        exact .base (.lst h1)
      | _ => simp only [tyW, e1] at e; cases e
theorem kit_one (K : PySem.W.Frag) (t T : Ty) (hT : T ≠ .non) : PySem.W.kitOne K (.type t.nm) (.type T.nm) = some (isTy t T) := by
  cases t <;> cases T <;> first
    | exact absurd rfl hT
    | rfl
theorem kit_any (K : PySem.W.Frag) (t : Ty) : ∀ ts : List Ty, (∀ T ∈ ts, T ≠ .non) → PySem.W.kitAny K (.type t.nm) (ts.map fun T => .type T.nm) = some (ts.any fun T => isTy t T)
  | [], _ => rfl
  | T :: ts, h => by
    rw [List.map_cons, PySem.W.kitAny, kit_one K t T (h T List.mem_cons_self), List.any_cons]
    cases isTy t T with
    | true => rfl
    | false => exact kit_any K t ts fun T hT => h T (List.mem_cons_of_mem _ hT)
theorem isi_core {α : List Addr} {he : He} {H : Hp} {w : W} {v : V} {ts : List Ty} {Q : VK} (hr : HR Z α he H) (r : RelW Z α H w v) (g : Got Z B α H (Rs.lift ((tyW he w).map fun t => W.bl (ts.any fun T => isTy t T)) he) (QE Z Q)) : ∃ t, TyX Z.K H v (.type (Ty.nm t)) ∧ Q (.bl (ts.any fun T => isTy t T)) H := by
  obtain ⟨u, e1, q⟩ := Got.lift g hr
  cases e2 : tyW he w with
  | none => rw [e2] at e1; cases e1
  | some t =>
    rw [e2] at e1
    cases e1
    exact ⟨t, tyW_at hr r e2, q _ (.bl _)⟩
theorem e_isi1 {T : Ty} {x : Expr} {pp : Pos} {mo : E} (hT : PTy X x T) (hK : X.K = Z.K) (hm : X.mg "isinstance" = none) (ha : PE X a (rE Z B mo)) (hn : T ≠ .non := by decide) (hg : Gl X "isinstance" := by rfl)
    (hst : starEach [a, x] X.env = (false, eval a X.env) :: starEach [x] X.env := by rfl) (hs2 : starEach [x] X.env = (false, eval x X.env) :: starEach [] X.env := by rfl) (hpl : (backTo pos (starEach [x] X.env)).any (·.1) = false := by rfl) :
    PE X (.Call (.Name "isinstance" pp) [a, x] [] pos) (rE Z B (eIsi [T] mo)) :=
  PE.weak (pe_callB (r := rIsi X.K) call_isi hg hm PyProof.Rows.boot_isinstance (pa_cons ha (pa_cons hT.run pa_nil hs2) hst) (by decide) (by decide) hst hpl) fun σ H Q ⟨α, he, σw, hr, sr, g⟩ =>
    ⟨α, he, σw, hr, sr, (Got.bind g).imp fun w he1 α1 H1 x1 hr1 g1 v r1 => by
      obtain ⟨t, h1, q⟩ := isi_core hr1 r1 g1
      refine ⟨v, .ty T.nm, .type t.nm, .type T.nm, _, rfl, .ty _, hK ▸ h1, kit_one X.K t T hn, ?_⟩
      simpa using q⟩
def tTys : List Ty → TA
  | [] => tNil
  | t :: r => tCons (tC (.ty t.nm)) (tTys r)
theorem tTys_at {Q : List V → Hp → Prop} {σ : L2.St} {H : Hp} : ∀ {ts : List Ty}, Q (ts.map fun T => V.ty T.nm) H → tTys ts σ H Q
  | [], q => q
  | t :: r, q => tTys_at (ts := r) (Q := fun xs H1 => Q (.ty t.nm :: xs) H1) q
structure PTys (X : Cx) (es : List Expr) (ts : List Ty) : Prop where
  run : PA X es (tTys ts)
  nn : ∀ T ∈ ts, T ≠ .non
theorem ts0 : PTys X [] [] := ⟨pa_nil, fun _ h => nomatch h⟩
theorem ts1 {T : Ty} {ts : List Ty} {x : Expr} (h : PTy X x T) (r : PTys X es ts) (hn : T ≠ .non := by decide) (hs : starEach (x :: es) X.env = (false, eval x X.env) :: starEach es X.env := by rfl) : PTys X (x :: es) (T :: ts) :=
  ⟨pa_cons h.run r.run hs, fun t m => by rcases List.mem_cons.mp m with e | m; exact e ▸ hn; exact r.nn t m⟩
theorem clsAll : ∀ ts : List Ty, Paired ClsV (ts.map fun T => V.ty T.nm) (ts.map fun T => Value.type T.nm)
  | [] => .nil
  | t :: r => .cons (.ty _) (clsAll r)
theorem e_isiT {ts : List Ty} {pp tp : Pos} {mo : E} {kk : Nat} (hT : PTys X es ts) (hK : X.K = Z.K) (hm : X.mg "isinstance" = none) (ha : PE X a (rE Z B mo)) (hl : ts.length ≤ 1000 := by decide) (hg : Gl X "isinstance" := by rfl)
    (hst : starEach [a, .Tuple es kk tp] X.env = (false, eval a X.env) :: starEach [.Tuple es kk tp] X.env := by rfl) (hs2 : starEach [.Tuple es kk tp] X.env = (false, eval (.Tuple es kk tp) X.env) :: starEach [] X.env := by rfl)
    (hpl : (backTo pos (starEach [.Tuple es kk tp] X.env)).any (·.1) = false := by rfl) :
    PE X (.Call (.Name "isinstance" pp) [a, .Tuple es kk tp] [] pos) (rE Z B (eIsi ts mo)) :=
  PE.weak (pe_callB (r := rIsiT X.K) call_isiT hg hm PyProof.Rows.boot_isinstance (pa_cons ha (pa_cons (pe_tup hT.run) pa_nil hs2) hst) (by decide) (by decide) hst hpl) fun σ H Q ⟨α, he, σw, hr, sr, g⟩ =>
    ⟨α, he, σw, hr, sr, (Got.bind g).imp fun w he1 α1 H1 x1 hr1 g1 v r1 => by
      refine tTys_at ⟨by rw [List.length_map]; exact small1000 hl, fun p hp => ?_⟩
      have x2 : Ext α1 α1 H1 (upd H1 p (.tup (ts.map fun T => V.ty T.nm))) := .fresh hp
      obtain ⟨t, h1, q⟩ := isi_core (hr1.fresh hp) (r1.ext x2) (g1.ext x2)
      exact ⟨v, p, _, .type t.nm, _, _, rfl, upd_same, clsAll ts, hK ▸ h1, kit_any X.K t ts hT.nn, q⟩⟩

theorem lt_anti : ∀ {a b : List Nat}, PySem.Spec.ltCps a b = false → PySem.Spec.ltCps b a = false → a = b
  | [], [], _, _ => rfl
  | [], _ :: _, h, _ => by cases h
  | _ :: _, [], _, h => by cases h
  | x :: r, y :: t, h1, h2 => by
    simp only [PySem.Spec.ltCps, Bool.or_eq_false_iff, decide_eq_false_iff_not, Bool.and_eq_false_iff, beq_eq_false_iff_ne] at h1 h2
    have e : x = y := by omega
    subst e
    rw [lt_anti (a := r) (b := t) (h1.2.resolve_left fun z => z rfl) (h2.2.resolve_left fun z => z rfl)]
theorem lt_tr : ∀ {a b c : List Nat}, PySem.Spec.ltCps b a = false → PySem.Spec.ltCps c b = false → PySem.Spec.ltCps c a = false
  | [], _, c, _, _ => by cases c <;> rfl
  | _ :: _, [], _, h, _ => by cases h
  | _ :: _, _ :: _, [], _, h => by cases h
  | x :: r, y :: t, z :: u, h1, h2 => by
    simp only [PySem.Spec.ltCps, Bool.or_eq_false_iff, decide_eq_false_iff_not, Bool.and_eq_false_iff, beq_eq_false_iff_ne] at h1 h2 ⊢
    refine ⟨by omega, ?_⟩
    by_cases e : z = x
    · right
      have e1 : y = x := by omega
      subst e; subst e1
      exact lt_tr (h1.2.resolve_left fun z => z rfl) (h2.2.resolve_left fun z => z rfl)
    · exact .inl e
theorem lt_asym : ∀ {a b : List Nat}, PySem.Spec.ltCps a b = true → PySem.Spec.ltCps b a = false
  | [], [], h => by cases h
  | [], _ :: _, _ => rfl
  | _ :: _, [], h => by cases h
  | x :: r, y :: t, h => by
    simp only [PySem.Spec.ltCps, Bool.or_eq_true, decide_eq_true_eq, Bool.and_eq_true, beq_iff_eq] at h
    simp only [PySem.Spec.ltCps, Bool.or_eq_false_iff, decide_eq_false_iff_not, Bool.and_eq_false_iff, beq_eq_false_iff_ne]
    rcases h with h | ⟨h, q⟩
    · exact ⟨by omega, .inl (by omega)⟩
    · exact ⟨by omega, .inr (lt_asym q)⟩
abbrev leT (x y : Str) : Prop := PySem.Spec.ltCps y.cps.toList x.cps.toList = false
theorem pair_of_sorted : ∀ {l : List Str}, sortedS l = true → l.Pairwise leT
  | [], _ => .nil
  | x :: r, h => by
    have rise : ∀ {p : Str} {l : List Str}, risingS p l = true → (p :: l).Pairwise leT := fun {p l} => by
      induction l generalizing p with
      | nil => intro _; simp
      | cons y l ih =>
        intro h
        have h : (!PySem.Spec.ltCps y.cps.toList p.cps.toList && risingS y l) = true := h
        rw [Bool.and_eq_true, Bool.not_eq_true'] at h
        have q := ih h.2
        refine List.pairwise_cons.mpr ⟨fun z hz => ?_, q⟩
        rcases List.mem_cons.mp hz with e | hz
        · subst e; exact h.1
        · exact lt_tr h.1 ((List.pairwise_cons.mp q).1 z hz)
    exact rise h
theorem uniq_sorted : ∀ {l m : List Str}, l.Perm m → l.Pairwise leT → m.Pairwise leT → l = m
  | [], m, h, _, _ => (List.nil_perm.mp h).symm
  | x :: r, [], h, _, _ => absurd h.length_eq (by simp)
  | x :: r, y :: s, h, h1, h2 => by
    have exy : x = y := by
      have hx : x ∈ y :: s := h.mem_iff.mp List.mem_cons_self
      have hy : y ∈ x :: r := h.mem_iff.mpr List.mem_cons_self
      rcases List.mem_cons.mp hx with e | hx
      · exact e
      · rcases List.mem_cons.mp hy with e | hy
        · exact e.symm
        · have q1 := (List.pairwise_cons.mp h2).1 x hx
          have q2 := (List.pairwise_cons.mp h1).1 y hy
          have e := lt_anti q1 q2
          have e2 : x.cps = y.cps := by
            apply Array.ext'
            exact e
          cases x; cases y; simp at e2; rw [e2]
    subst exy
    rw [uniq_sorted (List.Perm.cons_inv h) (List.pairwise_cons.mp h1).2 (List.pairwise_cons.mp h2).2]
theorem ins_perm (x : Str) : ∀ l : List Str, (insS x l).Perm (x :: l)
  | [] => .refl _
  | y :: r => by
    unfold insS
    split
    · exact (List.Perm.cons y (ins_perm x r)).trans (List.Perm.swap x y r)
    · exact .refl _
theorem sort_perm : ∀ l : List Str, (sortS l).Perm l
  | [] => .refl _
  | x :: r => (ins_perm x _).trans (List.Perm.cons x (sort_perm r))
theorem ins_pair (x : Str) : ∀ {l : List Str}, l.Pairwise leT → (insS x l).Pairwise leT
  | [], _ => by simp [insS]
  | y :: r, h => by
    unfold insS
    split
    · rename_i hlt
      refine List.pairwise_cons.mpr ⟨fun z hz => ?_, ins_pair x (List.pairwise_cons.mp h).2⟩
      rcases List.mem_cons.mp ((ins_perm x r).mem_iff.mp hz) with e | hz
      · subst e; exact lt_asym hlt
      · exact (List.pairwise_cons.mp h).1 z hz
    · rename_i hlt
      have hlt : leT x y := by simpa using hlt
      refine List.pairwise_cons.mpr ⟨fun z hz => ?_, h⟩
      rcases List.mem_cons.mp hz with e | hz
      · subst e; exact hlt
      · exact lt_tr hlt ((List.pairwise_cons.mp h).1 z hz)
theorem sort_pair : ∀ l : List Str, (sortS l).Pairwise leT
  | [] => .nil
  | x :: r => ins_pair x (sort_pair r)
theorem b_sorted : Bi Z B fSorted (rSortedS Z.K) := fun α he H ws vs Q hr rs g => by
  cases rs with
  | nil => exact g.elim
  | @cons w1 v1 ws1 vs1 r t =>
    cases t with
    | cons r2 t2 => exact g.elim
    | nil =>
      cases e1 : (lstOf he w1).bind strsOf with
      | none => simp only [fSorted, e1] at g; exact g.elim
      | some ss =>
        by_cases z : ss.length < 64
        · simp only [fSorted, e1, if_pos z] at g
          cases e2 : lstOf he w1 with
          | none => rw [e2] at e1; cases e1
          | some ws =>
            rw [e2] at e1
            obtain ⟨a, us, h1, h2, h3⟩ := hr.list r e2
            have h4 := h3.strs (show strsOf ws = some ss from e1)
            subst h4; subst h1
            refine ⟨a, ss, rfl, h2, z, fun ys p hp hs hn => ?_⟩
            have e3 : ys = sortS ss := uniq_sorted (hp.trans (sort_perm ss).symm) (pair_of_sorted hs) (sort_pair ss)
            subst e3
            exact got_lst hr (RelWs.ofStrs _) g p hn
        · simp only [fSorted, e1, if_neg z] at g; exact g.elim

theorem rep_size (c : Array Nat) : ∀ (n : Nat) (a : Array Nat), ((List.replicate n c).foldl (· ++ ·) a).size = a.size + n * c.size
  | 0, a => by simp
  | n + 1, a => by
    rw [List.replicate_succ, List.foldl_cons, rep_size c n]
    rw [Array.size_append, Nat.succ_mul]; omega
theorem o_strmul : OpR X (binaryOp .Mult) (fun x y H Q => ∃ (z : Str) (n : Int), x = .str z ∧ y = .int n ∧ 0 ≤ n ∧ n ≤ 1000 ∧ z.length ≤ 1000 ∧ Q (.str (repW z n)) H) := by
  intro pins s σ H x y v u Q I rx ry h
  obtain ⟨z, n, rfl, rfl, h0, h1, hz, q⟩ := h
  obtain ⟨t, rfl⟩ := rx
  obtain ⟨t', rfl⟩ := ry
  have hlen : z.length * n.toNat ≤ 1000000 := by
    have : n.toNat ≤ 1000 := by omega
    exact Nat.mul_le_mul hz this
  refine P.mul_str ?_ (fun h2 _ => ?_) (fun h2 _ => ?_) ?_
  · have a1 : ¬ n < -(2 ^ 63 : Int) := by omega
    have a2 : ¬ n ≥ 2 ^ 63 := by omega
    rw [decide_eq_false a1, decide_eq_false a2]; rfl
  · have a3 : (2 ^ 63 - 1 : Int) / n ≥ (2 ^ 63 - 1) / 1000 := by
      apply Int.le_ediv_of_mul_le (by omega)
      have : (2 ^ 63 - 1 : Int) / 1000 = 9223372036854775 := by decide
      rw [this]; omega
    have a4 : (2 ^ 63 - 1 : Int) / 1000 = 9223372036854775 := by decide
    have a5 : (z.length : Int) ≤ 1000 := by omega
    omega
  · show decide (z.length * n.toNat > sizeLine) = false
    rw [decide_eq_false_iff_not, sizeLine_eq]; omega
  · by_cases c1 : n < 1
    · rw [if_pos c1]
      refine ⟨by decide, .str Str.empty, H, I.tok _, ⟨_, rfl⟩, ?_⟩
      have : repW z n = Str.empty := by unfold repW; rw [if_pos c1]
      rw [← this]; exact q
    · rw [if_neg c1]
      by_cases c2 : (n == 1 || z.length == 0) = true
      · rw [if_pos c2]
        refine ⟨.str z, H, I, ⟨_, rfl⟩, ?_⟩
        have e : repW z n = z := by
          unfold repW
          rw [if_neg c1]
          rw [Bool.or_eq_true, beq_iff_eq, beq_iff_eq] at c2
          rcases c2 with c2 | c2
          · subst c2; simp
          · have hz0 : z.cps = #[] := Array.size_eq_zero_iff.mp c2
            have : (List.replicate n.toNat z.cps).foldl (· ++ ·) #[] = #[] := by
              apply Array.size_eq_zero_iff.mp
              rw [rep_size, hz0]; simp
            rw [this]
            cases z; simp at hz0; rw [hz0]
        rw [← e]; exact q
      · rw [if_neg c2]
        refine ⟨?_, .str (repW z n), H, I.tok _, ⟨s.toks, ?_⟩, q⟩
        · show ((List.replicate n.toNat z.cps).foldl (· ++ ·) #[]).size ≤ _
          rw [rep_size]
          have : n.toNat * z.cps.size = z.length * n.toNat := Nat.mul_comm _ _
          rw [this, sizeLine_eq]; simp; omega
        · unfold repW; rw [if_neg c1]
theorem e_strmul {ma mb : E} (ha : PE X a (rE Z B ma)) (hb : PE X b (rE Z B mb)) : PE X (.BinOp a .Mult b pos) (rE Z B (eStrMul ma mb)) :=
  PE.weak (pe_op o_strmul ha hb) (two (f := fun h x y => match x, y with
    | .str x, .int n => if 0 ≤ n ∧ n ≤ 1000 ∧ x.length ≤ 1000 then .ok (.str (repW x n)) h else .bad
    | _, _ => .bad) fun α he H x y vx vy Q hr rx ry g => by
    cases rx <;> cases ry <;> first
      | exact g.elim
      | skip
    rename_i z n
    by_cases c : 0 ≤ n ∧ n ≤ 1000 ∧ z.length ≤ 1000
    · simp only [if_pos c] at g
      exact ⟨z, n, rfl, rfl, c.1, c.2.1, c.2.2, got_val hr (.str _) g⟩
    · simp only [if_neg c] at g; exact g.elim)

def tChain3 (r r' r'' : R2) (ta tb tc td : TE) : TE := fun σ H Q => ta σ H fun x H1 => tb σ H1 fun y H2 => r x y H2 fun z H3 => ∃ k, z = .bl k ∧
  (if k = true then tc σ H3 fun u H4 => r' y u H4 fun z' H5 => ∃ k', z' = .bl k' ∧ (if k' = true then td σ H5 fun v H6 => r'' u v H6 Q else Q (.bl false) H5) else Q (.bl false) H3)
theorem pe_chain3 {o1 o2 o3 : CmpOp} {r r' r'' : R2} {ta tb tc td : TE} (h1 : OpR X (compareOp o1) r) (h2 : OpR X (compareOp o2) r') (h3 : OpR X (compareOp o3) r'') (ha : PE X a ta) (hb : PE X b tb) (hc : PE X c tc) (hd : PE X d td)
    (hm : lastMarks [o1, o2, o3] [b, c, d] = false := by with_unfolding_all rfl) : PE X (.Compare a [o1, o2, o3] [b, c, d] pos) (tChain3 r r' r'' ta tb tc td) := by
  refine ⟨fun pins s σ H Q I h => ?_⟩
  refine Compare_chain (thn (ha.run pins s σ H _ I h) fun va sa ⟨xa, Ha, Ia, ra, qa⟩ => chain_link (thn (hb.run pins sa σ Ha _ Ia qa) fun vb sb ⟨xb, Hb, Ib, rb, qb⟩ =>
    thn (h1 pins sb σ Hb xa xb va vb _ Ib ra rb qb) fun wb sd ⟨zb, Hd, Id, rd, k, e, qd⟩ => ?_)) hm
  subst e
  cases rd
  refine wpAny_truthy_bool ?_
  cases k with
  | false => exact ite_ff ⟨.bl false, Hd, Id, rfl, qd⟩
  | true =>
    refine ite_tt (chain_link (thn (hc.run pins sd σ Hd _ Id qd) fun vc sc ⟨xc, Hc, Ic, rc, qc⟩ => thn (h2 pins sc σ Hc xb xc vb vc _ Ic rb rc qc) fun wc se ⟨zc, He, Ie, re, k', e', qe⟩ => ?_))
    subst e'
    cases re
    refine wpAny_truthy_bool ?_
    cases k' with
    | false => exact ite_ff ⟨.bl false, He, Ie, rfl, qe⟩
    | true => exact ite_tt (chain_last (thn (hd.run pins se σ He _ Ie qe) fun vd sf ⟨xd, Hf, If, rf, qf⟩ => h3 pins sf σ Hf xc xd vc vd Q If rc rf qf))
theorem pt_chain3 {o1 o2 o3 : CmpOp} {r r' r'' : R2} {ta tb tc td : TE} (h1 : OpR X (compareOp o1) r) (h2 : OpR X (compareOp o2) r') (h3 : OpR X (compareOp o3) r'') (ha : PE X a ta) (hb : PE X b tb) (hc : PE X c tc) (hd : PE X d td)
    (hm : lastMarks [o1, o2, o3] [b, c, d] = false := by with_unfolding_all rfl) : PT X (.Compare a [o1, o2, o3] [b, c, d] pos) (tTest (tChain3 r r' r'' ta tb tc td)) := by
  refine ⟨fun pins s σ H Q I h => ?_⟩
  refine isTrue_chain (thn (ha.run pins s σ H _ I h) fun va sa ⟨xa, Ha, Ia, ra, qa⟩ => test_link (thn (hb.run pins sa σ Ha _ Ia qa) fun vb sb ⟨xb, Hb, Ib, rb, qb⟩ =>
    thn (h1 pins sb σ Hb xa xb va vb _ Ib ra rb qb) fun wb sd ⟨zb, Hd, Id, rd, k, e, qd⟩ => ?_)) hm
  subst e
  cases rd
  refine wpAny_truthy_bool ?_
  cases k with
  | false =>
    obtain ⟨k0, e0, q0⟩ := qd
    cases e0
    exact ite_ff ⟨Hd, Id, q0⟩
  | true =>
    refine ite_tt (test_link (thn (hc.run pins sd σ Hd _ Id qd) fun vc sc ⟨xc, Hc, Ic, rc, qc⟩ => thn (h2 pins sc σ Hc xb xc vb vc _ Ic rb rc qc) fun wc se ⟨zc, He, Ie, re, k', e', qe⟩ => ?_))
    subst e'
    cases re
    refine wpAny_truthy_bool ?_
    cases k' with
    | false =>
      obtain ⟨k0, e0, q0⟩ := qe
      cases e0
      exact ite_ff ⟨He, Ie, q0⟩
    | true =>
      refine ite_tt (test_last (thn (hd.run pins se σ He _ Ie qe) fun vd sf ⟨xd, Hf, If, rf, qf⟩ => thn (h3 pins sf σ Hf xc xd vc vd _ If rc rf qf) fun we sg ⟨ze, Hg, Ig, rg, k0, e0, q0⟩ => ?_))
      subst e0
      cases rg
      exact wpAny_truthy_bool ⟨Hg, Ig, q0⟩
theorem ch3_core {ma mb mc md : E} {o1 o2 o3 : Cm} {r r' r'' : R2} (hq : Cp Z o1 r) (hq' : Cp Z o2 r') (hq'' : Cp Z o3 r'') {Q : Bool → He → List Addr → Hp → Prop} {Q' : VK} {α : List Addr} {he : He} {σw : Sg} {σ : L2.St} {H : Hp} (hr : HR Z α he H) (sr : SR Z α H σw σ)
    (g : Got Z B α H (tCh3 o1 o2 o3 ma mb mc md σw he) Q) (h : ∀ k he α' H', HR Z α' he H' → Q k he α' H' → Q' (.bl k) H') : tChain3 r r' r'' (rE Z B ma) (rE Z B mb) (rE Z B mc) (rE Z B md) σ H Q' :=
  ⟨α, he, σw, hr, sr, (Got.bind g).imp fun w he1 α1 H1 x1 hr1 g1 v r1 => ⟨α1, he1, σw, hr1, sr.ext x1, (Got.bind g1).imp fun w2 he2 α2 H2 x2 hr2 g2 v2 r2 => hq.got hr2 (r1.ext x2) r2 (Got.bind g2) fun k q => ⟨k, rfl, by
    cases k with
    | false => rw [if_neg Bool.false_ne_true]; exact h _ _ _ _ hr2 (Got.now q hr2)
    | true =>
      rw [if_pos rfl]
      refine ⟨α2, he2, σw, hr2, (sr.ext x1).ext x2, (Got.bind q).imp fun w3 he3 α3 H3 x3 hr3 g3 v3 r3 => hq'.got hr3 (r2.ext x3) r3 (Got.bind g3) fun k q => ⟨k, rfl, ?_⟩⟩
      cases k with
      | false => rw [if_neg Bool.false_ne_true]; exact h _ _ _ _ hr3 (Got.now q hr3)
      | true =>
        rw [if_pos rfl]
        exact ⟨α3, he3, σw, hr3, ((sr.ext x1).ext x2).ext x3, (Got.bind q).imp fun w4 he4 α4 H4 x4 hr4 g4 v4 r4 => hq''.got hr4 (r3.ext x4) r4 g4 fun k q => h k _ _ _ hr4 q⟩⟩⟩⟩
theorem t_ch3 {ma mb mc md : E} {p1 p2 p3 : CmpOp} {o1 o2 o3 : Cm} {r r' r'' : R2} (h1 : OpR X (compareOp p1) r) (h2 : OpR X (compareOp p2) r') (h3 : OpR X (compareOp p3) r'') (hq : Cp Z o1 r) (hq' : Cp Z o2 r') (hq'' : Cp Z o3 r'')
    (ha : PE X a (rE Z B ma)) (hb : PE X b (rE Z B mb)) (hc : PE X c (rE Z B mc)) (hd : PE X d (rE Z B md)) (hm : lastMarks [p1, p2, p3] [b, c, d] = false := by with_unfolding_all rfl) : PT X (.Compare a [p1, p2, p3] [b, c, d] pos) (rT Z B (tCh3 o1 o2 o3 ma mb mc md)) :=
  PT.weak (pt_chain3 h1 h2 h3 ha hb hc hd hm) fun σ H Q ⟨α, he, σw, hr, sr, g⟩ => ch3_core hq hq' hq'' hr sr g fun k he α' H' hr' q => ⟨k, rfl, q⟩
theorem e_ch3 {ma mb mc md : E} {p1 p2 p3 : CmpOp} {o1 o2 o3 : Cm} {r r' r'' : R2} (h1 : OpR X (compareOp p1) r) (h2 : OpR X (compareOp p2) r') (h3 : OpR X (compareOp p3) r'') (hq : Cp Z o1 r) (hq' : Cp Z o2 r') (hq'' : Cp Z o3 r'')
    (ha : PE X a (rE Z B ma)) (hb : PE X b (rE Z B mb)) (hc : PE X c (rE Z B mc)) (hd : PE X d (rE Z B md)) (hm : lastMarks [p1, p2, p3] [b, c, d] = false := by with_unfolding_all rfl) : PE X (.Compare a [p1, p2, p3] [b, c, d] pos) (rE Z B (eB (tCh3 o1 o2 o3 ma mb mc md))) :=
  PE.weak (pe_chain3 h1 h2 h3 ha hb hc hd hm) fun σ H Q ⟨α, he, σw, hr, sr, g⟩ => ch3_core hq hq' hq'' hr sr (Got.bind g) fun k he α' H' hr' q => got_val hr' (.bl k) q
end
end VE
end
section
set_option Elab.async false
set_option linter.all false
set_option autoImplicit false
set_option maxRecDepth 100000
set_option maxHeartbeats 2000000
namespace XI
open PySem PySem.Spec PyProof.Rows L2 PySem.Calls

structure XiC (P : Program) (K : PySem.W.Frag) (C f : Addr) (name qual : Str) (params : Arguments) (body : List Stmt) (scope : Scope) : Prop where
  oex : OexC K C
  fn : ∃ (oc : Value) (od : Option Addr) (dV kV doc pm : Value) (an : Option Addr) (cda : Addr) (ct : Value) (osl : Array (Option Value)) (cc : Addr),
    K.lookup f = some ⟨oc, od, .func (PySem.W.ksFn name qual params body scope dV kV doc pm an (.ref cda) ct cc), osl⟩ ∧ PySem.W.codeIn K (.ref cda) qual = true ∧
    (∃ (ccl : Value) (cdd : Option Addr) (vs : Array Value) (ccs : Array (Option Value)) (file : Str) (tf : Tok), K.lookup cda = some ⟨ccl, cdd, .fields vs, ccs⟩ ∧ vs[2]? = some (.str file tf) ∧ ((P.main.file : Str) == file) = true) ∧
    ∃ (cl : Value) (cld : Option Addr) (csl : Array (Option Value)), K.lookup cc = some ⟨cl, cld, .cell (some (.ref C)), csl⟩
  mro : PySem.W.mroIn K C (.ref C) = some true
  opq : PySem.W.nsIn K cStatics "thirdparty.any" = some none
  sup : PySem.W.ks_superIn K C C "__init__" = some (some (.builtin "ValueError.__init__"))
  sub : PySem.W.subIn K (.ref C) (.type "ValueError") = some true
  top : (P.main.scope.names.lookup ("super" : Str)).isSome = false

theorem boot_super : bootBuiltins "super" = some (.type "super") := by decide +kernel
section
variable {P : Program} {w : World} {K : PySem.W.Frag} {mg : Str → Option Value} {A : Around} {E : Value → Shared → Prop} {C f a L cda cc : Addr} {qual : Str} {body : List Stmt} {scope : Scope}
theorem call_mw (T : OexC K C) {h : Heap} {g : Array GenState} {d : Drawn} {t : Nat} {os : OsState} (X : K.In h) {u t0 : Addr} {us : List Value} {Q : Value → Shared → Prop} (hu : h.get? u = some (PySem.W.kxs_mw "ValueError.__init__" a)) (he : h.get? a = some (PySem.HandSPX.excO C t0)) (hz : us.length ≤ sizeLine)
    (hq : ∀ h' t1, (∀ b o, b ≠ a → h.get? b = some o → h'.get? b = some o) → h'.get? a = some (PySem.HandSPX.excO C t1) → Q .none ⟨h', g, d, t, os⟩) :
    wpAny (model P w) A (call (.ref u) us) Q E ⟨h, g, d, t, os⟩ := by
  obtain ⟨nm, q, N, bs, bm, sn, sub, ab, col, dd, k0, k1, k2, k3, k5, hC, hbm⟩ := T.cls
  refine wpAny_call (codeAny_of_tree ?_)
  show wpAny _ A.in1 (callAny (.ref u) ⟨us, []⟩) _ _ _
  unfold callAny
  refine wpAny_bind (wpAny_load hu ?_)
  simp only [PySem.W.kxs_mw, show (Value.type "method-wrapper" == Value.type "method" || Value.type "method-wrapper" == Value.type "builtin_function_or_method" || Value.type "method-wrapper" == Value.type "method-wrapper") = true by decide, if_true]
  refine PySem.W.KFB.if_so (by decide) ?_
  refine wpAny_bind (PySem.W.check_bound_init F.excBase_ValueError.toExcCallFacts (X _ _ hC) he rfl ?_)
  refine wpAny_bind (wpAny_pure (wpAny_pure ?_))
  refine ⟨plainId_quiet F.excBase_ValueError.init.plain _, codeAny_builtin F.excBase_ValueError.initEntry ?_⟩
  exact PySem.W.exc_init_tree (cls := .ref C) (t0 := t0) (dv := none) (c2 := .none) (c3 := .none) (b4 := .bool false) he hz fun h' k e _ => hq h' _ k e
theorem super_st {s : Shared} {t0 : Addr} {m : Str → Option Value} {fd : FuncData} {oc cl ccl : Value} {od cld cdd : Option Addr} {osl csl ccs : Array (Option Value)} {vs : Array Value} {file : Str} {tf : Tok} {ar : Arg} {us : List Value} {e : Expr} {es : List Expr} {p0 p1 p2 p3 p4 : Pos} {pl : Sem Bool} {Q : Flow → Shared → Prop}
    (T : OexC K C) (X : K.In s.heap) (hf : K.lookup f = some ⟨oc, od, .func fd, osl⟩) (hp : (fd.params.posonlyargs ++ fd.params.args).head? = some ar) (hcode : K.lookup cda = some ⟨ccl, cdd, .fields vs, ccs⟩) (hvs : vs[2]? = some (.str file tf)) (hfile : ((P.main.file : Str) == file) = true)
    (hcell : K.lookup cc = some ⟨cl, cld, .cell (some (.ref C)), csl⟩) (mro : PySem.W.mroIn K C (.ref C) = some true) (opq : PySem.W.nsIn K cStatics "thirdparty.any" = some none) (sup : PySem.W.ks_superIn K C C "__init__" = some (some (.builtin "ValueError.__init__"))) (sub : PySem.W.subIn K (.ref C) (.type "ValueError") = some true)
    (top : (P.main.scope.names.lookup ("super" : Str)).isSome = false)
    (hks : scope.names.lookup ("super" : Str) = some .globalImplicit) (hkc : scope.names.lookup ("__class__" : Str) = some .free) (hka : scope.names.lookup ar.arg = some .local) (hk : scope.kind = .function)
    (hns : s.heap.Ns L m) (hself : m ar.arg = some (.ref a)) (hgl : s.heap.Ns mainGlobals mg) (hg : mg "super" = none) (hb : ∃ mb, s.heap.Ns builtinsNs mb ∧ ∀ x : Str, x ≠ "__name__" → mb x = bootBuiltins x)
    (he : s.heap.get? a = some (PySem.HandSPX.excO C t0)) (haL : a ≠ L) (hz : us.length ≤ sizeLine)
    (hargs : ∀ (E' : Value → Shared → Prop) (s1 : Shared), s1.heap.Ns L m → ∀ Q' : List Value → Shared → Prop, Q' us s1 → wpAny (model P w) A (spliced (backTo p3 (starEach (e :: es) (PySem.W.ksEnv qual scope L f (.ref cda) cc)))) Q' E' s1)
    (hq : ∀ h' t1 tk', (∀ b o, b ≠ a → s.heap.get? b = some o → h'.get? b = some o) → h'.get? a = some (PySem.HandSPX.excO C t1) → Q .next { s with heap := h', toks := tk' })
    (hst : starEach (e :: es) (PySem.W.ksEnv qual scope L f (.ref cda) cc) = (false, eval e (PySem.W.ksEnv qual scope L f (.ref cda) cc)) :: starEach es (PySem.W.ksEnv qual scope L f (.ref cda) cc)) (hpl : (backTo p3 (starEach es (PySem.W.ksEnv qual scope L f (.ref cda) cc))).any (·.1) = false)
    (hsw : swapsWith (.Call (.Attribute (.Call (.Name "super" p0) [] [] p1) "__init__" p2) (e :: es) [] p3) none p4.line (PySem.W.ksEnv qual scope L f (.ref cda) cc) = pure false)
    (hev : eval (.Call (.Attribute (.Call (.Name "super" p0) [] [] p1) "__init__" p2) (e :: es) [] p3) (PySem.W.ksEnv qual scope L f (.ref cda) cc) = (do
      let ov ← attributeBase (.Call (.Name "super" p0) [] [] p1) "__init__" (PySem.W.ksEnv qual scope L f (.ref cda) cc) (eval (.Call (.Name "super" p0) [] [] p1) (PySem.W.ksEnv qual scope L f (.ref cda) cc))
      standAt p2.atName
      let (fx, first) ← holding [ov] (getMethod ov "__init__" pl)
      callWith p3 fx first (backTo p3 (starEach (e :: es) (PySem.W.ksEnv qual scope L f (.ref cda) cc))) [])) :
    _root_.PySem.wpAt (model P w) A (.func body (PySem.W.ksEnv qual scope L f (.ref cda) cc)) (exec (.Expr (.Call (.Attribute (.Call (.Name "super" p0) [] [] p1) "__init__" p2) (e :: es) [] p3) p4) (PySem.W.ksEnv qual scope L f (.ref cda) cc)) Q E s := by
  obtain ⟨nm, q, N, bs, bm, sn, sub', ab, col, dd, k0, k1, k2, k3, k5, hC, hbm⟩ := T.cls
  obtain ⟨mb, hbn, hbb⟩ := hb
  have hC' := X _ _ hC
  obtain ⟨hh, g, d, t, os⟩ := s
  refine ks_wpAt_Expr_any (ks_wpAt_MethodCall (pl := pl) ?_ hev) (by simp [interactive, hk]) hsw
  refine ks_wpAt_super_base hks hkc (by decide) rfl (X _ _ hf) rfl hp rfl (X _ _ hcode) rfl hvs hfile top ?_
  refine PySem.W.ks_loadName_global hk hks (loadGlobal_builtin (env := PySem.W.ksEnv qual scope L f (.ref cda) cc) hgl hg hbn ((hbb _ (by decide +kernel)).trans boot_super) ⟨rfl, ?_⟩)
  refine wpAny_loadName_free hk hkc rfl ⟨_, X _ _ hcell, rfl⟩ ?_
  refine wpAny_loadName_local hk hka hns hself ?_
  refine ks_wpAny_isType_cls hC' rfl ⟨rfl, ?_⟩
  refine ks_wpAny_call_super (ox := PySem.HandSPX.excO C t0) hC' rfl he rfl (fun c z => nomatch z) (PySem.W.looks_mroIn X mro) (fun h1 e1 kk1 => ?_)
  -- the bound __init__
  have X1 : K.In h1 := X.keeps kk1
  have he1 := kk1 _ _ he
  have I1 : PySem.W.InstAt h1 a (PySem.HandSPX.excO C t0) C none := ⟨he1, rfl, rfl, trivial⟩
  have hcl : ∃ cd, PySem.W.clsIn K C = some cd := by
    unfold PySem.W.clsIn; rw [hC]; exact ⟨_, rfl⟩
  obtain ⟨cd, hcd⟩ := hcl
  have hal : PySem.W.alongIn K "__init__" ((cd.mro.dropWhile (· != .ref C)).drop 1) = some (some (.builtin "ValueError.__init__")) := by
    unfold PySem.W.ks_superIn at sup
    rw [hcd] at sup
    exact sup
  refine PySem.W.kxs_getMethod PySem.W.kxs_ValueError e1 (PySem.W.looks_opaque X1 opq) (l₀ := cd.mro) (fun A Q E s k q => wpAny_bind ((PySem.W.looks_clsIn X1 hcd) A _ E s k (wpAny_pure q))) rfl X1 hal (I1.type.andThen (PySem.W.looks_subIn X1 sub)) (PySem.W.ks_ne X1 I1 hcd) (by decide) ?_
  -- the call
  have kk2 : ∀ b o, hh.get? b = some o → (h1.push (PySem.W.kxs_mw "ValueError.__init__" a)).get? b = some o := fun b o q => Heap.get?_push_of_some _ (kk1 b o q)
  have hns2 : (h1.push (PySem.W.kxs_mw "ValueError.__init__" a)).Ns L m := hns.at' fun o q => kk2 _ o q
  show wpAny _ _ (callWith p3 (.ref h1.objs.size) [] (backTo p3 (starEach (e :: es) _)) []) _ _ _
  have hpl2 : (backTo p3 (starEach (e :: es) (PySem.W.ksEnv qual scope L f (.ref cda) cc))).any (·.1) = false := by
    rw [hst]
    show (false || (backTo p3 (starEach es _)).any (·.1)) = false
    rw [hpl]; rfl
  refine PySem.W.kxs_callWith (i := "ValueError.__init__") (x := a) hpl2 ?_
  have ha := hargs E ⟨h1.push (PySem.W.kxs_mw "ValueError.__init__" a), g, d, t + 1, os⟩ hns2 (fun vs s2 => PySem.W.KxsAt "ValueError.__init__" h1.objs.size a s2.heap ∧ wpAny (model P w) A (call (.ref h1.objs.size) ([] ++ vs)) (fun v => Q .next) E s2)
  rw [hst] at ha ⊢
  refine evalArgs_plain (ha ⟨Heap.get?_push_size _ rfl, ?_⟩)
  refine call_mw T (X1.keeps fun b o q => Heap.get?_push_of_some _ q) (Heap.get?_push_size _ rfl) (Heap.get?_push_of_some _ he1) hz fun h' t1 k e' => hq h' t1 _ (fun b o nb q => k b o nb (kk2 b o q)) e'
end
end XI
end
section
set_option Elab.async false
set_option linter.all false
set_option autoImplicit false
set_option maxRecDepth 100000
set_option maxHeartbeats 2000000
namespace XI
open PySem PySem.Spec PyProof.Rows L2 PySem.Calls

theorem xi_end {P : Program} {w : World} {H : Hp} {h h' : Heap} {outer : List Env} {a C dx t1 : Addr} {fs : List (Str × V)} {mA : Str → Option Value} (ok : HOk P w H h) (e : H a = some (exo a C none)) (dn : h.objs.size ≤ dx) (k : ∀ b o, b ≠ a → h.get? b = some o → h'.get? b = some o)
    (hx : h'.get? a = some ({ cls := .ref C, dict := some dx, data := .fields #[.ref t1, .none, .none, .none, .bool false, .none] } : Obj)) (hn : h'.Ns1 dx mA) (r : ∀ f, RelO (fs.lookup f) (mA f)) :
    Un (frs outer) [] H (upd (upd H dx (exd dx fs)) a (exo a C (some dx))) h h' ∧ HOk P w (upd (upd H dx (exd dx fs)) a (exo a C (some dx))) h' := by
  have hnd : H dx = none := ok.fresh dn
  have nd : ∀ {b : Addr} {o : Obj}, h.get? b = some o → b ≠ dx := fun {b o} q => Nat.ne_of_lt (Nat.lt_of_lt_of_le (Heap.lt_size q) dn)
  have na : ∀ {b : Addr}, H b = none → b ≠ a := fun {b} n z => by rw [z, e] at n; cases n
  refine ⟨⟨fun b o q n _ _ => k b o (na n) q, fun b o q n _ _ => ⟨o.slots, k b o (na n) q⟩, fun b o q n _ => by rw [upd_ne (na n), upd_ne (nd q)]; exact n, fun b o q _ => ?_, fun b xs q => ?_, fun b o v q => ?_, fun b ps q => ?_⟩, fun b o q => ?_⟩
  · by_cases hb : b = a
    · exact ⟨_, by rw [hb]; exact hx⟩
    · exact ⟨o, k b o hb q⟩
  · rw [upd_ne (at_ne e q exo_tup), upd_ne (ne_of_none q hnd)]; exact q
  · rw [upd_ne (at_ne e q exo_frz), upd_ne (ne_of_none q hnd)]; exact q
  · exact ⟨#[], by rw [upd_ne (at_ne e q exo_tbl), upd_ne (ne_of_none q hnd), q]; simp⟩
  · by_cases hb : b = a
    · subst hb
      rw [upd_same] at q
      cases q
      exact exo_ok hx
    · rw [upd_ne hb] at q
      by_cases hd : b = dx
      · subst hd
        rw [upd_same] at q
        cases q
        exact exd_ok hn r
      · rw [upd_ne hd] at q
        refine (ok b o q).stay (fun c v hc z => k c v ?_ z) (fun c hc => ?_) fun c xs hc => ?_
        · rcases hc with hc | hc
          · rw [hc]; exact hb
          · exact at_ne e hc exo_own
        · rw [upd_ne (at_ne e hc exo_own), upd_ne (ne_of_none hc hnd)]; exact hc
        · rw [upd_ne (at_ne e hc exo_tup), upd_ne (ne_of_none hc hnd)]; exact hc
def spXi (C : Addr) (ns : List Str) : Sp := fun vs H Q _ => ∃ (a : Addr) (ws : List V), vs = .ref a :: ws ∧ ws.length = ns.length ∧ H a = some (exo a C none) ∧ ∀ dx, H dx = none → dx ≠ a → Q .non (upd (upd H dx (exd dx (ns.zip ws).reverse)) a (exo a C (some dx)))
section
variable {P : Program} {w : World} {K : PySem.W.Frag} {mg : Str → Option Value} {base : Heap} {CX : CXT} {C f : Addr} {name qual x1 x2 : Str} {params : Arguments} {scope : Scope} {p0 p1 p2 p3 p4 q1 q2 q3 q4 q5 q6 q7 q8 : Pos}
theorem clsOf (T : OexC K C) : ∃ cd, PySem.W.clsIn K C = some cd ∧ PySem.HandSPX.refsVE cd.mro = true ∧ cd.hasDict = true := by
  obtain ⟨nm, q, N, bs, bm, sn, sub, ab, col, dd, k0, k1, k2, k3, k5, hC, hbm⟩ := T.cls
  refine ⟨_, by unfold PySem.W.clsIn; rw [hC] <;> rfl, hbm, rfl⟩
theorem set1 {A : Around} {E : Value → Shared → Prop} {s : Shared} {a t1 : Addr} {u : Value} {Q : Unit → Shared → Prop} (T : OexC K C) (X : K.In s.heap) (he : s.heap.get? a = some (PySem.HandSPX.excO C t1)) (hno : PySem.W.findIn K (.ref C) x1 = some none)
    (hq : ∀ h' tk' dx, (∀ b o, b ≠ a → s.heap.get? b = some o → h'.get? b = some o) → s.heap.objs.size ≤ dx → dx ≠ a → h'.get? a = some ({ cls := .ref C, dict := some dx, data := .fields #[.ref t1, .none, .none, .none, .bool false, .none] } : Obj) →
      h'.Ns1 dx (fun y => if y = x1 then some u else none) → Q () { s with heap := h', toks := tk' }) : wpAny (model P w) A (setAttr (.ref a) x1 u) Q E s := by
  obtain ⟨cd, hcd, hm, hh⟩ := clsOf T
  refine PySem.W.set_plain X (ox := PySem.HandSPX.excO C t1) (od := none) ⟨he, rfl, rfl, trivial⟩ T.sa ?_
  obtain ⟨hp, g, d, t, os⟩ := s
  exact PySem.HandSPX.exc_osa X he hcd hm hh hno fun h' tk' dx k n1 n2 hx hn => hq h' tk' dx k n1 n2 hx hn
theorem set2 {A : Around} {E : Value → Shared → Prop} {s : Shared} {a t1 dx : Addr} {u : Value} {m0 : Str → Option Value} {nl : List Str} {Q : Unit → Shared → Prop} (T : OexC K C) (X : K.In s.heap) (he : s.heap.get? a = some ({ cls := .ref C, dict := some dx, data := .fields #[.ref t1, .none, .none, .none, .bool false, .none] } : Obj))
    (hns : s.heap.Ns1 dx m0) (hw : Within m0 nl) (hz : nl.length ≤ 900) (hno : PySem.W.findIn K (.ref C) x2 = some none)
    (hq : ∀ h' tk', (∀ b o, b ≠ dx → s.heap.get? b = some o → h'.get? b = some o) → h'.Ns1 dx (fun y => if y = x2 then some u else m0 y) → Q () { s with heap := h', toks := tk' }) : wpAny (model P w) A (setAttr (.ref a) x2 u) Q E s := by
  obtain ⟨cd, hcd, hm, hh⟩ := clsOf T
  obtain ⟨oD, _, _, hoD, _, _⟩ := hns.count hw
  refine PySem.W.set_plain X (ox := { cls := .ref C, dict := some dx, data := .fields #[.ref t1, .none, .none, .none, .bool false, .none] }) (od := some oD) ⟨he, rfl, rfl, hoD⟩ T.sa ?_
  obtain ⟨hp, g, d, t, os⟩ := s
  exact PySem.OEX.osa_old X he hns hw (by omega) hcd hm hh hno fun h' tk' k hn => hq h' tk' k hn

def SuperEq (env : Env) (es : List Expr) (p0 p1 p2 p3 : Pos) : Prop := ∃ pl : Sem Bool, eval (.Call (.Attribute (.Call (.Name "super" p0) [] [] p1) "__init__" p2) es [] p3) env = (do
      let ov ← attributeBase (.Call (.Name "super" p0) [] [] p1) "__init__" env (eval (.Call (.Name "super" p0) [] [] p1) env)
      standAt p2.atName
      let (fx, first) ← holding [ov] (getMethod ov "__init__" pl)
      callWith p3 fx first (backTo p3 (starEach es env)) [])
abbrev body1 (x1 : Str) (p0 p1 p2 p3 p4 q1 q2 q3 q4 q5 : Pos) : List Stmt := [.Expr (.Call (.Attribute (.Call (.Name "super" p0) [] [] p1) "__init__" p2) [.Name x1 q1] [] p3) p4, .Assign [.Attribute (.Name "self" q2) x1 q3] (.Name x1 q4) q5]
theorem xi_ok1 {k : Nat} (T : XiC P K C f name qual params (body1 x1 p0 p1 p2 p3 p4 q1 q2 q3 q4 q5) scope) {fd : FuncData} {oc : Value} {od : Option Addr} {osl : Array (Option Value)} (hf : K.lookup f = some ⟨oc, od, .func fd, osl⟩) (hno : PySem.W.findIn K (.ref C) x1 = some none) (hmg : mg "super" = none)
    (hx : x1 ≠ "self") (hxd : (x1 == ("__debug__" : Str)) = false)
    (hp : ∃ ar, (params.posonlyargs ++ params.args).head? = some ar ∧ ar.arg = "self") (hcell : ∀ x ∈ scope.names, x.2 ≠ .cell) (hk : scope.kind = .function) (hco : scope.isCoroutine = false) (hgen : scope.isGenerator = false)
    (h1 : scope.names.lookup ("self" : Str) = some .local) (h2 : scope.names.lookup x1 = some .local) (hks : scope.names.lookup ("super" : Str) = some .globalImplicit) (hkc : scope.names.lookup ("__class__" : Str) = some .free)
    (hev : ∀ (L cda cc : Addr), SuperEq (PySem.W.ksEnv qual scope L f (.ref cda) cc) [.Name x1 q1] p0 p1 p2 p3) :
    FnOk P w K mg base CX (k + 1) f fd ["self", x1] (spXi C [x1]) := by
  refine ⟨fun vs H Q E ⟨a, ws, e, hl, _⟩ => by rw [e]; simp [hl], fun A outer s H args us vs Q E hr e0 hb r ⟨a, ws, ev, hl, ea, hQ⟩ => ?_⟩
  obtain ⟨oc', od', dV, kV, doc, pm, an, cda, ct, osl', cc, hf', hcd, ⟨ccl, cdd, cvs, ccs, file, tf, hcode, hvs, hfile⟩, cl, cld, csl, hcellK⟩ := T.fn
  rw [hf] at hf'
  cases hf'
  obtain ⟨ar, har, hself⟩ := hp
  have KX : K.In s.heap := e0.mod.kin.keeps fun b o e => (e0.bs b o e).1
  have lim : s.heap.NoLimit := e0.mod.nolimit.keeps fun b o e => (e0.bs b o e).1
  have hgl : s.heap.Ns mainGlobals mg := e0.mod.glob.keeps fun b o e => (e0.bs b o e).1
  obtain ⟨mb, hbn, hbb⟩ := e0.mod.blt
  have hbn : s.heap.Ns builtinsNs mb := hbn.keeps fun b o e => (e0.bs b o e).1
  match ws, hl with
  | [v1], _ =>
  subst ev
  obtain ⟨ua, u1, rfl, ra, r1⟩ := Vals.two r
  obtain rfl : ua = Value.ref a := ra
  obtain ⟨t0, ho⟩ := exo_at e0.hok ea
  have haL : a ≠ s.heap.objs.size := Nat.ne_of_lt (Heap.lt_size ho)
  have hsl : (x1 == ("self" : Str)) = false := beq_eq_false_iff_ne.mpr hx
  refine ks_codeAny_call_defAt (fd := PySem.W.ksFn name qual params (body1 x1 p0 p1 p2 p3 p4 q1 q2 q3 q4 q5) scope dV kV doc pm an (.ref cda) ct cc) (body := body1 x1 p0 p1 p2 p3 p4 q1 q2 q3 q4 q5) hr.depth (KX _ _ hf) rfl lim (PySem.W.codeRec_of KX hcd) rfl hb hcell ?_ (fun h₀ hns hk0 => ?_) hco hgen hk
  · intro y hy
    rcases List.mem_cons.mp hy with rfl | hy
    · exact h1
    · rcases List.mem_cons.mp hy with rfl | hy
      · exact h2
      · cases hy
  · show _root_.PySem.wpAt _ _ (.func _ (PySem.W.ksEnv qual scope s.heap.objs.size f (.ref cda) cc)) (execs _ (PySem.W.ksEnv qual scope s.heap.objs.size f (.ref cda) cc)) _ _ _
    have hself' : (([("self", Value.ref a), (x1, u1)] : List (Str × Value)).reverse.lookup ("self" : Str)) = some (.ref a) := by
      have : (("self" : Str) == x1) = false := beq_eq_false_iff_ne.mpr (Ne.symm hx)
      simp [List.lookup, this]
    have hval' : (([("self", Value.ref a), (x1, u1)] : List (Str × Value)).reverse.lookup x1) = some u1 := by simp [List.lookup]
    obtain ⟨pl, hpl⟩ := hev s.heap.objs.size cda cc
    refine ks_wpAt_execs_cons (super_st (pl := pl) (us := [u1]) T.oex (KX.keeps hk0) hf har hcode hvs hfile hcellK T.mro T.opq T.sup T.sub T.top hks hkc (hself ▸ h1) hk hns (by rw [hself]; exact hself') (hgl.keeps hk0) hmg ⟨mb, hbn.keeps hk0, hbb⟩ (hk0 _ _ ho) haL (by show 1 ≤ sizeLine; decide) (fun E' s1 hn1 Q' q => ?_) (fun h' t1 tk' k1 e1 => ?_) rfl rfl rfl hpl)
    · refine Calls.spliced_cons (wpAny_Name (wpAny_loadName_local hk h2 hn1 hval' ?_) hxd)
      exact Calls.spliced_nil q
    · refine wpAt_of_wpAny ?_
      have hns1 : h'.Ns s.heap.objs.size _ := hns.at' fun o q => k1 _ o (Ne.symm haL) q
      have na : ∀ {b : Addr} {o : Obj}, base.get? b = some o → b ≠ a := fun {b o} q z => by
        have q2 := (e0.bs b o q).2
        rw [z, ea] at q2; cases q2
      have X1 : K.In h' := e0.mod.kin.keeps fun b o e => k1 b o (na e) (hk0 b o (e0.bs b o e).1)
      refine wpAny_execs_cons (plainObj_wpAny_Assign_Attribute (wpAny_Name (wpAny_loadName_local hk h2 hns1 hval' ?_) hxd) rfl)
      refine wpAny_Name (wpAny_loadName_local hk h1 hns1 hself' ?_)
      refine set1 T.oex X1 e1 hno fun h'' tk'' dx k2 dn dne hx hn => wpAny_execs_nil ?_
      have hsz : s.heap.objs.size ≤ dx := Nat.le_trans (Nat.le_of_lt hns1.lt) dn
      obtain ⟨U, HO⟩ := xi_end (outer := outer) (fs := [(x1, v1)]) e0.hok ea hsz (fun b o nb q => k2 b o nb (k1 b o nb (hk0 b o q))) hx hn (relO_put (fs := []) r1 fun g => True.intro)
      exact ⟨.non, _, rfl, e0.bare, U, HO, rfl, hQ dx (e0.hok.fresh hsz) dne⟩
abbrev body2 (x1 x2 : Str) (p0 p1 p2 p3 p4 q1 q2 q3 q4 q5 r1 r2 r3 r4 r5 : Pos) : List Stmt := [.Expr (.Call (.Attribute (.Call (.Name "super" p0) [] [] p1) "__init__" p2) [.Name x1 q1, .Name x2 r1] [] p3) p4, .Assign [.Attribute (.Name "self" q2) x1 q3] (.Name x1 q4) q5, .Assign [.Attribute (.Name "self" r2) x2 r3] (.Name x2 r4) r5]
theorem xi_ok2 {k : Nat} {r1 r2 r3 r4 r5 : Pos} (T : XiC P K C f name qual params (body2 x1 x2 p0 p1 p2 p3 p4 q1 q2 q3 q4 q5 r1 r2 r3 r4 r5) scope) {fd : FuncData} {oc : Value} {od : Option Addr} {osl : Array (Option Value)} (hf : K.lookup f = some ⟨oc, od, .func fd, osl⟩)
    (hno : PySem.W.findIn K (.ref C) x1 = some none) (hno2 : PySem.W.findIn K (.ref C) x2 = some none) (hmg : mg "super" = none) (hx : x1 ≠ "self") (hx2 : x2 ≠ "self") (h12 : x1 ≠ x2) (hxd : (x1 == ("__debug__" : Str)) = false) (hxd2 : (x2 == ("__debug__" : Str)) = false)
    (hp : ∃ ar, (params.posonlyargs ++ params.args).head? = some ar ∧ ar.arg = "self") (hcell : ∀ x ∈ scope.names, x.2 ≠ .cell) (hk : scope.kind = .function) (hco : scope.isCoroutine = false) (hgen : scope.isGenerator = false)
    (h1 : scope.names.lookup ("self" : Str) = some .local) (h2 : scope.names.lookup x1 = some .local) (h3 : scope.names.lookup x2 = some .local) (hks : scope.names.lookup ("super" : Str) = some .globalImplicit) (hkc : scope.names.lookup ("__class__" : Str) = some .free)
    (hev : ∀ (L cda cc : Addr), SuperEq (PySem.W.ksEnv qual scope L f (.ref cda) cc) [.Name x1 q1, .Name x2 r1] p0 p1 p2 p3) :
    FnOk P w K mg base CX (k + 1) f fd ["self", x1, x2] (spXi C [x1, x2]) := by
  refine ⟨fun vs H Q E ⟨a, ws, e, hl, _⟩ => by rw [e]; simp [hl], fun A outer s H args us vs Q E hr e0 hb r ⟨a, ws, ev, hl, ea, hQ⟩ => ?_⟩
  obtain ⟨oc', od', dV, kV, doc, pm, an, cda, ct, osl', cc, hf', hcd, ⟨ccl, cdd, cvs, ccs, file, tf, hcode, hvs, hfile⟩, cl, cld, csl, hcellK⟩ := T.fn
  rw [hf] at hf'
  cases hf'
  obtain ⟨ar, har, hself⟩ := hp
  have KX : K.In s.heap := e0.mod.kin.keeps fun b o e => (e0.bs b o e).1
  have lim : s.heap.NoLimit := e0.mod.nolimit.keeps fun b o e => (e0.bs b o e).1
  have hgl : s.heap.Ns mainGlobals mg := e0.mod.glob.keeps fun b o e => (e0.bs b o e).1
  obtain ⟨mb, hbn, hbb⟩ := e0.mod.blt
  have hbn : s.heap.Ns builtinsNs mb := hbn.keeps fun b o e => (e0.bs b o e).1
  match ws, hl with
  | [v1, v2], _ =>
  subst ev
  obtain ⟨ua, rest, rfl, ra, rr⟩ : ∃ ua rest, us = ua :: rest ∧ RelV (.ref a) ua ∧ Vals [v1, v2] rest := by
    cases r with
    | cons p q => exact ⟨_, _, rfl, p, q⟩
  obtain ⟨u1, u2, rfl, rv1, rv2⟩ := Vals.two rr
  obtain rfl : ua = Value.ref a := ra
  obtain ⟨t0, ho⟩ := exo_at e0.hok ea
  have haL : a ≠ s.heap.objs.size := Nat.ne_of_lt (Heap.lt_size ho)
  have c1 : (("self" : Str) == x1) = false := beq_eq_false_iff_ne.mpr (Ne.symm hx)
  have c2 : (("self" : Str) == x2) = false := beq_eq_false_iff_ne.mpr (Ne.symm hx2)
  have c3 : (x1 == x2) = false := beq_eq_false_iff_ne.mpr h12
  refine ks_codeAny_call_defAt (fd := PySem.W.ksFn name qual params (body2 x1 x2 p0 p1 p2 p3 p4 q1 q2 q3 q4 q5 r1 r2 r3 r4 r5) scope dV kV doc pm an (.ref cda) ct cc) (body := body2 x1 x2 p0 p1 p2 p3 p4 q1 q2 q3 q4 q5 r1 r2 r3 r4 r5) hr.depth (KX _ _ hf) rfl lim (PySem.W.codeRec_of KX hcd) rfl hb hcell ?_ (fun h₀ hns hk0 => ?_) hco hgen hk
  · intro y hy
    rcases List.mem_cons.mp hy with rfl | hy
    · exact h1
    · rcases List.mem_cons.mp hy with rfl | hy
      · exact h2
      · rcases List.mem_cons.mp hy with rfl | hy
        · exact h3
        · cases hy
  · show _root_.PySem.wpAt _ _ (.func _ (PySem.W.ksEnv qual scope s.heap.objs.size f (.ref cda) cc)) (execs _ (PySem.W.ksEnv qual scope s.heap.objs.size f (.ref cda) cc)) _ _ _
    have hself' : (([("self", Value.ref a), (x1, u1), (x2, u2)] : List (Str × Value)).reverse.lookup ("self" : Str)) = some (.ref a) := by simp [List.lookup, c1, c2]
    have hval1 : (([("self", Value.ref a), (x1, u1), (x2, u2)] : List (Str × Value)).reverse.lookup x1) = some u1 := by simp [List.lookup, c3]
    have hval2 : (([("self", Value.ref a), (x1, u1), (x2, u2)] : List (Str × Value)).reverse.lookup x2) = some u2 := by simp [List.lookup]
    obtain ⟨pl, hpl⟩ := hev s.heap.objs.size cda cc
    refine ks_wpAt_execs_cons (super_st (pl := pl) (us := [u1, u2]) T.oex (KX.keeps hk0) hf har hcode hvs hfile hcellK T.mro T.opq T.sup T.sub T.top hks hkc (hself ▸ h1) hk hns (by rw [hself]; exact hself') (hgl.keeps hk0) hmg ⟨mb, hbn.keeps hk0, hbb⟩ (hk0 _ _ ho) haL (by show 2 ≤ sizeLine; decide) (fun E' s1 hn1 Q' q => ?_) (fun h' t1 tk' k1 e1 => ?_) rfl rfl rfl hpl)
    · refine Calls.spliced_cons (wpAny_Name (wpAny_loadName_local hk h2 hn1 hval1 ?_) hxd)
      refine Calls.spliced_cons (wpAny_Name (wpAny_loadName_local hk h3 hn1 hval2 ?_) hxd2)
      exact Calls.spliced_nil q
    · refine wpAt_of_wpAny ?_
      have hns1 : h'.Ns s.heap.objs.size _ := hns.at' fun o q => k1 _ o (Ne.symm haL) q
      have na : ∀ {b : Addr} {o : Obj}, base.get? b = some o → b ≠ a := fun {b o} q z => by
        have q2 := (e0.bs b o q).2
        rw [z, ea] at q2; cases q2
      have X1 : K.In h' := e0.mod.kin.keeps fun b o e => k1 b o (na e) (hk0 b o (e0.bs b o e).1)
      refine wpAny_execs_cons (plainObj_wpAny_Assign_Attribute (wpAny_Name (wpAny_loadName_local hk h2 hns1 hval1 ?_) hxd) rfl)
      refine wpAny_Name (wpAny_loadName_local hk h1 hns1 hself' ?_)
      refine set1 T.oex X1 e1 hno fun h'' tk'' dx k2 dn dne hx hn => ?_
      have hns2 : h''.Ns s.heap.objs.size _ := hns1.at' fun o q => k2 _ o (Ne.symm haL) q
      have hsz : s.heap.objs.size ≤ dx := Nat.le_trans (Nat.le_of_lt hns1.lt) dn
      have hLd : s.heap.objs.size ≠ dx := Nat.ne_of_lt (Nat.lt_of_lt_of_le hns1.lt dn)
      have X2 : K.In h'' := e0.mod.kin.keeps fun b o e => k2 b o (na e) (k1 b o (na e) (hk0 b o (e0.bs b o e).1))
      have rel1 : ∀ g, RelO (([(x1, v1)] : List (Str × V)).lookup g) (if g = x1 then some u1 else none) := relO_put (fs := []) rv1 fun g => True.intro
      refine wpAny_execs_cons (plainObj_wpAny_Assign_Attribute (wpAny_Name (wpAny_loadName_local hk h3 hns2 hval2 ?_) hxd2) rfl)
      refine wpAny_Name (wpAny_loadName_local hk h1 hns2 hself' ?_)
      refine set2 T.oex X2 hx hn (within_of rel1) (by simp) hno2 fun h3' tk3 k3 hn3 => wpAny_execs_nil ?_
      obtain ⟨U, HO⟩ := xi_end (outer := outer) (fs := [(x2, v2), (x1, v1)]) e0.hok ea hsz (fun b o nb q => k3 b o (Nat.ne_of_lt (Nat.lt_of_lt_of_le (Heap.lt_size q) hsz)) (k2 b o nb (k1 b o nb (hk0 b o q)))) (k3 _ _ (Ne.symm dne) hx) hn3 (relO_put rv2 rel1)
      exact ⟨.non, _, rfl, e0.bare, U, HO, rfl, hQ dx (e0.hok.fresh hsz) dne⟩
end
end XI
end
section
set_option Elab.async false
set_option linter.all false
set_option autoImplicit false
set_option maxRecDepth 100000
namespace VE
open PySem PySem.Spec PyProof.Rows L2

structure GX (P : Program) (w : World) (Z : Zx) (mg : Str → Option Value) (base : Heap) (c : Nat) (ns : List Str) (ks : List Nat) : Prop where
  oex : OexC Z.K (Z.γ c)
  init : ∃ fI fd, PySem.W.findIn Z.K (.ref (Z.γ c)) "__init__" = some (some (.ref fI)) ∧ PySem.W.typeIn Z.K (.ref fI) = some (.type "function") ∧ FnOk P w Z.K mg base (CX P w) 1 fI fd ("self" :: ns) (XI.spXi (Z.γ c) ns) ∧ L2.Binds Z.K fd ("self" :: ns) []
  nms : ns.map some = ks.map fun k => Z.nms[k]?
section
variable {Z : Zx} {B : XK} {X : Cx} {e o a b : Expr} {es : List Expr} {pos p : Pos}
theorem relF_zip {α : List Addr} {H : Hp} : ∀ {ks : List Nat} {ns : List Str} {ws : List W} {vs : List V}, ns.map some = ks.map (fun k => Z.nms[k]?) → RelWs Z α H ws vs → RelF Z α H (ks.zip ws) (ns.zip vs)
  | [], [], _, _, _, _ => by simp; exact .nil
  | [], _ :: _, _, _, h, _ => by simp at h
  | _ :: _, [], _, _, h, _ => by simp at h
  | k :: ks, n :: ns, _, _, h, .nil => .nil
  | k :: ks, n :: ns, _, _, h, .cons r t => by
    simp only [List.map_cons, List.cons.injEq] at h
    exact .cons h.1.symm r (relF_zip h.2 t)
theorem RelF.append {α : List Addr} {H : Hp} {fs fs' : List (Nat × W)} {gs gs' : List (Str × V)} (h : RelF Z α H fs gs) (h' : RelF Z α H fs' gs') : RelF Z α H (fs ++ fs') (gs ++ gs') := by
  induction h with
  | nil => exact h'
  | cons e r t ih => exact .cons e r ih
theorem RelF.rev {α : List Addr} {H : Hp} {fs : List (Nat × W)} {gs : List (Str × V)} (h : RelF Z α H fs gs) : RelF Z α H fs.reverse gs.reverse := by
  induction h with
  | nil => exact .nil
  | cons e r t ih => rw [List.reverse_cons, List.reverse_cons]; exact ih.append (.cons e r .nil)
theorem del_upd {H : Hp} {x d : Addr} {o1 o2 o3 o4 : HO} (hx : H x = none) (hd : d ≠ x) : upd (del (upd (upd (upd H x o1) d o2) x o3) x) d o4 = upd H d o4 := by
  funext b
  by_cases h1 : b = d
  · rw [h1, upd_same, upd_same]
  · rw [upd_ne h1, upd_ne h1]
    by_cases h2 : b = x
    · rw [h2, del_same, hx]
    · rw [del_ne h2, upd_ne h2, upd_ne h1, upd_ne h2]
theorem s_raise {c : Nat} {ns : List Str} {ks : List Nat} {ms : ES} {x : Str} (gx : GX X.prog X.w Z X.mg X.base c ns ks) (hK : X.K = Z.K) (hr : Room 2 X.A) (hc : X.calm = true) (tk : Takes X fun cls d _ H => B cls d H) (hm : X.mg x = some (.ref (Z.γ c))) (hx : Passes (CX X.prog X.w) X XN)
    (ha : PA X (e :: es) (rA Z B ms)) (hl : Ln ms ns.length) (hn : ns.length ≤ 100 := by decide) (hg : Gl X x := by rfl) (hdb : (x == ("__debug__" : Str)) = false := by decide)
    (he : starEach (e :: es) X.env = (false, eval e X.env) :: starEach es X.env := by rfl) (hpl : (backTo p (starEach es X.env)).any (·.1) = false := by rfl) {pp : Pos} :
    PS X (.Raise (some (.Call (.Name x pp) (e :: es) [] p)) none pos) (rS Z B (sRaise c ks ms)) := by
  obtain ⟨oex, ⟨fI, fd, h1, h2, G, b⟩, hnm⟩ := gx
  refine PS.weak (ps_raise hc tk (pmk_oex (dvs := []) (hK ▸ oex) (hK ▸ h1) (hK ▸ h2) (hK ▸ G) hr (hK ▸ b) .nil hx hg hm ha hdb he hpl)) fun D σ H ⟨α, hh, σw, hr, sr, g⟩ => ⟨α, hh, σw, hr, sr, ?_⟩
  have g := Got.bind g
  cases e1 : ms σw hh with
  | bad => rw [e1] at g; exact g.elim
  | ex c fs h => rw [e1] at g; exact g
  | ok ws he1 =>
    rw [e1] at g
    have hlen := hl _ _ _ _ e1
    intro α1 H1 x1 hr1 vs rs
    have hvs : vs.length = ns.length := by rw [← rs.length]; exact hlen
    refine ⟨by omega, fun a na => ?_⟩
    rw [List.append_nil]
    refine ⟨a, vs, rfl, hvs, upd_same, fun dx nd ne => ⟨rfl, dx, (ns.zip vs).reverse, upd_same, ?_, ?_, ?_⟩⟩
    · rw [upd_ne ne, upd_same]
    · rw [upd_ne ne] at nd; exact nd
    · have nd1 : H1 dx = none := by rw [upd_ne ne] at nd; exact nd
      rw [del_upd na ne]
      have x2 : Ext α1 α1 H1 (upd H1 dx (.xd (ns.zip vs).reverse)) := .fresh nd1
      exact g α1 H1 x1 hr1 α1 _ dx _ x2 (hr1.fresh nd1) upd_same ((relF_zip hnm (rs.ext x2)).rev)
end
end VE
end
section
set_option Elab.async false
set_option linter.all false
set_option autoImplicit false
set_option maxRecDepth 100000
namespace VE
open PySem PySem.Spec PyProof.Rows L2

def wFst (K : PySem.W.Frag) (nl : Nat) (ct : Value) (j : Nat) (su : Addr → Value → Option Addr → TS) (D : Ends) : WX := fun cls d σ H =>
  PySem.W.exmOne K cls ct = some true ∧ (σ.length = nl → ∀ ad, H ad = none → su ad cls d { nx := fun _ _ => False, rt := D.rt } (σ.set j (some (.ref ad))) H)
section
variable {X : Cx} {cn en : Str} {ct : Value} {j : Nat} {blk su0 : List Stmt} {st0 : Stmt} {pn0 ps0 pe0 : Pos} {more : List ExceptHandler} {rb : WX → TS} {su : Addr → Value → Option Addr → TS}
theorem ps_try_first (hstk : X.stack = X.env :: X.outer) (hfrm : X.env.frame = some X.env.locals) (hnd : X.N.Nodup) (hj : X.N[j]? = some en) (hen : X.env.kindOf en = some .local) (hcn : Names X cn ct)
    (hblk : ∀ (W : WX) (pl : List (Addr × Obj)) (xx : Value → Shared → Prop), Takes (X.tr pl xx) W → PSs (X.tr pl xx) blk (rb W))
    (hsu : ∀ (ad : Addr) (ob : Obj) (cls : Value) (d : Option Addr) (pl : List (Addr × Obj)), Zc cls d ob → (∃ vs, ob.data = .fields vs) → PSs (X.suite ad ((ad, ob) :: pl)) (st0 :: su0) (su ad cls d)) :
    PS X (.Try blk (.ExceptHandler (some (.Name cn pn0)) (some en) (st0 :: su0) ps0 :: more) [] [] pe0) (fun D σ H => rb (wFst X.K X.N.length ct j su D) D σ H) := by
  refine ⟨fun pins s0 σ0 H0 D I0 rd => ?_⟩
  have xok := I0.ok
  have afr : X.A.frames = some (X.env :: X.outer) := xok.frames.trans (congrArg some hstk)
  have out : ∀ f s', SP (X.tr (X.pn ++ pins) (fun ev sa => wpAny (model X.prog X.w) X.A (noteFrame ev X.env) (fun _ sb => wpAny (model X.prog X.w) X.A (setFlight ev none) (fun _ sc =>
      wpAny (model X.prog X.w) X.A (handleBy ev X.env (.ExceptHandler (some (.Name cn pn0)) (some en) (st0 :: su0) ps0 :: more)) (SP X pins D) X.xe sc) X.xe sb) X.xe sa)) [] D f s' → SP X pins D f s' := fun f s' q => by
    cases f with
    | next => obtain ⟨σ', H', J, q⟩ := q; exact ⟨σ', H', J.ofTry xok, q⟩
    | brk => obtain ⟨σ', H', J, q⟩ := q; exact ⟨σ', H', J.ofTry xok, q⟩
    | cont => obtain ⟨σ', H', J, q⟩ := q; exact ⟨σ', H', J.ofTry xok, q⟩
    | ret u => obtain ⟨v, σ', H', J, r, q⟩ := q; exact ⟨v, σ', H', J.ofTry xok, r, q⟩
  refine wpAny_Try_except (wpAny_mono ((hblk (wFst X.K X.N.length ct j su D) (X.pn ++ pins) _ fun ev sa xx => ?_).run [] s0 σ0 H0 D (I0.toTry _) rd) (fun f s1 q => ?_) fun _ _ z => z)
  · obtain ⟨ad, BB, si, pl', σ1, H1, cls, d, rfl, J0, keepB, upS, sky0, nad, oseq, bare1, hm, wsu⟩ := xx
    have J1 : Inv X pins σ1 H1 si := J0.ofTry xok
    have sky1 : Sky BB (X.env :: X.outer) ad (Zc cls d) X.env.locals sa.heap := hstk ▸ sky0
    show wpAny (model X.prog X.w) X.A (noteFrame (.ref ad) X.env) _ _ _
    refine Sky.land Zc.steady afr hfrm sky1 fun g1 flA upA => ?_
    have K1 : Inv X pins σ1 H1 { sa with heap := g1 } := J1.landed keepB flA.1 (upS.trans upA) oseq bare1
    obtain ⟨ob1, fv1, hob1, zc1, dt1⟩ := flA.there
    have off : ∀ z ∈ frs (X.env :: X.outer), z ≠ ad := fun z hz e => by
      obtain ⟨_, o2, ho2, nofields⟩ := flA.2.2.1.mem hz
      rw [e, hob1] at ho2
      cases ho2
      exact nofields _ dt1
    have offL : ad ≠ X.env.locals := fun e => off ad (List.mem_filterMap.mpr ⟨X.env, List.mem_cons_self, by rw [hfrm, e]⟩) rfl
    have offF : ad ∉ X.fs := fun hz => by
      obtain ⟨ev, hev, q⟩ := List.mem_filterMap.mp hz
      exact off ad (List.mem_filterMap.mpr ⟨ev, List.mem_cons_of_mem _ hev, q⟩) rfl
    have S1 := K1.suite hob1 dt1 nad offL offF
    have look : PySem.W.Looks (model X.prog X.w) g1 (typeOf (.ref ad)) cls := fun A2 Q2 E2 s2 k2 q2 => wpAny_typeOf_ref (k2 _ _ hob1) (zc1.1 ▸ q2)
    refine wpAny_handleBy_cons (codeAny_handlers_test ?_) (fun q => nomatch q)
    have named : ∀ {Q2 : Value → Shared → Prop} {E2 : Value → Shared → Prop}, Q2 ct { sa with heap := g1 } → wpAny (model X.prog X.w) (X.A.mark (some (.ref ad))) (eval (.Name cn pn0) X.env) Q2 E2 { sa with heap := g1 } := fun {Q2 E2} q => by
      rcases hcn with ⟨gl, db, hx | ⟨hx, hbt, hnn⟩⟩
      · exact ld_glob (X := X.suite ad ((ad, ob1) :: (X.pn ++ pins))) S1 gl hx q db
      · exact ld_blt (X := X.suite ad ((ad, ob1) :: (X.pn ++ pins))) S1 gl hx hbt q hnn db
    refine named ((PySem.W.exm_one (M := model X.prog X.w) K1.kIn look hm).here (codeAny_handlers_suite_as ?_))
    refine HandSPX.lands_againZ flA fun g2 flB upB => ?_
    have K2 : Inv X pins σ1 H1 { sa with heap := g2 } := J1.landed keepB flB.1 ((upS.trans upA).trans upB) oseq bare1
    obtain ⟨ob2, fv2, hob2, zc2, dt2⟩ := flB.there
    have S2 := K2.suite hob2 dt2 nad offL offF
    refine store_ok (X := X.suite ad ((ad, ob2) :: (X.pn ++ pins))) (v := .ref ad) S2 hnd hj (.inl hen) rfl (fun s2 S3 => ?_) (.inr hen)
    refine wpAny_mono ((hsu ad ob2 cls d (X.pn ++ pins) zc2 ⟨_, dt2⟩).run [] s2 _ H1 _ S3 (wsu J1.len ad nad)) (fun f s3 q => ?_) fun _ _ z => z.elim
    cases f with
    | next => obtain ⟨_, _, _, q⟩ := q; exact q.elim
    | brk => obtain ⟨_, _, _, q⟩ := q; exact False.elim q
    | cont => obtain ⟨_, _, _, q⟩ := q; exact False.elim q
    | ret u =>
      obtain ⟨v3, σ3, H3, S4, r3, q3⟩ := q
      exact gone_ok (S4.unsuite xok) hnd hj hen fun s4 J4 => ⟨_, _, _, J4, r3, q3⟩
  · have q := out f s1 q
    cases f with
    | next => exact wpAny_execs_nil q
    | brk => exact q
    | cont => exact q
    | ret u => exact q
end

section
variable {Z : Zx} {B : XK} {X : Cx}
theorem PSs.some {blk : List Stmt} {φ : XK → Prop} {t : XK → TS} (h : ∀ E, φ E → PSs X blk (t E)) : PSs X blk (fun D σ H => ∃ E, φ E ∧ t E D σ H) := ⟨fun pins s σ H D I ⟨E, f, q⟩ => (h E f).run pins s σ H D I q⟩
def tXfs (a : Addr) (cls : Value) (d : Option Addr) (C : Addr) (te : TE) : List Str → TA
  | [] => tNil
  | f :: r => tCons (tXf a cls d C f te) (tXfs a cls d C te r)
inductive Flds (j : Nat) (en : Str) : List Expr → List Str → Prop
  | nil : Flds j en [] []
  | cons {f : Str} {p q : Pos} {es : List Expr} {fs : List Str} : Flds j en es fs → Flds j en (.Attribute (.Name en p) f q :: es) (f :: fs)
theorem xfs_read {α : List Addr} {H : Hp} {σ : L2.St} {a dd C : Addr} {j : Nat} {fs : List (Nat × W)} {gs : List (Str × V)} (hσ : σ[j]? = some (some (.ref a))) (hd : H dd = some (.xd gs)) (rf : RelF Z α H fs gs) :
    ∀ {ks : List Nat} {ns : List Str} {ws : List W} {Q : List V → Hp → Prop}, ns.map some = ks.map (fun k => Z.nms[k]?) → ks.mapM (fun k => fgetW fs k) = some ws → (∀ vs, RelWs Z α H ws vs → Q vs H) → tXfs a (.ref C) (some dd) C (tVar j) ns σ H Q
  | [], [], ws, Q, _, e, q => by
    simp at e
    subst e
    exact q [] .nil
  | [], _ :: _, _, _, h, _, _ => by simp at h
  | _ :: _, [], _, _, h, _, _ => by simp at h
  | k :: ks, n :: ns, ws, Q, h, e, q => by
    simp only [List.map_cons, List.cons.injEq] at h
    rw [List.mapM_cons] at e
    cases e1 : fgetW fs k with
    | none => rw [e1] at e; cases e
    | some w =>
      rw [e1] at e
      cases e2 : ks.mapM (fun k => fgetW fs k) with
      | none => rw [e2] at e; cases e
      | some ws' =>
        rw [e2] at e
        cases e
        have hg := rf.get (k := k) (x := n) h.1.symm
        rw [e1] at hg
        obtain ⟨v, e3, r3⟩ := hg
        exact ⟨_, hσ, rfl, rfl, dd, gs, v, rfl, hd, e3, xfs_read hσ hd rf h.2 e2 fun vs rs => q _ (.cons r3 rs)⟩
theorem mapM_len {f : Nat → Option W} : ∀ {ks : List Nat} {ws : List W}, ks.mapM f = some ws → ws.length = ks.length
  | [], ws, e => by simp at e; subst e; rfl
  | k :: ks, ws, e => by
    rw [List.mapM_cons] at e
    cases e1 : f k with
    | none => rw [e1] at e; cases e
    | some w =>
      rw [e1] at e
      cases e2 : ks.mapM f with
      | none => rw [e2] at e; cases e
      | some ws' =>
        rw [e2] at e
        cases e
        simp [mapM_len e2]
theorem s_tryH {mb : S} {c : Nat} {x cn en : Str} {ns : List Str} {ks : List Nat} {j k2 : Nat} {blk : List Stmt} {es : List Expr} {p1 p2 p3 p4 p5 p6 : Pos} {jk : Nat} {more : List ExceptHandler} (hK : X.K = Z.K) (hstk : X.stack = X.env :: X.outer) (hfrm : X.env.frame = some X.env.locals) (hnd : X.N.Nodup) (hj : X.N[j]? = some en)
    (hen : X.env.kindOf en = some .local) (hcn : Names X cn (.ref (Z.γ c))) (hex : PySem.W.exmOne Z.K (.ref (Z.γ c)) (.ref (Z.γ c)) = some true) (xf : XfC Z.K (Z.γ c)) (hno : ∀ n ∈ ns, PySem.W.findIn Z.K (.ref (Z.γ c)) n = some none) (hnm : ns.map some = ks.map fun k => Z.nms[k]?) (hl : ns.length ≤ 100)
    (hed : (en == ("__debug__" : Str)) = false) (hec : (en == ("__classdict__" : Str)) = false) (hfl : Flds j en es ns) (hat : ∀ (f : Str) (p : Pos), attributeBase (.Name en p) f X.env (eval (.Name en p) X.env) = eval (.Name en p) X.env)
    (hb : ∀ (E : XK) (pl : List (Addr × Obj)) (xx : Value → Shared → Prop), Takes (X.tr pl xx) (fun cls d _ H => E cls d H) → PSs (X.tr pl xx) blk (rS Z E mb)) :
    PS X (.Try blk (.ExceptHandler (some (.Name cn p1)) (some en) [.Return (some (.Tuple (.Constant (.str x) jk p2 :: es) k2 p3)) p4] p5 :: more) [] [] p6) (rS Z B (sTryH mb (hdT c x ks))) := by
  have vis : ∀ (ad : Addr) (ob : Obj) (pl : List (Addr × Obj)) (p : Pos), PE (X.suite ad ((ad, ob) :: pl)) (.Name en p) (tVar j) := fun ad ob pl p => pe_var hj (.inl hen) hed hec
  have items : ∀ (ad : Addr) (ob : Obj) (cls : Value) (d : Option Addr) (pl : List (Addr × Obj)), Zc cls d ob → (∃ vs, ob.data = .fields vs) → ∀ {es : List Expr} {ns : List Str}, Flds j en es ns → (∀ n ∈ ns, PySem.W.findIn Z.K (.ref (Z.γ c)) n = some none) → PA (X.suite ad ((ad, ob) :: pl)) es (tXfs ad cls d (Z.γ c) (tVar j) ns) := by
    intro ad ob cls d pl hz hd es ns hf
    induction hf with
    | nil => intro _; exact pa_nil
    | @cons f p q es fs r ih =>
      intro hn
      refine pa_cons (pe_xf (hK ▸ xf) (hK ▸ hn f List.mem_cons_self) hz hd (vis ad ob pl p) (hat f p)) (ih fun n h => hn n (List.mem_cons_of_mem _ h)) rfl
  refine PS.weak (ps_try_first (rb := fun W D σ H => ∃ E : XK, (∀ cls d σ H, E cls d H → W cls d σ H) ∧ rS Z E mb D σ H) (su := fun ad cls d => tRet (tTup (tCons (tC (.str x)) (tXfs ad cls d (Z.γ c) (tVar j) ns)))) hstk hfrm hnd hj hen hcn
    (fun W pl xx tk => PSs.some fun E hE => hb E pl xx (tk.imp fun cls d σ H q => hE cls d σ H q)) fun ad ob cls d pl hz hd => pss_one (ps_ret (pe_tup (pa_cons pe_str (items ad ob cls d pl hz hd hfl hno) rfl)))) fun D σ H ⟨α, he, σw, hr, sr, g⟩ => ?_
  · refine ⟨fun cls d H1 => ∃ (α1 : List Addr) (he1 : He) (dd : Addr) (gs : List (Str × V)) (fs : List (Nat × W)) (ws : List W), cls = .ref (Z.γ c) ∧ d = some dd ∧ HR Z α1 he1 H1 ∧ H1 dd = some (.xd gs) ∧ RelF Z α1 H1 fs gs ∧ ks.mapM (fun k => fgetW fs k) = some ws ∧
      ∀ α2 H2 v, Ext α1 α2 H1 H2 → HR Z α2 he1 H2 → RelW Z α2 H2 (.tup (.str x :: ws)) v → D.rt v H2, fun cls d σ1 H1 ⟨α1, he1, dd, gs, fs, ws, e1, e2, hr1, h1, rf, hm, fin⟩ => ?_, α, he, σw, hr, sr, ?_⟩
    · subst e1; subst e2
      refine ⟨hK ▸ hex, fun hlen ad nad => ?_⟩
      have hjl : j < σ1.length := by rw [hlen]; exact (List.getElem?_eq_some_iff.mp hj).1
      refine xfs_read (Z := Z) (by rw [List.getElem?_set_self hjl]) h1 rf hnm hm fun vs rs => ?_
      have hvl : vs.length = ns.length := by
        have : ws.length = ks.length := mapM_len hm
        rw [← rs.length, this]
        have := congrArg List.length hnm
        simpa using this.symm
      refine ⟨by rw [List.length_cons, hvl, sizeLine_eq]; omega, fun p hp => ?_⟩
      have x2 : Ext α1 α1 H1 (upd H1 p (.tup (.str x :: vs))) := .fresh hp
      exact fin α1 _ _ x2 (hr1.fresh hp) (.tup (.of upd_same) (.cons (.str x) (rs.ext x2)))
    · unfold sTryH at g
      cases e1 : mb σw he with
      | bad => rw [e1] at g; exact g.elim
      | ok f h => rw [e1] at g; exact g
      | ex c' fs h =>
        rw [e1] at g
        intro α1 H1 d gs x1 hr1 hd rf
        by_cases hc : c' = c
        · subst hc
          cases e2 : ks.mapM (fun k => fgetW fs k) with
          | none => simp only [hdT, if_true, e2, Option.map_none] at g; exact g.elim
          | some ws =>
            simp only [hdT, if_true, e2, Option.map_some] at g
            exact ⟨α1, h, d, gs, fs, ws, rfl, rfl, hr1, hd, rf, e2, fun α2 H2 v x2 hr2 rv => g α2 H2 (x1.trans x2) hr2 v rv⟩
        · simp only [hdT, if_neg hc] at g; exact g.elim
end
end VE
end
section
set_option Elab.async false
set_option linter.all false
set_option autoImplicit false
set_option maxRecDepth 100000
namespace VE
open PySem PySem.Spec PyProof.Rows L2

def kvsV (kvs : List (Str × Int)) : List (Key × V) := kvs.map fun kv => (Sum.inr kv.1, V.int kv.2)
theorem val_merge (x : Str) : ∀ (kvs : List (Str × Int)) (acc : List (Key × V)), valV (mergeK acc (kvsV kvs)) (Sum.inr x) = kvs.foldl (fun o kv => if x = kv.1 then some (V.int kv.2) else o) (valV acc (Sum.inr x))
  | [], acc => rfl
  | (k, v) :: r, acc => by
    show valV (mergeK (putK acc (Sum.inr k) (V.int v)) (kvsV r)) (Sum.inr x) = _
    rw [val_merge x r, valV_put, List.foldl_cons]
    congr 1
    by_cases h : x = k
    · rw [if_pos h, if_pos (congrArg Sum.inr h)]
    · rw [if_neg h, if_neg fun z => h (Sum.inr.inj z)]
theorem fold_map (x : Str) : ∀ (kvs : List (Str × Int)) (o : Option Int), kvs.foldl (fun o kv => if x = kv.1 then some (V.int kv.2) else o) (o.map V.int) = (kvs.foldl (fun o kv => if x = kv.1 then some kv.2 else o) o).map V.int
  | [], o => rfl
  | (k, v) :: r, o => by
    rw [List.foldl_cons, List.foldl_cons, ← fold_map x r]
    congr 1
    by_cases h : x = k
    · rw [if_pos h, if_pos h]; rfl
    · rw [if_neg h, if_neg h]
section
variable {Z : Zx} {B : XK} {X : Cx} {e o a b : Expr} {es : List Expr} {pos p : Pos}
inductive Kvs : List (Option Expr) → List Expr → List (Str × Int) → List (TE × TE) → Prop
  | nil : Kvs [] [] [] []
  | cons {k : Str} {i : Int} {j1 j2 : Nat} {p1 p2 : Pos} {ks : List (Option Expr)} {vs : List Expr} {kvs : List (Str × Int)} {trs : List (TE × TE)} : Kvs ks vs kvs trs →
      Kvs (some (.Constant (.str k) j1 p1) :: ks) (.Constant (.int i) j2 p2 :: vs) ((k, i) :: kvs) ((tC (.str k), tC (.int i)) :: trs)
theorem Kvs.pps {ks : List (Option Expr)} {vs : List Expr} {kvs : List (Str × Int)} {trs : List (TE × TE)} (h : Kvs ks vs kvs trs) : PPs X pos ks vs trs ∧ ks.all (·.isSome) = true ∧ ks.length = vs.length ∧ ks.length = kvs.length := by
  induction h with
  | nil => exact ⟨pps_nil, rfl, rfl, rfl⟩
  | cons r ih => exact ⟨pps_cons pe_str pe_int ih.1, by simpa using ih.2.1, by simp [ih.2.2.1], by simp [ih.2.2.2]⟩
theorem Kvs.read {ks : List (Option Expr)} {vs : List Expr} {kvs : List (Str × Int)} {trs : List (TE × TE)} (h : Kvs ks vs kvs trs) : ∀ {σ : L2.St} {H : Hp} {Q : List (V × V) → Hp → Prop}, Q ((kvsV kvs).map fun kv => (kV kv.1, kv.2)) H → tPairs trs σ H Q := by
  induction h with
  | nil => intro σ H Q q; exact q
  | cons r ih => intro σ H Q q; exact ih q
theorem e_dg {m : E} {kvs : List (Str × Int)} {d : Int} {ks : List (Option Expr)} {vs : List Expr} {trs : List (TE × TE)} {apos dp fp : Pos} {jf : Nat} {k : Nat} (hv : Kvs ks vs kvs trs) (hr : Room k X.A) (ha : PE X e (rE Z B m)) (h0 : ks ≠ []) (h15 : ks.length ≤ 15)
    (m2 : M2 X (.Dict ks vs dp) "get" apos e (.Constant (.int d) jf fp) pos) : PE X (.Call (.Attribute (.Dict ks vs dp) "get" apos) [e, .Constant (.int d) jf fp] [] pos) (rE Z B (eDg kvs m d)) := by
  obtain ⟨pp, hall, hl, hk⟩ := hv.pps (X := X) (pos := dp)
  refine PE.weak (pe_dget2 (by have := hr.units; omega) (pe_disp pp hall hl h0 h15) ha pe_int m2) fun σ H Q ⟨α, he, σw, hr, sr, g⟩ => fun p hp => hv.read ⟨upd_same, kvsV kvs, rfl, by unfold kvsV; rw [List.length_map, ← hk]; exact h15, p, rfl, .inl ⟨_, .inl upd_same⟩, ?_⟩
  rw [upd_upd]
  have x1 : Ext α α H (upd H p (.dK (mergeK [] (kvsV kvs)))) := .fresh hp
  have hr1 := hr.fresh hp (u := .dK (mergeK [] (kvsV kvs)))
  have np := hr.out hp
  refine ⟨α, he, σw, hr1, sr.ext x1, (Got.bind (g.ext x1)).imp fun w he1 α1 H1 x2 hr2 g1 v r1 => ?_⟩
  cases r1 <;> first
    | exact g1.elim
    | skip
  rename_i x
  have hp2 : H1 p = some (.dK (mergeK [] (kvsV kvs))) := x2.keep p _ upd_same (.inl np)
  refine ⟨_, DGet.k (k := Sum.inr x) hp2, ?_⟩
  rw [val_merge x kvs []]
  show Q ((kvs.foldl (fun o kv => if x = kv.1 then some (V.int kv.2) else o) (Option.map V.int none)).getD (.int d)) H1
  rw [fold_map x kvs none]
  have e3 : ((dgetW kvs x).map V.int).getD (.int d) = .int ((dgetW kvs x).getD d) := by cases dgetW kvs x <;> rfl
  show Q (((dgetW kvs x).map V.int).getD (.int d)) H1
  rw [e3]
  exact got_val hr2 (.int _) g1
def GD (K : PySem.W.Frag) (w : World) (a : Addr) (kvs : List (Str × Int)) : Prop := ∃ es n, KDict K w a es n ∧ ∀ x, RelV (match dgetW kvs x with | some i => V.int i | none => .non) ((findBy Value.isStrOf es x).getD .none)
theorem e_gg {m : E} {kvs : List (Str × Int)} {x : Str} {a : Addr} {apos pp : Pos} (D : GD Z.K X.w a kvs) (hK : X.K = Z.K) (hm : X.mg x = some (.ref a)) (hb : PE X e (rE Z B m)) (m1 : M1 X (.Name x pp) "get" apos e pos) (hg : Gl X x := by rfl) (hdb : (x == ("__debug__" : Str)) = false := by decide) :
    PE X (.Call (.Attribute (.Name x pp) "get" apos) [e] [] pos) (rE Z B (eGg kvs m)) := by
  obtain ⟨es, n, kd, hv⟩ := D
  refine ⟨fun pins s σ H Q I ⟨α, he, σw, hr, sr, g⟩ => ?_⟩
  have hl : X.K.lookup a = some ⟨.type "dict", none, .dict es n, #[]⟩ := hK ▸ kd.at_
  refine wpAny_Call_method m1.base m1.few m1.line PySem.F.plainAttrs_dict PySem.F.slot_dict_get PySem.F.type_dict_get (ld_glob I hg hm ?_ hdb)
  refine ⟨(PySem.W.mapOf_K (prog := X.prog) (w := X.w) I.kIn hl kd.lit).typeIs, fun b q => ?_, ?_⟩
  · cases q
    exact ⟨_, I.kIn _ _ hl, rfl⟩
  rw [m1.trees]
  refine Calls.callWith_builtin rfl (Calls.evalArgs_plain (Calls.spliced_cons (thn (hb.run pins s σ H (fun y H2 => ∃ z : Str, y = .str z ∧ Q (match dgetW kvs z with | some i => V.int i | none => .non) H2) I
    ⟨α, he, σw, hr, sr, (Got.bind g).imp fun w he1 α1 H1 x1 hr1 g1 v r1 => ?_⟩) fun iv s2 ⟨y, H2, I2, ry, z, ey, q2⟩ => Calls.spliced_nil ?_)))
  · cases r1 <;> first
      | exact g1.elim
      | skip
    rename_i z
    refine ⟨z, rfl, ?_⟩
    have g1 : Got Z B α1 H1 (.ok (match dgetW kvs z with | some i => W.int i | none => .non) he1) (fun w he' α' H' => ∀ v, RelW Z α' H' w v → Q v H') := g1
    cases e1 : dgetW kvs z with
    | none => rw [e1] at g1; exact Got.now (X := B) g1 hr1 _ .non
    | some i => rw [e1] at g1; exact Got.now (X := B) g1 hr1 _ (.int _)
  · subst ey
    obtain ⟨t, rfl⟩ := ry
    exact call_meetsIn PySem.F.slot_dict_get (PySem.W.mapOf_K (prog := X.prog) (w := X.w) I2.kIn hl kd.lit).typeIs PySem.F.entry_dict_get (PySem.F.args_dict_get_2 _ _) (meets_dict_get (strKind X.prog X.w) a (strKind_is X.prog X.w z t) kd.low)
      ⟨_, PySem.W.mapOf_K (prog := X.prog) (w := X.w) I2.kIn hl kd.lit, _, H2, I2.tok _, hv z, q2⟩
end
end VE
end
section
set_option Elab.async false
set_option linter.all false
set_option autoImplicit false
set_option maxRecDepth 100000
namespace VE
open PySem PySem.Spec PyProof.Rows L2

def permW (ps : List Nat) (ws : List W) : List W := ps.map fun i => ws.getD i .non
def permV (ps : List Nat) (ws : List V) : List V := ps.map fun i => ws.getD i .non
def permU (ps : List Nat) (ws : List Value) : List Value := ps.map fun i => ws.getD i .none
theorem vals_getD : ∀ {vs : List V} {us : List Value} (i : Nat), Vals vs us → RelV (vs.getD i .non) (us.getD i .none)
  | _, _, _, .nil => rfl
  | _, _, 0, .cons r _ => r
  | _, _, i + 1, .cons _ t => vals_getD i t
theorem vals_perm {vs : List V} {us : List Value} (r : Vals vs us) : ∀ ps : List Nat, Vals (permV ps vs) (permU ps us)
  | [] => .nil
  | p :: ps => .cons (vals_getD p r) (vals_perm r ps)
section
variable {Z : Zx} {α : List Addr} {H : Hp}
theorem rel_getD : ∀ {ws : List W} {vs : List V} (i : Nat), RelWs Z α H ws vs → RelW Z α H (ws.getD i .non) (vs.getD i .non)
  | _, _, _, .nil => .non
  | _, _, 0, .cons r _ => r
  | _, _, i + 1, .cons _ t => rel_getD i t
theorem rel_perm {ws : List W} {vs : List V} (r : RelWs Z α H ws vs) : ∀ ps : List Nat, RelWs Z α H (permW ps ws) (permV ps vs)
  | [] => .nil
  | p :: ps => .cons (rel_getD p r) (rel_perm r ps)
end
structure GFK (P : Program) (w : World) (Z : Zx) (mg : Str → Option Value) (base : Heap) (k : Nat) (at_ : Str × Option Str) (ks : List Str) (perm : List Nat) (m : F) : Prop where
  mk' ::
  ex : ∃ fd ps, FnOk P w Z.K mg base (CX P w) k (He.fAd Z.K at_) fd ps (rF Z perm.length m) ∧ ∀ (s : Shared) (ws : List Value), ws.length = ks.length → BindsTo s fd ⟨[], ks.zip ws⟩ (ps.zip (permU perm ws))
  kp : PySem.W.keepIn Z.K (.ref (He.fAd Z.K at_)) = true
theorem FunD.byNames {K : PySem.W.Frag} {x qual : Str} {params : Arguments} {body : List Stmt} {scope : Scope} {kws : List (Str × V)} {f : Addr} {fd : FuncData} {ps ks : List Str} {perm : List Nat} (F : FunD K x qual params body scope [] kws f fd)
    (h : ∀ (kV doc pm : Value) (an : Option Addr) (cdv ct : Value) (us : List Value), us.length = ks.length → bindArgs (PySem.W.fnOf x qual params body scope .none kV doc pm an cdv ct) ⟨[], ks.zip us⟩ = pure (ps.zip (permU perm us))) (s : Shared) (us : List Value) (hl : us.length = ks.length) :
    BindsTo s fd ⟨[], ks.zip us⟩ (ps.zip (permU perm us)) := by
  obtain ⟨oc, od, dV, kV, doc, pm, an, cdv, ct, osl, rfl, lk, hcd, hD, hK⟩ := F.ex
  rcases hD with ⟨_, rfl⟩ | ⟨e, _⟩
  · exact .of_eq (h kV doc pm an cdv ct us hl)
  · exact absurd rfl e
theorem GFK.mk {P : Program} {w : World} {Z : Zx} {mg : Str → Option Value} {base : Heap} {k : Nat} {at_ : Str × Option Str} {ks : List Str} {perm : List Nat} {m : F} (fd : FuncData) (ps : List Str) (a : FnOk P w Z.K mg base (CX P w) k (He.fAd Z.K at_) fd ps (rF Z perm.length m))
    (b : ∀ (s : Shared) (ws : List Value), ws.length = ks.length → BindsTo s fd ⟨[], ks.zip ws⟩ (ps.zip (permU perm ws))) (kp : PySem.W.keepIn Z.K (.ref (He.fAd Z.K at_)) = true) : GFK P w Z mg base k at_ ks perm m := ⟨⟨fd, ps, a, b⟩, kp⟩
section
variable {Z : Zx} {B : XK} {X : Cx} {e : Expr} {kws : List Keyword} {pos : Pos} {m : F} {ms : ES} {k : Nat}
theorem k_nil : PK X [] (rA Z B esN) := ⟨fun pos pins s σ H Q I ⟨α, he, σw, hr, sr, g⟩ => pk_nil.run pos pins s σ H Q I (g α H .refl hr _ .nil)⟩
theorem k_cons {me : E} {nm : Option Str} {kp : Pos} (ha : PE X e (rE Z B me)) (hb : PK X kws (rA Z B ms)) : PK X (⟨nm, e, kp⟩ :: kws) (rA Z B (esC me ms)) :=
  ⟨fun pos pins s σ H Q I ⟨α, he, σw, hr, sr, g⟩ => (pk_cons ha hb).run pos pins s σ H Q I ⟨α, he, σw, hr, sr, (Got.bind g).imp fun w he1 α1 H1 x1 hr1 g1 v r =>
    ⟨α1, he1, σw, hr1, sr.ext x1, (Got.bind g1).imp fun ws he2 α2 H2 x2 hr2 g2 vs rs => g2 α2 H2 .refl hr2 _ (.cons (r.ext x2) rs)⟩⟩⟩
theorem e_callK {x : Str} {pp : Pos} {ks : List Str} {perm : List Nat} (F : GFK X.prog X.w Z X.mg X.base k (x, none) ks perm m) (hr : Room k X.A) (hK : X.K = Z.K) (hm : X.mg x = some (.ref (He.ga Z.K x))) (hx : Passes (CX X.prog X.w) X B) (hk : PK X kws (rA Z B ms)) (hl : Ln ms ks.length) (hg : Gl X x := by rfl)
    (hdb : (x == ("__debug__" : Str)) = false := by decide) (hall : (backToKw pos (keywordEach kws X.env)).all (·.1.isSome) = true := by rfl) (hks : (backToKw pos (keywordEach kws X.env)).filterMap (·.1) = ks := by rfl)
    (hpl : ((backTo pos (starEach [] X.env)).any (·.1) || (backToKw pos (keywordEach kws X.env)).any (·.1.isNone)) = false := by rfl) :
    PE X (.Call (.Name x pp) [] kws pos) (rE Z B (eCallK perm m ms)) := by
  obtain ⟨⟨fd, ps, G, b⟩, kp⟩ := F
  rw [← hK] at G kp hm
  refine ⟨fun pins s σ H Q I ⟨α, he, σw, hr0, sr, g⟩ => ?_⟩
  refine wpAny_Call_Name_kw (ld_glob I hg hm ?_ hdb)
  have g := Got.bind g
  refine PySem.W.callWith_KW0 (h₀ := X.base) I.ok.mod.kin kp hall (thn (hk.run pos pins s σ H (fun vs H1 => vs.length = ks.length ∧ rF Z perm.length m (permV perm vs) H1 Q B) I ⟨α, he, σw, hr0, sr, ?_⟩) fun ws s2 ⟨zs, H2, I2, rz, l, q2⟩ => ⟨I2.kIn, ?_⟩) hpl
  · cases e1 : ms σw he with
    | bad => rw [e1] at g; exact g.elim
    | ex c fs h => rw [e1] at g; exact g
    | ok ws he1 =>
      rw [e1] at g
      intro α1 H1 x1 hr1 vs rs
      refine ⟨by rw [← rs.length]; exact hl _ _ _ _ e1, α1, he1, permW perm ws, hr1, rel_perm rs perm, by simp [permW], g α1 H1 x1 hr1⟩
  · rw [hks]
    have r2 := vals_perm rz perm
    refine wpAny_call (codeAny_mono (G.run X.A X.stack s2 H2 ⟨[], ks.zip ws⟩ (permU perm ws) (permV perm zs) Q B hr I2.env0 (b s2 ws (by rw [← rz.length]; exact l)) r2 q2) fun r s' hq => ?_)
    cases r with
    | error z => exact hx pins σ H2 s2 z s' I2 hq
    | ok fl =>
      cases fl with
      | ret u => exact I2.after hq
      | next => exact False.elim hq
      | brk => exact False.elim hq
      | cont => exact False.elim hq
end
end VE
end
section
set_option Elab.async false
set_option linter.all false
set_option autoImplicit false
set_option maxRecDepth 100000
set_option maxHeartbeats 2000000
namespace VE
open PySem PySem.Spec PyProof.Rows L2

theorem raw_tup {X : Cx} {s : Shared} {a : Addr} {ob : Obj} {its : List Value} {c : Nat} {i : Int} {t : Tok} {j : Nat} {w : Value} {value slice : Expr} {Q E : Value → Shared → Prop} (h : s.heap.get? a = some ob) (hc : ob.cls = .type "tuple") (hd : ob.data = .seq its.toArray c)
    (hj : seqIndex? i its.length = some j) (hw : its[j]? = some w) (lo : -(2 ^ 63) ≤ i) (hi : i < 2 ^ 63) (hs : subscripted slice false (.ref a) (.int i t) = operate [.ref a, .int i t] (getItem (.ref a) (.int i t))) (q : Q w s) :
    wpAny (model X.prog X.w) X.A (subscriptTail value slice (.ref a) (.int i t)) Q E s := by
  have pl : IsTup s.heap a its.toArray := ⟨ob, h, hc, c, hd⟩
  exact subscriptTail_builtinR (x := w) pl.typeIs slot_tuple_getitem.lookup (getItem_tuple (j := j) (Q := fun r s' => r = w ∧ Q r s') pl lo hi (by simpa using hj) (by simpa using hw) ⟨rfl, q⟩) hs
def OfRun (P : Program) (w : World) (Z : Zx) (mg : Str → Option Value) (base : Heap) (k : Nat) (at_ : Str × Option Str) (m : F) : Prop :=
  ∀ (A : Around) (outer : List Env) (s : Shared) (H : Hp) (ut : Value) (vt : V) (a : Addr) (ob : Obj) (its : List Value) (xs : List V) (c : Nat) (Q : VK) (E : XK), Room k A → Env0 P w Z.K mg base A outer s H → RelV vt ut → H a = some (.frz ob (.tup xs)) → ob.cls = .type "tuple" → ob.data = .seq its.toArray c → Vals xs its → its.length ≤ 1000 →
    rF Z 2 m [vt, .ref a] H Q E → codeAny (model P w) A (.call (.ref (He.fAd Z.K at_)) ⟨[ut, .ref a], []⟩) (fun r s' => CR (CX P w) outer P w H s Q E r s' ∧ ∀ u, r = .ok (.ret u) → u ∈ its) s
theorem of_run {P : Program} {w : World} {Z : Zx} {mg : Str → Option Value} {base : Heap} {k : Nat} {at_ : Str × Option Str} {name qual x0 x1 : Str} {params : Arguments} {body : List Stmt} {scope : Scope} {fd : FuncData} {idx : Expr} {p1 p2 p3 : Pos} {mI : E}
    (F : FunD Z.K name qual params body scope [] [] (He.fAd Z.K at_) fd) (hbd : body = [.Return (some (.Subscript (.Name x1 p1) idx p2)) p3]) (S : FnScope [x0, x1] [x0, x1] scope)
    (hb : ∀ (kV doc pm : Value) (an : Option Addr) (cdv ct : Value) (us : List Value), us.length = 2 → bindArgs (PySem.W.fnOf name qual params body scope .none kV doc pm an cdv ct) ⟨us, []⟩ = pure ([x0, x1].zip us))
    (hv : Vis scope x1) (hs : PlainIx idx) (hd : (x1 == ("__debug__" : Str)) = false) (hcd : (x1 == ("__classdict__" : Str)) = false)
    (hidx : ∀ (cdv : Value) (A : Around) (outer : List Env) (s : Shared) (H : Hp) (E : XK), Room k (A.deeper (envOfC qual scope s.heap.objs.size (He.fAd Z.K at_) cdv)) → PE (cxOf (CX P w) P w Z.K mg base [x0, x1] qual scope (He.fAd Z.K at_) cdv A outer s H E) idx (rE Z E mI)) :
    OfRun P w Z mg base (k + 1) at_ (fn 2 2 (sRet (eIx (eV 1) mI))) := by
  intro A outer s H ut vt a ob its xs c Q E hr e0 rt ha hc hdt rx hlen hsp
  subst hbd
  have bA := FunD.bindsA (ps := [x0, x1]) F hb
  obtain ⟨oc, od, dV, kV, doc, pm, an, cdv, ct, osl, rfl, lk, hcdv, hD, hK⟩ := F.ex
  have KX : Z.K.In s.heap := e0.mod.kin.keeps fun b o e => (e0.bs b o e).1
  have lim : s.heap.NoLimit := e0.mod.nolimit.keeps fun b o e => (e0.bs b o e).1
  have hkind : ∀ y ∈ [x0, x1].zip [ut, Value.ref a], scope.names.lookup y.1 = some .local ∨ (scope.names.lookup y.1 = some .cell ∧ ((cellsFrom (s.heap.objs.size + 1) scope.names []).lookup y.1).isSome = true) := fun ⟨n, v⟩ hy => by
    rcases S.par n (List.of_mem_zip hy).1 with q | q
    · exact .inl q
    · exact .inr ⟨q, PySem.W.cellsFrom_some _ _ _ (.inl q)⟩
  refine codeAny_call_function hr.depth (KX _ _ lk) rfl S.co S.gen rfl (PySem.W.codeRec_of KX hcdv) (bA s [ut, .ref a] rfl _ _ _ _ ?_)
  refine wpAny_newFunctionEnv_cells S.kind hkind fun env he s1 xx => ?_
  subst he
  refine ⟨lim.keeps xx.toInCall.keep, codeAny_func ?_⟩
  have rv : Vals [vt, V.ref a] [ut, Value.ref a] := .cons rt (.cons rfl .nil)
  have I : Inv (cxOf (CX P w) P w Z.K mg base [x0, x1] qual scope (He.fAd Z.K at_) cdv A outer s H E) [] (start [x0, x1] [vt, .ref a]) H s1 := inv_start S hr.hd e0 rfl rv xx
  have st : rS Z E (sRet (eIx (eV 1) mI)) { nx := fun _ H' => Q .non H', rt := Q } (start [x0, x1] [vt, .ref a]) H := rF_start hsp
  have main : wpAny (model P w) (cxOf (CX P w) P w Z.K mg base [x0, x1] qual scope (He.fAd Z.K at_) cdv A outer s H E).A (execs [.Return (some (.Subscript (.Name x1 p1) idx p2)) p3] (envOfC qual scope s.heap.objs.size (He.fAd Z.K at_) cdv))
      (fun fl s' => SP (cxOf (CX P w) P w Z.K mg base [x0, x1] qual scope (He.fAd Z.K at_) cdv A outer s H E) [] { nx := fun _ H' => Q .non H', rt := Q } fl s' ∧ ∃ u, fl = .ret u ∧ u ∈ its) (cxOf (CX P w) P w Z.K mg base [x0, x1] qual scope (He.fAd Z.K at_) cdv A outer s H E).xe s1 := by
    obtain ⟨α, hh, σw, hr1, sr, g⟩ := st
    have g1 := Got.bind (Got.bind g)
    cases e1 : σw[1]? with
    | none => simp only [eV, e1] at g1; exact g1.elim
    | some o1 =>
      cases o1 with
      | none => simp only [eV, e1] at g1; exact g1.elim
      | some wx =>
        simp only [eV, e1] at g1
        obtain ⟨v1, e2, r1⟩ := sr.at_ 1 wx e1
        have e3 : v1 = V.ref a := by
          have e4 : (start [x0, x1] [vt, V.ref a])[1]? = some (some (V.ref a)) := rfl
          rw [e4] at e2
          cases e2; rfl
        subst e3
        have g3 := Got.bind (Got.now (X := E) g1 hr1)
        refine wpAny_execs_cons (wpAny_Return_some (Subscript_ (raw_name (i := 1) rfl hv I rfl (fun v r => ?_) hd hcd)))
        have ev : v = Value.ref a := r
        subst ev
        refine thn ((hidx cdv A outer s H E (hr.deeper _)).run [] s1 _ H (fun y H2 => ∃ (i : Int) (xv : V), y = .int i ∧ atI xs i = some xv ∧ Q xv H2) I ⟨α, hh, σw, hr1, sr, g3.imp fun y he2 α2 H2 x2 hr2 g4 v2 r2 => ?_⟩) fun iv s2 ⟨y, H2, I2, ry, i, xv, ey, hxv, hQ⟩ => ?_
        · have fz : H2 a = some (.frz ob (.tup xs)) := x2.keep a _ ha (.inr fun z => z)
          cases r2 <;> first
            | exact g4.elim
            | skip
          rename_i i
          obtain ⟨w2, e5, g5⟩ := Got.lift g4 hr2
          have g6 := Got.now (X := E) g5 hr2
          have g7 : ∀ v, RelW Z α2 H2 w2 v → Q v H2 := g6
          have r3 := r1.ext x2
          cases r3 with
          | tup q1 q2 =>
            rename_i ws vs
            have evs : vs = xs := by
              rcases q1 with (q | ⟨o, q⟩) | ⟨o, its2, n2, q, _⟩
              · rw [fz] at q; cases q
              · rw [fz] at q; cases q; rfl
              · have hb2 := (I.bs a o (e0.mod.kin _ _ q)).2
                rw [ha] at hb2; cases hb2
            subst evs
            obtain ⟨xv, e6, r6⟩ := q2.at_ (show atW ws i = some w2 from e5)
            exact ⟨i, xv, rfl, e6, g7 _ r6⟩
          | kl q =>
            obtain ⟨o, its2, n2, q, _⟩ := q
            have hb2 := (I.bs a o (e0.mod.kin _ _ q)).2
            rw [ha] at hb2; cases hb2
          | ref q1 =>
            rename_i i2
            have e5 : (seqOf he2 (.ref i2)).bind (fun xs => atW xs i) = some w2 := e5
            cases e7 : he2[i2]? with
            | none => simp [seqOf, lstOf, e7] at e5
            | some ob2 =>
              have o2 := hr2.obj i2 ob2 a e7 q1
              cases ob2 with
              | lst zs => obtain ⟨vs, q, _⟩ := o2; rw [fz] at q; cases q
              | ro zs =>
                obtain ⟨vs, q, _⟩ := o2
                rcases q with q | ⟨o, q⟩
                · rw [fz] at q; cases q
                · rw [fz] at q; cases q
              | ins c fs => simp [seqOf, lstOf, e7] at e5
        · subst ey
          obtain ⟨t, rfl⟩ := ry
          obtain ⟨j, h1, h2, h3, h4, h5⟩ := atI_get hxv
          obtain ⟨wv, e8, rw8⟩ := rx.get h2
          have hlx := rx.length
          have fz : H2 a = some (.frz ob (.tup xs)) := I2.base.frzs a ob _ ha
          have hget := (I2.hok a _ fz).1
          exact raw_tup (X := cxOf (CX P w) P w Z.K mg base [x0, x1] qual scope (He.fAd Z.K at_) cdv A outer s H E) hget hc hdt (by rw [← hlx]; exact h1) e8 (by omega) (by omega) (hs _ _) ⟨⟨xv, _, H2, I2, rw8, hQ⟩, wv, rfl, List.mem_of_getElem? e8⟩
  refine wpAny_mono main (fun fl s' hs => ?_) fun e s' hs => wpAny_mono hs (fun _ _ q => ⟨q, fun _ z => nomatch z⟩) (fun _ _ q => ⟨q, fun _ z => nomatch z⟩)
  have fin : ∀ {σ' : L2.St} {H' : Hp} {v : V} {u : Value}, Inv (cxOf (CX P w) P w Z.K mg base [x0, x1] qual scope (He.fAd Z.K at_) cdv A outer s H E) [] σ' H' s' → RelV v u → Q v H' → CE outer P w H s Q u s' :=
    fun {σ' H' v u} J rv q => ⟨v, H', J.os, J.bare, J.base, J.hok, rv, q⟩
  obtain ⟨hs, raw⟩ := hs
  cases fl with
  | ret u =>
    obtain ⟨v, σ', H', J, rv, q⟩ := hs
    exact ⟨fin J rv q, fun u' e => by
      obtain ⟨u2, e2, m2⟩ := raw
      cases e; cases e2; exact m2⟩
  | next =>
    obtain ⟨u2, e2, _⟩ := raw
    cases e2
  | brk =>
    obtain ⟨_, _, _, q⟩ := hs
    exact False.elim q
  | cont =>
    obtain ⟨_, _, _, q⟩ := hs
    exact False.elim q
end VE
end
section
set_option Elab.async false
set_option linter.all false
set_option autoImplicit false
set_option maxRecDepth 100000
set_option maxHeartbeats 2000000
namespace VE
open PySem PySem.Spec PyProof.Rows L2

inductive Cst : List Expr → List Str → ES → Prop
  | nil : Cst [] [] esN
  | cons {c : Str} {j : Nat} {p : Pos} {es : List Expr} {cs : List Str} {m : ES} : Cst es cs m → Cst (.Constant (.str c) j p :: es) (c :: cs) (esC (eK (.str c)) m)
def cstV : List Str → Nat → List Value
  | [], _ => []
  | c :: cs, n => .str c n :: cstV cs (n + 1)
theorem cstV_len : ∀ (cs : List Str) (n : Nat), (cstV cs n).length = cs.length
  | [], _ => rfl
  | _ :: cs, n => congrArg (· + 1) (cstV_len cs (n + 1))
theorem cstV_rel : ∀ (cs : List Str) (n : Nat), Vals (cs.map V.str) (cstV cs n)
  | [], _ => .nil
  | _ :: cs, n => .cons ⟨_, rfl⟩ (cstV_rel cs (n + 1))
theorem cstV_mem : ∀ {cs : List Str} {n : Nat} {u : Value}, u ∈ cstV cs n → ∃ c t, u = .str c t ∧ n ≤ t
  | [], _, _, h => nomatch h
  | c :: cs, n, u, h => by
    rcases List.mem_cons.mp h with e | h
    · exact ⟨c, n, e, Nat.le_refl _⟩
    · obtain ⟨c', t, e, l⟩ := cstV_mem h
      exact ⟨c', t, e, by omega⟩
section
variable {Z : Zx} {B : XK} {X : Cx}
theorem cst_ev {es : List Expr} {cs : List Str} {m : ES} (h : Cst es cs m) : ∀ (σ : Sg) (he : He), m σ he = .ok (cs.map W.str) he := by
  induction h with
  | nil => intro σ he; rfl
  | cons _ ih => intro σ he; simp [esC, eK, ih]
theorem cst_run {es : List Expr} {cs : List Str} {m : ES} (h : Cst es cs m) : ∀ {pos : Pos} {s : Shared} {Q : List Value → Shared → Prop} {E : Value → Shared → Prop}, Q (cstV cs s.toks) { s with toks := s.toks + cs.length } → wpAny (model X.prog X.w) X.A (spliced (backTo pos (starEach es X.env))) Q E s := by
  induction h with
  | nil => intro pos s Q E q; exact Calls.spliced_nil q
  | @cons c j p es cs m _ ih =>
    intro pos s Q E q
    show wpAny _ _ (spliced ((false, eval (.Constant (.str c) j p) X.env) :: backTo pos (starEach es X.env))) _ _ s
    refine Calls.spliced_cons (Calls.Constant_str (ih ?_))
    have e : ({ s with toks := s.toks + 1 + cs.length } : Shared) = { s with toks := s.toks + (cs.length + 1) } := by congr 1; omega
    show Q (.str c s.toks :: cstV cs (s.toks + 1)) { s with toks := s.toks + 1 + cs.length }
    rw [e]; exact q
theorem e_repOf {k : Nat} {m : F} {mt : ES} {y kx tx fx : Str} {ik it : Nat} {es : List Expr} {cs : List Str} {kk j0 : Nat} {p1 p2 p3 p4 apos tp cp pos : Pos} (F : OfRun X.prog X.w Z X.mg X.base k (fx, none) m) (kp : PySem.W.keepIn Z.K (.ref (He.ga Z.K fx)) = true) (hr : Room k X.A) (hK : X.K = Z.K) (hm : X.mg fx = some (.ref (He.ga Z.K fx))) (hx : Passes (CX X.prog X.w) X B)
    (hnb : ∀ h : Heap, Z.K.In h → NoneBooked h) (hc : Cst es cs mt) (hl : cs.length ≤ 1000) (hNk : X.N[ik]? = some kx) (hvk : Vis X.env.scope kx) (hNt : X.N[it]? = some tx) (hvt : Vis X.env.scope tx) (hg : Gl X fx := by rfl)
    (hdk : (kx == ("__debug__" : Str)) = false := by decide) (hck : (kx == ("__classdict__" : Str)) = false := by decide) (hdt : (tx == ("__debug__" : Str)) = false := by decide) (hct : (tx == ("__classdict__" : Str)) = false := by decide) (hdf : (fx == ("__debug__" : Str)) = false := by decide)
    (hst : starEach [.Constant (.str y) j0 cp, .Call (.Name fx p2) [.Name tx p3, .Tuple es kk tp] [] p4] X.env = [(false, eval (.Constant (.str y) j0 cp) X.env), (false, eval (.Call (.Name fx p2) [.Name tx p3, .Tuple es kk tp] [] p4) X.env)] := by rfl)
    (hbase : attributeBase (.Name kx p1) "replace" X.env (eval (.Name kx p1) X.env) = eval (.Name kx p1) X.env := by rfl) (hline : (apos.endLine == pos.line) = true := by rfl) :
    PET X (.Call (.Attribute (.Name kx p1) "replace" apos) [.Constant (.str y) j0 cp, .Call (.Name fx p2) [.Name tx p3, .Tuple es kk tp] [] p4] [] pos) (rE Z B (eBmS mReplace (eV ik) (esC (eK (.str y)) (esC (eCall m (esC (eV it) (esC (eTup mt) esN))) esN)))) := by
  intro pins s σ H Q h0 I ⟨α, he, σw, hr1, sr, g⟩
  have g1 := Got.bind g
  cases e1 : σw[ik]? with
  | none => simp only [eV, e1] at g1; exact g1.elim
  | some o1 =>
  cases o1 with
  | none => simp only [eV, e1] at g1; exact g1.elim
  | some wx =>
  simp only [eV, e1] at g1
  have g2 := Got.now (X := B) g1 hr1
  obtain ⟨vx, ex, rx⟩ := sr.at_ ik wx e1
  cases rx with
  | str x =>
    have g3 : Got Z B α H (((esC (eK (.str y)) (esC (eCall m (esC (eV it) (esC (eTup mt) esN))) esN)) σw he).bind fun ws h => mReplace (W.str x :: ws) h) (QE Z Q) := g2
    cases e2 : σw[it]? with
    | none => simp only [esC, eK, eCall, eV, e2, Rs.bind_ok, Rs.bind_bad] at g3; exact g3.elim
    | some o2 =>
    cases o2 with
    | none => simp only [esC, eK, eCall, eV, e2, Rs.bind_ok, Rs.bind_bad] at g3; exact g3.elim
    | some wt =>
    obtain ⟨vt, et, rt⟩ := sr.at_ it wt e2
    have hl2 : (cs.map W.str).length ≤ 1000 := by rw [List.length_map]; exact hl
    simp only [esC, eK, eCall, eV, e2, eTup, esN, cst_ev hc, Rs.bind_ok, if_pos hl2] at g3
    rw [Rs.bind_assoc] at g3
    have g4 := Got.bind (Got.bind g3)
    refine PySem.Call_method2 hbase hst hline (raw_name (i := ik) hNk hvk I ex (fun v r => ?_) hdk hck)
    obtain ⟨tkx, rfl⟩ := r
    refine ⟨"str", _, PySem.F.plainAttrs_str, PySem.F.slot_str_replace, PySem.F.type_str_replace, typeIs_str _ _ _, (fun _ e => nomatch e), Calls.callWith_builtin rfl (Calls.evalArgs_plain (Calls.spliced_cons (Calls.Constant_str (Calls.spliced_cons ?_))))⟩
    have kp2 : PySem.W.keepIn X.K (.ref (He.ga Z.K fx)) = true := by rw [hK]; exact kp
    refine wpAny_Call_Name_kw (ld_glob (I.tok _) hg hm ?_ hdf)
    refine PySem.W.callWith_K (h₀ := X.base) I.ok.mod.kin kp2 ?_ rfl rfl
    show wpAny _ _ (spliced ((false, eval (.Name tx p3) X.env) :: backTo p4 (starEach [.Tuple es kk tp] X.env))) _ _ _
    refine Calls.spliced_cons (raw_name (i := it) hNt hvt (I.tok (s.toks + 1)) et (fun ut rut => ?_) hdt hct)
    show wpAny _ _ (spliced ((false, eval (.Tuple es kk tp) X.env) :: backTo p4 (starEach [] X.env))) _ _ _
    have hls : (cstV cs (s.toks + 1)).length ≤ sizeLine := by rw [cstV_len]; exact small1000 hl
    refine Calls.spliced_cons (wpAny_Tuple_spliced (cst_run hc ⟨hls, Calls.spliced_nil ?_⟩))
    have hn : H s.heap.objs.size = none := I.hok.fresh (Nat.le_refl _)
    have hgo : (s.heap.push { cls := .type "tuple", data := .seq (cstV cs (s.toks + 1)).toArray }).get? s.heap.objs.size = some { cls := .type "tuple", data := .seq (cstV cs (s.toks + 1)).toArray } := Heap.get?_push_size _ rfl
    have hlv : (cs.map V.str).length ≤ sizeLine := by rw [List.length_map]; exact small1000 hl
    have I3 : Inv X pins σ (upd H s.heap.objs.size (.frz { cls := .type "tuple", data := .seq (cstV cs (s.toks + 1)).toArray } (.tup (cs.map V.str)))) { s with heap := s.heap.push { cls := .type "tuple", data := .seq (cstV cs (s.toks + 1)).toArray }, toks := s.toks + 1 + cs.length } :=
      I.laid (t' := s.toks + 1 + cs.length) (fun b u e => Heap.get?_push_of_some _ e) (Nat.le_refl _) ⟨hgo, hlv, cstV cs (s.toks + 1), cstV_rel cs _, ⟨_, hgo, rfl, 0, rfl⟩⟩
    have x1 : Ext α α H (upd H s.heap.objs.size (.frz { cls := .type "tuple", data := .seq (cstV cs (s.toks + 1)).toArray } (.tup (cs.map V.str)))) := .fresh hn
    have hsp : rF Z 2 m [vt, .ref s.heap.objs.size] (upd H s.heap.objs.size (.frz { cls := .type "tuple", data := .seq (cstV cs (s.toks + 1)).toArray } (.tup (cs.map V.str)))) (fun v H' => ∃ c2, v = .str c2 ∧ (x.length ≤ 100000 ∧ c2.length ≤ 100 ∧ y.length = 1) ∧ Q (.str (Txt.replace x y c2)) H') B :=
      ⟨α, he, [wt, .tup (cs.map W.str)], hr1.fresh hn, .cons (rt.ext x1) (.cons (.tup (.inl (.inr ⟨_, upd_same⟩)) (RelWs.ofStrs cs)) .nil), rfl, (g4.ext x1).imp fun w he2 α2 H2 x2 hr2 g5 v rv => by
        have g5 := Got.now (X := B) g5 hr2
        cases rv with
        | str c2 =>
          have g6 : Got Z B α2 H2 (mReplace [.str x, .str y, .str c2] he2) (QE Z Q) := g5
          unfold mReplace at g6
          by_cases z : x.length ≤ 100000 ∧ c2.length ≤ 100 ∧ y.length = 1
          · simp only [if_pos z] at g6
            exact ⟨c2, rfl, z, Got.now (X := B) g6 hr2 _ (.str _)⟩
          · simp only [if_neg z] at g6; exact g6.elim
        | _ => exact False.elim (show Got Z B α2 H2 (.bad : Rs W) (QE Z Q) from g5)⟩
    have e0 : Env0 X.prog X.w Z.K X.mg X.base X.A X.stack { s with heap := s.heap.push { cls := .type "tuple", data := .seq (cstV cs (s.toks + 1)).toArray }, toks := s.toks + 1 + cs.length } _ := hK ▸ I3.env0
    refine ⟨I3.kIn, wpAny_call (codeAny_mono (F X.A X.stack _ _ ut vt s.heap.objs.size _ (cstV cs (s.toks + 1)) (cs.map V.str) 0 _ B hr e0 rut upd_same rfl rfl (cstV_rel cs _) (by rw [cstV_len]; exact hl) hsp) fun r s' ⟨hq, raw⟩ => ?_)⟩
    cases r with
    | error e => exact hx pins σ _ _ e s' I3 hq
    | ok fl =>
      cases fl with
      | ret u =>
        obtain ⟨v, H', I4, rv, c2, ev, ⟨z1, z2, z3⟩, hQ⟩ := I3.after hq
        subst ev
        obtain ⟨t2, rfl⟩ := rv
        obtain ⟨c, t, e, le⟩ := cstV_mem (raw _ rfl)
        cases e
        refine Calls.spliced_nil ?_
        have hb2 : (x.length + 1) * c2.length ≤ 100001 * 100 := Nat.mul_le_mul (by omega) z2
        exact PySem.SC.replaceA (by show s.toks ≠ 0; omega) (Nat.ne_of_gt (Nat.lt_of_lt_of_le (Nat.succ_pos _) le)) (Nat.ne_of_lt (Nat.lt_of_succ_le le)) (by omega) (fun t' k => ⟨.str (Txt.replace x y c2), H', I4.tok k, ⟨t', rfl⟩, hQ⟩) (hnb _ (hK ▸ I4.kIn))
      | next => exact False.elim hq
      | brk => exact False.elim hq
      | cont => exact False.elim hq
  | _ => exact False.elim (show Got Z B α H (.bad : Rs W) (QE Z Q) from g2)
theorem pe_addT {r1 r2 : R2} {o1 o2 : Operator} {c : Str} {j : Nat} {b R : Expr} {tb tR : TE} {p q1 q2 : Pos} (h1 : OpR X (binaryOp o1) r1) (h2 : OpR X (binaryOp o2) r2) (hb : PE X b tb) (hR : PET X R tR) :
    PE X (.BinOp (.BinOp (.Constant (.str c) j p) o1 b q1) o2 R q2) (tOp r2 (tOp r1 (tC (.str c)) tb) tR) := by
  refine ⟨fun pins s σ H Q I h => wpAny_BinOp ?_⟩
  have step : wpAny (model X.prog X.w) X.A (eval (.BinOp (.Constant (.str c) j p) o1 b q1) X.env) (fun v s1 => 1 ≤ s1.toks ∧ L2.EP X pins σ (fun x H1 => tR σ H1 fun y H2 => r2 x y H2 Q) v s1) X.xe s := by
    refine wpAny_BinOp (Calls.Constant_str ?_)
    have up : 1 ≤ ({ s with toks := s.toks + 1 } : Shared).toks := Nat.succ_le_succ (Nat.zero_le _)
    refine wpAny_mono (PySem.wpAny_toks_of up (hb.run pins { s with toks := s.toks + 1 } σ H _ (I.tok _) h)) (fun u s2 ⟨k2, y, H2, I2, ry, q⟩ => ?_) fun _ _ z => z.2
    exact wpAny_mono (PySem.wpAny_toks_of k2 (h1 pins s2 σ H2 (.str c) y _ u _ I2 ⟨_, rfl⟩ ry q)) (fun _ _ z => z) fun _ _ z => z.2
  exact wpAny_mono step (fun v s1 ⟨k1, x, H1, I1, rx, q⟩ => thn (hR pins s1 σ H1 _ k1 I1 q) fun u s2 ⟨y, H2, I2, ry, q2⟩ => h2 pins s2 σ H2 x y v u Q I2 rx ry q2) fun _ _ z => z
abbrev rSM : R2 := fun x y H Q => ∃ (z : Str) (n : Int), x = .str z ∧ y = .int n ∧ 0 ≤ n ∧ n ≤ 1000 ∧ z.length ≤ 1000 ∧ Q (.str (repW z n)) H
theorem w_sm {c : Str} {mb : E} : ∀ σ H Q, rE Z B (eStrMul (eK (.str c)) mb) σ H Q → tOp rSM (tC (.str c)) (rE Z B mb) σ H Q := fun σ H Q h => by
  have h2 := two (ma := eK (.str c)) (mb := mb) (Z := Z) (B := B) (r := rSM) (f := fun h x y => match x, y with
    | .str x, .int n => if 0 ≤ n ∧ n ≤ 1000 ∧ x.length ≤ 1000 then .ok (.str (repW x n)) h else .bad
    | _, _ => .bad) (fun α he H x y vx vy Q hr rx ry g => by
      cases rx <;> cases ry <;> first
        | exact g.elim
        | skip
      rename_i z n
      by_cases c : 0 ≤ n ∧ n ≤ 1000 ∧ z.length ≤ 1000
      · simp only [if_pos c] at g
        exact ⟨z, n, rfl, rfl, c.1, c.2.1, c.2.2, got_val hr (.str _) g⟩
      · simp only [if_neg c] at g; exact g.elim) σ H Q h
  obtain ⟨α, he, σw, hr, sr, g⟩ := h2
  exact Got.now (X := B) g hr _ (.str c)
theorem e_addT {c : Str} {j : Nat} {b R : Expr} {mb mR : E} {p q1 q2 : Pos} (hK : X.K = Z.K) (hb : PE X b (rE Z B mb)) (hR : PET X R (rE Z B mR)) :
    PE X (.BinOp (.BinOp (.Constant (.str c) j p) .Mult b q1) .Add R q2) (rE Z B (eBin .add (eStrMul (eK (.str c)) mb) mR)) :=
  PE.weak (pe_addT (r2 := rAddW Z.K) o_strmul (hK ▸ o_add) hb hR) fun σ H Q h => w_sm σ H _ (two (w_add (Z := Z) (B := B)) σ H Q h)
end
end VE
end
section
set_option Elab.async false
set_option linter.all false
set_option autoImplicit false
set_option maxRecDepth 100000
namespace HV
open PySem PySem.Spec PyProof.Rows L2 He

def oexB (K : PySem.W.Frag) (C : Addr) : Bool := (match K.lookup C with
  | some ⟨.type t, _, .cls cd, sl⟩ => (match cd.mro, sl.toList with
    | .ref D :: bm, [_, _, _, _, some (.builtin n), _] => decide (t = "type") && (D == C && (decide (n = "ValueError.__new__") && (!cd.hasDel && (cd.hasDict && PySem.HandSPX.refsVE bm))))
    | _, _ => false)
  | _ => false) && (eqO (PySem.W.findIn K (.ref C) "__setattr__") (some (some (.builtin "object.__setattr__"))) && (decide (PySem.W.subIn K (.ref C) (.type "BaseException") = some true) && (decide (PySem.W.typeIn K (.ref C) = some (.type "type")) && PySem.W.keepIn K (.ref C))))
theorem oexB_ok {K : PySem.W.Frag} {C : Addr} (h : oexB K C = true) : OexC K C := by
  obtain ⟨h1, h⟩ := ba h
  obtain ⟨h2, h⟩ := ba h
  obtain ⟨h3, h⟩ := ba h
  obtain ⟨h4, h5⟩ := ba h
  refine ⟨?_, eqO_ok h2, of_decide_eq_true h3, of_decide_eq_true h4, h5⟩
  cases q : K.lookup C with
  | none => rw [q] at h1; cases h1
  | some o =>
    obtain ⟨oc, od, dt, osl⟩ := o
    rw [q] at h1
    cases oc with
    | type t =>
      cases dt with
      | cls cd =>
        obtain ⟨nm, bs, mro, ns, qn, hd, sn, sub, ab, col, del⟩ := cd
        dsimp only at h1
        split at h1
        · rename_i D bm k0 k1 k2 k3 n k5 es
          obtain ⟨g1, h1⟩ := ba h1
          obtain ⟨g2, h1⟩ := ba h1
          obtain ⟨g3, h1⟩ := ba h1
          obtain ⟨g4, h1⟩ := ba h1
          obtain ⟨g5, g6⟩ := ba h1
          have e1 := of_decide_eq_true g1
          have e2 : D = C := beq_iff_eq.mp g2
          have e3 := of_decide_eq_true g3
          have e4 : del = false := by cases del <;> first | rfl | cases g4
          have e5 : osl = #[k0, k1, k2, k3, some (.builtin n), k5] := by
            obtain ⟨l⟩ := osl
            have es : l = _ := es
            rw [es]
          subst e1 e2 e3 e4 e5 g5
          exact ⟨_, _, _, _, _, _, _, _, _, _, _, _, _, _, _, rfl, g6⟩
        · cases h1
      | _ => cases h1
    | _ => cases dt <;> cases h1

structure ExD where
  cls : Str
  qual : Str
  params : Arguments
  body : List Stmt
  scope : Scope
abbrev ExV : Type := Option (Str × Str × Arguments × FuncBody × Scope × Addr × List Str × Addr)
def exV (K : PySem.W.Frag) (p : Str × Option Str) : ExV := match K.lookup (fAd K p) with
  | some ⟨_, _, .func fd, _⟩ => some (fd.name, fd.qualname, fd.params, fd.body, fd.scope, fd.globals, fd.closure.map (·.1), fd.builtins)
  | _ => none
def ExD.at_ (d : ExD) : Str × Option Str := (d.cls, some "__init__")
def ExD.val (d : ExD) : ExV := some ("__init__", d.qual, d.params, .stmts d.body, d.scope, mainGlobals, ["__class__"], builtinsNs)
def codB (K : PySem.W.Frag) (file qual : Str) (c : Value) : Bool := match c with
  | .ref a => PySem.W.codeIn K (.ref a) qual && (match K.lookup a with
    | some ⟨_, _, .fields vs, _⟩ => (match (vs[2]? : Option Value) with
      | some (Value.str f _) => file == f
      | _ => false)
    | _ => false)
  | _ => false
def celB (K : PySem.W.Frag) (C : Addr) (cl : List (Str × Addr)) : Bool := match cl with
  | [(_, cc)] => (match K.lookup cc with
    | some ⟨_, _, .cell (some (.ref D)), _⟩ => D == C
    | _ => false)
  | _ => false
def ExD.ok (file : Str) (top : Bool) (K : PySem.W.Frag) (d : ExD) : Bool := oexB K (ga K d.cls) && ((match K.lookup (fAd K d.at_) with
  | some ⟨_, _, .func fd, _⟩ => codB K file d.qual fd.code && (celB K (ga K d.cls) fd.closure && (match fd.defaults with
    | .none => true
    | _ => false))
  | _ => false) && (decide (PySem.W.mroIn K (ga K d.cls) (.ref (ga K d.cls)) = some true) && (eqO (PySem.W.nsIn K cStatics "thirdparty.any") (some none) && (eqO (PySem.W.ks_superIn K (ga K d.cls) (ga K d.cls) "__init__") (some (some (.builtin "ValueError.__init__"))) &&
  (decide (PySem.W.subIn K (.ref (ga K d.cls)) (.type "ValueError") = some true) && (top && (eqO (PySem.W.findIn K (.ref (ga K d.cls)) "__init__") (some (some (.ref (fAd K d.at_)))) && (decide (PySem.W.typeIn K (.ref (fAd K d.at_)) = some (.type "function"))
  && (eqO (PySem.W.nsIn K mainGlobals d.cls) (some (some (.ref (ga K d.cls)))))))))))))
structure ExK (P : Program) (K : PySem.W.Frag) (d : ExD) : Prop where
  xi : XI.XiC P K (ga K d.cls) (fAd K d.at_) "__init__" d.qual d.params d.body d.scope
  fn : ∃ (oc : Value) (od : Option Addr) (fd : FuncData) (osl : Array (Option Value)) (kV doc pm : Value) (an : Option Addr) (cd ct : Value) (cc : Addr), K.lookup (fAd K d.at_) = some ⟨oc, od, .func fd, osl⟩ ∧ fd = PySem.W.ksFn "__init__" d.qual d.params d.body d.scope .none kV doc pm an cd ct cc
  init : PySem.W.findIn K (.ref (ga K d.cls)) "__init__" = some (some (.ref (fAd K d.at_)))
  ty : PySem.W.typeIn K (.ref (fAd K d.at_)) = some (.type "function")
  glo : PySem.W.nsIn K mainGlobals d.cls = some (some (.ref (ga K d.cls)))
theorem ExD.ok_k {P : Program} {K : PySem.W.Frag} {d : ExD} (e : exV K d.at_ = d.val) (h : d.ok P.main.file (P.main.scope.names.lookup ("super" : Str)).isSome.not K = true) : ExK P K d := by
  obtain ⟨h1, h⟩ := ba h
  obtain ⟨h2, h⟩ := ba h
  obtain ⟨h3, h⟩ := ba h
  obtain ⟨h4, h⟩ := ba h
  obtain ⟨h5, h⟩ := ba h
  obtain ⟨h6, h⟩ := ba h
  obtain ⟨h7, h⟩ := ba h
  obtain ⟨h8, h⟩ := ba h
  obtain ⟨h9, h10⟩ := ba h
  unfold exV at e
  cases q : K.lookup (fAd K d.at_) with
  | none => rw [q] at h2; cases h2
  | some o =>
    obtain ⟨oc, od, dt, osl⟩ := o
    rw [q] at h2 e
    cases dt with
    | func fd =>
      obtain ⟨n1, n2, n3, n4, n5, n6, n7, n8, n9, n10, n11, n12, n13, n14, n15⟩ := fd
      have e2 : (some (n1, n2, n3, n4, n5, n6, n7.map (·.1), n15) : ExV) = d.val := e
      unfold ExD.val at e2
      simp only [Option.some.injEq, Prod.mk.injEq] at e2
      obtain ⟨g1, g2, g3, g4, g5, g6, g7, g8⟩ := e2
      obtain ⟨k1, h2⟩ := ba h2
      obtain ⟨k2, k3⟩ := ba h2
      dsimp only at k1 k2 k3
      match n7, g7, k2 with
      | [(x, cc)], g7, k2 =>
        have ex : x = "__class__" := by simpa using g7
        subst ex
        have en : n8 = .none := by
          cases n8 <;> first
            | rfl
            | cases k3
        subst g1 g2 g3 g4 g5 g6 g8 en
        have hcell : ∃ (cl : Value) (cld : Option Addr) (csl : Array (Option Value)), K.lookup cc = some ⟨cl, cld, .cell (some (.ref (ga K d.cls))), csl⟩ := by
          unfold celB at k2
          dsimp only at k2
          split at k2
          · rename_i D _ e3
            rw [e3, beq_iff_eq.mp k2]
            exact ⟨_, _, _, rfl⟩
          · cases k2
        cases n13 with
        | ref cda =>
          obtain ⟨k4, k5⟩ := ba (show (PySem.W.codeIn K (.ref cda) d.qual && _) = true from k1)
          have hfile : ∃ (ccl : Value) (cdd : Option Addr) (vs : Array Value) (ccs : Array (Option Value)) (file : Str) (tf : Tok), K.lookup cda = some ⟨ccl, cdd, .fields vs, ccs⟩ ∧ vs[2]? = some (.str file tf) ∧ ((P.main.file : Str) == file) = true := by
            split at k5
            · rename_i vs _ e3
              split at k5
              · rename_i f t e4
                exact ⟨_, _, _, _, f, t, e3, e4, k5⟩
              · cases k5
            · cases k5
          have htop : (P.main.scope.names.lookup ("super" : Str)).isSome = false := by
            cases z : (P.main.scope.names.lookup ("super" : Str)).isSome with
            | false => rfl
            | true => rw [z] at h7; cases h7
          exact ⟨⟨oexB_ok h1, ⟨oc, od, .none, n9, n10, n11, n12, cda, n14, osl, cc, q, k4, hfile, hcell⟩, of_decide_eq_true h3, eqO_ok h4, eqO_ok h5, of_decide_eq_true h6, htop⟩, ⟨oc, od, _, osl, n9, n10, n11, n12, _, n14, cc, q, rfl⟩, eqO_ok h8, of_decide_eq_true h9, eqO_ok h10⟩
        | _ => cases k1
    | _ => cases h2

abbrev AlV : Type := AlT × (Bool × Bool) × List ExV
def obsV (file : Str) (top : Bool) (fa : List Fa) (fn : List DefD) (ts : List Tab) (xs : List ExD) (bs : PySem.W.Frag → Bool) (K : PySem.W.Frag) : AlV := (obsT fa fn ts K, (xs.all (·.ok file top K), bs K), xs.map fun d => exV K d.at_)
def valV (fn : List DefD) (ts : List Tab) (xs : List ExD) (w : World) : AlV := (valT fn ts w, (true, true), xs.map ExD.val)
def asV (g : Addr → Option Obj) (n : Nat) : List Addr := cStatics :: asD g n
def obsVG (n : Nat) (file : Str) (top : Bool) (fa : List Fa) (fn : List DefD) (ts : List Tab) (xs : List ExD) (bs : PySem.W.Frag → Bool) (g : Addr → Option Obj) : AlV := obsV file top fa fn ts xs bs (frG g (asV g n))
def SaysV (file : Str) (top : Bool) (fa : List Fa) (fn : List DefD) (ts : List Tab) (xs : List ExD) (bs : PySem.W.Frag → Bool) (w : World) (K : PySem.W.Frag) : Prop := obsV file top fa fn ts xs bs K = valV fn ts xs w
def hookV (n : Nat) (file : Str) (top : Bool) (fa : List Fa) (fn : List DefD) (ts : List Tab) (xs : List ExD) (bs : PySem.W.Frag → Bool) : PySem.W.Hook where
  α := AlV
  obs := fun s => obsVG n file top fa fn ts xs bs s.heap.get?
  val := fun w => valV fn ts xs w
  says := fun w h => ∃ K : PySem.W.Frag, K.In h ∧ SaysV file top fa fn ts xs bs w K
  of := fun _ _ e => ⟨_, frG_in, e⟩
  keeps := fun _ _ _ ⟨K, hK, c⟩ k => ⟨K, PySem.W.Frag.In.keeps hK k, c⟩
theorem obsVG_eq {n : Nat} {file : Str} {top : Bool} {fa : List Fa} {fn : List DefD} {ts : List Tab} {xs : List ExD} {bs : PySem.W.Frag → Bool} {g : Addr → Option Obj} {s : Shared} (h : ∀ a, g a = s.heap.get? a) : obsVG n file top fa fn ts xs bs g = (hookV n file top fa fn ts xs bs).obs s := by
  have e : g = s.heap.get? := funext h
  rw [e] <;> rfl
section
variable {file : Str} {top : Bool} {fa : List Fa} {fn : List DefD} {ts : List Tab} {xs : List ExD} {bs : PySem.W.Frag → Bool} {w : World} {K : PySem.W.Frag}
theorem SaysV.t (c : SaysV file top fa fn ts xs bs w K) : SaysT fa fn ts w K := congrArg (fun z : AlV => z.1) c
theorem SaysV.b (c : SaysV file top fa fn ts xs bs w K) : bs K = true := congrArg (fun z : AlV => z.2.1.2) c
theorem SaysV.exc {P : Program} (c : SaysV P.main.file (P.main.scope.names.lookup ("super" : Str)).isSome.not fa fn ts xs bs w K) (i : Nat) {d : ExD} (h : xs[i]? = some d := by rfl) : ExK P K d := by
  have e : xs.map (fun d => exV K d.at_) = xs.map ExD.val := congrArg (fun z : AlV => z.2.2) c
  have e2 : (xs.map fun d => exV K d.at_)[i]? = (xs.map ExD.val)[i]? := by rw [e]
  rw [List.getElem?_map, List.getElem?_map, h] at e2
  have hb : xs.all (·.ok P.main.file (P.main.scope.names.lookup ("super" : Str)).isSome.not K) = true := congrArg (fun z : AlV => z.2.1.1) c
  exact ExD.ok_k (Option.some.inj e2) (List.all_eq_true.mp hb d (List.mem_of_getElem? h))
end
end HV
end
section
set_option Elab.async false
set_option linter.all false
set_option autoImplicit false
set_option maxRecDepth 100000
namespace VE
open PySem PySem.Spec PyProof.Rows L2

theorem dget_mem {x : Str} : ∀ {kvs : List (Str × Int)} {o : Option Int} {i : Int}, kvs.foldl (fun o kv => if x = kv.1 then some kv.2 else o) o = some i → (x, i) ∈ kvs ∨ o = some i
  | [], o, i, h => .inr h
  | (k, v) :: r, o, i, h => by
    rw [List.foldl_cons] at h
    rcases dget_mem h with q | q
    · exact .inl (List.mem_cons_of_mem _ q)
    · by_cases z : x = k
      · rw [if_pos z] at q
        cases q
        subst z
        exact .inl List.mem_cons_self
      · rw [if_neg z] at q
        exact .inr q
theorem dget_none {x : Str} : ∀ {kvs : List (Str × Int)} {o : Option Int}, kvs.foldl (fun o kv => if x = kv.1 then some kv.2 else o) o = none → x ∉ kvs.map (·.1)
  | [], _, _, m => nomatch m
  | (k, v) :: r, o, h, m => by
    rw [List.foldl_cons] at h
    rcases List.mem_cons.mp m with e | m
    · have e : x = k := e
      rw [if_pos e] at h
      have : ∀ (r : List (Str × Int)) (i : Int), r.foldl (fun o kv => if x = kv.1 then some kv.2 else o) (some i) ≠ none := by
        intro r
        induction r with
        | nil => intro i z; cases z
        | cons a r ih =>
          intro i
          rw [List.foldl_cons]
          split
          · exact ih _
          · exact ih _
      exact this _ _ h
    · exact dget_none h m
theorem gd_of {K : PySem.W.Frag} {w : World} {a : Addr} {kvs : List (Str × Int)} (h : He.dicW K a = some (He.keysIn w.params (kvs.map (·.1)))) (hv : He.valsB K a (kvs.map fun kv => (kv.1, He.Dv.int kv.2)) = true) : GD K w a kvs := by
  obtain ⟨es, n, kd⟩ := He.dicW_ok h
  refine ⟨es, n, kd, fun x => ?_⟩
  have hk : es.toList.map He.keyOf = He.keysIn w.params (kvs.map (·.1)) := by
    unfold He.dicW at h
    rw [kd.at_] at h
    dsimp only at h
    split at h
    · exact Option.some.inj h
    · cases h
  cases e : dgetW kvs x with
  | some i =>
    have m : (x, i) ∈ kvs := (dget_mem e).resolve_right fun z => nomatch z
    obtain ⟨u, hu, ru⟩ := He.valsB_ok hv (q := (x, He.Dv.int i)) (List.mem_map.mpr ⟨(x, i), m, rfl⟩)
    rw [PySem.W.find_K kd.at_ hu]
    exact ru
  | none =>
    have nm := dget_none e
    have hf : findBy Value.isStrOf es x = none := by
      obtain ⟨l⟩ := es
      unfold findBy
      rw [List.find?_toArray]
      have hn : l.find? (fun d => Value.isStrOf x d.key) = none := by
        rw [List.find?_eq_none]
        intro d hd hq
        have hm : He.keyOf d ∈ He.keysIn w.params (kvs.map (·.1)) := hk ▸ List.mem_map.mpr ⟨d, hd, rfl⟩
        obtain ⟨k, hk1, hk2⟩ := List.mem_map.mp hm
        unfold He.keyOf at hk2
        cases dk : d.key with
        | str y t =>
          rw [dk] at hk2 hq
          have : y = k := by
            have := Option.some.inj hk2
            exact (Prod.mk.inj this).1.symm
          subst this
          have hxy : x = y := by
            have q2 : y = x := by simpa [Value.isStrOf] using hq
            exact q2.symm
          exact nm (hxy ▸ hk1)
        | _ => rw [dk] at hk2; cases hk2
      rw [hn]
      rfl
    rw [hf]
    exact rfl
end VE
end
section
set_option Elab.async false
set_option linter.all false
set_option autoImplicit false
set_option maxRecDepth 100000
namespace GZ
open PySem
open Sem (wp)

def badT : Sem PySem.Fin := .unsupported "hidden"
def dull (f : Frame) : Frame := .ret (fun _ => badT) none false [] f.where_.1 f.where_.2 []
def hide : GenState → GenState
  | .suspended _ l c p fs cl => .suspended (fun _ => badT) l c p (fs.map dull) cl
  | x => x
theorem dull_where (fs : List Frame) : (fs.map dull).map Frame.where_ = fs.map Frame.where_ := by
  rw [List.map_map]
  rfl
theorem hide_seen (x : GenState) : (hide x).seen = x.seen := by
  cases x with
  | suspended k l c p fs cl => show (GenStatus.suspended, some ((c, p) :: (fs.map dull).map Frame.where_)) = _; rw [dull_where]; rfl
  | _ => rfl
theorem hide_bare (x : GenState) : (hide x).bare = x.bare := by cases x <;> rfl

abbrev NoG (fs : List Frame) : Prop := splitAtGen fs = none
theorem nog_cons {k : Result → Sem PySem.Fin} {h : Option Value} {g : Bool} {l : List Value} {c : Code} {p : Pos} {kp : List Value} {fs : List Frame} : NoG (.ret k h g l c p kp :: fs) ↔ NoG fs := by
  show (splitAtGen fs).map _ = none ↔ splitAtGen fs = none
  exact Option.map_eq_none_iff
theorem nog_gen {g : Nat} {k : GenResult → Sem PySem.Fin} {l : List Value} {c : Code} {p : Pos} {fs : List Frame} (h : NoG (.gen g k l c p :: fs)) : False := by cases h
theorem nog_app : ∀ {a b : List Frame}, NoG a → NoG b → NoG (a ++ b)
  | [], _, _, hb => hb
  | .ret .. :: r, b, ha, hb => nog_cons.mpr (nog_app (nog_cons.mp ha) hb)
  | .gen .. :: r, b, ha, hb => (nog_gen ha).elim
theorem nog_dull : ∀ fs : List Frame, NoG (fs.map dull)
  | [] => rfl
  | f :: fs => nog_cons.mpr (nog_dull fs)
def NGs : GenState → Prop
  | .suspended _ _ _ _ fs _ => NoG fs
  | _ => True
def NGe : End → Prop
  | .susp _ _ _ _ _ _ fs => NoG fs
  | _ => True
theorem nge_state {e : End} (h : NGe e) : NGs e.genState := by cases e <;> first | exact h | trivial
def Sus : GenState → Prop
  | .suspended .. => True
  | _ => False

structure Tw (I : Nat → Prop) (z s : Shared) : Prop where
  heap : z.heap = s.heap
  drawn : z.drawn = s.drawn
  toks : z.toks = s.toks
  os : z.os = s.os
  size : z.gens.size = s.gens.size
  at_ : ∀ (i : Nat) (x : GenState), s.gens[i]? = some x → (I i → Sus x ∧ z.gens[i]? = some (hide x)) ∧ (¬ I i → NGs x ∧ z.gens[i]? = some x)
  lt : ∀ i, I i → i < s.gens.size
def Kept (I : Nat → Prop) (s s' : Shared) : Prop := ∀ i, I i → s'.gens[i]? = s.gens[i]?
theorem Kept.refl {I : Nat → Prop} {s : Shared} : Kept I s s := fun _ _ => rfl
theorem Kept.trans {I : Nat → Prop} {s s' s'' : Shared} (a : Kept I s s') (b : Kept I s' s'') : Kept I s s'' := fun i h => (b i h).trans (a i h)

section
variable {I : Nat → Prop} {z s : Shared}
theorem Tw.heap' (t : Tw I z s) (h : Heap) : Tw I { z with heap := h } { s with heap := h } := ⟨rfl, t.drawn, t.toks, t.os, t.size, t.at_, t.lt⟩
theorem Tw.toks' (t : Tw I z s) (n : Nat) : Tw I { z with toks := n } { s with toks := n } := ⟨t.heap, t.drawn, rfl, t.os, t.size, t.at_, t.lt⟩
theorem Tw.drawn' (t : Tw I z s) (n : Drawn) : Tw I { z with drawn := n } { s with drawn := n } := ⟨t.heap, rfl, t.toks, t.os, t.size, t.at_, t.lt⟩
theorem Tw.os' (t : Tw I z s) (n : OsState) : Tw I { z with os := n } { s with os := n } := ⟨t.heap, t.drawn, t.toks, rfl, t.size, t.at_, t.lt⟩
theorem Tw.none (t : Tw I z s) {i : Nat} (h : s.gens[i]? = none) : z.gens[i]? = none := by
  rw [Array.getElem?_eq_none_iff] at h ⊢
  rw [t.size]; exact h
theorem Tw.back (t : Tw I z s) {i : Nat} {y : GenState} (h : z.gens[i]? = some y) : ∃ x, s.gens[i]? = some x ∧ ((I i ∧ Sus x ∧ y = hide x) ∨ (¬ I i ∧ NGs x ∧ y = x)) := by
  cases e : s.gens[i]? with
  | none => rw [t.none e] at h; cases h
  | some x =>
    obtain ⟨a, b⟩ := t.at_ i x e
    by_cases q : I i
    · obtain ⟨a1, a2⟩ := a q
      rw [h] at a2
      exact ⟨x, rfl, .inl ⟨q, a1, Option.some.inj a2⟩⟩
    · obtain ⟨b1, b2⟩ := b q
      rw [h] at b2
      exact ⟨x, rfl, .inr ⟨q, b1, Option.some.inj b2⟩⟩
theorem setGen_get (s : Shared) (g i : Nat) (x : GenState) : (s.setGen g x).gens[i]? = if i = g then (if g < s.gens.size then some x else none) else s.gens[i]? := by
  show (s.gens.setIfInBounds g x)[i]? = _
  rw [Array.getElem?_setIfInBounds]
  by_cases h : g = i
  · subst h; simp
  · rw [if_neg h, if_neg (Ne.symm h)]
theorem Tw.set (t : Tw I z s) {g : Nat} (hg : ¬ I g) {x : GenState} (hx : NGs x) : Tw I (z.setGen g x) (s.setGen g x) where
  heap := t.heap
  drawn := t.drawn
  toks := t.toks
  os := t.os
  size := by rw [GenW.setGen_size, GenW.setGen_size]; exact t.size
  lt := fun i h => by rw [GenW.setGen_size]; exact t.lt i h
  at_ := fun i y h => by
    rw [setGen_get] at h
    by_cases e : i = g
    · subst e
      rw [if_pos rfl] at h
      by_cases l : i < s.gens.size
      · rw [if_pos l] at h
        cases h
        refine ⟨fun q => absurd q hg, fun _ => ⟨hx, ?_⟩⟩
        rw [setGen_get, if_pos rfl, t.size, if_pos l]
      · rw [if_neg l] at h; cases h
    · rw [if_neg e] at h
      rw [setGen_get, if_neg e]
      exact t.at_ i y h
theorem kept_set (s : Shared) {g : Nat} (hg : ¬ I g) (x : GenState) : Kept I s (s.setGen g x) := fun i h => by
  have ne : ¬ i = g := by
    intro e
    subst e
    exact hg h
  rw [setGen_get, if_neg ne]
theorem Tw.push (t : Tw I z s) (c : Code) : Tw I { z with gens := z.gens.push (.fresh c) } { s with gens := s.gens.push (.fresh c) } where
  heap := t.heap
  drawn := t.drawn
  toks := t.toks
  os := t.os
  size := by show (z.gens.push _).size = (s.gens.push _).size; rw [Array.size_push, Array.size_push, t.size]
  lt := fun i h => by show i < (s.gens.push _).size; rw [Array.size_push]; exact Nat.lt_succ_of_lt (t.lt i h)
  at_ := fun i y h => by
    have h : (s.gens.push (.fresh c))[i]? = some y := h
    show (I i → Sus y ∧ (z.gens.push (.fresh c))[i]? = some (hide y)) ∧ (¬ I i → NGs y ∧ (z.gens.push (.fresh c))[i]? = some y)
    rw [Array.getElem?_push] at h ⊢
    rw [t.size]
    by_cases e : i = s.gens.size
    · rw [if_pos e] at h ⊢
      cases h
      exact ⟨fun q => absurd (t.lt i q) (by omega), fun _ => ⟨trivial, rfl⟩⟩
    · rw [if_neg e] at h ⊢
      exact t.at_ i y h
theorem kept_push (t : Tw I z s) (c : Code) : Kept I s { s with gens := s.gens.push (.fresh c) } := fun i h => by
  show (s.gens.push (.fresh c))[i]? = _
  rw [Array.getElem?_push, if_neg]
  have := t.lt i h
  omega
end

theorem no_bad0 {M : Model} {Γ : Ctx} {p : Pos} {s s' : Shared} {e : End} (h : Runs M Γ p badT [] s e s') : False := by
  unfold badT at h
  cases h
theorem no_bad {M : Model} {Γ : Ctx} {p : Pos} {fs : List Frame} {s s' : Shared} {e : End} (h : Runs M Γ p badT fs s e s') : False := by
  cases fs with
  | nil => exact no_bad0 h
  | cons f fs =>
    generalize hb : badT = b at h
    cases h with
    | segRet h1 _ => subst hb; exact no_bad0 h1
    | segGen h1 _ => subst hb; exact no_bad0 h1
    | segSuspOut _ h1 => subst hb; exact no_bad0 h1
    | segSuspGen _ h1 _ _ => subst hb; exact no_bad0 h1

theorem seen_or {I : Nat → Prop} {i : Nat} {x y : GenState} (h : (I i ∧ Sus x ∧ y = hide x) ∨ (¬ I i ∧ NGs x ∧ y = x)) : y.seen = x.seen := by
  rcases h with ⟨_, _, rfl⟩ | ⟨_, _, rfl⟩
  · exact hide_seen x
  · rfl
theorem runs_tw {M : Model} {Γ : Ctx} {p : Pos} {t : Sem PySem.Fin} {fs : List Frame} {z z' : Shared} {e : End} (h : Runs M Γ p t fs z e z') :
    ∀ {I : Nat → Prop} {s : Shared}, NoG fs → Tw I z s → ∃ s', Runs M Γ p t fs s e s' ∧ Tw I z' s' ∧ NGe e ∧ Kept I s s' := by
  induction h with
  | done => exact fun _ w => ⟨_, .done, w, trivial, .refl⟩
  | raise => exact fun _ w => ⟨_, .raise, w, trivial, .refl⟩
  | again q _ ih => exact fun n w => let ⟨s', r, a⟩ := ih n w; ⟨s', .again q r, a⟩
  | rule _ ih => exact fun n w => let ⟨s', r, a⟩ := ih n w; ⟨s', .rule r, a⟩
  | «at» _ ih => exact fun n w => let ⟨s', r, a⟩ := ih n w; ⟨s', .at r, a⟩
  | load q _ ih => exact fun n w => let ⟨s', r, a⟩ := ih n w; ⟨s', .load (w.heap ▸ q) r, a⟩
  | update q _ ih => exact fun n w => let ⟨s', r, a⟩ := ih n (w.heap ▸ w.heap' _); ⟨s', .update (w.heap ▸ q) (w.heap ▸ r), a⟩
  | loadIfAlive _ ih => exact fun n w => let ⟨s', r, a⟩ := ih n w; ⟨s', .loadIfAlive (w.heap ▸ r), a⟩
  | point _ ih => exact fun n w => let ⟨s', r, a⟩ := ih n w; ⟨s', .point r, a⟩
  | alloc _ ih => exact fun n w => let ⟨s', r, a⟩ := ih n (w.heap ▸ w.heap' _); ⟨s', .alloc (w.heap ▸ r), a⟩
  | fresh _ ih => exact fun n w => let ⟨s', r, a⟩ := ih n (w.toks ▸ w.toks' _); ⟨s', .fresh (w.toks ▸ r), a⟩
  | ask _ ih => exact fun n w => let ⟨s', r, a⟩ := ih n w; ⟨s', .ask r, a⟩
  | choose q _ ih => exact fun n w => let ⟨s', r, a⟩ := ih n (w.drawn ▸ w.drawn' _); ⟨s', .choose q (w.drawn ▸ r), a⟩
  | os _ ih => exact fun n w => let ⟨s', r, a⟩ := ih n (w.os ▸ w.os' _); ⟨s', .os (w.os ▸ r), a⟩
  | handled _ ih => exact fun n w => let ⟨s', r, a⟩ := ih n w; ⟨s', .handled r, a⟩
  | genState q _ ih =>
    intro I s n w
    obtain ⟨x, hx, hy⟩ := w.back q
    obtain ⟨s', r, a⟩ := ih n w
    exact ⟨s', .genState hx (seen_or hy ▸ r), a⟩
  | stack _ ih => exact fun n w => let ⟨s', r, a⟩ := ih n w; ⟨s', .stack r, a⟩
  | thread _ ih => exact fun n w => let ⟨s', r, a⟩ := ih n w; ⟨s', .thread r, a⟩
  | newGen _ ih =>
    intro I s n w
    obtain ⟨s', r, a1, a2, a3⟩ := ih n (w.push _)
    exact ⟨s', .newGen (w.size ▸ r), a1, a2, (kept_push w _).trans a3⟩
  | call _ _ ih1 ih2 =>
    intro I s n w
    obtain ⟨s1, r1, a1, _, k1⟩ := ih1 rfl w
    obtain ⟨s2, r2, a2, b2, k2⟩ := ih2 rfl a1
    exact ⟨s2, .call r1 r2, a2, b2, k1.trans k2⟩
  | callSusp _ ih =>
    intro I s n w
    obtain ⟨s1, r1, a1, b1, k1⟩ := ih rfl w
    exact ⟨s1, .callSusp r1, a1, nog_app b1 (nog_cons.mpr rfl), k1⟩
  | yield => exact fun _ w => ⟨_, .yield, w, rfl, .refl⟩
  | resumeFresh q _ hq _ ih1 ih2 =>
    intro I s n w
    obtain ⟨x, hx, hy⟩ := w.back q
    rcases hy with ⟨_, hs, e⟩ | ⟨hi, _, e⟩
    · cases x <;> first | exact hs.elim | cases e
    · subst e
      obtain ⟨s1, r1, a1, b1, k1⟩ := ih1 rfl (w.set hi (x := .running) trivial)
      obtain ⟨s2, r2, a2, b2, k2⟩ := ih2 rfl (a1.set hi (nge_state b1))
      exact ⟨s2, .resumeFresh hx r1 hq r2, a2, b2, (((kept_set s hi _).trans k1).trans (kept_set _ hi _)).trans k2⟩
  | resumeSuspended q h1 hq _ ih1 ih2 =>
    intro I s n w
    obtain ⟨x, hx, hy⟩ := w.back q
    rcases hy with ⟨_, hs, e⟩ | ⟨hi, ng, e⟩
    · cases x <;> first | exact hs.elim | skip
      cases e
      exact (no_bad h1).elim
    · subst e
      obtain ⟨s1, r1, a1, b1, k1⟩ := ih1 ng (w.set hi (x := .running) trivial)
      obtain ⟨s2, r2, a2, b2, k2⟩ := ih2 rfl (a1.set hi (nge_state b1))
      exact ⟨s2, .resumeSuspended hx r1 hq r2, a2, b2, (((kept_set s hi _).trans k1).trans (kept_set _ hi _)).trans k2⟩
  | resumeJustStarted q hv _ ih =>
    intro I s n w
    obtain ⟨x, hx, hy⟩ := w.back q
    obtain ⟨s', r, a⟩ := ih n w
    rcases hy with ⟨_, hs, e⟩ | ⟨hi, _, e⟩
    · cases x <;> first | exact hs.elim | cases e
    · subst e
      exact ⟨s', .resumeJustStarted hx hv r, a⟩
  | resumeThrowFresh q _ ih =>
    intro I s n w
    obtain ⟨x, hx, hy⟩ := w.back q
    rcases hy with ⟨_, hs, e⟩ | ⟨hi, _, e⟩
    · cases x <;> first | exact hs.elim | cases e
    · subst e
      obtain ⟨s', r, a1, a2, a3⟩ := ih n (w.set hi (x := .finished) trivial)
      exact ⟨s', .resumeThrowFresh hx r, a1, a2, (kept_set s hi _).trans a3⟩
  | resumeRunning q _ ih =>
    intro I s n w
    obtain ⟨x, hx, hy⟩ := w.back q
    obtain ⟨s', r, a⟩ := ih n w
    rcases hy with ⟨_, hs, e⟩ | ⟨hi, _, e⟩
    · cases x <;> first | exact hs.elim | cases e
    · subst e
      exact ⟨s', .resumeRunning hx r, a⟩
  | resumeFinished q _ ih =>
    intro I s n w
    obtain ⟨x, hx, hy⟩ := w.back q
    obtain ⟨s', r, a⟩ := ih n w
    rcases hy with ⟨_, hs, e⟩ | ⟨hi, _, e⟩
    · cases x <;> first | exact hs.elim | cases e
    · subst e
      exact ⟨s', .resumeFinished hx r, a⟩
  | segRet _ _ ih1 ih2 =>
    intro I s n w
    obtain ⟨s1, r1, a1, _, k1⟩ := ih1 rfl w
    obtain ⟨s2, r2, a2, b2, k2⟩ := ih2 (nog_cons.mp n) a1
    exact ⟨s2, .segRet r1 r2, a2, b2, k1.trans k2⟩
  | segGen _ _ _ _ => exact fun n _ => (nog_gen n).elim
  | segSuspOut q _ ih =>
    intro I s n w
    obtain ⟨s1, r1, a1, b1, k1⟩ := ih rfl w
    exact ⟨s1, .segSuspOut q r1, a1, nog_app b1 n, k1⟩
  | segSuspGen q _ _ _ _ _ =>
    intro I s n w
    have n : splitAtGen _ = none := n
    rw [q] at n; cases n

theorem wakes_tw {M : Model} {Γ : Ctx} {p : Pos} {g : Nat} {r : Resume} {z z' : Shared} {res : GenResult} (h : Wakes M Γ p g r z res z') {I : Nat → Prop} {s : Shared} (w : Tw I z s) : ∃ s', Wakes M Γ p g r s res s' ∧ Tw I z' s' ∧ Kept I s s' := by
  unfold Wakes at h
  cases q : z.gens[g]? with
  | none => rw [q] at h; exact h.elim
  | some y =>
    rw [q] at h
    obtain ⟨x, hx, hy⟩ := w.back q
    rcases hy with ⟨hi, hs, e⟩ | ⟨hi, ng, e⟩
    · cases x <;> first | exact hs.elim | skip
      subst e
      obtain ⟨e1, s1, h1, _⟩ := h
      exact (no_bad h1).elim
    · subst e
      unfold Wakes
      rw [hx]
      cases y with
      | fresh c =>
        cases r with
        | send v =>
          cases v with
          | none =>
            obtain ⟨e1, s1, h1, hq, rfl, rfl⟩ := h
            obtain ⟨s2, r1, a1, b1, k1⟩ := runs_tw h1 rfl (w.set hi (x := .running) trivial)
            exact ⟨_, ⟨e1, s2, r1, hq, rfl, rfl⟩, a1.set hi (nge_state b1), ((kept_set s hi _).trans k1).trans (kept_set _ hi _)⟩
          | _ =>
            obtain ⟨rfl, rfl⟩ := h
            exact ⟨s, ⟨rfl, rfl⟩, w, .refl⟩
        | throw v =>
          obtain ⟨rfl, rfl⟩ := h
          exact ⟨_, ⟨rfl, rfl⟩, w.set hi trivial, kept_set s hi _⟩
      | suspended k l c p0 fs cl =>
        obtain ⟨e1, s1, h1, hq, rfl, rfl⟩ := h
        obtain ⟨s2, r1, a1, b1, k1⟩ := runs_tw h1 ng (w.set hi (x := .running) trivial)
        exact ⟨_, ⟨e1, s2, r1, hq, rfl, rfl⟩, a1.set hi (nge_state b1), ((kept_set s hi _).trans k1).trans (kept_set _ hi _)⟩
      | running =>
        obtain ⟨rfl, rfl⟩ := h
        exact ⟨s, ⟨rfl, rfl⟩, w, .refl⟩
      | finished =>
        obtain ⟨rfl, rfl⟩ := h
        exact ⟨s, ⟨rfl, rfl⟩, w, .refl⟩
def Th {α : Type} (I : Nat → Prop) (s : Shared) (Q : α → Pos → Shared → Prop) (a : α) (p : Pos) (s' : Shared) : Prop := ∃ z', Q a p z' ∧ Tw I z' s' ∧ Kept I s s'
theorem Th.pre {α : Type} {I : Nat → Prop} {s s1 : Shared} {Q : α → Pos → Shared → Prop} {a : α} {p : Pos} {s' : Shared} (k : Kept I s s1) (h : Th I s1 Q a p s') : Th I s Q a p s' :=
  let ⟨z, q, t, l⟩ := h; ⟨z, q, t, k.trans l⟩
theorem Tw.eta {I : Nat → Prop} {z s : Shared} (w : Tw I z s) : z = { s with gens := z.gens } := by
  obtain ⟨h, g, d, t, o⟩ := z
  obtain ⟨h', g', d', t', o'⟩ := s
  have e1 : h = h' := w.heap
  have e2 : d = d' := w.drawn
  have e3 : t = t' := w.toks
  have e4 : o = o' := w.os
  subst e1 e2 e3 e4
  rfl
theorem wp_tw {α : Type} (M : Model) (Γ : Ctx) (I : Nat → Prop) (t : Sem α) : ∀ (Q : α → Pos → Shared → Prop) (E : Value → Pos → Shared → Prop) (p : Pos) (G : Array GenState) (s : Shared), Tw I { s with gens := G } s → wp M Γ t Q E p { s with gens := G } → wp M Γ t (Th I s Q) (Th I s E) p s := by
  have up : ∀ {t : Sem α} {Q : α → Pos → Shared → Prop} {E : Value → Pos → Shared → Prop} {p : Pos} {s s1 s2 : Shared}, Kept I s s1 → wp M Γ t (Th I s1 Q) (Th I s1 E) p s2 → wp M Γ t (Th I s Q) (Th I s E) p s2 :=
    fun {t Q E p s s1 s2} k h => Sem.wp_mono M Γ t (fun _ _ _ q => Th.pre k q) (fun _ _ _ q => Th.pre k q) p s2 h
  induction t with
  | pure a => intro Q E p G s w h; exact ⟨_, h, w, .refl⟩
  | raise e => intro Q E p G s w h; exact ⟨_, h, w, .refl⟩
  | unsupported _ => intro Q E p G s _ h; exact h
  | finish _ => intro Q E p G s _ h; exact h
  | rule _ k ih => intro Q E p G s w h; exact ih () Q E p G s w h
  | «at» p' k ih => intro Q E p G s w h; exact ih () Q E p' G s w h
  | load a _ k ih => intro Q E p G s w h; obtain ⟨o, ho, h⟩ := h; exact ⟨o, ho, ih o Q E p G s w h⟩
  | update a _ f k ih => intro Q E p G s w h; exact ⟨h.1, ih () Q E p G { s with heap := s.heap.update a f } (w.heap' _) h.2⟩
  | loadIfAlive a k ih => intro Q E p G s w h; exact ih _ Q E p G s w h
  | point _ k ih => intro Q E p G s w h; exact ih () Q E p G s w h
  | register _ _ => intro Q E p G s _ h; exact h
  | alloc o k ih => intro Q E p G s w h; exact ih _ Q E p G { s with heap := s.heap.push o } (w.heap' _) h
  | fresh k ih => intro Q E p G s w h; exact ih _ Q E p G { s with toks := s.toks + 1 } (w.toks' _) h
  | ask k ih => intro Q E p G s w h; exact ih _ Q E p G s w h
  | choose src m k ih => intro Q E p G s w h; exact ⟨h.1, ih _ Q E p G { s with drawn := s.drawn.bump src } (w.drawn' _) h.2⟩
  | os q _ k ih => intro Q E p G s w h; exact ih _ Q E p G { s with os := (Os.step s.os q).1 } (w.os' _) h
  | call c hd _ _ k ih =>
    intro Q E p G s w h
    obtain ⟨r, z1, hr, h⟩ := h
    obtain ⟨s1, r1, a1, _, k1⟩ := runs_tw hr rfl w
    rw [a1.eta] at h a1
    exact ⟨r, s1, r1, up k1 (ih r Q E p _ s1 a1 h)⟩
  | handled own k ih => intro Q E p G s w h; exact ih _ Q E p G s w h
  | genState g k ih =>
    intro Q E p G s w h
    obtain ⟨st, hs, h⟩ := h
    obtain ⟨x, hx, hy⟩ := w.back hs
    rw [seen_or hy] at h
    exact ⟨x, hx, ih _ Q E p G s w h⟩
  | newGen c k ih =>
    intro Q E p G s w h
    have h2 : wp M Γ (k G.size) Q E p { s with gens := G.push (.fresh c) } := h
    have es : G.size = s.gens.size := w.size
    rw [es] at h2
    exact up (kept_push w c) (ih _ Q E p (G.push (.fresh c)) { s with gens := s.gens.push (.fresh c) } (w.push c) h2)
  | resume g r _ k ih =>
    intro Q E p G s w h
    obtain ⟨res, z1, hw, h⟩ := h
    obtain ⟨s1, r1, a1, k1⟩ := wakes_tw hw w
    rw [a1.eta] at h a1
    exact ⟨res, s1, r1, up k1 (ih res Q E p _ s1 a1 h)⟩
  | yield _ _ _ _ => intro Q E p G s _ h; exact h
  | stack k ih => intro Q E p G s w h; exact ih _ Q E p G s w h
  | fork _ _ => intro Q E p G s _ h; exact h
  | thread k ih => intro Q E p G s w h; exact ih _ Q E p G s w h
  | await _ _ _ _ _ => intro Q E p G s _ h; exact h
theorem wpAny_tw {α : Type} {M : Model} {A : Around} {I : Nat → Prop} {z s : Shared} {t : Sem α} {Q : α → Shared → Prop} {E : Value → Shared → Prop} (w : Tw I z s) (h : wpAny M A t Q E z) :
    wpAny M A t (fun a s' => ∃ z', Q a z' ∧ Tw I z' s' ∧ Kept I s s') (fun e s' => ∃ z', E e z' ∧ Tw I z' s' ∧ Kept I s s') s :=
  fun Γ p hΓ => by
    have h1 := h Γ p hΓ
    rw [w.eta] at h1 w
    exact wp_tw M Γ I t _ _ p _ s w h1
def hidden (s : Shared) : Shared := { s with gens := s.gens.map hide }
def Sl (s : Shared) (i : Nat) : Prop := ∃ x, s.gens[i]? = some x ∧ Sus x
theorem tw_hidden (s : Shared) : Tw (Sl s) (hidden s) s where
  heap := rfl
  drawn := rfl
  toks := rfl
  os := rfl
  size := by simp [hidden]
  lt := fun i ⟨x, h, _⟩ => (Array.getElem?_eq_some_iff.mp h).1
  at_ := fun i x h => by
    have hz : (hidden s).gens[i]? = some (hide x) := by simp [hidden, h]
    refine ⟨fun ⟨y, hy, sy⟩ => ?_, fun n => ?_⟩
    · rw [h] at hy; cases hy
      exact ⟨sy, hz⟩
    · cases x with
      | suspended k l c p fs cl => exact (n ⟨_, h, trivial⟩).elim
      | _ => exact ⟨trivial, hz⟩
end GZ
end
section
set_option Elab.async false
set_option linter.all false
set_option autoImplicit false
set_option maxRecDepth 100000
namespace GZ
open PySem PySem.Spec PyProof.Rows L2

def cut (s : Shared) (n : Nat) : Shared := { s with heap := { s.heap with objs := s.heap.objs.extract 0 n } }
theorem cut_get (s : Shared) (n b : Nat) : (cut s n).heap.get? b = if b < n then s.heap.get? b else none := by
  show (match (s.heap.objs.extract 0 n)[b]? with | some ⟨_, _, .freed, _⟩ => none | o => o) = _
  rw [Array.getElem?_extract]
  by_cases h : b < n
  · rw [if_pos h]
    simp only [Nat.zero_add, Nat.sub_zero]
    by_cases h2 : b < s.heap.objs.size
    · rw [if_pos (by omega)]; rfl
    · rw [if_neg (by omega)]
      unfold Heap.get?
      rw [Array.getElem?_eq_none (by omega)]
  · rw [if_neg h, if_neg (by omega)]
theorem cut_at {s : Shared} {n b : Nat} {o : Obj} (h : (cut s n).heap.get? b = some o) : b < n ∧ s.heap.get? b = some o := by
  rw [cut_get] at h
  by_cases z : b < n
  · rw [if_pos z] at h; exact ⟨z, h⟩
  · rw [if_neg z] at h; cases h
theorem cut_size {s : Shared} {n : Nat} (h : n ≤ s.heap.objs.size) : (cut s n).heap.objs.size = n := by
  show (s.heap.objs.extract 0 n).size = n
  rw [Array.size_extract]; omega
theorem un_cut (fs ex : List Addr) (H : Hp) (s : Shared) (n : Nat) : Un fs ex H H (cut s n).heap s.heap :=
  ⟨fun b o e _ _ _ => (cut_at e).2, fun b o e _ _ _ => ⟨o.slots, (cut_at e).2⟩, fun _ _ _ n _ => n, fun b o e _ => ⟨o, (cut_at e).2⟩, fun _ _ q => q, fun _ _ _ q => q, fun b ps q => ⟨#[], by rw [q]; simp⟩⟩
end GZ
namespace GZ
open PySem PySem.Spec PyProof.Rows L2
abbrev re (X : Cx) (s : Shared) (n : Nat) (H : Hp) (xe : Value → Shared → Prop) : Cx := { X with s_0 := cut s n, H_0 := H, xe := xe }
theorem rebase {X : Cx} {pins : List (Addr × Obj)} {σ : L2.St} {H1 H2 : Hp} {s1 s2 : Shared} {n : Nat} {xe : Value → Shared → Prop} (I : Inv X pins σ H1 s1) (hn : X.s_0.heap.objs.size = n) (hz : n ≤ s2.heap.objs.size)
    (bare : AllBare s2.gens) (hok : HOk X.prog X.w H2 s2.heap) (own : ∀ o, s1.heap.get? X.env.locals = some o → s2.heap.get? X.env.locals = some o) (hL : H2 X.env.locals = none)
    (cells : ∀ x c o, X.env.cells.lookup x = some c → s1.heap.get? c = some o → s2.heap.get? c = some o ∧ H2 c = none) (pk : ∀ p ∈ X.pn ++ pins, s2.heap.get? p.1 = some p.2 ∧ H2 p.1 = none)
    (bs : ∀ b o, X.base.get? b = some o → s2.heap.get? b = some o ∧ H2 b = none) (funs : (cut s2 n).heap.FunFrames X.base X.outer) (frf : ∀ b ∈ X.fs, H2 b = none) : Inv (re X s2 n H2 xe) pins σ H2 s2 := by
  have cellK : ∀ x c, X.env.cells.lookup x = some c → ∀ v, s1.heap.IsCell c v → s2.heap.IsCell c v := fun x c e v ⟨o, ho, hd⟩ => ⟨o, (cells x c o e ho).1, hd⟩
  refine ⟨⟨I.ok.mod, I.ok.kind, I.ok.glob, I.ok.blt, ?_, I.ok.inj, I.ok.has, ?_, I.ok.hd, I.ok.frames, I.ok.stk, I.ok.exf, ?_, ?_, I.ok.noex, I.ok.exfs, funs, frf⟩, rfl, bare, un_cut _ _ _ _ _, ?_, fun x c e => ?_, hL, fun x c e => ?_, fun p hp => ?_, hok, I.len⟩
  · show (cut s2 n).heap.objs.size ≤ _
    rw [cut_size hz, ← hn]; exact I.ok.above
  · intro x c h e
    show (cut s2 n).heap.objs.size ≤ _
    rw [cut_size hz, ← hn]; exact I.ok.cab x c h e
  · intro b o e
    refine ⟨?_, (bs b o e).2⟩
    show (cut s2 n).heap.get? b = some o
    rw [cut_get, if_pos, (bs b o e).1]
    rw [← hn]
    exact Heap.lt_size (I.ok.bs b o e).1
  · show X.base.objs.size ≤ (cut s2 n).heap.objs.size
    rw [cut_size hz, ← hn]; exact I.ok.bsz
  · obtain ⟨m, ⟨o, es, ep, ho, r⟩, hl⟩ := I.loc
    refine ⟨m, ⟨o, es, ep, own o ho, r⟩, fun i x v e1 e2 e3 => ?_⟩
    obtain ⟨u, rv, l⟩ := hl i x v e1 e2 e3
    refine ⟨u, rv, ?_⟩
    rcases l with l | ⟨k, c, e, z⟩
    · exact .inl l
    · exact .inr ⟨k, c, e, cellK x c e _ z⟩
  · obtain ⟨v, z⟩ := I.cell x c e
    exact ⟨v, cellK x c e v z⟩
  · obtain ⟨v, o, ho, _⟩ := I.cell x c e
    exact (cells x c o e ho).2
  · obtain ⟨_, _, h3, h4, h5⟩ := I.pin p hp
    exact ⟨(pk p hp).1, (pk p hp).2, h3, h4, h5⟩
theorem after {X : Cx} {pins : List (Addr × Obj)} {σ : L2.St} {H H' : Hp} {s s' : Shared} {n : Nat} (I : Inv X pins σ H s) (hs : X.s_0.heap.objs.size ≤ n) (hl : X.env.locals < n) (hc : ∀ x c, X.env.cells.lookup x = some c → c < n) (hp : ∀ p ∈ X.pn ++ pins, p.1 < n)
    (u : Un (frs X.stack) [] H H' (cut s n).heap s'.heap) (os : s'.os = s.os) (hok : HOk X.prog X.w H' s'.heap) (hg : AllBare s'.gens) : Inv X pins σ H' s' := by
  obtain ⟨h', g', d', t', o'⟩ := s'
  have os : o' = s.os := os
  subst os
  have lt : ∀ b, b ∉ (List.range s.heap.objs.size).filter (fun b => decide (n ≤ b)) → ∀ o, s.heap.get? b = some o → (cut s n).heap.get? b = some o := fun b hb o e => by
    have hz := Heap.lt_size e
    rw [cut_get, if_pos, e]
    rcases Nat.lt_or_ge b n with q | q
    · exact q
    · exact (hb (List.mem_filter.mpr ⟨List.mem_range.mpr hz, decide_eq_true q⟩)).elim
  refine I.call (ch := (List.range s.heap.objs.size).filter fun b => decide (n ≤ b)) ⟨fun b o e q hf hx => u.keep b o (lt b hx o e) q hf (by simp), fun b o e q hf hx => u.slot b o (lt b hx o e) q hf (by simp), fun b o e q hx => u.free b o (lt b hx o e) q (by simp), fun b o e q => u.there b o (lt b q o e) (by simp), u.tups, u.frzs, u.tbls⟩ hok hg fun b hb => ?_
  have hb2 : n ≤ b := of_decide_eq_true (List.mem_filter.mp hb).2
  refine ⟨.inr (Nat.le_trans hs hb2), fun e => ?_, fun x c e z => ?_, fun p hq z => ?_⟩
  · rw [e] at hb2; exact absurd (Nat.lt_of_lt_of_le hl hb2) (Nat.lt_irrefl _)
  · have q := hc x c e
    rw [z] at q; exact absurd (Nat.lt_of_lt_of_le q hb2) (Nat.lt_irrefl _)
  · have q := hp p hq
    rw [z] at q; exact absurd (Nat.lt_of_lt_of_le q hb2) (Nat.lt_irrefl _)
end GZ
end
section
set_option Elab.async false
set_option linter.all false
set_option autoImplicit false
set_option maxRecDepth 100000
namespace GZ
open PySem
open Sem (wp)
section
variable {prog : Program} {w : World} {A : Around} {R : GenEnd} {Y : Protocol} {n : Nat} {s₀ : Shared} {c : Code} {fs : List Frame} {s : Shared} {env : Env}
  {K : Flow → Sem PySem.Fin} {H : Value → Sem PySem.Fin} {gd : Bool → Bool} {lv : List Value → List Value}
abbrev noted (env : Env) (e : Value) : Sem PySem.Fin := (do noteFrame e env; theTreesLotGoes e : Sem Unit).wrap (fun _ => .raise e) .raise id id
theorem seg_forLoop {target : Expr} {it : Value} {body : List Stmt}
    (h : wpAny (model prog w) (A.over (.forLoop target it body [] env) fs) (pyNext it) (fun r s1 => match r with
      | none => Seg (model prog w) A R Y n s₀ (.block [] env) ((model prog w).den (.block [] env)) fs s1
      | some v => wpAny (model prog w) (A.over (.forLoop target it body [] env) fs) (letOwnedTupleGo target it v) (fun _ s2 => wpAny (model prog w) (A.over (.forLoop target it body [] env) fs) (assign target env v) (fun _ s3 =>
          Seg (model prog w) A R Y n s₀ (.forLoop target it body [] env) ((execs body env).wrap (fun f => match f with
            | .next | .cont => .pure (.again (.forLoop target it body [] env))
            | .brk => .pure (.done .next)
            | .ret v => .pure (.done (.ret v))) (noted env) id id) fs s3)
          (fun e s3 => Seg (model prog w) A R Y n s₀ (.forLoop target it body [] env) (noted env e) fs s3) s2)
        (fun e s2 => Seg (model prog w) A R Y n s₀ (.forLoop target it body [] env) (noted env e) fs s2) s1)
      (fun e s1 => Seg (model prog w) A R Y n s₀ (.forLoop target it body [] env) (noted env e) fs s1) s) :
    Seg (model prog w) A R Y n s₀ (.forLoop target it body [] env) ((model prog w).den (.forLoop target it body [] env)) fs s := by
  show Seg _ A R Y n s₀ _ ((forTurn target it body [] env).onRaise (fun x => do noteFrame x env; theTreesLotGoes x)) fs s
  have back : ∀ {e : Value} {s1 : Shared}, Seg (model prog w) A R Y n s₀ (.forLoop target it body [] env) (noted env e) fs s1 → Seg (model prog w) A R Y n s₀ (.forLoop target it body [] env) ((do noteFrame e env; theTreesLotGoes e : Sem Unit).bind fun _ => .raise e) fs s1 := fun {e s1} q => by
    rw [Sem.bind_eq_wrap]; exact q
  unfold forTurn
  rw [Sem.onRaise_eq_wrap]
  refine seg_bind_wrap (wpAny_standAt ?_)
  refine seg_bind_wrap (wpAny_onRaise (wpAny_mono h (fun r s1 h1 => ?_) fun e s1 h1 => wpAny_standAt (back h1)))
  cases r with
  | none =>
    exact seg_again rfl h1
  | some v =>
    refine seg_bind_wrap (wpAny_mono h1 (fun _ s2 h2 => ?_) fun e s2 h2 => back h2)
    refine seg_bind_wrap (wpAny_mono h2 (fun _ s3 h3 => ?_) fun e s3 h3 => back h3)
    rw [Sem.bind_eq_wrap', Sem.wrap_wrap]
    refine (congrArg (fun t => Seg (model prog w) A R Y n s₀ (.forLoop target it body [] env) t fs s3) (Sem.wrap_congr (execs body env) id id (fun f => ?_) (fun e => ?_))).mpr h3
    · cases f <;> rfl
    · exact Sem.bind_eq_wrap _ _
theorem seg_If {test : Expr} {body orelse : List Stmt} {pos : Pos}
    (h : wpAny (model prog w) (A.over c fs) (isTrue test env (eval test env)) (fun b s1 => if b = true then Seg (model prog w) A R Y n s₀ c ((execs body env).wrap K H gd lv) fs s1 else Seg (model prog w) A R Y n s₀ c ((execs orelse env).wrap K H gd lv) fs s1)
      (fun e s1 => Seg (model prog w) A R Y n s₀ c (H e) fs s1) s) :
    Seg (model prog w) A R Y n s₀ c ((exec (.If test body orelse pos) env).wrap K H gd lv) fs s := by
  rw [exec_If]
  refine seg_bind_wrap (wpAny_standAt ?_)
  refine seg_bind_wrap (wpAny_mono h (fun b s1 h1 => ?_) fun e s1 h1 => h1)
  cases b with
  | true => rw [if_pos rfl] at h1; exact h1
  | false => rw [if_neg Bool.false_ne_true] at h1; exact h1
theorem seg_For {target iter : Expr} {body : List Stmt} {pos : Pos}
    (h : wpAny (model prog w) (A.over c fs) (eval iter env) (fun x s1 => wpAny (model prog w) (A.over c fs) (pyIter x) (fun it s2 => ∀ p, Seg (model prog w) A R Y n s₀ (.forLoop target it body [] env) ((model prog w).den (.forLoop target it body [] env))
      (.ret (fun r => ((match r with | .ok f => (.pure f : Sem Flow) | .error e => .raise e).onRaise fun (x : Value) => do
        if (← field x 1) == Value.none then unsupported "frame.own-activation:exception-without-traceback"
        setFlight x env.frame).wrap K H gd lv) none (gd false) (lv []) c p [] :: fs) s2) (fun e s2 => Seg (model prog w) A R Y n s₀ c (H e) fs s2) s1) (fun e s1 => Seg (model prog w) A R Y n s₀ c (H e) fs s1) s)
    (hs : ∀ x, foldedSetIterable iter env x = pure x := by intro _; rfl) :
    Seg (model prog w) A R Y n s₀ c ((exec (.For target iter body [] pos) env).wrap K H gd lv) fs s := by
  rw [exec_For]
  refine seg_bind_wrap (wpAny_standAt ?_)
  refine seg_bind_wrap (wpAny_mono h (fun x s1 h1 => ?_) fun e s1 h1 => h1)
  refine seg_bind_wrap (wpAny_of_eq (hs x) ?_)
  refine seg_bind_wrap (wpAny_standAt ?_)
  refine seg_bind_wrap (wpAny_holding (wpAny_mono h1 (fun it s2 h2 => ?_) fun e s2 h2 => h2))
  exact seg_call h2
end
end GZ
end
section
set_option Elab.async false
set_option linter.all false
set_option autoImplicit false
set_option maxRecDepth 100000
namespace GZ
open PySem PySem.Spec PyProof.Rows L2
open Sem (wp)

abbrev kept (o : Obj) : HO := .frz o (.ext fun _ => True)
def hz (n : Nat) (own : List Addr) (L : Option Addr) (xs : List V) (s : Shared) : Hp := fun b =>
  if L = some b then some (.lst xs) else if n ≤ b ∧ b ∉ own then (s.heap.get? b).map kept else none
section
variable {n : Nat} {own : List Addr} {L : Option Addr} {xs : List V} {s : Shared} {b : Addr} {o : Obj}
theorem hz_L {a : Addr} : hz n own (some a) xs s a = some (.lst xs) := if_pos rfl
theorem hz_frz (h1 : L ≠ some b) (h2 : n ≤ b) (h3 : b ∉ own) (e : s.heap.get? b = some o) : hz n own L xs s b = some (kept o) := by
  unfold hz
  rw [if_neg h1, if_pos ⟨h2, h3⟩, e]; rfl
theorem hz_low (h1 : L ≠ some b) (h2 : b < n) : hz n own L xs s b = none := by
  unfold hz
  rw [if_neg h1, if_neg fun z => absurd h2 (Nat.not_lt.mpr z.1)]
theorem hz_own (h1 : L ≠ some b) (h2 : b ∈ own) : hz n own L xs s b = none := by
  unfold hz
  rw [if_neg h1, if_neg fun z => z.2 h2]
theorem hz_ok {P : Program} {w : World} (h : ∀ a, L = some a → ∀ H, ObjOk P w H s.heap a (.lst xs)) : HOk P w (hz n own L xs s) s.heap := fun b u e => by
  unfold hz at e
  by_cases z : L = some b
  · rw [if_pos z] at e
    cases e
    exact h b z _
  · rw [if_neg z] at e
    by_cases y : n ≤ b ∧ b ∉ own
    · rw [if_pos y] at e
      cases q : s.heap.get? b with
      | none => rw [q] at e; cases e
      | some ob =>
        rw [q] at e
        cases e
        exact ⟨q, trivial, ⟨ob, q⟩, fun _ _ _ _ => trivial⟩
    · rw [if_neg y] at e; cases e
end
structure Sgm (P : Program) (w : World) (fs : List Addr) (n : Nat) (own : List Addr) (L : Option Addr) (xs : List V) (s₀ s : Shared) (He : Hp) : Prop where
  un : Un fs [] (hz n own L xs s₀) He (cut s₀ n).heap s.heap
  hok : HOk P w He s.heap
  os : s.os = s₀.os
  bare : AllBare s.gens
  own : ∀ b ∈ own, He b = none
  lines : ∀ a, L = some a → He a = some (.lst xs)
theorem cut_lt {s : Shared} {n b : Nat} {o : Obj} (h : b < n) (e : s.heap.get? b = some o) : (cut s n).heap.get? b = some o := by
  rw [cut_get, if_pos h, e]
theorem Sgm.old {P : Program} {w : World} {fs : List Addr} {n : Nat} {own : List Addr} {L : Option Addr} {xs : List V} {s₀ s : Shared} {He : Hp} (S : Sgm P w fs n own L xs s₀ s He) {b : Addr} {o : Obj} {u : HO}
    (e : s₀.heap.get? b = some o) (h : He b = some u) : (L = some b ∧ u = .lst xs) ∨ u = kept o := by
  by_cases z : L = some b
  · have q := S.lines b z
    rw [h] at q
    exact .inl ⟨z, Option.some.inj q⟩
  · rcases Nat.lt_or_ge b n with y | y
    · have q := S.un.free b o (cut_lt y e) (hz_low z y) (by simp)
      rw [h] at q; cases q
    · by_cases x : b ∈ own
      · have q := S.own b x
        rw [h] at q; cases q
      · have q := S.un.frzs b o _ (hz_frz (xs := xs) z y x e)
        rw [h] at q
        exact .inr (Option.some.inj q)
def mix (s : Shared) (H He : Hp) : Hp := fun b => match s.heap.get? b with
  | none => He b
  | some _ => H b
theorem mix_old {s : Shared} {H He : Hp} {b : Addr} {o : Obj} (e : s.heap.get? b = some o) : mix s H He b = H b := by unfold mix; rw [e]
theorem mix_new {s : Shared} {H He : Hp} {b : Addr} (e : s.heap.get? b = none) : mix s H He b = He b := by unfold mix; rw [e]
theorem ho_there {P : Program} {w : World} {H : Hp} {h : Heap} (k : HOk P w H h) {b : Addr} {u : HO} (e : H b = some u) : ∃ o, h.get? b = some o := by
  have x := k b u e
  cases u with
  | lst xs => obtain ⟨_, _, _, _, e⟩ := x; exact ⟨_, e⟩
  | tup xs => obtain ⟨_, _, _, o, e, _⟩ := x; exact ⟨_, e⟩
  | dK kvs => obtain ⟨_, _, _, _, o, _, _, e, _⟩ := x; exact ⟨_, e⟩
  | dT kvs => obtain ⟨_, _, _, _, o, _, _, e, _⟩ := x; exact ⟨_, e⟩
  | set S n => obtain ⟨o, _, _, _, e, _⟩ := x; exact ⟨_, e⟩
  | ins C dx fs => obtain ⟨_, _, _, e, _⟩ := x; exact ⟨_, e⟩
  | own y => exact x
  | xd fs => obtain ⟨_, ⟨_, _, _, e, _⟩, _⟩ := x; exact ⟨_, e⟩
  | rng lo hi => obtain ⟨_, _, _, e⟩ := x; exact ⟨_, e⟩
  | frz ob u => obtain ⟨e, _⟩ := x; exact ⟨_, e⟩
  | tbl ps => exact ⟨_, x⟩
  | met f y => exact ⟨_, x⟩
  | ext φ => obtain ⟨_, e, _⟩ := x; exact e
theorem mix_keep {P : Program} {w : World} {H He : Hp} {s : Shared} (k : HOk P w H s.heap) {b : Addr} {u : HO} (e : H b = some u) : mix s H He b = some u := by
  obtain ⟨o, q⟩ := ho_there k e
  rw [mix_old q, e]
theorem after2 {X : Cx} {pins : List (Addr × Obj)} {σ : L2.St} {H He : Hp} {s₀ s : Shared} {n : Nat} {own : List Addr} {L : Option Addr} {xs : List V} (I : Inv X pins σ H s₀) (hs : X.s_0.heap.objs.size ≤ n) (hl : X.env.locals < n) (hc : ∀ x c, X.env.cells.lookup x = some c → c < n)
    (hp : ∀ p ∈ X.pn ++ pins, p.1 < n) (S : Sgm X.prog X.w (frs X.stack) n own L xs s₀ s He) (ho : ∀ b ∈ own, H b = none) (hL : ∀ a, L = some a → H a = some (.lst xs)) : Inv X pins σ (mix s₀ H He) s := by
  have nL : ∀ b, H b = none → L ≠ some b := fun b h z => by rw [hL b z] at h; cases h
  -- what the consumer tracks is kept
  have trk : ∀ c u, H c ≠ none → L ≠ some c → s₀.heap.get? c = some u → s.heap.get? c = some u := fun c u h z e => by
    rcases Nat.lt_or_ge c n with y | y
    · exact S.un.keep c u (cut_lt y e) (hz_low z y) (fun m => h (I.stkFree c m)) (by simp)
    · exact (S.hok c _ (S.un.frzs c u _ (hz_frz (xs := xs) z y (fun m => h (ho c m)) e))).1
  have km : ∀ b u, H b = some u → mix s₀ H He b = some u := fun b u e => mix_keep I.hok e
  refine after I hs hl hc hp ⟨fun b o e q hf hx => ?_, fun b o e q hf hx => ?_, fun b o e q hx => ?_, fun b o e hx => ?_, fun b ys q => km b _ q, fun b ob u q => km b _ q, fun b ps q => ⟨#[], by rw [km b _ q]; simp⟩⟩ S.os (fun b u e => ?_) S.bare
  · obtain ⟨y, _⟩ := cut_at e
    exact S.un.keep b o e (hz_low (nL b q) y) hf (by simp)
  · obtain ⟨y, _⟩ := cut_at e
    exact S.un.slot b o e (hz_low (nL b q) y) hf (by simp)
  · obtain ⟨_, e2⟩ := cut_at e
    rw [mix_old e2]; exact q
  · exact S.un.there b o e (by simp)
  · cases q : s₀.heap.get? b with
    | none =>
      rw [mix_new q] at e
      have nw : ∀ c u, He c = some u → (∀ ob, u ≠ kept ob) → (u ≠ .lst xs) → mix s₀ H He c = some u := fun c u h h2 h3 => by
        cases r : s₀.heap.get? c with
        | none => rw [mix_new r]; exact h
        | some oc =>
          rcases S.old r h with ⟨_, z⟩ | z
          · exact (h3 z).elim
          · exact (h2 _ z).elim
      refine (S.hok b u e).stay (fun c v _ y => y) (fun c y => nw c _ y (fun ob z => nomatch z) fun z => nomatch z) fun c ys y => nw c _ y (fun ob z => nomatch z) fun z => nomatch z
    | some ob =>
      rw [mix_old q] at e
      by_cases z : L = some b
      · have e2 := hL b z
        rw [e] at e2
        cases e2
        exact S.hok b _ (S.lines b z)
      · refine (I.hok b u e).stay (fun c v hc2 y => ?_) (fun c y => km c _ y) fun c ys y => km c _ y
        rcases hc2 with rfl | hc2
        · exact trk c v (by rw [e]; exact fun z => nomatch z) z y
        · exact trk c v (by rw [hc2]; exact fun z => nomatch z) (fun z => by have := hL c z; rw [hc2] at this; cases this) y
theorem inv_gens {X : Cx} {pins : List (Addr × Obj)} {σ : L2.St} {H : Hp} {s : Shared} (I : Inv X pins σ H s) {G : Array GenState} (h : AllBare G) : Inv X pins σ H { s with gens := G } :=
  ⟨I.ok, I.os, h, I.base, I.loc, I.cell, I.free, I.freeC, I.pin, I.hok, I.len⟩
theorem tw_bare {I : Nat → Prop} {z s : Shared} (t : Tw I z s) (h : AllBare z.gens) : AllBare s.gens := fun x hx => by
  obtain ⟨i, hi, e⟩ := Array.mem_iff_getElem.mp hx
  have q : s.gens[i]? = some x := by rw [Array.getElem?_eq_getElem hi, e]
  obtain ⟨a, b⟩ := t.at_ i x q
  by_cases y : I i
  · have := h _ (Array.mem_of_getElem? (a y).2)
    rw [hide_bare] at this; exact this
  · exact h _ (Array.mem_of_getElem? (b y).2)
theorem bare_hidden {s : Shared} (h : AllBare s.gens) : AllBare (hidden s).gens := fun x hx => by
  obtain ⟨y, hy, rfl⟩ := Array.mem_map.mp (show x ∈ s.gens.map hide from hx)
  rw [hide_bare]; exact h y hy
theorem inv_tw {X : Cx} {pins : List (Addr × Obj)} {σ : L2.St} {H : Hp} {I : Nat → Prop} {z s : Shared} (t : Tw I z s) (J : Inv X pins σ H z) : Inv X pins σ H s := by
  obtain ⟨h, g, d, tk, os⟩ := z
  obtain ⟨h', g', d', tk', os'⟩ := s
  obtain rfl : h = h' := t.heap
  obtain rfl : os = os' := t.os
  exact ⟨J.ok, J.os, tw_bare t J.bare, J.base, J.loc, J.cell, J.free, J.freeC, J.pin, J.hok, J.len⟩
theorem sp_tw {X : Cx} {pins : List (Addr × Obj)} {D : Ends} {f : Flow} {I : Nat → Prop} {z s : Shared} (t : Tw I z s) (J : SP X pins D f z) : SP X pins D f s := by
  cases f with
  | next => obtain ⟨σ, H, I', q⟩ := J; exact ⟨σ, H, inv_tw t I', q⟩
  | brk => obtain ⟨σ, H, I', q⟩ := J; exact ⟨σ, H, inv_tw t I', q⟩
  | cont => obtain ⟨σ, H, I', q⟩ := J; exact ⟨σ, H, inv_tw t I', q⟩
  | ret u => obtain ⟨v, σ, H, I', r, q⟩ := J; exact ⟨v, σ, H, inv_tw t I', r, q⟩
theorem cx_tw {P : Program} {w : World} {outer : List Env} {H : Hp} {s0 : Shared} {E : XK} {u : Value} {I : Nat → Prop} {z s : Shared} (t : Tw I z s) (J : CX P w outer H s0 E u z) : CX P w outer H s0 E u s := by
  obtain ⟨a, B, H', cls, d, e1, e2, e3, e4, e5, e6, e7, e8⟩ := J
  exact ⟨a, B, H', cls, d, e1, t.heap ▸ e2, e3, t.heap ▸ e4, e5, t.os ▸ e6, tw_bare t e7, e8⟩
def XeTw (X : Cx) : Prop := ∀ (I : Nat → Prop) (z s : Shared) (e : Value), Tw I z s → X.xe e z → X.xe e s
theorem xetw_of {X : Cx} {M : Model} {A : Around} {env : Env} {P : Program} {w : World} {outer : List Env} {H : Hp} {s0 : Shared} {E : XK} (h : X.xe = fun e s' => wpAny M A (leaving env e) (fun _ s'' => CX P w outer H s0 E e s'') (fun e' s'' => CX P w outer H s0 E e' s'') s') : XeTw X := fun I z s e t q => by
  rw [h] at q ⊢
  exact wpAny_mono (wpAny_tw t q) (fun _ s'' ⟨z', q', t', _⟩ => cx_tw t' q') fun _ s'' ⟨z', q', t', _⟩ => cx_tw t' q'
theorem pss_keeps {X : Cx} {body : List Stmt} {tb : TS} (hb : PSs X body tb) (hx : XeTw X) {pins : List (Addr × Obj)} {s : Shared} {σ : L2.St} {H : Hp} {D : Ends} (I : Inv X pins σ H s) (h : tb D σ H) :
    wpAny (model X.prog X.w) X.A (execs body X.env) (fun f s' => SP X pins D f s' ∧ ∀ i, Sl s i → s'.gens[i]? = s.gens[i]?) X.xe s := by
  have t := tw_hidden s
  have J : Inv X pins σ H (hidden s) := ⟨I.ok, I.os, bare_hidden I.bare, I.base, I.loc, I.cell, I.free, I.freeC, I.pin, I.hok, I.len⟩
  exact wpAny_mono (wpAny_tw t (hb.run pins (hidden s) σ H D J h)) (fun f s' ⟨z', q, t', k⟩ => ⟨sp_tw t' q, fun i hi => k i hi⟩) fun e s' ⟨z', q, t', k⟩ => hx _ _ _ e t' q
end GZ
end
section
set_option Elab.async false
set_option linter.all false
set_option autoImplicit false
set_option maxRecDepth 100000
namespace GZ
open PySem PyProof.Rows
open Sem (wp)

def SegQ (M : Model) (A : Around) (Φ : End → Shared → Prop) (c : Code) (t : Sem PySem.Fin) (fs : List Frame) (s : Shared) : Prop :=
  ∀ Γ p, Γ.code = c → Γ.Woken A → ∃ e s', Runs M Γ p t fs s e s' ∧ Φ e s'
section
variable {M : Model} {A : Around} {Φ : End → Shared → Prop} {c : Code} {fs : List Frame} {s : Shared} {α β : Type}
theorem sq_wrap {m : Sem α} {K : α → Sem PySem.Fin} {H : Value → Sem PySem.Fin} {gd : Bool → Bool} {lv : List Value → List Value}
    (h : wpAny M (A.over c fs) m (fun a s' => SegQ M A Φ c (K a) fs s') (fun x s' => SegQ M A Φ c (H x) fs s') s) : SegQ M A Φ c (m.wrap K H gd lv) fs s := by
  rintro Γ p rfl hΓ
  exact runs_wrap_of_wp K H gd lv m (h (Γ.over fs) p (hΓ.over fs)) (fun a p' s' h' => h' Γ p' rfl hΓ) fun x p' s' h' => h' Γ p' rfl hΓ
theorem sq_bind {m : Sem α} {K : α → Sem PySem.Fin} (h : wpAny M (A.over c fs) m (fun a s' => SegQ M A Φ c (K a) fs s') (fun x s' => SegQ M A Φ c (.raise x) fs s') s) : SegQ M A Φ c (m >>= K) fs s := by
  rw [Sem.bind_eq_wrap']; exact sq_wrap h
theorem sq_bind_wrap {m : Sem α} {K : α → Sem β} {K' : β → Sem PySem.Fin} {H' : Value → Sem PySem.Fin} {gd : Bool → Bool} {lv : List Value → List Value}
    (h : wpAny M (A.over c fs) m (fun a s' => SegQ M A Φ c ((K a).wrap K' H' gd lv) fs s') (fun x s' => SegQ M A Φ c (H' x) fs s') s) : SegQ M A Φ c ((m >>= K).wrap K' H' gd lv) fs s := by
  rw [Sem.bind_eq_wrap', Sem.wrap_wrap]; exact sq_wrap h
theorem sq_at {p' : Pos} {k : Unit → Sem PySem.Fin} (h : SegQ M A Φ c (k ()) fs s) : SegQ M A Φ c (.at p' k) fs s :=
  sq_wrap (m := standAt p') (K := k) (H := .raise) (gd := id) (lv := id) (wpAny_standAt h)
theorem sq_point {l : List Value} {k : Unit → Sem PySem.Fin} (h : SegQ M A Φ c (k ()) fs s) : SegQ M A Φ c (.point l k) fs s :=
  sq_wrap (m := point) (K := k) (H := .raise) (gd := id) (lv := fun _ => l) (wpAny_point h)
theorem sq_call {c' : Code} {h : Option Value} {g : Bool} {l : List Value} {k : Result → Sem PySem.Fin} (hc : ∀ p, SegQ M A Φ c' (M.den c') (.ret k h g l c p [] :: fs) s) : SegQ M A Φ c (.call c' h g l k) fs s := by
  rintro Γ p rfl hΓ
  obtain ⟨e, s', hr, he⟩ := hc p (Γ.goto c') p rfl (hΓ.goto c')
  exact ⟨e, s', runs_call_seg hr, he⟩
theorem sq_leaf {k : Result → Sem PySem.Fin} {h : Option Value} {g : Bool} {l kp : List Value} {c₁ : Code} {p₁ : Pos} (r : Result) (hk : SegQ M A Φ c₁ (k r) fs s) : SegQ M A Φ c (leafOf r) (.ret k h g l c₁ p₁ kp :: fs) s := by
  rintro Γ p rfl hΓ
  obtain ⟨e, s', hr, he⟩ := hk (Γ.goto c₁) p₁ rfl (hΓ.goto c₁)
  exact ⟨e, s', Runs.pop r hr, he⟩
theorem sq_again {c' : Code} (hq : c'.quiet = true) (hc : SegQ M A Φ c' (M.den c') fs s) : SegQ M A Φ c (.pure (.again c')) fs s := by
  rintro Γ p rfl hΓ
  obtain ⟨e, s', hr, he⟩ := hc (Γ.goto c') p rfl (hΓ.goto c')
  exact ⟨e, s', Runs.head (c₁ := c') (fun _ _ x => .again hq x) hr, he⟩
theorem sq_end (r : Result) (h : Φ (.ret r) s) : SegQ M A Φ c (leafOf r) [] s := by
  rintro Γ p rfl _
  exact ⟨.ret r, s, Runs.leaf r, h⟩
theorem sq_yield {v : Value} {g : Bool} {l : List Value} {k : Resume → Sem PySem.Fin} (hfs : splitAtGen fs = none) (h : ∀ p, Φ (.susp v g l k c p fs) s) : SegQ M A Φ c (.yield v g l k) fs s := by
  rintro Γ p rfl _
  exact ⟨_, s, Runs.yield' fs hfs, h p⟩
end
section
variable {M : Model} {A : Around} {Φ : End → Shared → Prop} {c : Code} {fs : List Frame} {s : Shared} {env : Env} {K : Flow → Sem PySem.Fin} {H : Value → Sem PySem.Fin} {gd : Bool → Bool} {lv : List Value → List Value}
theorem sq_execs_nil (h : SegQ M A Φ c (K .next) fs s) : SegQ M A Φ c ((execs [] env).wrap K H gd lv) fs s := h
theorem sq_execs_cons {st : Stmt} {rest : List Stmt} (h : SegQ M A Φ c ((exec st env).wrap (fun f => match f with | .next => (execs rest env).wrap K H gd lv | f => K f) H gd lv) fs s) : SegQ M A Φ c ((execs (st :: rest) env).wrap K H gd lv) fs s := by
  rw [execs_cons_wrap]; exact h
theorem sq_Expr_Yield {e : Expr} {ypos pos : Pos} (hfs : splitAtGen fs = none)
    (h : wpAny M (A.over c fs) (eval e env) (fun v s' => ∀ (g : Bool) (l : List Value) (k : Resume → Sem PySem.Fin) (p : Pos), g = gd false → (∀ s'', SegQ M A (fun _ _ => True) c (K .next) fs s'' → True) →
        (∀ (A' : Around) (Φ' : End → Shared → Prop) s'', SegQ M A' Φ' c (K .next) fs s'' → SegQ M A' Φ' c (k (.send .none)) fs s'') → Φ (.susp v g l k c p fs) s') (fun x s' => SegQ M A Φ c (H x) fs s') s)
    (hco : env.scope.isCoroutine = false := by rfl) (hi : interactive env = false := by rfl) : SegQ M A Φ c ((exec (.Expr (.Yield (some e) ypos) pos) env).wrap K H gd lv) fs s := by
  rw [exec_Expr env _ pos hi rfl]
  show SegQ M A Φ c (.at pos fun _ => ((eval e env >>= fun v => (standAt ypos >>= fun _ => yieldOut env v)) >>= fun x => dropValue (.Yield (some e) ypos) pos x).wrap K H gd lv) fs s
  have hy : ∀ v, yieldOut env v = yieldValue v := fun v => by simp only [yieldOut, hco, Bool.false_eq_true, if_false]
  simp only [hy]
  refine sq_at ?_
  rw [Sem.bind_eq_wrap', Sem.bind_eq_wrap', Sem.wrap_wrap, Sem.wrap_wrap]
  refine sq_wrap (wpAny_mono h (fun v s' h' => ?_) fun _ _ x => x)
  refine sq_at (sq_yield hfs fun p => ?_)
  exact h' _ _ _ p rfl (fun _ _ => trivial) fun A' Φ' s'' q => q
end
section
variable {prog : Program} {w : World} {A : Around} {Φ : End → Shared → Prop} {c : Code} {fs : List Frame} {s : Shared} {env : Env} {K : Flow → Sem PySem.Fin} {H : Value → Sem PySem.Fin} {gd : Bool → Bool} {lv : List Value → List Value}
theorem sq_func {body : List Stmt}
    (h : SegQ (model prog w) A Φ (.func body env) ((execs body env).wrap (fun f => .pure (.done (.ret (match f with | .ret v => v | _ => .none)))) (fun e => (leaving env e).wrap (fun _ => .raise e) .raise id id) id id) fs s) :
    SegQ (model prog w) A Φ (.func body env) ((model prog w).den (.func body env)) fs s := by
  show SegQ _ A Φ _ (.point [] fun _ => ((execs body env).onRaise (leaving env)) >>= _) fs s
  refine sq_point ?_
  rw [Sem.onRaise_eq_wrap, Sem.bind_eq_wrap', Sem.wrap_wrap]
  refine (congrArg (fun t => SegQ (model prog w) A Φ (.func body env) t fs s) (Sem.wrap_congr (execs body env) _ _ (fun f => ?_) (fun e => ?_))).mpr h
  · cases f <;> rfl
  · rw [Sem.bind_eq_wrap, Sem.wrap_wrap]; rfl
theorem sq_forLoop {target : Expr} {it : Value} {body : List Stmt}
    (h : wpAny (model prog w) (A.over (.forLoop target it body [] env) fs) (pyNext it) (fun r s1 => match r with
      | none => SegQ (model prog w) A Φ (.block [] env) ((model prog w).den (.block [] env)) fs s1
      | some v => wpAny (model prog w) (A.over (.forLoop target it body [] env) fs) (letOwnedTupleGo target it v) (fun _ s2 => wpAny (model prog w) (A.over (.forLoop target it body [] env) fs) (assign target env v) (fun _ s3 =>
          SegQ (model prog w) A Φ (.forLoop target it body [] env) ((execs body env).wrap (fun f => match f with
            | .next | .cont => .pure (.again (.forLoop target it body [] env))
            | .brk => .pure (.done .next)
            | .ret v => .pure (.done (.ret v))) (noted env) id id) fs s3)
          (fun _ _ => False) s2)
        (fun _ _ => False) s1)
      (fun _ _ => False) s) :
    SegQ (model prog w) A Φ (.forLoop target it body [] env) ((model prog w).den (.forLoop target it body [] env)) fs s := by
  show SegQ _ A Φ _ ((forTurn target it body [] env).onRaise (fun x => do noteFrame x env; theTreesLotGoes x)) fs s
  unfold forTurn
  rw [Sem.onRaise_eq_wrap]
  refine sq_bind_wrap (wpAny_standAt ?_)
  refine sq_bind_wrap (wpAny_onRaise (wpAny_mono h (fun r s1 h1 => ?_) fun e s1 h1 => h1.elim))
  cases r with
  | none =>
    exact sq_again rfl h1
  | some v =>
    refine sq_bind_wrap (wpAny_mono h1 (fun _ s2 h2 => ?_) fun e s2 h2 => h2.elim)
    refine sq_bind_wrap (wpAny_mono h2 (fun _ s3 h3 => ?_) fun e s3 h3 => h3.elim)
    rw [Sem.bind_eq_wrap', Sem.wrap_wrap]
    refine (congrArg (fun t => SegQ (model prog w) A Φ (.forLoop target it body [] env) t fs s3) (Sem.wrap_congr (execs body env) id id (fun f => ?_) (fun e => ?_))).mpr h3
    · cases f <;> rfl
    · exact Sem.bind_eq_wrap _ _
theorem sq_block (h : SegQ (model prog w) A Φ (.block [] env) (.pure (.done .next)) fs s) : SegQ (model prog w) A Φ (.block [] env) ((model prog w).den (.block [] env)) fs s := h
theorem sq_If {test : Expr} {body orelse : List Stmt} {pos : Pos}
    (h : wpAny (model prog w) (A.over c fs) (isTrue test env (eval test env)) (fun b s1 => if b = true then SegQ (model prog w) A Φ c ((execs body env).wrap K H gd lv) fs s1 else SegQ (model prog w) A Φ c ((execs orelse env).wrap K H gd lv) fs s1)
      (fun _ _ => False) s) : SegQ (model prog w) A Φ c ((exec (.If test body orelse pos) env).wrap K H gd lv) fs s := by
  rw [exec_If]
  refine sq_bind_wrap (wpAny_standAt ?_)
  refine sq_bind_wrap (wpAny_mono h (fun b s1 h1 => ?_) fun e s1 h1 => h1.elim)
  cases b with
  | true => rw [if_pos rfl] at h1; exact h1
  | false => rw [if_neg Bool.false_ne_true] at h1; exact h1
theorem sq_For {target iter : Expr} {body : List Stmt} {pos : Pos}
    (h : wpAny (model prog w) (A.over c fs) (eval iter env) (fun x s1 => wpAny (model prog w) (A.over c fs) (pyIter x) (fun it s2 => ∀ (k : Result → Sem PySem.Fin) (p : Pos), k (.ok .next) = K .next → SegQ (model prog w) A Φ (.forLoop target it body [] env) ((model prog w).den (.forLoop target it body [] env))
      (.ret k none (gd false) (lv []) c p [] :: fs) s2) (fun _ _ => False) s1) (fun _ _ => False) s)
    (hs : ∀ x, foldedSetIterable iter env x = pure x := by intro _; rfl) : SegQ (model prog w) A Φ c ((exec (.For target iter body [] pos) env).wrap K H gd lv) fs s := by
  rw [exec_For]
  refine sq_bind_wrap (wpAny_standAt ?_)
  refine sq_bind_wrap (wpAny_mono h (fun x s1 h1 => ?_) fun e s1 h1 => h1.elim)
  refine sq_bind_wrap (wpAny_of_eq (hs x) ?_)
  refine sq_bind_wrap (wpAny_standAt ?_)
  refine sq_bind_wrap (wpAny_holding (wpAny_mono h1 (fun it s2 h2 => ?_) fun e s2 h2 => h2.elim))
  exact sq_call fun p => h2 _ p rfl
end
def GoesQ (M : Model) (A : Around) (Φ : End → Shared → Prop) (gs : GenState) (s : Shared) : Prop := match gs with
  | .fresh c => SegQ M A Φ c (M.den c) [] s
  | .suspended k _ c _ fs _ => SegQ M A Φ c (k (.send .none)) fs s
  | _ => False
theorem wake_q {M : Model} {A : Around} {Φ : End → Shared → Prop} {E : Value → Shared → Prop} {s : Shared} {g : Nat} {gs : GenState} {l : List Value} {α : Type} {k : GenResult → Sem α} {Q : α → Shared → Prop} (hg : s.gens[g]? = some gs)
    (hgo : GoesQ M A Φ gs (s.setGen g .running)) (hq : ∀ e s₁, Φ e s₁ → e.quiet = true ∧ wpAny M A (k e.result) Q E (s₁.setGen g e.genState)) : wpAny M A (.resume g (.send .none) l k) Q E s := by
  intro Γ p hΓ
  rw [Sem.wp_resume]
  cases gs with
  | fresh c =>
    obtain ⟨e₁, s₁, hr, he⟩ := hgo (Γ.wake c p) p rfl (hΓ.wake c p)
    obtain ⟨q1, q2⟩ := hq e₁ s₁ he
    exact ⟨_, _, by unfold Wakes; rw [hg]; exact ⟨e₁, s₁, hr, q1, rfl, rfl⟩, q2 Γ p hΓ⟩
  | suspended k₀ l₀ c₀ p₀ fs₀ cl =>
    obtain ⟨e₁, s₁, hr, he⟩ := hgo (Γ.wake c₀ p) p₀ rfl (hΓ.wake c₀ p)
    obtain ⟨q1, q2⟩ := hq e₁ s₁ he
    exact ⟨_, _, by unfold Wakes; rw [hg]; exact ⟨e₁, s₁, hr, q1, rfl, rfl⟩, q2 Γ p hΓ⟩
  | running => exact hgo.elim
  | finished => exact hgo.elim
def NextQ (g : Nat) (Q : Option Value → Shared → Prop) (e : End) (s₁ : Shared) : Prop := match e with
  | .ret r => (r = .ok (.ret .none) ∨ r = .ok .next) ∧ ∀ h', (∀ b o, s₁.heap.get? b = some o → h'.get? b = some o) → Q none { s₁.setGen g .finished with heap := h' }
  | .susp v g0 l k c p fs => (End.susp v g0 l k c p fs).quiet = true ∧ Q (some v) (s₁.setGen g (End.susp v g0 l k c p fs).genState)
theorem next_q {P : Program} {w : World} {A : Around} {E : Value → Shared → Prop} {s : Shared} {Φ : End → Shared → Prop} {a : Addr} {g : Nat} {gs : GenState} {Q : Option Value → Shared → Prop} (hh : A.handled = none) (hl : s.heap.NoLimit) (hroom : A.depth < recursionLimit) (hg : s.heap.IsGen a g) (hgs : s.gens[g]? = some gs)
    (hgo : GoesQ (model P w) A.in1 Φ gs (s.setGen g .running)) (hq : ∀ e s₁, Φ e s₁ → NextQ g Q e s₁) : wpAny (model P w) A (pyNext (.ref a)) Q E s := by
  unfold pyNext
  refine wpAny_bind (wpAny_attempt (wpAny_callSpecial?_slot (name := Str.ofString "__next__") hg.typeIs slot_gen_next (wpAny_call_entry slot_gen_next hg.typeIs entry_gen_next ?_ (args_gen_next _))))
  show wpAny _ A.in1 (Builtin.Generator.genWake (.ref a) (.send .none)) _ _ s
  unfold Builtin.Generator.genWake
  refine wpAny_bind (wpAny_holding (wpAny_genNumber hg (wpAny_bind (wpAny_genState hgs ?_))))
  cases gs with
  | running => exact hgo.elim
  | finished => exact hgo.elim
  | _ =>
    refine wpAny_bind (wpAny_roomToWake hl hroom ?_)
    show wpAny _ A.in1 (.resume g (.send .none) [] _) _ _ s
    refine wake_q hgs hgo fun e s₁ he => ?_
    have hx := hq e s₁ he
    cases e with
    | ret x =>
      refine ⟨rfl, ?_⟩
      obtain ⟨hr, hp⟩ := hx
      have hres : End.result (.ret x) = .returned .none := by
        rcases hr with hr | hr <;> rw [hr] <;> rfl
      first | rw [hres] | simp only [hres]
      show wpAny _ A.in1 (newExc (.type "StopIteration") [] >>= _) _ _ _
      refine wpAny_bind ?_
      simp only [newExc, newTuple]
      refine wpAny_bind (wpAny_newObj_type ?_ (by size_fits))
      refine wpAny_bind (m := firstArgMember _ _) (wpAny_of_eq (a := Value.none) (by first | rfl | (simp only [firstArgMember]; rfl)) ?_)
      refine wpAny_newObj_type ?_ (by size_fits)
      simp only [raiseNew]
      refine wpAny_bind (wpAny_bind (wpAny_handled ?_))
      first | rw [show A.in1.handled = none from hh] | rw [hh]
      refine wpAny_throw ?_
      refine wpAny_bind (wpAny_isInstance (T := "StopIteration") (b := true) ⟨_, Heap.get?_push_size _ rfl, rfl⟩ isSubtype_stop ?_)
      exact wpAny_pure (hp _ fun b o hb => Heap.get?_push_of_some _ (Heap.get?_push_of_some _ hb))
    | susp v g0 l k c p fs =>
      obtain ⟨hx1, hx2⟩ := hx
      exact ⟨hx1, wpAny_pure ⟨v, rfl, wpAny_pure hx2⟩⟩
end GZ
end
section
set_option Elab.async false
set_option linter.all false
set_option autoImplicit false
set_option maxRecDepth 100000
namespace GZ
open PySem VE
def outs : Nat → List (Option (List Str)) → List (Int × List Str)
  | _, [] => []
  | k, none :: r => outs (k + 1) r
  | k, some ws :: r => (((k : Int) + 1), ws) :: outs (k + 1) r
abbrev sgL (k : Nat) (l : Str) : Sg := [none, some (.int (k : Int)), some (.str l)]
end GZ
namespace VE
open PySem GZ
def clStep (m1 m2 : T) (m3 : E) (k : Nat) (l : Str) : Option (Option (List Str)) := match m1 (sgL k l) [] with
  | .ok false _ => match m2 (sgL k l) [] with
    | .ok false _ => some none
    | .ok true _ => match m3 (sgL k l) [] with
      | .ok (.tup [.int i, .ref j]) h => if i = (k : Int) + 1 then match h[j]? with
          | some (.lst ws) => (strsOf ws).map some
          | _ => none
        else none
      | _ => none
    | _ => none
  | _ => none
def clAll (m1 m2 : T) (m3 : E) : Nat → List Str → Option (List (Option (List Str)))
  | _, [] => some []
  | k, l :: r => match clStep m1 m2 m3 k l, clAll m1 m2 m3 (k + 1) r with
    | some a, some b => some (a :: b)
    | _, _ => none
def clText (mL : ES) (t : Str) : Option (List Str) := match mL [some (.str t), none, none] [] with
  | .ok [.ref i] h => match h[i]? with
    | some (.lst ws) => strsOf ws
    | _ => none
  | _ => none
def forPairs (turn : W → Sg → He → Rs Fl) : List (Int × List Str) → Sg → He → Rs Fl
  | [], σ, h => .ok (.nx σ) h
  | (p, ws) :: r, σ, h => (turn (.tup [.int p, .ref h.length]) σ (h ++ [.lst (ws.map W.str)])).bind fun f h => forNext f h fun σ h => forPairs turn r σ h
def sForC (mL : ES) (m1 m2 : T) (m3 : E) (g : G) (e : E) (b : S) : S := fun σ h => (e σ h).bind fun x h => match x with
  | .str t => match (clText mL t).bind (clAll m1 m2 m3 0) with
    | some rs => forPairs (fun x σ h => (g x σ h).bind fun σ h => b σ h) (outs 0 rs) σ h
    | none => .bad
  | _ => .bad

end VE
end
section
set_option Elab.async false
set_option linter.all false
set_option autoImplicit false
set_option maxRecDepth 100000
namespace GZ
open PySem PySem.Spec PyProof.Rows L2 VE
open Sem (wp)

abbrev XF : Value → Shared → Prop := fun _ _ => False
structure Woke (P : Program) (w : World) (base : Heap) (outer : List Env) (xs : List V) (own : List Addr) (Ls : Addr) (s s2 : Shared) : Prop where
  os : s2.os = s.os
  bare : AllBare s2.gens
  keep : ∀ b ∈ own, ∀ o, s.heap.get? b = some o → s2.heap.get? b = some o
  lines : ∀ H, ObjOk P w H s2.heap Ls (.lst xs)
  based : ∀ b o, base.get? b = some o → s2.heap.get? b = some o
  funs : s2.heap.FunFrames base outer
structure Yld (P : Program) (w : World) (K : PySem.W.Frag) (fs : List Addr) (n : Nat) (xs : List V) (own : List Addr) (L : Option Addr) (p : Int) (ws : List Str) (s₀ s : Shared) (v : Value) (He : Hp) (own' : List Addr) (Ls lw tp : Addr) : Prop where
  val : v = .ref tp
  seg : Sgm P w fs n own L xs s₀ s He
  lines : He Ls = some (.lst xs)
  new : L = some Ls ∨ (L = none ∧ s₀.heap.get? Ls = none)
  word : s₀.heap.get? lw = none ∧ He lw = some (.lst (ws.map V.str)) ∧ lw ≠ Ls
  pair : SqT K (mix s₀ (fun _ => none) He) tp [.int p, .ref lw]
  owns : ∀ b ∈ own', n ≤ b ∧ (∃ o, s.heap.get? b = some o ∧ ∀ v, o.data ≠ .cell v) ∧ He b = none ∧ (b ∈ own ∨ s₀.heap.get? b = none)
def Out (P : Program) (w : World) (K : PySem.W.Frag) (base : Heap) (outer : List Env) (A : Around) (n : Nat) (xs : List V) : List (Int × List Str) → List Addr → Option Addr → Shared → End → Shared → Prop
  | [], own, L, s₀ => fun e s => match e with
    | .ret r => (r = .ok (.ret .none) ∨ r = .ok .next) ∧ ∃ He, Sgm P w (frs outer) n own L xs s₀ s He
    | .susp .. => False
  | (p, ws) :: rest, own, L, s₀ => fun e s => match e with
    | .ret _ => False
    | .susp v g l k c q fs => (End.susp v g l k c q fs).quiet = true ∧ ∃ He own' Ls lw tp, Yld P w K (frs outer) n xs own L p ws s₀ s v He own' Ls lw tp ∧
        ∀ s2, Woke P w base outer xs own' Ls s s2 → SegQ (model P w) A (Out P w K base outer A n xs rest own' (some Ls) s2) c (k (.send .none)) fs s2

structure GX0 (X0 : Cx) (n : Nat) : Prop where
  loc : X0.env.locals = n
  cells : ∀ x c, X0.env.cells.lookup x = some c → False
  pn : X0.pn = []
  ex : X0.ex = []
  calm : X0.calm = true
  fs : ∀ b ∈ X0.fs, b < n
  s0 : X0.s_0.heap.objs.size = n
  N : X0.N.length = 3
def LineOk (m1 m2 : T) (m3 : E) (k : Nat) (l : Str) : Option (List Str) → Prop
  | none => (∃ h1, m1 (sgL k l) [] = .ok false h1) ∧ ∃ h2, m2 (sgL k l) [] = .ok false h2
  | some ws => (∃ h1, m1 (sgL k l) [] = .ok false h1) ∧ (∃ h2, m2 (sgL k l) [] = .ok true h2) ∧ ∃ j h3, m3 (sgL k l) [] = .ok (.tup [.int ((k : Int) + 1), .ref j]) h3 ∧ h3[j]? = some (.lst (ws.map W.str))
structure LinesOk (m1 m2 : T) (m3 : E) (ls : List Str) (rs : List (Option (List Str))) : Prop where
  len : rs.length = ls.length
  at_ : ∀ (k : Nat) l r, ls[k]? = some l → rs[k]? = some r → LineOk m1 m2 m3 k l r
abbrev gPair : G := gTup 2 (gsC (gV 1) (gsC (gV 2) gsN))
structure GWalk (Z : Zx) (X0 : Cx) (n : Nat) (elts : List Expr) (kk : Nat) (tpos : Pos) (iter t1 t2 ye : Expr) (mL : ES) (m1 m2 : T) (m3 : E) : Prop where
  K : X0.K = Z.K
  hI : ∀ s H, PI (re X0 s n H XF) (.Tuple elts kk tpos) iter (iEnum X0.K (rA Z XN mL))
  hG : ∀ s H, PG (re X0 s n H XF) (.Tuple elts kk tpos) (rG Z XN [1, 2] gPair)
  h1 : ∀ s H, PT (re X0 s n H XF) t1 (rT Z XN m1)
  h2 : ∀ s H, PT (re X0 s n H XF) t2 (rT Z XN m2)
  h3 : ∀ s H, PE (re X0 s n H XF) ye (rE Z XN m3)
def Grow (H H' : Hp) : Prop := ∀ a o, H a = some o → H' a = some o
theorem Grow.refl {H : Hp} : Grow H H := fun _ _ q => q
theorem Grow.trans {H H1 H2 : Hp} (a : Grow H H1) (b : Grow H1 H2) : Grow H H2 := fun c o q => b c o (a c o q)
theorem grow_ext {H H' : Hp} {α : List Addr} (x : Ext [] α H H') : Grow H H' := fun a o q => x.keep a o q (.inl (by simp))
theorem hr0 {Z : Zx} {H : Hp} : HR Z [] [] H := ⟨rfl, List.nodup_nil, fun i o a e => by simp at e⟩
theorem sr0 {Z : Zx} {H : Hp} {σ : L2.St} {σw : Sg} (hl : σw.length = σ.length) (h : ∀ (i : Nat) w, σw[i]? = some (some w) → ∃ v, σ[i]? = some (some v) ∧ RelW Z [] H w v) : SR Z [] H σw σ := ⟨hl, h⟩
section
variable {Z : Zx} {H : Hp} {k : Nat} {l : Str} {σ : L2.St}
theorem srL (h3 : σ.length = 3) (e1 : σ[1]? = some (some (.int (k : Int)))) (e2 : σ[2]? = some (some (.str l))) : SR Z [] H (sgL k l) σ := ⟨h3.symm, fun i w e => by
  rcases i with _ | _ | _ | i
  · cases e
  · cases e; exact ⟨_, e1, .int _⟩
  · cases e; exact ⟨_, e2, .str _⟩
  · simp at e⟩
theorem rT_of {m : T} {b : Bool} {h1 : He} {Q : Bool → Hp → Prop} (sr : SR Z [] H (sgL k l) σ) (e : m (sgL k l) [] = .ok b h1) (q : ∀ H', Grow H H' → Q b H') : rT Z XN m σ H Q :=
  ⟨[], [], sgL k l, hr0, sr, by rw [e]; exact fun α' H' x hr => q H' (grow_ext x)⟩
theorem rE_of {m : E} {w : W} {h1 : He} {Q : VK} (sr : SR Z [] H (sgL k l) σ) (e : m (sgL k l) [] = .ok w h1) (q : ∀ α H', Ext [] α H H' → HR Z α h1 H' → ∀ v, RelW Z α H' w v → Q v H') : rE Z XN m σ H Q :=
  ⟨[], [], sgL k l, hr0, sr, by rw [e]; exact fun α' H' x hr => q α' H' x hr⟩
end
theorem gPair_run {k : Nat} {l : Str} : gPair (.tup [.int (k : Int), .str l]) [none, none, none] [] = .ok (sgL k l) [] := rfl
theorem relStrs {Z : Zx} {α : List Addr} {H : Hp} : ∀ {ws : List Str} {vs : List V}, RelWs Z α H (ws.map W.str) vs → vs = ws.map V.str
  | [], _, h => by cases h; rfl
  | x :: ws, _, h => by
    cases h with
    | cons r t =>
      cases r
      rw [relStrs t]; rfl
section
variable {X0 : Cx} {n : Nat} {own : List Addr} {L : Option Addr} {xs : List V} {s₀ s : Shared} {pins : List (Addr × Obj)} {σ : L2.St} {H : Hp}
theorem new_of (hX : GX0 X0 n) (hn : n ≤ s₀.heap.objs.size) (I : Inv (re X0 s₀ n (hz n own L xs s₀) XF) pins σ H s) (ho : ∀ b ∈ own, H b = none) {b : Addr} {u : HO} (e : H b = some u) (hk : ∀ o, u ≠ kept o) (hL : L ≠ some b) : s₀.heap.get? b = none := by
  cases q : s₀.heap.get? b with
  | none => rfl
  | some o =>
    have hex : b ∉ X0.ex := by rw [hX.ex]; simp
    rcases Nat.lt_or_ge b n with y | y
    · have z := I.base.free b o (cut_lt y q) (hz_low hL y) hex
      rw [e] at z; cases z
    · by_cases x : b ∈ own
      · rw [ho b x] at e; cases e
      · have z := I.base.frzs b o _ (hz_frz (xs := xs) hL y x q)
        rw [e] at z
        exact (hk o (Option.some.inj z)).elim
theorem sgm_of (hX : GX0 X0 n) (I : Inv (re X0 s₀ n (hz n own L xs s₀) XF) pins σ H s) (hos : s₀.os = (cut s₀ n).os) (ho : ∀ b ∈ own, H b = none) (hL : ∀ a, L = some a → H a = some (.lst xs)) : Sgm X0.prog X0.w X0.fs n own L xs s₀ s H where
  un := by
    have q := I.base
    have e : (re X0 s₀ n (hz n own L xs s₀) XF).ex = [] := hX.ex
    rw [e] at q
    exact q
  hok := I.hok
  os := I.os
  bare := I.bare
  own := ho
  lines := hL
theorem wakes {own' : List Addr} {Ls : Addr} {s2 : Shared} (hX : GX0 X0 n) (I : Inv (re X0 s₀ n (hz n own L xs s₀) XF) pins σ H s) (hn : n ≤ s₀.heap.objs.size) (hLs : H Ls = some (.lst xs)) (hown : n ∈ own') (ho : ∀ b ∈ own', H b = none) (hp : ∀ p ∈ pins, p.1 ∈ own')
    (W : Woke X0.prog X0.w X0.base X0.outer xs own' Ls s s2) : Inv (re X0 s2 n (hz n own' (some Ls) xs s2) XF) pins σ (hz n own' (some Ls) xs s2) s2 := by
  have ne : ∀ b, H b = none → some Ls ≠ some b := fun b h z => by
    cases z
    rw [hLs] at h; cases h
  have zo : ∀ b ∈ own', hz n own' (some Ls) xs s2 b = none := fun b hb => hz_own (ne b (ho b hb)) hb
  have hl : X0.env.locals = n := hX.loc
  have fsN : ∀ b ∈ X0.fs, H b = none := fun b hb => by
    obtain ⟨_, o, e, _⟩ := I.ok.funs.mem hb
    exact I.base.free b o e (I.ok.frf b hb) fun z => I.ok.exfs b z hb
  have hn2 : n ≤ s2.heap.objs.size := by
    obtain ⟨m, ⟨o, es, ep, ho2, r⟩, _⟩ := id I.loc
    have z : s.heap.get? n = some o := by rw [← hl]; exact ho2
    exact Nat.le_of_lt (Heap.lt_size (W.keep n hown o z))
  refine rebase (X := re X0 s₀ n (hz n own L xs s₀) XF) (xe := XF) I (cut_size hn) hn2 W.bare (hz_ok fun a e H => by cases e; exact W.lines H) (fun o e => ?_) ?_ (fun x c o e => (hX.cells x c e).elim) (fun p hpp => ?_) (fun b o e => ⟨W.based b o e, ?_⟩) ?_ (fun b hb => ?_)
  · have e : s.heap.get? X0.env.locals = some o := e
    show s2.heap.get? X0.env.locals = some o
    rw [hl] at e ⊢
    exact W.keep n hown o e
  · show hz n own' (some Ls) xs s2 X0.env.locals = none
    rw [hl]; exact zo n hown
  · have hpp : p ∈ X0.pn ++ pins := hpp
    rw [hX.pn] at hpp
    have q := hp p hpp
    exact ⟨W.keep _ q _ (I.pin p (List.mem_append_right _ hpp)).1, zo _ q⟩
  · have b1 := I.ok.bs b o e
    have b2 := (I.bs b o e).2
    exact hz_low (ne b b2) (cut_at b1.1).1
  · have all : ∀ l : List Env, (∀ b ∈ frs l, b < n) → s2.heap.FunFrames X0.base l → (cut s2 n).heap.FunFrames X0.base l := by
      intro l
      induction l with
      | nil => intro _ _; trivial
      | cons env r ih =>
        intro hs ⟨hk, ⟨Lr, o, hf, hnn, hoo, hd⟩, hr⟩
        have hL : Lr ∈ frs (env :: r) := by unfold frs; rw [List.filterMap_cons, hf]; exact List.mem_cons_self
        exact ⟨hk, ⟨Lr, o, hf, hnn, cut_lt (hs Lr hL) hoo, hd⟩, ih (fun b hb => hs b (by unfold frs; rw [List.filterMap_cons, hf]; exact List.mem_cons_of_mem _ hb)) hr⟩
    exact all _ hX.fs W.funs
  · exact hz_low (ne b (fsN b hb)) (hX.fs b hb)
end
end GZ
end
section
set_option Elab.async false
set_option linter.all false
set_option autoImplicit false
set_option maxRecDepth 100000
namespace GZ
open PySem PySem.Spec PyProof.Rows L2 VE
open Sem (wp)
section
variable {Z : Zx} {X0 : Cx} {n : Nat} {elts : List Expr} {kk : Nat} {tpos : Pos} {iter t1 t2 ye : Expr} {mL : ES} {m1 m2 : T} {m3 : E} {A : Around} {b1 : List Stmt} {yp ep p1 p2 : Pos} {ls : List Str} {rs : List (Option (List Str))}
abbrev cBody (t1 t2 ye : Expr) (b1 : List Stmt) (yp ep p1 p2 : Pos) : List Stmt := [.If t1 b1 [] p1, .If t2 [.Expr (.Yield (some ye) yp) ep] [] p2]
theorem fpok {s₀ : Shared} {H₀ H : Hp} {b : Addr} (hX : GX0 X0 n) (hn : n ≤ s₀.heap.objs.size) (h : b ≠ n ∧ b ∉ X0.fs ∧ n ≤ b) (e : H b = none) : FpOk (re X0 s₀ n H₀ XF) [] H b :=
  ⟨e, fun z => h.1 (z.trans hX.loc), h.2.1, .inr (by show (cut s₀ n).heap.objs.size ≤ b; rw [cut_size hn]; exact h.2.2), fun x c q => (hX.cells x c q).elim, fun p hp => by
    have hp : p ∈ X0.pn ++ [] := hp
    rw [hX.pn] at hp; simp at hp⟩
theorem pair_read {H8 : Hp} {α : List Addr} {H' : Hp} {h3 : He} {v : V} {k : Int} {j : Nat} {ws : List Str} (x : Ext [] α H8 H') (hr : HR Z α h3 H') (e3 : h3[j]? = some (.lst (ws.map W.str))) (r : RelW Z α H' (.tup [.int k, .ref j]) v) :
    ∃ tp lw, v = .ref tp ∧ SqT Z.K H' tp [.int k, .ref lw] ∧ H' lw = some (.lst (ws.map V.str)) ∧ H8 lw = none ∧ Grow H8 H' := by
  cases r with
  | @tup _ a vs q1 q2 =>
    cases q2 with
    | cons r1 t =>
      cases r1
      cases t with
      | cons r2 t =>
        cases t
        cases r2 with
        | @ref _ lw e =>
          obtain ⟨vs, e1, e2⟩ := hr.lst e3 e
          rw [relStrs e2] at e1
          exact ⟨a, lw, rfl, q1, e1, x.new lw (List.mem_of_getElem? e) (by simp), grow_ext x⟩
theorem loop_q (hX : GX0 X0 n) (G : GWalk Z X0 n elts kk tpos iter t1 t2 ye mL m1 m2 m3) (hco : X0.env.scope.isCoroutine = false) (hint : interactive X0.env = false) (ok : LinesOk m1 m2 m3 ls rs)
    {kf : Result → Sem PySem.Fin} {fp0 : Pos} {cf : Code} {fl fkp : List Value} {fh : Option Value}
    (hA : ∀ it, A.over (.forLoop (.Tuple elts kk tpos) it (cBody t1 t2 ye b1 yp ep p1 p2) [] X0.env) [.ret kf fh false fl cf fp0 fkp] = X0.A)
    (hend : ∀ (Φ : End → Shared → Prop) s, Φ (.ret (.ok (.ret .none))) s → SegQ (model X0.prog X0.w) A Φ cf (kf (.ok .next)) [] s)
    {fp : List Addr} {e Ls : Addr} {tn : Nat → Heap → Prop} (T : Turn X0.prog X0.w X0.K (.Tuple elts kk tpos) (Ite X0.K Ls) fp e tn) (hfs : ∀ b ∈ fp, b ≠ n ∧ b ∉ X0.fs ∧ n ≤ b) :
    ∀ (todo : List (Option (List Str))) (k : Nat) (own : List Addr) (L : Option Addr) (s₀ s : Shared) (σ : L2.St) (H : Hp), rs.drop k = todo → n ≤ s₀.heap.objs.size → Inv (re X0 s₀ n (hz n own L (ls.map V.str) s₀) XF) [] σ H s → tn k s.heap →
      (∀ b ∈ fp, H b = none) → (∀ b ∈ own, b = n ∨ b ∈ fp) → (∀ b ∈ fp, b ∈ own ∨ s₀.heap.get? b = none) → n ∈ own → H Ls = some (.lst (ls.map V.str)) → (L = some Ls ∨ (L = none ∧ s₀.heap.get? Ls = none)) →
      SegQ (model X0.prog X0.w) A (Out X0.prog X0.w X0.K X0.base X0.outer A n (ls.map V.str) (outs k todo) own L s₀) (.forLoop (.Tuple elts kk tpos) (.ref e) (cBody t1 t2 ye b1 yp ep p1 p2) [] X0.env)
        ((model X0.prog X0.w).den (.forLoop (.Tuple elts kk tpos) (.ref e) (cBody t1 t2 ye b1 yp ep p1 p2) [] X0.env)) [.ret kf fh false fl cf fp0 fkp] s := by
  have hloc : X0.env.locals = n := hX.loc
  intro todo
  induction todo with
  | nil =>
    intro k own L s₀ s σ H hd hn I st hf hown hfo hno hLs hL
    have hkl : ls.length ≤ k := by rw [← ok.len]; exact List.drop_eq_nil_iff.mp hd
    refine sq_forLoop ?_
    rw [hA]
    refine wpAny_mono (T.done (re X0 s₀ n (hz n own L (ls.map V.str) s₀) XF) rfl rfl rfl hX.calm k [] s σ H (fun _ _ => False) I (fun b hb => fpok hX hn (hfs b hb) (hf b hb)) st ⟨_, .inl (.inl hLs), by simpa using hkl⟩) (fun r s1 ⟨hr, I1⟩ => ?_) fun _ _ z => z
    subst hr
    refine sq_block ?_
    refine sq_leaf (.ok .next) (hend _ _ ?_)
    refine ⟨.inl rfl, H, sgm_of hX I1 rfl (fun b hb => ?_) fun a ea => ?_⟩
    · rcases hown b hb with z | z
      · rw [z, ← hloc]; exact I1.free
      · exact hf b z
    · rcases hL with q | ⟨q, _⟩
      · rw [q] at ea; cases ea; exact hLs
      · rw [q] at ea; cases ea
  | cons r todo ih =>
    intro k own L s₀ s σ H hd hn I st hf hown hfo hno hLs hL
    have hkr : rs[k]? = some r := by
      have q := congrArg (·[0]?) hd
      simpa using q
    have hd2 : rs.drop (k + 1) = todo := by
      have q := congrArg (List.drop 1) hd
      rw [List.drop_drop] at q
      simpa using q
    have hkl : k < ls.length := by rw [← ok.len]; exact (List.getElem?_eq_some_iff.mp hkr).1
    obtain ⟨l, hl⟩ : ∃ l, ls[k]? = some l := ⟨ls[k], List.getElem?_eq_getElem hkl⟩
    have lo := ok.at_ k l r hl hkr
    refine sq_forLoop ?_
    rw [hA]
    refine wpAny_mono (T.item (re X0 s₀ n (hz n own L (ls.map V.str) s₀) XF) rfl rfl rfl hX.calm k [] s σ H (fun _ _ => False) I (fun b hb => fpok hX hn (hfs b hb) (hf b hb)) st ⟨_, .str l, .inl (.inl hLs), by simp [hl]⟩) (fun r1 s1 ⟨u, hr1, h4⟩ => ?_) fun _ _ z => z
    subst hr1
    refine wpAny_mono h4 (fun _ s2 ⟨x, H5, I5, r5, y5, st5, fr5⟩ => ?_) fun _ _ z => z
    obtain ⟨Tt, x', rfl, hT0, rfl, hx'⟩ := y5
    obtain rfl : x' = V.str l := by
      have q := hx' _ (.inl (.inl hLs))
      rw [List.getElem?_map, hl] at q
      exact (Option.some.inj q).symm
    have I5p := I5.pinned (fp := fp) (fun b hb => fpok hX hn (hfs b hb) (fr5 b hb)) (T.obj _ _ st5)
    have hLs5 : upd H Tt (.tup [.int (k : Nat), .str l]) Ls = some (.lst (ls.map V.str)) := by
      rw [upd_ne (ne_of_none hLs hT0)]; exact hLs
    have h3l : σ.length = 3 := I.len.trans hX.N
    refine wpAny_mono ((G.hG s₀ _).run _ s2 σ _ (.ref Tt) u (fun σ6 H6 => σ6[1]? = some (some (.int (k : Int))) ∧ σ6[2]? = some (some (.str l)) ∧ Grow (upd H Tt (.tup [.int (k : Nat), .str l])) H6) I5p r5
      ⟨[], [], [none, none, none], .tup [.int (k : Int), .str l], hr0, sr0 h3l.symm (fun i w q => ?_), .tup (.inl (.inl upd_same)) (.cons (.int _) (.cons (.str _) .nil)), ?_⟩) (fun _ s3 ⟨σ6, H6, I6, c1, c2, g6⟩ => ?_) fun _ _ z => z
    · rcases i with _ | _ | _ | i <;> simp at q
    · rw [gPair_run]
      exact fun α' H' xx hr σ' sr' c => ⟨(by obtain ⟨v, e1, e2⟩ := sr'.at_ 1 _ rfl; cases e2; exact e1), (by obtain ⟨v, e1, e2⟩ := sr'.at_ 2 _ rfl; cases e2; exact e1), grow_ext xx⟩
    have h6l : σ6.length = 3 := I6.len.trans hX.N
    have sr6 : ∀ {H : Hp}, SR Z [] H (sgL k l) σ6 := srL h6l c1 c2
    -- what a later state still holds
    have held : ∀ {s7 : Shared} {H7 : Hp}, Inv (re X0 s₀ n (hz n own L (ls.map V.str) s₀) XF) ([] ++ pinsAt fp s2.heap) σ6 H7 s7 → tn (k + 1) s7.heap ∧ ∀ b ∈ fp, H7 b = none := fun {s7 H7} I7 => by
      refine ⟨T.keep _ _ _ st5 fun b hb o q => (I7.pin (b, o) (List.mem_append_right _ (List.mem_append_right _ (mem_pinsAt hb q)))).1, fun b hb => ?_⟩
      obtain ⟨o, q, _⟩ := T.obj _ _ st5 b hb
      exact (I7.pin (b, o) (List.mem_append_right _ (List.mem_append_right _ (mem_pinsAt hb q)))).2.1
    refine sq_execs_cons (sq_If ?_)
    rw [hA]
    obtain ⟨hm1, e1⟩ : ∃ h1, m1 (sgL k l) [] = .ok false h1 := by cases r with
      | none => exact lo.1
      | some ws => exact lo.1
    refine wpAny_mono ((G.h1 s₀ _).run _ s3 σ6 H6 (fun b H' => b = false ∧ Grow H6 H') I6 (rT_of sr6 e1 fun H' g => ⟨rfl, g⟩)) (fun b s4 ⟨H7, I7, eb, g7⟩ => ?_) fun _ _ z => z
    subst eb
    rw [if_neg Bool.false_ne_true]
    refine sq_execs_nil ?_
    refine sq_execs_cons (sq_If ?_)
    rw [hA]
    cases r with
    | none =>
      obtain ⟨_, hm2, e2⟩ := lo
      refine wpAny_mono ((G.h2 s₀ _).run _ s4 σ6 H7 (fun b H' => b = false ∧ Grow H7 H') I7 (rT_of sr6 e2 fun H' g => ⟨rfl, g⟩)) (fun b s5 ⟨H8, I8, eb, g8⟩ => ?_) fun _ _ z => z
      subst eb
      rw [if_neg Bool.false_ne_true]
      refine sq_execs_nil (sq_execs_nil ?_)
      obtain ⟨st8, f8⟩ := held I8
      exact sq_again rfl (ih (k + 1) own L s₀ s5 σ6 H8 hd2 hn I8.unpinned st8 f8 hown hfo hno (g8 _ _ (g7 _ _ (g6 _ _ hLs5))) hL)
    | some ws =>
      obtain ⟨_, ⟨hm2, e2⟩, j, hm3, e3, e4⟩ := lo
      refine wpAny_mono ((G.h2 s₀ _).run _ s4 σ6 H7 (fun b H' => b = true ∧ Grow H7 H') I7 (rT_of sr6 e2 fun H' g => ⟨rfl, g⟩)) (fun b s5 ⟨H8, I8, eb, g8⟩ => ?_) fun _ _ z => z
      subst eb
      rw [if_pos rfl]
      refine sq_execs_cons (sq_Expr_Yield rfl ?_ hco hint)
      rw [hA]
      refine wpAny_mono ((G.h3 s₀ _).run _ s5 σ6 H8 (fun v H' => ∃ tp lw, v = .ref tp ∧ SqT Z.K H' tp [.int ((k : Int) + 1), .ref lw] ∧ H' lw = some (.lst (ws.map V.str)) ∧ H8 lw = none ∧ Grow H8 H') I8 (rE_of sr6 e3 fun α H' xx hr v rv => pair_read xx hr e4 rv)) (fun v s6 ⟨xv, H9, I9, rv, tp, lw, exv, sq, hlw, hlw0, g9⟩ => ?_) fun _ _ z => z.elim
      subst exv
      obtain rfl : v = Value.ref tp := rv
      intro g0 l0 k0 q0 hg0 _ conv
      subst hg0
      obtain ⟨st9, f9⟩ := held I9
      have hLs8 : H8 Ls = some (.lst (ls.map V.str)) := g8 _ _ (g7 _ _ (g6 _ _ hLs5))
      have hLs9 : H9 Ls = some (.lst (ls.map V.str)) := g9 _ _ hLs8
      have hlne : lw ≠ Ls := fun z => by rw [z, hLs8] at hlw0; cases hlw0
      have hn9 : H9 n = none := by rw [← hloc]; exact I9.free
      have own9 : ∀ b ∈ own, H9 b = none := fun b hb => by
        rcases hown b hb with z | z
        · rw [z]; exact hn9
        · exact f9 b z
      have Lne : ∀ b, b ≠ Ls → L ≠ some b := fun b hb z => by
        rcases hL with q | ⟨q, _⟩
        · rw [q] at z; cases z; exact hb rfl
        · rw [q] at z; cases z
      have nw : ∀ b u, H9 b = some u → (∀ o, u ≠ kept o) → b ≠ Ls → s₀.heap.get? b = none := fun b u e hk hb => new_of hX hn I9 own9 e hk (Lne b hb)
      have pr : SqT X0.K (mix s₀ (fun _ => none) H9) tp [.int ((k : Int) + 1), .ref lw] := by
        have sq : SqT X0.K H9 tp [.int ((k : Int) + 1), .ref lw] := by rw [G.K]; exact sq
        rcases sq with (q | ⟨o, q⟩) | q
        · exact .inl (.inl (by rw [mix_new (nw tp _ q (fun o z => nomatch z) fun z => by rw [z, hLs9] at q; cases q)]; exact q))
        · exact .inl (.inr ⟨o, by rw [mix_new (nw tp _ q (fun o z => nomatch z) fun z => by rw [z, hLs9] at q; cases q)]; exact q⟩)
        · exact .inr q
      refine ⟨by simp [End.quiet, Frame.guarded], H9, n :: fp, Ls, lw, tp, ⟨rfl, sgm_of hX I9 rfl own9 fun a ea => ?_, hLs9, hL, ⟨nw lw _ hlw (fun o z => nomatch z) hlne, hlw, hlne⟩, pr, fun b hb => ?_⟩, fun s7 W => ?_⟩
      · rcases hL with q | ⟨q, _⟩
        · rw [q] at ea; cases ea; exact hLs9
        · rw [q] at ea; cases ea
      · rcases List.mem_cons.mp hb with rfl | hb
        · refine ⟨Nat.le_refl _, ?_, hn9, .inl hno⟩
          obtain ⟨m, ⟨o, es, ep, ho2, hdt, _⟩, _⟩ := id I9.loc
          refine ⟨o, by rw [← hloc]; exact ho2, fun v z => ?_⟩
          rw [hdt] at z; cases z
        · exact ⟨(hfs b hb).2.2, T.obj _ _ st9 b hb, f9 b hb, hfo b hb⟩
      · have hn7 : n ≤ s7.heap.objs.size := by
          obtain ⟨m, ⟨o, es, ep, ho2, _⟩, _⟩ := id I9.loc
          have z : s6.heap.get? n = some o := by rw [← hloc]; exact ho2
          exact Nat.le_of_lt (Heap.lt_size (W.keep n List.mem_cons_self o z))
        have Iw := wakes (own' := n :: fp) hX I9 hn hLs9 List.mem_cons_self (fun b hb => by
          rcases List.mem_cons.mp hb with rfl | hb
          · exact hn9
          · exact f9 b hb) (fun p hp => List.mem_cons_of_mem _ (of_pinsAt hp).1) W
        refine conv _ _ s7 ?_
        refine sq_execs_nil ?_
        have noL : ∀ b ∈ fp, some Ls ≠ some b := fun b hb z => by
          cases z
          rw [f9 _ hb] at hLs9; cases hLs9
        exact sq_again rfl (ih (k + 1) (n :: fp) (some Ls) s7 s7 σ6 _ hd2 hn7 Iw.unpinned (T.keep _ _ _ st9 fun b hb o q => W.keep b (List.mem_cons_of_mem _ hb) o q) (fun b hb => hz_own (noL b hb) (List.mem_cons_of_mem _ hb)) (fun b hb => List.mem_cons.mp hb) (fun b hb => .inl (List.mem_cons_of_mem _ hb)) List.mem_cons_self hz_L (.inl rfl))
end
end GZ
end
section
set_option Elab.async false
set_option linter.all false
set_option autoImplicit false
set_option maxRecDepth 100000
namespace GZ
open PySem PySem.Spec PyProof.Rows L2 VE GenW
open Sem (wp)
theorem after3 {X : Cx} {pins : List (Addr × Obj)} {σ : L2.St} {H He : Hp} {s₀ s : Shared} {n : Nat} {own : List Addr} {L : Option Addr} {xs : List V} (I : Inv X pins σ H s₀) (hs : X.s_0.heap.objs.size ≤ n) (hl : X.env.locals < n) (hc : ∀ x c, X.env.cells.lookup x = some c → c < n)
    (hp : ∀ p ∈ X.pn ++ pins, p.1 < n) (S : Sgm X.prog X.w (frs X.stack) n own L xs s₀ s He) (ho : ∀ b ∈ own, H b = none) (hL : ∀ a, L = some a → H a = some (.lst xs)) : Inv X pins σ H s := by
  have nL : ∀ b, H b = none → L ≠ some b := fun b h z => by rw [hL b z] at h; cases h
  have trk : ∀ c u, H c ≠ none → L ≠ some c → s₀.heap.get? c = some u → s.heap.get? c = some u := fun c u h z e => by
    rcases Nat.lt_or_ge c n with y | y
    · exact S.un.keep c u (cut_lt y e) (hz_low z y) (fun m => h (I.stkFree c m)) (by simp)
    · exact (S.hok c _ (S.un.frzs c u _ (hz_frz (xs := xs) z y (fun m => h (ho c m)) e))).1
  refine after I hs hl hc hp ⟨fun b o e q hf hx => ?_, fun b o e q hf hx => ?_, fun b o e q hx => q, fun b o e hx => S.un.there b o e (by simp), fun b ys q => q, fun b ob u q => q, fun b ps q => ⟨#[], by rw [q]; simp⟩⟩ S.os (fun b u e => ?_) S.bare
  · exact S.un.keep b o e (hz_low (nL b q) (cut_at e).1) hf (by simp)
  · exact S.un.slot b o e (hz_low (nL b q) (cut_at e).1) hf (by simp)
  · by_cases z : L = some b
    · have e2 := hL b z
      rw [e] at e2
      cases e2
      exact S.hok b _ (S.lines b z)
    · refine (I.hok b u e).stay (fun c v hc2 y => ?_) (fun c y => y) fun c ys y => y
      rcases hc2 with rfl | hc2
      · exact trk c v (by rw [e]; exact fun z => nomatch z) z y
      · exact trk c v (by rw [hc2]; exact fun z => nomatch z) (fun z => by have := hL c z; rw [hc2] at this; cases this) y
section
variable {Z : Zx} {X0 : Cx} {n : Nat} {elts : List Expr} {kk : Nat} {tpos : Pos} {iter t1 t2 ye : Expr} {mL : ES} {m1 m2 : T} {m3 : E} {A : Around} {b1 : List Stmt} {yp ep p1 p2 pos : Pos} {ls : List Str} {rs : List (Option (List Str))}
theorem start_q (hX : GX0 X0 n) (G : GWalk Z X0 n elts kk tpos iter t1 t2 ye mL m1 m2 m3) (hco : X0.env.scope.isCoroutine = false) (hint : interactive X0.env = false) (hdA : X0.A = A.deeper X0.env) (hst : X0.fs = frs X0.outer) (hfold : ∀ x, foldedSetIterable iter X0.env x = pure x)
    (ok : LinesOk m1 m2 m3 ls rs) {text : Str} {i : Nat} {he : He} (eL : mL [some (.str text), none, none] [] = .ok [.ref i] he) (eL2 : he[i]? = some (.lst (ls.map W.str))) {s₀ : Shared} {σ : L2.St} (hn : n ≤ s₀.heap.objs.size)
    (I : Inv (re X0 s₀ n (hz n [n] none (ls.map V.str) s₀) XF) [] σ (hz n [n] none (ls.map V.str) s₀) s₀) (hσ : σ[0]? = some (some (.str text))) :
    SegQ (model X0.prog X0.w) A (Out X0.prog X0.w X0.K X0.base X0.outer A n (ls.map V.str) (outs 0 rs) [n] none s₀) (.func [.For (.Tuple elts kk tpos) iter (cBody t1 t2 ye b1 yp ep p1 p2) [] pos] X0.env)
      ((model X0.prog X0.w).den (.func [.For (.Tuple elts kk tpos) iter (cBody t1 t2 ye b1 yp ep p1 p2) [] pos] X0.env)) [] s₀ := by
  have hA0 : A.over (.func [.For (.Tuple elts kk tpos) iter (cBody t1 t2 ye b1 yp ep p1 p2) [] pos] X0.env) [] = X0.A := over_func.trans hdA.symm
  refine sq_func (sq_execs_cons (sq_For ?_ hfold))
  rw [hA0]
  have h3l : σ.length = 3 := I.len.trans hX.N
  have rd : rA Z XN mL σ (hz n [n] none (ls.map V.str) s₀) fun vs H1 => ∃ a xs, vs = [.ref a] ∧ SqL X0.K H1 a xs ∧ (fun J H' => ∃ Ls, J = Ite X0.K Ls ∧ H' Ls = some (.lst (ls.map V.str))) (Ite X0.K a) H1 :=
    ⟨[], [], [some (.str text), none, none], hr0, sr0 h3l.symm (fun j w q => by
      rcases j with _ | _ | _ | j <;> simp at q
      subst q
      exact ⟨_, hσ, .str _⟩), by
      rw [eL]
      intro α' H' x hr vs r
      cases r with
      | cons r1 t =>
        cases t
        cases r1 with
        | @ref _ a e =>
          obtain ⟨us, e1, e2⟩ := hr.lst eL2 e
          rw [relStrs e2] at e1
          exact ⟨a, _, rfl, .inl (.inl e1), a, rfl, e1⟩⟩
  refine wpAny_mono ((G.hI s₀ _).run [] s₀ σ _ (fun J H' => ∃ Ls, J = Ite X0.K Ls ∧ H' Ls = some (.lst (ls.map V.str))) I rd) (fun v s1 h1 => ?_) fun _ _ z => z
  refine wpAny_mono h1 (fun itv s2 ⟨it, fp, tn, J, H', eit, I2, T, st, fok, Ls, eJ, hLs⟩ => ?_) fun _ _ z => z
  subst eJ
  subst eit
  intro kf fp0 hkf
  have hloc : X0.env.locals = n := hX.loc
  have hn2 : H' n = none := by rw [← hloc]; exact I2.free
  have hfs : ∀ b ∈ fp, b ≠ n ∧ b ∉ X0.fs ∧ n ≤ b := fun b hb => by
    obtain ⟨_, q1, q2, q3, _⟩ := fok b hb
    refine ⟨fun z => q1 (z.trans hloc.symm), q2, ?_⟩
    rcases q3 with q3 | q3
    · have q3 : b ∈ X0.ex := q3
      rw [hX.ex] at q3; simp at q3
    · have q3 : (cut s₀ n).heap.objs.size ≤ b := q3
      rw [cut_size hn] at q3; exact q3
  refine loop_q (kf := kf) (fp0 := fp0) (cf := .func [.For (.Tuple elts kk tpos) iter (cBody t1 t2 ye b1 yp ep p1 p2) [] pos] X0.env) (fl := []) (fkp := []) (fh := none) hX G hco hint ok (fun it => (over_loop rfl rfl).trans hA0) (fun Φ s hq => ?_) T hfs rs 0 [n] none s₀ s2 σ H' rfl hn I2 st (fun b hb => (fok b hb).1) (fun b hb => .inl (List.mem_singleton.mp hb)) (fun b hb => .inr ?_) (List.mem_singleton.mpr rfl) hLs (.inr ⟨rfl, ?_⟩)
  · rw [hkf]
    exact sq_end (.ok (.ret .none)) hq
  · cases q : s₀.heap.get? b with
    | none => rfl
    | some o =>
      have z := I2.base.frzs b o _ (hz_frz (own := [n]) (L := none) (xs := ls.map V.str) (fun z => nomatch z) (hfs b hb).2.2 (fun z => (hfs b hb).1 (List.mem_singleton.mp z)) q)
      rw [(fok b hb).1] at z; cases z
  · exact new_of hX hn I2 (fun b hb => by rw [List.mem_singleton.mp hb]; exact hn2) hLs (fun o z => nomatch z) fun z => nomatch z
end
end GZ
end
section
set_option Elab.async false
set_option linter.all false
set_option autoImplicit false
set_option maxRecDepth 100000
set_option maxHeartbeats 1000000
namespace GZ
open PySem PySem.Spec PyProof.Rows L2 VE GenW
open Sem (wp)
structure GDef (P : Program) (w : World) (Z : Zx) (mg : Str → Option Value) (base : Heap) (k : Nat) (f : Addr) (mL : ES) (m1 m2 : T) (m3 : E) : Prop where
  ex : ∃ (name qual : Str) (params : Arguments) (scope : Scope) (fd : FuncData) (elts : List Expr) (kk : Nat) (tpos : Pos) (iter t1 t2 ye : Expr) (b1 : List Stmt) (yp ep p1 p2 pos : Pos) (N : List Str) (px : Str),
    FunD Z.K name qual params [.For (.Tuple elts kk tpos) iter (cBody t1 t2 ye b1 yp ep p1 p2) [] pos] scope [] [] f fd ∧ GScope N [px] scope ∧ N.length = 3 ∧ (∀ m, cellsFrom m scope.names [] = []) ∧ L2.Binds Z.K fd [px] [] ∧
    (∀ n cdv, interactive (envOfC qual scope n f cdv) = false) ∧ (∀ n cdv x, foldedSetIterable iter (envOfC qual scope n f cdv) x = pure x) ∧
    ∀ (cdv : Value) (A : Around) (outer : List Env) (s : Shared) (H : Hp), Room k A → GWalk Z (gcxOf P w Z.K mg base N qual scope f cdv A outer s H XN []) s.heap.objs.size elts kk tpos iter t1 t2 ye mL m1 m2 m3
  kp : PySem.W.keepIn Z.K (.ref f) = true

structure Made (P : Program) (w : World) (K : PySem.W.Frag) (base : Heap) (outer : List Env) (A : Around) (n : Nat) (xs : List V) (os : List (Int × List Str)) (s : Shared) (a : Addr) (go : Obj) (g : Nat) (s' : Shared) : Prop where
  obj : s'.heap.get? a = some go ∧ s'.heap.IsGen a g ∧ go.cls = .type "generator" ∧ ∃ vs, go.data = .fields vs
  at_ : n < a
  gen : ∃ c, s'.gens[g]? = some (.fresh c) ∧ GoesQ (model P w) A (Out P w K base outer A n xs os [n] none (s'.setGen g .running)) (.fresh c) (s'.setGen g .running)
  os : s'.os = s.os
  bare : AllBare s'.gens
  keep : ∀ b o, s.heap.get? b = some o → s'.heap.get? b = some o
theorem made {P : Program} {w : World} {Z : Zx} {mg : Str → Option Value} {base : Heap} {k : Nat} {f : Addr} {mL : ES} {m1 m2 : T} {m3 : E} (D : GDef P w Z mg base k f mL m1 m2 m3) {A : Around} {outer : List Env} {s : Shared} {H : Hp} {u : Value} {text : Str} (hr : Room (k + 3) A) (e0 : Env0 P w Z.K mg base A outer s H) (ru : RelV (.str text) u)
    {ls : List Str} {rs : List (Option (List Str))} {i : Nat} {he : He} (ok : LinesOk m1 m2 m3 ls rs) (eL : mL [some (.str text), none, none] [] = .ok [.ref i] he) (eL2 : he[i]? = some (.lst (ls.map W.str))) :
    codeAny (model P w) A (.call (.ref f) ⟨[u], []⟩) (fun r s' => ∃ a go g, r = .ok (.ret (.ref a)) ∧ Made P w Z.K base outer A.in1 s.heap.objs.size (ls.map V.str) (outs 0 rs) s a go g s') s := by
  obtain ⟨name, qual, params, scope, fd, elts, kk, tpos, iter, t1, t2, ye, b1, yp, ep, p1, p2, pos, N, px, F, S, hN, hcl, hb, hint, hfold, walk⟩ := D.ex
  obtain ⟨oc, od, dV, kV, doc, pm, an, cdv, ct, osl, rfl, lk, hcd, _, _⟩ := F.ex
  have KX : Z.K.In s.heap := e0.mod.kin.keeps fun b o e => (e0.bs b o e).1
  have lim : s.heap.NoLimit := e0.mod.nolimit.keeps fun b o e => (e0.bs b o e).1
  have hkind : ∀ y ∈ [px].zip [u], scope.names.lookup y.1 = some .local ∨ (scope.names.lookup y.1 = some .cell ∧ ((cellsFrom (s.heap.objs.size + 1) scope.names []).lookup y.1).isSome = true) := fun ⟨x, v⟩ hy => by
    rcases S.par x (List.of_mem_zip hy).1 with q | q
    · exact .inl q
    · exact .inr ⟨q, PySem.W.cellsFrom_some _ _ _ (.inl q)⟩
  have hb1 := hb s [u] KX rfl
  refine codeAny_call_generator hr.depth (KX _ _ lk) rfl S.co S.gen rfl (PySem.W.codeRec_of KX hcd) (hb1 _ _ _ _ ?_)
  refine wpAny_newFunctionEnv_cells S.kind hkind fun env he2 s1 x => ?_
  subst he2
  have lim1 : s1.heap.NoLimit := lim.keeps x.toInCall.keep
  refine ⟨lim1, ?_⟩
  obtain ⟨h1, tk, es1, hk1⟩ := x.done
  have os1 : s1.os = s.os := by rw [es1]
  have gen1 : s1.gens = s.gens := by rw [es1]
  have lt1 : s.heap.objs.size < s1.heap.objs.size := x.toInCall.ns.lt
  have kp1 : ∀ b o, s.heap.get? b = some o → s1.heap.get? b = some o := x.toInCall.keep
  have main : ∀ (go : Obj) (nm qn : Value) (tk2 : Nat), go.cls = .type "generator" → go.data = .fields #[.int s1.gens.size 0, nm, qn] → go.slots = #[] → (∀ h : Heap, (h.push go).get? h.objs.size = some go) →
      Made P w Z.K base outer A.in1 s.heap.objs.size (ls.map V.str) (outs 0 rs) s s1.heap.objs.size go s1.gens.size { s1 with gens := s1.gens.push (.fresh (.func [.For (.Tuple elts kk tpos) iter (cBody t1 t2 ye b1 yp ep p1 p2) [] pos] (envOfC qual scope s.heap.objs.size f cdv))), toks := tk2, heap := s1.heap.push go } := by
    intro go nm qn tk2 hgc hgd hgs hgp
    obtain ⟨s', hs'⟩ : ∃ s' : Shared, s' = { s1 with gens := s1.gens.push (.fresh (.func [.For (.Tuple elts kk tpos) iter (cBody t1 t2 ye b1 yp ep p1 p2) [] pos] (envOfC qual scope s.heap.objs.size f cdv))), toks := tk2, heap := s1.heap.push go } := ⟨_, rfl⟩
    rw [← hs']
    have keep' : ∀ b o, s1.heap.get? b = some o → s'.heap.get? b = some o := fun b o e => by rw [hs']; exact Heap.get?_push_of_some _ e
    have hgo : s'.heap.get? s1.heap.objs.size = some go := by rw [hs']; exact hgp _
    have hgens : s'.gens[s1.gens.size]? = some (.fresh (.func [.For (.Tuple elts kk tpos) iter (cBody t1 t2 ye b1 yp ep p1 p2) [] pos] (envOfC qual scope s.heap.objs.size f cdv))) := by rw [hs']; exact Array.getElem?_push_size ..
    have bare' : AllBare s'.gens := by rw [hs']; exact AllBare.push (by rw [gen1]; exact e0.bare) rfl
    have os' : s'.os = s.os := by rw [hs']; exact os1
    have sz' : s.heap.objs.size ≤ s'.heap.objs.size := by
      have q : s1.heap.objs.size < s'.heap.objs.size := Heap.lt_size hgo
      exact Nat.le_of_lt (Nat.lt_trans lt1 q)
    refine ⟨⟨hgo, ⟨go, nm, qn, hgo, hgc, hgd, hgs⟩, hgc, _, hgd⟩, lt1, ⟨_, hgens, ?_⟩, os', bare', fun b o e => keep' b o (kp1 b o e)⟩
    show SegQ (model P w) A.in1 _ _ _ [] (s'.setGen s1.gens.size .running)
    have hrw : Room k A.in1 := (Room.in1 (hr.mono (by omega : k + 1 ≤ k + 3)))
    have hdw : A.in1.handled = none := hrw.hd
    have e0w : Env0 P w Z.K mg base A.in1 outer s H := e0.in1
    have I1 : Inv (gcxOf P w Z.K mg base N qual scope f cdv A.in1 outer s H XN []) [] (start N [V.str text]) H s1 := inv_startG S hdw e0w rfl (.cons ru .nil) x
    have hX : GX0 (gcxOf P w Z.K mg base N qual scope f cdv A.in1 outer s H XN []) s.heap.objs.size := by
      refine ⟨rfl, fun y c e => ?_, rfl, rfl, rfl, fun b hb => ?_, rfl, hN⟩
      · have e : (cellsFrom (s.heap.objs.size + 1) scope.names []).lookup y = some c := e
        rw [hcl] at e; cases e
      · obtain ⟨_, o, ho, _⟩ := e0.funs.mem hb
        exact Heap.lt_size ho
    have run0 : s'.heap = (s'.setGen s1.gens.size .running).heap := rfl
    have I2 : Inv (re (gcxOf P w Z.K mg base N qual scope f cdv A.in1 outer s H XN []) (s'.setGen s1.gens.size .running) s.heap.objs.size (hz s.heap.objs.size [s.heap.objs.size] none (ls.map V.str) (s'.setGen s1.gens.size .running)) XF) [] (start N [V.str text])
        (hz s.heap.objs.size [s.heap.objs.size] none (ls.map V.str) (s'.setGen s1.gens.size .running)) (s'.setGen s1.gens.size .running) := by
      refine rebase (xe := XF) I1 rfl sz' (allBare_setGen bare' rfl) (hz_ok fun a e => nomatch e) (fun o e => keep' _ o e) (hz_own (fun z => nomatch z) (List.mem_singleton.mpr rfl)) (fun y c o e => (hX.cells y c e).elim) (fun p hp => absurd (show p ∈ ([] : List (Addr × Obj)) from hp) (by simp))
        (fun b o e => ⟨keep' b o (kp1 b o (e0.bs b o e).1), hz_low (fun z => nomatch z) (Heap.lt_size (e0.bs b o e).1)⟩) ?_ (fun b hb => hz_low (fun z => nomatch z) (hX.fs b hb))
      have all : ∀ l : List Env, (∀ b ∈ frs l, b < s.heap.objs.size) → s.heap.FunFrames base l → (cut (s'.setGen s1.gens.size .running) s.heap.objs.size).heap.FunFrames base l := by
        intro l
        induction l with
        | nil => intro _ _; trivial
        | cons env r ih =>
          intro hs ⟨hk, ⟨Lr, o, hf, hnn, hoo, hd⟩, hr⟩
          have hL : Lr ∈ frs (env :: r) := by unfold frs; rw [List.filterMap_cons, hf]; exact List.mem_cons_self
          exact ⟨hk, ⟨Lr, o, hf, hnn, cut_lt (hs Lr hL) (keep' Lr o (kp1 Lr o hoo)), hd⟩, ih (fun b hb => hs b (by unfold frs; rw [List.filterMap_cons, hf]; exact List.mem_cons_of_mem _ hb)) hr⟩
      exact all _ hX.fs e0.funs
    exact start_q hX (walk cdv A.in1 outer s H hrw) S.co (hint _ _) rfl rfl (hfold _ _) ok eL eL2 sz' I2 rfl
  exact ⟨_, _, _, rfl, main _ _ _ _ rfl rfl rfl fun h => Heap.get?_push_size _ rfl⟩

structure Nxt (K : PySem.W.Frag) (L : Option Addr) (xs : List V) (p : Int) (ws : List Str) (H : Hp) (Ls lw tp : Addr) (H' : Hp) : Prop where
  grow : Grow H H'
  new : L = some Ls ∨ (L = none ∧ H Ls = none)
  lines : H' Ls = some (.lst xs)
  word0 : H lw = none
  word : H' lw = some (.lst (ws.map V.str))
  ne : lw ≠ Ls
  pair : SqT K H' tp [.int p, .ref lw]
def tForG (K : PySem.W.Frag) (mL : ES) (m1 m2 : T) (m3 : E) (ta : TA) (g : TG) (tb : TS) : TS := fun D σ H => ta σ H fun vs H1 => ∃ (text : Str) (ls : List Str) (rs : List (Option (List Str))) (i : Nat) (he : He), vs = [.str text] ∧ mL [some (.str text), none, none] [] = .ok [.ref i] he ∧ he[i]? = some (.lst (ls.map W.str)) ∧ LinesOk m1 m2 m3 ls rs ∧
  ∃ Wv : Nat → Option Addr → L2.St → Hp → Prop, Wv 0 none σ H1 ∧ ∀ j L σ H, Wv j L σ H → (∀ Ls, L = some Ls → H Ls = some (.lst (ls.map V.str))) ∧ ((outs 0 rs)[j]? = none → D.nx σ H) ∧
    ∀ p ws, (outs 0 rs)[j]? = some (p, ws) → ∀ Ls lw tp H', Nxt K L (ls.map V.str) p ws H Ls lw tp H' → g (.ref tp) σ H' fun σ2 H2 => tb { D with nx := Wv (j + 1) (some Ls), ct := Wv (j + 1) (some Ls), bk := D.nx } σ2 H2
theorem pg_keeps {X : Cx} {tg : Expr} {t : TG} (hg : PG X tg t) (hx : XeTw X) {pins : List (Addr × Obj)} {s : Shared} {σ : L2.St} {H : Hp} {v : V} {u : Value} {Q : L2.St → Hp → Prop} (I : Inv X pins σ H s) (r : RelV v u) (h : t v σ H Q) :
    wpAny (model X.prog X.w) X.A (assign tg X.env u) (fun _ s' => (∃ σ' H', Inv X pins σ' H' s' ∧ Q σ' H') ∧ ∀ i, Sl s i → s'.gens[i]? = s.gens[i]?) X.xe s := by
  have t := tw_hidden s
  have J : Inv X pins σ H (hidden s) := ⟨I.ok, I.os, bare_hidden I.bare, I.base, I.loc, I.cell, I.free, I.freeC, I.pin, I.hok, I.len⟩
  exact wpAny_mono (wpAny_tw t (hg.run pins (hidden s) σ H v u Q J r h)) (fun _ s' ⟨z', ⟨σ', H', I', q⟩, t', k⟩ => ⟨⟨σ', H', inv_tw t' I', q⟩, fun i hi => k i hi⟩) fun e s' ⟨z', q, t', k⟩ => hx _ _ _ e t' q
theorem sqT_mono {K : PySem.W.Frag} {H H' : Hp} {a : Addr} {xs : List V} (g : Grow H H') (h : SqT K H a xs) : SqT K H' a xs := by
  rcases h with (h | ⟨o, h⟩) | h
  · exact .inl (.inl (g _ _ h))
  · exact .inl (.inr ⟨o, g _ _ h⟩)
  · exact .inr h

theorem ps_forG {X : Cx} {Z : Zx} {k : Nat} {f : Addr} {mL : ES} {m1 m2 : T} {m3 : E} {tg e : Expr} {body : List Stmt} {x : Str} {p pos pos' : Pos} {ta : TA} {g : TG} {tb : TS} (hK : X.K = Z.K) (D : GDef X.prog X.w Z X.mg X.base k f mL m1 m2 m3) (hp : PassesOwn (model X.prog X.w) X.A X.env X.xe) (hx : XeTw X) (hc : X.calm = true) (hr : Room (k + 3) X.A)
    (hg : Gl X x) (hm : X.mg x = some (.ref f)) (ha : PA X [e] ta) (hgt : PG X tg g) (hb : PSs X body tb) (hdb : (x == ("__debug__" : Str)) = false := by decide) (hst : starEach [e] X.env = (false, eval e X.env) :: starEach [] X.env := by rfl)
    (hpl : (backTo pos' (starEach [] X.env)).any (·.1) = false := by rfl) (hs : ∀ y, foldedSetIterable (.Call (.Name x p) [e] [] pos') X.env y = pure y := by intro _; rfl) : PS X (.For tg (.Call (.Name x p) [e] [] pos') body [] pos) (tForG X.K mL m1 m2 m3 ta g tb) := by
  refine ⟨fun pins s σ H D0 I h => ?_⟩
  refine wpAny_For ?_ hs
  have hkp : PySem.W.keepIn X.K (.ref f) = true := by rw [hK]; exact D.kp
  refine wpAny_Call_Name_kw (ld_glob I hg hm ?_ hdb)
  refine PySem.W.callWith_K (h₀ := X.base) I.ok.mod.kin hkp (thn (ha.run pos' pins s σ H _ I h) fun us s1 ⟨vs, H1, I1, r, text, ls, rs, i, he, evs, eL, eL2, ok, Wv, W0, Wt⟩ => ⟨I1.kIn, ?_⟩) hst hpl
  subst evs
  cases r with
  | @cons _ u _ _ ru rr =>
  cases rr
  have e0 := I1.env0
  rw [hK] at e0
  refine wpAny_call (codeAny_mono (made D hr e0 ru ok eL eL2) fun r s2 ⟨a, go, gn, er, M⟩ => ?_)
  subst er
  -- what stands fast
  obtain ⟨n, hn⟩ : ∃ n, n = s1.heap.objs.size := ⟨_, rfl⟩
  rw [← hn] at M
  have hs0 : X.s_0.heap.objs.size ≤ n := hn ▸ I1.sz
  have hln : X.env.locals < n := hn ▸ I1.lt
  have hcn : ∀ y c, X.env.cells.lookup y = some c → c < n := fun y c q => by
    obtain ⟨v, z⟩ := I1.cell y c q
    rw [hn]; exact z.lt
  have hpn : ∀ q ∈ X.pn ++ pins, q.1 < n := fun q hq => by rw [hn]; exact Heap.lt_size (I1.pin q hq).1
  have hfn : ∀ b, n ≤ b → b ∉ X.fs := fun b hb => I1.nofs (hn ▸ hb)
  have hnil : ∀ b ∈ ([] : List Addr), (b ∈ X.ex ∨ X.s_0.heap.objs.size ≤ b) ∧ b ≠ X.env.locals ∧ (∀ x c, X.env.cells.lookup x = some c → c ≠ b) ∧ ∀ p ∈ X.pn ++ pins, p.1 ≠ b := fun b z => by simp at z
  have I2 : Inv X pins σ H1 s2 := I1.call' (ch := []) M.os (Un.kept M.keep) (I1.hok.kept M.keep) M.bare hnil
  obtain ⟨⟨hgo, hgen, hgc, gvs, hgd⟩, hna, ⟨c0, hc0, hgoes⟩, _, _, _⟩ := M
  have ha0 : H1 a = none := I1.hok.fresh (by rw [← hn]; exact Nat.le_of_lt hna)
  have isgen : ∀ {h : Heap}, h.get? a = some go → h.IsGen a gn := fun {h} q => by
    obtain ⟨o, nm, qn, ho, r⟩ := hgen
    rw [hgo] at ho
    cases ho
    exact ⟨_, nm, qn, q, r⟩
  refine wpAny_pyIter_gen hgen ?_
  refine codeAny_forLoop_any (fun m s' => ∃ i L σ' H' own gs, i + m = (outs 0 rs).length ∧ Inv X pins σ' H' s' ∧ Wv i L σ' H' ∧ s'.heap.get? a = some go ∧ H' a = none ∧ a ∉ own ∧ (∀ b ∈ own, H' b = none) ∧ s'.gens[gn]? = some gs ∧
    GoesQ (model X.prog X.w) X.A.in1 (Out X.prog X.w Z.K X.base X.stack X.A.in1 n (ls.map V.str) ((outs 0 rs).drop i) own L (s'.setGen gn .running)) gs (s'.setGen gn .running)) ?_ (outs 0 rs).length
    ⟨0, none, σ, H1, [n], _, Nat.zero_add _, I2, W0, hgo, ha0, fun z => Nat.ne_of_gt hna (List.mem_singleton.mp z), fun b hb => by rw [List.mem_singleton.mp hb, hn]; exact I1.hok.fresh (Nat.le_refl _), hc0, hgoes⟩
  rintro m s3 ⟨i, L, σ3, H3, own, gs, hm3, I3, w3, ha3, hHa3, hao3, hown3, hgs3, hgo3⟩
  obtain ⟨wL, wE, wN⟩ := Wt i L σ3 H3 w3
  have hgl : gn < s3.gens.size := (Array.getElem?_eq_some_iff.mp hgs3).1
  have I3r : Inv X pins σ3 H3 (s3.setGen gn .running) := inv_gens I3 (allBare_setGen I3.bare rfl)
  refine wpAny_passesOwn hp (wpAny_gsz (n := gn + 1) hgl (next_q (I3.ok.hd hc) I3.nolimit hr.depth (isgen ha3) hgs3 hgo3 fun en s4 hen => ?_))
  cases hdr : (outs 0 rs).drop i with
  | nil =>
    rw [hdr] at hen
    cases en with
    | susp => exact hen.elim
    | ret r =>
      obtain ⟨hr1, He, S⟩ := hen
      refine ⟨hr1, fun h' hk' hsz => ?_⟩
      have I4 : Inv X pins σ3 H3 s4 := after3 I3r hs0 hln hcn hpn S hown3 wL
      have I5 : Inv X pins σ3 H3 (s4.setGen gn .finished) := inv_gens I4 (allBare_setGen I4.bare rfl)
      have hi : (outs 0 rs)[i]? = none := List.getElem?_eq_none_iff.mpr (List.drop_eq_nil_iff.mp hdr)
      exact wpAny_execs_nil ⟨σ3, H3, I5.kept (t' := s4.toks) hk', wE hi⟩
  | cons pw rest =>
    obtain ⟨pp, ws⟩ := pw
    rw [hdr] at hen
    have hi : (outs 0 rs)[i]? = some (pp, ws) := by
      have q := congrArg (·[0]?) hdr
      simpa using q
    have hdr2 : (outs 0 rs).drop (i + 1) = rest := by
      have q := congrArg (List.drop 1) hdr
      rw [List.drop_drop] at q
      simpa using q
    cases en with
    | ret r => exact hen.elim
    | susp v g0 l0 k0 c q0 fs0 =>
    obtain ⟨hqt, He, own', Ls, lw, tp, Y, wake⟩ := hen
    refine ⟨hqt, fun hsz => ?_⟩
    have S := Y.seg
    have hLa : L ≠ some a := fun z => by have := wL a z; rw [hHa3] at this; cases this
    have ha4 : s4.heap.get? a = some go := (S.hok a _ (S.un.frzs a go _ (hz_frz (xs := ls.map V.str) hLa (Nat.le_of_lt hna) hao3 ha3))).1
    have hbare : (End.susp v g0 l0 k0 c q0 fs0).genState.bare = true := End.bare_of_quiet hqt
    have I4 : Inv X pins σ3 (mix s3 H3 He) (s4.setGen gn (End.susp v g0 l0 k0 c q0 fs0).genState) := inv_gens (after2 I3r hs0 hln hcn hpn S hown3 wL) (allBare_setGen S.bare hbare)
    have gone : ∀ b, s3.heap.get? b = none → H3 b = none := fun b e => by
      cases q : H3 b with
      | none => rfl
      | some u => obtain ⟨o, z⟩ := ho_there I3.hok q; rw [e] at z; cases z
    have hown4 : ∀ b ∈ own', mix s3 H3 He b = none := fun b hb => by
      obtain ⟨_, _, q3, q4⟩ := Y.owns b hb
      cases z : s3.heap.get? b with
      | none => rw [mix_new z]; exact q3
      | some o =>
        rw [mix_old z]
        rcases q4 with q4 | q4
        · exact hown3 b q4
        · have q4 : s3.heap.get? b = none := q4
          rw [z] at q4; cases q4
    have hHa4 : mix s3 H3 He a = none := by rw [mix_old ha3]; exact hHa3
    have hao4 : a ∉ own' := fun hb => by
      obtain ⟨_, _, _, q4⟩ := Y.owns a hb
      rcases q4 with q4 | q4
      · exact hao3 q4
      · have q4 : s3.heap.get? a = none := q4
        rw [ha3] at q4; cases q4
    have fpo : ∀ b, n ≤ b → mix s3 H3 He b = none → FpOk X pins (mix s3 H3 He) b := fun b hb e =>
      ⟨e, Nat.ne_of_gt (Nat.lt_of_lt_of_le hln hb), hfn b hb, .inr (Nat.le_trans hs0 hb), fun y c q => Nat.ne_of_lt (Nat.lt_of_lt_of_le (hcn y c q) hb), fun q hq => Nat.ne_of_lt (Nat.lt_of_lt_of_le (hpn q hq) hb)⟩
    have I4p := I4.pinned (fp := a :: own') (fun b hb => by
      rcases List.mem_cons.mp hb with rfl | hb
      · exact fpo _ (Nat.le_of_lt hna) hHa4
      · exact fpo b (Y.owns b hb).1 (hown4 b hb)) (fun b hb => by
      rcases List.mem_cons.mp hb with rfl | hb
      · exact ⟨go, ha4, fun v z => by rw [hgd] at z; cases z⟩
      · exact (Y.owns b hb).2.1)
    have nx : Nxt X.K L (ls.map V.str) pp ws H3 Ls lw tp (mix s3 H3 He) := by
      refine ⟨fun b o q => mix_keep I3.hok q, ?_, ?_, gone lw Y.word.1, ?_, Y.word.2.2, ?_⟩
      · rcases Y.new with q | ⟨q, q2⟩
        · exact .inl q
        · exact .inr ⟨q, gone Ls q2⟩
      · rcases Y.new with q | ⟨q, q2⟩
        · exact mix_keep I3.hok (wL Ls q)
        · have q2 : s3.heap.get? Ls = none := q2
          rw [mix_new q2]; exact Y.lines
      · have q2 : s3.heap.get? lw = none := Y.word.1
        rw [mix_new q2]; exact Y.word.2.1
      · rw [hK]
        refine sqT_mono (fun b o q => ?_) Y.pair
        cases z : s3.heap.get? b with
        | none =>
          rw [mix_new z]
          have q : mix s3 (fun _ => none) He b = some o := q
          rw [mix_new z] at q; exact q
        | some ob =>
          have q : mix s3 (fun _ => none) He b = some o := q
          rw [mix_old z] at q; cases q
    refine go_of (s := s4.setGen gn (End.susp v g0 l0 k0 c q0 fs0).genState) ha4 hgc hgd (by decide) ?_
    have rv : RelV (.ref tp) v := Y.val
    refine wpAny_passesOwn hp (thn (pg_keeps hgt hx I4p rv (wN pp ws hi Ls lw tp _ nx)) fun _ s6 ⟨⟨σ6, H6, I6, q6⟩, k6⟩ => ?_)
    have g6 : s6.gens[gn]? = some (End.susp v g0 l0 k0 c q0 fs0).genState := by
      have hl4 : gn < s4.gens.size := by
        have q : (s4.setGen gn (End.susp v g0 l0 k0 c q0 fs0).genState).gens.size = s4.gens.size := GenW.setGen_size _ _ _
        have hsz : gn + 1 ≤ (s4.setGen gn (End.susp v g0 l0 k0 c q0 fs0).genState).gens.size := hsz
        omega
      have z := setGen_at (s := s4) (x := (End.susp v g0 l0 k0 c q0 fs0).genState) hl4
      rw [← z]
      exact k6 gn ⟨_, z, trivial⟩
    refine wpAny_passesOwn hp (thn (pss_keeps hb hx I6 q6) fun fl s7 ⟨q7, k7⟩ => ?_)
    have g7 : s7.gens[gn]? = some (End.susp v g0 l0 k0 c q0 fs0).genState := (k7 gn ⟨_, g6, trivial⟩).trans g6
    have again : ∀ {σ7 : L2.St} {H7 : Hp}, Inv X (pins ++ pinsAt (a :: own') (s4.setGen gn (End.susp v g0 l0 k0 c q0 fs0).genState).heap) σ7 H7 s7 → Wv (i + 1) (some Ls) σ7 H7 →
        ∃ m', m' < m ∧ ∃ i L σ' H' own gs, i + m' = (outs 0 rs).length ∧ Inv X pins σ' H' s7 ∧ Wv i L σ' H' ∧ s7.heap.get? a = some go ∧ H' a = none ∧ a ∉ own ∧ (∀ b ∈ own, H' b = none) ∧ s7.gens[gn]? = some gs ∧
          GoesQ (model X.prog X.w) X.A.in1 (Out X.prog X.w Z.K X.base X.stack X.A.in1 n (ls.map V.str) ((outs 0 rs).drop i) own L (s7.setGen gn .running)) gs (s7.setGen gn .running) := fun {σ7 H7} I7 w7 => by
      have pin7 : ∀ b ∈ a :: own', ∀ o, s4.heap.get? b = some o → s7.heap.get? b = some o ∧ H7 b = none := fun b hb o q => by
        have z := I7.pin (b, o) (List.mem_append_right _ (List.mem_append_right _ (mem_pinsAt hb q)))
        exact ⟨z.1, z.2.1⟩
      have hlen : i < (outs 0 rs).length := (List.getElem?_eq_some_iff.mp hi).1
      refine ⟨m - 1, by omega, i + 1, some Ls, σ7, H7, own', _, by omega, I7.unpinned, w7, (pin7 a List.mem_cons_self go ha4).1, (pin7 a List.mem_cons_self go ha4).2, hao4, fun b hb => ?_, g7, ?_⟩
      · obtain ⟨o, q, _⟩ := (Y.owns b hb).2.1
        exact (pin7 b (List.mem_cons_of_mem _ hb) o q).2
      · rw [hdr2]
        have wL7 := (Wt (i + 1) (some Ls) σ7 H7 w7).1 Ls rfl
        refine wake (s7.setGen gn .running) ⟨?_, allBare_setGen I7.bare rfl, fun b hb o q => (pin7 b (List.mem_cons_of_mem _ hb) o q).1, fun H => ?_, fun b o q => I7.bk b o q, I7.stack⟩
        · show s7.os = s4.os
          have e1 : s4.os = s3.os := S.os
          rw [e1]
          exact I7.os.trans I3.os.symm
        · exact I7.hok Ls _ wL7
    cases fl with
    | next => obtain ⟨σ7, H7, I7, n7⟩ := q7; exact again I7 n7
    | cont => obtain ⟨σ7, H7, I7, n7⟩ := q7; exact again I7 n7
    | brk => obtain ⟨σ7, H7, I7, q7⟩ := q7; exact ⟨σ7, H7, I7.unpinned, q7⟩
    | ret v => obtain ⟨x7, σ7, H7, I7, r7, q7⟩ := q7; exact ⟨x7, σ7, H7, I7.unpinned, r7, q7⟩
end GZ
end
section
set_option Elab.async false
set_option linter.all false
set_option autoImplicit false
set_option maxRecDepth 100000
namespace VE
open PySem PySem.Spec PyProof.Rows L2 GZ
theorem strsOf_eq : ∀ {ws : List W} {xs : List Str}, strsOf ws = some xs → ws = xs.map W.str
  | [], xs, e => by cases e; rfl
  | .str x :: r, xs, e => by
    simp only [strsOf, Option.map_eq_some_iff] at e
    obtain ⟨ys, e1, e2⟩ := e
    subst e2
    rw [strsOf_eq e1]; rfl
  | .non :: r, xs, e => by cases e
  | .bl _ :: r, xs, e => by cases e
  | .int _ :: r, xs, e => by cases e
  | .tup _ :: r, xs, e => by cases e
  | .ref _ :: r, xs, e => by cases e
theorem clStep_ok {m1 m2 : T} {m3 : E} {k : Nat} {l : Str} {r : Option (List Str)} (h : clStep m1 m2 m3 k l = some r) : LineOk m1 m2 m3 k l r := by
  unfold clStep at h
  cases e1 : m1 (sgL k l) [] with
  | ok b h1 =>
    rw [e1] at h
    cases b with
    | true => cases h
    | false =>
      cases e2 : m2 (sgL k l) [] with
      | ok b h2 =>
        rw [e2] at h
        cases b with
        | false =>
          cases h
          exact ⟨⟨h1, e1⟩, h2, e2⟩
        | true =>
          simp only at h
          split at h
          · rename_i i j h3 e3
            split at h
            · rename_i hi
              subst hi
              split at h
              · rename_i ws e4
                simp only [Option.map_eq_some_iff] at h
                obtain ⟨xs, q1, q2⟩ := h
                subst q2
                rw [strsOf_eq q1] at e4
                exact ⟨⟨h1, e1⟩, ⟨h2, e2⟩, j, h3, e3, e4⟩
              · cases h
            · cases h
          · cases h
      | ex c fs h2 => rw [e2] at h; cases h
      | bad => rw [e2] at h; cases h
  | ex c fs h1 => rw [e1] at h; cases h
  | bad => rw [e1] at h; cases h
theorem clAll_ok {m1 m2 : T} {m3 : E} : ∀ {ls : List Str} {k : Nat} {rs : List (Option (List Str))}, clAll m1 m2 m3 k ls = some rs → rs.length = ls.length ∧ ∀ (i : Nat) l r, ls[i]? = some l → rs[i]? = some r → LineOk m1 m2 m3 (k + i) l r
  | [], k, rs, h => by cases h; exact ⟨rfl, fun i l r e => by simp at e⟩
  | l :: ls, k, rs, h => by
    unfold clAll at h
    cases e1 : clStep m1 m2 m3 k l with
    | none => rw [e1] at h; cases h
    | some a =>
      cases e2 : clAll m1 m2 m3 (k + 1) ls with
      | none => rw [e1, e2] at h; cases h
      | some b =>
        rw [e1, e2] at h
        cases h
        obtain ⟨q1, q2⟩ := clAll_ok e2
        refine ⟨congrArg (· + 1) q1, fun i l' r' h1 h2 => ?_⟩
        cases i with
        | zero => cases h1; cases h2; exact clStep_ok e1
        | succ i =>
          have := q2 i l' r' (by simpa using h1) (by simpa using h2)
          rwa [Nat.add_assoc, Nat.add_comm 1 i] at this
theorem clText_ok {mL : ES} {t : Str} {ls : List Str} (h : clText mL t = some ls) : ∃ i he, mL [some (.str t), none, none] [] = .ok [.ref i] he ∧ he[i]? = some (.lst (ls.map W.str)) := by
  unfold clText at h
  split at h
  · rename_i i he e
    split at h
    · rename_i ws e2
      rw [strsOf_eq h] at e2
      exact ⟨i, he, e, e2⟩
    · cases h
  · cases h
section
variable {Z : Zx} {B : XK} {X : Cx} {tg e : Expr} {body : List Stmt} {pos pos' p : Pos}
theorem s_forC {k : Nat} {f : Addr} {x : Str} {is : List Nat} {mL : ES} {m1 m2 : T} {m3 : E} {mg : G} {me : VE.E} {mb : S} (hK : X.K = Z.K) (D : GDef X.prog X.w Z X.mg X.base k f mL m1 m2 m3) (hp : PassesOwn (model X.prog X.w) X.A X.env X.xe) (hx : XeTw X) (hc : X.calm = true) (hr : Room (k + 3) X.A)
    (hm : X.mg x = some (.ref f)) (he : PE X e (rE Z B me)) (hgt : PG X tg (rG Z B is mg)) (hb : PSs X body (rS Z B mb)) (hg : Gl X x := by rfl) (hdb : (x == ("__debug__" : Str)) = false := by decide) (hst : starEach [e] X.env = (false, eval e X.env) :: starEach [] X.env := by rfl)
    (hpl : (backTo pos' (starEach [] X.env)).any (·.1) = false := by rfl) (hs : ∀ y, foldedSetIterable (.Call (.Name x p) [e] [] pos') X.env y = pure y := by intro _; rfl) : PS X (.For tg (.Call (.Name x p) [e] [] pos') body [] pos) (rS Z B (sForC mL m1 m2 m3 mg me mb)) :=
  PS.weak (ps_forG hK D hp hx hc hr hg hm (a_cons he a_nil hst) hgt hb hdb hst hpl hs) fun D σ H ⟨α, he, σw, hr, sr, g⟩ => by
    refine ⟨α, he, σw, hr, sr, ?_⟩
    have g1 := Got.bind g
    unfold esC esN
    cases q : me σw he with
    | bad => rw [q] at g1; exact g1.elim
    | ex c fs h1 => rw [q] at g1; exact g1
    | ok w he1 =>
      rw [q] at g1
      intro α1 H1 x1 hr1 vs rv
      have g2 := g1 α1 H1 x1 hr1
      have sr1 := sr.ext x1
      cases rv with
      | cons r1 t =>
        cases t
        cases r1 with
        | str y =>
          simp only at g2
          cases e1 : clText mL y with
          | none => rw [e1] at g2; exact g2.elim
          | some ls =>
          cases e2 : clAll m1 m2 m3 0 ls with
          | none => simp only [e1, Option.bind_some, e2] at g2; exact g2.elim
          | some rs =>
          simp only [e1, Option.bind_some, e2] at g2
          obtain ⟨i, hl, eL, eL2⟩ := clText_ok e1
          obtain ⟨l1, l2⟩ := clAll_ok e2
          refine ⟨y, ls, rs, i, hl, rfl, eL, eL2, ⟨l1, fun k l r q1 q2 => by have := l2 k l r q1 q2; rwa [Nat.zero_add] at this⟩,
            fun j L σ2 H2 => ∃ α2 he2 σw2, Ext α1 α2 H1 H2 ∧ HR Z α2 he2 H2 ∧ SR Z α2 H2 σw2 σ2 ∧ (∀ Ls, L = some Ls → Ls ∉ α2 ∧ H2 Ls = some (.lst (ls.map V.str))) ∧ Got Z B α2 H2 (forPairs (fun x σ h => (mg x σ h).bind fun σ h => mb σ h) ((outs 0 rs).drop j) σw2 he2) (FlQ Z D),
            ⟨α1, he1, σw, .refl, hr1, sr1, (fun Ls z => nomatch z), g2⟩, ?_⟩
          rintro j L σ2 H2 ⟨α2, he2, σw2, x2, hr2, sr2, hL, g3⟩
          refine ⟨fun Ls z => (hL Ls z).2, fun hn => ?_, fun p ws hi Ls lw tp H' N => ?_⟩
          · rw [List.drop_eq_nil_iff.mpr (List.getElem?_eq_none_iff.mp hn)] at g3
            exact Got.now g3 hr2 _ sr2
          · have hlt := (List.getElem?_eq_some_iff.mp hi).1
            have ed : (outs 0 rs).drop j = (p, ws) :: (outs 0 rs).drop (j + 1) := by
              rw [List.drop_eq_getElem_cons hlt]
              congr 1
              exact (List.getElem?_eq_some_iff.mp hi).2
            rw [ed] at g3
            have nlw : lw ∉ α2 := hr2.out N.word0
            have nLs : Ls ∉ α2 ++ [lw] := fun z => by
              rcases List.mem_append.mp z with z | z
              · rcases N.new with q | ⟨_, q⟩
                · exact (hL Ls q).1 z
                · exact hr2.out q z
              · exact N.ne (List.mem_singleton.mp z).symm
            have pr : ∀ (i : Nat) a, α2[i]? = some a → (α2 ++ [lw])[i]? = some a := fun i a q => by
              rw [List.getElem?_append_left (List.getElem?_eq_some_iff.mp q).1]; exact q
            have x3 : Ext α2 (α2 ++ [lw]) H2 H' := ⟨pr, fun a o q _ => N.grow a o q, fun a q n => by
              rcases List.mem_append.mp q with q | q
              · exact absurd q n
              · rw [List.mem_singleton.mp q]; exact N.word0, by simp⟩
            have hr3 : HR Z (α2 ++ [lw]) (he2 ++ [.lst (ws.map W.str)]) H' := by
              refine ⟨by simp [hr2.len], ?_, fun i o a q1 q2 => ?_⟩
              · refine List.nodup_append.mpr ⟨hr2.nd, by simp, fun x hx y hy e => ?_⟩
                rw [List.mem_singleton.mp hy] at e
                exact nlw (e ▸ hx)
              · by_cases hi2 : i < he2.length
                · rw [List.getElem?_append_left hi2] at q1
                  rw [List.getElem?_append_left (by rw [hr2.len]; exact hi2)] at q2
                  obtain ⟨u, hu⟩ := hr2.trk (List.mem_of_getElem? q2)
                  exact (hr2.obj i o a q1 q2).gen pr (fun a xs q => sqT_mono N.grow q) (by rw [hu]; exact N.grow a u hu)
                · have hi3 : i = he2.length := by
                    have := (List.getElem?_eq_some_iff.mp q1).1
                    simp at this; omega
                  subst hi3
                  rw [List.getElem?_append_right (Nat.le_refl _)] at q1
                  rw [← hr2.len, List.getElem?_append_right (Nat.le_refl _)] at q2
                  simp at q1 q2
                  subst q1; subst q2
                  exact ⟨_, N.word, RelWs.ofStrs ws⟩
            have rel : RelW Z (α2 ++ [lw]) H' (.tup [.int p, .ref he2.length]) (.ref tp) := .tup (by have z := N.pair; rw [hK] at z; exact z) (.cons (.int p) (.cons (.ref (by rw [← hr2.len]; exact at_new)) .nil))
            have g4 : Got Z B (α2 ++ [lw]) H' (((mg (.tup [.int p, .ref he2.length]) σw2 (he2 ++ [.lst (ws.map W.str)])).bind fun σ h => mb σ h).bind fun f h => forNext f h fun σ h => forPairs (fun x σ h => (mg x σ h).bind fun σ h => mb σ h) ((outs 0 rs).drop (j + 1)) σ h) (FlQ Z D) := Got.ext g3 x3
            refine ⟨α2 ++ [lw], _, σw2, _, hr3, sr2.ext x3, rel, (Got.bind (Got.bind g4)).imp fun σw3 he3 α3 H3 x4 hr4 g5 σ3 sr3 _ => ⟨α3, he3, σw3, hr4, sr3, g5.imp fun f he4 α4 H4 x5 hr5 g6 => got_next hr5 g6 fun σw5 g7 σ5 sr5 => ?_⟩⟩
            have x45 := x4.trans x5
            refine ⟨α4, he4, σw5, (x2.trans x3).trans x45, hr5, sr5, fun Ls' z => ?_, g7⟩
            cases z
            refine ⟨fun z => ?_, x45.keep Ls _ N.lines (.inl nLs)⟩
            have := x45.new Ls z nLs
            rw [N.lines] at this; cases this
        | _ => exact g2.elim
end
end VE
end
section
set_option Elab.async false
set_option linter.all false
set_option autoImplicit false
set_option maxRecDepth 100000
set_option maxHeartbeats 0
namespace VE
open PySem PySem.Spec PyProof.Rows L2
def gd_WORD_COUNTS : List (Str × Int) := [("item", 2), ("then", 3), ("times", 3), ("word", 2)]
def ev_operands : F := fn 1 1 (sSeq (sIf (tCmp .eq (eIx (eV 0) (eK (.int 0))) (eK (.str "then"))) (sRet (eLst (esC (eIx (eV 0) (eK (.int 1))) (esC (eIx (eV 0) (eK (.int 2))) esN)))) sNil) (sRet (eIf (tCmp .eq (eIx (eV 0) (eK (.int 0))) (eK (.str "times"))) (eLst (esC (eIx (eV 0) (eK (.int 1))) esN)) (eLst esN))))
def ev_part_length : F := fn 2 2 (sSeq (sIf (tCmp .eq (eIx (eV 1) (eK (.int 0))) (eK (.str "item"))) (sRet (eK (.int 1))) sNil) (sSeq (sIf (tCmp .eq (eIx (eV 1) (eK (.int 0))) (eK (.str "then"))) (sRet (eBin .add (eIx (eV 0) (eIx (eV 1) (eK (.int 1)))) (eIx (eV 0) (eIx (eV 1) (eK (.int 2)))))) sNil) (sRet (eBin .mul (eIx (eV 0) (eIx (eV 1) (eK (.int 1)))) (eIx (eV 1) (eK (.int 2)))))))
def ev_part_lengths : F := fn 1 3 (sSeq (sAsg (gV 1) (eLst esN)) (sSeq (sFor (gV 2) (iE (eIx (eV 0) (eK (.int 0)))) (sEx (eBmL mAppend (eV 1) (esC (eCall ev_part_length (esC (eV 1) (esC (eV 2) esN))) esN)))) (sRet (eV 1))))
def ev_script_length : F := fn 1 1 (sRet (eIx (eCall ev_part_lengths (esC (eV 0) esN)) (eIx (eV 0) (eK (.int 1)))))
def ev_Runs___init__ : F := fn 5 5 (sSeq (sFld [0] (eV 0) 0 (eV 1)) (sSeq (sFld [0, 1] (eV 0) 1 (eV 2)) (sSeq (sFld [0, 1] (eV 0) 2 (eV 3)) (sFld [0] (eV 0) 3 (eV 4)))))
def ev_Runs_then : F := fn 2 4 (sSeq (sAsg (gV 2) (eIf (tCmp .eq (eFld [0, 1] 1 (eV 0)) (eFld [0] 0 (eV 0))) (eBin .add (eFld [0, 1] 1 (eV 0)) (eFld [0, 1] 1 (eV 1))) (eFld [0, 1] 1 (eV 0)))) (sSeq (sAsg (gV 3) (eIf (tCmp .eq (eFld [0, 1] 2 (eV 1)) (eFld [0] 0 (eV 1))) (eBin .add (eFld [0, 1] 2 (eV 1)) (eFld [0, 1] 2 (eV 0))) (eFld [0, 1] 2 (eV 1)))) (sRet (eNew 0 ev_Runs___init__ (esC (eBin .add (eFld [0] 0 (eV 0)) (eFld [0] 0 (eV 1))) (esC (eV 2) (esC (eV 3) (esC (eCall fMax (esC (eFld [0] 3 (eV 0)) (esC (eFld [0] 3 (eV 1)) (esC (eBin .add (eFld [0, 1] 2 (eV 0)) (eFld [0, 1] 1 (eV 1))) esN)))) esN))))))))
def ev_Runs_times : F := fn 2 4 (sSeq (sIf (tCmp .eq (eFld [0, 1] 1 (eV 0)) (eFld [0] 0 (eV 0))) (sSeq (sAsg (gV 2) (eBin .mul (eFld [0] 0 (eV 0)) (eV 1))) (sRet (eNew 0 ev_Runs___init__ (esC (eV 2) (esC (eV 2) (esC (eV 2) (esC (eV 2) esN))))))) sNil) (sSeq (sIf (tCmp .eq (eV 1) (eK (.int 1))) (sRet (eV 0)) sNil) (sSeq (sAsg (gV 3) (eCall fMax (esC (eFld [0] 3 (eV 0)) (esC (eBin .add (eFld [0, 1] 2 (eV 0)) (eFld [0, 1] 1 (eV 0))) esN)))) (sRet (eNew 0 ev_Runs___init__ (esC (eBin .mul (eFld [0] 0 (eV 0)) (eV 1)) (esC (eFld [0, 1] 1 (eV 0)) (esC (eFld [0, 1] 2 (eV 0)) (esC (eV 3) esN)))))))))
def ev_longest_stretch : F := fn 2 5 (sSeq (sAsg (gV 2) (eLst esN)) (sSeq (sFor (gV 3) (iE (eIx (eV 0) (eK (.int 0)))) (sIf (tCmp .eq (eIx (eV 3) (eK (.int 0))) (eK (.str "item"))) (sSeq (sAsg (gV 4) (eIf (tCmp .eq (eIx (eV 3) (eK (.int 1))) (eV 1)) (eK (.int 1)) (eK (.int 0)))) (sEx (eBmL mAppend (eV 2) (esC (eNew 0 ev_Runs___init__ (esC (eK (.int 1)) (esC (eV 4) (esC (eV 4) (esC (eV 4) esN))))) esN)))) (sIf (tCmp .eq (eIx (eV 3) (eK (.int 0))) (eK (.str "then"))) (sEx (eBmL mAppend (eV 2) (esC (eMeth 0 11 ev_Runs_then (eIx (eV 2) (eIx (eV 3) (eK (.int 1)))) (esC (eIx (eV 2) (eIx (eV 3) (eK (.int 2)))) esN)) esN))) (sEx (eBmL mAppend (eV 2) (esC (eMeth 0 12 ev_Runs_times (eIx (eV 2) (eIx (eV 3) (eK (.int 1)))) (esC (eIx (eV 3) (eK (.int 2))) esN)) esN)))))) (sRet (eFld [0] 3 (eIx (eV 2) (eIx (eV 0) (eK (.int 1))))))))
def ev_Gaps___init__ : F := fn 4 4 (sSeq (sFld [0, 1] (eV 0) 1 (eV 1)) (sSeq (sFld [0, 1] (eV 0) 2 (eV 2)) (sFld [1] (eV 0) 4 (eV 3))))
def ev_wider : F := fn 2 2 (sSeq (sIf (tOr (tCmp .isN (eV 0) (eK .non)) (tCmp .isN (eV 1) (eK .non))) (sRet (eIf (tCmp .isN (eV 0) (eK .non)) (eV 1) (eV 0))) sNil) (sRet (eCall fMax (esC (eV 0) (esC (eV 1) esN)))))
def ev_gaps_then : F := fn 4 5 (sSeq (sIf (tOr (tCmp .isN (eV 0) (eK .non)) (tCmp .isN (eV 2) (eK .non))) (sSeq (sIf (tAnd (tCmp .isN (eV 0) (eK .non)) (tCmp .isN (eV 2) (eK .non))) (sRet (eK .non)) sNil) (sSeq (sIf (tCmp .isN (eV 0) (eK .non)) (sRet (eNew 1 ev_Gaps___init__ (esC (eBin .add (eV 1) (eFld [0, 1] 1 (eV 2))) (esC (eFld [0, 1] 2 (eV 2)) (esC (eFld [1] 4 (eV 2)) esN))))) sNil) (sRet (eNew 1 ev_Gaps___init__ (esC (eFld [0, 1] 1 (eV 0)) (esC (eBin .add (eFld [0, 1] 2 (eV 0)) (eV 3)) (esC (eFld [1] 4 (eV 0)) esN))))))) sNil) (sSeq (sAsg (gV 4) (eCall ev_wider (esC (eCall ev_wider (esC (eFld [1] 4 (eV 0)) (esC (eFld [1] 4 (eV 2)) esN))) (esC (eBin .add (eFld [0, 1] 2 (eV 0)) (eFld [0, 1] 1 (eV 2))) esN)))) (sRet (eNew 1 ev_Gaps___init__ (esC (eFld [0, 1] 1 (eV 0)) (esC (eFld [0, 1] 2 (eV 2)) (esC (eV 4) esN)))))))
def ev_gaps_times : F := fn 2 2 (sSeq (sIf (tOr (tCmp .isN (eV 0) (eK .non)) (tCmp .eq (eV 1) (eK (.int 1)))) (sRet (eV 0)) sNil) (sRet (eNew 1 ev_Gaps___init__ (esC (eFld [0, 1] 1 (eV 0)) (esC (eFld [0, 1] 2 (eV 0)) (esC (eCall ev_wider (esC (eFld [1] 4 (eV 0)) (esC (eBin .add (eFld [0, 1] 2 (eV 0)) (eFld [0, 1] 1 (eV 0))) esN))) esN))))))
def ev_widest_gap : F := fn 2 8 (sSeq (sPar 2 3 (esC (eCall ev_part_lengths (esC (eV 0) esN)) (esC (eLst esN) esN))) (sSeq (sFor (gV 4) (iE (eIx (eV 0) (eK (.int 0)))) (sIf (tCmp .eq (eIx (eV 4) (eK (.int 0))) (eK (.str "item"))) (sEx (eBmL mAppend (eV 3) (esC (eIf (tCmp .eq (eIx (eV 4) (eK (.int 1))) (eV 1)) (eNew 1 ev_Gaps___init__ (esC (eK (.int 0)) (esC (eK (.int 0)) (esC (eK .non) esN)))) (eK .non)) esN))) (sIf (tCmp .eq (eIx (eV 4) (eK (.int 0))) (eK (.str "then"))) (sSeq (sPar 5 6 (esC (eIx (eV 4) (eK (.int 1))) (esC (eIx (eV 4) (eK (.int 2))) esN))) (sEx (eBmL mAppend (eV 3) (esC (eCall ev_gaps_then (esC (eIx (eV 3) (eV 5)) (esC (eIx (eV 2) (eV 5)) (esC (eIx (eV 3) (eV 6)) (esC (eIx (eV 2) (eV 6)) esN))))) esN)))) (sEx (eBmL mAppend (eV 3) (esC (eCall ev_gaps_times (esC (eIx (eV 3) (eIx (eV 4) (eK (.int 1)))) (esC (eIx (eV 4) (eK (.int 2))) esN))) esN)))))) (sSeq (sAsg (gV 7) (eIx (eV 3) (eIx (eV 0) (eK (.int 1))))) (sRet (eIf (tCmp .isN (eV 7) (eK .non)) (eK .non) (eFld [1] 4 (eV 7)))))))
def ev_node_down : F := fn 3 4 (sSeq (sAsg (gV 3) (eIx (eIx (eV 0) (eK (.int 0))) (eIx (eV 0) (eK (.int 1))))) (sSeq (sWhl (tCmp .ne (eIx (eV 3) (eK (.int 0))) (eK (.str "item"))) (sIf (tCmp .eq (eIx (eV 3) (eK (.int 0))) (eK (.str "times"))) (sSeq (sAsg (gV 2) (eBin .mod (eV 2) (eIx (eV 1) (eIx (eV 3) (eK (.int 1)))))) (sAsg (gV 3) (eIx (eIx (eV 0) (eK (.int 0))) (eIx (eV 3) (eK (.int 1)))))) (sIf (tCmp .lt (eV 2) (eIx (eV 1) (eIx (eV 3) (eK (.int 1))))) (sAsg (gV 3) (eIx (eIx (eV 0) (eK (.int 0))) (eIx (eV 3) (eK (.int 1))))) (sSeq (sAug 2 .sub (eIx (eV 1) (eIx (eV 3) (eK (.int 1))))) (sAsg (gV 3) (eIx (eIx (eV 0) (eK (.int 0))) (eIx (eV 3) (eK (.int 2))))))))) (sRet (eIx (eV 3) (eK (.int 1))))))
def ev_item_at : F := fn 2 3 (sSeq (sAsg (gV 2) (eCall ev_part_lengths (esC (eV 0) esN))) (sSeq (sIf (tNot (tCh2 .le .lt (eK (.int 0)) (eV 1) (eIx (eV 2) (eIx (eV 0) (eK (.int 1)))))) (sRaise 103 [9] (esC (eK (.str "place")) esN)) sNil) (sRet (eCall ev_node_down (esC (eV 0) (esC (eV 2) (esC (eV 1) esN)))))))
def ev_items_between : F := fn 3 5 (sSeq (sAsg (gV 3) (eCall ev_part_lengths (esC (eV 0) esN))) (sSeq (sIf (tNot (tCh3 .le .le .le (eK (.int 0)) (eV 1) (eV 2) (eIx (eV 3) (eIx (eV 0) (eK (.int 1)))))) (sRaise 103 [9] (esC (eK (.str "place")) esN)) sNil) (sSeq (sIf (tCmp .gt (eBin .sub (eV 2) (eV 1)) (eK (.int 400))) (sRaise 103 [9] (esC (eK (.str "long")) esN)) sNil) (sRet (eCall fTuple (esC (eLc (eCall ev_node_down (esC (eV 0) (esC (eV 3) (esC (eV 4) esN)))) (gV 4) (iRg (esC (eV 1) (esC (eV 2) esN))) tYes [4]) esN))))))
def ev_part_numbers : F := fn 2 4 (sSeq (sAsg (gV 2) (eLst esN)) (sSeq (sFor (gV 3) (iE (eIx (eV 0) (eK (.int 0)))) (sIf (tCmp .eq (eIx (eV 3) (eK (.int 0))) (eK (.str "item"))) (sEx (eBmL mAppend (eV 2) (esC (eIf (tCmp .eq (eIx (eV 3) (eK (.int 1))) (eV 1)) (eK (.int 1)) (eK (.int 0))) esN))) (sIf (tCmp .eq (eIx (eV 3) (eK (.int 0))) (eK (.str "then"))) (sEx (eBmL mAppend (eV 2) (esC (eBin .add (eIx (eV 2) (eIx (eV 3) (eK (.int 1)))) (eIx (eV 2) (eIx (eV 3) (eK (.int 2))))) esN))) (sEx (eBmL mAppend (eV 2) (esC (eBin .mul (eIx (eV 2) (eIx (eV 3) (eK (.int 1)))) (eIx (eV 3) (eK (.int 2)))) esN)))))) (sRet (eV 2))))
def ev_number_ahead : F := fn 4 7 (sSeq (sPar 4 5 (esC (eIx (eV 0) (eK (.int 1))) (esC (eK (.int 0)) esN))) (sSeq (sWhl (tCmp .gt (eV 3) (eK (.int 0))) (sSeq (sAsg (gV 6) (eIx (eIx (eV 0) (eK (.int 0))) (eV 4))) (sSeq (sIf (tCmp .ge (eV 3) (eIx (eV 1) (eV 4))) (sRet (eBin .add (eV 5) (eIx (eV 2) (eV 4)))) sNil) (sSeq (sAsg (gV 4) (eIx (eV 6) (eK (.int 1)))) (sIf (tCmp .eq (eIx (eV 6) (eK (.int 0))) (eK (.str "times"))) (sSeq (sAug 5 .add (eBin .mul (eBin .fdiv (eV 3) (eIx (eV 1) (eV 4))) (eIx (eV 2) (eV 4)))) (sAsg (gV 3) (eBin .mod (eV 3) (eIx (eV 1) (eV 4))))) (sIf (tCmp .ge (eV 3) (eIx (eV 1) (eV 4))) (sSeq (sAug 5 .add (eIx (eV 2) (eV 4))) (sSeq (sAug 3 .sub (eIx (eV 1) (eV 4))) (sAsg (gV 4) (eIx (eV 6) (eK (.int 2)))))) sNil)))))) (sRet (eV 5))))
def ev_bill_ahead : F := fn 3 5 (sSeq (sIf (tNot (tCh2 .le .le (eK (.int 0)) (eV 2) (eCall ev_script_length (esC (eV 1) esN)))) (sRaise 103 [9] (esC (eK (.str "place")) esN)) sNil) (sSeq (sAsg (gV 3) (eCall ev_part_lengths (esC (eV 1) esN))) (sRet (eCall fTuple (esC (eLc (eCall ev_number_ahead (esC (eV 1) (esC (eV 3) (esC (eCall ev_part_numbers (esC (eV 1) (esC (eV 4) esN))) (esC (eV 2) esN))))) (gV 4) (iE (eIx (eV 0) (eK (.int 0)))) tYes [4]) esN)))))
def ev_item_place : F := fn 3 8 (sSeq (sPar 3 4 (esC (eCall ev_part_lengths (esC (eV 0) esN)) (esC (eCall ev_part_numbers (esC (eV 0) (esC (eV 1) esN))) esN))) (sSeq (sIf (tCmp .ge (eV 2) (eIx (eV 4) (eIx (eV 0) (eK (.int 1))))) (sRaise 103 [9] (esC (eK (.str "none")) esN)) sNil) (sSeq (sPar 5 6 (esC (eIx (eV 0) (eK (.int 1))) (esC (eK (.int 0)) esN))) (sSeq (sWhl (tCmp .ne (eIx (eIx (eIx (eV 0) (eK (.int 0))) (eV 5)) (eK (.int 0))) (eK (.str "item"))) (sSeq (sAsg (gV 7) (eIx (eIx (eV 0) (eK (.int 0))) (eV 5))) (sSeq (sAsg (gV 5) (eIx (eV 7) (eK (.int 1)))) (sIf (tCmp .eq (eIx (eV 7) (eK (.int 0))) (eK (.str "times"))) (sSeq (sAug 6 .add (eBin .mul (eBin .fdiv (eV 2) (eIx (eV 4) (eV 5))) (eIx (eV 3) (eV 5)))) (sAsg (gV 2) (eBin .mod (eV 2) (eIx (eV 4) (eV 5))))) (sIf (tCmp .ge (eV 2) (eIx (eV 4) (eV 5))) (sSeq (sAug 2 .sub (eIx (eV 4) (eV 5))) (sSeq (sAug 6 .add (eIx (eV 3) (eV 5))) (sAsg (gV 5) (eIx (eV 7) (eK (.int 2)))))) sNil))))) (sRet (eV 6))))))
def ev_turned_script : F := fn 1 3 (sSeq (sAsg (gV 1) (eLc (eIf (tCmp .eq (eIx (eV 2) (eK (.int 0))) (eK (.str "then"))) (eTup (esC (eK (.str "then")) (esC (eIx (eV 2) (eK (.int 2))) (esC (eIx (eV 2) (eK (.int 1))) esN)))) (eV 2)) (gV 2) (iE (eIx (eV 0) (eK (.int 0)))) tYes [2])) (sRet (eTup (esC (eCall fTuple (esC (eV 1) esN)) (esC (eIx (eV 0) (eK (.int 1))) esN)))))
def ev_text_lines : F := fn 1 2 (sSeq (sAsg (gV 1) (eBmS mSplit (eV 0) (esC (eK (.str "\n")) esN))) (sSeq (sIf (tCmp .eq (eIx (eV 1) (eNeg (eK (.int 1)))) (eK (.str ""))) (sEx (eBmL mPop (eV 1) esN)) sNil) (sRet (eV 1))))
def ev_words_of : F := fn 1 2 (sRet (eLc (eV 1) (gV 1) (iE (eBmS mSplit (eV 0) (esC (eK (.str " ")) esN))) (tCmp .ne (eV 1) (eK (.str ""))) [1]))
def ev_passed_over : F := fn 1 2 (sSeq (sAsg (gV 1) (eCall ev_words_of (esC (eV 0) esN))) (sRet (eOr (eB (tNot (tV (eV 1)))) (eB (tCmp .eq (eIx (eIx (eV 1) (eK (.int 0))) (eK (.int 0))) (eK (.str "#")))))))
def ev_beyond_limit : F := fn 2 2 (sRet (eOr (eB (tCmp .gt (eCall fLen (esC (eV 0) esN)) (eK (.int 2000)))) (eB (tCmp .gt (eV 1) (eK (.int 400))))))
def cl_L : ES := (esC (eCall ev_text_lines (esC (eV 0) esN)) esN)
def cl_1 : T := (tV (eCall ev_beyond_limit (esC (eV 2) (esC (eBin .add (eV 1) (eK (.int 1))) esN))))
def cl_2 : T := (tNot (tV (eCall ev_passed_over (esC (eV 2) esN))))
def cl_3 : VE.E := (eTup (esC (eBin .add (eV 1) (eK (.int 1))) (esC (eCall ev_words_of (esC (eV 2) esN)) esN)))
def ev_written_big : F := fn 2 4 (sSeq (sAsg (gV 2) (eIf (tCmp .eq (eSl (eV 0) pNo (pSome (eK (.int 1)))) (eK (.str "-"))) (eSl (eV 0) (pSome (eK (.int 1))) pNo) (eV 0))) (sSeq (sIf (tOr (tCmp .gt (eCall fLen (esC (eV 0) esN)) (eV 1)) (tOr (tCmp .eq (eV 2) (eK (.str ""))) (tV (eLc (eV 3) (gV 3) (iE (eV 2)) (tCmp .notIn (eV 3) (eK (.str "0123456789"))) [3])))) (sRet (eK .non)) sNil) (sSeq (sIf (tAnd (tCmp .eq (eIx (eV 2) (eK (.int 0))) (eK (.str "0"))) (tCmp .ne (eV 0) (eK (.str "0")))) (sRet (eK .non)) sNil) (sRet (eCall fInt (esC (eV 0) esN))))))
def ev_written_integer : F := fn 1 1 (sRet (eCall ev_written_big (esC (eV 0) (esC (eK (.int 20)) esN))))
def ev_written_within : F := fn 3 4 (sSeq (sAsg (gV 3) (eCall ev_written_integer (esC (eV 0) esN))) (sRet (eIf (tAnd (tCmp .notN (eV 3) (eK .non)) (tCh2 .le .le (eV 1) (eV 3) (eV 2))) (eV 3) (eK .non))))
def ev_node_of_word : F := fn 1 1 (sRet (eIf (tCmp .eq (eV 0) (eK (.str "-"))) (eK (.str "")) (eV 0)))
def ev_Reader___init__ : F := fn 2 2 (sSeq (sFld [2] (eV 0) 5 (eV 1)) (sSeq (sFld [2] (eV 0) 6 (eLst esN)) (sSeq (sFld [2] (eV 0) 7 (eLst esN)) (sFld [2] (eV 0) 8 (eK .non)))))
def ev_Reader_part_of : F := fn 2 4 (sSeq (sIf (tCmp .eq (eIx (eV 1) (eK (.int 0))) (eK (.str "item"))) (sRet (eTup (esC (eK (.str "item")) (esC (eCall ev_node_of_word (esC (eIx (eV 1) (eK (.int 1))) esN)) esN)))) sNil) (sSeq (sAsg (gV 2) (eCall ev_written_within (esC (eIx (eV 1) (eK (.int 1))) (esC (eK (.int 0)) (esC (eBin .sub (eK (.int 200)) (eK (.int 1))) esN))))) (sSeq (sIf (tCmp .eq (eIx (eV 1) (eK (.int 0))) (eK (.str "times"))) (sAsg (gV 3) (eCall ev_written_within (esC (eIx (eV 1) (eK (.int 2))) (esC (eK (.int 1)) (esC (eK (.int 1000000000000000000)) esN))))) (sAsg (gV 3) (eIf (tCmp .eq (eIx (eV 1) (eK (.int 0))) (eK (.str "then"))) (eCall ev_written_within (esC (eIx (eV 1) (eK (.int 2))) (esC (eK (.int 0)) (esC (eBin .sub (eK (.int 200)) (eK (.int 1))) esN)))) (eK (.int 0))))) (sRet (eIf (tOr (tCmp .isN (eV 2) (eK .non)) (tCmp .isN (eV 3) (eK .non))) (eK .non) (eTup (esC (eIx (eV 1) (eK (.int 0))) (esC (eV 2) (esC (eV 3) esN)))))))))
def ev_Reader_take_part : F := fn 2 4 (sSeq (sIf (tV (eLc (eV 2) (gV 2) (iE (eCall ev_operands (esC (eV 1) esN))) (tCmp .ge (eV 2) (eCall fLen (esC (eFld [2] 6 (eV 0)) esN))) [2])) (sRet (eK (.str "place"))) sNil) (sSeq (sIf (tCmp .eq (eCall fLen (esC (eFld [2] 6 (eV 0)) esN)) (eK (.int 200))) (sRet (eK (.str "many"))) sNil) (sSeq (sAsg (gV 3) (eCall ev_part_length (esC (eFld [2] 7 (eV 0)) (esC (eV 1) esN)))) (sSeq (sIf (tCmp .gt (eV 3) (eK (.int 100000000000000000000))) (sRet (eK (.str "long"))) sNil) (sSeq (sEx (eBmL mAppend (eFld [2] 6 (eV 0)) (esC (eV 1) esN))) (sSeq (sEx (eBmL mAppend (eFld [2] 7 (eV 0)) (esC (eV 3) esN))) (sRet (eK .non))))))))
def ev_Reader_take_result : F := fn 2 3 (sSeq (sAsg (gV 2) (eCall ev_written_within (esC (eV 1) (esC (eK (.int 0)) (esC (eBin .sub (eK (.int 200)) (eK (.int 1))) esN))))) (sSeq (sIf (tCmp .isN (eV 2) (eK .non)) (sRet (eK (.str "number"))) sNil) (sSeq (sIf (tCmp .ge (eV 2) (eCall fLen (esC (eFld [2] 6 (eV 0)) esN))) (sRet (eK (.str "place"))) sNil) (sSeq (sFld [2] (eV 0) 8 (eV 2)) (sRet (eK .non))))))
def ev_Reader_take : F := fn 2 3 (sSeq (sIf (tOr (tCmp .notN (eFld [2] 8 (eV 0)) (eK .non)) (tCmp .ne (eGg gd_WORD_COUNTS (eIx (eV 1) (eK (.int 0)))) (eCall fLen (esC (eV 1) esN)))) (sRet (eK (.str "words"))) sNil) (sSeq (sIf (tCmp .eq (eIx (eV 1) (eK (.int 0))) (eK (.str "word"))) (sRet (eMeth 2 15 ev_Reader_take_result (eV 0) (esC (eIx (eV 1) (eK (.int 1))) esN))) sNil) (sSeq (sIf (tAnd (tCmp .eq (eIx (eV 1) (eK (.int 0))) (eK (.str "item"))) (tAnd (tCmp .ne (eIx (eV 1) (eK (.int 1))) (eK (.str "-"))) (tCmp .notIn (eIx (eV 1) (eK (.int 1))) (eIx (eFld [2] 5 (eV 0)) (eK (.int 0)))))) (sRet (eK (.str "node"))) sNil) (sSeq (sAsg (gV 2) (eMeth 2 13 ev_Reader_part_of (eV 0) (esC (eV 1) esN))) (sRet (eIf (tCmp .isN (eV 2) (eK .non)) (eK (.str "number")) (eMeth 2 14 ev_Reader_take_part (eV 0) (esC (eV 2) esN))))))))
def ev_read_script : F := fn 2 6 (sSeq (sAsg (gV 2) (eNew 2 ev_Reader___init__ (esC (eV 0) esN))) (sSeq (sForC cl_L cl_1 cl_2 cl_3 (gTup 2 (gsC (gV 3) (gsC (gV 4) gsN))) (eV 1) (sSeq (sAsg (gV 5) (eMeth 2 16 ev_Reader_take (eV 2) (esC (eV 4) esN))) (sIf (tCmp .notN (eV 5) (eK .non)) (sRaise 104 [10, 9] (esC (eV 3) (esC (eV 5) esN))) sNil))) (sSeq (sIf (tCmp .isN (eFld [2] 8 (eV 2)) (eK .non)) (sRaise 104 [10, 9] (esC (eBin .add (eCall fLen (esC (eCall ev_text_lines (esC (eV 1) esN)) esN)) (eK (.int 1))) (esC (eK (.str "lacks")) esN))) sNil) (sRet (eTup (esC (eCall fTuple (esC (eFld [2] 6 (eV 2)) esN)) (esC (eFld [2] 8 (eV 2)) esN)))))))
def ev__law_tub : F := fn 1 5 (sSeq (sAsg (gV 1) (eK (.int 0))) (sSeq (sAsg (gV 2) (eBin .add (eK (.int 94007)) (eCall fLen (esC (eV 0) esN)))) (sSeq (sFor (gV 3) (iE (eSl (eV 0) pNo (pSome (eK (.int 55))))) (sSeq (sAsg (gV 4) (eBin .add (eBin .mul (eK (.int 2)) (eCall fAbs (esC (eCall fInt (esC (eV 3) esN)) esN))) (eCall fInt (esC (eB (tCmp .lt (eV 3) (eK (.int 0)))) esN)))) (sSeq (sIf (tCmp .ge (eV 4) (eBin .pow (eK (.int 10)) (eK (.int 18)))) (sAsg (gV 1) (eBin .add (eBin .mul (eV 1) (eK (.int 999779))) (eBin .mod (eV 4) (eBin .shl (eK (.int 1)) (eK (.int 810)))))) sNil) (sAsg (gV 2) (eBin .mod (eCall fInt (esC (eBin .add (eBin .add (eBin .mul (eV 2) (eK (.int 48271))) (eBin .mod (eV 4) (eK (.int 1999711)))) (eK (.int 43))) esN)) (eK (.int 2147483629))))))) (sRet (eLst (esC (eV 1) (esC (eV 2) (esC (eK (.int 0)) esN))))))))
def ev__law_dip : F := fn 2 3 (sSeq (sIf (tCmp .gt (eIx (eV 0) (eK (.int 0))) (eK (.int 0))) (sSeq (sAsg (gV 2) (eBin .mod (eCall fInt (esC (eIx (eV 0) (eK (.int 0))) esN)) (eV 1))) (sSeq (sAsg (gIx (eV 0) (eK (.int 0))) (eBin .fdiv (eIx (eV 0) (eK (.int 0))) (eV 1))) (sRet (eV 2)))) sNil) (sSeq (sAsg (gIx (eV 0) (eK (.int 2))) (eBin .add (eIx (eV 0) (eK (.int 2))) (eK (.int 1)))) (sSeq (sAsg (gIx (eV 0) (eK (.int 1))) (eBin .mod (eCall fInt (esC (eBin .add (eBin .add (eBin .mul (eIx (eV 0) (eK (.int 1))) (eK (.int 40014))) (eBin .mul (eIx (eV 0) (eK (.int 2))) (eK (.int 7459)))) (eK (.int 71))) esN)) (eK (.int 2147483629)))) (sRet (eBin .mod (eCall fInt (esC (eBin .fdiv (eIx (eV 0) (eK (.int 1))) (eK (.int 311))) esN)) (eV 1))))))
def ev__law_of : F := fn 2 2 (sRet (eIx (eV 1) (eCall ev__law_dip (esC (eV 0) (esC (eCall fLen (esC (eV 1) esN)) esN)))))
def ev__law_some : F := fn 3 5 (sSeq (sAsg (gV 3) (eCall fList (esC (eV 1) esN))) (sRet (eLc (eBmL mPop (eV 3) (esC (eCall ev__law_dip (esC (eV 0) (esC (eCall fLen (esC (eV 3) esN)) esN))) esN)) (gV 4) (iRg (esC (eV 2) esN)) tYes [4])))
def ev__law_same : F := fn 2 8 (sSeq (sAsg (gV 2) (eLst (esC (eTup (esC (eV 0) (esC (eV 1) esN))) esN))) (sSeq (sFor (gV 3) (iRg (esC (eK (.int 400000)) esN)) (sSeq (sIf (tCmp .eq (eCall fLen (esC (eV 2) esN)) (eK (.int 0))) (sRet (eK (.bl true))) sNil) (sSeq (sAsg (gTup 2 (gsC (gV 4) (gsC (gV 5) gsN))) (eBmL mPop (eV 2) esN)) (sIf (tV (eIsi [.tuple, .list] (eV 5))) (sSeq (sIf (tOr (tCmp .ne (eIsi [.tuple] (eV 4)) (eIsi [.tuple] (eV 5))) (tOr (tCmp .ne (eIsi [.list] (eV 4)) (eIsi [.list] (eV 5))) (tCmp .ne (eCall fLen (esC (eV 4) esN)) (eCall fLen (esC (eV 5) esN))))) (sRet (eK (.bl false))) sNil) (sEx (eBmL mExtend (eV 2) (esC (eLc (eTup (esC (eIx (eV 4) (eV 6)) (esC (eIx (eV 5) (eV 6)) esN))) (gV 6) (iRg (esC (eCall fLen (esC (eV 5) esN)) esN)) tYes [6]) esN)))) (sIf (tV (eIsi [.dict] (eV 5))) (sSeq (sIf (tOr (tNot (tV (eIsi [.dict] (eV 4)))) (tOr (tCmp .ne (eCall fLen (esC (eV 4) esN)) (eCall fLen (esC (eV 5) esN))) (tCmp .gt (eCall fLen (esC (eLc (eV 7) (gV 7) (iE (eV 5)) (tCmp .notIn (eV 7) (eV 4)) [7]) esN)) (eK (.int 0))))) (sRet (eK (.bl false))) sNil) (sEx (eBmL mExtend (eV 2) (esC (eLc (eTup (esC (eIx (eV 4) (eV 7)) (esC (eIx (eV 5) (eV 7)) esN))) (gV 7) (iE (eV 5)) tYes [7]) esN)))) (sIf (tCmp .isN (eV 5) (eK .non)) (sIf (tCmp .notN (eV 4) (eK .non)) (sRet (eK (.bl false))) sNil) (sIf (tV (eIsi [.bool] (eV 5))) (sIf (tOr (tNot (tV (eIsi [.bool] (eV 4)))) (tCmp .ne (eV 4) (eV 5))) (sRet (eK (.bl false))) sNil) (sIf (tV (eIsi [.str] (eV 5))) (sIf (tOr (tNot (tV (eIsi [.str] (eV 4)))) (tCmp .ne (eV 4) (eV 5))) (sRet (eK (.bl false))) sNil) (sIf (tOr (tNot (tV (eIsi [.int] (eV 4)))) (tOr (tV (eIsi [.bool] (eV 4))) (tCmp .ne (eV 4) (eV 5)))) (sRet (eK (.bl false))) sNil))))))))) (sRet (eK (.bl false)))))
def ev__law_book : F := fn 2 10 (sSeq (sAsg (gV 2) (eCall fTuple (esC (eCall fSorted (esC (eCall ev__law_some (esC (eV 0) (esC (eTup (esC (eK (.str "a")) (esC (eK (.str "talk")) (esC (eK (.str "song")) (esC (eK (.str "z9")) (esC (eK (.str "bell")) (esC (eK (.str "drum")) (esC (eK (.str "pause1")) (esC (eK (.str "q")) esN))))))))) (esC (eBin .add (eK (.int 1)) (eCall ev__law_dip (esC (eV 0) (esC (eV 1) esN)))) esN)))) esN)) esN))) (sSeq (sAsg (gV 3) (eBin .add (eK (.int 1)) (eCall ev__law_dip (esC (eV 0) (esC (eK (.int 4)) esN))))) (sSeq (sAsg (gV 4) (eCall fTuple (esC (eLc (eV 5) (gV 5) (iE (eV 2)) (tCmp .lt (eCall ev__law_dip (esC (eV 0) (esC (eK (.int 5)) esN))) (eV 3)) [5]) esN))) (sSeq (sAsg (gV 6) (eCall fTuple (esC (eLc (eV 5) (gV 5) (iE (eV 2)) (tCmp .lt (eCall ev__law_dip (esC (eV 0) (esC (eK (.int 5)) esN))) (eV 3)) [5]) esN))) (sSeq (sAsg (gV 7) (eLst esN)) (sSeq (sFor (gV 8) (iE (eV 2)) (sAsg (gV 7) (eBin .add (eV 7) (eLc (eTup (esC (eV 8) (esC (eV 9) esN))) (gV 9) (iE (eV 2)) (tCmp .lt (eCall ev__law_dip (esC (eV 0) (esC (eK (.int 5)) esN))) (eV 3)) [9])))) (sRet (eTup (esC (eV 2) (esC (eV 4) (esC (eV 6) (esC (eCall fTuple (esC (eV 7) esN)) esN))))))))))))
def ev__law_script : F := fn 4 13 (sSeq (sAsg (gV 4) (eLc (eTup (esC (eK (.str "item")) (esC (eV 5) esN))) (gV 5) (iE (eCall ev__law_some (esC (eV 0) (esC (eV 1) (esC (eBin .add (eK (.int 1)) (eCall ev__law_dip (esC (eV 0) (esC (eCall fLen (esC (eV 1) esN)) esN)))) esN))))) tYes [5])) (sSeq (sAsg (gV 6) (eLc (eK (.int 1)) (gV 7) (iE (eV 4)) tYes [7])) (sSeq (sFor (gV 8) (iRg (esC (eCall ev__law_dip (esC (eV 0) (esC (eV 2) esN))) esN)) (sSeq (sAsg (gV 9) (eCall fMax (esC (eCall ev__law_dip (esC (eV 0) (esC (eCall fLen (esC (eV 4) esN)) esN))) (esC (eCall ev__law_dip (esC (eV 0) (esC (eCall fLen (esC (eV 4) esN)) esN))) esN)))) (sSeq (sIf (tCmp .eq (eCall ev__law_dip (esC (eV 0) (esC (eK (.int 2)) esN))) (eK (.int 0))) (sSeq (sAsg (gV 10) (eCall ev__law_dip (esC (eV 0) (esC (eCall fLen (esC (eV 4) esN)) esN)))) (sPar 7 11 (esC (eTup (esC (eK (.str "then")) (esC (eV 9) (esC (eV 10) esN)))) (esC (eBin .add (eIx (eV 6) (eV 9)) (eIx (eV 6) (eV 10))) esN)))) (sSeq (sAsg (gV 12) (eIx (eTup (esC (eK (.int 1)) (esC (eK (.int 2)) (esC (eK (.int 3)) (esC (eBin .add (eK (.int 1)) (eCall ev__law_dip (esC (eV 0) (esC (eK (.int 12)) esN)))) (esC (eIx (eTup (esC (eK (.int 1)) (esC (eK (.int 10)) (esC (eK (.int 100)) (esC (eK (.int 1000)) (esC (eK (.int 10000)) (esC (eK (.int 100000)) (esC (eK (.int 1000000)) esN)))))))) (eCall ev__law_dip (esC (eV 0) (esC (eK (.int 7)) esN)))) (esC (eBin .sub (eBin .pow (eK (.int 10)) (eK (.int 18))) (eCall ev__law_dip (esC (eV 0) (esC (eK (.int 3)) esN)))) esN))))))) (eCall ev__law_dip (esC (eV 0) (esC (eK (.int 6)) esN))))) (sPar 7 11 (esC (eTup (esC (eK (.str "times")) (esC (eV 9) (esC (eV 12) esN)))) (esC (eBin .mul (eIx (eV 6) (eV 9)) (eV 12)) esN))))) (sIf (tCmp .le (eV 11) (eV 3)) (sSeq (sEx (eBmL mAppend (eV 4) (esC (eV 7) esN))) (sEx (eBmL mAppend (eV 6) (esC (eV 11) esN)))) sNil)))) (sRet (eTup (esC (eCall fTuple (esC (eV 4) esN)) (esC (eIx (eTup (esC (eBin .sub (eCall fLen (esC (eV 4) esN)) (eK (.int 1))) (esC (eBin .sub (eCall fLen (esC (eV 4) esN)) (eK (.int 1))) (esC (eCall ev__law_dip (esC (eV 0) (esC (eCall fLen (esC (eV 4) esN)) esN))) esN)))) (eCall ev__law_dip (esC (eV 0) (esC (eK (.int 3)) esN)))) esN)))))))
def ev__law_node : F := fn 1 1 (sRet (eIf (tCmp .eq (eV 0) (eK (.str ""))) (eK (.str "-")) (eV 0)))
def ev__law_script_text : F := fn 1 4 (sSeq (sAsg (gV 1) (eLst esN)) (sSeq (sFor (gV 2) (iE (eIx (eV 0) (eK (.int 0)))) (sEx (eBmL mAppend (eV 1) (esC (eIf (tCmp .eq (eIx (eV 2) (eK (.int 0))) (eK (.str "item"))) (eBin .add (eK (.str "item ")) (eCall ev__law_node (esC (eIx (eV 2) (eK (.int 1))) esN))) (eBin .add (eBin .add (eBin .add (eBin .add (eIx (eV 2) (eK (.int 0))) (eK (.str " "))) (eCall fStr (esC (eIx (eV 2) (eK (.int 1))) esN))) (eK (.str " "))) (eCall fStr (esC (eIx (eV 2) (eK (.int 2))) esN)))) esN)))) (sRet (eBin .add (eBin .add (eBin .add (eBmS mJoin (eK (.str "")) (esC (eLc (eBin .add (eV 3) (eK (.str "\n"))) (gV 3) (iE (eV 1)) tYes [3]) esN)) (eK (.str "word "))) (eCall fStr (esC (eIx (eV 0) (eK (.int 1))) esN))) (eK (.str "\n"))))))
def ev__law_loose : F := fn 2 4 (sSeq (sAsg (gV 2) (eLst esN)) (sSeq (sFor (gV 3) (iE (eSl (eBmS mSplit (eV 1) (esC (eK (.str "\n")) esN)) pNo (pSome (eNeg (eK (.int 1)))))) (sSeq (sIf (tCmp .eq (eCall ev__law_dip (esC (eV 0) (esC (eK (.int 4)) esN))) (eK (.int 0))) (sEx (eBmL mAppend (eV 2) (esC (eCall ev__law_of (esC (eV 0) (esC (eTup (esC (eK (.str "")) (esC (eK (.str "   ")) (esC (eK (.str "# length 3")) (esC (eK (.str "#")) esN))))) esN))) esN))) sNil) (sEx (eBmL mAppend (eV 2) (esC (eBin .add (eBin .add (eStrMul (eK (.str " ")) (eCall ev__law_dip (esC (eV 0) (esC (eK (.int 3)) esN)))) (eBmS mReplace (eV 3) (esC (eK (.str " ")) (esC (eCall ev__law_of (esC (eV 0) (esC (eTup (esC (eK (.str " ")) (esC (eK (.str "  ")) (esC (eK (.str "   ")) esN)))) esN))) esN)))) (eStrMul (eK (.str " ")) (eCall ev__law_dip (esC (eV 0) (esC (eK (.int 2)) esN))))) esN))))) (sRet (eBin .add (eBmS mJoin (eK (.str "\n")) (esC (eV 2) esN)) (eCall ev__law_of (esC (eV 0) (esC (eTup (esC (eK (.str "")) (esC (eK (.str "\n")) (esC (eK (.str "\n# end")) (esC (eK (.str "\n\n")) esN))))) esN)))))))
def ev__law_sizes : F := fn 1 3 (sSeq (sAsg (gV 1) (eLst esN)) (sSeq (sFor (gV 2) (iE (eIx (eV 0) (eK (.int 0)))) (sEx (eBmL mAppend (eV 1) (esC (eIf (tCmp .eq (eIx (eV 2) (eK (.int 0))) (eK (.str "item"))) (eK (.int 1)) (eIf (tCmp .eq (eIx (eV 2) (eK (.int 0))) (eK (.str "then"))) (eBin .add (eIx (eV 1) (eIx (eV 2) (eK (.int 1)))) (eIx (eV 1) (eIx (eV 2) (eK (.int 2))))) (eBin .mul (eIx (eV 1) (eIx (eV 2) (eK (.int 1)))) (eIx (eV 2) (eK (.int 2)))))) esN)))) (sRet (eV 1))))
def ev__law_counts : F := fn 2 4 (sSeq (sAsg (gV 2) (eLst esN)) (sSeq (sFor (gV 3) (iE (eIx (eV 0) (eK (.int 0)))) (sEx (eBmL mAppend (eV 2) (esC (eIf (tCmp .eq (eIx (eV 3) (eK (.int 0))) (eK (.str "item"))) (eCall fInt (esC (eB (tCmp .eq (eIx (eV 3) (eK (.int 1))) (eV 1))) esN)) (eIf (tCmp .eq (eIx (eV 3) (eK (.int 0))) (eK (.str "then"))) (eBin .add (eIx (eV 2) (eIx (eV 3) (eK (.int 1)))) (eIx (eV 2) (eIx (eV 3) (eK (.int 2))))) (eBin .mul (eIx (eV 2) (eIx (eV 3) (eK (.int 1)))) (eIx (eV 3) (eK (.int 2)))))) esN)))) (sRet (eV 2))))
def ev__law_down : F := fn 3 7 (sSeq (sAsg (gV 3) (eIx (eV 0) (eK (.int 1)))) (sSeq (sAsg (gV 4) (eLst esN)) (sSeq (sFor (gV 5) (iRg (esC (eCall fLen (esC (eIx (eV 0) (eK (.int 0))) esN)) esN)) (sSeq (sAsg (gV 6) (eIx (eIx (eV 0) (eK (.int 0))) (eV 3))) (sSeq (sIf (tCmp .eq (eIx (eV 6) (eK (.int 0))) (eK (.str "item"))) sBrk sNil) (sSeq (sAsg (gV 3) (eIx (eV 6) (eK (.int 1)))) (sIf (tCmp .eq (eIx (eV 6) (eK (.int 0))) (eK (.str "times"))) (sSeq (sEx (eBmL mAppend (eV 4) (esC (eTup (esC (eV 3) (esC (eBin .fdiv (eV 2) (eIx (eV 1) (eV 3))) esN))) esN))) (sAsg (gV 2) (eBin .mod (eCall fInt (esC (eV 2) esN)) (eIx (eV 1) (eV 3))))) (sIf (tCmp .ge (eV 2) (eIx (eV 1) (eV 3))) (sSeq (sEx (eBmL mAppend (eV 4) (esC (eTup (esC (eV 3) (esC (eK (.int 1)) esN))) esN))) (sSeq (sAsg (gV 2) (eBin .sub (eV 2) (eIx (eV 1) (eV 3)))) (sAsg (gV 3) (eIx (eV 6) (eK (.int 2)))))) sNil)))))) (sRet (eTup (esC (eIx (eIx (eIx (eV 0) (eK (.int 0))) (eV 3)) (eK (.int 1))) (esC (eV 4) esN)))))))
def ev__law_ahead : F := fn 4 6 (sSeq (sIf (tCmp .eq (eV 3) (eIx (eV 1) (eIx (eV 0) (eK (.int 1))))) (sRet (eIx (eV 2) (eIx (eV 0) (eK (.int 1))))) sNil) (sRet (eCall fSum (esC (eLc (eBin .mul (eIx (eV 2) (eV 4)) (eV 5)) (gTup 2 (gsC (gV 4) (gsC (gV 5) gsN))) (iE (eIx (eCall ev__law_down (esC (eV 0) (esC (eV 1) (esC (eV 3) esN)))) (eK (.int 1)))) tYes [4, 5]) esN))))
def ev__law_spot : F := fn 4 8 (sSeq (sAsg (gV 4) (eIx (eV 0) (eK (.int 1)))) (sSeq (sIf (tCmp .ge (eV 3) (eIx (eV 2) (eV 4))) (sRet (eK .non)) sNil) (sSeq (sAsg (gV 5) (eK (.int 0))) (sSeq (sFor (gV 6) (iRg (esC (eCall fLen (esC (eIx (eV 0) (eK (.int 0))) esN)) esN)) (sSeq (sAsg (gV 7) (eIx (eIx (eV 0) (eK (.int 0))) (eV 4))) (sSeq (sIf (tCmp .eq (eIx (eV 7) (eK (.int 0))) (eK (.str "item"))) sBrk sNil) (sSeq (sAsg (gV 4) (eIx (eV 7) (eK (.int 1)))) (sIf (tCmp .eq (eIx (eV 7) (eK (.int 0))) (eK (.str "times"))) (sSeq (sAsg (gV 5) (eBin .add (eV 5) (eBin .mul (eBin .fdiv (eV 3) (eIx (eV 2) (eV 4))) (eIx (eV 1) (eV 4))))) (sAsg (gV 3) (eBin .mod (eCall fInt (esC (eV 3) esN)) (eIx (eV 2) (eV 4))))) (sIf (tCmp .ge (eV 3) (eIx (eV 2) (eV 4))) (sSeq (sAsg (gV 5) (eBin .add (eV 5) (eIx (eV 1) (eV 4)))) (sSeq (sAsg (gV 3) (eBin .sub (eV 3) (eIx (eV 2) (eV 4)))) (sAsg (gV 4) (eIx (eV 7) (eK (.int 2)))))) sNil)))))) (sRet (eV 5))))))
def ev__law_gap : F := fn 3 8 (sSeq (sAsg (gV 3) (eLst esN)) (sSeq (sFor (gV 4) (iE (eIx (eV 0) (eK (.int 0)))) (sSeq (sIf (tCmp .eq (eIx (eV 4) (eK (.int 0))) (eK (.str "item"))) (sSeq (sEx (eBmL mAppend (eV 3) (esC (eIf (tCmp .eq (eIx (eV 4) (eK (.int 1))) (eV 2)) (eTup (esC (eK (.int 0)) (esC (eK (.int 0)) (esC (eK .non) esN)))) (eK .non)) esN))) sCnt) sNil) (sSeq (sAsg (gV 5) (eIx (eV 3) (eIx (eV 4) (eK (.int 1))))) (sSeq (sAsg (gV 6) (eIf (tCmp .eq (eIx (eV 4) (eK (.int 0))) (eK (.str "then"))) (eIx (eV 3) (eIx (eV 4) (eK (.int 2)))) (eIf (tCmp .gt (eIx (eV 4) (eK (.int 2))) (eK (.int 1))) (eV 5) (eK .non)))) (sIf (tAnd (tCmp .eq (eIx (eV 4) (eK (.int 0))) (eK (.str "then"))) (tAnd (tCmp .isN (eV 5) (eK .non)) (tCmp .notN (eV 6) (eK .non)))) (sEx (eBmL mAppend (eV 3) (esC (eTup (esC (eBin .add (eIx (eV 1) (eIx (eV 4) (eK (.int 1)))) (eIx (eV 6) (eK (.int 0)))) (esC (eIx (eV 6) (eK (.int 1))) (esC (eIx (eV 6) (eK (.int 2))) esN)))) esN))) (sIf (tOr (tCmp .isN (eV 5) (eK .non)) (tCmp .isN (eV 6) (eK .non))) (sEx (eBmL mAppend (eV 3) (esC (eIf (tOr (tCmp .isN (eV 5) (eK .non)) (tCmp .eq (eIx (eV 4) (eK (.int 0))) (eK (.str "times")))) (eV 5) (eTup (esC (eIx (eV 5) (eK (.int 0))) (esC (eBin .add (eIx (eV 5) (eK (.int 1))) (eIx (eV 1) (eIx (eV 4) (eK (.int 2))))) (esC (eIx (eV 5) (eK (.int 2))) esN))))) esN))) (sEx (eBmL mAppend (eV 3) (esC (eTup (esC (eIx (eV 5) (eK (.int 0))) (esC (eIx (eV 6) (eK (.int 1))) (esC (eCall fMax (esC (eBin .add (eLst (esC (eBin .add (eIx (eV 5) (eK (.int 1))) (eIx (eV 6) (eK (.int 0)))) esN)) (eLc (eIx (eV 7) (eK (.int 2))) (gV 7) (iE (eTup (esC (eV 5) (esC (eV 6) esN)))) (tCmp .notN (eIx (eV 7) (eK (.int 2))) (eK .non)) [7])) esN)) esN)))) esN))))))))) (sRet (eIf (tCmp .isN (eIx (eV 3) (eIx (eV 0) (eK (.int 1)))) (eK .non)) (eK .non) (eIx (eIx (eV 3) (eIx (eV 0) (eK (.int 1)))) (eK (.int 2)))))))
def ev__law_stretch : F := fn 3 9 (sSeq (sAsg (gV 3) (eLst esN)) (sSeq (sFor (gV 4) (iE (eIx (eV 0) (eK (.int 0)))) (sSeq (sIf (tCmp .eq (eIx (eV 4) (eK (.int 0))) (eK (.str "item"))) (sSeq (sEx (eBmL mAppend (eV 3) (esC (eBin .mul (eTup (esC (eCall fInt (esC (eB (tCmp .eq (eIx (eV 4) (eK (.int 1))) (eV 2))) esN)) esN)) (eK (.int 3))) esN))) sCnt) sNil) (sSeq (sAsg (gV 5) (eIx (eV 3) (eIx (eV 4) (eK (.int 1))))) (sIf (tAnd (tCmp .eq (eIx (eV 4) (eK (.int 0))) (eK (.str "times"))) (tCmp .eq (eIx (eV 5) (eK (.int 0))) (eIx (eV 1) (eIx (eV 4) (eK (.int 1)))))) (sEx (eBmL mAppend (eV 3) (esC (eBin .mul (eTup (esC (eBin .mul (eIx (eV 5) (eK (.int 0))) (eIx (eV 4) (eK (.int 2)))) esN)) (eK (.int 3))) esN))) (sIf (tCmp .eq (eIx (eV 4) (eK (.int 0))) (eK (.str "times"))) (sEx (eBmL mAppend (eV 3) (esC (eTup (esC (eIx (eV 5) (eK (.int 0))) (esC (eIx (eV 5) (eK (.int 1))) (esC (eIf (tCmp .gt (eIx (eV 4) (eK (.int 2))) (eK (.int 1))) (eCall fMax (esC (eIx (eV 5) (eK (.int 2))) (esC (eBin .add (eIx (eV 5) (eK (.int 1))) (eIx (eV 5) (eK (.int 0)))) esN))) (eIx (eV 5) (eK (.int 2)))) esN)))) esN))) (sSeq (sAsg (gV 6) (eIx (eV 3) (eIx (eV 4) (eK (.int 2))))) (sSeq (sAsg (gV 7) (eIf (tCmp .eq (eIx (eV 5) (eK (.int 0))) (eIx (eV 1) (eIx (eV 4) (eK (.int 1))))) (eBin .add (eIx (eV 5) (eK (.int 0))) (eIx (eV 6) (eK (.int 0)))) (eIx (eV 5) (eK (.int 0))))) (sSeq (sAsg (gV 8) (eIf (tCmp .eq (eIx (eV 6) (eK (.int 1))) (eIx (eV 1) (eIx (eV 4) (eK (.int 2))))) (eBin .add (eIx (eV 6) (eK (.int 1))) (eIx (eV 5) (eK (.int 1)))) (eIx (eV 6) (eK (.int 1))))) (sEx (eBmL mAppend (eV 3) (esC (eTup (esC (eV 7) (esC (eV 8) (esC (eCall fMax (esC (eIx (eV 5) (eK (.int 2))) (esC (eIx (eV 6) (eK (.int 2))) (esC (eBin .add (eIx (eV 5) (eK (.int 1))) (eIx (eV 6) (eK (.int 0)))) esN)))) esN)))) esN))))))))))) (sRet (eIx (eIx (eV 3) (eIx (eV 0) (eK (.int 1)))) (eK (.int 2))))))
def ev__law_heard : F := fn 4 5 (sTryH (sSeq (sIf (tCmp .eq (eV 0) (eK (.int 0))) (sRet (eTup (esC (eK (.str "told")) (esC (eCallK [1, 0] ev_item_at (esC (eV 2) (esC (eV 1) esN))) esN)))) sNil) (sSeq (sIf (tCmp .eq (eV 0) (eK (.int 1))) (sRet (eTup (esC (eK (.str "told")) (esC (eCall ev_items_between (esC (eV 1) (esC (eV 2) (esC (eV 3) esN)))) esN)))) sNil) (sRet (eIf (tCmp .eq (eV 0) (eK (.int 2))) (eTup (esC (eK (.str "told")) (esC (eCall ev_item_place (esC (eV 1) (esC (eV 2) (esC (eV 3) esN)))) esN))) (eTup (esC (eK (.str "told")) (esC (eCall ev_bill_ahead (esC (eV 2) (esC (eV 1) (esC (eV 3) esN)))) esN))))))) (hdT 103 "step" [9]))
def ev__law_place : F := fn 3 4 (sSeq (sAsg (gV 3) (eCall ev__law_dip (esC (eV 0) (esC (eK (.int 6)) esN)))) (sSeq (sIf (tCmp .lt (eV 3) (eK (.int 2))) (sRet (eIx (eTup (esC (eCall ev__law_dip (esC (eV 0) (esC (eK (.int 4)) esN))) (esC (eBin .sub (eBin .sub (eV 2) (eK (.int 1))) (eCall ev__law_dip (esC (eV 0) (esC (eK (.int 4)) esN)))) esN))) (eV 3))) sNil) (sSeq (sIf (tCmp .eq (eV 3) (eK (.int 2))) (sRet (eBin .add (eBin .sub (eCall ev__law_of (esC (eV 0) (esC (eV 1) esN))) (eCall ev__law_dip (esC (eV 0) (esC (eK (.int 3)) esN)))) (eK (.int 1)))) sNil) (sRet (eIx (eTup (esC (eCall fInt (esC (eBin .fdiv (eBin .mul (eV 2) (eCall ev__law_dip (esC (eV 0) (esC (eK (.int 1000)) esN)))) (eK (.int 1000))) esN)) (esC (eBin .add (eBin .mul (eCall ev__law_dip (esC (eV 0) (esC (eBin .pow (eK (.int 10)) (eK (.int 9))) esN))) (eBin .pow (eK (.int 10)) (eK (.int 11)))) (eK (.int 7))) (esC (eBin .sub (eNeg (eK (.int 1))) (eCall ev__law_dip (esC (eV 0) (esC (eK (.int 3)) esN)))) (esC (eBin .add (eV 2) (eCall ev__law_dip (esC (eV 0) (esC (eK (.int 3)) esN)))) esN))))) (eCall ev__law_dip (esC (eV 0) (esC (eK (.int 4)) esN))))))))
def ev__law_places_asked : F := fn 4 11 (sSeq (sAsg (gV 4) (eIx (eV 3) (eIx (eV 2) (eK (.int 1))))) (sSeq (sFor (gV 5) (iRg (esC (eK (.int 5)) esN)) (sSeq (sAsg (gV 6) (eCall ev__law_place (esC (eV 0) (esC (eV 3) (esC (eV 4) esN))))) (sSeq (sAsg (gV 7) (eIf (tCh2 .le .lt (eK (.int 0)) (eV 6) (eV 4)) (eTup (esC (eK (.str "told")) (esC (eIx (eCall ev__law_down (esC (eV 2) (esC (eV 3) (esC (eV 6) esN)))) (eK (.int 0))) esN))) (eTup (esC (eK (.str "step")) (esC (eK (.str "place")) esN))))) (sSeq (sIf (tNot (tV (eCall ev__law_same (esC (eCall ev__law_heard (esC (eK (.int 0)) (esC (eV 2) (esC (eV 6) (esC (eK .non) esN))))) (esC (eV 7) esN))))) (sRet (eK (.bl false))) sNil) (sSeq (sAsg (gV 7) (eTup (esC (eK (.str "step")) (esC (eK (.str "place")) esN)))) (sSeq (sIf (tCh2 .le .le (eK (.int 0)) (eV 6) (eV 4)) (sAsg (gV 7) (eTup (esC (eK (.str "told")) (esC (eCall fTuple (esC (eLc (eCall ev__law_ahead (esC (eV 2) (esC (eV 3) (esC (eCall ev__law_counts (esC (eV 2) (esC (eV 8) esN))) (esC (eV 6) esN))))) (gV 8) (iE (eIx (eV 1) (eK (.int 0)))) tYes [8]) esN)) esN)))) sNil) (sSeq (sIf (tNot (tV (eCall ev__law_same (esC (eCall ev__law_heard (esC (eK (.int 3)) (esC (eV 2) (esC (eV 1) (esC (eV 6) esN))))) (esC (eV 7) esN))))) (sRet (eK (.bl false))) sNil) (sSeq (sAsg (gV 9) (eBin .add (eV 6) (eCall ev__law_of (esC (eV 0) (esC (eTup (esC (eK (.int 0)) (esC (eK (.int 1)) (esC (eK (.int 3)) (esC (eCall ev__law_dip (esC (eV 0) (esC (eK (.int 30)) esN))) (esC (eK (.int 400)) (esC (eK (.int 401)) (esC (eNeg (eK (.int 1))) (esC (eBin .pow (eK (.int 10)) (eK (.int 19))) esN))))))))) esN))))) (sSeq (sAsg (gV 7) (eTup (esC (eK (.str "step")) (esC (eK (.str "place")) esN)))) (sSeq (sIf (tCh3 .le .le .le (eK (.int 0)) (eV 6) (eV 9) (eV 4)) (sAsg (gV 7) (eIf (tCmp .gt (eBin .sub (eV 9) (eV 6)) (eK (.int 400))) (eTup (esC (eK (.str "step")) (esC (eK (.str "long")) esN))) (eTup (esC (eK (.str "told")) (esC (eCall fTuple (esC (eLc (eIx (eCall ev__law_down (esC (eV 2) (esC (eV 3) (esC (eV 10) esN)))) (eK (.int 0))) (gV 10) (iRg (esC (eV 6) (esC (eV 9) esN))) tYes [10]) esN)) esN))))) sNil) (sIf (tNot (tV (eCall ev__law_same (esC (eCall ev__law_heard (esC (eK (.int 1)) (esC (eV 2) (esC (eV 6) (esC (eV 9) esN))))) (esC (eV 7) esN))))) (sRet (eK (.bl false))) sNil))))))))))) (sRet (eK (.bl true)))))
def ev__law_items_asked : F := fn 4 8 (sSeq (sFor (gV 4) (iE (eBin .add (eTup (esC (eK (.str "")) esN)) (eIx (eV 1) (eK (.int 0))))) (sSeq (sIf (tNot (tV (eCall ev__law_same (esC (eTup (esC (eCall ev_longest_stretch (esC (eV 2) (esC (eV 4) esN))) (esC (eCallK [1, 0] ev_widest_gap (esC (eV 4) (esC (eV 2) esN))) esN))) (esC (eTup (esC (eCall ev__law_stretch (esC (eV 2) (esC (eV 3) (esC (eV 4) esN)))) (esC (eCall ev__law_gap (esC (eV 2) (esC (eV 3) (esC (eV 4) esN)))) esN))) esN))))) (sRet (eK (.bl false))) sNil) (sSeq (sAsg (gV 5) (eCall ev__law_counts (esC (eV 2) (esC (eV 4) esN)))) (sFor (gV 6) (iE (eTup (esC (eK (.int 0)) (esC (eBin .sub (eIx (eV 5) (eIx (eV 2) (eK (.int 1)))) (eK (.int 1))) (esC (eIx (eV 5) (eIx (eV 2) (eK (.int 1)))) (esC (eCall fInt (esC (eBin .fdiv (eBin .mul (eIx (eV 5) (eIx (eV 2) (eK (.int 1)))) (eCall ev__law_dip (esC (eV 0) (esC (eK (.int 1000)) esN)))) (eK (.int 1000))) esN)) esN)))))) (sIf (tCmp .ge (eV 6) (eK (.int 0))) (sSeq (sAsg (gV 7) (eCall ev__law_spot (esC (eV 2) (esC (eV 3) (esC (eV 5) (esC (eV 6) esN)))))) (sIf (tNot (tV (eCall ev__law_same (esC (eCall ev__law_heard (esC (eK (.int 2)) (esC (eV 2) (esC (eV 4) (esC (eV 6) esN))))) (esC (eIf (tCmp .isN (eV 7) (eK .non)) (eTup (esC (eK (.str "step")) (esC (eK (.str "none")) esN))) (eTup (esC (eK (.str "told")) (esC (eV 7) esN)))) esN))))) (sRet (eK (.bl false))) sNil)) sNil))))) (sRet (eK (.bl true))))
def ev__law_is_script : F := fn 2 5 (sSeq (sIf (tOr (tNot (tV (eIsi [.tuple] (eV 1)))) (tOr (tCmp .ne (eCall fLen (esC (eV 1) esN)) (eK (.int 2))) (tOr (tNot (tV (eIsi [.tuple] (eIx (eV 1) (eK (.int 0)))))) (tCmp .eq (eCall fLen (esC (eIx (eV 1) (eK (.int 0))) esN)) (eK (.int 0)))))) (sRet (eK (.bl false))) sNil) (sSeq (sFor (gV 2) (iRg (esC (eCall fLen (esC (eIx (eV 1) (eK (.int 0))) esN)) esN)) (sSeq (sAsg (gV 3) (eIx (eIx (eV 1) (eK (.int 0))) (eV 2))) (sSeq (sIf (tOr (tNot (tV (eIsi [.tuple] (eV 3)))) (tOr (tCmp .lt (eCall fLen (esC (eV 3) esN)) (eK (.int 2))) (tOr (tNot (tV (eIsi [.str] (eIx (eV 3) (eK (.int 0)))))) (tCmp .ne (eCall fLen (esC (eV 3) esN)) (eDg [("item", 2), ("then", 3), ("times", 3)] (eIx (eV 3) (eK (.int 0))) 0))))) (sRet (eK (.bl false))) sNil) (sSeq (sIf (tCmp .eq (eIx (eV 3) (eK (.int 0))) (eK (.str "item"))) (sSeq (sIf (tOr (tNot (tV (eIsi [.str] (eIx (eV 3) (eK (.int 1)))))) (tCmp .notIn (eIx (eV 3) (eK (.int 1))) (eV 0))) (sRet (eK (.bl false))) sNil) sCnt) sNil) (sSeq (sFor (gV 4) (iE (eSl (eV 3) (pSome (eK (.int 1))) pNo)) (sIf (tOr (tNot (tV (eIsi [.int] (eV 4)))) (tOr (tV (eIsi [.bool] (eV 4))) (tCmp .lt (eV 4) (eK (.int 0))))) (sRet (eK (.bl false))) sNil)) (sIf (tOr (tCmp .ge (eIx (eV 3) (eK (.int 1))) (eV 2)) (tOr (tAnd (tCmp .eq (eIx (eV 3) (eK (.int 0))) (eK (.str "then"))) (tCmp .ge (eIx (eV 3) (eK (.int 2))) (eV 2))) (tAnd (tCmp .eq (eIx (eV 3) (eK (.int 0))) (eK (.str "times"))) (tCmp .lt (eIx (eV 3) (eK (.int 2))) (eK (.int 1)))))) (sRet (eK (.bl false))) sNil)))))) (sRet (eAnd (eIsi [.int] (eIx (eV 1) (eK (.int 1)))) (eAnd (eB (tNot (tV (eIsi [.bool] (eIx (eV 1) (eK (.int 1))))))) (eB (tCh2 .le .lt (eK (.int 0)) (eIx (eV 1) (eK (.int 1))) (eCall fLen (esC (eIx (eV 1) (eK (.int 0))) esN)))))))))
def ev__law_turned_asked : F := fn 4 11 (sSeq (sAsg (gV 4) (eIx (eV 3) (eIx (eV 2) (eK (.int 1))))) (sSeq (sAsg (gV 5) (eCall ev_turned_script (esC (eV 2) esN))) (sSeq (sIf (tOr (tNot (tV (eCall ev__law_is_script (esC (eBin .add (eTup (esC (eK (.str "")) esN)) (eIx (eV 1) (eK (.int 0)))) (esC (eV 5) esN))))) (tCmp .ne (eIx (eCall ev__law_sizes (esC (eV 5) esN)) (eIx (eV 5) (eK (.int 1)))) (eV 4))) (sRet (eK (.bl false))) sNil) (sSeq (sAsg (gV 6) (eCall ev__law_sizes (esC (eV 5) esN))) (sSeq (sAsg (gV 7) (eB (tCmp .le (eCall fLen (esC (eIx (eV 5) (eK (.int 0))) esN)) (eK (.int 400))))) (sSeq (sFor (gV 8) (iE (eBin .add (eTup (esC (eK (.str "")) esN)) (eIx (eV 1) (eK (.int 0))))) (sSeq (sIf (tCmp .ne (eIx (eCall ev__law_counts (esC (eV 5) (esC (eV 8) esN))) (eIx (eV 5) (eK (.int 1)))) (eIx (eCall ev__law_counts (esC (eV 2) (esC (eV 8) esN))) (eIx (eV 2) (eK (.int 1))))) (sRet (eK (.bl false))) sNil) (sIf (tAnd (tV (eV 7)) (tNot (tV (eCall ev__law_same (esC (eTup (esC (eCall ev_longest_stretch (esC (eV 5) (esC (eV 8) esN))) (esC (eCall ev_widest_gap (esC (eV 5) (esC (eV 8) esN))) esN))) (esC (eTup (esC (eCall ev__law_stretch (esC (eV 2) (esC (eV 3) (esC (eV 8) esN)))) (esC (eCall ev__law_gap (esC (eV 2) (esC (eV 3) (esC (eV 8) esN)))) esN))) esN)))))) (sRet (eK (.bl false))) sNil))) (sSeq (sFor (gV 9) (iRg (esC (eK (.int 12)) esN)) (sSeq (sAsg (gV 10) (eCall fMin (esC (eCall fMax (esC (eK (.int 0)) (esC (eCall ev__law_place (esC (eV 0) (esC (eV 3) (esC (eV 4) esN)))) esN))) (esC (eBin .sub (eV 4) (eK (.int 1))) esN)))) (sSeq (sAsg (gV 8) (eIx (eCall ev__law_down (esC (eV 2) (esC (eV 3) (esC (eV 10) esN)))) (eK (.int 0)))) (sSeq (sIf (tCmp .ne (eIx (eCall ev__law_down (esC (eV 5) (esC (eV 6) (esC (eBin .sub (eBin .sub (eV 4) (eK (.int 1))) (eV 10)) esN)))) (eK (.int 0))) (eV 8)) (sRet (eK (.bl false))) sNil) (sIf (tAnd (tV (eV 7)) (tNot (tV (eCall ev__law_same (esC (eCall ev__law_heard (esC (eK (.int 0)) (esC (eV 5) (esC (eBin .sub (eBin .sub (eV 4) (eK (.int 1))) (eV 10)) (esC (eK .non) esN))))) (esC (eTup (esC (eK (.str "told")) (esC (eV 8) esN))) esN)))))) (sRet (eK (.bl false))) sNil))))) (sRet (eK (.bl true))))))))))
def ev__law_lone : F := fn 2 6 (sSeq (sAsg (gV 2) (eCall ev__law_of (esC (eV 0) (esC (eIx (eV 1) (eK (.int 0))) esN)))) (sSeq (sAsg (gV 3) (eBin .add (eIx (eTup (esC (eK (.int 1)) (esC (eK (.int 10)) (esC (eK (.int 100)) (esC (eBin .pow (eK (.int 10)) (eK (.int 3))) (esC (eBin .pow (eK (.int 10)) (eK (.int 4))) (esC (eBin .pow (eK (.int 10)) (eK (.int 5))) (esC (eBin .pow (eK (.int 10)) (eK (.int 6))) (esC (eBin .pow (eK (.int 10)) (eK (.int 7))) (esC (eBin .pow (eK (.int 10)) (eK (.int 8))) esN)))))))))) (eCall ev__law_dip (esC (eV 0) (esC (eK (.int 9)) esN)))) (eCall ev__law_dip (esC (eV 0) (esC (eK (.int 3)) esN))))) (sSeq (sAsg (gV 4) (eIx (eTup (esC (eK (.int 1)) (esC (eK (.int 10)) (esC (eK (.int 100)) (esC (eBin .pow (eK (.int 10)) (eK (.int 3))) (esC (eBin .pow (eK (.int 10)) (eK (.int 4))) (esC (eBin .pow (eK (.int 10)) (eK (.int 5))) (esC (eBin .pow (eK (.int 10)) (eK (.int 6))) (esC (eBin .pow (eK (.int 10)) (eK (.int 7))) esN))))))))) (eCall ev__law_dip (esC (eV 0) (esC (eK (.int 8)) esN))))) (sSeq (sAsg (gV 5) (eTup (esC (eTup (esC (eK (.str "item")) (esC (eV 2) esN))) (esC (eTup (esC (eK (.str "item")) (esC (eK (.str "")) esN))) (esC (eTup (esC (eK (.str "times")) (esC (eK (.int 1)) (esC (eV 3) esN)))) (esC (eTup (esC (eK (.str "then")) (esC (eK (.int 0)) (esC (eK (.int 2)) esN)))) (esC (eTup (esC (eK (.str "times")) (esC (eK (.int 3)) (esC (eBin .add (eK (.int 1)) (eCall ev__law_dip (esC (eV 0) (esC (eK (.int 3)) esN)))) esN)))) (esC (eTup (esC (eK (.str "then")) (esC (eK (.int 2)) (esC (eK (.int 0)) esN)))) (esC (eTup (esC (eK (.str "then")) (esC (eK (.int 4)) (esC (eK (.int 5)) esN)))) (esC (eTup (esC (eK (.str "times")) (esC (eK (.int 6)) (esC (eV 4) esN)))) esN)))))))))) (sRet (eTup (esC (eV 5) (esC (eBin .sub (eK (.int 7)) (eCall ev__law_dip (esC (eV 0) (esC (eK (.int 3)) esN)))) esN))))))))
def ev__law_scene : F := fn 3 4 (sSeq (sIf (tNot (tV (eCall ev__law_same (esC (eCall ev_read_script (esC (eV 1) (esC (eCall ev__law_loose (esC (eV 0) (esC (eCall ev__law_script_text (esC (eV 2) esN)) esN))) esN))) (esC (eV 2) esN))))) (sRet (eK (.bl false))) sNil) (sSeq (sAsg (gV 3) (eCall ev__law_sizes (esC (eV 2) esN))) (sRet (eAnd (eCall ev__law_places_asked (esC (eV 0) (esC (eV 1) (esC (eV 2) (esC (eV 3) esN))))) (eAnd (eCall ev__law_items_asked (esC (eV 0) (esC (eV 1) (esC (eV 2) (esC (eV 3) esN))))) (eCall ev__law_turned_asked (esC (eV 0) (esC (eV 1) (esC (eV 2) (esC (eV 3) esN))))))))))
def ev__law_by_hand : F := fn 0 2 (sSeq (sAsg (gV 0) (eTup (esC (eTup (esC (eTup (esC (eK (.str "item")) (esC (eK (.str "song")) esN))) (esC (eTup (esC (eK (.str "item")) (esC (eK (.str "pause")) esN))) (esC (eTup (esC (eK (.str "then")) (esC (eK (.int 1)) (esC (eK (.int 0)) esN)))) (esC (eTup (esC (eK (.str "times")) (esC (eK (.int 2)) (esC (eK (.int 1000000)) esN)))) (esC (eTup (esC (eK (.str "item")) (esC (eK (.str "talk")) esN))) (esC (eTup (esC (eK (.str "then")) (esC (eK (.int 4)) (esC (eK (.int 0)) esN)))) (esC (eTup (esC (eK (.str "then")) (esC (eK (.int 5)) (esC (eK (.int 3)) esN)))) esN)))))))) (esC (eK (.int 6)) esN)))) (sSeq (sAsg (gV 1) (eTup (esC (eCall ev_longest_stretch (esC (eV 0) (esC (eK (.str "song")) esN))) (esC (eCall ev_widest_gap (esC (eV 0) (esC (eK (.str "pause")) esN))) (esC (eCall ev_widest_gap (esC (eV 0) (esC (eK (.str "talk")) esN))) (esC (eCall ev_longest_stretch (esC (eTup (esC (eTup (esC (eTup (esC (eK (.str "item")) (esC (eK (.str "talk")) esN))) (esC (eTup (esC (eK (.str "times")) (esC (eK (.int 0)) (esC (eK (.int 3)) esN)))) esN))) (esC (eK (.int 1)) esN))) (esC (eK (.str "talk")) esN))) (esC (eCall ev_longest_stretch (esC (eV 0) (esC (eK (.str "")) esN))) esN))))))) (sSeq (sIf (tNot (tV (eCall ev__law_same (esC (eV 1) (esC (eTup (esC (eK (.int 1)) (esC (eK (.int 1)) (esC (eK .non) (esC (eK (.int 3)) (esC (eK (.int 0)) esN)))))) esN))))) (sRet (eK (.bl false))) sNil) (sSeq (sAsg (gV 1) (eTup (esC (eCall ev_item_at (esC (eV 0) (esC (eK (.int 1000001)) esN))) (esC (eCall ev_items_between (esC (eV 0) (esC (eK (.int 0)) (esC (eK (.int 3)) esN)))) (esC (eCall ev_item_place (esC (eV 0) (esC (eK (.str "pause")) (esC (eK (.int 7)) esN)))) (esC (eCall ev_items_between (esC (eV 0) (esC (eK (.int 2000002)) (esC (eK (.int 2000002)) esN)))) esN)))))) (sSeq (sIf (tNot (tV (eCall ev__law_same (esC (eV 1) (esC (eTup (esC (eK (.str "song")) (esC (eTup (esC (eK (.str "talk")) (esC (eK (.str "song")) (esC (eK (.str "pause")) esN)))) (esC (eK (.int 16)) (esC (eTup esN) esN))))) esN))))) (sRet (eK (.bl false))) sNil) (sSeq (sAsg (gV 1) (eTup (esC (eCall ev__law_heard (esC (eK (.int 0)) (esC (eV 0) (esC (eK (.int 2000002)) (esC (eK .non) esN))))) (esC (eCall ev__law_heard (esC (eK (.int 1)) (esC (eV 0) (esC (eK (.int 5)) (esC (eK (.int 4)) esN))))) (esC (eCall ev__law_heard (esC (eK (.int 1)) (esC (eV 0) (esC (eNeg (eK (.int 1))) (esC (eK (.int 500)) esN))))) (esC (eCall ev__law_heard (esC (eK (.int 1)) (esC (eV 0) (esC (eK (.int 0)) (esC (eK (.int 401)) esN))))) esN)))))) (sSeq (sAsg (gV 1) (eBin .add (eV 1) (eTup (esC (eCall ev__law_heard (esC (eK (.int 1)) (esC (eV 0) (esC (eK (.int 0)) (esC (eK (.int 2000003)) esN))))) (esC (eCall ev__law_heard (esC (eK (.int 2)) (esC (eV 0) (esC (eK (.str "talk")) (esC (eK (.int 1)) esN))))) (esC (eCall ev__law_heard (esC (eK (.int 2)) (esC (eV 0) (esC (eK (.str "")) (esC (eK (.int 0)) esN))))) esN)))))) (sRet (eCall ev__law_same (esC (eV 1) (esC (eTup (esC (eTup (esC (eK (.str "step")) (esC (eK (.str "place")) esN))) (esC (eTup (esC (eK (.str "step")) (esC (eK (.str "place")) esN))) (esC (eTup (esC (eK (.str "step")) (esC (eK (.str "place")) esN))) (esC (eTup (esC (eK (.str "step")) (esC (eK (.str "long")) esN))) (esC (eTup (esC (eK (.str "step")) (esC (eK (.str "place")) esN))) (esC (eTup (esC (eK (.str "step")) (esC (eK (.str "none")) esN))) (esC (eTup (esC (eK (.str "step")) (esC (eK (.str "none")) esN))) esN)))))))) esN)))))))))))
def ev_law : F := fn 1 4 (sSeq (sAsg (gV 1) (eCall ev__law_tub (esC (eV 0) esN))) (sSeq (sIf (tNot (tV (eCall ev__law_by_hand esN))) (sRet (eK (.bl false))) sNil) (sSeq (sFor (gV 2) (iRg (esC (eK (.int 2)) esN)) (sSeq (sAsg (gV 3) (eCall ev__law_book (esC (eV 1) (esC (eK (.int 5)) esN)))) (sSeq (sIf (tNot (tV (eCall ev__law_scene (esC (eV 1) (esC (eV 3) (esC (eCall ev__law_script (esC (eV 1) (esC (eBin .add (eTup (esC (eK (.str "")) esN)) (eIx (eV 3) (eK (.int 0)))) (esC (eK (.int 16)) (esC (eBin .pow (eK (.int 10)) (eK (.int 20))) esN))))) esN)))))) (sRet (eK (.bl false))) sNil) (sIf (tNot (tV (eCall ev__law_scene (esC (eV 1) (esC (eV 3) (esC (eCall ev__law_lone (esC (eV 1) (esC (eV 3) esN))) esN)))))) (sRet (eK (.bl false))) sNil)))) (sRet (eOr (eB (tCmp .ne (eCall ev__law_dip (esC (eV 1) (esC (eK (.int 13)) esN))) (eK (.int 5)))) (eCall ev__law_scene (esC (eV 1) (esC (eV 3) (esC (eCall ev__law_script (esC (eV 1) (esC (eBin .add (eTup (esC (eK (.str "")) esN)) (eIx (eV 3) (eK (.int 0)))) (esC (eK (.int 150)) (esC (eBin .pow (eK (.int 10)) (eK (.int 20))) esN))))) esN)))))))))
end VE
end
section
set_option Elab.async false
set_option linter.all false
set_option autoImplicit false
set_option maxRecDepth 100000
set_option maxHeartbeats 0
namespace VE
open PySem PySem.Spec PyProof.Rows L2
def top (i : Nat) : Stmt := PySem.Challenge.pw_followon_k94_whole_far_places.main.body.getD i (.Pass ⟨0, 0, 0, 0⟩)
def inner (st : Stmt) (j : Nat) : Stmt := match st with
  | .ClassDef (body := body) .. => body.getD j (.Pass ⟨0, 0, 0, 0⟩)
  | _ => .Pass ⟨0, 0, 0, 0⟩
def clsName (i : Nat) : Str := if i < 100 then (["Runs", "Gaps", "Reader"] : List Str).getD i "" else (["BookError", "CallError", "TextError", "BadStep", "BadText"] : List Str).getD (i - 100) ""
def Zk (K : PySem.W.Frag) : Zx := ⟨K, fun i => He.ga K (clsName i), ["length", "ahead", "behind", "most", "widest", "book", "parts", "lengths", "result", "word", "line", "then", "times", "part_of", "take_part", "take_result", "take"], by decide +kernel⟩
def tabL : List (Str × List (Str × Int)) := [("WORD_COUNTS", gd_WORD_COUNTS)]
def xfL : List Str := ["BadStep", "BadText"]
def x_BadStep : HV.ExD := ⟨"BadStep", "BadStep.__init__", defArgs (inner (top 14) 0), defBody (inner (top 14) 0), defScope (inner (top 14) 0)⟩
def x_BadText : HV.ExD := ⟨"BadText", "BadText.__init__", defArgs (inner (top 15) 0), defBody (inner (top 15) 0), defScope (inner (top 15) 0)⟩
def exL : List HV.ExD := [x_BadStep, x_BadText]
abbrev st_operands : Stmt := top 17
abbrev sl_operands : List Str := ["part"]
theorem sc_operands : FnScope ["part"] ["part"] (defScope st_operands) := ⟨rfl, rfl, rfl, by decide +kernel, rfl, by decide +kernel, by decide +kernel⟩
def d_operands : He.DefD := ⟨("operands", none), "operands", "operands", defArgs st_operands, defBody st_operands, defScope st_operands, [], []⟩
abbrev st_part_length : Stmt := top 18
abbrev sl_part_length : List Str := ["lengths", "part"]
theorem sc_part_length : FnScope ["lengths", "part"] ["lengths", "part"] (defScope st_part_length) := ⟨rfl, rfl, rfl, by decide +kernel, rfl, by decide +kernel, by decide +kernel⟩
def d_part_length : He.DefD := ⟨("part_length", none), "part_length", "part_length", defArgs st_part_length, defBody st_part_length, defScope st_part_length, [], []⟩
abbrev st_part_lengths : Stmt := top 19
abbrev sl_part_lengths : List Str := ["script", "lengths", "part"]
theorem sc_part_lengths : FnScope ["script", "lengths", "part"] ["script"] (defScope st_part_lengths) := ⟨rfl, rfl, rfl, by decide +kernel, rfl, by decide +kernel, by decide +kernel⟩
def d_part_lengths : He.DefD := ⟨("part_lengths", none), "part_lengths", "part_lengths", defArgs st_part_lengths, defBody st_part_lengths, defScope st_part_lengths, [], []⟩
abbrev st_script_length : Stmt := top 20
abbrev sl_script_length : List Str := ["script"]
theorem sc_script_length : FnScope ["script"] ["script"] (defScope st_script_length) := ⟨rfl, rfl, rfl, by decide +kernel, rfl, by decide +kernel, by decide +kernel⟩
def d_script_length : He.DefD := ⟨("script_length", none), "script_length", "script_length", defArgs st_script_length, defBody st_script_length, defScope st_script_length, [], []⟩
abbrev st_Runs___init__ : Stmt := inner (top 22) 0
abbrev sl_Runs___init__ : List Str := ["self", "length", "ahead", "behind", "most"]
theorem sc_Runs___init__ : FnScope ["self", "length", "ahead", "behind", "most"] ["self", "length", "ahead", "behind", "most"] (defScope st_Runs___init__) := ⟨rfl, rfl, rfl, by decide +kernel, rfl, by decide +kernel, by decide +kernel⟩
def d_Runs___init__ : He.DefD := ⟨("Runs", some "__init__"), "__init__", "Runs.__init__", defArgs st_Runs___init__, defBody st_Runs___init__, defScope st_Runs___init__, [], []⟩
abbrev st_Runs_then : Stmt := inner (top 22) 1
abbrev sl_Runs_then : List Str := ["self", "other", "ahead", "behind"]
theorem sc_Runs_then : FnScope ["self", "other", "ahead", "behind"] ["self", "other"] (defScope st_Runs_then) := ⟨rfl, rfl, rfl, by decide +kernel, rfl, by decide +kernel, by decide +kernel⟩
def d_Runs_then : He.DefD := ⟨("Runs", some "then"), "then", "Runs.then", defArgs st_Runs_then, defBody st_Runs_then, defScope st_Runs_then, [], []⟩
abbrev st_Runs_times : Stmt := inner (top 22) 2
abbrev sl_Runs_times : List Str := ["self", "number", "whole", "most"]
theorem sc_Runs_times : FnScope ["self", "number", "whole", "most"] ["self", "number"] (defScope st_Runs_times) := ⟨rfl, rfl, rfl, by decide +kernel, rfl, by decide +kernel, by decide +kernel⟩
def d_Runs_times : He.DefD := ⟨("Runs", some "times"), "times", "Runs.times", defArgs st_Runs_times, defBody st_Runs_times, defScope st_Runs_times, [], []⟩
abbrev st_longest_stretch : Stmt := top 23
abbrev sl_longest_stretch : List Str := ["script", "item", "found", "part", "own"]
theorem sc_longest_stretch : FnScope ["script", "item", "found", "part", "own"] ["script", "item"] (defScope st_longest_stretch) := ⟨rfl, rfl, rfl, by decide +kernel, rfl, by decide +kernel, by decide +kernel⟩
def d_longest_stretch : He.DefD := ⟨("longest_stretch", none), "longest_stretch", "longest_stretch", defArgs st_longest_stretch, defBody st_longest_stretch, defScope st_longest_stretch, [], []⟩
abbrev st_Gaps___init__ : Stmt := inner (top 24) 0
abbrev sl_Gaps___init__ : List Str := ["self", "ahead", "behind", "widest"]
theorem sc_Gaps___init__ : FnScope ["self", "ahead", "behind", "widest"] ["self", "ahead", "behind", "widest"] (defScope st_Gaps___init__) := ⟨rfl, rfl, rfl, by decide +kernel, rfl, by decide +kernel, by decide +kernel⟩
def d_Gaps___init__ : He.DefD := ⟨("Gaps", some "__init__"), "__init__", "Gaps.__init__", defArgs st_Gaps___init__, defBody st_Gaps___init__, defScope st_Gaps___init__, [], []⟩
abbrev st_wider : Stmt := top 25
abbrev sl_wider : List Str := ["one", "other"]
theorem sc_wider : FnScope ["one", "other"] ["one", "other"] (defScope st_wider) := ⟨rfl, rfl, rfl, by decide +kernel, rfl, by decide +kernel, by decide +kernel⟩
def d_wider : He.DefD := ⟨("wider", none), "wider", "wider", defArgs st_wider, defBody st_wider, defScope st_wider, [], []⟩
abbrev st_gaps_then : Stmt := top 26
abbrev sl_gaps_then : List Str := ["one", "first", "other", "second", "widest"]
theorem sc_gaps_then : FnScope ["one", "first", "other", "second", "widest"] ["one", "first", "other", "second"] (defScope st_gaps_then) := ⟨rfl, rfl, rfl, by decide +kernel, rfl, by decide +kernel, by decide +kernel⟩
def d_gaps_then : He.DefD := ⟨("gaps_then", none), "gaps_then", "gaps_then", defArgs st_gaps_then, defBody st_gaps_then, defScope st_gaps_then, [], []⟩
abbrev st_gaps_times : Stmt := top 27
abbrev sl_gaps_times : List Str := ["one", "number"]
theorem sc_gaps_times : FnScope ["one", "number"] ["one", "number"] (defScope st_gaps_times) := ⟨rfl, rfl, rfl, by decide +kernel, rfl, by decide +kernel, by decide +kernel⟩
def d_gaps_times : He.DefD := ⟨("gaps_times", none), "gaps_times", "gaps_times", defArgs st_gaps_times, defBody st_gaps_times, defScope st_gaps_times, [], []⟩
abbrev st_widest_gap : Stmt := top 28
abbrev sl_widest_gap : List Str := ["script", "item", "lengths", "found", "part", "one", "other", "told"]
theorem sc_widest_gap : FnScope ["script", "item", "lengths", "found", "part", "one", "other", "told"] ["script", "item"] (defScope st_widest_gap) := ⟨rfl, rfl, rfl, by decide +kernel, rfl, by decide +kernel, by decide +kernel⟩
def d_widest_gap : He.DefD := ⟨("widest_gap", none), "widest_gap", "widest_gap", defArgs st_widest_gap, defBody st_widest_gap, defScope st_widest_gap, [], []⟩
abbrev st_node_down : Stmt := top 30
abbrev sl_node_down : List Str := ["script", "lengths", "place", "part"]
theorem sc_node_down : FnScope ["script", "lengths", "place", "part"] ["script", "lengths", "place"] (defScope st_node_down) := ⟨rfl, rfl, rfl, by decide +kernel, rfl, by decide +kernel, by decide +kernel⟩
def d_node_down : He.DefD := ⟨("node_down", none), "node_down", "node_down", defArgs st_node_down, defBody st_node_down, defScope st_node_down, [], []⟩
abbrev st_item_at : Stmt := top 31
abbrev sl_item_at : List Str := ["script", "place", "lengths"]
theorem sc_item_at : FnScope ["script", "place", "lengths"] ["script", "place"] (defScope st_item_at) := ⟨rfl, rfl, rfl, by decide +kernel, rfl, by decide +kernel, by decide +kernel⟩
def d_item_at : He.DefD := ⟨("item_at", none), "item_at", "item_at", defArgs st_item_at, defBody st_item_at, defScope st_item_at, [], []⟩
abbrev st_items_between : Stmt := top 32
abbrev sl_items_between : List Str := ["script", "low", "high", "lengths", "place"]
theorem sc_items_between : FnScope ["script", "low", "high", "lengths", "place"] ["script", "low", "high"] (defScope st_items_between) := ⟨rfl, rfl, rfl, by decide +kernel, rfl, by decide +kernel, by decide +kernel⟩
def d_items_between : He.DefD := ⟨("items_between", none), "items_between", "items_between", defArgs st_items_between, defBody st_items_between, defScope st_items_between, [], []⟩
abbrev st_part_numbers : Stmt := top 33
abbrev sl_part_numbers : List Str := ["script", "item", "found", "part"]
theorem sc_part_numbers : FnScope ["script", "item", "found", "part"] ["script", "item"] (defScope st_part_numbers) := ⟨rfl, rfl, rfl, by decide +kernel, rfl, by decide +kernel, by decide +kernel⟩
def d_part_numbers : He.DefD := ⟨("part_numbers", none), "part_numbers", "part_numbers", defArgs st_part_numbers, defBody st_part_numbers, defScope st_part_numbers, [], []⟩
abbrev st_number_ahead : Stmt := top 34
abbrev sl_number_ahead : List Str := ["script", "lengths", "numbers", "place", "number", "found", "part"]
theorem sc_number_ahead : FnScope ["script", "lengths", "numbers", "place", "number", "found", "part"] ["script", "lengths", "numbers", "place"] (defScope st_number_ahead) := ⟨rfl, rfl, rfl, by decide +kernel, rfl, by decide +kernel, by decide +kernel⟩
def d_number_ahead : He.DefD := ⟨("number_ahead", none), "number_ahead", "number_ahead", defArgs st_number_ahead, defBody st_number_ahead, defScope st_number_ahead, [], []⟩
abbrev st_bill_ahead : Stmt := top 35
abbrev sl_bill_ahead : List Str := ["book", "script", "place", "lengths", "kind"]
theorem sc_bill_ahead : FnScope ["book", "script", "place", "lengths", "kind"] ["book", "script", "place"] (defScope st_bill_ahead) := ⟨rfl, rfl, rfl, by decide +kernel, rfl, by decide +kernel, by decide +kernel⟩
def d_bill_ahead : He.DefD := ⟨("bill_ahead", none), "bill_ahead", "bill_ahead", defArgs st_bill_ahead, defBody st_bill_ahead, defScope st_bill_ahead, [], []⟩
abbrev st_item_place : Stmt := top 36
abbrev sl_item_place : List Str := ["script", "item", "number", "lengths", "numbers", "at", "place", "part"]
theorem sc_item_place : FnScope ["script", "item", "number", "lengths", "numbers", "at", "place", "part"] ["script", "item", "number"] (defScope st_item_place) := ⟨rfl, rfl, rfl, by decide +kernel, rfl, by decide +kernel, by decide +kernel⟩
def d_item_place : He.DefD := ⟨("item_place", none), "item_place", "item_place", defArgs st_item_place, defBody st_item_place, defScope st_item_place, [], []⟩
abbrev st_turned_script : Stmt := top 38
abbrev sl_turned_script : List Str := ["script", "parts", "part"]
theorem sc_turned_script : FnScope ["script", "parts", "part"] ["script"] (defScope st_turned_script) := ⟨rfl, rfl, rfl, by decide +kernel, rfl, by decide +kernel, by decide +kernel⟩
def d_turned_script : He.DefD := ⟨("turned_script", none), "turned_script", "turned_script", defArgs st_turned_script, defBody st_turned_script, defScope st_turned_script, [], []⟩
abbrev st_text_lines : Stmt := top 40
abbrev sl_text_lines : List Str := ["text", "lines"]
theorem sc_text_lines : FnScope ["text", "lines"] ["text"] (defScope st_text_lines) := ⟨rfl, rfl, rfl, by decide +kernel, rfl, by decide +kernel, by decide +kernel⟩
def d_text_lines : He.DefD := ⟨("text_lines", none), "text_lines", "text_lines", defArgs st_text_lines, defBody st_text_lines, defScope st_text_lines, [], []⟩
abbrev st_words_of : Stmt := top 41
abbrev sl_words_of : List Str := ["line", "word"]
theorem sc_words_of : FnScope ["line", "word"] ["line"] (defScope st_words_of) := ⟨rfl, rfl, rfl, by decide +kernel, rfl, by decide +kernel, by decide +kernel⟩
def d_words_of : He.DefD := ⟨("words_of", none), "words_of", "words_of", defArgs st_words_of, defBody st_words_of, defScope st_words_of, [], []⟩
abbrev st_passed_over : Stmt := top 42
abbrev sl_passed_over : List Str := ["line", "words"]
theorem sc_passed_over : FnScope ["line", "words"] ["line"] (defScope st_passed_over) := ⟨rfl, rfl, rfl, by decide +kernel, rfl, by decide +kernel, by decide +kernel⟩
def d_passed_over : He.DefD := ⟨("passed_over", none), "passed_over", "passed_over", defArgs st_passed_over, defBody st_passed_over, defScope st_passed_over, [], []⟩
abbrev st_beyond_limit : Stmt := top 43
abbrev sl_beyond_limit : List Str := ["line", "number"]
theorem sc_beyond_limit : FnScope ["line", "number"] ["line", "number"] (defScope st_beyond_limit) := ⟨rfl, rfl, rfl, by decide +kernel, rfl, by decide +kernel, by decide +kernel⟩
def d_beyond_limit : He.DefD := ⟨("beyond_limit", none), "beyond_limit", "beyond_limit", defArgs st_beyond_limit, defBody st_beyond_limit, defScope st_beyond_limit, [], []⟩
abbrev st_counted_lines : Stmt := top 44
abbrev sl_counted_lines : List Str := ["text", "at", "line"]
theorem sc_counted_lines : GScope ["text", "at", "line"] ["text"] (defScope st_counted_lines) := ⟨rfl, rfl, rfl, by decide +kernel, rfl, by decide +kernel, by decide +kernel⟩
def d_counted_lines : He.DefD := ⟨("counted_lines", none), "counted_lines", "counted_lines", defArgs st_counted_lines, defBody st_counted_lines, defScope st_counted_lines, [], []⟩
abbrev st_written_big : Stmt := top 45
abbrev sl_written_big : List Str := ["word", "figures_most", "figures", "sign"]
theorem sc_written_big : FnScope ["word", "figures_most", "figures", "sign"] ["word", "figures_most"] (defScope st_written_big) := ⟨rfl, rfl, rfl, by decide +kernel, rfl, by decide +kernel, by decide +kernel⟩
def d_written_big : He.DefD := ⟨("written_big", none), "written_big", "written_big", defArgs st_written_big, defBody st_written_big, defScope st_written_big, [], []⟩
abbrev st_written_integer : Stmt := top 46
abbrev sl_written_integer : List Str := ["word"]
theorem sc_written_integer : FnScope ["word"] ["word"] (defScope st_written_integer) := ⟨rfl, rfl, rfl, by decide +kernel, rfl, by decide +kernel, by decide +kernel⟩
def d_written_integer : He.DefD := ⟨("written_integer", none), "written_integer", "written_integer", defArgs st_written_integer, defBody st_written_integer, defScope st_written_integer, [], []⟩
abbrev st_written_within : Stmt := top 47
abbrev sl_written_within : List Str := ["word", "low", "high", "value"]
theorem sc_written_within : FnScope ["word", "low", "high", "value"] ["word", "low", "high"] (defScope st_written_within) := ⟨rfl, rfl, rfl, by decide +kernel, rfl, by decide +kernel, by decide +kernel⟩
def d_written_within : He.DefD := ⟨("written_within", none), "written_within", "written_within", defArgs st_written_within, defBody st_written_within, defScope st_written_within, [], []⟩
abbrev st_node_of_word : Stmt := top 48
abbrev sl_node_of_word : List Str := ["word"]
theorem sc_node_of_word : FnScope ["word"] ["word"] (defScope st_node_of_word) := ⟨rfl, rfl, rfl, by decide +kernel, rfl, by decide +kernel, by decide +kernel⟩
def d_node_of_word : He.DefD := ⟨("node_of_word", none), "node_of_word", "node_of_word", defArgs st_node_of_word, defBody st_node_of_word, defScope st_node_of_word, [], []⟩
abbrev st_Reader___init__ : Stmt := inner (top 51) 0
abbrev sl_Reader___init__ : List Str := ["self", "book"]
theorem sc_Reader___init__ : FnScope ["self", "book"] ["self", "book"] (defScope st_Reader___init__) := ⟨rfl, rfl, rfl, by decide +kernel, rfl, by decide +kernel, by decide +kernel⟩
def d_Reader___init__ : He.DefD := ⟨("Reader", some "__init__"), "__init__", "Reader.__init__", defArgs st_Reader___init__, defBody st_Reader___init__, defScope st_Reader___init__, [], []⟩
abbrev st_Reader_part_of : Stmt := inner (top 51) 1
abbrev sl_Reader_part_of : List Str := ["self", "words", "one", "other"]
theorem sc_Reader_part_of : FnScope ["self", "words", "one", "other"] ["self", "words"] (defScope st_Reader_part_of) := ⟨rfl, rfl, rfl, by decide +kernel, rfl, by decide +kernel, by decide +kernel⟩
def d_Reader_part_of : He.DefD := ⟨("Reader", some "part_of"), "part_of", "Reader.part_of", defArgs st_Reader_part_of, defBody st_Reader_part_of, defScope st_Reader_part_of, [], []⟩
abbrev st_Reader_take_part : Stmt := inner (top 51) 2
abbrev sl_Reader_take_part : List Str := ["self", "part", "number", "length"]
theorem sc_Reader_take_part : FnScope ["self", "part", "number", "length"] ["self", "part"] (defScope st_Reader_take_part) := ⟨rfl, rfl, rfl, by decide +kernel, rfl, by decide +kernel, by decide +kernel⟩
def d_Reader_take_part : He.DefD := ⟨("Reader", some "take_part"), "take_part", "Reader.take_part", defArgs st_Reader_take_part, defBody st_Reader_take_part, defScope st_Reader_take_part, [], []⟩
abbrev st_Reader_take_result : Stmt := inner (top 51) 3
abbrev sl_Reader_take_result : List Str := ["self", "word", "number"]
theorem sc_Reader_take_result : FnScope ["self", "word", "number"] ["self", "word"] (defScope st_Reader_take_result) := ⟨rfl, rfl, rfl, by decide +kernel, rfl, by decide +kernel, by decide +kernel⟩
def d_Reader_take_result : He.DefD := ⟨("Reader", some "take_result"), "take_result", "Reader.take_result", defArgs st_Reader_take_result, defBody st_Reader_take_result, defScope st_Reader_take_result, [], []⟩
abbrev st_Reader_take : Stmt := inner (top 51) 4
abbrev sl_Reader_take : List Str := ["self", "words", "part"]
theorem sc_Reader_take : FnScope ["self", "words", "part"] ["self", "words"] (defScope st_Reader_take) := ⟨rfl, rfl, rfl, by decide +kernel, rfl, by decide +kernel, by decide +kernel⟩
def d_Reader_take : He.DefD := ⟨("Reader", some "take"), "take", "Reader.take", defArgs st_Reader_take, defBody st_Reader_take, defScope st_Reader_take, [], []⟩
abbrev st_read_script : Stmt := top 52
abbrev sl_read_script : List Str := ["book", "text", "reader", "number", "words", "fault"]
theorem sc_read_script : FnScope ["book", "text", "reader", "number", "words", "fault"] ["book", "text"] (defScope st_read_script) := ⟨rfl, rfl, rfl, by decide +kernel, rfl, by decide +kernel, by decide +kernel⟩
def d_read_script : He.DefD := ⟨("read_script", none), "read_script", "read_script", defArgs st_read_script, defBody st_read_script, defScope st_read_script, [], []⟩
abbrev st__law_tub : Stmt := top 54
abbrev sl__law_tub : List Str := ["script", "deep", "mixed", "cell", "size"]
theorem sc__law_tub : FnScope ["script", "deep", "mixed", "cell", "size"] ["script"] (defScope st__law_tub) := ⟨rfl, rfl, rfl, by decide +kernel, rfl, by decide +kernel, by decide +kernel⟩
def d__law_tub : He.DefD := ⟨("_law_tub", none), "_law_tub", "_law_tub", defArgs st__law_tub, defBody st__law_tub, defScope st__law_tub, [], []⟩
abbrev st__law_dip : Stmt := top 55
abbrev sl__law_dip : List Str := ["tub", "many", "told"]
theorem sc__law_dip : FnScope ["tub", "many", "told"] ["tub", "many"] (defScope st__law_dip) := ⟨rfl, rfl, rfl, by decide +kernel, rfl, by decide +kernel, by decide +kernel⟩
def d__law_dip : He.DefD := ⟨("_law_dip", none), "_law_dip", "_law_dip", defArgs st__law_dip, defBody st__law_dip, defScope st__law_dip, [], []⟩
abbrev st__law_of : Stmt := top 56
abbrev sl__law_of : List Str := ["tub", "things"]
theorem sc__law_of : FnScope ["tub", "things"] ["tub", "things"] (defScope st__law_of) := ⟨rfl, rfl, rfl, by decide +kernel, rfl, by decide +kernel, by decide +kernel⟩
def d__law_of : He.DefD := ⟨("_law_of", none), "_law_of", "_law_of", defArgs st__law_of, defBody st__law_of, defScope st__law_of, [], []⟩
abbrev st__law_some : Stmt := top 57
abbrev sl__law_some : List Str := ["tub", "things", "many", "rest", "lap"]
theorem sc__law_some : FnScope ["tub", "things", "many", "rest", "lap"] ["tub", "things", "many"] (defScope st__law_some) := ⟨rfl, rfl, rfl, by decide +kernel, rfl, by decide +kernel, by decide +kernel⟩
def d__law_some : He.DefD := ⟨("_law_some", none), "_law_some", "_law_some", defArgs st__law_some, defBody st__law_some, defScope st__law_some, [], []⟩
abbrev st__law_same : Stmt := top 58
abbrev sl__law_same : List Str := ["told", "due", "rest", "lap", "one", "other", "at", "key"]
theorem sc__law_same : FnScope ["told", "due", "rest", "lap", "one", "other", "at", "key"] ["told", "due"] (defScope st__law_same) := ⟨rfl, rfl, rfl, by decide +kernel, rfl, by decide +kernel, by decide +kernel⟩
def d__law_same : He.DefD := ⟨("_law_same", none), "_law_same", "_law_same", defArgs st__law_same, defBody st__law_same, defScope st__law_same, [], []⟩
abbrev st__law_book : Stmt := top 59
abbrev sl__law_book : List Str := ["tub", "most", "kinds", "habit", "begins", "kind", "ends", "pairs", "one", "other"]
theorem sc__law_book : FnScope ["tub", "most", "kinds", "habit", "begins", "kind", "ends", "pairs", "one", "other"] ["tub", "most"] (defScope st__law_book) := ⟨rfl, rfl, rfl, by decide +kernel, rfl, by decide +kernel, by decide +kernel⟩
def d__law_book : He.DefD := ⟨("_law_book", none), "_law_book", "_law_book", defArgs st__law_book, defBody st__law_book, defScope st__law_book, [], []⟩
abbrev st__law_script : Stmt := top 60
abbrev sl__law_script : List Str := ["tub", "nodes", "parts", "most", "made", "node", "sizes", "part", "lap", "one", "other", "size", "many"]
theorem sc__law_script : FnScope ["tub", "nodes", "parts", "most", "made", "node", "sizes", "part", "lap", "one", "other", "size", "many"] ["tub", "nodes", "parts", "most"] (defScope st__law_script) := ⟨rfl, rfl, rfl, by decide +kernel, rfl, by decide +kernel, by decide +kernel⟩
def d__law_script : He.DefD := ⟨("_law_script", none), "_law_script", "_law_script", defArgs st__law_script, defBody st__law_script, defScope st__law_script, [], []⟩
abbrev st__law_node : Stmt := top 61
abbrev sl__law_node : List Str := ["node"]
theorem sc__law_node : FnScope ["node"] ["node"] (defScope st__law_node) := ⟨rfl, rfl, rfl, by decide +kernel, rfl, by decide +kernel, by decide +kernel⟩
def d__law_node : He.DefD := ⟨("_law_node", none), "_law_node", "_law_node", defArgs st__law_node, defBody st__law_node, defScope st__law_node, [], []⟩
abbrev st__law_script_text : Stmt := top 62
abbrev sl__law_script_text : List Str := ["script", "lines", "part", "line"]
theorem sc__law_script_text : FnScope ["script", "lines", "part", "line"] ["script"] (defScope st__law_script_text) := ⟨rfl, rfl, rfl, by decide +kernel, rfl, by decide +kernel, by decide +kernel⟩
def d__law_script_text : He.DefD := ⟨("_law_script_text", none), "_law_script_text", "_law_script_text", defArgs st__law_script_text, defBody st__law_script_text, defScope st__law_script_text, [], []⟩
abbrev st__law_loose : Stmt := top 63
abbrev sl__law_loose : List Str := ["tub", "text", "told", "line"]
theorem sc__law_loose : FnScope ["tub", "text", "told", "line"] ["tub", "text"] (defScope st__law_loose) := ⟨rfl, rfl, rfl, by decide +kernel, rfl, by decide +kernel, by decide +kernel⟩
def d__law_loose : He.DefD := ⟨("_law_loose", none), "_law_loose", "_law_loose", defArgs st__law_loose, defBody st__law_loose, defScope st__law_loose, [], []⟩
abbrev st__law_sizes : Stmt := top 64
abbrev sl__law_sizes : List Str := ["script", "told", "part"]
theorem sc__law_sizes : FnScope ["script", "told", "part"] ["script"] (defScope st__law_sizes) := ⟨rfl, rfl, rfl, by decide +kernel, rfl, by decide +kernel, by decide +kernel⟩
def d__law_sizes : He.DefD := ⟨("_law_sizes", none), "_law_sizes", "_law_sizes", defArgs st__law_sizes, defBody st__law_sizes, defScope st__law_sizes, [], []⟩
abbrev st__law_counts : Stmt := top 65
abbrev sl__law_counts : List Str := ["script", "node", "told", "part"]
theorem sc__law_counts : FnScope ["script", "node", "told", "part"] ["script", "node"] (defScope st__law_counts) := ⟨rfl, rfl, rfl, by decide +kernel, rfl, by decide +kernel, by decide +kernel⟩
def d__law_counts : He.DefD := ⟨("_law_counts", none), "_law_counts", "_law_counts", defArgs st__law_counts, defBody st__law_counts, defScope st__law_counts, [], []⟩
abbrev st__law_down : Stmt := top 66
abbrev sl__law_down : List Str := ["script", "sizes", "place", "at", "ahead", "lap", "part"]
theorem sc__law_down : FnScope ["script", "sizes", "place", "at", "ahead", "lap", "part"] ["script", "sizes", "place"] (defScope st__law_down) := ⟨rfl, rfl, rfl, by decide +kernel, rfl, by decide +kernel, by decide +kernel⟩
def d__law_down : He.DefD := ⟨("_law_down", none), "_law_down", "_law_down", defArgs st__law_down, defBody st__law_down, defScope st__law_down, [], []⟩
abbrev st__law_ahead : Stmt := top 67
abbrev sl__law_ahead : List Str := ["script", "sizes", "counts", "place", "at", "many"]
theorem sc__law_ahead : FnScope ["script", "sizes", "counts", "place", "at", "many"] ["script", "sizes", "counts", "place"] (defScope st__law_ahead) := ⟨rfl, rfl, rfl, by decide +kernel, rfl, by decide +kernel, by decide +kernel⟩
def d__law_ahead : He.DefD := ⟨("_law_ahead", none), "_law_ahead", "_law_ahead", defArgs st__law_ahead, defBody st__law_ahead, defScope st__law_ahead, [], []⟩
abbrev st__law_spot : Stmt := top 68
abbrev sl__law_spot : List Str := ["script", "sizes", "counts", "number", "at", "place", "lap", "part"]
theorem sc__law_spot : FnScope ["script", "sizes", "counts", "number", "at", "place", "lap", "part"] ["script", "sizes", "counts", "number"] (defScope st__law_spot) := ⟨rfl, rfl, rfl, by decide +kernel, rfl, by decide +kernel, by decide +kernel⟩
def d__law_spot : He.DefD := ⟨("_law_spot", none), "_law_spot", "_law_spot", defArgs st__law_spot, defBody st__law_spot, defScope st__law_spot, [], []⟩
abbrev st__law_gap : Stmt := top 69
abbrev sl__law_gap : List Str := ["script", "sizes", "node", "told", "part", "one", "other", "each"]
theorem sc__law_gap : FnScope ["script", "sizes", "node", "told", "part", "one", "other", "each"] ["script", "sizes", "node"] (defScope st__law_gap) := ⟨rfl, rfl, rfl, by decide +kernel, rfl, by decide +kernel, by decide +kernel⟩
def d__law_gap : He.DefD := ⟨("_law_gap", none), "_law_gap", "_law_gap", defArgs st__law_gap, defBody st__law_gap, defScope st__law_gap, [], []⟩
abbrev st__law_stretch : Stmt := top 70
abbrev sl__law_stretch : List Str := ["script", "sizes", "node", "told", "part", "one", "other", "begin", "end"]
theorem sc__law_stretch : FnScope ["script", "sizes", "node", "told", "part", "one", "other", "begin", "end"] ["script", "sizes", "node"] (defScope st__law_stretch) := ⟨rfl, rfl, rfl, by decide +kernel, rfl, by decide +kernel, by decide +kernel⟩
def d__law_stretch : He.DefD := ⟨("_law_stretch", none), "_law_stretch", "_law_stretch", defArgs st__law_stretch, defBody st__law_stretch, defScope st__law_stretch, [], []⟩
abbrev st__law_heard : Stmt := top 71
abbrev sl__law_heard : List Str := ["way", "script", "one", "other", "error"]
theorem sc__law_heard : FnScope ["way", "script", "one", "other", "error"] ["way", "script", "one", "other"] (defScope st__law_heard) := ⟨rfl, rfl, rfl, by decide +kernel, rfl, by decide +kernel, by decide +kernel⟩
def d__law_heard : He.DefD := ⟨("_law_heard", none), "_law_heard", "_law_heard", defArgs st__law_heard, defBody st__law_heard, defScope st__law_heard, [], []⟩
abbrev st__law_place : Stmt := top 72
abbrev sl__law_place : List Str := ["tub", "sizes", "length", "way"]
theorem sc__law_place : FnScope ["tub", "sizes", "length", "way"] ["tub", "sizes", "length"] (defScope st__law_place) := ⟨rfl, rfl, rfl, by decide +kernel, rfl, by decide +kernel, by decide +kernel⟩
def d__law_place : He.DefD := ⟨("_law_place", none), "_law_place", "_law_place", defArgs st__law_place, defBody st__law_place, defScope st__law_place, [], []⟩
abbrev st__law_places_asked : Stmt := top 73
abbrev sl__law_places_asked : List Str := ["tub", "book", "script", "sizes", "length", "lap", "place", "due", "kind", "high", "at"]
theorem sc__law_places_asked : FnScope ["tub", "book", "script", "sizes", "length", "lap", "place", "due", "kind", "high", "at"] ["tub", "book", "script", "sizes"] (defScope st__law_places_asked) := ⟨rfl, rfl, rfl, by decide +kernel, rfl, by decide +kernel, by decide +kernel⟩
def d__law_places_asked : He.DefD := ⟨("_law_places_asked", none), "_law_places_asked", "_law_places_asked", defArgs st__law_places_asked, defBody st__law_places_asked, defScope st__law_places_asked, [], []⟩
abbrev st__law_items_asked : Stmt := top 74
abbrev sl__law_items_asked : List Str := ["tub", "book", "script", "sizes", "node", "counts", "number", "spot"]
theorem sc__law_items_asked : FnScope ["tub", "book", "script", "sizes", "node", "counts", "number", "spot"] ["tub", "book", "script", "sizes"] (defScope st__law_items_asked) := ⟨rfl, rfl, rfl, by decide +kernel, rfl, by decide +kernel, by decide +kernel⟩
def d__law_items_asked : He.DefD := ⟨("_law_items_asked", none), "_law_items_asked", "_law_items_asked", defArgs st__law_items_asked, defBody st__law_items_asked, defScope st__law_items_asked, [], []⟩
abbrev st__law_is_script : Stmt := top 75
abbrev sl__law_is_script : List Str := ["nodes", "thing", "at", "part", "number"]
theorem sc__law_is_script : FnScope ["nodes", "thing", "at", "part", "number"] ["nodes", "thing"] (defScope st__law_is_script) := ⟨rfl, rfl, rfl, by decide +kernel, rfl, by decide +kernel, by decide +kernel⟩
def d__law_is_script : He.DefD := ⟨("_law_is_script", none), "_law_is_script", "_law_is_script", defArgs st__law_is_script, defBody st__law_is_script, defScope st__law_is_script, [], []⟩
abbrev st__law_turned_asked : Stmt := top 76
abbrev sl__law_turned_asked : List Str := ["tub", "book", "script", "sizes", "length", "told", "turned", "near", "node", "lap", "place"]
theorem sc__law_turned_asked : FnScope ["tub", "book", "script", "sizes", "length", "told", "turned", "near", "node", "lap", "place"] ["tub", "book", "script", "sizes"] (defScope st__law_turned_asked) := ⟨rfl, rfl, rfl, by decide +kernel, rfl, by decide +kernel, by decide +kernel⟩
def d__law_turned_asked : He.DefD := ⟨("_law_turned_asked", none), "_law_turned_asked", "_law_turned_asked", defArgs st__law_turned_asked, defBody st__law_turned_asked, defScope st__law_turned_asked, [], []⟩
abbrev st__law_lone : Stmt := top 77
abbrev sl__law_lone : List Str := ["tub", "book", "kind", "far", "times", "parts"]
theorem sc__law_lone : FnScope ["tub", "book", "kind", "far", "times", "parts"] ["tub", "book"] (defScope st__law_lone) := ⟨rfl, rfl, rfl, by decide +kernel, rfl, by decide +kernel, by decide +kernel⟩
def d__law_lone : He.DefD := ⟨("_law_lone", none), "_law_lone", "_law_lone", defArgs st__law_lone, defBody st__law_lone, defScope st__law_lone, [], []⟩
abbrev st__law_scene : Stmt := top 78
abbrev sl__law_scene : List Str := ["tub", "book", "script", "sizes"]
theorem sc__law_scene : FnScope ["tub", "book", "script", "sizes"] ["tub", "book", "script"] (defScope st__law_scene) := ⟨rfl, rfl, rfl, by decide +kernel, rfl, by decide +kernel, by decide +kernel⟩
def d__law_scene : He.DefD := ⟨("_law_scene", none), "_law_scene", "_law_scene", defArgs st__law_scene, defBody st__law_scene, defScope st__law_scene, [], []⟩
abbrev st__law_by_hand : Stmt := top 79
abbrev sl__law_by_hand : List Str := ["long", "told"]
theorem sc__law_by_hand : FnScope ["long", "told"] [] (defScope st__law_by_hand) := ⟨rfl, rfl, rfl, by decide +kernel, rfl, by decide +kernel, by decide +kernel⟩
def d__law_by_hand : He.DefD := ⟨("_law_by_hand", none), "_law_by_hand", "_law_by_hand", defArgs st__law_by_hand, defBody st__law_by_hand, defScope st__law_by_hand, [], []⟩
abbrev st_law : Stmt := top 80
abbrev sl_law : List Str := ["script", "tub", "lap", "book"]
theorem sc_law : FnScope ["script", "tub", "lap", "book"] ["script"] (defScope st_law) := ⟨rfl, rfl, rfl, by decide +kernel, rfl, by decide +kernel, by decide +kernel⟩
def d_law : He.DefD := ⟨("law", none), "law", "law", defArgs st_law, defBody st_law, defScope st_law, [], []⟩
def fnL : List He.DefD := [d_operands, d_part_length, d_part_lengths, d_script_length, d_Runs___init__, d_Runs_then, d_Runs_times, d_longest_stretch, d_Gaps___init__, d_wider, d_gaps_then, d_gaps_times, d_widest_gap, d_node_down, d_item_at, d_items_between, d_part_numbers, d_number_ahead, d_bill_ahead, d_item_place, d_turned_script, d_text_lines, d_words_of, d_passed_over, d_beyond_limit, d_counted_lines, d_written_big, d_written_integer, d_written_within, d_node_of_word, d_Reader___init__, d_Reader_part_of, d_Reader_take_part, d_Reader_take_result, d_Reader_take, d_read_script, d__law_tub, d__law_dip, d__law_of, d__law_some, d__law_same, d__law_book, d__law_script, d__law_node, d__law_script_text, d__law_loose, d__law_sizes, d__law_counts, d__law_down, d__law_ahead, d__law_spot, d__law_gap, d__law_stretch, d__law_heard, d__law_place, d__law_places_asked, d__law_items_asked, d__law_is_script, d__law_turned_asked, d__law_lone, d__law_scene, d__law_by_hand, d_law]
abbrev ixLaw : Nat := 114
def faL : List He.Fa := [.cls "Runs", .noat "Runs" "length", .noat "Runs" "ahead", .noat "Runs" "behind", .noat "Runs" "most", .cls "Gaps", .noat "Gaps" "ahead", .noat "Gaps" "behind", .noat "Gaps" "widest", .cls "Reader", .noat "Reader" "book", .noat "Reader" "parts", .noat "Reader" "lengths", .noat "Reader" "result", .glo "part_length", .glo "part_lengths", .free "max", .glo "Runs", .mkr "Runs", .meth "Runs" "then", .meth "Runs" "times", .glo "Gaps", .mkr "Gaps", .glo "wider", .glo "gaps_then", .glo "gaps_times", .glo "BadStep", .glo "node_down", .int "WORD_MOST" 400, .free "range", .free "tuple", .glo "script_length", .glo "part_numbers", .glo "number_ahead", .glo "words_of", .free "len", .int "LINE_MOST" 2000, .int "LINES_MOST" 400, .glo "text_lines", .glo "beyond_limit", .glo "passed_over", .free "enumerate", .str "FIGURES" "0123456789", .free "int", .int "WRITTEN_MOST" 20, .glo "written_big", .glo "written_integer", .str "BREAK_WORD" "-", .str "BREAK" "", .glo "node_of_word", .int "PARTS_MOST" 200, .glo "written_within", .int "NUMBER_MOST" 1000000000000000000, .glo "operands", .int "LENGTH_MOST" 100000000000000000000, .glo "WORD_COUNTS", .meth "Reader" "take_result", .meth "Reader" "part_of", .meth "Reader" "take_part", .glo "Reader", .mkr "Reader", .meth "Reader" "take", .glo "BadText", .glo "counted_lines", .free "abs", .glo "_law_dip", .free "list", .free "isinstance", .free "dict", .free "bool", .free "str", .glo "_law_some", .free "sorted", .glo "_law_node", .glo "_law_of", .keep "_law_of", .glo "_law_down", .free "sum", .glo "item_at", .glo "items_between", .glo "item_place", .glo "bill_ahead", .exm "BadStep" "BadStep" true, .noat "BadStep" "word", .glo "_law_place", .glo "_law_heard", .glo "_law_same", .glo "_law_counts", .glo "_law_ahead", .glo "longest_stretch", .glo "widest_gap", .glo "_law_stretch", .glo "_law_gap", .glo "_law_spot", .glo "turned_script", .glo "_law_is_script", .glo "_law_sizes", .free "min", .glo "_law_script_text", .glo "_law_loose", .glo "read_script", .glo "_law_places_asked", .glo "_law_items_asked", .glo "_law_turned_asked", .glo "_law_tub", .glo "_law_by_hand", .glo "_law_book", .glo "_law_script", .glo "_law_scene", .glo "_law_lone", .free "super", .noat "BadText" "line", .noat "BadText" "word", .exm "BadText" "BadText" true, .glo "law"]
structure Wx (P : Program) (w : World) (K : PySem.W.Frag) (mg : Str → Option Value) (base : Heap) : Prop where
  says : He.SaysD faL fnL K
  kin : K.In base
  ns : base.Ns mainGlobals mg
  exc : ∀ (i : Nat) (d : HV.ExD), exL[i]? = some d → HV.ExK P K d
  xf : ∀ x ∈ xfL, XfC K (He.ga K x)
  tab : ∀ t ∈ tabL, GD K w (He.ga K t.1) t.2
  book : ∀ h : Heap, K.In h → NoneBooked h
section
variable {P : Program} {w : World} {K : PySem.W.Frag} {mg : Str → Option Value} {base : Heap}
theorem gx_BadStep (c : Wx P w K mg base) : GX P w (Zk K) mg base 103 ["word"] [9] := by
  have X := c.exc 0 x_BadStep rfl
  obtain ⟨oc, od, fd, osl, kV, doc, pm, an, cd, ct, cc, hf, hfd⟩ := X.fn
  subst hfd
  have hs := He.free_ok c.kin c.ns (c.says.fact 110)
  have n0 := He.noat_ok (c.says.fact 83)
  exact ⟨X.xi.oex, ⟨_, _, X.init, X.ty, XI.xi_ok1 (x1 := "word") X.xi hf n0 hs (by decide) (by decide) ⟨_, rfl, rfl⟩ (by decide +kernel) rfl rfl rfl rfl rfl rfl rfl (fun _ _ _ => ⟨_, rfl⟩), .all fun us hl => match us, hl with | [_, _], _ => rfl⟩, rfl⟩
theorem gx_BadText (c : Wx P w K mg base) : GX P w (Zk K) mg base 104 ["line", "word"] [10, 9] := by
  have X := c.exc 1 x_BadText rfl
  obtain ⟨oc, od, fd, osl, kV, doc, pm, an, cd, ct, cc, hf, hfd⟩ := X.fn
  subst hfd
  have hs := He.free_ok c.kin c.ns (c.says.fact 110)
  have n0 := He.noat_ok (c.says.fact 111)
  have n1 := He.noat_ok (c.says.fact 112)
  exact ⟨X.xi.oex, ⟨_, _, X.init, X.ty, XI.xi_ok2 (x1 := "line") (x2 := "word") X.xi hf n0 n1 hs (by decide) (by decide) (by decide) (by decide) (by decide) ⟨_, rfl, rfl⟩ (by decide +kernel) rfl rfl rfl rfl rfl rfl rfl rfl (fun _ _ _ => ⟨_, rfl⟩), .all fun us hl => match us, hl with | [_, _, _], _ => rfl⟩, rfl⟩
theorem fd_length (c : Wx P w K mg base) : Fd (Zk K) [0] 0 "length" := ⟨rfl, fun i h => by
  simp only [List.mem_cons, List.not_mem_nil, or_false] at h
  rcases h with rfl <;> first
    | exact ⟨He.cls_ok (c.says.fact 0), He.noat_ok (c.says.fact 1)⟩⟩
theorem fd_ahead (c : Wx P w K mg base) : Fd (Zk K) [0, 1] 1 "ahead" := ⟨rfl, fun i h => by
  simp only [List.mem_cons, List.not_mem_nil, or_false] at h
  rcases h with rfl | rfl <;> first
    | exact ⟨He.cls_ok (c.says.fact 0), He.noat_ok (c.says.fact 2)⟩
    | exact ⟨He.cls_ok (c.says.fact 5), He.noat_ok (c.says.fact 6)⟩⟩
theorem fd_behind (c : Wx P w K mg base) : Fd (Zk K) [0, 1] 2 "behind" := ⟨rfl, fun i h => by
  simp only [List.mem_cons, List.not_mem_nil, or_false] at h
  rcases h with rfl | rfl <;> first
    | exact ⟨He.cls_ok (c.says.fact 0), He.noat_ok (c.says.fact 3)⟩
    | exact ⟨He.cls_ok (c.says.fact 5), He.noat_ok (c.says.fact 7)⟩⟩
theorem fd_most (c : Wx P w K mg base) : Fd (Zk K) [0] 3 "most" := ⟨rfl, fun i h => by
  simp only [List.mem_cons, List.not_mem_nil, or_false] at h
  rcases h with rfl <;> first
    | exact ⟨He.cls_ok (c.says.fact 0), He.noat_ok (c.says.fact 4)⟩⟩
theorem fd_widest (c : Wx P w K mg base) : Fd (Zk K) [1] 4 "widest" := ⟨rfl, fun i h => by
  simp only [List.mem_cons, List.not_mem_nil, or_false] at h
  rcases h with rfl <;> first
    | exact ⟨He.cls_ok (c.says.fact 5), He.noat_ok (c.says.fact 8)⟩⟩
theorem fd_book (c : Wx P w K mg base) : Fd (Zk K) [2] 5 "book" := ⟨rfl, fun i h => by
  simp only [List.mem_cons, List.not_mem_nil, or_false] at h
  rcases h with rfl <;> first
    | exact ⟨He.cls_ok (c.says.fact 9), He.noat_ok (c.says.fact 10)⟩⟩
theorem fd_parts (c : Wx P w K mg base) : Fd (Zk K) [2] 6 "parts" := ⟨rfl, fun i h => by
  simp only [List.mem_cons, List.not_mem_nil, or_false] at h
  rcases h with rfl <;> first
    | exact ⟨He.cls_ok (c.says.fact 9), He.noat_ok (c.says.fact 11)⟩⟩
theorem fd_lengths (c : Wx P w K mg base) : Fd (Zk K) [2] 7 "lengths" := ⟨rfl, fun i h => by
  simp only [List.mem_cons, List.not_mem_nil, or_false] at h
  rcases h with rfl <;> first
    | exact ⟨He.cls_ok (c.says.fact 9), He.noat_ok (c.says.fact 12)⟩⟩
theorem fd_result (c : Wx P w K mg base) : Fd (Zk K) [2] 8 "result" := ⟨rfl, fun i h => by
  simp only [List.mem_cons, List.not_mem_nil, or_false] at h
  rcases h with rfl <;> first
    | exact ⟨He.cls_ok (c.says.fact 9), He.noat_ok (c.says.fact 13)⟩⟩
theorem gf_operands (c : Wx P w K mg base) : GF P w (Zk K) mg base 1 ("operands", none) 1 ev_operands := by
  obtain ⟨fd, D⟩ := c.says.def_ 0 (d := d_operands) rfl
  refine GF.mk fd ["part"] (D.ok (k := 0) sc_operands rF_len fun cdv A outer s H vs Q E hr h => ⟨_, ?_, rF_start h⟩) (D.bindsN fun _ _ _ _ _ _ us hl => match us, hl with | [_], _ => rfl) D.kp
  exact (ss_cons (s_if (t_cmp op_eq c_eq (e_ix rfl (e_v (i := 0)) e_int (fun _ _ => rfl)) e_str (nomark _)) (ss_one (s_ret (e_lst (a_cons (e_ix rfl (e_v (i := 0)) e_int (fun _ _ => rfl)) (a_cons (e_ix rfl (e_v (i := 0)) e_int (fun _ _ => rfl)) a_nil))))) ss_nil) (ss_one (s_ret (e_if (t_cmp op_eq c_eq (e_ix rfl (e_v (i := 0)) e_int (fun _ _ => rfl)) e_str (nomark _)) (e_lst (a_cons (e_ix rfl (e_v (i := 0)) e_int (fun _ _ => rfl)) a_nil)) (e_lst a_nil)))))
theorem gf_part_length (c : Wx P w K mg base) : GF P w (Zk K) mg base 1 ("part_length", none) 2 ev_part_length := by
  obtain ⟨fd, D⟩ := c.says.def_ 1 (d := d_part_length) rfl
  refine GF.mk fd ["lengths", "part"] (D.ok (k := 0) sc_part_length rF_len fun cdv A outer s H vs Q E hr h => ⟨_, ?_, rF_start h⟩) (D.bindsN fun _ _ _ _ _ _ us hl => match us, hl with | [_, _], _ => rfl) D.kp
  exact (ss_cons (s_if (t_cmp op_eq c_eq (e_ix rfl (e_v (i := 1)) e_int (fun _ _ => rfl)) e_str (nomark _)) (ss_one (s_ret e_int)) ss_nil) (ss_cons (s_if (t_cmp op_eq c_eq (e_ix rfl (e_v (i := 1)) e_int (fun _ _ => rfl)) e_str (nomark _)) (ss_one (s_ret (e_add rfl (e_ix rfl (e_v (i := 0)) (e_ix rfl (e_v (i := 1)) e_int (fun _ _ => rfl)) (fun _ _ => rfl)) (e_ix rfl (e_v (i := 0)) (e_ix rfl (e_v (i := 1)) e_int (fun _ _ => rfl)) (fun _ _ => rfl))))) ss_nil) (ss_one (s_ret (e_mul rfl (e_ix rfl (e_v (i := 0)) (e_ix rfl (e_v (i := 1)) e_int (fun _ _ => rfl)) (fun _ _ => rfl)) (e_ix rfl (e_v (i := 1)) e_int (fun _ _ => rfl)))))))
theorem gf_part_lengths (c : Wx P w K mg base) : GF P w (Zk K) mg base 2 ("part_lengths", none) 1 ev_part_lengths := by
  obtain ⟨fd, D⟩ := c.says.def_ 2 (d := d_part_lengths) rfl
  have h14 := He.glo_ok c.kin c.ns (c.says.fact 14)
  refine GF.mk fd ["script"] (D.ok (k := 1) sc_part_lengths rF_len fun cdv A outer s H vs Q E hr h => ⟨_, ?_, rF_start h⟩) (D.bindsN fun _ _ _ _ _ _ us hl => match us, hl with | [_], _ => rfl) D.kp
  exact (ss_cons (s_set (i := 1) sc_part_lengths.nd rfl (e_lst a_nil)) (ss_cons (s_for (passes_of rfl) rfl (i_e rfl (e_ix rfl (e_v (i := 0)) e_int (fun _ _ => rfl))) (g_name (i := 2) sc_part_lengths.nd rfl) (ss_one (s_ex (e_bmL rfl PySem.F.slot_list_append PySem.F.type_list_append mt_append b_append (e_v (i := 1)) (a_cons (e_callG (gf_part_length c) (hr.mono (by decide)) rfl h14 (passes_call (takes_of rfl rfl rfl rfl) fun _ _ _ _ h => h) (a_cons (e_v (i := 1)) (a_cons (e_v (i := 2)) a_nil)) (ln1 (ln1 ln0))) a_nil))))) (ss_one (s_ret (e_v (i := 1))))))
theorem gf_script_length (c : Wx P w K mg base) : GF P w (Zk K) mg base 3 ("script_length", none) 1 ev_script_length := by
  obtain ⟨fd, D⟩ := c.says.def_ 3 (d := d_script_length) rfl
  have h15 := He.glo_ok c.kin c.ns (c.says.fact 15)
  refine GF.mk fd ["script"] (D.ok (k := 2) sc_script_length rF_len fun cdv A outer s H vs Q E hr h => ⟨_, ?_, rF_start h⟩) (D.bindsN fun _ _ _ _ _ _ us hl => match us, hl with | [_], _ => rfl) D.kp
  exact (ss_one (s_ret (e_ix rfl (e_callG (gf_part_lengths c) (hr.mono (by decide)) rfl h15 (passes_call (takes_of rfl rfl rfl rfl) fun _ _ _ _ h => h) (a_cons (e_v (i := 0)) a_nil) (ln1 ln0)) (e_ix rfl (e_v (i := 0)) e_int (fun _ _ => rfl)) (fun _ _ => rfl))))
theorem gf_Runs___init__ (c : Wx P w K mg base) : GF P w (Zk K) mg base 1 ("Runs", some "__init__") 5 ev_Runs___init__ := by
  obtain ⟨fd, D⟩ := c.says.def_ 4 (d := d_Runs___init__) rfl
  refine GF.mk fd ["self", "length", "ahead", "behind", "most"] (D.ok (k := 0) sc_Runs___init__ rF_len fun cdv A outer s H vs Q E hr h => ⟨_, ?_, rF_start h⟩) (D.bindsN fun _ _ _ _ _ _ us hl => match us, hl with | [_, _, _, _, _], _ => rfl) D.kp
  exact (ss_cons (s_fld rfl (fd_length c) (e_v (i := 0)) (e_v (i := 1))) (ss_cons (s_fld rfl (fd_ahead c) (e_v (i := 0)) (e_v (i := 2))) (ss_cons (s_fld rfl (fd_behind c) (e_v (i := 0)) (e_v (i := 3))) (ss_one (s_fld rfl (fd_most c) (e_v (i := 0)) (e_v (i := 4)))))))
theorem gf_Runs_then (c : Wx P w K mg base) : GF P w (Zk K) mg base 3 ("Runs", some "then") 2 ev_Runs_then := by
  obtain ⟨fd, D⟩ := c.says.def_ 5 (d := d_Runs_then) rfl
  have h16 := He.free_ok c.kin c.ns (c.says.fact 16)
  have h17 := He.glo_ok c.kin c.ns (c.says.fact 17)
  have h18 := He.mkr_ok (c.says.fact 18)
  refine GF.mk fd ["self", "other"] (D.ok (k := 2) sc_Runs_then rF_len fun cdv A outer s H vs Q E hr h => ⟨_, ?_, rF_start h⟩) (D.bindsN fun _ _ _ _ _ _ us hl => match us, hl with | [_, _], _ => rfl) D.kp
  exact (ss_cons (s_set (i := 2) sc_Runs_then.nd rfl (e_if (t_cmp op_eq c_eq (e_fld rfl (fd_ahead c) (e_v (i := 0))) (e_fld rfl (fd_length c) (e_v (i := 0))) (nomark _)) (e_add rfl (e_fld rfl (fd_ahead c) (e_v (i := 0))) (e_fld rfl (fd_ahead c) (e_v (i := 1)))) (e_fld rfl (fd_ahead c) (e_v (i := 0))))) (ss_cons (s_set (i := 3) sc_Runs_then.nd rfl (e_if (t_cmp op_eq c_eq (e_fld rfl (fd_behind c) (e_v (i := 1))) (e_fld rfl (fd_length c) (e_v (i := 1))) (nomark _)) (e_add rfl (e_fld rfl (fd_behind c) (e_v (i := 1))) (e_fld rfl (fd_behind c) (e_v (i := 0)))) (e_fld rfl (fd_behind c) (e_v (i := 1))))) (ss_one (s_ret (e_newG (c := 0) (gf_Runs___init__ c) h18 (hr.mono (by decide)) rfl h17 (passes_call (takes_of rfl rfl rfl rfl) fun _ _ _ _ h => h) (a_cons (e_add rfl (e_fld rfl (fd_length c) (e_v (i := 0))) (e_fld rfl (fd_length c) (e_v (i := 1)))) (a_cons (e_v (i := 2)) (a_cons (e_v (i := 3)) (a_cons (e_bf (cr_maxW rfl) b_max rfl h16 boot_max (a_cons (e_fld rfl (fd_most c) (e_v (i := 0))) (a_cons (e_fld rfl (fd_most c) (e_v (i := 1))) (a_cons (e_add rfl (e_fld rfl (fd_behind c) (e_v (i := 0))) (e_fld rfl (fd_ahead c) (e_v (i := 1)))) a_nil)))) a_nil)))) (ln1 (ln1 (ln1 (ln1 ln0)))))))))
theorem gf_Runs_times (c : Wx P w K mg base) : GF P w (Zk K) mg base 3 ("Runs", some "times") 2 ev_Runs_times := by
  obtain ⟨fd, D⟩ := c.says.def_ 6 (d := d_Runs_times) rfl
  have h16 := He.free_ok c.kin c.ns (c.says.fact 16)
  have h17 := He.glo_ok c.kin c.ns (c.says.fact 17)
  have h18 := He.mkr_ok (c.says.fact 18)
  refine GF.mk fd ["self", "number"] (D.ok (k := 2) sc_Runs_times rF_len fun cdv A outer s H vs Q E hr h => ⟨_, ?_, rF_start h⟩) (D.bindsN fun _ _ _ _ _ _ us hl => match us, hl with | [_, _], _ => rfl) D.kp
  exact (ss_cons (s_if (t_cmp op_eq c_eq (e_fld rfl (fd_ahead c) (e_v (i := 0))) (e_fld rfl (fd_length c) (e_v (i := 0))) (nomark _)) (ss_cons (s_set (i := 2) sc_Runs_times.nd rfl (e_mul rfl (e_fld rfl (fd_length c) (e_v (i := 0))) (e_v (i := 1)))) (ss_one (s_ret (e_newG (c := 0) (gf_Runs___init__ c) h18 (hr.mono (by decide)) rfl h17 (passes_call (takes_of rfl rfl rfl rfl) fun _ _ _ _ h => h) (a_cons (e_v (i := 2)) (a_cons (e_v (i := 2)) (a_cons (e_v (i := 2)) (a_cons (e_v (i := 2)) a_nil)))) (ln1 (ln1 (ln1 (ln1 ln0)))))))) ss_nil) (ss_cons (s_if (t_cmp op_eq c_eq (e_v (i := 1)) e_int (nomark _)) (ss_one (s_ret (e_v (i := 0)))) ss_nil) (ss_cons (s_set (i := 3) sc_Runs_times.nd rfl (e_bf (cr_maxW rfl) b_max rfl h16 boot_max (a_cons (e_fld rfl (fd_most c) (e_v (i := 0))) (a_cons (e_add rfl (e_fld rfl (fd_behind c) (e_v (i := 0))) (e_fld rfl (fd_ahead c) (e_v (i := 0)))) a_nil)))) (ss_one (s_ret (e_newG (c := 0) (gf_Runs___init__ c) h18 (hr.mono (by decide)) rfl h17 (passes_call (takes_of rfl rfl rfl rfl) fun _ _ _ _ h => h) (a_cons (e_mul rfl (e_fld rfl (fd_length c) (e_v (i := 0))) (e_v (i := 1))) (a_cons (e_fld rfl (fd_ahead c) (e_v (i := 0))) (a_cons (e_fld rfl (fd_behind c) (e_v (i := 0))) (a_cons (e_v (i := 3)) a_nil)))) (ln1 (ln1 (ln1 (ln1 ln0))))))))))
theorem gf_longest_stretch (c : Wx P w K mg base) : GF P w (Zk K) mg base 4 ("longest_stretch", none) 2 ev_longest_stretch := by
  obtain ⟨fd, D⟩ := c.says.def_ 7 (d := d_longest_stretch) rfl
  have h0 := He.cls_ok (c.says.fact 0)
  have h17 := He.glo_ok c.kin c.ns (c.says.fact 17)
  have h18 := He.mkr_ok (c.says.fact 18)
  have h19 := He.meth_ok (c.says.fact 19)
  have h20 := He.meth_ok (c.says.fact 20)
  refine GF.mk fd ["script", "item"] (D.ok (k := 3) sc_longest_stretch rF_len fun cdv A outer s H vs Q E hr h => ⟨_, ?_, rF_start h⟩) (D.bindsN fun _ _ _ _ _ _ us hl => match us, hl with | [_, _], _ => rfl) D.kp
  exact (ss_cons (s_set (i := 2) sc_longest_stretch.nd rfl (e_lst a_nil)) (ss_cons (s_for (passes_of rfl) rfl (i_e rfl (e_ix rfl (e_v (i := 0)) e_int (fun _ _ => rfl))) (g_name (i := 3) sc_longest_stretch.nd rfl) (ss_one (s_if (t_cmp op_eq c_eq (e_ix rfl (e_v (i := 3)) e_int (fun _ _ => rfl)) e_str (nomark _)) (ss_cons (s_set (i := 4) sc_longest_stretch.nd rfl (e_if (t_cmp op_eq c_eq (e_ix rfl (e_v (i := 3)) e_int (fun _ _ => rfl)) (e_v (i := 1)) (nomark _)) e_int e_int)) (ss_one (s_ex (e_bmL rfl PySem.F.slot_list_append PySem.F.type_list_append mt_append b_append (e_v (i := 2)) (a_cons (e_newG (c := 0) (gf_Runs___init__ c) h18 (hr.mono (by decide)) rfl h17 (passes_call (takes_of rfl rfl rfl rfl) fun _ _ _ _ h => h) (a_cons e_int (a_cons (e_v (i := 4)) (a_cons (e_v (i := 4)) (a_cons (e_v (i := 4)) a_nil)))) (ln1 (ln1 (ln1 (ln1 ln0))))) a_nil))))) (ss_one (s_if (t_cmp op_eq c_eq (e_ix rfl (e_v (i := 3)) e_int (fun _ _ => rfl)) e_str (nomark _)) (ss_one (s_ex (e_bmL rfl PySem.F.slot_list_append PySem.F.type_list_append mt_append b_append (e_v (i := 2)) (a_cons (e_methG (c := 0) (mi := 11) (gf_Runs_then c) h0 h19 rfl (e_ix rfl (e_v (i := 2)) (e_ix rfl (e_v (i := 3)) e_int (fun _ _ => rfl)) (fun _ _ => rfl)) (hr.mono (by decide)) (passes_call (takes_of rfl rfl rfl rfl) fun _ _ _ _ h => h) (a_cons (e_ix rfl (e_v (i := 2)) (e_ix rfl (e_v (i := 3)) e_int (fun _ _ => rfl)) (fun _ _ => rfl)) a_nil) (ln1 ln0)) a_nil)))) (ss_one (s_ex (e_bmL rfl PySem.F.slot_list_append PySem.F.type_list_append mt_append b_append (e_v (i := 2)) (a_cons (e_methG (c := 0) (mi := 12) (gf_Runs_times c) h0 h20 rfl (e_ix rfl (e_v (i := 2)) (e_ix rfl (e_v (i := 3)) e_int (fun _ _ => rfl)) (fun _ _ => rfl)) (hr.mono (by decide)) (passes_call (takes_of rfl rfl rfl rfl) fun _ _ _ _ h => h) (a_cons (e_ix rfl (e_v (i := 3)) e_int (fun _ _ => rfl)) a_nil) (ln1 ln0)) a_nil))))))))) (ss_one (s_ret (e_fld rfl (fd_most c) (e_ix rfl (e_v (i := 2)) (e_ix rfl (e_v (i := 0)) e_int (fun _ _ => rfl)) (fun _ _ => rfl)))))))
theorem gf_Gaps___init__ (c : Wx P w K mg base) : GF P w (Zk K) mg base 1 ("Gaps", some "__init__") 4 ev_Gaps___init__ := by
  obtain ⟨fd, D⟩ := c.says.def_ 8 (d := d_Gaps___init__) rfl
  refine GF.mk fd ["self", "ahead", "behind", "widest"] (D.ok (k := 0) sc_Gaps___init__ rF_len fun cdv A outer s H vs Q E hr h => ⟨_, ?_, rF_start h⟩) (D.bindsN fun _ _ _ _ _ _ us hl => match us, hl with | [_, _, _, _], _ => rfl) D.kp
  exact (ss_cons (s_fld rfl (fd_ahead c) (e_v (i := 0)) (e_v (i := 1))) (ss_cons (s_fld rfl (fd_behind c) (e_v (i := 0)) (e_v (i := 2))) (ss_one (s_fld rfl (fd_widest c) (e_v (i := 0)) (e_v (i := 3))))))
theorem gf_wider (c : Wx P w K mg base) : GF P w (Zk K) mg base 1 ("wider", none) 2 ev_wider := by
  obtain ⟨fd, D⟩ := c.says.def_ 9 (d := d_wider) rfl
  have h16 := He.free_ok c.kin c.ns (c.says.fact 16)
  refine GF.mk fd ["one", "other"] (D.ok (k := 0) sc_wider rF_len fun cdv A outer s H vs Q E hr h => ⟨_, ?_, rF_start h⟩) (D.bindsN fun _ _ _ _ _ _ us hl => match us, hl with | [_, _], _ => rfl) D.kp
  exact (ss_cons (s_if (PW.pt (w_or (t_cmp op_isN c_isN (e_v (i := 0)) e_non (nomark _)) (w_or1 (t_cmp op_isN c_isN (e_v (i := 1)) e_non (nomark _))))) (ss_one (s_ret (e_if (t_cmp op_isN c_isN (e_v (i := 0)) e_non (nomark _)) (e_v (i := 1)) (e_v (i := 0))))) ss_nil) (ss_one (s_ret (e_bf (cr_maxW rfl) b_max rfl h16 boot_max (a_cons (e_v (i := 0)) (a_cons (e_v (i := 1)) a_nil))))))
theorem gf_gaps_then (c : Wx P w K mg base) : GF P w (Zk K) mg base 3 ("gaps_then", none) 4 ev_gaps_then := by
  obtain ⟨fd, D⟩ := c.says.def_ 10 (d := d_gaps_then) rfl
  have h21 := He.glo_ok c.kin c.ns (c.says.fact 21)
  have h22 := He.mkr_ok (c.says.fact 22)
  have h23 := He.glo_ok c.kin c.ns (c.says.fact 23)
  refine GF.mk fd ["one", "first", "other", "second"] (D.ok (k := 2) sc_gaps_then rF_len fun cdv A outer s H vs Q E hr h => ⟨_, ?_, rF_start h⟩) (D.bindsN fun _ _ _ _ _ _ us hl => match us, hl with | [_, _, _, _], _ => rfl) D.kp
  exact (ss_cons (s_if (PW.pt (w_or (t_cmp op_isN c_isN (e_v (i := 0)) e_non (nomark _)) (w_or1 (t_cmp op_isN c_isN (e_v (i := 2)) e_non (nomark _))))) (ss_cons (s_if (PW.pt (w_and (t_cmp op_isN c_isN (e_v (i := 0)) e_non (nomark _)) (w_and1 (t_cmp op_isN c_isN (e_v (i := 2)) e_non (nomark _))))) (ss_one (s_ret e_non)) ss_nil) (ss_cons (s_if (t_cmp op_isN c_isN (e_v (i := 0)) e_non (nomark _)) (ss_one (s_ret (e_newG (c := 1) (gf_Gaps___init__ c) h22 (hr.mono (by decide)) rfl h21 (passes_call (takes_of rfl rfl rfl rfl) fun _ _ _ _ h => h) (a_cons (e_add rfl (e_v (i := 1)) (e_fld rfl (fd_ahead c) (e_v (i := 2)))) (a_cons (e_fld rfl (fd_behind c) (e_v (i := 2))) (a_cons (e_fld rfl (fd_widest c) (e_v (i := 2))) a_nil))) (ln1 (ln1 (ln1 ln0)))))) ss_nil) (ss_one (s_ret (e_newG (c := 1) (gf_Gaps___init__ c) h22 (hr.mono (by decide)) rfl h21 (passes_call (takes_of rfl rfl rfl rfl) fun _ _ _ _ h => h) (a_cons (e_fld rfl (fd_ahead c) (e_v (i := 0))) (a_cons (e_add rfl (e_fld rfl (fd_behind c) (e_v (i := 0))) (e_v (i := 3))) (a_cons (e_fld rfl (fd_widest c) (e_v (i := 0))) a_nil))) (ln1 (ln1 (ln1 ln0)))))))) ss_nil) (ss_cons (s_set (i := 4) sc_gaps_then.nd rfl (e_callG (gf_wider c) (hr.mono (by decide)) rfl h23 (passes_call (takes_of rfl rfl rfl rfl) fun _ _ _ _ h => h) (a_cons (e_callG (gf_wider c) (hr.mono (by decide)) rfl h23 (passes_call (takes_of rfl rfl rfl rfl) fun _ _ _ _ h => h) (a_cons (e_fld rfl (fd_widest c) (e_v (i := 0))) (a_cons (e_fld rfl (fd_widest c) (e_v (i := 2))) a_nil)) (ln1 (ln1 ln0))) (a_cons (e_add rfl (e_fld rfl (fd_behind c) (e_v (i := 0))) (e_fld rfl (fd_ahead c) (e_v (i := 2)))) a_nil)) (ln1 (ln1 ln0)))) (ss_one (s_ret (e_newG (c := 1) (gf_Gaps___init__ c) h22 (hr.mono (by decide)) rfl h21 (passes_call (takes_of rfl rfl rfl rfl) fun _ _ _ _ h => h) (a_cons (e_fld rfl (fd_ahead c) (e_v (i := 0))) (a_cons (e_fld rfl (fd_behind c) (e_v (i := 2))) (a_cons (e_v (i := 4)) a_nil))) (ln1 (ln1 (ln1 ln0))))))))
theorem gf_gaps_times (c : Wx P w K mg base) : GF P w (Zk K) mg base 3 ("gaps_times", none) 2 ev_gaps_times := by
  obtain ⟨fd, D⟩ := c.says.def_ 11 (d := d_gaps_times) rfl
  have h21 := He.glo_ok c.kin c.ns (c.says.fact 21)
  have h22 := He.mkr_ok (c.says.fact 22)
  have h23 := He.glo_ok c.kin c.ns (c.says.fact 23)
  refine GF.mk fd ["one", "number"] (D.ok (k := 2) sc_gaps_times rF_len fun cdv A outer s H vs Q E hr h => ⟨_, ?_, rF_start h⟩) (D.bindsN fun _ _ _ _ _ _ us hl => match us, hl with | [_, _], _ => rfl) D.kp
  exact (ss_cons (s_if (PW.pt (w_or (t_cmp op_isN c_isN (e_v (i := 0)) e_non (nomark _)) (w_or1 (t_cmp op_eq c_eq (e_v (i := 1)) e_int (nomark _))))) (ss_one (s_ret (e_v (i := 0)))) ss_nil) (ss_one (s_ret (e_newG (c := 1) (gf_Gaps___init__ c) h22 (hr.mono (by decide)) rfl h21 (passes_call (takes_of rfl rfl rfl rfl) fun _ _ _ _ h => h) (a_cons (e_fld rfl (fd_ahead c) (e_v (i := 0))) (a_cons (e_fld rfl (fd_behind c) (e_v (i := 0))) (a_cons (e_callG (gf_wider c) (hr.mono (by decide)) rfl h23 (passes_call (takes_of rfl rfl rfl rfl) fun _ _ _ _ h => h) (a_cons (e_fld rfl (fd_widest c) (e_v (i := 0))) (a_cons (e_add rfl (e_fld rfl (fd_behind c) (e_v (i := 0))) (e_fld rfl (fd_ahead c) (e_v (i := 0)))) a_nil)) (ln1 (ln1 ln0))) a_nil))) (ln1 (ln1 (ln1 ln0)))))))
theorem gf_widest_gap (c : Wx P w K mg base) : GF P w (Zk K) mg base 4 ("widest_gap", none) 2 ev_widest_gap := by
  obtain ⟨fd, D⟩ := c.says.def_ 12 (d := d_widest_gap) rfl
  have h15 := He.glo_ok c.kin c.ns (c.says.fact 15)
  have h21 := He.glo_ok c.kin c.ns (c.says.fact 21)
  have h22 := He.mkr_ok (c.says.fact 22)
  have h24 := He.glo_ok c.kin c.ns (c.says.fact 24)
  have h25 := He.glo_ok c.kin c.ns (c.says.fact 25)
  refine GF.mk fd ["script", "item"] (D.ok (k := 3) sc_widest_gap rF_len fun cdv A outer s H vs Q E hr h => ⟨_, ?_, rF_start h⟩) (D.bindsN fun _ _ _ _ _ _ us hl => match us, hl with | [_, _], _ => rfl) D.kp
  exact (ss_cons (s_par (i := 2) (j := 3) rfl sc_widest_gap.nd rfl rfl (by decide) rfl rfl (a_cons (e_callG (gf_part_lengths c) (hr.mono (by decide)) rfl h15 (passes_call (takes_of rfl rfl rfl rfl) fun _ _ _ _ h => h) (a_cons (e_v (i := 0)) a_nil) (ln1 ln0)) (a_cons (e_lst a_nil) a_nil)) rfl) (ss_cons (s_for (passes_of rfl) rfl (i_e rfl (e_ix rfl (e_v (i := 0)) e_int (fun _ _ => rfl))) (g_name (i := 4) sc_widest_gap.nd rfl) (ss_one (s_if (t_cmp op_eq c_eq (e_ix rfl (e_v (i := 4)) e_int (fun _ _ => rfl)) e_str (nomark _)) (ss_one (s_ex (e_bmL rfl PySem.F.slot_list_append PySem.F.type_list_append mt_append b_append (e_v (i := 3)) (a_cons (e_if (t_cmp op_eq c_eq (e_ix rfl (e_v (i := 4)) e_int (fun _ _ => rfl)) (e_v (i := 1)) (nomark _)) (e_newG (c := 1) (gf_Gaps___init__ c) h22 (hr.mono (by decide)) rfl h21 (passes_call (takes_of rfl rfl rfl rfl) fun _ _ _ _ h => h) (a_cons e_int (a_cons e_int (a_cons e_non a_nil))) (ln1 (ln1 (ln1 ln0)))) e_non) a_nil)))) (ss_one (s_if (t_cmp op_eq c_eq (e_ix rfl (e_v (i := 4)) e_int (fun _ _ => rfl)) e_str (nomark _)) (ss_cons (s_par (i := 5) (j := 6) rfl sc_widest_gap.nd rfl rfl (by decide) rfl rfl (a_cons (e_ix rfl (e_v (i := 4)) e_int (fun _ _ => rfl)) (a_cons (e_ix rfl (e_v (i := 4)) e_int (fun _ _ => rfl)) a_nil)) rfl) (ss_one (s_ex (e_bmL rfl PySem.F.slot_list_append PySem.F.type_list_append mt_append b_append (e_v (i := 3)) (a_cons (e_callG (gf_gaps_then c) (hr.mono (by decide)) rfl h24 (passes_call (takes_of rfl rfl rfl rfl) fun _ _ _ _ h => h) (a_cons (e_ix rfl (e_v (i := 3)) (e_v (i := 5)) (fun _ _ => rfl)) (a_cons (e_ix rfl (e_v (i := 2)) (e_v (i := 5)) (fun _ _ => rfl)) (a_cons (e_ix rfl (e_v (i := 3)) (e_v (i := 6)) (fun _ _ => rfl)) (a_cons (e_ix rfl (e_v (i := 2)) (e_v (i := 6)) (fun _ _ => rfl)) a_nil)))) (ln1 (ln1 (ln1 (ln1 ln0))))) a_nil))))) (ss_one (s_ex (e_bmL rfl PySem.F.slot_list_append PySem.F.type_list_append mt_append b_append (e_v (i := 3)) (a_cons (e_callG (gf_gaps_times c) (hr.mono (by decide)) rfl h25 (passes_call (takes_of rfl rfl rfl rfl) fun _ _ _ _ h => h) (a_cons (e_ix rfl (e_v (i := 3)) (e_ix rfl (e_v (i := 4)) e_int (fun _ _ => rfl)) (fun _ _ => rfl)) (a_cons (e_ix rfl (e_v (i := 4)) e_int (fun _ _ => rfl)) a_nil)) (ln1 (ln1 ln0))) a_nil))))))))) (ss_cons (s_set (i := 7) sc_widest_gap.nd rfl (e_ix rfl (e_v (i := 3)) (e_ix rfl (e_v (i := 0)) e_int (fun _ _ => rfl)) (fun _ _ => rfl))) (ss_one (s_ret (e_if (t_cmp op_isN c_isN (e_v (i := 7)) e_non (nomark _)) e_non (e_fld rfl (fd_widest c) (e_v (i := 7)))))))))
theorem gk_widest_gap_K0 (c : Wx P w K mg base) : GFK P w (Zk K) mg base 4 ("widest_gap", none) ["item", "script"] [1, 0] ev_widest_gap := by
  obtain ⟨fd, D⟩ := c.says.def_ 12 (d := d_widest_gap) rfl
  have h15 := He.glo_ok c.kin c.ns (c.says.fact 15)
  have h21 := He.glo_ok c.kin c.ns (c.says.fact 21)
  have h22 := He.mkr_ok (c.says.fact 22)
  have h24 := He.glo_ok c.kin c.ns (c.says.fact 24)
  have h25 := He.glo_ok c.kin c.ns (c.says.fact 25)
  refine GFK.mk fd ["script", "item"] (D.ok (k := 3) sc_widest_gap rF_len fun cdv A outer s H vs Q E hr h => ⟨_, ?_, rF_start h⟩) (FunD.byNames D fun _ _ _ _ _ _ us hl => match us, hl with | [_, _], _ => rfl) D.kp
  exact (ss_cons (s_par (i := 2) (j := 3) rfl sc_widest_gap.nd rfl rfl (by decide) rfl rfl (a_cons (e_callG (gf_part_lengths c) (hr.mono (by decide)) rfl h15 (passes_call (takes_of rfl rfl rfl rfl) fun _ _ _ _ h => h) (a_cons (e_v (i := 0)) a_nil) (ln1 ln0)) (a_cons (e_lst a_nil) a_nil)) rfl) (ss_cons (s_for (passes_of rfl) rfl (i_e rfl (e_ix rfl (e_v (i := 0)) e_int (fun _ _ => rfl))) (g_name (i := 4) sc_widest_gap.nd rfl) (ss_one (s_if (t_cmp op_eq c_eq (e_ix rfl (e_v (i := 4)) e_int (fun _ _ => rfl)) e_str (nomark _)) (ss_one (s_ex (e_bmL rfl PySem.F.slot_list_append PySem.F.type_list_append mt_append b_append (e_v (i := 3)) (a_cons (e_if (t_cmp op_eq c_eq (e_ix rfl (e_v (i := 4)) e_int (fun _ _ => rfl)) (e_v (i := 1)) (nomark _)) (e_newG (c := 1) (gf_Gaps___init__ c) h22 (hr.mono (by decide)) rfl h21 (passes_call (takes_of rfl rfl rfl rfl) fun _ _ _ _ h => h) (a_cons e_int (a_cons e_int (a_cons e_non a_nil))) (ln1 (ln1 (ln1 ln0)))) e_non) a_nil)))) (ss_one (s_if (t_cmp op_eq c_eq (e_ix rfl (e_v (i := 4)) e_int (fun _ _ => rfl)) e_str (nomark _)) (ss_cons (s_par (i := 5) (j := 6) rfl sc_widest_gap.nd rfl rfl (by decide) rfl rfl (a_cons (e_ix rfl (e_v (i := 4)) e_int (fun _ _ => rfl)) (a_cons (e_ix rfl (e_v (i := 4)) e_int (fun _ _ => rfl)) a_nil)) rfl) (ss_one (s_ex (e_bmL rfl PySem.F.slot_list_append PySem.F.type_list_append mt_append b_append (e_v (i := 3)) (a_cons (e_callG (gf_gaps_then c) (hr.mono (by decide)) rfl h24 (passes_call (takes_of rfl rfl rfl rfl) fun _ _ _ _ h => h) (a_cons (e_ix rfl (e_v (i := 3)) (e_v (i := 5)) (fun _ _ => rfl)) (a_cons (e_ix rfl (e_v (i := 2)) (e_v (i := 5)) (fun _ _ => rfl)) (a_cons (e_ix rfl (e_v (i := 3)) (e_v (i := 6)) (fun _ _ => rfl)) (a_cons (e_ix rfl (e_v (i := 2)) (e_v (i := 6)) (fun _ _ => rfl)) a_nil)))) (ln1 (ln1 (ln1 (ln1 ln0))))) a_nil))))) (ss_one (s_ex (e_bmL rfl PySem.F.slot_list_append PySem.F.type_list_append mt_append b_append (e_v (i := 3)) (a_cons (e_callG (gf_gaps_times c) (hr.mono (by decide)) rfl h25 (passes_call (takes_of rfl rfl rfl rfl) fun _ _ _ _ h => h) (a_cons (e_ix rfl (e_v (i := 3)) (e_ix rfl (e_v (i := 4)) e_int (fun _ _ => rfl)) (fun _ _ => rfl)) (a_cons (e_ix rfl (e_v (i := 4)) e_int (fun _ _ => rfl)) a_nil)) (ln1 (ln1 ln0))) a_nil))))))))) (ss_cons (s_set (i := 7) sc_widest_gap.nd rfl (e_ix rfl (e_v (i := 3)) (e_ix rfl (e_v (i := 0)) e_int (fun _ _ => rfl)) (fun _ _ => rfl))) (ss_one (s_ret (e_if (t_cmp op_isN c_isN (e_v (i := 7)) e_non (nomark _)) e_non (e_fld rfl (fd_widest c) (e_v (i := 7)))))))))
theorem gf_node_down (c : Wx P w K mg base) : GF P w (Zk K) mg base 1 ("node_down", none) 3 ev_node_down := by
  obtain ⟨fd, D⟩ := c.says.def_ 13 (d := d_node_down) rfl
  refine GF.mk fd ["script", "lengths", "place"] (D.ok (k := 0) sc_node_down rF_len fun cdv A outer s H vs Q E hr h => ⟨_, ?_, rF_start h⟩) (D.bindsN fun _ _ _ _ _ _ us hl => match us, hl with | [_, _, _], _ => rfl) D.kp
  exact (ss_cons (s_set (i := 3) sc_node_down.nd rfl (e_ix rfl (e_ix rfl (e_v (i := 0)) e_int (fun _ _ => rfl)) (e_ix rfl (e_v (i := 0)) e_int (fun _ _ => rfl)) (fun _ _ => rfl))) (ss_cons (s_whl (passes_of rfl) (t_cmp op_ne c_ne (e_ix rfl (e_v (i := 3)) e_int (fun _ _ => rfl)) e_str (nomark _)) (ss_one (s_if (t_cmp op_eq c_eq (e_ix rfl (e_v (i := 3)) e_int (fun _ _ => rfl)) e_str (nomark _)) (ss_cons (s_set (i := 2) sc_node_down.nd rfl (e_mod (e_v (i := 2)) (e_ix rfl (e_v (i := 1)) (e_ix rfl (e_v (i := 3)) e_int (fun _ _ => rfl)) (fun _ _ => rfl)))) (ss_one (s_set (i := 3) sc_node_down.nd rfl (e_ix rfl (e_ix rfl (e_v (i := 0)) e_int (fun _ _ => rfl)) (e_ix rfl (e_v (i := 3)) e_int (fun _ _ => rfl)) (fun _ _ => rfl))))) (ss_one (s_if (t_cmp op_lt c_lt (e_v (i := 2)) (e_ix rfl (e_v (i := 1)) (e_ix rfl (e_v (i := 3)) e_int (fun _ _ => rfl)) (fun _ _ => rfl)) (nomark _)) (ss_one (s_set (i := 3) sc_node_down.nd rfl (e_ix rfl (e_ix rfl (e_v (i := 0)) e_int (fun _ _ => rfl)) (e_ix rfl (e_v (i := 3)) e_int (fun _ _ => rfl)) (fun _ _ => rfl)))) (ss_cons (s_aug_sub (i := 2) sc_node_down.nd rfl (e_ix rfl (e_v (i := 1)) (e_ix rfl (e_v (i := 3)) e_int (fun _ _ => rfl)) (fun _ _ => rfl))) (ss_one (s_set (i := 3) sc_node_down.nd rfl (e_ix rfl (e_ix rfl (e_v (i := 0)) e_int (fun _ _ => rfl)) (e_ix rfl (e_v (i := 3)) e_int (fun _ _ => rfl)) (fun _ _ => rfl)))))))))) (ss_one (s_ret (e_ix rfl (e_v (i := 3)) e_int (fun _ _ => rfl))))))
theorem gf_item_at (c : Wx P w K mg base) : GF P w (Zk K) mg base 3 ("item_at", none) 2 ev_item_at := by
  obtain ⟨fd, D⟩ := c.says.def_ 14 (d := d_item_at) rfl
  have h15 := He.glo_ok c.kin c.ns (c.says.fact 15)
  have h26 := He.glo_ok c.kin c.ns (c.says.fact 26)
  have h27 := He.glo_ok c.kin c.ns (c.says.fact 27)
  refine GF.mk fd ["script", "place"] (D.ok (k := 2) sc_item_at rF_len fun cdv A outer s H vs Q E hr h => ⟨_, ?_, rF_start h⟩) (D.bindsN fun _ _ _ _ _ _ us hl => match us, hl with | [_, _], _ => rfl) D.kp
  exact (ss_cons (s_set (i := 2) sc_item_at.nd rfl (e_callG (gf_part_lengths c) (hr.mono (by decide)) rfl h15 (passes_call (takes_of rfl rfl rfl rfl) fun _ _ _ _ h => h) (a_cons (e_v (i := 0)) a_nil) (ln1 ln0))) (ss_cons (s_if (t_not (t_ch2 op_le op_lt c_le c_lt e_int (e_v (i := 1)) (e_ix rfl (e_v (i := 2)) (e_ix rfl (e_v (i := 0)) e_int (fun _ _ => rfl)) (fun _ _ => rfl)))) (ss_one (s_raise (c := 103) (gx_BadStep c) rfl (hr.mono (by decide)) rfl (takes_of rfl rfl rfl rfl) h26 pass_no (a_cons e_str a_nil) (ln1 ln0))) ss_nil) (ss_one (s_ret (e_callG (gf_node_down c) (hr.mono (by decide)) rfl h27 (passes_call (takes_of rfl rfl rfl rfl) fun _ _ _ _ h => h) (a_cons (e_v (i := 0)) (a_cons (e_v (i := 2)) (a_cons (e_v (i := 1)) a_nil))) (ln1 (ln1 (ln1 ln0))))))))
theorem gk_item_at_K0 (c : Wx P w K mg base) : GFK P w (Zk K) mg base 3 ("item_at", none) ["place", "script"] [1, 0] ev_item_at := by
  obtain ⟨fd, D⟩ := c.says.def_ 14 (d := d_item_at) rfl
  have h15 := He.glo_ok c.kin c.ns (c.says.fact 15)
  have h26 := He.glo_ok c.kin c.ns (c.says.fact 26)
  have h27 := He.glo_ok c.kin c.ns (c.says.fact 27)
  refine GFK.mk fd ["script", "place"] (D.ok (k := 2) sc_item_at rF_len fun cdv A outer s H vs Q E hr h => ⟨_, ?_, rF_start h⟩) (FunD.byNames D fun _ _ _ _ _ _ us hl => match us, hl with | [_, _], _ => rfl) D.kp
  exact (ss_cons (s_set (i := 2) sc_item_at.nd rfl (e_callG (gf_part_lengths c) (hr.mono (by decide)) rfl h15 (passes_call (takes_of rfl rfl rfl rfl) fun _ _ _ _ h => h) (a_cons (e_v (i := 0)) a_nil) (ln1 ln0))) (ss_cons (s_if (t_not (t_ch2 op_le op_lt c_le c_lt e_int (e_v (i := 1)) (e_ix rfl (e_v (i := 2)) (e_ix rfl (e_v (i := 0)) e_int (fun _ _ => rfl)) (fun _ _ => rfl)))) (ss_one (s_raise (c := 103) (gx_BadStep c) rfl (hr.mono (by decide)) rfl (takes_of rfl rfl rfl rfl) h26 pass_no (a_cons e_str a_nil) (ln1 ln0))) ss_nil) (ss_one (s_ret (e_callG (gf_node_down c) (hr.mono (by decide)) rfl h27 (passes_call (takes_of rfl rfl rfl rfl) fun _ _ _ _ h => h) (a_cons (e_v (i := 0)) (a_cons (e_v (i := 2)) (a_cons (e_v (i := 1)) a_nil))) (ln1 (ln1 (ln1 ln0))))))))
theorem gf_items_between (c : Wx P w K mg base) : GF P w (Zk K) mg base 3 ("items_between", none) 3 ev_items_between := by
  obtain ⟨fd, D⟩ := c.says.def_ 15 (d := d_items_between) rfl
  have h15 := He.glo_ok c.kin c.ns (c.says.fact 15)
  have h26 := He.glo_ok c.kin c.ns (c.says.fact 26)
  have h27 := He.glo_ok c.kin c.ns (c.says.fact 27)
  obtain ⟨th28, h28⟩ := He.int_ok c.kin c.ns (c.says.fact 28)
  have h29 := He.free_ok c.kin c.ns (c.says.fact 29)
  have h30 := He.free_ok c.kin c.ns (c.says.fact 30)
  refine GF.mk fd ["script", "low", "high"] (D.ok (k := 2) sc_items_between rF_len fun cdv A outer s H vs Q E hr h => ⟨_, ?_, rF_start h⟩) (D.bindsN fun _ _ _ _ _ _ us hl => match us, hl with | [_, _, _], _ => rfl) D.kp
  exact (ss_cons (s_set (i := 3) sc_items_between.nd rfl (e_callG (gf_part_lengths c) (hr.mono (by decide)) rfl h15 (passes_call (takes_of rfl rfl rfl rfl) fun _ _ _ _ h => h) (a_cons (e_v (i := 0)) a_nil) (ln1 ln0))) (ss_cons (s_if (t_not (t_ch3 op_le op_le op_le c_le c_le c_le e_int (e_v (i := 1)) (e_v (i := 2)) (e_ix rfl (e_v (i := 3)) (e_ix rfl (e_v (i := 0)) e_int (fun _ _ => rfl)) (fun _ _ => rfl)))) (ss_one (s_raise (c := 103) (gx_BadStep c) rfl (hr.mono (by decide)) rfl (takes_of rfl rfl rfl rfl) h26 pass_no (a_cons e_str a_nil) (ln1 ln0))) ss_nil) (ss_cons (s_if (t_cmp op_gt c_gt (e_sub (e_v (i := 2)) (e_v (i := 1))) (e_gint rfl h28) (nomark _)) (ss_one (s_raise (c := 103) (gx_BadStep c) rfl (hr.mono (by decide)) rfl (takes_of rfl rfl rfl rfl) h26 pass_no (a_cons e_str a_nil) (ln1 ln0))) ss_nil) (ss_one (s_ret (e_bt call_tuple_of b_tuple rfl h30 PyProof.Rows.boot_tuple (a_cons (e_lc (own := [("place", 4)]) rfl sc_items_between.nd (i_rg2 rfl h29 (a_cons (e_v (i := 1)) (a_cons (e_v (i := 2)) a_nil)) (ln1 (ln1 ln0))) (blkOk_by (N := sl_items_between) (sc := defScope st_items_between) (by decide +kernel)) (by decide) (fun _ _ _ _ _ => (g_name (i := 4) sc_items_between.nd rfl)) (fun _ _ _ _ _ => ts_nil) (fun _ _ _ _ _ => (e_callG (gf_node_down c) (hr.mono (by decide)) rfl h27 pass_no (a_cons (e_v (i := 0)) (a_cons (e_v (i := 3)) (a_cons (e_v (i := 4)) a_nil))) (ln1 (ln1 (ln1 ln0)))))) a_nil)))))))
theorem gf_part_numbers (c : Wx P w K mg base) : GF P w (Zk K) mg base 1 ("part_numbers", none) 2 ev_part_numbers := by
  obtain ⟨fd, D⟩ := c.says.def_ 16 (d := d_part_numbers) rfl
  refine GF.mk fd ["script", "item"] (D.ok (k := 0) sc_part_numbers rF_len fun cdv A outer s H vs Q E hr h => ⟨_, ?_, rF_start h⟩) (D.bindsN fun _ _ _ _ _ _ us hl => match us, hl with | [_, _], _ => rfl) D.kp
  exact (ss_cons (s_set (i := 2) sc_part_numbers.nd rfl (e_lst a_nil)) (ss_cons (s_for (passes_of rfl) rfl (i_e rfl (e_ix rfl (e_v (i := 0)) e_int (fun _ _ => rfl))) (g_name (i := 3) sc_part_numbers.nd rfl) (ss_one (s_if (t_cmp op_eq c_eq (e_ix rfl (e_v (i := 3)) e_int (fun _ _ => rfl)) e_str (nomark _)) (ss_one (s_ex (e_bmL rfl PySem.F.slot_list_append PySem.F.type_list_append mt_append b_append (e_v (i := 2)) (a_cons (e_if (t_cmp op_eq c_eq (e_ix rfl (e_v (i := 3)) e_int (fun _ _ => rfl)) (e_v (i := 1)) (nomark _)) e_int e_int) a_nil)))) (ss_one (s_if (t_cmp op_eq c_eq (e_ix rfl (e_v (i := 3)) e_int (fun _ _ => rfl)) e_str (nomark _)) (ss_one (s_ex (e_bmL rfl PySem.F.slot_list_append PySem.F.type_list_append mt_append b_append (e_v (i := 2)) (a_cons (e_add rfl (e_ix rfl (e_v (i := 2)) (e_ix rfl (e_v (i := 3)) e_int (fun _ _ => rfl)) (fun _ _ => rfl)) (e_ix rfl (e_v (i := 2)) (e_ix rfl (e_v (i := 3)) e_int (fun _ _ => rfl)) (fun _ _ => rfl))) a_nil)))) (ss_one (s_ex (e_bmL rfl PySem.F.slot_list_append PySem.F.type_list_append mt_append b_append (e_v (i := 2)) (a_cons (e_mul rfl (e_ix rfl (e_v (i := 2)) (e_ix rfl (e_v (i := 3)) e_int (fun _ _ => rfl)) (fun _ _ => rfl)) (e_ix rfl (e_v (i := 3)) e_int (fun _ _ => rfl))) a_nil))))))))) (ss_one (s_ret (e_v (i := 2))))))
theorem gf_number_ahead (c : Wx P w K mg base) : GF P w (Zk K) mg base 1 ("number_ahead", none) 4 ev_number_ahead := by
  obtain ⟨fd, D⟩ := c.says.def_ 17 (d := d_number_ahead) rfl
  refine GF.mk fd ["script", "lengths", "numbers", "place"] (D.ok (k := 0) sc_number_ahead rF_len fun cdv A outer s H vs Q E hr h => ⟨_, ?_, rF_start h⟩) (D.bindsN fun _ _ _ _ _ _ us hl => match us, hl with | [_, _, _, _], _ => rfl) D.kp
  exact (ss_cons (s_par (i := 4) (j := 5) rfl sc_number_ahead.nd rfl rfl (by decide) rfl rfl (a_cons (e_ix rfl (e_v (i := 0)) e_int (fun _ _ => rfl)) (a_cons e_int a_nil)) rfl) (ss_cons (s_whl (passes_of rfl) (t_cmp op_gt c_gt (e_v (i := 3)) e_int (nomark _)) (ss_cons (s_set (i := 6) sc_number_ahead.nd rfl (e_ix rfl (e_ix rfl (e_v (i := 0)) e_int (fun _ _ => rfl)) (e_v (i := 4)) (fun _ _ => rfl))) (ss_cons (s_if (t_cmp op_ge c_ge (e_v (i := 3)) (e_ix rfl (e_v (i := 1)) (e_v (i := 4)) (fun _ _ => rfl)) (nomark _)) (ss_one (s_ret (e_add rfl (e_v (i := 5)) (e_ix rfl (e_v (i := 2)) (e_v (i := 4)) (fun _ _ => rfl))))) ss_nil) (ss_cons (s_set (i := 4) sc_number_ahead.nd rfl (e_ix rfl (e_v (i := 6)) e_int (fun _ _ => rfl))) (ss_one (s_if (t_cmp op_eq c_eq (e_ix rfl (e_v (i := 6)) e_int (fun _ _ => rfl)) e_str (nomark _)) (ss_cons (s_aug_add (i := 5) sc_number_ahead.nd rfl (e_mul rfl (e_fdiv (e_v (i := 3)) (e_ix rfl (e_v (i := 1)) (e_v (i := 4)) (fun _ _ => rfl))) (e_ix rfl (e_v (i := 2)) (e_v (i := 4)) (fun _ _ => rfl)))) (ss_one (s_set (i := 3) sc_number_ahead.nd rfl (e_mod (e_v (i := 3)) (e_ix rfl (e_v (i := 1)) (e_v (i := 4)) (fun _ _ => rfl)))))) (ss_one (s_if (t_cmp op_ge c_ge (e_v (i := 3)) (e_ix rfl (e_v (i := 1)) (e_v (i := 4)) (fun _ _ => rfl)) (nomark _)) (ss_cons (s_aug_add (i := 5) sc_number_ahead.nd rfl (e_ix rfl (e_v (i := 2)) (e_v (i := 4)) (fun _ _ => rfl))) (ss_cons (s_aug_sub (i := 3) sc_number_ahead.nd rfl (e_ix rfl (e_v (i := 1)) (e_v (i := 4)) (fun _ _ => rfl))) (ss_one (s_set (i := 4) sc_number_ahead.nd rfl (e_ix rfl (e_v (i := 6)) e_int (fun _ _ => rfl)))))) ss_nil)))))))) (ss_one (s_ret (e_v (i := 5))))))
theorem gf_bill_ahead (c : Wx P w K mg base) : GF P w (Zk K) mg base 4 ("bill_ahead", none) 3 ev_bill_ahead := by
  obtain ⟨fd, D⟩ := c.says.def_ 18 (d := d_bill_ahead) rfl
  have h15 := He.glo_ok c.kin c.ns (c.says.fact 15)
  have h26 := He.glo_ok c.kin c.ns (c.says.fact 26)
  have h30 := He.free_ok c.kin c.ns (c.says.fact 30)
  have h31 := He.glo_ok c.kin c.ns (c.says.fact 31)
  have h32 := He.glo_ok c.kin c.ns (c.says.fact 32)
  have h33 := He.glo_ok c.kin c.ns (c.says.fact 33)
  refine GF.mk fd ["book", "script", "place"] (D.ok (k := 3) sc_bill_ahead rF_len fun cdv A outer s H vs Q E hr h => ⟨_, ?_, rF_start h⟩) (D.bindsN fun _ _ _ _ _ _ us hl => match us, hl with | [_, _, _], _ => rfl) D.kp
  exact (ss_cons (s_if (t_not (t_ch2 op_le op_le c_le c_le e_int (e_v (i := 2)) (e_callG (gf_script_length c) (hr.mono (by decide)) rfl h31 (passes_call (takes_of rfl rfl rfl rfl) fun _ _ _ _ h => h) (a_cons (e_v (i := 1)) a_nil) (ln1 ln0)))) (ss_one (s_raise (c := 103) (gx_BadStep c) rfl (hr.mono (by decide)) rfl (takes_of rfl rfl rfl rfl) h26 pass_no (a_cons e_str a_nil) (ln1 ln0))) ss_nil) (ss_cons (s_set (i := 3) sc_bill_ahead.nd rfl (e_callG (gf_part_lengths c) (hr.mono (by decide)) rfl h15 (passes_call (takes_of rfl rfl rfl rfl) fun _ _ _ _ h => h) (a_cons (e_v (i := 1)) a_nil) (ln1 ln0))) (ss_one (s_ret (e_bt call_tuple_of b_tuple rfl h30 PyProof.Rows.boot_tuple (a_cons (e_lc (own := [("kind", 4)]) rfl sc_bill_ahead.nd (i_e rfl (e_ix rfl (e_v (i := 0)) e_int (fun _ _ => rfl))) (blkOk_by (N := sl_bill_ahead) (sc := defScope st_bill_ahead) (by decide +kernel)) (by decide) (fun _ _ _ _ _ => (g_name (i := 4) sc_bill_ahead.nd rfl)) (fun _ _ _ _ _ => ts_nil) (fun _ _ _ _ _ => (e_callG (gf_number_ahead c) (hr.mono (by decide)) rfl h33 pass_no (a_cons (e_v (i := 1)) (a_cons (e_v (i := 3)) (a_cons (e_callG (gf_part_numbers c) (hr.mono (by decide)) rfl h32 pass_no (a_cons (e_v (i := 1)) (a_cons (e_v (i := 4)) a_nil)) (ln1 (ln1 ln0))) (a_cons (e_v (i := 2)) a_nil)))) (ln1 (ln1 (ln1 (ln1 ln0))))))) a_nil))))))
theorem gf_item_place (c : Wx P w K mg base) : GF P w (Zk K) mg base 3 ("item_place", none) 3 ev_item_place := by
  obtain ⟨fd, D⟩ := c.says.def_ 19 (d := d_item_place) rfl
  have h15 := He.glo_ok c.kin c.ns (c.says.fact 15)
  have h26 := He.glo_ok c.kin c.ns (c.says.fact 26)
  have h32 := He.glo_ok c.kin c.ns (c.says.fact 32)
  refine GF.mk fd ["script", "item", "number"] (D.ok (k := 2) sc_item_place rF_len fun cdv A outer s H vs Q E hr h => ⟨_, ?_, rF_start h⟩) (D.bindsN fun _ _ _ _ _ _ us hl => match us, hl with | [_, _, _], _ => rfl) D.kp
  exact (ss_cons (s_par (i := 3) (j := 4) rfl sc_item_place.nd rfl rfl (by decide) rfl rfl (a_cons (e_callG (gf_part_lengths c) (hr.mono (by decide)) rfl h15 (passes_call (takes_of rfl rfl rfl rfl) fun _ _ _ _ h => h) (a_cons (e_v (i := 0)) a_nil) (ln1 ln0)) (a_cons (e_callG (gf_part_numbers c) (hr.mono (by decide)) rfl h32 (passes_call (takes_of rfl rfl rfl rfl) fun _ _ _ _ h => h) (a_cons (e_v (i := 0)) (a_cons (e_v (i := 1)) a_nil)) (ln1 (ln1 ln0))) a_nil)) rfl) (ss_cons (s_if (t_cmp op_ge c_ge (e_v (i := 2)) (e_ix rfl (e_v (i := 4)) (e_ix rfl (e_v (i := 0)) e_int (fun _ _ => rfl)) (fun _ _ => rfl)) (nomark _)) (ss_one (s_raise (c := 103) (gx_BadStep c) rfl (hr.mono (by decide)) rfl (takes_of rfl rfl rfl rfl) h26 pass_no (a_cons e_str a_nil) (ln1 ln0))) ss_nil) (ss_cons (s_par (i := 5) (j := 6) rfl sc_item_place.nd rfl rfl (by decide) rfl rfl (a_cons (e_ix rfl (e_v (i := 0)) e_int (fun _ _ => rfl)) (a_cons e_int a_nil)) rfl) (ss_cons (s_whl (passes_of rfl) (t_cmp op_ne c_ne (e_ix rfl (e_ix rfl (e_ix rfl (e_v (i := 0)) e_int (fun _ _ => rfl)) (e_v (i := 5)) (fun _ _ => rfl)) e_int (fun _ _ => rfl)) e_str (nomark _)) (ss_cons (s_set (i := 7) sc_item_place.nd rfl (e_ix rfl (e_ix rfl (e_v (i := 0)) e_int (fun _ _ => rfl)) (e_v (i := 5)) (fun _ _ => rfl))) (ss_cons (s_set (i := 5) sc_item_place.nd rfl (e_ix rfl (e_v (i := 7)) e_int (fun _ _ => rfl))) (ss_one (s_if (t_cmp op_eq c_eq (e_ix rfl (e_v (i := 7)) e_int (fun _ _ => rfl)) e_str (nomark _)) (ss_cons (s_aug_add (i := 6) sc_item_place.nd rfl (e_mul rfl (e_fdiv (e_v (i := 2)) (e_ix rfl (e_v (i := 4)) (e_v (i := 5)) (fun _ _ => rfl))) (e_ix rfl (e_v (i := 3)) (e_v (i := 5)) (fun _ _ => rfl)))) (ss_one (s_set (i := 2) sc_item_place.nd rfl (e_mod (e_v (i := 2)) (e_ix rfl (e_v (i := 4)) (e_v (i := 5)) (fun _ _ => rfl)))))) (ss_one (s_if (t_cmp op_ge c_ge (e_v (i := 2)) (e_ix rfl (e_v (i := 4)) (e_v (i := 5)) (fun _ _ => rfl)) (nomark _)) (ss_cons (s_aug_sub (i := 2) sc_item_place.nd rfl (e_ix rfl (e_v (i := 4)) (e_v (i := 5)) (fun _ _ => rfl))) (ss_cons (s_aug_add (i := 6) sc_item_place.nd rfl (e_ix rfl (e_v (i := 3)) (e_v (i := 5)) (fun _ _ => rfl))) (ss_one (s_set (i := 5) sc_item_place.nd rfl (e_ix rfl (e_v (i := 7)) e_int (fun _ _ => rfl)))))) ss_nil))))))) (ss_one (s_ret (e_v (i := 6))))))))
theorem gf_turned_script (c : Wx P w K mg base) : GF P w (Zk K) mg base 1 ("turned_script", none) 1 ev_turned_script := by
  obtain ⟨fd, D⟩ := c.says.def_ 20 (d := d_turned_script) rfl
  have h30 := He.free_ok c.kin c.ns (c.says.fact 30)
  refine GF.mk fd ["script"] (D.ok (k := 0) sc_turned_script rF_len fun cdv A outer s H vs Q E hr h => ⟨_, ?_, rF_start h⟩) (D.bindsN fun _ _ _ _ _ _ us hl => match us, hl with | [_], _ => rfl) D.kp
  exact (ss_cons (s_lc (i := 1) (own := [("part", 2)]) rfl sc_turned_script.nd rfl rfl (sw_true rfl rfl rfl (by decide +kernel)) (i_e rfl (e_ix rfl (e_v (i := 0)) e_int (fun _ _ => rfl))) (blkOk_by (N := sl_turned_script) (sc := defScope st_turned_script) (by decide +kernel)) (by decide) (fun _ _ _ _ _ => (g_name (i := 2) sc_turned_script.nd rfl)) (fun _ _ _ _ _ => ts_nil) (fun _ _ _ _ _ => (e_if (t_cmp op_eq c_eq (e_ix rfl (e_v (i := 2)) e_int (fun _ _ => rfl)) e_str (nomark _)) (e_tup (a_cons e_str (a_cons (e_ix rfl (e_v (i := 2)) e_int (fun _ _ => rfl)) (a_cons (e_ix rfl (e_v (i := 2)) e_int (fun _ _ => rfl)) a_nil)))) (e_v (i := 2))))) (ss_one (s_ret (e_tup (a_cons (e_bt call_tuple_of b_tuple rfl h30 PyProof.Rows.boot_tuple (a_cons (e_v (i := 1)) a_nil)) (a_cons (e_ix rfl (e_v (i := 0)) e_int (fun _ _ => rfl)) a_nil))))))
theorem gf_text_lines (c : Wx P w K mg base) : GF P w (Zk K) mg base 1 ("text_lines", none) 1 ev_text_lines := by
  obtain ⟨fd, D⟩ := c.says.def_ 21 (d := d_text_lines) rfl
  refine GF.mk fd ["text"] (D.ok (k := 0) sc_text_lines rF_len fun cdv A outer s H vs Q E hr h => ⟨_, ?_, rF_start h⟩) (D.bindsN fun _ _ _ _ _ _ us hl => match us, hl with | [_], _ => rfl) D.kp
  exact (ss_cons (s_set (i := 1) sc_text_lines.nd rfl (e_bmS rfl PySem.F.slot_str_split PySem.F.type_str_split mt_split b_split (e_v (i := 0)) (a_cons e_str a_nil))) (ss_cons (s_if (t_cmp op_eq c_eq (e_ix rfl (e_v (i := 1)) (e_neg e_int) (fun _ _ => rfl)) e_str (nomark _)) (ss_one (s_ex (e_bmL0 rfl PySem.F.slot_list_pop PySem.F.type_list_pop mt_popW b_pop (e_v (i := 1))))) ss_nil) (ss_one (s_ret (e_v (i := 1))))))
theorem gf_words_of (c : Wx P w K mg base) : GF P w (Zk K) mg base 1 ("words_of", none) 1 ev_words_of := by
  obtain ⟨fd, D⟩ := c.says.def_ 22 (d := d_words_of) rfl
  refine GF.mk fd ["line"] (D.ok (k := 0) sc_words_of rF_len fun cdv A outer s H vs Q E hr h => ⟨_, ?_, rF_start h⟩) (D.bindsN fun _ _ _ _ _ _ us hl => match us, hl with | [_], _ => rfl) D.kp
  exact (ss_one (s_ret (e_lc (own := [("word", 1)]) rfl sc_words_of.nd (i_e rfl (e_bmS rfl PySem.F.slot_str_split PySem.F.type_str_split mt_split b_split (e_v (i := 0)) (a_cons e_str a_nil))) (blkOk_by (N := sl_words_of) (sc := defScope st_words_of) (by decide +kernel)) (by decide) (fun _ _ _ _ _ => (g_name (i := 1) sc_words_of.nd rfl)) (fun _ _ _ _ _ => (ts_one (t_cmp op_ne c_ne (e_v (i := 1)) e_str (nomark _)))) (fun _ _ _ _ _ => (e_v (i := 1))))))
theorem gf_passed_over (c : Wx P w K mg base) : GF P w (Zk K) mg base 2 ("passed_over", none) 1 ev_passed_over := by
  obtain ⟨fd, D⟩ := c.says.def_ 23 (d := d_passed_over) rfl
  have h34 := He.glo_ok c.kin c.ns (c.says.fact 34)
  refine GF.mk fd ["line"] (D.ok (k := 1) sc_passed_over rF_len fun cdv A outer s H vs Q E hr h => ⟨_, ?_, rF_start h⟩) (D.bindsN fun _ _ _ _ _ _ us hl => match us, hl with | [_], _ => rfl) D.kp
  exact (ss_cons (s_set (i := 1) sc_passed_over.nd rfl (e_callG (gf_words_of c) (hr.mono (by decide)) rfl h34 (passes_call (takes_of rfl rfl rfl rfl) fun _ _ _ _ h => h) (a_cons (e_v (i := 0)) a_nil) (ln1 ln0))) (ss_one (s_ret (e_or rfl (e_not rfl (e_v (i := 1))) (e_one (e_cmp op_eq c_eq (e_ix rfl (e_ix rfl (e_v (i := 1)) e_int (fun _ _ => rfl)) e_int (fun _ _ => rfl)) e_str (nomark _)))))))
theorem gf_beyond_limit (c : Wx P w K mg base) : GF P w (Zk K) mg base 1 ("beyond_limit", none) 2 ev_beyond_limit := by
  obtain ⟨fd, D⟩ := c.says.def_ 24 (d := d_beyond_limit) rfl
  have h35 := He.free_ok c.kin c.ns (c.says.fact 35)
  obtain ⟨th36, h36⟩ := He.int_ok c.kin c.ns (c.says.fact 36)
  obtain ⟨th37, h37⟩ := He.int_ok c.kin c.ns (c.says.fact 37)
  refine GF.mk fd ["line", "number"] (D.ok (k := 0) sc_beyond_limit rF_len fun cdv A outer s H vs Q E hr h => ⟨_, ?_, rF_start h⟩) (D.bindsN fun _ _ _ _ _ _ us hl => match us, hl with | [_, _], _ => rfl) D.kp
  exact (ss_one (s_ret (e_or rfl (e_cmp op_gt c_gt (e_bf cr_len b_len rfl h35 boot_len (a_cons (e_v (i := 0)) a_nil)) (e_gint rfl h36) (nomark _)) (e_one (e_cmp op_gt c_gt (e_v (i := 1)) (e_gint rfl h37) (nomark _))))))
theorem gf_counted_lines (c : Wx P w K mg base) : True := trivial
theorem gd_counted_lines (c : Wx P w K mg base) : GZ.GDef P w (Zk K) mg base 3 (He.ga K "counted_lines") cl_L cl_1 cl_2 cl_3 := by
  obtain ⟨fd, D⟩ := c.says.def_ 25 (d := d_counted_lines) rfl
  have h34 := He.glo_ok c.kin c.ns (c.says.fact 34)
  have h38 := He.glo_ok c.kin c.ns (c.says.fact 38)
  have h39 := He.glo_ok c.kin c.ns (c.says.fact 39)
  have h40 := He.glo_ok c.kin c.ns (c.says.fact 40)
  have h41 := He.free_ok c.kin c.ns (c.says.fact 41)
  refine ⟨⟨_, _, _, _, fd, _, _, _, _, _, _, _, _, _, _, _, _, _, ["text", "at", "line"], "text", D, sc_counted_lines, rfl, fun _ => rfl, D.bindsN fun _ _ _ _ _ _ us hl => match us, hl with | [_], _ => rfl, fun _ _ => rfl, fun _ _ _ => rfl, fun cdv A outer s H hr0 => ?_⟩, D.kp⟩
  have hr := hr0.deeper (envOfC "counted_lines" (defScope st_counted_lines) s.heap.objs.size (He.ga K "counted_lines") cdv)
  exact ⟨rfl, fun s1 H1 => pi_enum rfl h41 (a_cons (e_callG (gf_text_lines c) (hr.mono (by decide)) rfl h38 pass_no (a_cons (e_v (i := 0)) a_nil) (ln1 ln0)) a_nil), fun s1 H1 => (g_tup rfl rfl (gs_cons (g_name (i := 1) sc_counted_lines.nd rfl) (gs_cons (g_name (i := 2) sc_counted_lines.nd rfl) gs_nil))), fun s1 H1 => (t_val rfl (e_callG (gf_beyond_limit c) (hr.mono (by decide)) rfl h39 pass_no (a_cons (e_v (i := 2)) (a_cons (e_add rfl (e_v (i := 1)) e_int) a_nil)) (ln1 (ln1 ln0)))), fun s1 H1 => (t_not (t_val rfl (e_callG (gf_passed_over c) (hr.mono (by decide)) rfl h40 pass_no (a_cons (e_v (i := 2)) a_nil) (ln1 ln0)))), fun s1 H1 => (e_tup (a_cons (e_add rfl (e_v (i := 1)) e_int) (a_cons (e_callG (gf_words_of c) (hr.mono (by decide)) rfl h34 pass_no (a_cons (e_v (i := 2)) a_nil) (ln1 ln0)) a_nil)))⟩
theorem gf_written_big (c : Wx P w K mg base) : GF P w (Zk K) mg base 1 ("written_big", none) 2 ev_written_big := by
  obtain ⟨fd, D⟩ := c.says.def_ 26 (d := d_written_big) rfl
  have h35 := He.free_ok c.kin c.ns (c.says.fact 35)
  obtain ⟨th42, h42⟩ := He.str_ok c.kin c.ns (c.says.fact 42)
  have h43 := He.free_ok c.kin c.ns (c.says.fact 43)
  refine GF.mk fd ["word", "figures_most"] (D.ok (k := 0) sc_written_big rF_len fun cdv A outer s H vs Q E hr h => ⟨_, ?_, rF_start h⟩) (D.bindsN fun _ _ _ _ _ _ us hl => match us, hl with | [_, _], _ => rfl) D.kp
  exact (ss_cons (s_set (i := 2) sc_written_big.nd rfl (e_if (t_cmp op_eq c_eq (e_sl rfl (e_v (i := 0)) o_no (o_some e_int)) e_str (nomark _)) (e_sl rfl (e_v (i := 0)) (o_some e_int) o_no) (e_v (i := 0)))) (ss_cons (s_if (PW.pt (w_or (t_cmp op_gt c_gt (e_bf cr_len b_len rfl h35 boot_len (a_cons (e_v (i := 0)) a_nil)) (e_v (i := 1)) (nomark _)) (w_or (t_cmp op_eq c_eq (e_v (i := 2)) e_str (nomark _)) (w_or1 (t_val rfl (e_lc (own := [("sign", 3)]) rfl sc_written_big.nd (i_e rfl (e_v (i := 2))) (blkOk_by (N := sl_written_big) (sc := defScope st_written_big) (by decide +kernel)) (by decide) (fun _ _ _ _ _ => (g_name (i := 3) sc_written_big.nd rfl)) (fun _ _ _ _ _ => (ts_one (t_cmp o_notIn c_notIn (e_v (i := 3)) (e_gstr rfl h42) (by with_unfolding_all rfl)))) (fun _ _ _ _ _ => (e_v (i := 3))))))))) (ss_one (s_ret e_non)) ss_nil) (ss_cons (s_if (PW.pt (w_and (t_cmp op_eq c_eq (e_ix rfl (e_v (i := 2)) e_int (fun _ _ => rfl)) e_str (nomark _)) (w_and1 (t_cmp op_ne c_ne (e_v (i := 0)) e_str (nomark _))))) (ss_one (s_ret e_non)) ss_nil) (ss_one (s_ret (e_bt cr_int b_int rfl h43 PyProof.Rows.boot_int (a_cons (e_v (i := 0)) a_nil)))))))
theorem gf_written_integer (c : Wx P w K mg base) : GF P w (Zk K) mg base 2 ("written_integer", none) 1 ev_written_integer := by
  obtain ⟨fd, D⟩ := c.says.def_ 27 (d := d_written_integer) rfl
  obtain ⟨th44, h44⟩ := He.int_ok c.kin c.ns (c.says.fact 44)
  have h45 := He.glo_ok c.kin c.ns (c.says.fact 45)
  refine GF.mk fd ["word"] (D.ok (k := 1) sc_written_integer rF_len fun cdv A outer s H vs Q E hr h => ⟨_, ?_, rF_start h⟩) (D.bindsN fun _ _ _ _ _ _ us hl => match us, hl with | [_], _ => rfl) D.kp
  exact (ss_one (s_ret (e_callG (gf_written_big c) (hr.mono (by decide)) rfl h45 (passes_call (takes_of rfl rfl rfl rfl) fun _ _ _ _ h => h) (a_cons (e_v (i := 0)) (a_cons (e_gint rfl h44) a_nil)) (ln1 (ln1 ln0)))))
theorem gf_written_within (c : Wx P w K mg base) : GF P w (Zk K) mg base 3 ("written_within", none) 3 ev_written_within := by
  obtain ⟨fd, D⟩ := c.says.def_ 28 (d := d_written_within) rfl
  have h46 := He.glo_ok c.kin c.ns (c.says.fact 46)
  refine GF.mk fd ["word", "low", "high"] (D.ok (k := 2) sc_written_within rF_len fun cdv A outer s H vs Q E hr h => ⟨_, ?_, rF_start h⟩) (D.bindsN fun _ _ _ _ _ _ us hl => match us, hl with | [_, _, _], _ => rfl) D.kp
  exact (ss_cons (s_set (i := 3) sc_written_within.nd rfl (e_callG (gf_written_integer c) (hr.mono (by decide)) rfl h46 (passes_call (takes_of rfl rfl rfl rfl) fun _ _ _ _ h => h) (a_cons (e_v (i := 0)) a_nil) (ln1 ln0))) (ss_one (s_ret (e_if (PW.pt (w_and (t_cmp op_notN c_notN (e_v (i := 3)) e_non (nomark _)) (w_and1 (t_ch2 op_le op_le c_le c_le (e_v (i := 1)) (e_v (i := 3)) (e_v (i := 2)))))) (e_v (i := 3)) e_non))))
theorem gf_node_of_word (c : Wx P w K mg base) : GF P w (Zk K) mg base 1 ("node_of_word", none) 1 ev_node_of_word := by
  obtain ⟨fd, D⟩ := c.says.def_ 29 (d := d_node_of_word) rfl
  obtain ⟨th47, h47⟩ := He.str_ok c.kin c.ns (c.says.fact 47)
  obtain ⟨th48, h48⟩ := He.str_ok c.kin c.ns (c.says.fact 48)
  refine GF.mk fd ["word"] (D.ok (k := 0) sc_node_of_word rF_len fun cdv A outer s H vs Q E hr h => ⟨_, ?_, rF_start h⟩) (D.bindsN fun _ _ _ _ _ _ us hl => match us, hl with | [_], _ => rfl) D.kp
  exact (ss_one (s_ret (e_if (t_cmp op_eq c_eq (e_v (i := 0)) (e_gstr rfl h47) (nomark _)) (e_gstr rfl h48) (e_v (i := 0)))))
theorem gf_Reader___init__ (c : Wx P w K mg base) : GF P w (Zk K) mg base 1 ("Reader", some "__init__") 2 ev_Reader___init__ := by
  obtain ⟨fd, D⟩ := c.says.def_ 30 (d := d_Reader___init__) rfl
  refine GF.mk fd ["self", "book"] (D.ok (k := 0) sc_Reader___init__ rF_len fun cdv A outer s H vs Q E hr h => ⟨_, ?_, rF_start h⟩) (D.bindsN fun _ _ _ _ _ _ us hl => match us, hl with | [_, _], _ => rfl) D.kp
  exact (ss_cons (s_fld rfl (fd_book c) (e_v (i := 0)) (e_v (i := 1))) (ss_cons (s_fld rfl (fd_parts c) (e_v (i := 0)) (e_lst a_nil)) (ss_cons (s_fld rfl (fd_lengths c) (e_v (i := 0)) (e_lst a_nil)) (ss_one (s_fld rfl (fd_result c) (e_v (i := 0)) e_non)))))
theorem gf_Reader_part_of (c : Wx P w K mg base) : GF P w (Zk K) mg base 4 ("Reader", some "part_of") 2 ev_Reader_part_of := by
  obtain ⟨fd, D⟩ := c.says.def_ 31 (d := d_Reader_part_of) rfl
  have h49 := He.glo_ok c.kin c.ns (c.says.fact 49)
  obtain ⟨th50, h50⟩ := He.int_ok c.kin c.ns (c.says.fact 50)
  have h51 := He.glo_ok c.kin c.ns (c.says.fact 51)
  obtain ⟨th52, h52⟩ := He.int_ok c.kin c.ns (c.says.fact 52)
  refine GF.mk fd ["self", "words"] (D.ok (k := 3) sc_Reader_part_of rF_len fun cdv A outer s H vs Q E hr h => ⟨_, ?_, rF_start h⟩) (D.bindsN fun _ _ _ _ _ _ us hl => match us, hl with | [_, _], _ => rfl) D.kp
  exact (ss_cons (s_if (t_cmp op_eq c_eq (e_ix rfl (e_v (i := 1)) e_int (fun _ _ => rfl)) e_str (nomark _)) (ss_one (s_ret (e_tup (a_cons e_str (a_cons (e_callG (gf_node_of_word c) (hr.mono (by decide)) rfl h49 (passes_call (takes_of rfl rfl rfl rfl) fun _ _ _ _ h => h) (a_cons (e_ix rfl (e_v (i := 1)) e_int (fun _ _ => rfl)) a_nil) (ln1 ln0)) a_nil))))) ss_nil) (ss_cons (s_set (i := 2) sc_Reader_part_of.nd rfl (e_callG (gf_written_within c) (hr.mono (by decide)) rfl h51 (passes_call (takes_of rfl rfl rfl rfl) fun _ _ _ _ h => h) (a_cons (e_ix rfl (e_v (i := 1)) e_int (fun _ _ => rfl)) (a_cons e_int (a_cons (e_sub (e_gint rfl h50) e_int) a_nil))) (ln1 (ln1 (ln1 ln0))))) (ss_cons (s_if (t_cmp op_eq c_eq (e_ix rfl (e_v (i := 1)) e_int (fun _ _ => rfl)) e_str (nomark _)) (ss_one (s_set (i := 3) sc_Reader_part_of.nd rfl (e_callG (gf_written_within c) (hr.mono (by decide)) rfl h51 (passes_call (takes_of rfl rfl rfl rfl) fun _ _ _ _ h => h) (a_cons (e_ix rfl (e_v (i := 1)) e_int (fun _ _ => rfl)) (a_cons e_int (a_cons (e_gint rfl h52) a_nil))) (ln1 (ln1 (ln1 ln0)))))) (ss_one (s_set (i := 3) sc_Reader_part_of.nd rfl (e_if (t_cmp op_eq c_eq (e_ix rfl (e_v (i := 1)) e_int (fun _ _ => rfl)) e_str (nomark _)) (e_callG (gf_written_within c) (hr.mono (by decide)) rfl h51 (passes_call (takes_of rfl rfl rfl rfl) fun _ _ _ _ h => h) (a_cons (e_ix rfl (e_v (i := 1)) e_int (fun _ _ => rfl)) (a_cons e_int (a_cons (e_sub (e_gint rfl h50) e_int) a_nil))) (ln1 (ln1 (ln1 ln0)))) e_int)))) (ss_one (s_ret (e_if (PW.pt (w_or (t_cmp op_isN c_isN (e_v (i := 2)) e_non (nomark _)) (w_or1 (t_cmp op_isN c_isN (e_v (i := 3)) e_non (nomark _))))) e_non (e_tup (a_cons (e_ix rfl (e_v (i := 1)) e_int (fun _ _ => rfl)) (a_cons (e_v (i := 2)) (a_cons (e_v (i := 3)) a_nil))))))))))
theorem gf_Reader_take_part (c : Wx P w K mg base) : GF P w (Zk K) mg base 2 ("Reader", some "take_part") 2 ev_Reader_take_part := by
  obtain ⟨fd, D⟩ := c.says.def_ 32 (d := d_Reader_take_part) rfl
  have h14 := He.glo_ok c.kin c.ns (c.says.fact 14)
  have h35 := He.free_ok c.kin c.ns (c.says.fact 35)
  obtain ⟨th50, h50⟩ := He.int_ok c.kin c.ns (c.says.fact 50)
  have h53 := He.glo_ok c.kin c.ns (c.says.fact 53)
  obtain ⟨th54, h54⟩ := He.int_ok c.kin c.ns (c.says.fact 54)
  refine GF.mk fd ["self", "part"] (D.ok (k := 1) sc_Reader_take_part rF_len fun cdv A outer s H vs Q E hr h => ⟨_, ?_, rF_start h⟩) (D.bindsN fun _ _ _ _ _ _ us hl => match us, hl with | [_, _], _ => rfl) D.kp
  exact (ss_cons (s_if (t_val rfl (e_lc (own := [("number", 2)]) rfl sc_Reader_take_part.nd (i_e rfl (e_callG (gf_operands c) (hr.mono (by decide)) rfl h53 (passes_call (takes_of rfl rfl rfl rfl) fun _ _ _ _ h => h) (a_cons (e_v (i := 1)) a_nil) (ln1 ln0))) (blkOk_by (N := sl_Reader_take_part) (sc := defScope st_Reader_take_part) (by decide +kernel)) (by decide) (fun _ _ _ _ _ => (g_name (i := 2) sc_Reader_take_part.nd rfl)) (fun _ _ _ _ _ => (ts_one (t_cmp op_ge c_ge (e_v (i := 2)) (e_bf cr_len b_len rfl h35 boot_len (a_cons (e_fld rfl (fd_parts c) (e_v (i := 0))) a_nil)) (nomark _)))) (fun _ _ _ _ _ => (e_v (i := 2))))) (ss_one (s_ret e_str)) ss_nil) (ss_cons (s_if (t_cmp op_eq c_eq (e_bf cr_len b_len rfl h35 boot_len (a_cons (e_fld rfl (fd_parts c) (e_v (i := 0))) a_nil)) (e_gint rfl h50) (nomark _)) (ss_one (s_ret e_str)) ss_nil) (ss_cons (s_set (i := 3) sc_Reader_take_part.nd rfl (e_callG (gf_part_length c) (hr.mono (by decide)) rfl h14 (passes_call (takes_of rfl rfl rfl rfl) fun _ _ _ _ h => h) (a_cons (e_fld rfl (fd_lengths c) (e_v (i := 0))) (a_cons (e_v (i := 1)) a_nil)) (ln1 (ln1 ln0)))) (ss_cons (s_if (t_cmp op_gt c_gt (e_v (i := 3)) (e_gint rfl h54) (nomark _)) (ss_one (s_ret e_str)) ss_nil) (ss_cons (s_ex (e_bmL rfl PySem.F.slot_list_append PySem.F.type_list_append mt_append b_append (e_fld rfl (fd_parts c) (e_v (i := 0))) (a_cons (e_v (i := 1)) a_nil))) (ss_cons (s_ex (e_bmL rfl PySem.F.slot_list_append PySem.F.type_list_append mt_append b_append (e_fld rfl (fd_lengths c) (e_v (i := 0))) (a_cons (e_v (i := 3)) a_nil))) (ss_one (s_ret e_non))))))))
theorem gf_Reader_take_result (c : Wx P w K mg base) : GF P w (Zk K) mg base 4 ("Reader", some "take_result") 2 ev_Reader_take_result := by
  obtain ⟨fd, D⟩ := c.says.def_ 33 (d := d_Reader_take_result) rfl
  have h35 := He.free_ok c.kin c.ns (c.says.fact 35)
  obtain ⟨th50, h50⟩ := He.int_ok c.kin c.ns (c.says.fact 50)
  have h51 := He.glo_ok c.kin c.ns (c.says.fact 51)
  refine GF.mk fd ["self", "word"] (D.ok (k := 3) sc_Reader_take_result rF_len fun cdv A outer s H vs Q E hr h => ⟨_, ?_, rF_start h⟩) (D.bindsN fun _ _ _ _ _ _ us hl => match us, hl with | [_, _], _ => rfl) D.kp
  exact (ss_cons (s_set (i := 2) sc_Reader_take_result.nd rfl (e_callG (gf_written_within c) (hr.mono (by decide)) rfl h51 (passes_call (takes_of rfl rfl rfl rfl) fun _ _ _ _ h => h) (a_cons (e_v (i := 1)) (a_cons e_int (a_cons (e_sub (e_gint rfl h50) e_int) a_nil))) (ln1 (ln1 (ln1 ln0))))) (ss_cons (s_if (t_cmp op_isN c_isN (e_v (i := 2)) e_non (nomark _)) (ss_one (s_ret e_str)) ss_nil) (ss_cons (s_if (t_cmp op_ge c_ge (e_v (i := 2)) (e_bf cr_len b_len rfl h35 boot_len (a_cons (e_fld rfl (fd_parts c) (e_v (i := 0))) a_nil)) (nomark _)) (ss_one (s_ret e_str)) ss_nil) (ss_cons (s_fld rfl (fd_result c) (e_v (i := 0)) (e_v (i := 2))) (ss_one (s_ret e_non))))))
theorem gf_Reader_take (c : Wx P w K mg base) : GF P w (Zk K) mg base 5 ("Reader", some "take") 2 ev_Reader_take := by
  obtain ⟨fd, D⟩ := c.says.def_ 34 (d := d_Reader_take) rfl
  have h35 := He.free_ok c.kin c.ns (c.says.fact 35)
  obtain ⟨th47, h47⟩ := He.str_ok c.kin c.ns (c.says.fact 47)
  have h55 := He.glo_ok c.kin c.ns (c.says.fact 55)
  have h56 := He.meth_ok (c.says.fact 56)
  have h57 := He.meth_ok (c.says.fact 57)
  have h58 := He.meth_ok (c.says.fact 58)
  have h9 := He.cls_ok (c.says.fact 9)
  refine GF.mk fd ["self", "words"] (D.ok (k := 4) sc_Reader_take rF_len fun cdv A outer s H vs Q E hr h => ⟨_, ?_, rF_start h⟩) (D.bindsN fun _ _ _ _ _ _ us hl => match us, hl with | [_, _], _ => rfl) D.kp
  exact (ss_cons (s_if (PW.pt (w_or (t_cmp op_notN c_notN (e_fld rfl (fd_result c) (e_v (i := 0))) e_non (nomark _)) (w_or1 (t_cmp op_ne c_ne (e_gg (c.tab ("WORD_COUNTS", gd_WORD_COUNTS) (by simp [tabL])) rfl h55 (e_ix rfl (e_v (i := 1)) e_int (fun _ _ => rfl)) ⟨rfl, rfl, rfl, rfl⟩) (e_bf cr_len b_len rfl h35 boot_len (a_cons (e_v (i := 1)) a_nil)) (nomark _))))) (ss_one (s_ret e_str)) ss_nil) (ss_cons (s_if (t_cmp op_eq c_eq (e_ix rfl (e_v (i := 1)) e_int (fun _ _ => rfl)) e_str (nomark _)) (ss_one (s_ret (e_methG (c := 2) (mi := 15) (gf_Reader_take_result c) h9 h56 rfl (e_v (i := 0)) (hr.mono (by decide)) (passes_call (takes_of rfl rfl rfl rfl) fun _ _ _ _ h => h) (a_cons (e_ix rfl (e_v (i := 1)) e_int (fun _ _ => rfl)) a_nil) (ln1 ln0)))) ss_nil) (ss_cons (s_if (PW.pt (w_and (t_cmp op_eq c_eq (e_ix rfl (e_v (i := 1)) e_int (fun _ _ => rfl)) e_str (nomark _)) (w_and (t_cmp op_ne c_ne (e_ix rfl (e_v (i := 1)) e_int (fun _ _ => rfl)) (e_gstr rfl h47) (nomark _)) (w_and1 (t_cmp o_notIn c_notIn (e_ix rfl (e_v (i := 1)) e_int (fun _ _ => rfl)) (e_ix rfl (e_fld rfl (fd_book c) (e_v (i := 0))) e_int (fun _ _ => rfl)) (by with_unfolding_all rfl)))))) (ss_one (s_ret e_str)) ss_nil) (ss_cons (s_set (i := 2) sc_Reader_take.nd rfl (e_methG (c := 2) (mi := 13) (gf_Reader_part_of c) h9 h57 rfl (e_v (i := 0)) (hr.mono (by decide)) (passes_call (takes_of rfl rfl rfl rfl) fun _ _ _ _ h => h) (a_cons (e_v (i := 1)) a_nil) (ln1 ln0))) (ss_one (s_ret (e_if (t_cmp op_isN c_isN (e_v (i := 2)) e_non (nomark _)) e_str (e_methG (c := 2) (mi := 14) (gf_Reader_take_part c) h9 h58 rfl (e_v (i := 0)) (hr.mono (by decide)) (passes_call (takes_of rfl rfl rfl rfl) fun _ _ _ _ h => h) (a_cons (e_v (i := 2)) a_nil) (ln1 ln0)))))))))
theorem gf_read_script (c : Wx P w K mg base) : GF P w (Zk K) mg base 7 ("read_script", none) 2 ev_read_script := by
  obtain ⟨fd, D⟩ := c.says.def_ 35 (d := d_read_script) rfl
  have h30 := He.free_ok c.kin c.ns (c.says.fact 30)
  have h35 := He.free_ok c.kin c.ns (c.says.fact 35)
  have h38 := He.glo_ok c.kin c.ns (c.says.fact 38)
  have h59 := He.glo_ok c.kin c.ns (c.says.fact 59)
  have h60 := He.mkr_ok (c.says.fact 60)
  have h61 := He.meth_ok (c.says.fact 61)
  have h62 := He.glo_ok c.kin c.ns (c.says.fact 62)
  have h63 := He.glo_ok c.kin c.ns (c.says.fact 63)
  have h9 := He.cls_ok (c.says.fact 9)
  refine GF.mk fd ["book", "text"] (D.ok (k := 6) sc_read_script rF_len fun cdv A outer s H vs Q E hr h => ⟨_, ?_, rF_start h⟩) (D.bindsN fun _ _ _ _ _ _ us hl => match us, hl with | [_, _], _ => rfl) D.kp
  exact (ss_cons (s_set (i := 2) sc_read_script.nd rfl (e_newG (c := 2) (gf_Reader___init__ c) h60 (hr.mono (by decide)) rfl h59 (passes_call (takes_of rfl rfl rfl rfl) fun _ _ _ _ h => h) (a_cons (e_v (i := 0)) a_nil) (ln1 ln0))) (ss_cons (s_forC (k := 3) rfl (gd_counted_lines c) (passes_of rfl) (GZ.xetw_of rfl) rfl (hr.mono (by decide)) h63 (e_v (i := 1)) (g_tup rfl rfl (gs_cons (g_name (i := 3) sc_read_script.nd rfl) (gs_cons (g_name (i := 4) sc_read_script.nd rfl) gs_nil))) (ss_cons (s_set (i := 5) sc_read_script.nd rfl (e_methG (c := 2) (mi := 16) (gf_Reader_take c) h9 h61 rfl (e_v (i := 2)) (hr.mono (by decide)) (passes_call (takes_of rfl rfl rfl rfl) fun _ _ _ _ h => h) (a_cons (e_v (i := 4)) a_nil) (ln1 ln0))) (ss_one (s_if (t_cmp op_notN c_notN (e_v (i := 5)) e_non (nomark _)) (ss_one (s_raise (c := 104) (gx_BadText c) rfl (hr.mono (by decide)) rfl (takes_of rfl rfl rfl rfl) h62 pass_no (a_cons (e_v (i := 3)) (a_cons (e_v (i := 5)) a_nil)) (ln1 (ln1 ln0)))) ss_nil)))) (ss_cons (s_if (t_cmp op_isN c_isN (e_fld rfl (fd_result c) (e_v (i := 2))) e_non (nomark _)) (ss_one (s_raise (c := 104) (gx_BadText c) rfl (hr.mono (by decide)) rfl (takes_of rfl rfl rfl rfl) h62 pass_no (by exact (a_cons (e_add rfl (e_bf cr_len b_len rfl h35 boot_len (a_cons (e_callG (gf_text_lines c) (hr.mono (by decide)) rfl h38 (passes_call (takes_of rfl rfl rfl rfl) fun _ _ _ _ h => h) (a_cons (e_v (i := 1)) a_nil) (ln1 ln0)) a_nil)) e_int) (a_cons e_str a_nil))) (ln1 (ln1 ln0)))) ss_nil) (ss_one (s_ret (e_tup (a_cons (e_bt call_tuple_of b_tuple rfl h30 PyProof.Rows.boot_tuple (a_cons (e_fld rfl (fd_parts c) (e_v (i := 2))) a_nil)) (a_cons (e_fld rfl (fd_result c) (e_v (i := 2))) a_nil))))))))
theorem gf__law_tub (c : Wx P w K mg base) : GF P w (Zk K) mg base 1 ("_law_tub", none) 1 ev__law_tub := by
  obtain ⟨fd, D⟩ := c.says.def_ 36 (d := d__law_tub) rfl
  have h35 := He.free_ok c.kin c.ns (c.says.fact 35)
  have h43 := He.free_ok c.kin c.ns (c.says.fact 43)
  have h64 := He.free_ok c.kin c.ns (c.says.fact 64)
  refine GF.mk fd ["script"] (D.ok (k := 0) sc__law_tub rF_len fun cdv A outer s H vs Q E hr h => ⟨_, ?_, rF_start h⟩) (D.bindsN fun _ _ _ _ _ _ us hl => match us, hl with | [_], _ => rfl) D.kp
  exact (ss_cons (s_set (i := 1) sc__law_tub.nd rfl e_int) (ss_cons (s_set (i := 2) sc__law_tub.nd rfl (e_add rfl e_int (e_bf cr_len b_len rfl h35 boot_len (a_cons (e_v (i := 0)) a_nil)))) (ss_cons (s_for (passes_of rfl) rfl (i_e rfl (e_sl rfl (e_v (i := 0)) o_no (o_some e_int))) (g_name (i := 3) sc__law_tub.nd rfl) (ss_cons (s_set (i := 4) sc__law_tub.nd rfl (e_add rfl (e_mul rfl e_int (e_bf call_abs b_abs rfl h64 boot_abs (a_cons (e_bt cr_int b_int rfl h43 PyProof.Rows.boot_int (a_cons (e_v (i := 3)) a_nil)) a_nil))) (e_bt cr_int b_int rfl h43 PyProof.Rows.boot_int (a_cons (e_cmp op_lt c_lt (e_v (i := 3)) e_int (nomark _)) a_nil)))) (ss_cons (s_if (t_cmp op_ge c_ge (e_v (i := 4)) (e_pow e_int e_int) (nomark _)) (ss_one (s_set (i := 1) sc__law_tub.nd rfl (e_add rfl (e_mul rfl (e_v (i := 1)) e_int) (e_mod (e_v (i := 4)) (e_shl e_int e_int))))) ss_nil) (ss_one (s_set (i := 2) sc__law_tub.nd rfl (e_mod (e_bt cr_int b_int rfl h43 PyProof.Rows.boot_int (a_cons (e_add rfl (e_add rfl (e_mul rfl (e_v (i := 2)) e_int) (e_mod (e_v (i := 4)) e_int)) e_int) a_nil)) e_int)))))) (ss_one (s_ret (e_lst (a_cons (e_v (i := 1)) (a_cons (e_v (i := 2)) (a_cons e_int a_nil)))))))))
theorem gf__law_dip (c : Wx P w K mg base) : GF P w (Zk K) mg base 1 ("_law_dip", none) 2 ev__law_dip := by
  obtain ⟨fd, D⟩ := c.says.def_ 37 (d := d__law_dip) rfl
  have h43 := He.free_ok c.kin c.ns (c.says.fact 43)
  refine GF.mk fd ["tub", "many"] (D.ok (k := 0) sc__law_dip rF_len fun cdv A outer s H vs Q E hr h => ⟨_, ?_, rF_start h⟩) (D.bindsN fun _ _ _ _ _ _ us hl => match us, hl with | [_, _], _ => rfl) D.kp
  exact (ss_cons (s_if (t_cmp op_gt c_gt (e_ix rfl (e_v (i := 0)) e_int (fun _ _ => rfl)) e_int (nomark _)) (ss_cons (s_set (i := 2) sc__law_dip.nd rfl (e_mod (e_bt cr_int b_int rfl h43 PyProof.Rows.boot_int (a_cons (e_ix rfl (e_v (i := 0)) e_int (fun _ _ => rfl)) a_nil)) (e_v (i := 1)))) (ss_cons (s_asg (e_fdiv (e_ix rfl (e_v (i := 0)) e_int (fun _ _ => rfl)) (e_v (i := 1))) (g_ix (e_v (i := 0)) e_int)) (ss_one (s_ret (e_v (i := 2)))))) ss_nil) (ss_cons (s_asg (e_add rfl (e_ix rfl (e_v (i := 0)) e_int (fun _ _ => rfl)) e_int) (g_ix (e_v (i := 0)) e_int)) (ss_cons (s_asg (e_mod (e_bt cr_int b_int rfl h43 PyProof.Rows.boot_int (a_cons (e_add rfl (e_add rfl (e_mul rfl (e_ix rfl (e_v (i := 0)) e_int (fun _ _ => rfl)) e_int) (e_mul rfl (e_ix rfl (e_v (i := 0)) e_int (fun _ _ => rfl)) e_int)) e_int) a_nil)) e_int) (g_ix (e_v (i := 0)) e_int)) (ss_one (s_ret (e_mod (e_bt cr_int b_int rfl h43 PyProof.Rows.boot_int (a_cons (e_fdiv (e_ix rfl (e_v (i := 0)) e_int (fun _ _ => rfl)) e_int) a_nil)) (e_v (i := 1))))))))
theorem gf__law_of (c : Wx P w K mg base) : GF P w (Zk K) mg base 2 ("_law_of", none) 2 ev__law_of := by
  obtain ⟨fd, D⟩ := c.says.def_ 38 (d := d__law_of) rfl
  have h35 := He.free_ok c.kin c.ns (c.says.fact 35)
  have h65 := He.glo_ok c.kin c.ns (c.says.fact 65)
  refine GF.mk fd ["tub", "things"] (D.ok (k := 1) sc__law_of rF_len fun cdv A outer s H vs Q E hr h => ⟨_, ?_, rF_start h⟩) (D.bindsN fun _ _ _ _ _ _ us hl => match us, hl with | [_, _], _ => rfl) D.kp
  exact (ss_one (s_ret (e_ix rfl (e_v (i := 1)) (e_callG (gf__law_dip c) (hr.mono (by decide)) rfl h65 (passes_call (takes_of rfl rfl rfl rfl) fun _ _ _ _ h => h) (a_cons (e_v (i := 0)) (a_cons (e_bf cr_len b_len rfl h35 boot_len (a_cons (e_v (i := 1)) a_nil)) a_nil)) (ln1 (ln1 ln0))) (fun _ _ => rfl))))
theorem of__law_of (c : Wx P w K mg base) : OfRun P w (Zk K) mg base 2 ("_law_of", none) ev__law_of := by
  obtain ⟨fd, D⟩ := c.says.def_ 38 (d := d__law_of) rfl
  have h35 := He.free_ok c.kin c.ns (c.says.fact 35)
  have h65 := He.glo_ok c.kin c.ns (c.says.fact 65)
  exact of_run (k := 1) D rfl sc__law_of (fun _ _ _ _ _ _ us hl => match us, hl with | [_, _], _ => rfl) (.inl rfl) (fun _ _ => rfl) (by decide) (by decide) fun cdv A outer s H E hr => (e_callG (gf__law_dip c) (hr.mono (by decide)) rfl h65 (passes_call (takes_of rfl rfl rfl rfl) fun _ _ _ _ h => h) (a_cons (e_v (i := 0)) (a_cons (e_bf cr_len b_len rfl h35 boot_len (a_cons (e_v (i := 1)) a_nil)) a_nil)) (ln1 (ln1 ln0)))
theorem gf__law_some (c : Wx P w K mg base) : GF P w (Zk K) mg base 2 ("_law_some", none) 3 ev__law_some := by
  obtain ⟨fd, D⟩ := c.says.def_ 39 (d := d__law_some) rfl
  have h29 := He.free_ok c.kin c.ns (c.says.fact 29)
  have h35 := He.free_ok c.kin c.ns (c.says.fact 35)
  have h65 := He.glo_ok c.kin c.ns (c.says.fact 65)
  have h66 := He.free_ok c.kin c.ns (c.says.fact 66)
  refine GF.mk fd ["tub", "things", "many"] (D.ok (k := 1) sc__law_some rF_len fun cdv A outer s H vs Q E hr h => ⟨_, ?_, rF_start h⟩) (D.bindsN fun _ _ _ _ _ _ us hl => match us, hl with | [_, _, _], _ => rfl) D.kp
  exact (ss_cons (s_set (i := 3) sc__law_some.nd rfl (e_bt call_list_of b_list rfl h66 PyProof.Rows.boot_list (a_cons (e_v (i := 1)) a_nil))) (ss_one (s_ret (e_lc (own := [("lap", 4)]) rfl sc__law_some.nd (i_rg1 rfl h29 (a_cons (e_v (i := 2)) a_nil) (ln1 ln0)) (blkOk_by (N := sl__law_some) (sc := defScope st__law_some) (by decide +kernel)) (by decide) (fun _ _ _ _ _ => (g_name (i := 4) sc__law_some.nd rfl)) (fun _ _ _ _ _ => ts_nil) (fun _ _ _ _ _ => (e_bmL rfl PySem.F.slot_list_pop PySem.F.type_list_pop mt_popW b_pop (e_v (i := 3)) (a_cons (e_callG (gf__law_dip c) (hr.mono (by decide)) rfl h65 pass_no (a_cons (e_v (i := 0)) (a_cons (e_bf cr_len b_len rfl h35 boot_len (a_cons (e_v (i := 3)) a_nil)) a_nil)) (ln1 (ln1 ln0))) a_nil)))))))
theorem gf__law_same (c : Wx P w K mg base) : GF P w (Zk K) mg base 1 ("_law_same", none) 2 ev__law_same := by
  obtain ⟨fd, D⟩ := c.says.def_ 40 (d := d__law_same) rfl
  have h29 := He.free_ok c.kin c.ns (c.says.fact 29)
  have h30 := He.free_ok c.kin c.ns (c.says.fact 30)
  have h35 := He.free_ok c.kin c.ns (c.says.fact 35)
  have h43 := He.free_ok c.kin c.ns (c.says.fact 43)
  have h66 := He.free_ok c.kin c.ns (c.says.fact 66)
  have h67 := He.free_ok c.kin c.ns (c.says.fact 67)
  have h68 := He.free_ok c.kin c.ns (c.says.fact 68)
  have h69 := He.free_ok c.kin c.ns (c.says.fact 69)
  have h70 := He.free_ok c.kin c.ns (c.says.fact 70)
  refine GF.mk fd ["told", "due"] (D.ok (k := 0) sc__law_same rF_len fun cdv A outer s H vs Q E hr h => ⟨_, ?_, rF_start h⟩) (D.bindsN fun _ _ _ _ _ _ us hl => match us, hl with | [_, _], _ => rfl) D.kp
  exact (ss_cons (s_set (i := 2) sc__law_same.nd rfl (e_lst (a_cons (e_tup (a_cons (e_v (i := 0)) (a_cons (e_v (i := 1)) a_nil))) a_nil))) (ss_cons (s_for (passes_of rfl) rfl (i_rg1 rfl h29 (a_cons e_int a_nil) (ln1 ln0)) (g_name (i := 3) sc__law_same.nd rfl) (ss_cons (s_if (t_cmp op_eq c_eq (e_bf cr_len b_len rfl h35 boot_len (a_cons (e_v (i := 2)) a_nil)) e_int (nomark _)) (ss_one (s_ret e_bl)) ss_nil) (ss_cons (s_asg (e_bmL0 rfl PySem.F.slot_list_pop PySem.F.type_list_pop mt_popW b_pop (e_v (i := 2))) (g_tup rfl rfl (gs_cons (g_name (i := 4) sc__law_same.nd rfl) (gs_cons (g_name (i := 5) sc__law_same.nd rfl) gs_nil)))) (ss_one (s_if (t_val rfl (e_isiT (ts1 (tn_tuple rfl h30) (ts1 (tn_list rfl h66) ts0)) rfl h67 (e_v (i := 5)))) (ss_cons (s_if (PW.pt (w_or (t_cmp op_ne c_ne (e_isi1 (tn_tuple rfl h30) rfl h67 (e_v (i := 4))) (e_isi1 (tn_tuple rfl h30) rfl h67 (e_v (i := 5))) (nomark _)) (w_or (t_cmp op_ne c_ne (e_isi1 (tn_list rfl h66) rfl h67 (e_v (i := 4))) (e_isi1 (tn_list rfl h66) rfl h67 (e_v (i := 5))) (nomark _)) (w_or1 (t_cmp op_ne c_ne (e_bf cr_len b_len rfl h35 boot_len (a_cons (e_v (i := 4)) a_nil)) (e_bf cr_len b_len rfl h35 boot_len (a_cons (e_v (i := 5)) a_nil)) (nomark _)))))) (ss_one (s_ret e_bl)) ss_nil) (ss_one (s_ex (e_bmL rfl PySem.F.slot_list_extend PySem.F.type_list_extend mt_extend b_extend (e_v (i := 2)) (a_cons (e_lc (own := [("at", 6)]) rfl sc__law_same.nd (i_rg1 rfl h29 (a_cons (e_bf cr_len b_len rfl h35 boot_len (a_cons (e_v (i := 5)) a_nil)) a_nil) (ln1 ln0)) (blkOk_by (N := sl__law_same) (sc := defScope st__law_same) (by decide +kernel)) (by decide) (fun _ _ _ _ _ => (g_name (i := 6) sc__law_same.nd rfl)) (fun _ _ _ _ _ => ts_nil) (fun _ _ _ _ _ => (e_tup (a_cons (e_ix rfl (e_v (i := 4)) (e_v (i := 6)) (fun _ _ => rfl)) (a_cons (e_ix rfl (e_v (i := 5)) (e_v (i := 6)) (fun _ _ => rfl)) a_nil))))) a_nil))))) (ss_one (s_if (t_val rfl (e_isi1 (tn_dict rfl h68) rfl h67 (e_v (i := 5)))) (ss_cons (s_if (PW.pt (w_or (t_not (t_val rfl (e_isi1 (tn_dict rfl h68) rfl h67 (e_v (i := 4))))) (w_or (t_cmp op_ne c_ne (e_bf cr_len b_len rfl h35 boot_len (a_cons (e_v (i := 4)) a_nil)) (e_bf cr_len b_len rfl h35 boot_len (a_cons (e_v (i := 5)) a_nil)) (nomark _)) (w_or1 (t_cmp op_gt c_gt (e_bf cr_len b_len rfl h35 boot_len (a_cons (e_lc (own := [("key", 7)]) rfl sc__law_same.nd (i_e rfl (e_v (i := 5))) (blkOk_by (N := sl__law_same) (sc := defScope st__law_same) (by decide +kernel)) (by decide) (fun _ _ _ _ _ => (g_name (i := 7) sc__law_same.nd rfl)) (fun _ _ _ _ _ => (ts_one (t_cmp o_notIn c_notIn (e_v (i := 7)) (e_v (i := 4)) (by with_unfolding_all rfl)))) (fun _ _ _ _ _ => (e_v (i := 7)))) a_nil)) e_int (nomark _)))))) (ss_one (s_ret e_bl)) ss_nil) (ss_one (s_ex (e_bmL rfl PySem.F.slot_list_extend PySem.F.type_list_extend mt_extend b_extend (e_v (i := 2)) (a_cons (e_lc (own := [("key", 7)]) rfl sc__law_same.nd (i_e rfl (e_v (i := 5))) (blkOk_by (N := sl__law_same) (sc := defScope st__law_same) (by decide +kernel)) (by decide) (fun _ _ _ _ _ => (g_name (i := 7) sc__law_same.nd rfl)) (fun _ _ _ _ _ => ts_nil) (fun _ _ _ _ _ => (e_tup (a_cons (e_ix rfl (e_v (i := 4)) (e_v (i := 7)) (fun _ _ => rfl)) (a_cons (e_ix rfl (e_v (i := 5)) (e_v (i := 7)) (fun _ _ => rfl)) a_nil))))) a_nil))))) (ss_one (s_if (t_cmp op_isN c_isN (e_v (i := 5)) e_non (nomark _)) (ss_one (s_if (t_cmp op_notN c_notN (e_v (i := 4)) e_non (nomark _)) (ss_one (s_ret e_bl)) ss_nil)) (ss_one (s_if (t_val rfl (e_isi1 (tn_bool rfl h69) rfl h67 (e_v (i := 5)))) (ss_one (s_if (PW.pt (w_or (t_not (t_val rfl (e_isi1 (tn_bool rfl h69) rfl h67 (e_v (i := 4))))) (w_or1 (t_cmp op_ne c_ne (e_v (i := 4)) (e_v (i := 5)) (nomark _))))) (ss_one (s_ret e_bl)) ss_nil)) (ss_one (s_if (t_val rfl (e_isi1 (tn_str rfl h70) rfl h67 (e_v (i := 5)))) (ss_one (s_if (PW.pt (w_or (t_not (t_val rfl (e_isi1 (tn_str rfl h70) rfl h67 (e_v (i := 4))))) (w_or1 (t_cmp op_ne c_ne (e_v (i := 4)) (e_v (i := 5)) (nomark _))))) (ss_one (s_ret e_bl)) ss_nil)) (ss_one (s_if (PW.pt (w_or (t_not (t_val rfl (e_isi1 (tn_int rfl h43) rfl h67 (e_v (i := 4))))) (w_or (t_val rfl (e_isi1 (tn_bool rfl h69) rfl h67 (e_v (i := 4)))) (w_or1 (t_cmp op_ne c_ne (e_v (i := 4)) (e_v (i := 5)) (nomark _)))))) (ss_one (s_ret e_bl)) ss_nil))))))))))))))) (ss_one (s_ret e_bl))))
theorem gf__law_book (c : Wx P w K mg base) : GF P w (Zk K) mg base 3 ("_law_book", none) 2 ev__law_book := by
  obtain ⟨fd, D⟩ := c.says.def_ 41 (d := d__law_book) rfl
  have h30 := He.free_ok c.kin c.ns (c.says.fact 30)
  have h65 := He.glo_ok c.kin c.ns (c.says.fact 65)
  have h71 := He.glo_ok c.kin c.ns (c.says.fact 71)
  have h72 := He.free_ok c.kin c.ns (c.says.fact 72)
  refine GF.mk fd ["tub", "most"] (D.ok (k := 2) sc__law_book rF_len fun cdv A outer s H vs Q E hr h => ⟨_, ?_, rF_start h⟩) (D.bindsN fun _ _ _ _ _ _ us hl => match us, hl with | [_, _], _ => rfl) D.kp
  exact (ss_cons (s_set (i := 2) sc__law_book.nd rfl (e_bt call_tuple_of b_tuple rfl h30 PyProof.Rows.boot_tuple (a_cons (e_bf cr_sortedS b_sorted rfl h72 boot_sorted (a_cons (e_callG (gf__law_some c) (hr.mono (by decide)) rfl h71 (passes_call (takes_of rfl rfl rfl rfl) fun _ _ _ _ h => h) (a_cons (e_v (i := 0)) (a_cons (e_tup (a_cons e_str (a_cons e_str (a_cons e_str (a_cons e_str (a_cons e_str (a_cons e_str (a_cons e_str (a_cons e_str a_nil))))))))) (a_cons (e_add rfl e_int (e_callG (gf__law_dip c) (hr.mono (by decide)) rfl h65 (passes_call (takes_of rfl rfl rfl rfl) fun _ _ _ _ h => h) (a_cons (e_v (i := 0)) (a_cons (e_v (i := 1)) a_nil)) (ln1 (ln1 ln0)))) a_nil))) (ln1 (ln1 (ln1 ln0)))) a_nil)) a_nil))) (ss_cons (s_set (i := 3) sc__law_book.nd rfl (e_add rfl e_int (e_callG (gf__law_dip c) (hr.mono (by decide)) rfl h65 (passes_call (takes_of rfl rfl rfl rfl) fun _ _ _ _ h => h) (a_cons (e_v (i := 0)) (a_cons e_int a_nil)) (ln1 (ln1 ln0))))) (ss_cons (s_set (i := 4) sc__law_book.nd rfl (e_bt call_tuple_of b_tuple rfl h30 PyProof.Rows.boot_tuple (a_cons (e_lc (own := [("kind", 5)]) rfl sc__law_book.nd (i_e rfl (e_v (i := 2))) (blkOk_by (N := sl__law_book) (sc := defScope st__law_book) (by decide +kernel)) (by decide) (fun _ _ _ _ _ => (g_name (i := 5) sc__law_book.nd rfl)) (fun _ _ _ _ _ => (ts_one (t_cmp op_lt c_lt (e_callG (gf__law_dip c) (hr.mono (by decide)) rfl h65 pass_no (a_cons (e_v (i := 0)) (a_cons e_int a_nil)) (ln1 (ln1 ln0))) (e_v (i := 3)) (nomark _)))) (fun _ _ _ _ _ => (e_v (i := 5)))) a_nil))) (ss_cons (s_set (i := 6) sc__law_book.nd rfl (e_bt call_tuple_of b_tuple rfl h30 PyProof.Rows.boot_tuple (a_cons (e_lc (own := [("kind", 5)]) rfl sc__law_book.nd (i_e rfl (e_v (i := 2))) (blkOk_by (N := sl__law_book) (sc := defScope st__law_book) (by decide +kernel)) (by decide) (fun _ _ _ _ _ => (g_name (i := 5) sc__law_book.nd rfl)) (fun _ _ _ _ _ => (ts_one (t_cmp op_lt c_lt (e_callG (gf__law_dip c) (hr.mono (by decide)) rfl h65 pass_no (a_cons (e_v (i := 0)) (a_cons e_int a_nil)) (ln1 (ln1 ln0))) (e_v (i := 3)) (nomark _)))) (fun _ _ _ _ _ => (e_v (i := 5)))) a_nil))) (ss_cons (s_set (i := 7) sc__law_book.nd rfl (e_lst a_nil)) (ss_cons (s_for (passes_of rfl) rfl (i_e rfl (e_v (i := 2))) (g_name (i := 8) sc__law_book.nd rfl) (ss_one (s_set (i := 7) sc__law_book.nd rfl (e_add rfl (e_v (i := 7)) (e_lc (own := [("other", 9)]) rfl sc__law_book.nd (i_e rfl (e_v (i := 2))) (blkOk_by (N := sl__law_book) (sc := defScope st__law_book) (by decide +kernel)) (by decide) (fun _ _ _ _ _ => (g_name (i := 9) sc__law_book.nd rfl)) (fun _ _ _ _ _ => (ts_one (t_cmp op_lt c_lt (e_callG (gf__law_dip c) (hr.mono (by decide)) rfl h65 pass_no (a_cons (e_v (i := 0)) (a_cons e_int a_nil)) (ln1 (ln1 ln0))) (e_v (i := 3)) (nomark _)))) (fun _ _ _ _ _ => (e_tup (a_cons (e_v (i := 8)) (a_cons (e_v (i := 9)) a_nil))))))))) (ss_one (s_ret (e_tup (a_cons (e_v (i := 2)) (a_cons (e_v (i := 4)) (a_cons (e_v (i := 6)) (a_cons (e_bt call_tuple_of b_tuple rfl h30 PyProof.Rows.boot_tuple (a_cons (e_v (i := 7)) a_nil)) a_nil)))))))))))))
theorem gf__law_script (c : Wx P w K mg base) : GF P w (Zk K) mg base 3 ("_law_script", none) 4 ev__law_script := by
  obtain ⟨fd, D⟩ := c.says.def_ 42 (d := d__law_script) rfl
  have h16 := He.free_ok c.kin c.ns (c.says.fact 16)
  have h29 := He.free_ok c.kin c.ns (c.says.fact 29)
  have h30 := He.free_ok c.kin c.ns (c.says.fact 30)
  have h35 := He.free_ok c.kin c.ns (c.says.fact 35)
  have h65 := He.glo_ok c.kin c.ns (c.says.fact 65)
  have h71 := He.glo_ok c.kin c.ns (c.says.fact 71)
  refine GF.mk fd ["tub", "nodes", "parts", "most"] (D.ok (k := 2) sc__law_script rF_len fun cdv A outer s H vs Q E hr h => ⟨_, ?_, rF_start h⟩) (D.bindsN fun _ _ _ _ _ _ us hl => match us, hl with | [_, _, _, _], _ => rfl) D.kp
  exact (ss_cons (s_lc (i := 4) (own := [("node", 5)]) rfl sc__law_script.nd rfl rfl (sw_true rfl rfl rfl (by decide +kernel)) (i_e rfl (e_callG (gf__law_some c) (hr.mono (by decide)) rfl h71 (passes_call (takes_of rfl rfl rfl rfl) fun _ _ _ _ h => h) (a_cons (e_v (i := 0)) (a_cons (e_v (i := 1)) (a_cons (e_add rfl e_int (e_callG (gf__law_dip c) (hr.mono (by decide)) rfl h65 (passes_call (takes_of rfl rfl rfl rfl) fun _ _ _ _ h => h) (a_cons (e_v (i := 0)) (a_cons (e_bf cr_len b_len rfl h35 boot_len (a_cons (e_v (i := 1)) a_nil)) a_nil)) (ln1 (ln1 ln0)))) a_nil))) (ln1 (ln1 (ln1 ln0))))) (blkOk_by (N := sl__law_script) (sc := defScope st__law_script) (by decide +kernel)) (by decide) (fun _ _ _ _ _ => (g_name (i := 5) sc__law_script.nd rfl)) (fun _ _ _ _ _ => ts_nil) (fun _ _ _ _ _ => (e_tup (a_cons e_str (a_cons (e_v (i := 5)) a_nil))))) (ss_cons (s_lc (i := 6) (own := [("part", 7)]) rfl sc__law_script.nd rfl rfl (sw_true rfl rfl rfl (by decide +kernel)) (i_e rfl (e_v (i := 4))) (blkOk_by (N := sl__law_script) (sc := defScope st__law_script) (by decide +kernel)) (by decide) (fun _ _ _ _ _ => (g_name (i := 7) sc__law_script.nd rfl)) (fun _ _ _ _ _ => ts_nil) (fun _ _ _ _ _ => e_int)) (ss_cons (s_for (passes_of rfl) rfl (i_rg1 rfl h29 (a_cons (e_callG (gf__law_dip c) (hr.mono (by decide)) rfl h65 (passes_call (takes_of rfl rfl rfl rfl) fun _ _ _ _ h => h) (a_cons (e_v (i := 0)) (a_cons (e_v (i := 2)) a_nil)) (ln1 (ln1 ln0))) a_nil) (ln1 ln0)) (g_name (i := 8) sc__law_script.nd rfl) (ss_cons (s_set (i := 9) sc__law_script.nd rfl (e_bf (cr_maxW rfl) b_max rfl h16 boot_max (a_cons (e_callG (gf__law_dip c) (hr.mono (by decide)) rfl h65 (passes_call (takes_of rfl rfl rfl rfl) fun _ _ _ _ h => h) (a_cons (e_v (i := 0)) (a_cons (e_bf cr_len b_len rfl h35 boot_len (a_cons (e_v (i := 4)) a_nil)) a_nil)) (ln1 (ln1 ln0))) (a_cons (e_callG (gf__law_dip c) (hr.mono (by decide)) rfl h65 (passes_call (takes_of rfl rfl rfl rfl) fun _ _ _ _ h => h) (a_cons (e_v (i := 0)) (a_cons (e_bf cr_len b_len rfl h35 boot_len (a_cons (e_v (i := 4)) a_nil)) a_nil)) (ln1 (ln1 ln0))) a_nil)))) (ss_cons (s_if (t_cmp op_eq c_eq (e_callG (gf__law_dip c) (hr.mono (by decide)) rfl h65 (passes_call (takes_of rfl rfl rfl rfl) fun _ _ _ _ h => h) (a_cons (e_v (i := 0)) (a_cons e_int a_nil)) (ln1 (ln1 ln0))) e_int (nomark _)) (ss_cons (s_set (i := 10) sc__law_script.nd rfl (e_callG (gf__law_dip c) (hr.mono (by decide)) rfl h65 (passes_call (takes_of rfl rfl rfl rfl) fun _ _ _ _ h => h) (a_cons (e_v (i := 0)) (a_cons (e_bf cr_len b_len rfl h35 boot_len (a_cons (e_v (i := 4)) a_nil)) a_nil)) (ln1 (ln1 ln0)))) (ss_one (s_par (i := 7) (j := 11) rfl sc__law_script.nd rfl rfl (by decide) rfl rfl (a_cons (e_tup (a_cons e_str (a_cons (e_v (i := 9)) (a_cons (e_v (i := 10)) a_nil)))) (a_cons (e_add rfl (e_ix rfl (e_v (i := 6)) (e_v (i := 9)) (fun _ _ => rfl)) (e_ix rfl (e_v (i := 6)) (e_v (i := 10)) (fun _ _ => rfl))) a_nil)) rfl))) (ss_cons (s_set (i := 12) sc__law_script.nd rfl (e_ix rfl (e_tup (a_cons e_int (a_cons e_int (a_cons e_int (a_cons (e_add rfl e_int (e_callG (gf__law_dip c) (hr.mono (by decide)) rfl h65 (passes_call (takes_of rfl rfl rfl rfl) fun _ _ _ _ h => h) (a_cons (e_v (i := 0)) (a_cons e_int a_nil)) (ln1 (ln1 ln0)))) (a_cons (e_ix rfl (e_tup (a_cons e_int (a_cons e_int (a_cons e_int (a_cons e_int (a_cons e_int (a_cons e_int (a_cons e_int a_nil)))))))) (e_callG (gf__law_dip c) (hr.mono (by decide)) rfl h65 (passes_call (takes_of rfl rfl rfl rfl) fun _ _ _ _ h => h) (a_cons (e_v (i := 0)) (a_cons e_int a_nil)) (ln1 (ln1 ln0))) (fun _ _ => rfl)) (a_cons (e_sub (e_pow e_int e_int) (e_callG (gf__law_dip c) (hr.mono (by decide)) rfl h65 (passes_call (takes_of rfl rfl rfl rfl) fun _ _ _ _ h => h) (a_cons (e_v (i := 0)) (a_cons e_int a_nil)) (ln1 (ln1 ln0)))) a_nil))))))) (e_callG (gf__law_dip c) (hr.mono (by decide)) rfl h65 (passes_call (takes_of rfl rfl rfl rfl) fun _ _ _ _ h => h) (a_cons (e_v (i := 0)) (a_cons e_int a_nil)) (ln1 (ln1 ln0))) (fun _ _ => rfl))) (ss_one (s_par (i := 7) (j := 11) rfl sc__law_script.nd rfl rfl (by decide) rfl rfl (a_cons (e_tup (a_cons e_str (a_cons (e_v (i := 9)) (a_cons (e_v (i := 12)) a_nil)))) (a_cons (e_mul rfl (e_ix rfl (e_v (i := 6)) (e_v (i := 9)) (fun _ _ => rfl)) (e_v (i := 12))) a_nil)) rfl)))) (ss_one (s_if (t_cmp op_le c_le (e_v (i := 11)) (e_v (i := 3)) (nomark _)) (ss_cons (s_ex (e_bmL rfl PySem.F.slot_list_append PySem.F.type_list_append mt_append b_append (e_v (i := 4)) (a_cons (e_v (i := 7)) a_nil))) (ss_one (s_ex (e_bmL rfl PySem.F.slot_list_append PySem.F.type_list_append mt_append b_append (e_v (i := 6)) (a_cons (e_v (i := 11)) a_nil))))) ss_nil))))) (ss_one (s_ret (e_tup (a_cons (e_bt call_tuple_of b_tuple rfl h30 PyProof.Rows.boot_tuple (a_cons (e_v (i := 4)) a_nil)) (a_cons (e_ix rfl (e_tup (a_cons (e_sub (e_bf cr_len b_len rfl h35 boot_len (a_cons (e_v (i := 4)) a_nil)) e_int) (a_cons (e_sub (e_bf cr_len b_len rfl h35 boot_len (a_cons (e_v (i := 4)) a_nil)) e_int) (a_cons (e_callG (gf__law_dip c) (hr.mono (by decide)) rfl h65 (passes_call (takes_of rfl rfl rfl rfl) fun _ _ _ _ h => h) (a_cons (e_v (i := 0)) (a_cons (e_bf cr_len b_len rfl h35 boot_len (a_cons (e_v (i := 4)) a_nil)) a_nil)) (ln1 (ln1 ln0))) a_nil)))) (e_callG (gf__law_dip c) (hr.mono (by decide)) rfl h65 (passes_call (takes_of rfl rfl rfl rfl) fun _ _ _ _ h => h) (a_cons (e_v (i := 0)) (a_cons e_int a_nil)) (ln1 (ln1 ln0))) (fun _ _ => rfl)) a_nil))))))))
theorem gf__law_node (c : Wx P w K mg base) : GF P w (Zk K) mg base 1 ("_law_node", none) 1 ev__law_node := by
  obtain ⟨fd, D⟩ := c.says.def_ 43 (d := d__law_node) rfl
  refine GF.mk fd ["node"] (D.ok (k := 0) sc__law_node rF_len fun cdv A outer s H vs Q E hr h => ⟨_, ?_, rF_start h⟩) (D.bindsN fun _ _ _ _ _ _ us hl => match us, hl with | [_], _ => rfl) D.kp
  exact (ss_one (s_ret (e_if (t_cmp op_eq c_eq (e_v (i := 0)) e_str (nomark _)) e_str (e_v (i := 0)))))
theorem gf__law_script_text (c : Wx P w K mg base) : GF P w (Zk K) mg base 2 ("_law_script_text", none) 1 ev__law_script_text := by
  obtain ⟨fd, D⟩ := c.says.def_ 44 (d := d__law_script_text) rfl
  have h70 := He.free_ok c.kin c.ns (c.says.fact 70)
  have h73 := He.glo_ok c.kin c.ns (c.says.fact 73)
  refine GF.mk fd ["script"] (D.ok (k := 1) sc__law_script_text rF_len fun cdv A outer s H vs Q E hr h => ⟨_, ?_, rF_start h⟩) (D.bindsN fun _ _ _ _ _ _ us hl => match us, hl with | [_], _ => rfl) D.kp
  exact (ss_cons (s_set (i := 1) sc__law_script_text.nd rfl (e_lst a_nil)) (ss_cons (s_for (passes_of rfl) rfl (i_e rfl (e_ix rfl (e_v (i := 0)) e_int (fun _ _ => rfl))) (g_name (i := 2) sc__law_script_text.nd rfl) (ss_one (s_ex (e_bmL rfl PySem.F.slot_list_append PySem.F.type_list_append mt_append b_append (e_v (i := 1)) (a_cons (e_if (t_cmp op_eq c_eq (e_ix rfl (e_v (i := 2)) e_int (fun _ _ => rfl)) e_str (nomark _)) (e_add rfl e_str (e_callG (gf__law_node c) (hr.mono (by decide)) rfl h73 (passes_call (takes_of rfl rfl rfl rfl) fun _ _ _ _ h => h) (a_cons (e_ix rfl (e_v (i := 2)) e_int (fun _ _ => rfl)) a_nil) (ln1 ln0))) (e_add rfl (e_add rfl (e_add rfl (e_add rfl (e_ix rfl (e_v (i := 2)) e_int (fun _ _ => rfl)) e_str) (e_bt call_str_int b_str rfl h70 PyProof.Rows.boot_str (a_cons (e_ix rfl (e_v (i := 2)) e_int (fun _ _ => rfl)) a_nil))) e_str) (e_bt call_str_int b_str rfl h70 PyProof.Rows.boot_str (a_cons (e_ix rfl (e_v (i := 2)) e_int (fun _ _ => rfl)) a_nil)))) a_nil))))) (ss_one (s_ret (e_add rfl (e_add rfl (e_add rfl (e_bmS rfl PySem.F.slot_str_join PySem.F.type_str_join mt_join b_join e_str (a_cons (e_lc (own := [("line", 3)]) rfl sc__law_script_text.nd (i_e rfl (e_v (i := 1))) (blkOk_by (N := sl__law_script_text) (sc := defScope st__law_script_text) (by decide +kernel)) (by decide) (fun _ _ _ _ _ => (g_name (i := 3) sc__law_script_text.nd rfl)) (fun _ _ _ _ _ => ts_nil) (fun _ _ _ _ _ => (e_add rfl (e_v (i := 3)) e_str))) a_nil)) e_str) (e_bt call_str_int b_str rfl h70 PyProof.Rows.boot_str (a_cons (e_ix rfl (e_v (i := 0)) e_int (fun _ _ => rfl)) a_nil))) e_str)))))
theorem gf__law_loose (c : Wx P w K mg base) : GF P w (Zk K) mg base 3 ("_law_loose", none) 2 ev__law_loose := by
  obtain ⟨fd, D⟩ := c.says.def_ 45 (d := d__law_loose) rfl
  have h65 := He.glo_ok c.kin c.ns (c.says.fact 65)
  have h74 := He.glo_ok c.kin c.ns (c.says.fact 74)
  have h75 := He.keep_ok (c.says.fact 75)
  refine GF.mk fd ["tub", "text"] (D.ok (k := 2) sc__law_loose rF_len fun cdv A outer s H vs Q E hr h => ⟨_, ?_, rF_start h⟩) (D.bindsN fun _ _ _ _ _ _ us hl => match us, hl with | [_, _], _ => rfl) D.kp
  exact (ss_cons (s_set (i := 2) sc__law_loose.nd rfl (e_lst a_nil)) (ss_cons (s_for (passes_of rfl) rfl (i_e rfl (e_sl rfl (e_bmS rfl PySem.F.slot_str_split PySem.F.type_str_split mt_split b_split (e_v (i := 1)) (a_cons e_str a_nil)) o_no (o_some (e_neg e_int)))) (g_name (i := 3) sc__law_loose.nd rfl) (ss_cons (s_if (t_cmp op_eq c_eq (e_callG (gf__law_dip c) (hr.mono (by decide)) rfl h65 (passes_call (takes_of rfl rfl rfl rfl) fun _ _ _ _ h => h) (a_cons (e_v (i := 0)) (a_cons e_int a_nil)) (ln1 (ln1 ln0))) e_int (nomark _)) (ss_one (s_ex (e_bmL rfl PySem.F.slot_list_append PySem.F.type_list_append mt_append b_append (e_v (i := 2)) (a_cons (e_callG (gf__law_of c) (hr.mono (by decide)) rfl h74 (passes_call (takes_of rfl rfl rfl rfl) fun _ _ _ _ h => h) (a_cons (e_v (i := 0)) (a_cons (e_tup (a_cons e_str (a_cons e_str (a_cons e_str (a_cons e_str a_nil))))) a_nil)) (ln1 (ln1 ln0))) a_nil)))) ss_nil) (ss_one (s_ex (e_bmL rfl PySem.F.slot_list_append PySem.F.type_list_append mt_append b_append (e_v (i := 2)) (a_cons (e_add rfl (e_addT rfl (e_callG (gf__law_dip c) (hr.mono (by decide)) rfl h65 (passes_call (takes_of rfl rfl rfl rfl) fun _ _ _ _ h => h) (a_cons (e_v (i := 0)) (a_cons e_int a_nil)) (ln1 (ln1 ln0))) (e_repOf (ik := 3) (it := 0) (of__law_of c) h75 (hr.mono (by decide)) rfl h74 (passes_call (takes_of rfl rfl rfl rfl) fun _ _ _ _ h => h) c.book (.cons (.cons (.cons .nil))) (by decide) rfl (by first | exact .inl rfl | exact .inr (.inl rfl)) rfl (by first | exact .inl rfl | exact .inr (.inl rfl)))) (e_strmul e_str (e_callG (gf__law_dip c) (hr.mono (by decide)) rfl h65 (passes_call (takes_of rfl rfl rfl rfl) fun _ _ _ _ h => h) (a_cons (e_v (i := 0)) (a_cons e_int a_nil)) (ln1 (ln1 ln0))))) a_nil)))))) (ss_one (s_ret (e_add rfl (e_bmS rfl PySem.F.slot_str_join PySem.F.type_str_join mt_join b_join e_str (a_cons (e_v (i := 2)) a_nil)) (e_callG (gf__law_of c) (hr.mono (by decide)) rfl h74 (passes_call (takes_of rfl rfl rfl rfl) fun _ _ _ _ h => h) (a_cons (e_v (i := 0)) (a_cons (e_tup (a_cons e_str (a_cons e_str (a_cons e_str (a_cons e_str a_nil))))) a_nil)) (ln1 (ln1 ln0))))))))
theorem gf__law_sizes (c : Wx P w K mg base) : GF P w (Zk K) mg base 1 ("_law_sizes", none) 1 ev__law_sizes := by
  obtain ⟨fd, D⟩ := c.says.def_ 46 (d := d__law_sizes) rfl
  refine GF.mk fd ["script"] (D.ok (k := 0) sc__law_sizes rF_len fun cdv A outer s H vs Q E hr h => ⟨_, ?_, rF_start h⟩) (D.bindsN fun _ _ _ _ _ _ us hl => match us, hl with | [_], _ => rfl) D.kp
  exact (ss_cons (s_set (i := 1) sc__law_sizes.nd rfl (e_lst a_nil)) (ss_cons (s_for (passes_of rfl) rfl (i_e rfl (e_ix rfl (e_v (i := 0)) e_int (fun _ _ => rfl))) (g_name (i := 2) sc__law_sizes.nd rfl) (ss_one (s_ex (e_bmL rfl PySem.F.slot_list_append PySem.F.type_list_append mt_append b_append (e_v (i := 1)) (a_cons (e_if (t_cmp op_eq c_eq (e_ix rfl (e_v (i := 2)) e_int (fun _ _ => rfl)) e_str (nomark _)) e_int (e_if (t_cmp op_eq c_eq (e_ix rfl (e_v (i := 2)) e_int (fun _ _ => rfl)) e_str (nomark _)) (e_add rfl (e_ix rfl (e_v (i := 1)) (e_ix rfl (e_v (i := 2)) e_int (fun _ _ => rfl)) (fun _ _ => rfl)) (e_ix rfl (e_v (i := 1)) (e_ix rfl (e_v (i := 2)) e_int (fun _ _ => rfl)) (fun _ _ => rfl))) (e_mul rfl (e_ix rfl (e_v (i := 1)) (e_ix rfl (e_v (i := 2)) e_int (fun _ _ => rfl)) (fun _ _ => rfl)) (e_ix rfl (e_v (i := 2)) e_int (fun _ _ => rfl))))) a_nil))))) (ss_one (s_ret (e_v (i := 1))))))
theorem gf__law_counts (c : Wx P w K mg base) : GF P w (Zk K) mg base 1 ("_law_counts", none) 2 ev__law_counts := by
  obtain ⟨fd, D⟩ := c.says.def_ 47 (d := d__law_counts) rfl
  have h43 := He.free_ok c.kin c.ns (c.says.fact 43)
  refine GF.mk fd ["script", "node"] (D.ok (k := 0) sc__law_counts rF_len fun cdv A outer s H vs Q E hr h => ⟨_, ?_, rF_start h⟩) (D.bindsN fun _ _ _ _ _ _ us hl => match us, hl with | [_, _], _ => rfl) D.kp
  exact (ss_cons (s_set (i := 2) sc__law_counts.nd rfl (e_lst a_nil)) (ss_cons (s_for (passes_of rfl) rfl (i_e rfl (e_ix rfl (e_v (i := 0)) e_int (fun _ _ => rfl))) (g_name (i := 3) sc__law_counts.nd rfl) (ss_one (s_ex (e_bmL rfl PySem.F.slot_list_append PySem.F.type_list_append mt_append b_append (e_v (i := 2)) (a_cons (e_if (t_cmp op_eq c_eq (e_ix rfl (e_v (i := 3)) e_int (fun _ _ => rfl)) e_str (nomark _)) (e_bt cr_int b_int rfl h43 PyProof.Rows.boot_int (a_cons (e_cmp op_eq c_eq (e_ix rfl (e_v (i := 3)) e_int (fun _ _ => rfl)) (e_v (i := 1)) (nomark _)) a_nil)) (e_if (t_cmp op_eq c_eq (e_ix rfl (e_v (i := 3)) e_int (fun _ _ => rfl)) e_str (nomark _)) (e_add rfl (e_ix rfl (e_v (i := 2)) (e_ix rfl (e_v (i := 3)) e_int (fun _ _ => rfl)) (fun _ _ => rfl)) (e_ix rfl (e_v (i := 2)) (e_ix rfl (e_v (i := 3)) e_int (fun _ _ => rfl)) (fun _ _ => rfl))) (e_mul rfl (e_ix rfl (e_v (i := 2)) (e_ix rfl (e_v (i := 3)) e_int (fun _ _ => rfl)) (fun _ _ => rfl)) (e_ix rfl (e_v (i := 3)) e_int (fun _ _ => rfl))))) a_nil))))) (ss_one (s_ret (e_v (i := 2))))))
theorem gf__law_down (c : Wx P w K mg base) : GF P w (Zk K) mg base 1 ("_law_down", none) 3 ev__law_down := by
  obtain ⟨fd, D⟩ := c.says.def_ 48 (d := d__law_down) rfl
  have h29 := He.free_ok c.kin c.ns (c.says.fact 29)
  have h35 := He.free_ok c.kin c.ns (c.says.fact 35)
  have h43 := He.free_ok c.kin c.ns (c.says.fact 43)
  refine GF.mk fd ["script", "sizes", "place"] (D.ok (k := 0) sc__law_down rF_len fun cdv A outer s H vs Q E hr h => ⟨_, ?_, rF_start h⟩) (D.bindsN fun _ _ _ _ _ _ us hl => match us, hl with | [_, _, _], _ => rfl) D.kp
  exact (ss_cons (s_set (i := 3) sc__law_down.nd rfl (e_ix rfl (e_v (i := 0)) e_int (fun _ _ => rfl))) (ss_cons (s_set (i := 4) sc__law_down.nd rfl (e_lst a_nil)) (ss_cons (s_for (passes_of rfl) rfl (i_rg1 rfl h29 (a_cons (e_bf cr_len b_len rfl h35 boot_len (a_cons (e_ix rfl (e_v (i := 0)) e_int (fun _ _ => rfl)) a_nil)) a_nil) (ln1 ln0)) (g_name (i := 5) sc__law_down.nd rfl) (ss_cons (s_set (i := 6) sc__law_down.nd rfl (e_ix rfl (e_ix rfl (e_v (i := 0)) e_int (fun _ _ => rfl)) (e_v (i := 3)) (fun _ _ => rfl))) (ss_cons (s_if (t_cmp op_eq c_eq (e_ix rfl (e_v (i := 6)) e_int (fun _ _ => rfl)) e_str (nomark _)) (ss_one s_brk) ss_nil) (ss_cons (s_set (i := 3) sc__law_down.nd rfl (e_ix rfl (e_v (i := 6)) e_int (fun _ _ => rfl))) (ss_one (s_if (t_cmp op_eq c_eq (e_ix rfl (e_v (i := 6)) e_int (fun _ _ => rfl)) e_str (nomark _)) (ss_cons (s_ex (e_bmL rfl PySem.F.slot_list_append PySem.F.type_list_append mt_append b_append (e_v (i := 4)) (a_cons (e_tup (a_cons (e_v (i := 3)) (a_cons (e_fdiv (e_v (i := 2)) (e_ix rfl (e_v (i := 1)) (e_v (i := 3)) (fun _ _ => rfl))) a_nil))) a_nil))) (ss_one (s_set (i := 2) sc__law_down.nd rfl (e_mod (e_bt cr_int b_int rfl h43 PyProof.Rows.boot_int (a_cons (e_v (i := 2)) a_nil)) (e_ix rfl (e_v (i := 1)) (e_v (i := 3)) (fun _ _ => rfl)))))) (ss_one (s_if (t_cmp op_ge c_ge (e_v (i := 2)) (e_ix rfl (e_v (i := 1)) (e_v (i := 3)) (fun _ _ => rfl)) (nomark _)) (ss_cons (s_ex (e_bmL rfl PySem.F.slot_list_append PySem.F.type_list_append mt_append b_append (e_v (i := 4)) (a_cons (e_tup (a_cons (e_v (i := 3)) (a_cons e_int a_nil))) a_nil))) (ss_cons (s_set (i := 2) sc__law_down.nd rfl (e_sub (e_v (i := 2)) (e_ix rfl (e_v (i := 1)) (e_v (i := 3)) (fun _ _ => rfl)))) (ss_one (s_set (i := 3) sc__law_down.nd rfl (e_ix rfl (e_v (i := 6)) e_int (fun _ _ => rfl)))))) ss_nil)))))))) (ss_one (s_ret (e_tup (a_cons (e_ix rfl (e_ix rfl (e_ix rfl (e_v (i := 0)) e_int (fun _ _ => rfl)) (e_v (i := 3)) (fun _ _ => rfl)) e_int (fun _ _ => rfl)) (a_cons (e_v (i := 4)) a_nil))))))))
theorem gf__law_ahead (c : Wx P w K mg base) : GF P w (Zk K) mg base 2 ("_law_ahead", none) 4 ev__law_ahead := by
  obtain ⟨fd, D⟩ := c.says.def_ 49 (d := d__law_ahead) rfl
  have h76 := He.glo_ok c.kin c.ns (c.says.fact 76)
  have h77 := He.free_ok c.kin c.ns (c.says.fact 77)
  refine GF.mk fd ["script", "sizes", "counts", "place"] (D.ok (k := 1) sc__law_ahead rF_len fun cdv A outer s H vs Q E hr h => ⟨_, ?_, rF_start h⟩) (D.bindsN fun _ _ _ _ _ _ us hl => match us, hl with | [_, _, _, _], _ => rfl) D.kp
  exact (ss_cons (s_if (t_cmp op_eq c_eq (e_v (i := 3)) (e_ix rfl (e_v (i := 1)) (e_ix rfl (e_v (i := 0)) e_int (fun _ _ => rfl)) (fun _ _ => rfl)) (nomark _)) (ss_one (s_ret (e_ix rfl (e_v (i := 2)) (e_ix rfl (e_v (i := 0)) e_int (fun _ _ => rfl)) (fun _ _ => rfl)))) ss_nil) (ss_one (s_ret (e_bf (cr_sum rfl) b_sum rfl h77 boot_sum (a_cons (e_lc (own := [("at", 4), ("many", 5)]) rfl sc__law_ahead.nd (i_e rfl (e_ix rfl (e_callG (gf__law_down c) (hr.mono (by decide)) rfl h76 (passes_call (takes_of rfl rfl rfl rfl) fun _ _ _ _ h => h) (a_cons (e_v (i := 0)) (a_cons (e_v (i := 1)) (a_cons (e_v (i := 3)) a_nil))) (ln1 (ln1 (ln1 ln0)))) e_int (fun _ _ => rfl))) (blkOk_by (N := sl__law_ahead) (sc := defScope st__law_ahead) (by decide +kernel)) (by decide) (fun _ _ _ _ _ => (g_tup rfl rfl (gs_cons (g_name (i := 4) sc__law_ahead.nd rfl) (gs_cons (g_name (i := 5) sc__law_ahead.nd rfl) gs_nil)))) (fun _ _ _ _ _ => ts_nil) (fun _ _ _ _ _ => (e_mul rfl (e_ix rfl (e_v (i := 2)) (e_v (i := 4)) (fun _ _ => rfl)) (e_v (i := 5))))) a_nil)))))
theorem gf__law_spot (c : Wx P w K mg base) : GF P w (Zk K) mg base 1 ("_law_spot", none) 4 ev__law_spot := by
  obtain ⟨fd, D⟩ := c.says.def_ 50 (d := d__law_spot) rfl
  have h29 := He.free_ok c.kin c.ns (c.says.fact 29)
  have h35 := He.free_ok c.kin c.ns (c.says.fact 35)
  have h43 := He.free_ok c.kin c.ns (c.says.fact 43)
  refine GF.mk fd ["script", "sizes", "counts", "number"] (D.ok (k := 0) sc__law_spot rF_len fun cdv A outer s H vs Q E hr h => ⟨_, ?_, rF_start h⟩) (D.bindsN fun _ _ _ _ _ _ us hl => match us, hl with | [_, _, _, _], _ => rfl) D.kp
  exact (ss_cons (s_set (i := 4) sc__law_spot.nd rfl (e_ix rfl (e_v (i := 0)) e_int (fun _ _ => rfl))) (ss_cons (s_if (t_cmp op_ge c_ge (e_v (i := 3)) (e_ix rfl (e_v (i := 2)) (e_v (i := 4)) (fun _ _ => rfl)) (nomark _)) (ss_one (s_ret e_non)) ss_nil) (ss_cons (s_set (i := 5) sc__law_spot.nd rfl e_int) (ss_cons (s_for (passes_of rfl) rfl (i_rg1 rfl h29 (a_cons (e_bf cr_len b_len rfl h35 boot_len (a_cons (e_ix rfl (e_v (i := 0)) e_int (fun _ _ => rfl)) a_nil)) a_nil) (ln1 ln0)) (g_name (i := 6) sc__law_spot.nd rfl) (ss_cons (s_set (i := 7) sc__law_spot.nd rfl (e_ix rfl (e_ix rfl (e_v (i := 0)) e_int (fun _ _ => rfl)) (e_v (i := 4)) (fun _ _ => rfl))) (ss_cons (s_if (t_cmp op_eq c_eq (e_ix rfl (e_v (i := 7)) e_int (fun _ _ => rfl)) e_str (nomark _)) (ss_one s_brk) ss_nil) (ss_cons (s_set (i := 4) sc__law_spot.nd rfl (e_ix rfl (e_v (i := 7)) e_int (fun _ _ => rfl))) (ss_one (s_if (t_cmp op_eq c_eq (e_ix rfl (e_v (i := 7)) e_int (fun _ _ => rfl)) e_str (nomark _)) (ss_cons (s_set (i := 5) sc__law_spot.nd rfl (e_add rfl (e_v (i := 5)) (e_mul rfl (e_fdiv (e_v (i := 3)) (e_ix rfl (e_v (i := 2)) (e_v (i := 4)) (fun _ _ => rfl))) (e_ix rfl (e_v (i := 1)) (e_v (i := 4)) (fun _ _ => rfl))))) (ss_one (s_set (i := 3) sc__law_spot.nd rfl (e_mod (e_bt cr_int b_int rfl h43 PyProof.Rows.boot_int (a_cons (e_v (i := 3)) a_nil)) (e_ix rfl (e_v (i := 2)) (e_v (i := 4)) (fun _ _ => rfl)))))) (ss_one (s_if (t_cmp op_ge c_ge (e_v (i := 3)) (e_ix rfl (e_v (i := 2)) (e_v (i := 4)) (fun _ _ => rfl)) (nomark _)) (ss_cons (s_set (i := 5) sc__law_spot.nd rfl (e_add rfl (e_v (i := 5)) (e_ix rfl (e_v (i := 1)) (e_v (i := 4)) (fun _ _ => rfl)))) (ss_cons (s_set (i := 3) sc__law_spot.nd rfl (e_sub (e_v (i := 3)) (e_ix rfl (e_v (i := 2)) (e_v (i := 4)) (fun _ _ => rfl)))) (ss_one (s_set (i := 4) sc__law_spot.nd rfl (e_ix rfl (e_v (i := 7)) e_int (fun _ _ => rfl)))))) ss_nil)))))))) (ss_one (s_ret (e_v (i := 5))))))))
theorem gf__law_gap (c : Wx P w K mg base) : GF P w (Zk K) mg base 1 ("_law_gap", none) 3 ev__law_gap := by
  obtain ⟨fd, D⟩ := c.says.def_ 51 (d := d__law_gap) rfl
  have h16 := He.free_ok c.kin c.ns (c.says.fact 16)
  refine GF.mk fd ["script", "sizes", "node"] (D.ok (k := 0) sc__law_gap rF_len fun cdv A outer s H vs Q E hr h => ⟨_, ?_, rF_start h⟩) (D.bindsN fun _ _ _ _ _ _ us hl => match us, hl with | [_, _, _], _ => rfl) D.kp
  exact (ss_cons (s_set (i := 3) sc__law_gap.nd rfl (e_lst a_nil)) (ss_cons (s_for (passes_of rfl) rfl (i_e rfl (e_ix rfl (e_v (i := 0)) e_int (fun _ _ => rfl))) (g_name (i := 4) sc__law_gap.nd rfl) (ss_cons (s_if (t_cmp op_eq c_eq (e_ix rfl (e_v (i := 4)) e_int (fun _ _ => rfl)) e_str (nomark _)) (ss_cons (s_ex (e_bmL rfl PySem.F.slot_list_append PySem.F.type_list_append mt_append b_append (e_v (i := 3)) (a_cons (e_if (t_cmp op_eq c_eq (e_ix rfl (e_v (i := 4)) e_int (fun _ _ => rfl)) (e_v (i := 2)) (nomark _)) (e_tup (a_cons e_int (a_cons e_int (a_cons e_non a_nil)))) e_non) a_nil))) (ss_one s_cnt)) ss_nil) (ss_cons (s_set (i := 5) sc__law_gap.nd rfl (e_ix rfl (e_v (i := 3)) (e_ix rfl (e_v (i := 4)) e_int (fun _ _ => rfl)) (fun _ _ => rfl))) (ss_cons (s_set (i := 6) sc__law_gap.nd rfl (e_if (t_cmp op_eq c_eq (e_ix rfl (e_v (i := 4)) e_int (fun _ _ => rfl)) e_str (nomark _)) (e_ix rfl (e_v (i := 3)) (e_ix rfl (e_v (i := 4)) e_int (fun _ _ => rfl)) (fun _ _ => rfl)) (e_if (t_cmp op_gt c_gt (e_ix rfl (e_v (i := 4)) e_int (fun _ _ => rfl)) e_int (nomark _)) (e_v (i := 5)) e_non))) (ss_one (s_if (PW.pt (w_and (t_cmp op_eq c_eq (e_ix rfl (e_v (i := 4)) e_int (fun _ _ => rfl)) e_str (nomark _)) (w_and (t_cmp op_isN c_isN (e_v (i := 5)) e_non (nomark _)) (w_and1 (t_cmp op_notN c_notN (e_v (i := 6)) e_non (nomark _)))))) (ss_one (s_ex (e_bmL rfl PySem.F.slot_list_append PySem.F.type_list_append mt_append b_append (e_v (i := 3)) (a_cons (e_tup (a_cons (e_add rfl (e_ix rfl (e_v (i := 1)) (e_ix rfl (e_v (i := 4)) e_int (fun _ _ => rfl)) (fun _ _ => rfl)) (e_ix rfl (e_v (i := 6)) e_int (fun _ _ => rfl))) (a_cons (e_ix rfl (e_v (i := 6)) e_int (fun _ _ => rfl)) (a_cons (e_ix rfl (e_v (i := 6)) e_int (fun _ _ => rfl)) a_nil)))) a_nil)))) (ss_one (s_if (PW.pt (w_or (t_cmp op_isN c_isN (e_v (i := 5)) e_non (nomark _)) (w_or1 (t_cmp op_isN c_isN (e_v (i := 6)) e_non (nomark _))))) (ss_one (s_ex (e_bmL rfl PySem.F.slot_list_append PySem.F.type_list_append mt_append b_append (e_v (i := 3)) (a_cons (e_if (PW.pt (w_or (t_cmp op_isN c_isN (e_v (i := 5)) e_non (nomark _)) (w_or1 (t_cmp op_eq c_eq (e_ix rfl (e_v (i := 4)) e_int (fun _ _ => rfl)) e_str (nomark _))))) (e_v (i := 5)) (e_tup (a_cons (e_ix rfl (e_v (i := 5)) e_int (fun _ _ => rfl)) (a_cons (e_add rfl (e_ix rfl (e_v (i := 5)) e_int (fun _ _ => rfl)) (e_ix rfl (e_v (i := 1)) (e_ix rfl (e_v (i := 4)) e_int (fun _ _ => rfl)) (fun _ _ => rfl))) (a_cons (e_ix rfl (e_v (i := 5)) e_int (fun _ _ => rfl)) a_nil))))) a_nil)))) (ss_one (s_ex (e_bmL rfl PySem.F.slot_list_append PySem.F.type_list_append mt_append b_append (e_v (i := 3)) (a_cons (e_tup (a_cons (e_ix rfl (e_v (i := 5)) e_int (fun _ _ => rfl)) (a_cons (e_ix rfl (e_v (i := 6)) e_int (fun _ _ => rfl)) (a_cons (e_bf (cr_maxW rfl) b_max rfl h16 boot_max (a_cons (e_add rfl (e_lst (a_cons (e_add rfl (e_ix rfl (e_v (i := 5)) e_int (fun _ _ => rfl)) (e_ix rfl (e_v (i := 6)) e_int (fun _ _ => rfl))) a_nil)) (e_lc (own := [("each", 7)]) rfl sc__law_gap.nd (i_e rfl (e_tup (a_cons (e_v (i := 5)) (a_cons (e_v (i := 6)) a_nil)))) (blkOk_by (N := sl__law_gap) (sc := defScope st__law_gap) (by decide +kernel)) (by decide) (fun _ _ _ _ _ => (g_name (i := 7) sc__law_gap.nd rfl)) (fun _ _ _ _ _ => (ts_one (t_cmp op_notN c_notN (e_ix rfl (e_v (i := 7)) e_int (fun _ _ => rfl)) e_non (nomark _)))) (fun _ _ _ _ _ => (e_ix rfl (e_v (i := 7)) e_int (fun _ _ => rfl))))) a_nil)) a_nil)))) a_nil)))))))))))) (ss_one (s_ret (e_if (t_cmp op_isN c_isN (e_ix rfl (e_v (i := 3)) (e_ix rfl (e_v (i := 0)) e_int (fun _ _ => rfl)) (fun _ _ => rfl)) e_non (nomark _)) e_non (e_ix rfl (e_ix rfl (e_v (i := 3)) (e_ix rfl (e_v (i := 0)) e_int (fun _ _ => rfl)) (fun _ _ => rfl)) e_int (fun _ _ => rfl)))))))
theorem gf__law_stretch (c : Wx P w K mg base) : GF P w (Zk K) mg base 1 ("_law_stretch", none) 3 ev__law_stretch := by
  obtain ⟨fd, D⟩ := c.says.def_ 52 (d := d__law_stretch) rfl
  have h16 := He.free_ok c.kin c.ns (c.says.fact 16)
  have h43 := He.free_ok c.kin c.ns (c.says.fact 43)
  refine GF.mk fd ["script", "sizes", "node"] (D.ok (k := 0) sc__law_stretch rF_len fun cdv A outer s H vs Q E hr h => ⟨_, ?_, rF_start h⟩) (D.bindsN fun _ _ _ _ _ _ us hl => match us, hl with | [_, _, _], _ => rfl) D.kp
  exact (ss_cons (s_set (i := 3) sc__law_stretch.nd rfl (e_lst a_nil)) (ss_cons (s_for (passes_of rfl) rfl (i_e rfl (e_ix rfl (e_v (i := 0)) e_int (fun _ _ => rfl))) (g_name (i := 4) sc__law_stretch.nd rfl) (ss_cons (s_if (t_cmp op_eq c_eq (e_ix rfl (e_v (i := 4)) e_int (fun _ _ => rfl)) e_str (nomark _)) (ss_cons (s_ex (e_bmL rfl PySem.F.slot_list_append PySem.F.type_list_append mt_append b_append (e_v (i := 3)) (a_cons (e_mul rfl (e_tup (a_cons (e_bt cr_int b_int rfl h43 PyProof.Rows.boot_int (a_cons (e_cmp op_eq c_eq (e_ix rfl (e_v (i := 4)) e_int (fun _ _ => rfl)) (e_v (i := 2)) (nomark _)) a_nil)) a_nil)) e_int) a_nil))) (ss_one s_cnt)) ss_nil) (ss_cons (s_set (i := 5) sc__law_stretch.nd rfl (e_ix rfl (e_v (i := 3)) (e_ix rfl (e_v (i := 4)) e_int (fun _ _ => rfl)) (fun _ _ => rfl))) (ss_one (s_if (PW.pt (w_and (t_cmp op_eq c_eq (e_ix rfl (e_v (i := 4)) e_int (fun _ _ => rfl)) e_str (nomark _)) (w_and1 (t_cmp op_eq c_eq (e_ix rfl (e_v (i := 5)) e_int (fun _ _ => rfl)) (e_ix rfl (e_v (i := 1)) (e_ix rfl (e_v (i := 4)) e_int (fun _ _ => rfl)) (fun _ _ => rfl)) (nomark _))))) (ss_one (s_ex (e_bmL rfl PySem.F.slot_list_append PySem.F.type_list_append mt_append b_append (e_v (i := 3)) (a_cons (e_mul rfl (e_tup (a_cons (e_mul rfl (e_ix rfl (e_v (i := 5)) e_int (fun _ _ => rfl)) (e_ix rfl (e_v (i := 4)) e_int (fun _ _ => rfl))) a_nil)) e_int) a_nil)))) (ss_one (s_if (t_cmp op_eq c_eq (e_ix rfl (e_v (i := 4)) e_int (fun _ _ => rfl)) e_str (nomark _)) (ss_one (s_ex (e_bmL rfl PySem.F.slot_list_append PySem.F.type_list_append mt_append b_append (e_v (i := 3)) (a_cons (e_tup (a_cons (e_ix rfl (e_v (i := 5)) e_int (fun _ _ => rfl)) (a_cons (e_ix rfl (e_v (i := 5)) e_int (fun _ _ => rfl)) (a_cons (e_if (t_cmp op_gt c_gt (e_ix rfl (e_v (i := 4)) e_int (fun _ _ => rfl)) e_int (nomark _)) (e_bf (cr_maxW rfl) b_max rfl h16 boot_max (a_cons (e_ix rfl (e_v (i := 5)) e_int (fun _ _ => rfl)) (a_cons (e_add rfl (e_ix rfl (e_v (i := 5)) e_int (fun _ _ => rfl)) (e_ix rfl (e_v (i := 5)) e_int (fun _ _ => rfl))) a_nil))) (e_ix rfl (e_v (i := 5)) e_int (fun _ _ => rfl))) a_nil)))) a_nil)))) (ss_cons (s_set (i := 6) sc__law_stretch.nd rfl (e_ix rfl (e_v (i := 3)) (e_ix rfl (e_v (i := 4)) e_int (fun _ _ => rfl)) (fun _ _ => rfl))) (ss_cons (s_set (i := 7) sc__law_stretch.nd rfl (e_if (t_cmp op_eq c_eq (e_ix rfl (e_v (i := 5)) e_int (fun _ _ => rfl)) (e_ix rfl (e_v (i := 1)) (e_ix rfl (e_v (i := 4)) e_int (fun _ _ => rfl)) (fun _ _ => rfl)) (nomark _)) (e_add rfl (e_ix rfl (e_v (i := 5)) e_int (fun _ _ => rfl)) (e_ix rfl (e_v (i := 6)) e_int (fun _ _ => rfl))) (e_ix rfl (e_v (i := 5)) e_int (fun _ _ => rfl)))) (ss_cons (s_set (i := 8) sc__law_stretch.nd rfl (e_if (t_cmp op_eq c_eq (e_ix rfl (e_v (i := 6)) e_int (fun _ _ => rfl)) (e_ix rfl (e_v (i := 1)) (e_ix rfl (e_v (i := 4)) e_int (fun _ _ => rfl)) (fun _ _ => rfl)) (nomark _)) (e_add rfl (e_ix rfl (e_v (i := 6)) e_int (fun _ _ => rfl)) (e_ix rfl (e_v (i := 5)) e_int (fun _ _ => rfl))) (e_ix rfl (e_v (i := 6)) e_int (fun _ _ => rfl)))) (ss_one (s_ex (e_bmL rfl PySem.F.slot_list_append PySem.F.type_list_append mt_append b_append (e_v (i := 3)) (a_cons (e_tup (a_cons (e_v (i := 7)) (a_cons (e_v (i := 8)) (a_cons (e_bf (cr_maxW rfl) b_max rfl h16 boot_max (a_cons (e_ix rfl (e_v (i := 5)) e_int (fun _ _ => rfl)) (a_cons (e_ix rfl (e_v (i := 6)) e_int (fun _ _ => rfl)) (a_cons (e_add rfl (e_ix rfl (e_v (i := 5)) e_int (fun _ _ => rfl)) (e_ix rfl (e_v (i := 6)) e_int (fun _ _ => rfl))) a_nil)))) a_nil)))) a_nil)))))))))))))) (ss_one (s_ret (e_ix rfl (e_ix rfl (e_v (i := 3)) (e_ix rfl (e_v (i := 0)) e_int (fun _ _ => rfl)) (fun _ _ => rfl)) e_int (fun _ _ => rfl))))))
theorem gf__law_heard (c : Wx P w K mg base) : GF P w (Zk K) mg base 5 ("_law_heard", none) 4 ev__law_heard := by
  obtain ⟨fd, D⟩ := c.says.def_ 53 (d := d__law_heard) rfl
  have h26 := He.glo_ok c.kin c.ns (c.says.fact 26)
  have h78 := He.glo_ok c.kin c.ns (c.says.fact 78)
  have h79 := He.glo_ok c.kin c.ns (c.says.fact 79)
  have h80 := He.glo_ok c.kin c.ns (c.says.fact 80)
  have h81 := He.glo_ok c.kin c.ns (c.says.fact 81)
  have h82 := He.exm_ok (c.says.fact 82)
  have h83 := He.noat_ok (c.says.fact 83)
  refine GF.mk fd ["way", "script", "one", "other"] (D.ok (k := 4) sc__law_heard rF_len fun cdv A outer s H vs Q E hr h => ⟨_, ?_, rF_start h⟩) (D.bindsN fun _ _ _ _ _ _ us hl => match us, hl with | [_, _, _, _], _ => rfl) D.kp
  exact (ss_one (s_tryH (c := 103) (j := 4) (ks := [9]) (ns := ["word"]) rfl rfl rfl sc__law_heard.nd rfl rfl ⟨rfl, rfl, .inl h26⟩ h82 (c.xf "BadStep" (by simp [xfL])) (by intro n hn; simp only [List.mem_cons, List.not_mem_nil, or_false] at hn; rcases hn with rfl <;> first | exact h83) rfl (by decide) rfl rfl (.cons .nil) (fun _ _ => rfl) (fun E pl xx tk => (ss_cons (s_if (t_cmp op_eq c_eq (e_v (i := 0)) e_int (nomark _)) (ss_one (s_ret (e_tup (a_cons e_str (a_cons (e_callK (gk_item_at_K0 c) (hr.mono (by decide)) rfl h78 (passes_call tk fun _ _ _ _ h => h) (k_cons (e_v (i := 2)) (k_cons (e_v (i := 1)) k_nil)) (ln1 (ln1 ln0))) a_nil))))) ss_nil) (ss_cons (s_if (t_cmp op_eq c_eq (e_v (i := 0)) e_int (nomark _)) (ss_one (s_ret (e_tup (a_cons e_str (a_cons (e_callG (gf_items_between c) (hr.mono (by decide)) rfl h79 (passes_call tk fun _ _ _ _ h => h) (a_cons (e_v (i := 1)) (a_cons (e_v (i := 2)) (a_cons (e_v (i := 3)) a_nil))) (ln1 (ln1 (ln1 ln0)))) a_nil))))) ss_nil) (ss_one (s_ret (e_if (t_cmp op_eq c_eq (e_v (i := 0)) e_int (nomark _)) (e_tup (a_cons e_str (a_cons (e_callG (gf_item_place c) (hr.mono (by decide)) rfl h80 (passes_call tk fun _ _ _ _ h => h) (a_cons (e_v (i := 1)) (a_cons (e_v (i := 2)) (a_cons (e_v (i := 3)) a_nil))) (ln1 (ln1 (ln1 ln0)))) a_nil))) (e_tup (a_cons e_str (a_cons (e_callG (gf_bill_ahead c) (hr.mono (by decide)) rfl h81 (passes_call tk fun _ _ _ _ h => h) (a_cons (e_v (i := 2)) (a_cons (e_v (i := 1)) (a_cons (e_v (i := 3)) a_nil))) (ln1 (ln1 (ln1 ln0)))) a_nil)))))))))))
theorem gf__law_place (c : Wx P w K mg base) : GF P w (Zk K) mg base 3 ("_law_place", none) 3 ev__law_place := by
  obtain ⟨fd, D⟩ := c.says.def_ 54 (d := d__law_place) rfl
  have h43 := He.free_ok c.kin c.ns (c.says.fact 43)
  have h65 := He.glo_ok c.kin c.ns (c.says.fact 65)
  have h74 := He.glo_ok c.kin c.ns (c.says.fact 74)
  refine GF.mk fd ["tub", "sizes", "length"] (D.ok (k := 2) sc__law_place rF_len fun cdv A outer s H vs Q E hr h => ⟨_, ?_, rF_start h⟩) (D.bindsN fun _ _ _ _ _ _ us hl => match us, hl with | [_, _, _], _ => rfl) D.kp
  exact (ss_cons (s_set (i := 3) sc__law_place.nd rfl (e_callG (gf__law_dip c) (hr.mono (by decide)) rfl h65 (passes_call (takes_of rfl rfl rfl rfl) fun _ _ _ _ h => h) (a_cons (e_v (i := 0)) (a_cons e_int a_nil)) (ln1 (ln1 ln0)))) (ss_cons (s_if (t_cmp op_lt c_lt (e_v (i := 3)) e_int (nomark _)) (ss_one (s_ret (e_ix rfl (e_tup (a_cons (e_callG (gf__law_dip c) (hr.mono (by decide)) rfl h65 (passes_call (takes_of rfl rfl rfl rfl) fun _ _ _ _ h => h) (a_cons (e_v (i := 0)) (a_cons e_int a_nil)) (ln1 (ln1 ln0))) (a_cons (e_sub (e_sub (e_v (i := 2)) e_int) (e_callG (gf__law_dip c) (hr.mono (by decide)) rfl h65 (passes_call (takes_of rfl rfl rfl rfl) fun _ _ _ _ h => h) (a_cons (e_v (i := 0)) (a_cons e_int a_nil)) (ln1 (ln1 ln0)))) a_nil))) (e_v (i := 3)) (fun _ _ => rfl)))) ss_nil) (ss_cons (s_if (t_cmp op_eq c_eq (e_v (i := 3)) e_int (nomark _)) (ss_one (s_ret (e_add rfl (e_sub (e_callG (gf__law_of c) (hr.mono (by decide)) rfl h74 (passes_call (takes_of rfl rfl rfl rfl) fun _ _ _ _ h => h) (a_cons (e_v (i := 0)) (a_cons (e_v (i := 1)) a_nil)) (ln1 (ln1 ln0))) (e_callG (gf__law_dip c) (hr.mono (by decide)) rfl h65 (passes_call (takes_of rfl rfl rfl rfl) fun _ _ _ _ h => h) (a_cons (e_v (i := 0)) (a_cons e_int a_nil)) (ln1 (ln1 ln0)))) e_int))) ss_nil) (ss_one (s_ret (e_ix rfl (e_tup (a_cons (e_bt cr_int b_int rfl h43 PyProof.Rows.boot_int (a_cons (e_fdiv (e_mul rfl (e_v (i := 2)) (e_callG (gf__law_dip c) (hr.mono (by decide)) rfl h65 (passes_call (takes_of rfl rfl rfl rfl) fun _ _ _ _ h => h) (a_cons (e_v (i := 0)) (a_cons e_int a_nil)) (ln1 (ln1 ln0)))) e_int) a_nil)) (a_cons (e_add rfl (e_mul rfl (e_callG (gf__law_dip c) (hr.mono (by decide)) rfl h65 (passes_call (takes_of rfl rfl rfl rfl) fun _ _ _ _ h => h) (a_cons (e_v (i := 0)) (a_cons (e_pow e_int e_int) a_nil)) (ln1 (ln1 ln0))) (e_pow e_int e_int)) e_int) (a_cons (e_sub (e_neg e_int) (e_callG (gf__law_dip c) (hr.mono (by decide)) rfl h65 (passes_call (takes_of rfl rfl rfl rfl) fun _ _ _ _ h => h) (a_cons (e_v (i := 0)) (a_cons e_int a_nil)) (ln1 (ln1 ln0)))) (a_cons (e_add rfl (e_v (i := 2)) (e_callG (gf__law_dip c) (hr.mono (by decide)) rfl h65 (passes_call (takes_of rfl rfl rfl rfl) fun _ _ _ _ h => h) (a_cons (e_v (i := 0)) (a_cons e_int a_nil)) (ln1 (ln1 ln0)))) a_nil))))) (e_callG (gf__law_dip c) (hr.mono (by decide)) rfl h65 (passes_call (takes_of rfl rfl rfl rfl) fun _ _ _ _ h => h) (a_cons (e_v (i := 0)) (a_cons e_int a_nil)) (ln1 (ln1 ln0))) (fun _ _ => rfl)))))))
theorem gf__law_places_asked (c : Wx P w K mg base) : GF P w (Zk K) mg base 6 ("_law_places_asked", none) 4 ev__law_places_asked := by
  obtain ⟨fd, D⟩ := c.says.def_ 55 (d := d__law_places_asked) rfl
  have h29 := He.free_ok c.kin c.ns (c.says.fact 29)
  have h30 := He.free_ok c.kin c.ns (c.says.fact 30)
  have h65 := He.glo_ok c.kin c.ns (c.says.fact 65)
  have h74 := He.glo_ok c.kin c.ns (c.says.fact 74)
  have h76 := He.glo_ok c.kin c.ns (c.says.fact 76)
  have h84 := He.glo_ok c.kin c.ns (c.says.fact 84)
  have h85 := He.glo_ok c.kin c.ns (c.says.fact 85)
  have h86 := He.glo_ok c.kin c.ns (c.says.fact 86)
  have h87 := He.glo_ok c.kin c.ns (c.says.fact 87)
  have h88 := He.glo_ok c.kin c.ns (c.says.fact 88)
  refine GF.mk fd ["tub", "book", "script", "sizes"] (D.ok (k := 5) sc__law_places_asked rF_len fun cdv A outer s H vs Q E hr h => ⟨_, ?_, rF_start h⟩) (D.bindsN fun _ _ _ _ _ _ us hl => match us, hl with | [_, _, _, _], _ => rfl) D.kp
  exact (ss_cons (s_set (i := 4) sc__law_places_asked.nd rfl (e_ix rfl (e_v (i := 3)) (e_ix rfl (e_v (i := 2)) e_int (fun _ _ => rfl)) (fun _ _ => rfl))) (ss_cons (s_for (passes_of rfl) rfl (i_rg1 rfl h29 (a_cons e_int a_nil) (ln1 ln0)) (g_name (i := 5) sc__law_places_asked.nd rfl) (ss_cons (s_set (i := 6) sc__law_places_asked.nd rfl (e_callG (gf__law_place c) (hr.mono (by decide)) rfl h84 (passes_call (takes_of rfl rfl rfl rfl) fun _ _ _ _ h => h) (a_cons (e_v (i := 0)) (a_cons (e_v (i := 3)) (a_cons (e_v (i := 4)) a_nil))) (ln1 (ln1 (ln1 ln0))))) (ss_cons (s_set (i := 7) sc__law_places_asked.nd rfl (e_if (t_ch2 op_le op_lt c_le c_lt e_int (e_v (i := 6)) (e_v (i := 4))) (e_tup (a_cons e_str (a_cons (e_ix rfl (e_callG (gf__law_down c) (hr.mono (by decide)) rfl h76 (passes_call (takes_of rfl rfl rfl rfl) fun _ _ _ _ h => h) (a_cons (e_v (i := 2)) (a_cons (e_v (i := 3)) (a_cons (e_v (i := 6)) a_nil))) (ln1 (ln1 (ln1 ln0)))) e_int (fun _ _ => rfl)) a_nil))) (e_tup (a_cons e_str (a_cons e_str a_nil))))) (ss_cons (s_if (t_not (t_val rfl (e_callG (gf__law_same c) (hr.mono (by decide)) rfl h86 (passes_call (takes_of rfl rfl rfl rfl) fun _ _ _ _ h => h) (a_cons (e_callG (gf__law_heard c) (hr.mono (by decide)) rfl h85 (passes_call (takes_of rfl rfl rfl rfl) fun _ _ _ _ h => h) (a_cons e_int (a_cons (e_v (i := 2)) (a_cons (e_v (i := 6)) (a_cons e_non a_nil)))) (ln1 (ln1 (ln1 (ln1 ln0))))) (a_cons (e_v (i := 7)) a_nil)) (ln1 (ln1 ln0))))) (ss_one (s_ret e_bl)) ss_nil) (ss_cons (s_set (i := 7) sc__law_places_asked.nd rfl (e_tup (a_cons e_str (a_cons e_str a_nil)))) (ss_cons (s_if (t_ch2 op_le op_le c_le c_le e_int (e_v (i := 6)) (e_v (i := 4))) (ss_one (s_set (i := 7) sc__law_places_asked.nd rfl (e_tup (a_cons e_str (a_cons (e_bt call_tuple_of b_tuple rfl h30 PyProof.Rows.boot_tuple (a_cons (e_lc (own := [("kind", 8)]) rfl sc__law_places_asked.nd (i_e rfl (e_ix rfl (e_v (i := 1)) e_int (fun _ _ => rfl))) (blkOk_by (N := sl__law_places_asked) (sc := defScope st__law_places_asked) (by decide +kernel)) (by decide) (fun _ _ _ _ _ => (g_name (i := 8) sc__law_places_asked.nd rfl)) (fun _ _ _ _ _ => ts_nil) (fun _ _ _ _ _ => (e_callG (gf__law_ahead c) (hr.mono (by decide)) rfl h88 pass_no (a_cons (e_v (i := 2)) (a_cons (e_v (i := 3)) (a_cons (e_callG (gf__law_counts c) (hr.mono (by decide)) rfl h87 pass_no (a_cons (e_v (i := 2)) (a_cons (e_v (i := 8)) a_nil)) (ln1 (ln1 ln0))) (a_cons (e_v (i := 6)) a_nil)))) (ln1 (ln1 (ln1 (ln1 ln0))))))) a_nil)) a_nil))))) ss_nil) (ss_cons (s_if (t_not (t_val rfl (e_callG (gf__law_same c) (hr.mono (by decide)) rfl h86 (passes_call (takes_of rfl rfl rfl rfl) fun _ _ _ _ h => h) (a_cons (e_callG (gf__law_heard c) (hr.mono (by decide)) rfl h85 (passes_call (takes_of rfl rfl rfl rfl) fun _ _ _ _ h => h) (a_cons e_int (a_cons (e_v (i := 2)) (a_cons (e_v (i := 1)) (a_cons (e_v (i := 6)) a_nil)))) (ln1 (ln1 (ln1 (ln1 ln0))))) (a_cons (e_v (i := 7)) a_nil)) (ln1 (ln1 ln0))))) (ss_one (s_ret e_bl)) ss_nil) (ss_cons (s_set (i := 9) sc__law_places_asked.nd rfl (e_add rfl (e_v (i := 6)) (e_callG (gf__law_of c) (hr.mono (by decide)) rfl h74 (passes_call (takes_of rfl rfl rfl rfl) fun _ _ _ _ h => h) (a_cons (e_v (i := 0)) (a_cons (e_tup (a_cons e_int (a_cons e_int (a_cons e_int (a_cons (e_callG (gf__law_dip c) (hr.mono (by decide)) rfl h65 (passes_call (takes_of rfl rfl rfl rfl) fun _ _ _ _ h => h) (a_cons (e_v (i := 0)) (a_cons e_int a_nil)) (ln1 (ln1 ln0))) (a_cons e_int (a_cons e_int (a_cons (e_neg e_int) (a_cons (e_pow e_int e_int) a_nil))))))))) a_nil)) (ln1 (ln1 ln0))))) (ss_cons (s_set (i := 7) sc__law_places_asked.nd rfl (e_tup (a_cons e_str (a_cons e_str a_nil)))) (ss_cons (s_if (t_ch3 op_le op_le op_le c_le c_le c_le e_int (e_v (i := 6)) (e_v (i := 9)) (e_v (i := 4))) (ss_one (s_set (i := 7) sc__law_places_asked.nd rfl (e_if (t_cmp op_gt c_gt (e_sub (e_v (i := 9)) (e_v (i := 6))) e_int (nomark _)) (e_tup (a_cons e_str (a_cons e_str a_nil))) (e_tup (a_cons e_str (a_cons (e_bt call_tuple_of b_tuple rfl h30 PyProof.Rows.boot_tuple (a_cons (e_lc (own := [("at", 10)]) rfl sc__law_places_asked.nd (i_rg2 rfl h29 (a_cons (e_v (i := 6)) (a_cons (e_v (i := 9)) a_nil)) (ln1 (ln1 ln0))) (blkOk_by (N := sl__law_places_asked) (sc := defScope st__law_places_asked) (by decide +kernel)) (by decide) (fun _ _ _ _ _ => (g_name (i := 10) sc__law_places_asked.nd rfl)) (fun _ _ _ _ _ => ts_nil) (fun _ _ _ _ _ => (e_ix rfl (e_callG (gf__law_down c) (hr.mono (by decide)) rfl h76 pass_no (a_cons (e_v (i := 2)) (a_cons (e_v (i := 3)) (a_cons (e_v (i := 10)) a_nil))) (ln1 (ln1 (ln1 ln0)))) e_int (fun _ _ => rfl)))) a_nil)) a_nil)))))) ss_nil) (ss_one (s_if (t_not (t_val rfl (e_callG (gf__law_same c) (hr.mono (by decide)) rfl h86 (passes_call (takes_of rfl rfl rfl rfl) fun _ _ _ _ h => h) (a_cons (e_callG (gf__law_heard c) (hr.mono (by decide)) rfl h85 (passes_call (takes_of rfl rfl rfl rfl) fun _ _ _ _ h => h) (a_cons e_int (a_cons (e_v (i := 2)) (a_cons (e_v (i := 6)) (a_cons (e_v (i := 9)) a_nil)))) (ln1 (ln1 (ln1 (ln1 ln0))))) (a_cons (e_v (i := 7)) a_nil)) (ln1 (ln1 ln0))))) (ss_one (s_ret e_bl)) ss_nil)))))))))))) (ss_one (s_ret e_bl))))
theorem gf__law_items_asked (c : Wx P w K mg base) : GF P w (Zk K) mg base 6 ("_law_items_asked", none) 4 ev__law_items_asked := by
  obtain ⟨fd, D⟩ := c.says.def_ 56 (d := d__law_items_asked) rfl
  have h43 := He.free_ok c.kin c.ns (c.says.fact 43)
  have h65 := He.glo_ok c.kin c.ns (c.says.fact 65)
  have h85 := He.glo_ok c.kin c.ns (c.says.fact 85)
  have h86 := He.glo_ok c.kin c.ns (c.says.fact 86)
  have h87 := He.glo_ok c.kin c.ns (c.says.fact 87)
  have h89 := He.glo_ok c.kin c.ns (c.says.fact 89)
  have h90 := He.glo_ok c.kin c.ns (c.says.fact 90)
  have h91 := He.glo_ok c.kin c.ns (c.says.fact 91)
  have h92 := He.glo_ok c.kin c.ns (c.says.fact 92)
  have h93 := He.glo_ok c.kin c.ns (c.says.fact 93)
  refine GF.mk fd ["tub", "book", "script", "sizes"] (D.ok (k := 5) sc__law_items_asked rF_len fun cdv A outer s H vs Q E hr h => ⟨_, ?_, rF_start h⟩) (D.bindsN fun _ _ _ _ _ _ us hl => match us, hl with | [_, _, _, _], _ => rfl) D.kp
  exact (ss_cons (s_for (passes_of rfl) rfl (i_e rfl (e_add rfl (e_tup (a_cons e_str a_nil)) (e_ix rfl (e_v (i := 1)) e_int (fun _ _ => rfl)))) (g_name (i := 4) sc__law_items_asked.nd rfl) (ss_cons (s_if (t_not (t_val rfl (e_callG (gf__law_same c) (hr.mono (by decide)) rfl h86 (passes_call (takes_of rfl rfl rfl rfl) fun _ _ _ _ h => h) (a_cons (e_tup (a_cons (e_callG (gf_longest_stretch c) (hr.mono (by decide)) rfl h89 (passes_call (takes_of rfl rfl rfl rfl) fun _ _ _ _ h => h) (a_cons (e_v (i := 2)) (a_cons (e_v (i := 4)) a_nil)) (ln1 (ln1 ln0))) (a_cons (e_callK (gk_widest_gap_K0 c) (hr.mono (by decide)) rfl h90 (passes_call (takes_of rfl rfl rfl rfl) fun _ _ _ _ h => h) (k_cons (e_v (i := 4)) (k_cons (e_v (i := 2)) k_nil)) (ln1 (ln1 ln0))) a_nil))) (a_cons (e_tup (a_cons (e_callG (gf__law_stretch c) (hr.mono (by decide)) rfl h91 (passes_call (takes_of rfl rfl rfl rfl) fun _ _ _ _ h => h) (a_cons (e_v (i := 2)) (a_cons (e_v (i := 3)) (a_cons (e_v (i := 4)) a_nil))) (ln1 (ln1 (ln1 ln0)))) (a_cons (e_callG (gf__law_gap c) (hr.mono (by decide)) rfl h92 (passes_call (takes_of rfl rfl rfl rfl) fun _ _ _ _ h => h) (a_cons (e_v (i := 2)) (a_cons (e_v (i := 3)) (a_cons (e_v (i := 4)) a_nil))) (ln1 (ln1 (ln1 ln0)))) a_nil))) a_nil)) (ln1 (ln1 ln0))))) (ss_one (s_ret e_bl)) ss_nil) (ss_cons (s_set (i := 5) sc__law_items_asked.nd rfl (e_callG (gf__law_counts c) (hr.mono (by decide)) rfl h87 (passes_call (takes_of rfl rfl rfl rfl) fun _ _ _ _ h => h) (a_cons (e_v (i := 2)) (a_cons (e_v (i := 4)) a_nil)) (ln1 (ln1 ln0)))) (ss_one (s_for (passes_of rfl) rfl (i_e rfl (e_tup (a_cons e_int (a_cons (e_sub (e_ix rfl (e_v (i := 5)) (e_ix rfl (e_v (i := 2)) e_int (fun _ _ => rfl)) (fun _ _ => rfl)) e_int) (a_cons (e_ix rfl (e_v (i := 5)) (e_ix rfl (e_v (i := 2)) e_int (fun _ _ => rfl)) (fun _ _ => rfl)) (a_cons (e_bt cr_int b_int rfl h43 PyProof.Rows.boot_int (a_cons (e_fdiv (e_mul rfl (e_ix rfl (e_v (i := 5)) (e_ix rfl (e_v (i := 2)) e_int (fun _ _ => rfl)) (fun _ _ => rfl)) (e_callG (gf__law_dip c) (hr.mono (by decide)) rfl h65 (passes_call (takes_of rfl rfl rfl rfl) fun _ _ _ _ h => h) (a_cons (e_v (i := 0)) (a_cons e_int a_nil)) (ln1 (ln1 ln0)))) e_int) a_nil)) a_nil)))))) (g_name (i := 6) sc__law_items_asked.nd rfl) (ss_one (s_if (t_cmp op_ge c_ge (e_v (i := 6)) e_int (nomark _)) (ss_cons (s_set (i := 7) sc__law_items_asked.nd rfl (e_callG (gf__law_spot c) (hr.mono (by decide)) rfl h93 (passes_call (takes_of rfl rfl rfl rfl) fun _ _ _ _ h => h) (a_cons (e_v (i := 2)) (a_cons (e_v (i := 3)) (a_cons (e_v (i := 5)) (a_cons (e_v (i := 6)) a_nil)))) (ln1 (ln1 (ln1 (ln1 ln0)))))) (ss_one (s_if (t_not (t_val rfl (e_callG (gf__law_same c) (hr.mono (by decide)) rfl h86 (passes_call (takes_of rfl rfl rfl rfl) fun _ _ _ _ h => h) (a_cons (e_callG (gf__law_heard c) (hr.mono (by decide)) rfl h85 (passes_call (takes_of rfl rfl rfl rfl) fun _ _ _ _ h => h) (a_cons e_int (a_cons (e_v (i := 2)) (a_cons (e_v (i := 4)) (a_cons (e_v (i := 6)) a_nil)))) (ln1 (ln1 (ln1 (ln1 ln0))))) (a_cons (e_if (t_cmp op_isN c_isN (e_v (i := 7)) e_non (nomark _)) (e_tup (a_cons e_str (a_cons e_str a_nil))) (e_tup (a_cons e_str (a_cons (e_v (i := 7)) a_nil)))) a_nil)) (ln1 (ln1 ln0))))) (ss_one (s_ret e_bl)) ss_nil))) ss_nil))))))) (ss_one (s_ret e_bl)))
theorem gf__law_is_script (c : Wx P w K mg base) : GF P w (Zk K) mg base 1 ("_law_is_script", none) 2 ev__law_is_script := by
  obtain ⟨fd, D⟩ := c.says.def_ 57 (d := d__law_is_script) rfl
  have h29 := He.free_ok c.kin c.ns (c.says.fact 29)
  have h30 := He.free_ok c.kin c.ns (c.says.fact 30)
  have h35 := He.free_ok c.kin c.ns (c.says.fact 35)
  have h43 := He.free_ok c.kin c.ns (c.says.fact 43)
  have h67 := He.free_ok c.kin c.ns (c.says.fact 67)
  have h69 := He.free_ok c.kin c.ns (c.says.fact 69)
  have h70 := He.free_ok c.kin c.ns (c.says.fact 70)
  refine GF.mk fd ["nodes", "thing"] (D.ok (k := 0) sc__law_is_script rF_len fun cdv A outer s H vs Q E hr h => ⟨_, ?_, rF_start h⟩) (D.bindsN fun _ _ _ _ _ _ us hl => match us, hl with | [_, _], _ => rfl) D.kp
  exact (ss_cons (s_if (PW.pt (w_or (t_not (t_val rfl (e_isi1 (tn_tuple rfl h30) rfl h67 (e_v (i := 1))))) (w_or (t_cmp op_ne c_ne (e_bf cr_len b_len rfl h35 boot_len (a_cons (e_v (i := 1)) a_nil)) e_int (nomark _)) (w_or (t_not (t_val rfl (e_isi1 (tn_tuple rfl h30) rfl h67 (e_ix rfl (e_v (i := 1)) e_int (fun _ _ => rfl))))) (w_or1 (t_cmp op_eq c_eq (e_bf cr_len b_len rfl h35 boot_len (a_cons (e_ix rfl (e_v (i := 1)) e_int (fun _ _ => rfl)) a_nil)) e_int (nomark _))))))) (ss_one (s_ret e_bl)) ss_nil) (ss_cons (s_for (passes_of rfl) rfl (i_rg1 rfl h29 (a_cons (e_bf cr_len b_len rfl h35 boot_len (a_cons (e_ix rfl (e_v (i := 1)) e_int (fun _ _ => rfl)) a_nil)) a_nil) (ln1 ln0)) (g_name (i := 2) sc__law_is_script.nd rfl) (ss_cons (s_set (i := 3) sc__law_is_script.nd rfl (e_ix rfl (e_ix rfl (e_v (i := 1)) e_int (fun _ _ => rfl)) (e_v (i := 2)) (fun _ _ => rfl))) (ss_cons (s_if (PW.pt (w_or (t_not (t_val rfl (e_isi1 (tn_tuple rfl h30) rfl h67 (e_v (i := 3))))) (w_or (t_cmp op_lt c_lt (e_bf cr_len b_len rfl h35 boot_len (a_cons (e_v (i := 3)) a_nil)) e_int (nomark _)) (w_or (t_not (t_val rfl (e_isi1 (tn_str rfl h70) rfl h67 (e_ix rfl (e_v (i := 3)) e_int (fun _ _ => rfl))))) (w_or1 (t_cmp op_ne c_ne (e_bf cr_len b_len rfl h35 boot_len (a_cons (e_v (i := 3)) a_nil)) (e_dg (kvs := [("item", 2), ("then", 3), ("times", 3)]) (.cons (.cons (.cons .nil))) hr (e_ix rfl (e_v (i := 3)) e_int (fun _ _ => rfl)) (by simp) (by decide) ⟨rfl, rfl, rfl, rfl⟩) (nomark _))))))) (ss_one (s_ret e_bl)) ss_nil) (ss_cons (s_if (t_cmp op_eq c_eq (e_ix rfl (e_v (i := 3)) e_int (fun _ _ => rfl)) e_str (nomark _)) (ss_cons (s_if (PW.pt (w_or (t_not (t_val rfl (e_isi1 (tn_str rfl h70) rfl h67 (e_ix rfl (e_v (i := 3)) e_int (fun _ _ => rfl))))) (w_or1 (t_cmp o_notIn c_notIn (e_ix rfl (e_v (i := 3)) e_int (fun _ _ => rfl)) (e_v (i := 0)) (by with_unfolding_all rfl))))) (ss_one (s_ret e_bl)) ss_nil) (ss_one s_cnt)) ss_nil) (ss_cons (s_for (passes_of rfl) rfl (i_e rfl (e_sl rfl (e_v (i := 3)) (o_some e_int) o_no)) (g_name (i := 4) sc__law_is_script.nd rfl) (ss_one (s_if (PW.pt (w_or (t_not (t_val rfl (e_isi1 (tn_int rfl h43) rfl h67 (e_v (i := 4))))) (w_or (t_val rfl (e_isi1 (tn_bool rfl h69) rfl h67 (e_v (i := 4)))) (w_or1 (t_cmp op_lt c_lt (e_v (i := 4)) e_int (nomark _)))))) (ss_one (s_ret e_bl)) ss_nil))) (ss_one (s_if (PW.pt (w_or (t_cmp op_ge c_ge (e_ix rfl (e_v (i := 3)) e_int (fun _ _ => rfl)) (e_v (i := 2)) (nomark _)) (w_or (PW.pt (w_and (t_cmp op_eq c_eq (e_ix rfl (e_v (i := 3)) e_int (fun _ _ => rfl)) e_str (nomark _)) (w_and1 (t_cmp op_ge c_ge (e_ix rfl (e_v (i := 3)) e_int (fun _ _ => rfl)) (e_v (i := 2)) (nomark _))))) (w_or1 (PW.pt (w_and (t_cmp op_eq c_eq (e_ix rfl (e_v (i := 3)) e_int (fun _ _ => rfl)) e_str (nomark _)) (w_and1 (t_cmp op_lt c_lt (e_ix rfl (e_v (i := 3)) e_int (fun _ _ => rfl)) e_int (nomark _))))))))) (ss_one (s_ret e_bl)) ss_nil))))))) (ss_one (s_ret (e_and rfl (e_isi1 (tn_int rfl h43) rfl h67 (e_ix rfl (e_v (i := 1)) e_int (fun _ _ => rfl))) (e_and rfl (e_not rfl (e_isi1 (tn_bool rfl h69) rfl h67 (e_ix rfl (e_v (i := 1)) e_int (fun _ _ => rfl)))) (e_one (e_ch2 op_le op_lt c_le c_lt e_int (e_ix rfl (e_v (i := 1)) e_int (fun _ _ => rfl)) (e_bf cr_len b_len rfl h35 boot_len (a_cons (e_ix rfl (e_v (i := 1)) e_int (fun _ _ => rfl)) a_nil))))))))))
theorem gf__law_turned_asked (c : Wx P w K mg base) : GF P w (Zk K) mg base 6 ("_law_turned_asked", none) 4 ev__law_turned_asked := by
  obtain ⟨fd, D⟩ := c.says.def_ 58 (d := d__law_turned_asked) rfl
  have h16 := He.free_ok c.kin c.ns (c.says.fact 16)
  have h29 := He.free_ok c.kin c.ns (c.says.fact 29)
  have h35 := He.free_ok c.kin c.ns (c.says.fact 35)
  have h76 := He.glo_ok c.kin c.ns (c.says.fact 76)
  have h84 := He.glo_ok c.kin c.ns (c.says.fact 84)
  have h85 := He.glo_ok c.kin c.ns (c.says.fact 85)
  have h86 := He.glo_ok c.kin c.ns (c.says.fact 86)
  have h87 := He.glo_ok c.kin c.ns (c.says.fact 87)
  have h89 := He.glo_ok c.kin c.ns (c.says.fact 89)
  have h90 := He.glo_ok c.kin c.ns (c.says.fact 90)
  have h91 := He.glo_ok c.kin c.ns (c.says.fact 91)
  have h92 := He.glo_ok c.kin c.ns (c.says.fact 92)
  have h94 := He.glo_ok c.kin c.ns (c.says.fact 94)
  have h95 := He.glo_ok c.kin c.ns (c.says.fact 95)
  have h96 := He.glo_ok c.kin c.ns (c.says.fact 96)
  have h97 := He.free_ok c.kin c.ns (c.says.fact 97)
  refine GF.mk fd ["tub", "book", "script", "sizes"] (D.ok (k := 5) sc__law_turned_asked rF_len fun cdv A outer s H vs Q E hr h => ⟨_, ?_, rF_start h⟩) (D.bindsN fun _ _ _ _ _ _ us hl => match us, hl with | [_, _, _, _], _ => rfl) D.kp
  exact (ss_cons (s_set (i := 4) sc__law_turned_asked.nd rfl (e_ix rfl (e_v (i := 3)) (e_ix rfl (e_v (i := 2)) e_int (fun _ _ => rfl)) (fun _ _ => rfl))) (ss_cons (s_set (i := 5) sc__law_turned_asked.nd rfl (e_callG (gf_turned_script c) (hr.mono (by decide)) rfl h94 (passes_call (takes_of rfl rfl rfl rfl) fun _ _ _ _ h => h) (a_cons (e_v (i := 2)) a_nil) (ln1 ln0))) (ss_cons (s_if (PW.pt (w_or (t_not (t_val rfl (e_callG (gf__law_is_script c) (hr.mono (by decide)) rfl h95 (passes_call (takes_of rfl rfl rfl rfl) fun _ _ _ _ h => h) (a_cons (e_add rfl (e_tup (a_cons e_str a_nil)) (e_ix rfl (e_v (i := 1)) e_int (fun _ _ => rfl))) (a_cons (e_v (i := 5)) a_nil)) (ln1 (ln1 ln0))))) (w_or1 (t_cmp op_ne c_ne (e_ix rfl (e_callG (gf__law_sizes c) (hr.mono (by decide)) rfl h96 (passes_call (takes_of rfl rfl rfl rfl) fun _ _ _ _ h => h) (a_cons (e_v (i := 5)) a_nil) (ln1 ln0)) (e_ix rfl (e_v (i := 5)) e_int (fun _ _ => rfl)) (fun _ _ => rfl)) (e_v (i := 4)) (nomark _))))) (ss_one (s_ret e_bl)) ss_nil) (ss_cons (s_set (i := 6) sc__law_turned_asked.nd rfl (e_callG (gf__law_sizes c) (hr.mono (by decide)) rfl h96 (passes_call (takes_of rfl rfl rfl rfl) fun _ _ _ _ h => h) (a_cons (e_v (i := 5)) a_nil) (ln1 ln0))) (ss_cons (s_set (i := 7) sc__law_turned_asked.nd rfl (e_cmp op_le c_le (e_bf cr_len b_len rfl h35 boot_len (a_cons (e_ix rfl (e_v (i := 5)) e_int (fun _ _ => rfl)) a_nil)) e_int (nomark _))) (ss_cons (s_for (passes_of rfl) rfl (i_e rfl (e_add rfl (e_tup (a_cons e_str a_nil)) (e_ix rfl (e_v (i := 1)) e_int (fun _ _ => rfl)))) (g_name (i := 8) sc__law_turned_asked.nd rfl) (ss_cons (s_if (t_cmp op_ne c_ne (e_ix rfl (e_callG (gf__law_counts c) (hr.mono (by decide)) rfl h87 (passes_call (takes_of rfl rfl rfl rfl) fun _ _ _ _ h => h) (a_cons (e_v (i := 5)) (a_cons (e_v (i := 8)) a_nil)) (ln1 (ln1 ln0))) (e_ix rfl (e_v (i := 5)) e_int (fun _ _ => rfl)) (fun _ _ => rfl)) (e_ix rfl (e_callG (gf__law_counts c) (hr.mono (by decide)) rfl h87 (passes_call (takes_of rfl rfl rfl rfl) fun _ _ _ _ h => h) (a_cons (e_v (i := 2)) (a_cons (e_v (i := 8)) a_nil)) (ln1 (ln1 ln0))) (e_ix rfl (e_v (i := 2)) e_int (fun _ _ => rfl)) (fun _ _ => rfl)) (nomark _)) (ss_one (s_ret e_bl)) ss_nil) (ss_one (s_if (PW.pt (w_and (t_val rfl (e_v (i := 7))) (w_and1 (t_not (t_val rfl (e_callG (gf__law_same c) (hr.mono (by decide)) rfl h86 (passes_call (takes_of rfl rfl rfl rfl) fun _ _ _ _ h => h) (a_cons (e_tup (a_cons (e_callG (gf_longest_stretch c) (hr.mono (by decide)) rfl h89 (passes_call (takes_of rfl rfl rfl rfl) fun _ _ _ _ h => h) (a_cons (e_v (i := 5)) (a_cons (e_v (i := 8)) a_nil)) (ln1 (ln1 ln0))) (a_cons (e_callG (gf_widest_gap c) (hr.mono (by decide)) rfl h90 (passes_call (takes_of rfl rfl rfl rfl) fun _ _ _ _ h => h) (a_cons (e_v (i := 5)) (a_cons (e_v (i := 8)) a_nil)) (ln1 (ln1 ln0))) a_nil))) (a_cons (e_tup (a_cons (e_callG (gf__law_stretch c) (hr.mono (by decide)) rfl h91 (passes_call (takes_of rfl rfl rfl rfl) fun _ _ _ _ h => h) (a_cons (e_v (i := 2)) (a_cons (e_v (i := 3)) (a_cons (e_v (i := 8)) a_nil))) (ln1 (ln1 (ln1 ln0)))) (a_cons (e_callG (gf__law_gap c) (hr.mono (by decide)) rfl h92 (passes_call (takes_of rfl rfl rfl rfl) fun _ _ _ _ h => h) (a_cons (e_v (i := 2)) (a_cons (e_v (i := 3)) (a_cons (e_v (i := 8)) a_nil))) (ln1 (ln1 (ln1 ln0)))) a_nil))) a_nil)) (ln1 (ln1 ln0)))))))) (ss_one (s_ret e_bl)) ss_nil)))) (ss_cons (s_for (passes_of rfl) rfl (i_rg1 rfl h29 (a_cons e_int a_nil) (ln1 ln0)) (g_name (i := 9) sc__law_turned_asked.nd rfl) (ss_cons (s_set (i := 10) sc__law_turned_asked.nd rfl (e_bf (call_min2 rfl) b_min rfl h97 boot_min (a_cons (e_bf (cr_maxW rfl) b_max rfl h16 boot_max (a_cons e_int (a_cons (e_callG (gf__law_place c) (hr.mono (by decide)) rfl h84 (passes_call (takes_of rfl rfl rfl rfl) fun _ _ _ _ h => h) (a_cons (e_v (i := 0)) (a_cons (e_v (i := 3)) (a_cons (e_v (i := 4)) a_nil))) (ln1 (ln1 (ln1 ln0)))) a_nil))) (a_cons (e_sub (e_v (i := 4)) e_int) a_nil)))) (ss_cons (s_set (i := 8) sc__law_turned_asked.nd rfl (e_ix rfl (e_callG (gf__law_down c) (hr.mono (by decide)) rfl h76 (passes_call (takes_of rfl rfl rfl rfl) fun _ _ _ _ h => h) (a_cons (e_v (i := 2)) (a_cons (e_v (i := 3)) (a_cons (e_v (i := 10)) a_nil))) (ln1 (ln1 (ln1 ln0)))) e_int (fun _ _ => rfl))) (ss_cons (s_if (t_cmp op_ne c_ne (e_ix rfl (e_callG (gf__law_down c) (hr.mono (by decide)) rfl h76 (passes_call (takes_of rfl rfl rfl rfl) fun _ _ _ _ h => h) (a_cons (e_v (i := 5)) (a_cons (e_v (i := 6)) (a_cons (e_sub (e_sub (e_v (i := 4)) e_int) (e_v (i := 10))) a_nil))) (ln1 (ln1 (ln1 ln0)))) e_int (fun _ _ => rfl)) (e_v (i := 8)) (nomark _)) (ss_one (s_ret e_bl)) ss_nil) (ss_one (s_if (PW.pt (w_and (t_val rfl (e_v (i := 7))) (w_and1 (t_not (t_val rfl (e_callG (gf__law_same c) (hr.mono (by decide)) rfl h86 (passes_call (takes_of rfl rfl rfl rfl) fun _ _ _ _ h => h) (a_cons (e_callG (gf__law_heard c) (hr.mono (by decide)) rfl h85 (passes_call (takes_of rfl rfl rfl rfl) fun _ _ _ _ h => h) (a_cons e_int (a_cons (e_v (i := 5)) (a_cons (e_sub (e_sub (e_v (i := 4)) e_int) (e_v (i := 10))) (a_cons e_non a_nil)))) (ln1 (ln1 (ln1 (ln1 ln0))))) (a_cons (e_tup (a_cons e_str (a_cons (e_v (i := 8)) a_nil))) a_nil)) (ln1 (ln1 ln0)))))))) (ss_one (s_ret e_bl)) ss_nil)))))) (ss_one (s_ret e_bl)))))))))
theorem gf__law_lone (c : Wx P w K mg base) : GF P w (Zk K) mg base 3 ("_law_lone", none) 2 ev__law_lone := by
  obtain ⟨fd, D⟩ := c.says.def_ 59 (d := d__law_lone) rfl
  have h65 := He.glo_ok c.kin c.ns (c.says.fact 65)
  have h74 := He.glo_ok c.kin c.ns (c.says.fact 74)
  refine GF.mk fd ["tub", "book"] (D.ok (k := 2) sc__law_lone rF_len fun cdv A outer s H vs Q E hr h => ⟨_, ?_, rF_start h⟩) (D.bindsN fun _ _ _ _ _ _ us hl => match us, hl with | [_, _], _ => rfl) D.kp
  exact (ss_cons (s_set (i := 2) sc__law_lone.nd rfl (e_callG (gf__law_of c) (hr.mono (by decide)) rfl h74 (passes_call (takes_of rfl rfl rfl rfl) fun _ _ _ _ h => h) (a_cons (e_v (i := 0)) (a_cons (e_ix rfl (e_v (i := 1)) e_int (fun _ _ => rfl)) a_nil)) (ln1 (ln1 ln0)))) (ss_cons (s_set (i := 3) sc__law_lone.nd rfl (e_add rfl (e_ix rfl (e_tup (a_cons e_int (a_cons e_int (a_cons e_int (a_cons (e_pow e_int e_int) (a_cons (e_pow e_int e_int) (a_cons (e_pow e_int e_int) (a_cons (e_pow e_int e_int) (a_cons (e_pow e_int e_int) (a_cons (e_pow e_int e_int) a_nil)))))))))) (e_callG (gf__law_dip c) (hr.mono (by decide)) rfl h65 (passes_call (takes_of rfl rfl rfl rfl) fun _ _ _ _ h => h) (a_cons (e_v (i := 0)) (a_cons e_int a_nil)) (ln1 (ln1 ln0))) (fun _ _ => rfl)) (e_callG (gf__law_dip c) (hr.mono (by decide)) rfl h65 (passes_call (takes_of rfl rfl rfl rfl) fun _ _ _ _ h => h) (a_cons (e_v (i := 0)) (a_cons e_int a_nil)) (ln1 (ln1 ln0))))) (ss_cons (s_set (i := 4) sc__law_lone.nd rfl (e_ix rfl (e_tup (a_cons e_int (a_cons e_int (a_cons e_int (a_cons (e_pow e_int e_int) (a_cons (e_pow e_int e_int) (a_cons (e_pow e_int e_int) (a_cons (e_pow e_int e_int) (a_cons (e_pow e_int e_int) a_nil))))))))) (e_callG (gf__law_dip c) (hr.mono (by decide)) rfl h65 (passes_call (takes_of rfl rfl rfl rfl) fun _ _ _ _ h => h) (a_cons (e_v (i := 0)) (a_cons e_int a_nil)) (ln1 (ln1 ln0))) (fun _ _ => rfl))) (ss_cons (s_set (i := 5) sc__law_lone.nd rfl (e_tup (a_cons (e_tup (a_cons e_str (a_cons (e_v (i := 2)) a_nil))) (a_cons (e_tup (a_cons e_str (a_cons e_str a_nil))) (a_cons (e_tup (a_cons e_str (a_cons e_int (a_cons (e_v (i := 3)) a_nil)))) (a_cons (e_tup (a_cons e_str (a_cons e_int (a_cons e_int a_nil)))) (a_cons (e_tup (a_cons e_str (a_cons e_int (a_cons (e_add rfl e_int (e_callG (gf__law_dip c) (hr.mono (by decide)) rfl h65 (passes_call (takes_of rfl rfl rfl rfl) fun _ _ _ _ h => h) (a_cons (e_v (i := 0)) (a_cons e_int a_nil)) (ln1 (ln1 ln0)))) a_nil)))) (a_cons (e_tup (a_cons e_str (a_cons e_int (a_cons e_int a_nil)))) (a_cons (e_tup (a_cons e_str (a_cons e_int (a_cons e_int a_nil)))) (a_cons (e_tup (a_cons e_str (a_cons e_int (a_cons (e_v (i := 4)) a_nil)))) a_nil)))))))))) (ss_one (s_ret (e_tup (a_cons (e_v (i := 5)) (a_cons (e_sub e_int (e_callG (gf__law_dip c) (hr.mono (by decide)) rfl h65 (passes_call (takes_of rfl rfl rfl rfl) fun _ _ _ _ h => h) (a_cons (e_v (i := 0)) (a_cons e_int a_nil)) (ln1 (ln1 ln0)))) a_nil)))))))))
theorem gf__law_scene (c : Wx P w K mg base) : GF P w (Zk K) mg base 8 ("_law_scene", none) 3 ev__law_scene := by
  obtain ⟨fd, D⟩ := c.says.def_ 60 (d := d__law_scene) rfl
  have h100 := He.glo_ok c.kin c.ns (c.says.fact 100)
  have h101 := He.glo_ok c.kin c.ns (c.says.fact 101)
  have h102 := He.glo_ok c.kin c.ns (c.says.fact 102)
  have h103 := He.glo_ok c.kin c.ns (c.says.fact 103)
  have h86 := He.glo_ok c.kin c.ns (c.says.fact 86)
  have h96 := He.glo_ok c.kin c.ns (c.says.fact 96)
  have h98 := He.glo_ok c.kin c.ns (c.says.fact 98)
  have h99 := He.glo_ok c.kin c.ns (c.says.fact 99)
  refine GF.mk fd ["tub", "book", "script"] (D.ok (k := 7) sc__law_scene rF_len fun cdv A outer s H vs Q E hr h => ⟨_, ?_, rF_start h⟩) (D.bindsN fun _ _ _ _ _ _ us hl => match us, hl with | [_, _, _], _ => rfl) D.kp
  exact (ss_cons (s_if (t_not (t_val rfl (e_callG (gf__law_same c) (hr.mono (by decide)) rfl h86 (passes_call (takes_of rfl rfl rfl rfl) fun _ _ _ _ h => h) (a_cons (e_callG (gf_read_script c) (hr.mono (by decide)) rfl h100 (passes_call (takes_of rfl rfl rfl rfl) fun _ _ _ _ h => h) (a_cons (e_v (i := 1)) (a_cons (e_callG (gf__law_loose c) (hr.mono (by decide)) rfl h99 (passes_call (takes_of rfl rfl rfl rfl) fun _ _ _ _ h => h) (a_cons (e_v (i := 0)) (a_cons (e_callG (gf__law_script_text c) (hr.mono (by decide)) rfl h98 (passes_call (takes_of rfl rfl rfl rfl) fun _ _ _ _ h => h) (a_cons (e_v (i := 2)) a_nil) (ln1 ln0)) a_nil)) (ln1 (ln1 ln0))) a_nil)) (ln1 (ln1 ln0))) (a_cons (e_v (i := 2)) a_nil)) (ln1 (ln1 ln0))))) (ss_one (s_ret e_bl)) ss_nil) (ss_cons (s_set (i := 3) sc__law_scene.nd rfl (e_callG (gf__law_sizes c) (hr.mono (by decide)) rfl h96 (passes_call (takes_of rfl rfl rfl rfl) fun _ _ _ _ h => h) (a_cons (e_v (i := 2)) a_nil) (ln1 ln0))) (ss_one (s_ret (e_and rfl (e_callG (gf__law_places_asked c) (hr.mono (by decide)) rfl h101 (passes_call (takes_of rfl rfl rfl rfl) fun _ _ _ _ h => h) (a_cons (e_v (i := 0)) (a_cons (e_v (i := 1)) (a_cons (e_v (i := 2)) (a_cons (e_v (i := 3)) a_nil)))) (ln1 (ln1 (ln1 (ln1 ln0))))) (e_and rfl (e_callG (gf__law_items_asked c) (hr.mono (by decide)) rfl h102 (passes_call (takes_of rfl rfl rfl rfl) fun _ _ _ _ h => h) (a_cons (e_v (i := 0)) (a_cons (e_v (i := 1)) (a_cons (e_v (i := 2)) (a_cons (e_v (i := 3)) a_nil)))) (ln1 (ln1 (ln1 (ln1 ln0))))) (e_one (e_callG (gf__law_turned_asked c) (hr.mono (by decide)) rfl h103 (passes_call (takes_of rfl rfl rfl rfl) fun _ _ _ _ h => h) (a_cons (e_v (i := 0)) (a_cons (e_v (i := 1)) (a_cons (e_v (i := 2)) (a_cons (e_v (i := 3)) a_nil)))) (ln1 (ln1 (ln1 (ln1 ln0))))))))))))
theorem gf__law_by_hand (c : Wx P w K mg base) : GF P w (Zk K) mg base 6 ("_law_by_hand", none) 0 ev__law_by_hand := by
  obtain ⟨fd, D⟩ := c.says.def_ 61 (d := d__law_by_hand) rfl
  have h78 := He.glo_ok c.kin c.ns (c.says.fact 78)
  have h79 := He.glo_ok c.kin c.ns (c.says.fact 79)
  have h80 := He.glo_ok c.kin c.ns (c.says.fact 80)
  have h85 := He.glo_ok c.kin c.ns (c.says.fact 85)
  have h86 := He.glo_ok c.kin c.ns (c.says.fact 86)
  have h89 := He.glo_ok c.kin c.ns (c.says.fact 89)
  have h90 := He.glo_ok c.kin c.ns (c.says.fact 90)
  refine GF.mk fd [] (D.ok (k := 5) sc__law_by_hand rF_len fun cdv A outer s H vs Q E hr h => ⟨_, ?_, rF_start h⟩) (D.bindsN fun _ _ _ _ _ _ us hl => match us, hl with | [], _ => rfl) D.kp
  exact (ss_cons (s_set (i := 0) sc__law_by_hand.nd rfl (e_tup (a_cons (e_tup (a_cons (e_tup (a_cons e_str (a_cons e_str a_nil))) (a_cons (e_tup (a_cons e_str (a_cons e_str a_nil))) (a_cons (e_tup (a_cons e_str (a_cons e_int (a_cons e_int a_nil)))) (a_cons (e_tup (a_cons e_str (a_cons e_int (a_cons e_int a_nil)))) (a_cons (e_tup (a_cons e_str (a_cons e_str a_nil))) (a_cons (e_tup (a_cons e_str (a_cons e_int (a_cons e_int a_nil)))) (a_cons (e_tup (a_cons e_str (a_cons e_int (a_cons e_int a_nil)))) a_nil)))))))) (a_cons e_int a_nil)))) (ss_cons (s_set (i := 1) sc__law_by_hand.nd rfl (e_tup (a_cons (e_callG (gf_longest_stretch c) (hr.mono (by decide)) rfl h89 (passes_call (takes_of rfl rfl rfl rfl) fun _ _ _ _ h => h) (a_cons (e_v (i := 0)) (a_cons e_str a_nil)) (ln1 (ln1 ln0))) (a_cons (e_callG (gf_widest_gap c) (hr.mono (by decide)) rfl h90 (passes_call (takes_of rfl rfl rfl rfl) fun _ _ _ _ h => h) (a_cons (e_v (i := 0)) (a_cons e_str a_nil)) (ln1 (ln1 ln0))) (a_cons (e_callG (gf_widest_gap c) (hr.mono (by decide)) rfl h90 (passes_call (takes_of rfl rfl rfl rfl) fun _ _ _ _ h => h) (a_cons (e_v (i := 0)) (a_cons e_str a_nil)) (ln1 (ln1 ln0))) (a_cons (e_callG (gf_longest_stretch c) (hr.mono (by decide)) rfl h89 (passes_call (takes_of rfl rfl rfl rfl) fun _ _ _ _ h => h) (a_cons (e_tup (a_cons (e_tup (a_cons (e_tup (a_cons e_str (a_cons e_str a_nil))) (a_cons (e_tup (a_cons e_str (a_cons e_int (a_cons e_int a_nil)))) a_nil))) (a_cons e_int a_nil))) (a_cons e_str a_nil)) (ln1 (ln1 ln0))) (a_cons (e_callG (gf_longest_stretch c) (hr.mono (by decide)) rfl h89 (passes_call (takes_of rfl rfl rfl rfl) fun _ _ _ _ h => h) (a_cons (e_v (i := 0)) (a_cons e_str a_nil)) (ln1 (ln1 ln0))) a_nil))))))) (ss_cons (s_if (t_not (t_val rfl (e_callG (gf__law_same c) (hr.mono (by decide)) rfl h86 (passes_call (takes_of rfl rfl rfl rfl) fun _ _ _ _ h => h) (a_cons (e_v (i := 1)) (a_cons (e_tup (a_cons e_int (a_cons e_int (a_cons e_non (a_cons e_int (a_cons e_int a_nil)))))) a_nil)) (ln1 (ln1 ln0))))) (ss_one (s_ret e_bl)) ss_nil) (ss_cons (s_set (i := 1) sc__law_by_hand.nd rfl (e_tup (a_cons (e_callG (gf_item_at c) (hr.mono (by decide)) rfl h78 (passes_call (takes_of rfl rfl rfl rfl) fun _ _ _ _ h => h) (a_cons (e_v (i := 0)) (a_cons e_int a_nil)) (ln1 (ln1 ln0))) (a_cons (e_callG (gf_items_between c) (hr.mono (by decide)) rfl h79 (passes_call (takes_of rfl rfl rfl rfl) fun _ _ _ _ h => h) (a_cons (e_v (i := 0)) (a_cons e_int (a_cons e_int a_nil))) (ln1 (ln1 (ln1 ln0)))) (a_cons (e_callG (gf_item_place c) (hr.mono (by decide)) rfl h80 (passes_call (takes_of rfl rfl rfl rfl) fun _ _ _ _ h => h) (a_cons (e_v (i := 0)) (a_cons e_str (a_cons e_int a_nil))) (ln1 (ln1 (ln1 ln0)))) (a_cons (e_callG (gf_items_between c) (hr.mono (by decide)) rfl h79 (passes_call (takes_of rfl rfl rfl rfl) fun _ _ _ _ h => h) (a_cons (e_v (i := 0)) (a_cons e_int (a_cons e_int a_nil))) (ln1 (ln1 (ln1 ln0)))) a_nil)))))) (ss_cons (s_if (t_not (t_val rfl (e_callG (gf__law_same c) (hr.mono (by decide)) rfl h86 (passes_call (takes_of rfl rfl rfl rfl) fun _ _ _ _ h => h) (a_cons (e_v (i := 1)) (a_cons (e_tup (a_cons e_str (a_cons (e_tup (a_cons e_str (a_cons e_str (a_cons e_str a_nil)))) (a_cons e_int (a_cons (e_tup a_nil) a_nil))))) a_nil)) (ln1 (ln1 ln0))))) (ss_one (s_ret e_bl)) ss_nil) (ss_cons (s_set (i := 1) sc__law_by_hand.nd rfl (e_tup (a_cons (e_callG (gf__law_heard c) (hr.mono (by decide)) rfl h85 (passes_call (takes_of rfl rfl rfl rfl) fun _ _ _ _ h => h) (a_cons e_int (a_cons (e_v (i := 0)) (a_cons e_int (a_cons e_non a_nil)))) (ln1 (ln1 (ln1 (ln1 ln0))))) (a_cons (e_callG (gf__law_heard c) (hr.mono (by decide)) rfl h85 (passes_call (takes_of rfl rfl rfl rfl) fun _ _ _ _ h => h) (a_cons e_int (a_cons (e_v (i := 0)) (a_cons e_int (a_cons e_int a_nil)))) (ln1 (ln1 (ln1 (ln1 ln0))))) (a_cons (e_callG (gf__law_heard c) (hr.mono (by decide)) rfl h85 (passes_call (takes_of rfl rfl rfl rfl) fun _ _ _ _ h => h) (a_cons e_int (a_cons (e_v (i := 0)) (a_cons (e_neg e_int) (a_cons e_int a_nil)))) (ln1 (ln1 (ln1 (ln1 ln0))))) (a_cons (e_callG (gf__law_heard c) (hr.mono (by decide)) rfl h85 (passes_call (takes_of rfl rfl rfl rfl) fun _ _ _ _ h => h) (a_cons e_int (a_cons (e_v (i := 0)) (a_cons e_int (a_cons e_int a_nil)))) (ln1 (ln1 (ln1 (ln1 ln0))))) a_nil)))))) (ss_cons (s_set (i := 1) sc__law_by_hand.nd rfl (e_add rfl (e_v (i := 1)) (e_tup (a_cons (e_callG (gf__law_heard c) (hr.mono (by decide)) rfl h85 (passes_call (takes_of rfl rfl rfl rfl) fun _ _ _ _ h => h) (a_cons e_int (a_cons (e_v (i := 0)) (a_cons e_int (a_cons e_int a_nil)))) (ln1 (ln1 (ln1 (ln1 ln0))))) (a_cons (e_callG (gf__law_heard c) (hr.mono (by decide)) rfl h85 (passes_call (takes_of rfl rfl rfl rfl) fun _ _ _ _ h => h) (a_cons e_int (a_cons (e_v (i := 0)) (a_cons e_str (a_cons e_int a_nil)))) (ln1 (ln1 (ln1 (ln1 ln0))))) (a_cons (e_callG (gf__law_heard c) (hr.mono (by decide)) rfl h85 (passes_call (takes_of rfl rfl rfl rfl) fun _ _ _ _ h => h) (a_cons e_int (a_cons (e_v (i := 0)) (a_cons e_str (a_cons e_int a_nil)))) (ln1 (ln1 (ln1 (ln1 ln0))))) a_nil)))))) (ss_one (s_ret (e_callG (gf__law_same c) (hr.mono (by decide)) rfl h86 (passes_call (takes_of rfl rfl rfl rfl) fun _ _ _ _ h => h) (a_cons (e_v (i := 1)) (a_cons (e_tup (a_cons (e_tup (a_cons e_str (a_cons e_str a_nil))) (a_cons (e_tup (a_cons e_str (a_cons e_str a_nil))) (a_cons (e_tup (a_cons e_str (a_cons e_str a_nil))) (a_cons (e_tup (a_cons e_str (a_cons e_str a_nil))) (a_cons (e_tup (a_cons e_str (a_cons e_str a_nil))) (a_cons (e_tup (a_cons e_str (a_cons e_str a_nil))) (a_cons (e_tup (a_cons e_str (a_cons e_str a_nil))) a_nil)))))))) a_nil)) (ln1 (ln1 ln0))))))))))))
theorem gf_law (c : Wx P w K mg base) : GF P w (Zk K) mg base 9 ("law", none) 1 ev_law := by
  obtain ⟨fd, D⟩ := c.says.def_ 62 (d := d_law) rfl
  have h104 := He.glo_ok c.kin c.ns (c.says.fact 104)
  have h105 := He.glo_ok c.kin c.ns (c.says.fact 105)
  have h106 := He.glo_ok c.kin c.ns (c.says.fact 106)
  have h107 := He.glo_ok c.kin c.ns (c.says.fact 107)
  have h108 := He.glo_ok c.kin c.ns (c.says.fact 108)
  have h109 := He.glo_ok c.kin c.ns (c.says.fact 109)
  have h29 := He.free_ok c.kin c.ns (c.says.fact 29)
  have h65 := He.glo_ok c.kin c.ns (c.says.fact 65)
  refine GF.mk fd ["script"] (D.ok (k := 8) sc_law rF_len fun cdv A outer s H vs Q E hr h => ⟨_, ?_, rF_start h⟩) (D.bindsN fun _ _ _ _ _ _ us hl => match us, hl with | [_], _ => rfl) D.kp
  exact (ss_cons (s_set (i := 1) sc_law.nd rfl (e_callG (gf__law_tub c) (hr.mono (by decide)) rfl h104 (passes_call (takes_of rfl rfl rfl rfl) fun _ _ _ _ h => h) (a_cons (e_v (i := 0)) a_nil) (ln1 ln0))) (ss_cons (s_if (t_not (t_val rfl (e_callG0 (gf__law_by_hand c) (hr.mono (by decide)) rfl h105 (passes_call (takes_of rfl rfl rfl rfl) fun _ _ _ _ h => h)))) (ss_one (s_ret e_bl)) ss_nil) (ss_cons (s_for (passes_of rfl) rfl (i_rg1 rfl h29 (a_cons e_int a_nil) (ln1 ln0)) (g_name (i := 2) sc_law.nd rfl) (ss_cons (s_set (i := 3) sc_law.nd rfl (e_callG (gf__law_book c) (hr.mono (by decide)) rfl h106 (passes_call (takes_of rfl rfl rfl rfl) fun _ _ _ _ h => h) (a_cons (e_v (i := 1)) (a_cons e_int a_nil)) (ln1 (ln1 ln0)))) (ss_cons (s_if (t_not (t_val rfl (e_callG (gf__law_scene c) (hr.mono (by decide)) rfl h108 (passes_call (takes_of rfl rfl rfl rfl) fun _ _ _ _ h => h) (a_cons (e_v (i := 1)) (a_cons (e_v (i := 3)) (a_cons (e_callG (gf__law_script c) (hr.mono (by decide)) rfl h107 (passes_call (takes_of rfl rfl rfl rfl) fun _ _ _ _ h => h) (a_cons (e_v (i := 1)) (a_cons (e_add rfl (e_tup (a_cons e_str a_nil)) (e_ix rfl (e_v (i := 3)) e_int (fun _ _ => rfl))) (a_cons e_int (a_cons (e_pow e_int e_int) a_nil)))) (ln1 (ln1 (ln1 (ln1 ln0))))) a_nil))) (ln1 (ln1 (ln1 ln0)))))) (ss_one (s_ret e_bl)) ss_nil) (ss_one (s_if (t_not (t_val rfl (e_callG (gf__law_scene c) (hr.mono (by decide)) rfl h108 (passes_call (takes_of rfl rfl rfl rfl) fun _ _ _ _ h => h) (a_cons (e_v (i := 1)) (a_cons (e_v (i := 3)) (a_cons (e_callG (gf__law_lone c) (hr.mono (by decide)) rfl h109 (passes_call (takes_of rfl rfl rfl rfl) fun _ _ _ _ h => h) (a_cons (e_v (i := 1)) (a_cons (e_v (i := 3)) a_nil)) (ln1 (ln1 ln0))) a_nil))) (ln1 (ln1 (ln1 ln0)))))) (ss_one (s_ret e_bl)) ss_nil))))) (ss_one (s_ret (e_or rfl (e_cmp op_ne c_ne (e_callG (gf__law_dip c) (hr.mono (by decide)) rfl h65 (passes_call (takes_of rfl rfl rfl rfl) fun _ _ _ _ h => h) (a_cons (e_v (i := 1)) (a_cons e_int a_nil)) (ln1 (ln1 ln0))) e_int (nomark _)) (e_one (e_callG (gf__law_scene c) (hr.mono (by decide)) rfl h108 (passes_call (takes_of rfl rfl rfl rfl) fun _ _ _ _ h => h) (a_cons (e_v (i := 1)) (a_cons (e_v (i := 3)) (a_cons (e_callG (gf__law_script c) (hr.mono (by decide)) rfl h107 (passes_call (takes_of rfl rfl rfl rfl) fun _ _ _ _ h => h) (a_cons (e_v (i := 1)) (a_cons (e_add rfl (e_tup (a_cons e_str a_nil)) (e_ix rfl (e_v (i := 3)) e_int (fun _ _ => rfl))) (a_cons e_int (a_cons (e_pow e_int e_int) a_nil)))) (ln1 (ln1 (ln1 (ln1 ln0))))) a_nil))) (ln1 (ln1 (ln1 ln0)))))))))))
theorem fo_law {mg : Str → Option Value} (cs : He.SaysD faL fnL K) : ∃ fd : FuncData, (∀ (s : Shared) (v : Value), BindsTo s fd ⟨[v], []⟩ [("script", v)]) ∧ ∀ base : Heap, Wx P w K mg base → FnOk P w K mg base (CX P w) 9 (He.ga K "law") fd ["script"] (rF (Zk K) 1 ev_law) := by
  obtain ⟨fd, D⟩ := cs.def_ 62 (d := d_law) rfl
  have b := FunD.bindsA (ps := ["script"]) D fun _ _ _ _ _ _ us hl => match us, hl with | [_], _ => rfl
  refine ⟨fd, fun s v => b s [v] rfl, fun base c => ?_⟩
  have h104 := He.glo_ok c.kin c.ns (c.says.fact 104)
  have h105 := He.glo_ok c.kin c.ns (c.says.fact 105)
  have h106 := He.glo_ok c.kin c.ns (c.says.fact 106)
  have h107 := He.glo_ok c.kin c.ns (c.says.fact 107)
  have h108 := He.glo_ok c.kin c.ns (c.says.fact 108)
  have h109 := He.glo_ok c.kin c.ns (c.says.fact 109)
  have h29 := He.free_ok c.kin c.ns (c.says.fact 29)
  have h65 := He.glo_ok c.kin c.ns (c.says.fact 65)
  refine D.ok (k := 8) sc_law rF_len fun cdv A outer s H vs Q E hr h => ⟨_, ?_, rF_start h⟩
  exact (ss_cons (s_set (i := 1) sc_law.nd rfl (e_callG (gf__law_tub c) (hr.mono (by decide)) rfl h104 (passes_call (takes_of rfl rfl rfl rfl) fun _ _ _ _ h => h) (a_cons (e_v (i := 0)) a_nil) (ln1 ln0))) (ss_cons (s_if (t_not (t_val rfl (e_callG0 (gf__law_by_hand c) (hr.mono (by decide)) rfl h105 (passes_call (takes_of rfl rfl rfl rfl) fun _ _ _ _ h => h)))) (ss_one (s_ret e_bl)) ss_nil) (ss_cons (s_for (passes_of rfl) rfl (i_rg1 rfl h29 (a_cons e_int a_nil) (ln1 ln0)) (g_name (i := 2) sc_law.nd rfl) (ss_cons (s_set (i := 3) sc_law.nd rfl (e_callG (gf__law_book c) (hr.mono (by decide)) rfl h106 (passes_call (takes_of rfl rfl rfl rfl) fun _ _ _ _ h => h) (a_cons (e_v (i := 1)) (a_cons e_int a_nil)) (ln1 (ln1 ln0)))) (ss_cons (s_if (t_not (t_val rfl (e_callG (gf__law_scene c) (hr.mono (by decide)) rfl h108 (passes_call (takes_of rfl rfl rfl rfl) fun _ _ _ _ h => h) (a_cons (e_v (i := 1)) (a_cons (e_v (i := 3)) (a_cons (e_callG (gf__law_script c) (hr.mono (by decide)) rfl h107 (passes_call (takes_of rfl rfl rfl rfl) fun _ _ _ _ h => h) (a_cons (e_v (i := 1)) (a_cons (e_add rfl (e_tup (a_cons e_str a_nil)) (e_ix rfl (e_v (i := 3)) e_int (fun _ _ => rfl))) (a_cons e_int (a_cons (e_pow e_int e_int) a_nil)))) (ln1 (ln1 (ln1 (ln1 ln0))))) a_nil))) (ln1 (ln1 (ln1 ln0)))))) (ss_one (s_ret e_bl)) ss_nil) (ss_one (s_if (t_not (t_val rfl (e_callG (gf__law_scene c) (hr.mono (by decide)) rfl h108 (passes_call (takes_of rfl rfl rfl rfl) fun _ _ _ _ h => h) (a_cons (e_v (i := 1)) (a_cons (e_v (i := 3)) (a_cons (e_callG (gf__law_lone c) (hr.mono (by decide)) rfl h109 (passes_call (takes_of rfl rfl rfl rfl) fun _ _ _ _ h => h) (a_cons (e_v (i := 1)) (a_cons (e_v (i := 3)) a_nil)) (ln1 (ln1 ln0))) a_nil))) (ln1 (ln1 (ln1 ln0)))))) (ss_one (s_ret e_bl)) ss_nil))))) (ss_one (s_ret (e_or rfl (e_cmp op_ne c_ne (e_callG (gf__law_dip c) (hr.mono (by decide)) rfl h65 (passes_call (takes_of rfl rfl rfl rfl) fun _ _ _ _ h => h) (a_cons (e_v (i := 1)) (a_cons e_int a_nil)) (ln1 (ln1 ln0))) e_int (nomark _)) (e_one (e_callG (gf__law_scene c) (hr.mono (by decide)) rfl h108 (passes_call (takes_of rfl rfl rfl rfl) fun _ _ _ _ h => h) (a_cons (e_v (i := 1)) (a_cons (e_v (i := 3)) (a_cons (e_callG (gf__law_script c) (hr.mono (by decide)) rfl h107 (passes_call (takes_of rfl rfl rfl rfl) fun _ _ _ _ h => h) (a_cons (e_v (i := 1)) (a_cons (e_add rfl (e_tup (a_cons e_str a_nil)) (e_ix rfl (e_v (i := 3)) e_int (fun _ _ => rfl))) (a_cons e_int (a_cons (e_pow e_int e_int) a_nil)))) (ln1 (ln1 (ln1 (ln1 ln0))))) a_nil))) (ln1 (ln1 (ln1 ln0)))))))))))
end
end VE
end
section
set_option Elab.async false
set_option linter.all false
set_option maxRecDepth 100000
set_option maxHeartbeats 0
namespace VE
open PySem PySem.Spec PyProof.Rows L2
abbrev R94 : PySem.W.OpenRow := PySem.W.OpenLaw.row PySem.Challenge.rw_followon_k94_whole_far_places
def topSup : Bool := (R94.prog.main.scope.names.lookup ("super" : Str)).isSome.not
def tsL : List He.Tab := tabL.map fun t => (fun K => He.ga K t.1, t.2.map (·.1))
def bookB (K : PySem.W.Frag) : Bool := PySem.W.nsOkIn K cStatics && He.eqO (PySem.W.nsIn K cStatics sharingNotToldKey) (some none)
def bsL (K : PySem.W.Frag) : Bool := (tabL.all fun t => He.valsB K (He.ga K t.1) (t.2.map fun kv => (kv.1, He.Dv.int kv.2))) && (xfL.all (fun x => xfB K (He.ga K x)) && bookB K)
abbrev hk : PySem.W.Hook := HV.hookV 5 R94.prog.main.file topSup faL fnL tsL exL bsL
def ob (s : PySem.W.SharedT) : HV.AlV := HV.obsVG 5 R94.prog.main.file topSup faL fnL tsL exL bsL (HandSHeadRun.getT s)
theorem ob_eq (s : PySem.W.SharedT) : ob s = hk.obs s.abs := HV.obsVG_eq (HandSHeadRun.getT_eq s)
def loose94 : List Str := (["FIGURES", "BREAK", "BREAK_WORD", "NUMBER_MOST", "LENGTH_MOST", "PARTS_MOST", "WORD_MOST", "LINES_MOST", "LINE_MOST", "WRITTEN_MOST", "BookError", "CallError", "TextError", "BadStep", "BadText"] : List Str) ++ (["operands", "part_length", "part_lengths", "script_length", "Runs", "longest_stretch", "Gaps", "wider", "gaps_then", "gaps_times", "widest_gap", "node_down", "item_at", "items_between", "part_numbers"] : List Str) ++ (["number_ahead", "bill_ahead", "item_place", "turned_script", "text_lines", "words_of", "passed_over", "beyond_limit", "counted_lines", "written_big", "written_integer", "written_within", "node_of_word", "WORD_COUNTS", "Reader"] : List Str) ++ (["read_script", "_law_tub", "_law_dip", "_law_of", "_law_some", "_law_same", "_law_book", "_law_script", "_law_node", "_law_script_text", "_law_loose", "_law_sizes", "_law_counts", "_law_down", "_law_ahead"] : List Str) ++ (["_law_spot", "_law_gap", "_law_stretch", "_law_heard", "_law_place", "_law_places_asked", "_law_items_asked", "_law_is_script", "_law_turned_asked", "_law_lone", "_law_scene", "_law_by_hand"] : List Str)
abbrev runP (w : World) : Prop := HandSHeadRun.RunEq R94 (PySem.W.view R94.prog [80]) hk ob 4200 loose94 w
theorem runF (w : World) : runP (w.withFollow "special-get-raises" false) := by intro os; kernel_rfl
end VE
end
section
set_option Elab.async false
set_option linter.all false
set_option maxRecDepth 100000
set_option maxHeartbeats 0
namespace VE
open PySem PySem.Spec PyProof.Rows L2
def LawT (f : F) : Prop := (∀ ns : List Int, ns.length ≤ 63 → (∀ z ∈ ns, Builtin.Int.intBits z ≤ 1048576) → ∃ h, f [.ref 0] [.ro (ns.map W.int)] = .ok (.bl true) h) ∧ ∀ ns : List Int, ns.length ≤ 63 → (∀ z ∈ ns, Builtin.Int.intBits z ≤ 1048576) → ∃ h, f [.kl ns] [] = .ok (.bl true) h
theorem rel_true {Z : Zx} {α : List Addr} {H : Hp} {v : V} (h : RelW Z α H (.bl true) v) : v = .bl true := by cases h; rfl
theorem rF_true {Z : Zx} {f : F} (T : LawT f) {H : Hp} {a : Addr} {ns : List Int} (hl : ns.length ≤ 63) (hb : ∀ z ∈ ns, Builtin.Int.intBits z ≤ 1048576) (hS : SqL Z.K H a (ns.map V.int)) : rF Z 1 f [.ref a] H (fun v _ => v = .bl true) fun _ _ _ => False := by
  rcases hS with r | r
  · obtain ⟨h, e⟩ := T.1 ns hl hb
    refine ⟨[a], [.ro (ns.map W.int)], [.ref 0], ⟨rfl, by simp, fun i o b e1 e2 => ?_⟩, .cons (.ref rfl) .nil, rfl, ?_⟩
    · cases i with
      | zero =>
        cases e1; cases e2
        exact ⟨_, r, RelWs.ofInts ns⟩
      | succ i => simp at e1
    · rw [e]
      exact fun α' H' x hr v rv => rel_true rv
  · obtain ⟨h, e⟩ := T.2 ns hl hb
    refine ⟨[], [], [.kl ns], ⟨rfl, by simp, fun i o b e1 e2 => by simp at e1⟩, .cons (.kl r) .nil, rfl, ?_⟩
    rw [e]
    exact fun α' H' x hr v rv => rel_true rv
theorem ba {a b : Bool} (h : (a && b) = true) : a = true ∧ b = true := Bool.and_eq_true_iff.mp h
theorem wx_of {w : World} {K : PySem.W.Frag} {mg : Str → Option Value} {base : Heap} (c : HV.SaysV R94.prog.main.file topSup faL fnL tsL exL bsL w K) (kin : K.In base) (ns : base.Ns mainGlobals mg) : Wx R94.prog w K mg base := by
  have hb := c.b
  obtain ⟨b1, hb⟩ := ba hb
  obtain ⟨b2, b3⟩ := ba hb
  refine ⟨c.t.d, kin, ns, fun i d h => HV.SaysV.exc (P := R94.prog) c i h, fun x hx => xfB_ok (List.all_eq_true.mp b2 x hx), fun t ht => ?_, fun h X => ?_⟩
  · have v := List.all_eq_true.mp b1 t ht
    obtain ⟨i, hi, ei⟩ := List.mem_iff_getElem.mp ht
    have e : tsL[i]? = some (fun K => He.ga K t.1, t.2.map (·.1)) := by
      unfold tsL
      rw [List.getElem?_map, List.getElem?_eq_getElem hi, ei]; rfl
    have z : tsL.map (fun t => He.dicW K (t.1 K)) = tsL.map fun t => some (He.keysIn w.params t.2) := congrArg (fun z : He.AlT => z.2) c.t
    have z2 := congrArg (·[i]?) z
    simp only [List.getElem?_map, e, Option.map_some, Option.some.injEq] at z2
    exact gd_of z2 v
  · obtain ⟨q1, q2⟩ := ba b3
    have X2 := PySem.W.isNs_of_in X q1
    have q3 := PySem.W.nsMap_none_of_in X q1 (He.eqO_ok q2)
    exact ⟨_, .of_isNs X2, q3⟩
end VE
end
section
set_option Elab.async false
set_option linter.all false
set_option maxRecDepth 100000
set_option maxHeartbeats 0
namespace VE
open PySem PySem.Spec PyProof.Rows L2
theorem runT (w : World) : runP (w.withFollow "special-get-raises" true) := by intro os; kernel_rfl
end VE
end
section
set_option Elab.async false
set_option linter.all false
set_option maxRecDepth 100000
set_option maxHeartbeats 0
namespace VE
open PySem PySem.Spec PyProof.Rows L2
theorem run94 (w : World) : runP w := PySem.W.byRow2 "special-get-raises" runF runT w
end VE
open PySem PySem.W PySem.Calls PyProof.Rows
theorem VE.end94 (T : VE.LawT VE.ev_law) : PySem.Challenge.rw_followon_k94_whole_far_places.Holds := by
  w_on; o_law
  refine HandSHeadRun.head_any (r := OpenLaw.row PySem.Challenge.rw_followon_k94_whole_far_places) (q := view (OpenLaw.row PySem.Challenge.rw_followon_k94_whole_far_places).prog [80]) (H := VE.hk) (ob := VE.ob) (M := 4200) (loose := VE.loose94) (d := HandSHeadRun.topDef (OpenLaw.row PySem.Challenge.rw_followon_k94_whole_far_places).prog 80) (kwd := []) VE.ob_eq
    (by kernel_rfl) (fun s => by kernel_rfl) VE.run94 (by kernel_rfl) (by kernel_rfl) (by kernel_rfl) (by rfl) (by first | assumption | decide +kernel) (by decide +kernel) ⟨rfl, rfl, rfl, rfl, rfl, by decide +kernel⟩ ?hw ?hc
  case hw => w_witness2
  case hc =>
    refine LamX.walk_ofTsE (l := PySem.Challenge.rw_followon_k94_whole_far_places) (n := 63) (k := 9) (x := "script") (CX := fun w => L2.CX R94.prog w) rfl (by decide) (by kernel_rfl) ⟨rfl, by decide, by decide⟩ ?F (fun w H s e s' z => ?_)
    · intro w mg fa h Y G hmg0
      obtain ⟨K, KX, c⟩ := Y
      have hmg : mg ("law" : PySem.Str) = some (.ref fa) := by
        have e : (HandSHeadRun.topDef (OpenLaw.row PySem.Challenge.rw_followon_k94_whole_far_places).prog 80).name = ("law" : PySem.Str) := by kernel_rfl
        rw [← e]
        exact hmg0
      have e := hmg.symm.trans (He.glo_ok KX G (c.t.d.fact VE.ixLaw (f := .glo "law") rfl))
      cases e
      obtain ⟨fd, hb, hF⟩ := VE.fo_law (P := VE.R94.prog) (w := w) (mg := mg) c.t.d
      exact ⟨K, KX, fd, [], VE.rF (VE.Zk K) 1 VE.ev_law, fun p hp => by simp at hp, fun p hp => by simp at hp, fun p hp => by simp at hp, hb, fun H a ns hl hbt _ hS => VE.rF_true T hl hbt hS, fun base kin hns _ => hF base (VE.wx_of c kin hns)⟩
    · obtain ⟨_, _, _, _, _, _, _, _, _, _, _, _, hW⟩ := z
      exact hW.elim
end
section
set_option Elab.async false
set_option linter.all false
set_option autoImplicit false
set_option maxRecDepth 100000
namespace VE
open PySem
@[simp] theorem eV_eq (i : Nat) (σ : Sg) (h : He) : eV i σ h = (match σ[i]? with
  | some (some w) => .ok w h
  | _ => .bad) := rfl
@[simp] theorem eK_eq (w : W) (z0 : Sg) (h : He) : eK w z0 h = (.ok w h) := rfl
@[simp] theorem esN_eq (z0 : Sg) (h : He) : esN  z0 h = (.ok [] h) := rfl
@[simp] theorem esC_eq (e : E) (r : ES) (σ : Sg) (h : He) : esC e r σ h = ((e σ h).bind fun w h => (r σ h).bind fun ws h => .ok (w :: ws) h) := rfl
@[simp] theorem eTup_eq (es : ES) (σ : Sg) (h : He) : eTup es σ h = ((es σ h).bind fun ws h => if ws.length ≤ 1000 then .ok (.tup ws) h else .bad) := rfl
@[simp] theorem eLst_eq (es : ES) (σ : Sg) (h : He) : eLst es σ h = ((es σ h).bind fun ws h => if ws.length ≤ 1000 then .ok (.ref h.length) (h ++ [.lst ws]) else .bad) := rfl
@[simp] theorem eBin_eq (o : Op2) (a b : E) (σ : Sg) (h : He) : eBin o a b σ h = ((a σ h).bind fun x h => (b σ h).bind fun y h => binW h o x y) := rfl
@[simp] theorem eNeg_eq (a : E) (σ : Sg) (h : He) : eNeg a σ h = ((a σ h).bind fun x h => match x with
  | .int i => .ok (.int (-i)) h
  | _ => .bad) := rfl
@[simp] theorem eAnd_eq (a b : E) (σ : Sg) (h : He) : eAnd a b σ h = ((a σ h).bind fun x h => (truR h x).bind fun t h => if t then b σ h else .ok x h) := rfl
@[simp] theorem eOr_eq (a b : E) (σ : Sg) (h : He) : eOr a b σ h = ((a σ h).bind fun x h => (truR h x).bind fun t h => if t then .ok x h else b σ h) := rfl
@[simp] theorem tV_eq (e : E) (σ : Sg) (h : He) : tV e σ h = ((e σ h).bind fun x h => truR h x) := rfl
@[simp] theorem tCmp_eq (o : Cm) (a b : E) (σ : Sg) (h : He) : tCmp o a b σ h = ((a σ h).bind fun x h => (b σ h).bind fun y h => cmpR h o x y) := rfl
@[simp] theorem tCh2_eq (o₁ o₂ : Cm) (a b c : E) (σ : Sg) (h : He) : tCh2 o₁ o₂ a b c σ h = ((a σ h).bind fun x h => (b σ h).bind fun y h => (cmpR h o₁ x y).bind fun k h => if k then (c σ h).bind fun z h => cmpR h o₂ y z else .ok false h) := rfl
@[simp] theorem tCh3_eq (o₁ o₂ o₃ : Cm) (a b c d : E) (σ : Sg) (h : He) : tCh3 o₁ o₂ o₃ a b c d σ h = ((a σ h).bind fun x h => (b σ h).bind fun y h => (cmpR h o₁ x y).bind fun k h => if k then
    (c σ h).bind fun z h => (cmpR h o₂ y z).bind fun k h => if k then (d σ h).bind fun u h => cmpR h o₃ z u else .ok false h
  else .ok false h) := rfl
@[simp] theorem tNot_eq (t : T) (σ : Sg) (h : He) : tNot t σ h = ((t σ h).bind fun b h => .ok (!b) h) := rfl
@[simp] theorem tAnd_eq (t u : T) (σ : Sg) (h : He) : tAnd t u σ h = ((t σ h).bind fun b h => if b then u σ h else .ok false h) := rfl
@[simp] theorem tOr_eq (t u : T) (σ : Sg) (h : He) : tOr t u σ h = ((t σ h).bind fun b h => if b then .ok true h else u σ h) := rfl
@[simp] theorem tYes_eq (z0 : Sg) (h : He) : tYes  z0 h = (.ok true h) := rfl
@[simp] theorem eB_eq (t : T) (σ : Sg) (h : He) : eB t σ h = ((t σ h).bind fun b h => .ok (.bl b) h) := rfl
@[simp] theorem eIsi_eq (ts : List Ty) (e : E) (σ : Sg) (h : He) : eIsi ts e σ h = ((e σ h).bind fun x h => Rs.lift ((tyW h x).map fun t => .bl (ts.any fun T => isTy t T)) h) := rfl
@[simp] theorem eIf_eq (t : T) (a b : E) (σ : Sg) (h : He) : eIf t a b σ h = ((t σ h).bind fun c h => if c then a σ h else b σ h) := rfl
@[simp] theorem eCall_eq (f : F) (es : ES) (σ : Sg) (h : He) : eCall f es σ h = ((es σ h).bind fun ws h => f ws h) := rfl
@[simp] theorem eMeth_eq (c m : Nat) (f : F) (o : E) (es : ES) (σ : Sg) (h : He) : eMeth c m f o es σ h = ((o σ h).bind fun x h => if isIns h c m x then (es σ h).bind fun ws h => f (x :: ws) h else .bad) := rfl
@[simp] theorem eNew_eq (c : Nat) (f : F) (es : ES) (σ : Sg) (h : He) : eNew c f es σ h = ((es σ h).bind fun ws h => (f (.ref h.length :: ws) (h ++ [.ins c []])).bind fun r h' => match r with
  | .non => .ok (.ref h.length) h'
  | _ => .bad) := rfl
@[simp] theorem eFld_eq (cs : List Nat) (f : Nat) (o : E) (σ : Sg) (h : He) : eFld cs f o σ h = ((o σ h).bind fun x h => Rs.lift (getF h cs x f) h) := rfl
@[simp] theorem eIx_eq (a b : E) (σ : Sg) (h : He) : eIx a b σ h = ((a σ h).bind fun x h => (b σ h).bind fun y h => match y with
  | .int i => Rs.lift (ixv h x i) h
  | _ => .bad) := rfl
@[simp] theorem pNo_eq (z0 : Sg) (h : He) : pNo  z0 h = (.ok none h) := rfl
@[simp] theorem pSome_eq (e : E) (σ : Sg) (h : He) : pSome e σ h = ((e σ h).bind fun x h => match x with
  | .int i => .ok (some i) h
  | _ => .bad) := rfl
@[simp] theorem eSl_eq (a : E) (lo hi : EP) (σ : Sg) (h : He) : eSl a lo hi σ h = ((a σ h).bind fun x h => (lo σ h).bind fun l h => (hi σ h).bind fun u h => slW h x l u) := rfl
@[simp] theorem gV_eq (i : Nat) (w : W) (σ : Sg) (h : He) : gV i w σ h = (if i < σ.length then .ok (σ.set i (some w)) h else .bad) := rfl
@[simp] theorem gsN_eq (ws : List W) (σ : Sg) (h : He) : gsN  ws σ h = (match ws with
  | [] => .ok σ h
  | _ => .bad) := rfl
@[simp] theorem gsC_eq (g : G) (r : GS) (ws : List W) (σ : Sg) (h : He) : gsC g r ws σ h = (match ws with
  | w :: ws => (g w σ h).bind fun σ h => r ws σ h
  | [] => .bad) := rfl
@[simp] theorem gTup_eq (n : Nat) (g : GS) (w : W) (σ : Sg) (h : He) : gTup n g w σ h = (match w with
  | .tup ws => if ws.length = n then g ws σ h else .bad
  | _ => .bad) := rfl
@[simp] theorem gIx_eq (a b : E) (w : W) (σ : Sg) (h : He) : gIx a b w σ h = ((a σ h).bind fun x h => (b σ h).bind fun y h => match setI h x y w with
  | some h => .ok σ h
  | none => .bad) := rfl
@[simp] theorem iE_eq (e : E) (σ : Sg) (h : He) : iE e σ h = ((e σ h).bind fun x h => Rs.lift (itOf h x) h) := rfl
@[simp] theorem iRg_eq (es : ES) (σ : Sg) (h : He) : iRg es σ h = ((es σ h).bind fun ws h => Rs.lift ((rgW ws).map .fix) h) := rfl
@[simp] theorem sNil_eq (σ : Sg) (h : He) : sNil  σ h = (.ok (.nx σ) h) := rfl
@[simp] theorem sSeq_eq (a b : S) (σ : Sg) (h : He) : sSeq a b σ h = ((a σ h).bind fun f h => match f with
  | .nx σ => b σ h
  | f => .ok f h) := rfl
@[simp] theorem sAsg_eq (g : G) (e : E) (σ : Sg) (h : He) : sAsg g e σ h = ((e σ h).bind fun w h => (g w σ h).bind fun σ h => .ok (.nx σ) h) := rfl
@[simp] theorem sFld_eq (cs : List Nat) (o : E) (f : Nat) (e : E) (σ : Sg) (h : He) : sFld cs o f e σ h = ((e σ h).bind fun w h => (o σ h).bind fun x h => match setF h cs x f w with
  | some h => .ok (.nx σ) h
  | none => .bad) := rfl
@[simp] theorem sPar_eq (i j : Nat) (es : ES) (σ : Sg) (h : He) : sPar i j es σ h = ((es σ h).bind fun ws h => match ws with
  | [v, w] => .ok (.nx ((σ.set i (some v)).set j (some w))) h
  | _ => .bad) := rfl
@[simp] theorem sAug_eq (i : Nat) (o : Op2) (e : E) (σ : Sg) (h : He) : sAug i o e σ h = (match σ[i]? with
  | some (some (.int x)) => (e σ h).bind fun y h => match o, y with
    | .add, .int y => .ok (.nx (σ.set i (some (.int (x + y))))) h
    | .sub, .int y => .ok (.nx (σ.set i (some (.int (x - y))))) h
    | _, _ => .bad
  | _ => .bad) := rfl
@[simp] theorem sEx_eq (e : E) (σ : Sg) (h : He) : sEx e σ h = ((e σ h).bind fun _ h => .ok (.nx σ) h) := rfl
@[simp] theorem sRet_eq (e : E) (σ : Sg) (h : He) : sRet e σ h = ((e σ h).bind fun w h => .ok (.rt w) h) := rfl
@[simp] theorem sRet0_eq (z0 : Sg) (h : He) : sRet0  z0 h = (.ok (.rt .non) h) := rfl
@[simp] theorem sIf_eq (t : T) (a b : S) (σ : Sg) (h : He) : sIf t a b σ h = ((t σ h).bind fun c h => if c then a σ h else b σ h) := rfl
@[simp] theorem sBrk_eq (σ : Sg) (h : He) : sBrk  σ h = (.ok (.bk σ) h) := rfl
@[simp] theorem sCnt_eq (σ : Sg) (h : He) : sCnt  σ h = (.ok (.ct σ) h) := rfl
@[simp] theorem eStrMul_eq (a b : E) (σ : Sg) (h : He) : eStrMul a b σ h = ((a σ h).bind fun x h => (b σ h).bind fun y h => match x, y with
  | .str x, .int n => if 0 ≤ n ∧ n ≤ 1000 ∧ x.length ≤ 1000 then .ok (.str (repW x n)) h else .bad
  | _, _ => .bad) := rfl
@[simp] theorem eCallK_eq (ps : List Nat) (f : F) (es : ES) (σ : Sg) (h : He) : eCallK ps f es σ h = ((es σ h).bind fun ws h => f (ps.map fun i => ws.getD i .non) h) := rfl
@[simp] theorem sRaise_eq (c : Nat) (ks : List Nat) (es : ES) (σ : Sg) (h : He) : sRaise c ks es σ h = ((es σ h).bind fun ws h => .ex c (ks.zip ws).reverse h) := rfl
@[simp] theorem eBmL_eq (f : F) (o : E) (es : ES) (σ : Sg) (h : He) : eBmL f o es σ h = ((o σ h).bind fun x h => if (lstOf h x).isSome then (es σ h).bind fun ws h => f (x :: ws) h else .bad) := rfl
@[simp] theorem eBmS_eq (f : F) (o : E) (es : ES) (σ : Sg) (h : He) : eBmS f o es σ h = ((o σ h).bind fun x h => if isStr x then (es σ h).bind fun ws h => f (x :: ws) h else .bad) := rfl
@[simp] theorem cmpR_eq (h : He) (o : Cm) (x y : W) : cmpR h o x y = Rs.lift (cmpW h o x y) h := rfl
@[simp] theorem truR_eq (h : He) (w : W) : truR h w = Rs.lift (truth h w) h := rfl
@[simp] theorem lift_none {α : Type} (h : He) : Rs.lift (none : Option α) h = .bad := rfl
@[simp] theorem forNext_nx (σ : Sg) (h : He) (go : Sg → He → Rs Fl) : forNext (.nx σ) h go = go σ h := rfl
@[simp] theorem forNext_ct (σ : Sg) (h : He) (go : Sg → He → Rs Fl) : forNext (.ct σ) h go = go σ h := rfl
@[simp] theorem forNext_bk (σ : Sg) (h : He) (go : Sg → He → Rs Fl) : forNext (.bk σ) h go = .ok (.nx σ) h := rfl
@[simp] theorem forNext_rt (w : W) (h : He) (go : Sg → He → Rs Fl) : forNext (.rt w) h go = .ok (.rt w) h := rfl
@[simp] theorem atW_nat {α : Type} {xs : List α} {a : Nat} : atW xs (a : Int) = xs[a]? := by
  unfold atW L2.atI L2.ixN
  rw [if_pos (Int.natCast_nonneg a)]
  by_cases h : a < xs.length
  · rw [if_pos (by omega)]; simp
  · rw [if_neg (by omega)]; simp; omega
@[simp] theorem atW_0 {α : Type} {xs : List α} : atW xs 0 = xs[0]? := atW_nat (a := 0)
@[simp] theorem atW_1 {α : Type} {xs : List α} : atW xs 1 = xs[1]? := atW_nat (a := 1)
@[simp] theorem atW_2 {α : Type} {xs : List α} : atW xs 2 = xs[2]? := atW_nat (a := 2)
@[simp] theorem atW_3 {α : Type} {xs : List α} : atW xs 3 = xs[3]? := atW_nat (a := 3)
@[simp] theorem seqOf_tup (h : He) (xs : List W) : seqOf h (.tup xs) = some xs := rfl
@[simp] theorem seqOf_ref (h : He) (i : Nat) : seqOf h (.ref i) = lstOf h (.ref i) := rfl
@[simp] theorem ixv_tup (h : He) (xs : List W) (i : Int) : ixv h (.tup xs) i = atW xs i := rfl
@[simp] theorem ixv_ref (h : He) (j : Nat) (i : Int) : ixv h (.ref j) i = (lstOf h (.ref j)).bind fun xs => atW xs i := rfl
theorem lst_of {h : He} {i : Nat} {xs : List W} (e : h[i]? = some (.lst xs)) : lstOf h (.ref i) = some xs := by simp [lstOf, e]
theorem eqS_str (x y : Str) : eqS (.str x) (.str y) = some (decide (x = y)) := rfl
@[simp] theorem cmp_eq_str (h : He) (x y : Str) : cmpW h .eq (.str x) (.str y) = some (decide (x = y)) := rfl
@[simp] theorem cmp_ne_str (h : He) (x y : Str) : cmpW h .ne (.str x) (.str y) = some (!decide (x = y)) := rfl
@[simp] theorem cmp_eq_int (h : He) (x y : Int) : cmpW h .eq (.int x) (.int y) = some (decide (x = y)) := rfl
@[simp] theorem cmp_ne_int (h : He) (x y : Int) : cmpW h .ne (.int x) (.int y) = some (!decide (x = y)) := rfl
@[simp] theorem cmp_lt_int (h : He) (x y : Int) : cmpW h .lt (.int x) (.int y) = some (decide (x < y)) := rfl
@[simp] theorem cmp_le_int (h : He) (x y : Int) : cmpW h .le (.int x) (.int y) = some (decide (x ≤ y)) := rfl
@[simp] theorem cmp_gt_int (h : He) (x y : Int) : cmpW h .gt (.int x) (.int y) = some (decide (y < x)) := rfl
@[simp] theorem cmp_ge_int (h : He) (x y : Int) : cmpW h .ge (.int x) (.int y) = some (decide (y ≤ x)) := rfl
@[simp] theorem cmp_isN (h : He) (x : W) : cmpW h .isN x .non = some (isNonW x) := by cases x <;> rfl
@[simp] theorem cmp_notN (h : He) (x : W) : cmpW h .notN x .non = some (!isNonW x) := by cases x <;> rfl
@[simp] theorem isNon_non : isNonW .non = true := rfl
@[simp] theorem isNon_str (x : Str) : isNonW (.str x) = false := rfl
@[simp] theorem isNon_int (x : Int) : isNonW (.int x) = false := rfl
@[simp] theorem isNon_ref (x : Nat) : isNonW (.ref x) = false := rfl
@[simp] theorem isNon_tup (x : List W) : isNonW (.tup x) = false := rfl
@[simp] theorem isNon_bl (x : Bool) : isNonW (.bl x) = false := rfl
@[simp] theorem add_int (h : He) (i j : Int) : binW h .add (.int i) (.int j) = .ok (.int (i + j)) h := rfl
@[simp] theorem sub_int (h : He) (i j : Int) : binW h .sub (.int i) (.int j) = .ok (.int (i - j)) h := rfl
@[simp] theorem mul_int (h : He) (i j : Int) : binW h .mul (.int i) (.int j) = if i.natAbs.log2 + j.natAbs.log2 < 3000000 then .ok (.int (i * j)) h else .bad := rfl
@[simp] theorem fdiv_int (h : He) (i j : Int) : binW h .fdiv (.int i) (.int j) = if 0 < j ∧ j.natAbs.log2 < 8000 then .ok (.int (i / j)) h else .bad := rfl
@[simp] theorem mod_int (h : He) (i j : Int) : binW h .mod (.int i) (.int j) = if 0 < j then .ok (.int (i % j)) h else .bad := rfl
@[simp] theorem mAppend_eq (i : Nat) (y : W) (h : He) : mAppend [.ref i, y] h = match h[i]? with
    | some (.lst xs) => if xs.length < sizeLine then .ok .non (h.set i (.lst (xs ++ [y]))) else .bad
    | _ => .bad := rfl

def Sat {α : Type} (r : Rs α) (Q : α → He → Prop) : Prop := ∃ a h', r = .ok a h' ∧ Q a h'
section
variable {α β : Type} {r : Rs α} {f : α → He → Rs β} {Q : β → He → Prop} {a : α} {h : He}
@[simp] theorem sat_ok {Q : α → He → Prop} : Sat (.ok a h) Q ↔ Q a h := ⟨fun ⟨a, h', e, q⟩ => by cases e; exact q, fun q => ⟨a, h, rfl, q⟩⟩
theorem Sat.bind (h : Sat r fun a h => Sat (f a h) Q) : Sat (r.bind f) Q := by
  obtain ⟨a, h', e, q⟩ := h
  rw [e]; exact q
theorem Sat.imp {Q Q' : α → He → Prop} (h : Sat r Q) (k : ∀ a h, Q a h → Q' a h) : Sat r Q' := let ⟨a, h', e, q⟩ := h; ⟨a, h', e, k a h' q⟩
theorem Sat.of {Q : α → He → Prop} (e : r = .ok a h) (q : Q a h) : Sat r Q := ⟨a, h, e, q⟩
theorem Sat.eq (s : Sat r fun b g => b = a ∧ g = h) : r = .ok a h := by
  obtain ⟨b, g, e, rfl, rfl⟩ := s
  exact e
def LpQ (nx : Sg → He → Prop) (R : Fl → He → Prop) : Fl → He → Prop := fun f h => match f with
  | .nx σ => nx σ h
  | .ct σ => nx σ h
  | .bk σ => R (.nx σ) h
  | .rt w => R (.rt w) h
@[simp] theorem lpq_nx (nx : Sg → He → Prop) (R : Fl → He → Prop) (σ : Sg) (h : He) : LpQ nx R (.nx σ) h = nx σ h := rfl
@[simp] theorem lpq_ct (nx : Sg → He → Prop) (R : Fl → He → Prop) (σ : Sg) (h : He) : LpQ nx R (.ct σ) h = nx σ h := rfl
@[simp] theorem lpq_bk (nx : Sg → He → Prop) (R : Fl → He → Prop) (σ : Sg) (h : He) : LpQ nx R (.bk σ) h = R (.nx σ) h := rfl
@[simp] theorem lpq_rt (nx : Sg → He → Prop) (R : Fl → He → Prop) (w : W) (h : He) : LpQ nx R (.rt w) h = R (.rt w) h := rfl
theorem whl_sat {c : T} {b : S} {R : Fl → He → Prop} (P : Nat → Sg → He → Prop)
    (st : ∀ m σ h, P m σ h → Sat (c σ h) fun k h1 => if k = true then Sat (b σ h1) (LpQ (fun σ' h' => ∃ m', m' < m ∧ P m' σ' h') R) else R (.nx σ) h1) :
    ∀ (n m : Nat) (σ : Sg) (h : He), m < n → P m σ h → Sat (whlF c b n σ h) R
  | 0, m, σ, h, hm, p => absurd hm (Nat.not_lt_zero _)
  | n + 1, m, σ, h, hm, p => by
    unfold whlF
    obtain ⟨k, h1, e, q⟩ := st m σ h p
    rw [e]
    cases k with
    | false => exact ⟨_, _, rfl, q⟩
    | true =>
      rw [if_pos rfl] at q
      obtain ⟨fl, h2, e2, q2⟩ := q
      simp only [Rs.bind_ok, if_true, e2]
      cases fl with
      | nx σ' => obtain ⟨m', hm', p'⟩ := q2; exact whl_sat P st n m' σ' h2 (by omega) p'
      | ct σ' => obtain ⟨m', hm', p'⟩ := q2; exact whl_sat P st n m' σ' h2 (by omega) p'
      | bk σ' => exact ⟨_, _, rfl, q2⟩
      | rt w => exact ⟨_, _, rfl, q2⟩
section
variable {c : T} {b : S} {R : Fl → He → Prop} {P : Nat → Sg → He → Prop} {m : Nat} {σ : Sg} {h h1 : He}
theorem whl_step {m' : Nat} {σ' : Sg} {h' : He} (e1 : c σ h = .ok true h1) (e2 : b σ h1 = .ok (.nx σ') h') (hm : m' < m) (p : P m' σ' h') : Sat (c σ h) fun k h1 => if k = true then Sat (b σ h1) (LpQ (fun σ' h' => ∃ m', m' < m ∧ P m' σ' h') R) else R (.nx σ) h1 :=
  ⟨_, _, e1, by dsimp only; rw [if_pos rfl]; exact ⟨_, _, e2, m', hm, p⟩⟩
theorem whl_stop (e1 : c σ h = .ok false h1) (q : R (.nx σ) h1) : Sat (c σ h) fun k h1 => if k = true then Sat (b σ h1) (LpQ (fun σ' h' => ∃ m', m' < m ∧ P m' σ' h') R) else R (.nx σ) h1 := ⟨_, _, e1, by dsimp only; rw [if_neg Bool.false_ne_true]; exact q⟩
theorem whl_ret {w : W} {h' : He} (e1 : c σ h = .ok true h1) (e2 : b σ h1 = .ok (.rt w) h') (q : R (.rt w) h') : Sat (c σ h) fun k h1 => if k = true then Sat (b σ h1) (LpQ (fun σ' h' => ∃ m', m' < m ∧ P m' σ' h') R) else R (.nx σ) h1 :=
  ⟨_, _, e1, by dsimp only; rw [if_pos rfl]; exact ⟨_, _, e2, q⟩⟩
end
theorem for_sat {turn : W → Sg → He → Rs Fl} {R : Fl → He → Prop} (P : Nat → Sg → He → Prop) : ∀ (xs : List W) (i : Nat) (σ : Sg) (h : He), P i σ h →
    (∀ j x σ h, xs[j]? = some x → P (i + j) σ h → Sat (turn x σ h) (LpQ (fun σ' h' => P (i + j + 1) σ' h') R)) → (∀ σ h, P (i + xs.length) σ h → R (.nx σ) h) → Sat (forFix turn xs σ h) R
  | [], i, σ, h, p, st, d => ⟨_, _, rfl, d σ h p⟩
  | x :: xs, i, σ, h, p, st, d => by
    obtain ⟨fl, h1, e1, p1⟩ := st 0 x σ h rfl p
    unfold forFix
    rw [e1]
    have go : ∀ σ h, P (i + 0 + 1) σ h → Sat (forFix turn xs σ h) R := fun σ h p1 => for_sat P xs (i + 1) σ h p1 (fun j y σ h q r => by
      have := st (j + 1) y σ h (by simpa using q) (by rw [show i + (j + 1) = i + 1 + j by omega]; exact r)
      rw [show i + (j + 1) = i + 1 + j by omega] at this
      exact this) fun σ h q => d σ h (by rw [show i + (x :: xs).length = i + 1 + xs.length by simp; omega]; exact q)
    cases fl with
    | nx σ' => exact go σ' h1 p1
    | ct σ' => exact go σ' h1 p1
    | bk σ' => exact ⟨_, _, rfl, p1⟩
    | rt w => exact ⟨_, _, rfl, p1⟩
section
variable {turn : W → Sg → He → Rs Fl} {nx : Sg → He → Prop} {R : Fl → He → Prop} {x : W} {σ σ' : Sg} {h h' : He}
theorem for_step (e : turn x σ h = .ok (.nx σ') h') (p : nx σ' h') : Sat (turn x σ h) (LpQ nx R) := ⟨_, _, e, p⟩
theorem for_cnt (e : turn x σ h = .ok (.ct σ') h') (p : nx σ' h') : Sat (turn x σ h) (LpQ nx R) := ⟨_, _, e, p⟩
theorem for_brk (e : turn x σ h = .ok (.bk σ') h') (p : R (.nx σ') h') : Sat (turn x σ h) (LpQ nx R) := ⟨_, _, e, p⟩
theorem for_ret {w : W} (e : turn x σ h = .ok (.rt w) h') (p : R (.rt w) h') : Sat (turn x σ h) (LpQ nx R) := ⟨_, _, e, p⟩
end
theorem lcfix_sat {turn : W → List W → He → Rs (List W)} {R : List W → He → Prop} (P : Nat → List W → He → Prop) : ∀ (xs : List W) (i : Nat) (acc : List W) (h : He), P i acc h →
    (∀ j x acc h, xs[j]? = some x → P (i + j) acc h → Sat (turn x acc h) (P (i + j + 1))) → (∀ acc h, P (i + xs.length) acc h → R acc h) → Sat (lcFix turn xs acc h) R
  | [], i, acc, h, p, st, d => ⟨_, _, rfl, d acc h p⟩
  | x :: xs, i, acc, h, p, st, d => by
    obtain ⟨acc1, h1, e1, p1⟩ := st 0 x acc h rfl p
    unfold lcFix
    rw [e1]
    exact lcfix_sat P xs (i + 1) acc1 h1 p1 (fun j y acc h q r => by
      have := st (j + 1) y acc h (by simpa using q) (by rw [show i + (j + 1) = i + 1 + j by omega]; exact r)
      rw [show i + (j + 1) = i + 1 + j by omega] at this
      exact this) fun acc h q => d acc h (by rw [show i + (x :: xs).length = i + 1 + xs.length by simp; omega]; exact q)
theorem lclive_sat {turn : W → List W → He → Rs (List W)} {a : W} {R : List W → He → Prop} (xs : List W) (P : Nat → List W → He → Prop) (hl : ∀ i acc h, P i acc h → lstOf h a = some xs)
    (st : ∀ i x acc h, xs[i]? = some x → P i acc h → Sat (turn x acc h) (P (i + 1))) (d : ∀ acc h, P xs.length acc h → R acc h) : ∀ (n i : Nat) (acc : List W) (h : He), xs.length < n + i → i ≤ xs.length → P i acc h → Sat (lcLive turn a n i acc h) R
  | 0, i, acc, h, hn, hi, p => by omega
  | n + 1, i, acc, h, hn, hi, p => by
    unfold lcLive
    rw [hl i acc h p]
    cases e : xs[i]? with
    | none =>
      simp only [e]
      have : i = xs.length := by have := List.getElem?_eq_none_iff.mp e; omega
      subst this
      exact ⟨_, _, rfl, d acc h p⟩
    | some x =>
      simp only [e]
      obtain ⟨acc1, h1, e1, p1⟩ := st i x acc h e p
      rw [e1]
      have := (List.getElem?_eq_some_iff.mp e).1
      exact lclive_sat xs P hl st d n (i + 1) acc1 h1 (by omega) (by omega) p1
theorem forlive_sat {turn : W → Sg → He → Rs Fl} {a : W} {R : Fl → He → Prop} (xs : List W) (P : Nat → Sg → He → Prop) (hl : ∀ i σ h, P i σ h → lstOf h a = some xs)
    (st : ∀ i x σ h, xs[i]? = some x → P i σ h → Sat (turn x σ h) (LpQ (P (i + 1)) R)) (d : ∀ σ h, P xs.length σ h → R (.nx σ) h) : ∀ (n i : Nat) (σ : Sg) (h : He), xs.length < n + i → i ≤ xs.length → P i σ h → Sat (forLive turn a n i σ h) R
  | 0, i, σ, h, hn, hi, p => by omega
  | n + 1, i, σ, h, hn, hi, p => by
    unfold forLive
    rw [hl i σ h p]
    cases e : xs[i]? with
    | none =>
      simp only [e]
      have : i = xs.length := by have := List.getElem?_eq_none_iff.mp e; omega
      subst this
      exact ⟨_, _, rfl, d σ h p⟩
    | some x =>
      simp only [e]
      obtain ⟨fl, h1, e1, p1⟩ := st i x σ h e p
      rw [e1]
      have := (List.getElem?_eq_some_iff.mp e).1
      cases fl with
      | nx σ' => exact forlive_sat xs P hl st d n (i + 1) σ' h1 (by omega) (by omega) p1
      | ct σ' => exact forlive_sat xs P hl st d n (i + 1) σ' h1 (by omega) (by omega) p1
      | bk σ' => exact ⟨_, _, rfl, p1⟩
      | rt w => exact ⟨_, _, rfl, p1⟩
end
def trn (g : G) (b : S) : W → Sg → He → Rs Fl := fun x σ h => (g x σ h).bind fun σ h => b σ h
@[simp] theorem trn_eq (g : G) (b : S) (x : W) (σ : Sg) (h : He) : trn g b x σ h = (g x σ h).bind fun σ h => b σ h := rfl
@[simp] theorem sFor_eq (g : G) (it : I) (b : S) (σ : Sg) (h : He) : sFor g it b σ h = (it σ h).bind fun v h => match v with
  | .fix xs => forFix (trn g b) xs σ h
  | .live a => forLive (trn g b) a FU 0 σ h := rfl
@[simp] theorem sWhl_eq (t : T) (b : S) (σ : Sg) (h : He) : sWhl t b σ h = whlF t b FU σ h := rfl
def lcT (σ : Sg) (e : E) (g : G) (t : T) (own : List Nat) : W → List W → He → Rs (List W) := fun x acc h => (lcTurn (fun x h => g x (wipeE σ own) h) t e x acc h).noEx
@[simp] theorem lcT_eq (σ : Sg) (e : E) (g : G) (t : T) (own : List Nat) (x : W) (acc : List W) (h : He) : lcT σ e g t own x acc h = ((g x (wipeE σ own) h).bind fun σ h => (t σ h).bind fun b h => if b then (e σ h).bind fun y h => if acc.length < sizeLine then .ok (acc ++ [y]) h else .bad else .ok acc h).noEx := rfl
@[simp] theorem eLc_eq (e : E) (g : G) (it : I) (t : T) (own : List Nat) (σ : Sg) (h : He) : eLc e g it t own σ h = (it σ h).bind fun v h => (match v with
    | .fix xs => lcFix (lcT σ e g t own) xs [] h
    | .live a => lcLive (lcT σ e g t own) a FU 0 [] h).bind fun ys h => .ok (W.ref h.length) (h ++ [EO.lst ys]) := rfl
@[simp] theorem wipe_nil (σ : Sg) : wipeE σ [] = σ := rfl
@[simp] theorem wipe_cons (σ : Sg) (v : Nat) (vs : List Nat) : wipeE σ (v :: vs) = (wipeE σ vs).set v none := rfl
@[simp] theorem itOf_tup (h : He) (xs : List W) : itOf h (.tup xs) = some (.fix xs) := rfl
@[simp] theorem itOf_ref (h : He) (i : Nat) : itOf h (.ref i) = (lstOf h (.ref i)).map fun _ => .live (.ref i) := rfl
@[simp] theorem fInt_int (i : Int) (h : He) : fInt [.int i] h = .ok (.int i) h := rfl
@[simp] theorem fInt_bl (b : Bool) (h : He) : fInt [.bl b] h = .ok (.int (if b then 1 else 0)) h := rfl
end VE
end
section
set_option Elab.async false
set_option linter.all false
set_option autoImplicit false
set_option maxRecDepth 100000
namespace VE
open PySem
def Kp (h h' : He) : Prop := ∀ (i : Nat) o, h[i]? = some o → h'[i]? = some o
theorem Kp.refl {h : He} : Kp h h := fun _ _ e => e
theorem Kp.trans {h h1 h2 : He} (a : Kp h h1) (b : Kp h1 h2) : Kp h h2 := fun i o e => b i o (a i o e)
theorem Kp.app {h g : He} : Kp h (h ++ g) := fun i o e => by rw [List.getElem?_append_left (List.getElem?_eq_some_iff.mp e).1]; exact e
theorem Kp.len {h h' : He} (k : Kp h h') : h.length ≤ h'.length := by
  rcases Nat.lt_or_ge h'.length h.length with q | q
  · have e := k h'.length _ (List.getElem?_eq_getElem q)
    have := (List.getElem?_eq_some_iff.mp e).1
    omega
  · exact q
theorem at_end {h : He} {o : EO} : (h ++ [o])[h.length]? = some o := by simp
theorem set_end {h : He} {o o' : EO} : (h ++ [o]).set h.length o' = h ++ [o'] := by simp
inductive Pt where
  | it (n : Str) | th (a b : Nat) | tm (a k : Nat)
def Pt.w : Pt → W
  | .it n => .tup [.str "item", .str n]
  | .th a b => .tup [.str "then", .int (a : Int), .int (b : Int)]
  | .tm a k => .tup [.str "times", .int (a : Int), .int (k : Int)]
def wordOf (acc : List (List Str)) : Pt → List Str
  | .it n => [n]
  | .th a b => acc.getD a [] ++ acc.getD b []
  | .tm a k => (List.replicate k (acc.getD a [])).flatten
def wordsG : List (List Str) → List Pt → List (List Str)
  | acc, [] => acc
  | acc, p :: ps => wordsG (acc ++ [wordOf acc p]) ps
def Pt.ok (i : Nat) : Pt → Prop
  | .it _ => True
  | .th a b => a < i ∧ b < i
  | .tm a k => a < i ∧ 1 ≤ k
structure Wf (ps : List Pt) : Prop where
  ok : ∀ (i : Nat) p, ps[i]? = some p → p.ok i
def words (ps : List Pt) : List (List Str) := wordsG [] ps
def den (ps : List Pt) (i : Nat) : List Str := (words ps).getD i []
theorem wordsG_len : ∀ (ps : List Pt) (acc : List (List Str)), (wordsG acc ps).length = acc.length + ps.length
  | [], acc => rfl
  | p :: ps, acc => by
    show (wordsG (acc ++ [wordOf acc p]) ps).length = _
    rw [wordsG_len ps]; simp; omega
theorem wordsG_pre : ∀ (ps : List Pt) (acc : List (List Str)) (i : Nat), i < acc.length → (wordsG acc ps)[i]? = acc[i]?
  | [], acc, i, h => rfl
  | p :: ps, acc, i, h => by
    show (wordsG (acc ++ [wordOf acc p]) ps)[i]? = _
    rw [wordsG_pre ps _ i (by simp; omega), List.getElem?_append_left h]
theorem wordsG_app : ∀ (ps qs : List Pt) (acc : List (List Str)), wordsG acc (ps ++ qs) = wordsG (wordsG acc ps) qs
  | [], qs, acc => rfl
  | p :: ps, qs, acc => wordsG_app ps qs (acc ++ [wordOf acc p])
theorem words_len (ps : List Pt) : (words ps).length = ps.length := by unfold words; rw [wordsG_len]; simp
theorem words_snoc (ps : List Pt) (p : Pt) : words (ps ++ [p]) = words ps ++ [wordOf (words ps) p] := by unfold words; rw [wordsG_app]; rfl
theorem words_take (ps : List Pt) (i : Nat) : words (ps.take i) = (words ps).take i := by
  by_cases hi : i ≤ ps.length
  · have e : ps = ps.take i ++ ps.drop i := (List.take_append_drop i ps).symm
    have l : (words (ps.take i)).length = i := by rw [words_len, List.length_take]; omega
    have e2 : words ps = wordsG (words (ps.take i)) (ps.drop i) := by
      conv => lhs; rw [e]
      unfold words
      rw [wordsG_app]
    apply List.ext_getElem?
    intro j
    by_cases hj : j < i
    · rw [List.getElem?_take_of_lt hj, e2, wordsG_pre _ _ _ (by omega)]
    · rw [List.getElem?_eq_none (by omega), List.getElem?_eq_none (by rw [List.length_take]; omega)]
  · rw [List.take_of_length_le (by omega), List.take_of_length_le (by rw [words_len]; omega)]
theorem words_at {ps : List Pt} {i : Nat} {p : Pt} (e : ps[i]? = some p) : (words ps)[i]? = some (wordOf ((words ps).take i) p) := by
  have hi := (List.getElem?_eq_some_iff.mp e).1
  have e2 : ps.take (i + 1) = ps.take i ++ [p] := by rw [List.take_add_one, e]; rfl
  have e3 := words_take ps (i + 1)
  rw [e2, words_snoc, words_take] at e3
  have e4 := congrArg (·[i]?) e3
  simp only [List.getElem?_take_of_lt (Nat.lt_succ_self i)] at e4
  rw [← e4, List.getElem?_append_right (by rw [List.length_take]; omega)]
  have : i - ((words ps).take i).length = 0 := by rw [List.length_take, words_len]; omega
  rw [this]; rfl
theorem getD_take {α : Type} {l : List α} {i j : Nat} {d : α} (h : j < i) : (l.take i).getD j d = l.getD j d := by
  simp [List.getD, List.getElem?_take_of_lt h]
section
variable {ps : List Pt} {i : Nat}
theorem den_it {n : Str} (e : ps[i]? = some (.it n)) : den ps i = [n] := by
  unfold den
  simp [List.getD, words_at e, wordOf]
theorem den_th {a b : Nat} (w : Wf ps) (e : ps[i]? = some (.th a b)) : den ps i = den ps a ++ den ps b := by
  obtain ⟨h1, h2⟩ := w.ok i _ e
  unfold den
  rw [List.getD, words_at e]
  simp only [Option.getD_some, wordOf]
  rw [getD_take h1, getD_take h2]
theorem den_tm {a k : Nat} (w : Wf ps) (e : ps[i]? = some (.tm a k)) : den ps i = (List.replicate k (den ps a)).flatten := by
  obtain ⟨h1, h2⟩ := w.ok i _ e
  unfold den
  rw [List.getD, words_at e]
  simp only [Option.getD_some, wordOf]
  rw [getD_take h1]
end
theorem den_ne {ps : List Pt} (w : Wf ps) : ∀ (n i : Nat), i < n → i < ps.length → den ps i ≠ []
  | 0, i, h, _ => absurd h (Nat.not_lt_zero _)
  | n + 1, i, h, hl => by
    obtain ⟨p, e⟩ : ∃ p, ps[i]? = some p := ⟨ps[i], List.getElem?_eq_getElem hl⟩
    have o := w.ok i p e
    cases p with
    | it x => rw [den_it e]; simp
    | th a b =>
      obtain ⟨h1, h2⟩ := o
      rw [den_th w e]
      have := den_ne w n a (by omega) (by omega)
      simp [this]
    | tm a k =>
      obtain ⟨h1, h2⟩ := o
      rw [den_tm w e]
      have := den_ne w n a (by omega) (by omega)
      cases k with
      | zero => omega
      | succ k => simp [List.replicate_succ, this]
theorem s1 : (("item" : Str) = "then") = False := by decide
theorem s2 : (("then" : Str) = "item") = False := by decide
theorem s3 : (("times" : Str) = "item") = False := by decide
theorem s4 : (("times" : Str) = "then") = False := by decide
theorem s5 : (("item" : Str) = "times") = False := by decide
theorem s6 : (("then" : Str) = "times") = False := by decide
end VE
end
section
set_option Elab.async false
set_option linter.all false
set_option autoImplicit false
set_option maxRecDepth 100000
namespace VE
open PySem
abbrev nI (n : Nat) : W := .int (n : Int)
theorem get_of {α : Type} {l : List α} {i : Nat} (h : i < l.length) : ∃ u, l[i]? = some u := ⟨l[i], List.getElem?_eq_getElem h⟩
def vls (f : List Str → W) (ws : List (List Str)) : List W := ws.map f
theorem vls_snoc (f : List Str → W) (ws : List (List Str)) (u : List Str) : vls f (ws ++ [u]) = vls f ws ++ [f u] := by simp [vls]
@[simp] theorem vls_len (f : List Str → W) (ws : List (List Str)) : (vls f ws).length = ws.length := by simp [vls]
@[simp] theorem vls_at (f : List Str → W) (ws : List (List Str)) (i : Nat) : (vls f ws)[i]? = ws[i]?.map f := by simp [vls]
@[simp] theorem vls_nil (f : List Str → W) : vls f [] = [] := rfl
abbrev sz (u : List Str) : W := nI u.length
theorem sizeLine_big : 16777216 ≤ sizeLine := by decide +kernel
theorem part_length_ok {acc : List (List Str)} {p : Pt} {h : He} {l : Nat} (hl : h[l]? = some (.lst (vls sz acc))) (ok : p.ok acc.length) (sm : ∀ a k, p = .tm a k → (acc.getD a []).length.log2 + k.log2 < 3000000) :
    ev_part_length [.ref l, p.w] h = .ok (nI (wordOf acc p).length) h := by
  cases p with
  | it n => simp [ev_part_length, fn, Pt.w, wordOf]
  | th a b =>
    obtain ⟨h1, h2⟩ := ok
    obtain ⟨u, hu⟩ := get_of h1
    obtain ⟨v, hv⟩ := get_of h2
    simp [ev_part_length, fn, Pt.w, wordOf, s2, lst_of hl, hu, hv]
  | tm a k =>
    obtain ⟨h1, h2⟩ := ok
    obtain ⟨u, hu⟩ := get_of h1
    have := sm a k rfl
    simp [hu] at this
    simp [ev_part_length, fn, Pt.w, wordOf, s3, s4, lst_of hl, hu, this, Int.mul_comm]
abbrev sw (ps : List Pt) (t : Nat) : W := .tup [.tup (ps.map Pt.w), nI t]
def Sm (ps : List Pt) : Prop := ∀ (i a k : Nat), ps[i]? = some (.tm a k) → (den ps a).length.log2 + k.log2 < 3000000
theorem take_snoc {α : Type} {l : List α} {i : Nat} {x : α} (e : l[i]? = some x) : l.take (i + 1) = l.take i ++ [x] := by
  rw [List.take_add_one, e]; rfl
theorem sm_at {ps : List Pt} {i : Nat} {p : Pt} (w : Wf ps) (sm : Sm ps) (e : ps[i]? = some p) : ∀ a k, p = .tm a k → (((words ps).take i).getD a []).length.log2 + k.log2 < 3000000 := fun a k q => by
  subst q
  have := sm i a k e
  rw [getD_take (w.ok i _ e).1]; exact this
theorem words_snoc_at {ps : List Pt} {i : Nat} {p : Pt} (e : ps[i]? = some p) : (words ps).take (i + 1) = (words ps).take i ++ [wordOf ((words ps).take i) p] := take_snoc (words_at e)
theorem ok_at {ps : List Pt} {i : Nat} {p : Pt} (w : Wf ps) (e : ps[i]? = some p) : p.ok ((words ps).take i).length := by
  have := (List.getElem?_eq_some_iff.mp e).1
  rw [List.length_take, words_len, Nat.min_eq_left (by omega)]
  exact w.ok i p e
theorem map_at {ps : List Pt} {j : Nat} {x : W} (e : (ps.map Pt.w)[j]? = some x) : ∃ p, ps[j]? = some p ∧ x = p.w := by
  rw [List.getElem?_map] at e
  cases q : ps[j]? with
  | none => rw [q] at e; cases e
  | some p => rw [q] at e; cases e; exact ⟨p, rfl, rfl⟩
theorem set_same {h : He} {l : Nat} {o : EO} (e : h[l]? = some o) : h.set l o = h := by
  apply List.ext_getElem?
  intro i
  by_cases q : l = i
  · subst q
    rw [List.getElem?_set_self (List.getElem?_eq_some_iff.mp e).1, e]
  · rw [List.getElem?_set_ne q]
theorem for_parts {turn : W → Sg → He → Rs Fl} {ps : List Pt} {R : Fl → He → Prop} (f : List Str → W) (S : Sg → Prop) (l : Nat) {σ : Sg} {h : He} (hl : h[l]? = some (.lst [])) (hS : S σ)
    (st : ∀ j p σ g, ps[j]? = some p → S σ → g[l]? = some (.lst (vls f ((words ps).take j))) → Sat (turn p.w σ g) fun fl g' => ∃ σ', fl = .nx σ' ∧ S σ' ∧ g' = g.set l (.lst (vls f ((words ps).take j) ++ [f (wordOf ((words ps).take j) p)])))
    (d : ∀ σ, S σ → R (.nx σ) (h.set l (.lst (vls f (words ps))))) : Sat (forFix turn (ps.map Pt.w) σ h) R := by
  have hlt := (List.getElem?_eq_some_iff.mp hl).1
  refine for_sat (fun i σ g => S σ ∧ g = h.set l (.lst (vls f ((words ps).take i)))) (ps.map Pt.w) 0 σ h ⟨hS, by rw [List.take_zero]; exact (set_same hl).symm⟩ (fun j x σ g ej ⟨hs, eg⟩ => ?_) fun σ g ⟨hs, eg⟩ => ?_
  · obtain ⟨p, ep, rfl⟩ := map_at ej
    rw [Nat.zero_add] at eg
    have z : g[l]? = some (.lst (vls f ((words ps).take j))) := by rw [eg]; simp [hlt]
    refine (st j p σ g ep hs z).imp fun fl g' ⟨σ', e1, s', e2⟩ => ?_
    subst e1
    refine ⟨s', ?_⟩
    rw [Nat.zero_add, words_snoc_at ep, vls_snoc, e2, eg, List.set_set]
  · rw [eg, Nat.zero_add, List.length_map, List.take_of_length_le (by rw [words_len]; exact Nat.le_refl _)]
    exact d σ hs
theorem lt_line {n : Nat} (h : n < 16777216) : n < sizeLine := Nat.lt_of_lt_of_le h sizeLine_big
theorem part_lengths_ok {ps : List Pt} {t : Nat} {h : He} (w : Wf ps) (sm : Sm ps) (hl : ps.length < 1000) : ev_part_lengths [sw ps t] h = .ok (.ref h.length) (h ++ [.lst (vls sz (words ps))]) := by
  apply Sat.eq
  simp [ev_part_lengths, fn]
  refine Sat.bind (Sat.bind (for_parts (ps := ps) sz (fun σ => ∃ x, σ = [some (sw ps t), some (.ref h.length), x]) h.length at_end ⟨_, rfl⟩ (fun j p σ g ep ⟨y, e1⟩ hg => ?_) fun σ ⟨x, e⟩ => ?_))
  · subst e1
    have hj := (List.getElem?_eq_some_iff.mp ep).1
    have hs : min j (words ps).length < sizeLine := lt_line (by omega)

    simp [part_length_ok hg (ok_at w ep) (sm_at w sm ep), lst_of hg, hg, hs]
  · subst e
    simp
end VE
end
section
set_option Elab.async false
set_option linter.all false
set_option autoImplicit false
set_option maxRecDepth 100000
namespace VE
open PySem
theorem rep_len (u : List Str) (k : Nat) : (List.replicate k u).flatten.length = k * u.length := by
  induction k with
  | zero => simp
  | succ k ih => rw [List.replicate_succ, List.flatten_cons, List.length_append, ih, Nat.succ_mul]; omega
theorem rep_get (u : List Str) : ∀ (k p : Nat), p < k * u.length → (List.replicate k u).flatten[p]? = u[p % u.length]?
  | 0, p, h => by omega
  | k + 1, p, h => by
    rw [List.replicate_succ, List.flatten_cons]
    by_cases q : p < u.length
    · rw [List.getElem?_append_left q, Nat.mod_eq_of_lt q]
    · rw [List.getElem?_append_right (by omega), rep_get u k (p - u.length) (by rw [Nat.succ_mul] at h; omega)]
      rw [Nat.mod_eq_sub_mod (by omega : p ≥ u.length)]
theorem rep_count (n : Str) (u : List Str) : ∀ k : Nat, (List.replicate k u).flatten.count n = u.count n * k
  | 0 => by simp
  | k + 1 => by rw [List.replicate_succ, List.flatten_cons, List.count_append, rep_count n u k, Nat.mul_succ]; omega
theorem rep_take (u : List Str) : ∀ (k p : Nat), p < k * u.length → (List.replicate k u).flatten.take p = (List.replicate (p / u.length) u).flatten ++ u.take (p % u.length)
  | 0, p, h => by omega
  | k + 1, p, h => by
    have hu : 0 < u.length := by
      rcases Nat.eq_zero_or_pos u.length with z | z
      · rw [z] at h; omega
      · exact z
    rw [List.replicate_succ, List.flatten_cons]
    by_cases q : p < u.length
    · rw [List.take_append_of_le_length (by omega), Nat.div_eq_of_lt q, Nat.mod_eq_of_lt q]; simp
    · have hp : p = u.length + (p - u.length) := by omega
      have ih := rep_take u k (p - u.length) (by rw [Nat.succ_mul] at h; omega)
      have e1 : p / u.length = (p - u.length) / u.length + 1 := by rw [Nat.div_eq_sub_div hu (by omega)]
      have e2 : p % u.length = (p - u.length) % u.length := Nat.mod_eq_sub_mod (by omega)
      rw [List.take_append, ih, e1, e2, List.replicate_succ, List.flatten_cons, List.take_of_length_le (by omega), List.append_assoc]
structure Gs (ps : List Pt) (t : Nat) : Prop where
  wf : Wf ps
  top : t < ps.length
  len : ps.length ≤ 400
  size : ∀ i, i < ps.length → (den ps i).length ≤ 10 ^ 20
  num : ∀ (i a k : Nat), ps[i]? = some (Pt.tm a k) → k ≤ 10 ^ 18
theorem log_le {n b : Nat} (h : n < 2 ^ b) (hb : 0 < b) : n.log2 < b := by
  rcases Nat.eq_zero_or_pos n with z | z
  · subst z; simpa using hb
  · exact (Nat.log2_lt (by omega)).mpr h
section
variable {ps : List Pt} {t : Nat}
theorem Gs.sm (g : Gs ps t) : Sm ps := fun i a k e => by
  have h1 := (g.wf.ok i _ e).1
  have h2 := (List.getElem?_eq_some_iff.mp e).1
  have h3 := g.size a (by omega)
  have h4 := g.num i a k e
  have := log_le (n := (den ps a).length) (b := 100) (by omega) (by omega)
  have := log_le (n := k) (b := 100) (by omega) (by omega)
  omega
theorem Gs.pos (g : Gs ps t) {i : Nat} (h : i < ps.length) : 0 < (den ps i).length := List.length_pos_iff.mpr (den_ne g.wf (i + 1) i (by omega) h)
theorem den_at {i : Nat} (h : i < ps.length) : (words ps)[i]? = some (den ps i) := by
  unfold den
  have : i < (words ps).length := by rw [words_len]; exact h
  simp [List.getD, this]
theorem pw_at {i : Nat} {p : Pt} (e : ps[i]? = some p) : (ps.map Pt.w)[i]? = some p.w := by rw [List.getElem?_map, e]; rfl
theorem lengths_ok (g : Gs ps t) {h : He} : ev_part_lengths [sw ps t] h = .ok (.ref h.length) (h ++ [.lst (vls sz (words ps))]) := part_lengths_ok g.wf g.sm (by have := g.len; omega)
theorem node_down_ok (g : Gs ps t) {l : Nat} {h : He} (hl : h[l]? = some (.lst (vls sz (words ps)))) {p : Nat} {n : Str} (hp : (den ps t)[p]? = some n) : ev_node_down [sw ps t, .ref l, nI p] h = .ok (.str n) h := by
  obtain ⟨q, hq⟩ := get_of g.top
  apply Sat.eq
  simp [ev_node_down, fn, hq]
  refine Sat.bind (Sat.bind (whl_sat (fun m σ g' => ∃ p q, ps[m]? = some q ∧ σ = [some (sw ps t), some (.ref l), some (nI p), some q.w] ∧ h = g' ∧ (den ps m)[p]? = some n) (fun m σ g' ⟨p, q, ei, es, eg, ed⟩ => ?_) FU t _ h (by have := g.len; have := g.top; show t < 10000000; omega) ⟨p, q, hq, rfl, rfl, hp⟩))
  subst es eg
  have hi := (List.getElem?_eq_some_iff.mp ei).1
  have ok := g.wf.ok m q ei
  cases q with
  | it x =>
    rw [den_it ei] at ed
    have : x = n := by
      cases p with
      | zero => simpa using ed
      | succ p => simp at ed
    subst this
    simp [Pt.w]
  | th a b =>
    obtain ⟨ha, hb⟩ := ok
    obtain ⟨qa, hqa⟩ := get_of (l := ps) (i := a) (by omega)
    obtain ⟨qb, hqb⟩ := get_of (l := ps) (i := b) (by omega)
    have da := den_at (ps := ps) (i := a) (by omega)
    rw [den_th g.wf ei] at ed
    by_cases c : p < (den ps a).length
    · rw [List.getElem?_append_left c] at ed
      simp [Pt.w, s2, s6, lst_of hl, da, c, hqa]
      exact ⟨a, ha, p, qa, hqa, ⟨rfl, rfl⟩, ed⟩
    · rw [List.getElem?_append_right (by omega)] at ed
      have c2 : ((p : Int) - ((den ps a).length : Int)) = ((p - (den ps a).length : Nat) : Int) := by omega
      simp [Pt.w, s2, s6, lst_of hl, da, c, hqb, c2]
      exact ⟨b, hb, _, qb, hqb, ⟨rfl, rfl⟩, ed⟩
  | tm a k =>
    obtain ⟨ha, hk⟩ := ok
    obtain ⟨qa, hqa⟩ := get_of (l := ps) (i := a) (by omega)
    have da := den_at (ps := ps) (i := a) (by omega)
    have pa := g.pos (i := a) (by omega)
    have hp := (List.getElem?_eq_some_iff.mp ed).1
    rw [den_tm g.wf ei] at ed hp
    rw [rep_len] at hp
    rw [rep_get _ _ _ hp] at ed
    simp [Pt.w, s3, lst_of hl, da, pa, hqa]
    exact ⟨a, ha, _, qa, hqa, ⟨rfl, rfl⟩, ed⟩
end
end VE
end
section
set_option Elab.async false
set_option linter.all false
set_option autoImplicit false
set_option maxRecDepth 100000
namespace VE
open PySem
section
variable {ps : List Pt} {t : Nat} {h : He}
theorem top_at (g : Gs ps t) : (words ps)[t]? = some (den ps t) := den_at g.top
theorem item_at_ok (g : Gs ps t) {p : Nat} {n : Str} (hp : (den ps t)[p]? = some n) : ev_item_at [sw ps t, nI p] h = .ok (.str n) (h ++ [.lst (vls sz (words ps))]) := by
  have h1 := (List.getElem?_eq_some_iff.mp hp).1
  have h2 : (p : Int) < ((den ps t).length : Int) := by omega
  have z := node_down_ok g (l := h.length) (h := h ++ [.lst (vls sz (words ps))]) at_end hp
  simp [ev_item_at, fn, lengths_ok g, lst_of at_end, top_at g, h2, z]
theorem item_at_bad (g : Gs ps t) {p : Int} (hp : ¬ (0 ≤ p ∧ p < ((den ps t).length : Int))) : ev_item_at [sw ps t, .int p] h = .ex 103 [(9, .str "place")] (h ++ [.lst (vls sz (words ps))]) := by
  by_cases c : 0 ≤ p
  · have h2 : ¬ p < ((den ps t).length : Int) := fun q => hp ⟨c, q⟩
    simp [ev_item_at, fn, lengths_ok g, lst_of at_end, top_at g, h2, c]
  · simp [ev_item_at, fn, lengths_ok g, lst_of at_end, top_at g, c]
abbrev cn (n : Str) (u : List Str) : W := nI (u.count n)
theorem cnt_it (n x : Str) : [x].count n = if x = n then 1 else 0 := by
  by_cases q : x = n
  · subst q; simp
  · simp [q]
theorem part_numbers_ok (g : Gs ps t) {n : Str} : ev_part_numbers [sw ps t, .str n] h = .ok (.ref h.length) (h ++ [.lst (vls (cn n) (words ps))]) := by
  apply Sat.eq
  simp [ev_part_numbers, fn]
  refine Sat.bind (Sat.bind (for_parts (ps := ps) (cn n) (fun σ => ∃ x, σ = [some (sw ps t), some (.str n), some (.ref h.length), x]) h.length at_end ⟨_, rfl⟩ (fun j p σ g' ep ⟨y, e1⟩ hg => ?_) fun σ ⟨x, e⟩ => ?_))
  · subst e1
    have hj := (List.getElem?_eq_some_iff.mp ep).1
    have hs : min j (words ps).length < sizeLine := lt_line (by have := g.len; omega)
    have ok := ok_at g.wf ep
    cases p with
    | it x =>
      by_cases q : x = n <;> simp [Pt.w, lst_of hg, hg, hs, wordOf, cnt_it, q, cn, nI]
    | th a b =>
      obtain ⟨h1, h2⟩ := ok
      obtain ⟨u, hu⟩ := get_of h1
      obtain ⟨v, hv⟩ := get_of h2
      simp [Pt.w, s2, lst_of hg, hg, hs, wordOf, hu, hv, cn, nI]
    | tm a k =>
      obtain ⟨h1, h2⟩ := ok
      obtain ⟨u, hu⟩ := get_of h1
      have hk := g.num _ _ _ ep
      have hu2 : u = den ps a := by
        have := (g.wf.ok _ _ ep).1
        rw [List.getElem?_take_of_lt this, den_at (by omega)] at hu
        exact (Option.some.inj hu).symm
      have hl : u.length ≤ 10 ^ 20 := by rw [hu2]; exact g.size a (by have := (g.wf.ok _ _ ep).1; omega)
      have hc : u.count n ≤ u.length := List.count_le_length
      have m1 := log_le (n := u.count n) (b := 100) (by omega) (by omega)
      have m2 := log_le (n := k) (b := 100) (by omega) (by omega)
      have m3 : (u.count n).log2 + k.log2 < 3000000 := by omega
      simp [Pt.w, s3, s4, lst_of hg, hg, hs, wordOf, hu, rep_count, m3, cn, nI]
  · subst e
    simp
end
end VE
end
section
set_option Elab.async false
set_option linter.all false
set_option autoImplicit false
set_option maxRecDepth 100000
namespace VE
open PySem
@[simp] theorem fTuple_eq (w : W) (h : He) : fTuple [w] h = Rs.lift ((seqOf h w).map .tup) h := rfl
@[simp] theorem fList_eq (w : W) (h : He) : fList [w] h = (match seqOf h w with
    | some xs => .ok (.ref h.length) (h ++ [.lst xs])
    | none => .bad) := rfl
@[simp] theorem fLen_tup (xs : List W) (h : He) : fLen [.tup xs] h = .ok (nI xs.length) h := rfl
@[simp] theorem fLen_ref (i : Nat) (h : He) : fLen [.ref i] h = Rs.lift ((lstOf h (.ref i)).map fun xs => .int xs.length) h := rfl
@[simp] theorem fLen_str (x : Str) (h : He) : fLen [.str x] h = if x.length ≤ sizeLine then .ok (nI x.length) h else .bad := rfl
@[simp] theorem rgW1 (n : Int) : rgW [.int n] = some (rgOf 0 n.toNat) := rfl
@[simp] theorem rgW2 (a b : Int) : rgW [.int a, .int b] = some (rgOf a (b - a).toNat) := rfl
@[simp] theorem rgOf_len (lo : Int) (n : Nat) : (rgOf lo n).length = n := by simp [rgOf]
theorem rgOf_at {lo : Int} {n j : Nat} {x : W} (e : (rgOf lo n)[j]? = some x) : j < n ∧ x = .int (lo + (j : Int)) := by
  have hj := (List.getElem?_eq_some_iff.mp e).1
  rw [rgOf_len] at hj
  refine ⟨hj, ?_⟩
  unfold rgOf at e
  rw [List.getElem?_map, List.getElem?_range hj] at e
  exact (Option.some.inj e).symm
theorem lg {n : Nat} (h : n ≤ 10 ^ 60) : n.log2 < 1000 := log_le (b := 1000) (by
  have : (10 : Nat) ^ 60 < 2 ^ 1000 := by decide +kernel
  omega) (by omega)
section
variable {ps : List Pt} {t : Nat} {h : He}
theorem between_ok (g : Gs ps t) {lo hi : Nat} (h1 : lo ≤ hi) (h2 : hi ≤ (den ps t).length) (h3 : hi - lo ≤ 400) :
    ev_items_between [sw ps t, nI lo, nI hi] h = .ok (.tup ((((den ps t).drop lo).take (hi - lo)).map W.str)) ((h ++ [.lst (vls sz (words ps))]) ++ [.lst ((((den ps t).drop lo).take (hi - lo)).map W.str)]) := by
  have c1 : (lo : Int) ≤ (hi : Int) := by omega
  have c2 : (hi : Int) ≤ ((den ps t).length : Int) := by omega
  have c3 : ¬ (400 : Int) < (hi : Int) - (lo : Int) := by omega
  have en : ((hi : Int) - (lo : Int)).toNat = hi - lo := by omega
  apply Sat.eq
  simp [ev_items_between, fn, lengths_ok g, lst_of at_end, top_at g, c1, c2, c3, -List.map_take, -List.map_drop, -List.append_assoc]
  refine Sat.bind (Sat.bind (Sat.bind (Sat.bind (Sat.bind (lcfix_sat (fun i acc g' => g' = h ++ [.lst (vls sz (words ps))] ∧ acc = (((den ps t).drop lo).take i).map W.str) _ 0 [] _ ⟨rfl, by simp⟩ (fun j x acc g' ej ⟨e1, e2⟩ => ?_) fun acc g' ⟨e1, e2⟩ => ?_)))))
  · obtain ⟨hj, rfl⟩ := rgOf_at ej
    subst e1 e2
    have hlt : lo + j < (den ps t).length := by omega
    obtain ⟨n, hn⟩ := get_of hlt
    have z := node_down_ok g (p := lo + j) (l := h.length) (h := h ++ [.lst (vls sz (words ps))]) at_end hn
    have z : ev_node_down [sw ps t, .ref h.length, .int ((lo : Int) + (j : Int))] (h ++ [.lst (vls sz (words ps))]) = .ok (.str n) (h ++ [.lst (vls sz (words ps))]) := by rw [← z]; rfl
    have e4 : ((den ps t).drop lo)[j]? = some n := by rw [List.getElem?_drop]; exact hn
    have hs : min j ((den ps t).length - lo) < sizeLine := lt_line (by omega)
    rw [Nat.zero_add, take_snoc e4]
    simp [-List.map_take, -List.map_drop, z, hs]
  · subst e1 e2
    simp [-List.map_take, -List.map_drop, lst_of at_end, lstOf]
theorem between_bad (g : Gs ps t) {lo hi : Int} (hp : ¬ (0 ≤ lo ∧ lo ≤ hi ∧ hi ≤ ((den ps t).length : Int))) : ev_items_between [sw ps t, .int lo, .int hi] h = .ex 103 [(9, .str "place")] (h ++ [.lst (vls sz (words ps))]) := by
  by_cases c : 0 ≤ lo
  · by_cases c2 : lo ≤ hi
    · have h2 : ¬ hi ≤ ((den ps t).length : Int) := fun q => hp ⟨c, c2, q⟩
      simp [ev_items_between, fn, lengths_ok g, lst_of at_end, top_at g, h2, c, c2]
    · simp [ev_items_between, fn, lengths_ok g, lst_of at_end, top_at g, c2, c]
  · simp [ev_items_between, fn, lengths_ok g, lst_of at_end, top_at g, c]
theorem between_long (g : Gs ps t) {lo hi : Int} (h1 : 0 ≤ lo) (h2 : lo ≤ hi) (h3 : hi ≤ ((den ps t).length : Int)) (h4 : 400 < hi - lo) : ev_items_between [sw ps t, .int lo, .int hi] h = .ex 103 [(9, .str "long")] (h ++ [.lst (vls sz (words ps))]) := by
  simp [ev_items_between, fn, lengths_ok g, lst_of at_end, top_at g, h1, h2, h3, h4]
theorem number_ahead_ok (g : Gs ps t) {l m : Nat} {n : Str} (hl : h[l]? = some (.lst (vls sz (words ps)))) (hm : h[m]? = some (.lst (vls (cn n) (words ps)))) {P0 : Nat} (hp0 : P0 ≤ (den ps t).length) :
    ev_number_ahead [sw ps t, .ref l, .ref m, nI P0] h = .ok (nI (((den ps t).take P0).count n)) h := by
  apply Sat.eq
  simp [ev_number_ahead, fn]
  refine Sat.bind (Sat.bind (whl_sat (fun k σ g' => ∃ p f x, k < ps.length ∧ σ = [some (sw ps t), some (.ref l), some (.ref m), some (nI p), some (nI k), some (nI f), x] ∧ h = g' ∧ p ≤ (den ps k).length ∧ f + ((den ps k).take p).count n = ((den ps t).take P0).count n) (fun k σ g' ⟨p, f, x, hk, es, eg, hp, hf⟩ => ?_) FU t _ h (by have := g.len; have := g.top; show t < 10000000; omega) ⟨P0, 0, none, g.top, rfl, rfl, hp0, by simp⟩))
  subst es eg
  have hlen : (den ps k).length ≤ 10 ^ 20 := g.size k hk
  have hpos := g.pos hk
  obtain ⟨q, hq⟩ := get_of hk
  have ok := g.wf.ok k q hq
  have dk := den_at hk
  by_cases c0 : p = 0
  · subst c0
    simp at hf
    exact whl_stop (h1 := h) (by simp) (by simp [hf])
  have c2 : 0 < p := by omega
  by_cases c1 : (den ps k).length ≤ p
  · have e : p = (den ps k).length := by omega
    rw [e, List.take_length] at hf
    refine whl_ret (h1 := h) (w := nI (f + (den ps k).count n)) (h' := h) (by simp [c2]) (by simp [c1, hq, lst_of hl, lst_of hm, dk]) ?_
    simp [← hf]
  cases q with
  | it x =>
    rw [den_it hq] at c1
    simp at c1
    omega
  | th a b =>
    obtain ⟨ha, hb⟩ := ok
    have da := den_at (ps := ps) (i := a) (by omega)
    rw [den_th g.wf hq] at hf hp
    by_cases c : (den ps a).length ≤ p
    · have c4 : ((p : Int) - ((den ps a).length : Int)) = ((p - (den ps a).length : Nat) : Int) := by omega
      refine whl_step (h1 := h) (h' := h) (m' := b) (σ' := [some (sw ps t), some (.ref l), some (.ref m), some (nI (p - (den ps a).length)), some (nI b), some (nI (f + (den ps a).count n)), some (Pt.th a b).w]) (by simp [c2]) (by simp [c1, hq, lst_of hl, lst_of hm, dk, Pt.w, s6, da, c, c4]) hb ⟨_, _, _, by omega, rfl, rfl, by simp at hp; omega, ?_⟩
      rw [← hf, List.take_append, List.take_of_length_le c, List.count_append]; omega
    · refine whl_step (h1 := h) (h' := h) (m' := a) (σ' := [some (sw ps t), some (.ref l), some (.ref m), some (nI p), some (nI a), some (nI f), some (Pt.th a b).w]) (by simp [c2]) (by simp [c1, hq, lst_of hl, lst_of hm, dk, Pt.w, s6, da, c]) ha ⟨_, _, _, by omega, rfl, rfl, by omega, ?_⟩
      rw [← hf, List.take_append_of_le_length (by omega)]
  | tm a k2 =>
    obtain ⟨ha, hk2⟩ := ok
    have da := den_at (ps := ps) (i := a) (by omega)
    have pa := g.pos (i := a) (by omega)
    have pn : den ps a ≠ [] := List.length_pos_iff.mp pa
    have la := g.size a (by omega)
    have hp2 : p < k2 * (den ps a).length := by rw [den_tm g.wf hq, rep_len] at c1; omega
    rw [den_tm g.wf hq] at hf
    rw [rep_take _ _ _ hp2, List.count_append, rep_count] at hf
    have hc : (den ps a).count n ≤ (den ps a).length := List.count_le_length
    have hd : p / (den ps a).length ≤ p := Nat.div_le_self _ _
    have m1 := lg (n := p / (den ps a).length) (by omega)
    have m2 := lg (n := (den ps a).count n) (by omega)
    have m3 : (((p : Int) / ((den ps a).length : Int))).natAbs.log2 + ((den ps a).count n).log2 < 3000000 := by
      have e : ((p : Int) / ((den ps a).length : Int)) = ((p / (den ps a).length : Nat) : Int) := rfl
      rw [e, Int.natAbs_natCast]; omega
    have m4 := lg (n := (den ps a).length) (by omega)
    have m5 : (den ps a).length.log2 < 8000 := by omega
    refine whl_step (h1 := h) (h' := h) (m' := a) (σ' := [some (sw ps t), some (.ref l), some (.ref m), some (nI (p % (den ps a).length)), some (nI a), some (nI (f + p / (den ps a).length * (den ps a).count n)), some (Pt.tm a k2).w]) (by simp [c2]) (by simp [c1, hq, lst_of hl, lst_of hm, dk, Pt.w, da, pn, pa, m3, m5]) ha ⟨_, _, _, by omega, rfl, rfl, by have := Nat.mod_lt p pa; omega, ?_⟩
    rw [← hf, Nat.mul_comm]; omega
end
end VE
end
section
set_option Elab.async false
set_option linter.all false
set_option autoImplicit false
set_option maxRecDepth 100000
namespace VE
open PySem
def posn (n : Str) : List Str → Nat → Nat
  | [], _ => 0
  | x :: u, j => if x = n then (match j with | 0 => 0 | j + 1 => posn n u j + 1) else posn n u j + 1
theorem posn_app1 (n : Str) : ∀ (u v : List Str) (j : Nat), j < u.count n → posn n (u ++ v) j = posn n u j
  | [], v, j, h => by simp at h
  | x :: u, v, j, h => by
    by_cases q : x = n
    · subst q
      rw [List.count_cons_self] at h
      cases j with
      | zero => simp [posn]
      | succ j => simp [posn, posn_app1 x u v j (by omega)]
    · rw [List.count_cons_of_ne q] at h
      simp [posn, q, posn_app1 n u v j h]
theorem posn_app2 (n : Str) : ∀ (u v : List Str) (j : Nat), u.count n ≤ j → posn n (u ++ v) j = u.length + posn n v (j - u.count n)
  | [], v, j, h => by simp
  | x :: u, v, j, h => by
    by_cases q : x = n
    · subst q
      rw [List.count_cons_self] at h ⊢
      cases j with
      | zero => omega
      | succ j =>
        have := posn_app2 x u v j (by omega)
        simp [posn, this]; omega
    · rw [List.count_cons_of_ne q] at h ⊢
      simp [posn, q, posn_app2 n u v j h]; omega
theorem posn_rep (n : Str) (u : List Str) : ∀ (k j : Nat), j < u.count n * k → posn n (List.replicate k u).flatten j = j / u.count n * u.length + posn n u (j % u.count n)
  | 0, j, h => by omega
  | k + 1, j, h => by
    have hu : 0 < u.count n := by
      rcases Nat.eq_zero_or_pos (u.count n) with z | z
      · rw [z] at h; omega
      · exact z
    rw [List.replicate_succ, List.flatten_cons]
    by_cases q : j < u.count n
    · rw [posn_app1 n _ _ _ q, Nat.div_eq_of_lt q, Nat.mod_eq_of_lt q]; omega
    · rw [posn_app2 n _ _ _ (by omega), posn_rep n u k _ (by rw [Nat.mul_succ] at h; omega)]
      have e1 : j / u.count n = (j - u.count n) / u.count n + 1 := by rw [Nat.div_eq_sub_div hu (by omega)]
      have e2 : j % u.count n = (j - u.count n) % u.count n := Nat.mod_eq_sub_mod (by omega)
      rw [e1, e2, Nat.succ_mul]; omega
theorem posn_le (n : Str) : ∀ (u : List Str) (j : Nat), posn n u j ≤ u.length
  | [], j => by simp [posn]
  | x :: u, j => by
    unfold posn
    split
    · split
      · simp
      · have := posn_le n u; simp; apply posn_le
    · have := posn_le n u j; simp; omega
section
variable {ps : List Pt} {t : Nat} {h : He}
theorem Gs.cnt (g : Gs ps t) {i : Nat} (hi : i < ps.length) (n : Str) : (den ps i).count n ≤ 10 ^ 20 := Nat.le_trans List.count_le_length (g.size i hi)
theorem div_lg {a b : Nat} (h : a ≤ 10 ^ 60) : (((a : Int) / (b : Int))).natAbs.log2 < 1000 := by
  have e : ((a : Int) / (b : Int)) = ((a / b : Nat) : Int) := rfl
  rw [e, Int.natAbs_natCast]
  exact lg (Nat.le_trans (Nat.div_le_self _ _) h)
theorem count_pos_it {x n : Str} {j : Nat} (h : j < [x].count n) : x = n ∧ j = 0 := by
  rw [cnt_it] at h
  by_cases q : x = n
  · rw [if_pos q] at h; exact ⟨q, by omega⟩
  · rw [if_neg q] at h; omega
theorem item_place_ok (g : Gs ps t) {n : Str} {J : Nat} (hJ : J < (den ps t).count n) : Sat (ev_item_place [sw ps t, .str n, nI J] h) fun w h' => w = nI (posn n (den ps t) J) ∧ Kp h h' := by
  obtain ⟨h2, e2⟩ : ∃ h2, h2 = h ++ [EO.lst (vls sz (words ps))] ++ [EO.lst (vls (cn n) (words ps))] := ⟨_, rfl⟩
  have hl : h2[h.length]? = some (.lst (vls sz (words ps))) := by rw [e2]; simp
  have hm : h2[(h ++ [EO.lst (vls sz (words ps))]).length]? = some (.lst (vls (cn n) (words ps))) := by rw [e2]; simp
  have kp : Kp h h2 := by rw [e2, List.append_assoc]; exact .app
  have c1 : ¬ ((den ps t).count n : Int) ≤ (J : Int) := by omega
  have c2 : ¬ (den ps t).count n ≤ J := by omega
  simp only [ev_item_place, fn, sSeq_eq, sPar_eq, esC_eq, eCall_eq, eV_eq, esN_eq, List.length_cons, List.length_nil, List.map_cons, List.map_nil, List.cons_append, List.nil_append, Nat.reduceAdd, Nat.reduceSub, List.replicate, if_true, List.getElem?_cons_zero, List.getElem?_cons_succ, Rs.bind_ok, lengths_ok g, part_numbers_ok g, ← e2, List.set_cons_succ, List.set_cons_zero]
  simp [lst_of hm, lst_of hl, top_at g, c2, -List.length_append]
  refine Sat.bind (Sat.bind (whl_sat (fun k σ g' => ∃ j pl x, k < ps.length ∧ σ = [some (sw ps t), some (.str n), some (nI j), some (.ref h.length), some (.ref (h ++ [EO.lst (vls sz (words ps))]).length), some (nI k), some (nI pl), x] ∧ h2 = g' ∧ j < (den ps k).count n ∧ pl + posn n (den ps k) j = posn n (den ps t) J ∧ pl ≤ 10 ^ 20 * 10 ^ 20 ) (fun k σ g' ⟨j, pl, x, hk, es, eg, hj, hpl, hb⟩ => ?_) FU t _ h2 (by have := g.len; have := g.top; show t < 10000000; omega) ⟨J, 0, none, g.top, rfl, rfl, hJ, by simp, by omega⟩))
  subst es eg
  obtain ⟨q, hq⟩ := get_of hk
  have ok := g.wf.ok k q hq
  cases q with
  | it x =>
    rw [den_it hq] at hj hpl
    obtain ⟨rfl, rfl⟩ := count_pos_it hj
    refine whl_stop (h1 := h2) (by simp [hq, Pt.w]) ?_
    simp [posn] at hpl
    simp [hpl, kp]
  | th a b =>
    obtain ⟨ha, hb2⟩ := ok
    have da := den_at (ps := ps) (i := a) (by omega)
    rw [den_th g.wf hq] at hj hpl
    by_cases c : (den ps a).count n ≤ j
    · have c4 : ((j : Int) - ((den ps a).count n : Int)) = ((j - (den ps a).count n : Nat) : Int) := by omega
      rw [posn_app2 n _ _ _ c] at hpl
      have := posn_le n (den ps t) J
      have := g.size t g.top
      refine whl_step (h1 := h2) (h' := h2) (m' := b) (σ' := [some (sw ps t), some (.str n), some (nI (j - (den ps a).count n)), some (.ref h.length), some (.ref (h ++ [EO.lst (vls sz (words ps))]).length), some (nI b), some (nI (pl + (den ps a).length)), some (Pt.th a b).w]) (by simp [hq, Pt.w, s2]) (by simp [hq, lst_of hl, lst_of hm, Pt.w, s6, da, c, c4, -List.length_append]) hb2 ⟨_, _, _, by omega, rfl, rfl, by rw [List.count_append] at hj; omega, by omega, by omega⟩
    · rw [posn_app1 n _ _ _ (by omega)] at hpl
      exact whl_step (h1 := h2) (h' := h2) (m' := a) (σ' := [some (sw ps t), some (.str n), some (nI j), some (.ref h.length), some (.ref (h ++ [EO.lst (vls sz (words ps))]).length), some (nI a), some (nI pl), some (Pt.th a b).w]) (by simp [hq, Pt.w, s2]) (by simp [hq, lst_of hl, lst_of hm, Pt.w, s6, da, c, -List.length_append]) ha ⟨_, _, _, by omega, rfl, rfl, by omega, by omega, by omega⟩
  | tm a k2 =>
    obtain ⟨ha, hk2⟩ := ok
    have da := den_at (ps := ps) (i := a) (by omega)
    rw [den_tm g.wf hq] at hj hpl
    rw [rep_count] at hj
    rw [posn_rep n _ _ _ hj] at hpl
    have pa : 0 < (den ps a).count n := by
      rcases Nat.eq_zero_or_pos ((den ps a).count n) with z | z
      · rw [z] at hj; omega
      · exact z
    have la := g.size a (by omega)
    have lc := g.cnt (i := a) (by omega) n
    have lk := g.cnt hk n
    have hj2 : j ≤ 10 ^ 20 := by rw [den_tm g.wf hq, rep_count] at lk; omega
    have m1 := div_lg (a := j) (b := (den ps a).count n) (by omega)
    have m2 := lg (n := (den ps a).length) (by omega)
    have m3 : (((j : Int) / ((den ps a).count n : Int))).natAbs.log2 + (den ps a).length.log2 < 3000000 := by omega
    have m4 := lg (n := (den ps a).count n) (by omega)
    have m5 : ((den ps a).count n).log2 < 8000 := by omega
    have := posn_le n (den ps t) J
    have := g.size t g.top
    exact whl_step (h1 := h2) (h' := h2) (m' := a) (σ' := [some (sw ps t), some (.str n), some (nI (j % (den ps a).count n)), some (.ref h.length), some (.ref (h ++ [EO.lst (vls sz (words ps))]).length), some (nI a), some (nI (pl + j / (den ps a).count n * (den ps a).length)), some (Pt.tm a k2).w]) (by simp [hq, Pt.w, s3]) (by simp [hq, lst_of hl, lst_of hm, Pt.w, da, pa, m3, m5, -List.length_append, -List.count_pos_iff]) ha ⟨_, _, _, by omega, rfl, rfl, Nat.mod_lt _ pa, by omega, by omega⟩
theorem item_place_bad (g : Gs ps t) {n : Str} {J : Nat} (hJ : ¬ J < (den ps t).count n) : ∃ h', ev_item_place [sw ps t, .str n, nI J] h = .ex 103 [(9, .str "none")] h' ∧ Kp h h' := by
  have c2 : (den ps t).count n ≤ J := by omega
  have hm : (h ++ [EO.lst (vls sz (words ps))] ++ [EO.lst (vls (cn n) (words ps))])[(h ++ [EO.lst (vls sz (words ps))]).length]? = some (.lst (vls (cn n) (words ps))) := at_end
  refine ⟨_, by simp only [ev_item_place, fn, sSeq_eq, sPar_eq, esC_eq, eCall_eq, eV_eq, esN_eq, List.length_cons, List.length_nil, List.map_cons, List.map_nil, List.cons_append, List.nil_append, Nat.reduceAdd, Nat.reduceSub, List.replicate, if_true, List.getElem?_cons_zero, List.getElem?_cons_succ, Rs.bind_ok, lengths_ok g, part_numbers_ok g, List.set_cons_succ, List.set_cons_zero]; simp [lst_of hm, top_at g, c2, -List.length_append, -List.append_assoc]; rfl, by rw [List.append_assoc]; exact .app⟩
end
end VE
end
section
set_option Elab.async false
set_option linter.all false
set_option autoImplicit false
set_option maxRecDepth 100000
namespace VE
open PySem
section
variable {ps : List Pt} {t : Nat} {h : He}
abbrev bk (ks : List Str) (b : List W) : W := .tup (.tup (ks.map W.str) :: b)
theorem map_str_at {ks : List Str} {j : Nat} {x : W} (e : (ks.map W.str)[j]? = some x) : ∃ k, ks[j]? = some k ∧ x = .str k := by
  rw [List.getElem?_map] at e
  cases q : ks[j]? with
  | none => rw [q] at e; cases e
  | some k => rw [q] at e; cases e; exact ⟨k, rfl, rfl⟩
theorem Kp.at (k : Kp h h) {i : Nat} {o : EO} (e : h[i]? = some o) : h[i]? = some o := e
theorem bill_ok (g : Gs ps t) {ks : List Str} {b : List W} {p : Nat} (hk : ks.length ≤ 400) (hp : p ≤ (den ps t).length) : Sat (ev_bill_ahead [bk ks b, sw ps t, nI p] h) fun w h' => w = .tup (ks.map fun n => nI (((den ps t).take p).count n)) ∧ Kp h h' := by
  have c1 : (p : Int) ≤ ((den ps t).length : Int) := by omega
  have sl : ev_script_length [sw ps t] h = .ok (nI (den ps t).length) (h ++ [.lst (vls sz (words ps))]) := by
    simp [ev_script_length, fn, lengths_ok g, lst_of at_end, top_at g]
  obtain ⟨h1, e1⟩ : ∃ h1, h1 = h ++ [EO.lst (vls sz (words ps))] := ⟨_, rfl⟩
  obtain ⟨h2, e2⟩ : ∃ h2, h2 = h1 ++ [EO.lst (vls sz (words ps))] := ⟨_, rfl⟩
  have hl : h2[h1.length]? = some (.lst (vls sz (words ps))) := by rw [e2]; exact at_end
  have kp : Kp h h2 := by rw [e2, e1]; exact Kp.app.trans .app
  rw [← e1] at sl
  simp [ev_bill_ahead, fn, sl, hp, lengths_ok g, ← e2]
  refine Sat.bind (Sat.bind (Sat.bind (Sat.bind (Sat.bind (lcfix_sat (fun i acc g' => Kp h2 g' ∧ acc = (ks.take i).map fun n => nI (((den ps t).take p).count n)) _ 0 [] _ ⟨.refl, by simp⟩ (fun j x acc g' ej ⟨k1, e1⟩ => ?_) fun acc g' ⟨k1, e1⟩ => ?_)))))
  · obtain ⟨n, en, rfl⟩ := map_str_at ej
    subst e1
    have hj := (List.getElem?_eq_some_iff.mp en).1
    have hl2 : (g' ++ [EO.lst (vls (cn n) (words ps))])[h1.length]? = some (.lst (vls sz (words ps))) := Kp.app _ _ (k1 _ _ hl)
    have z := number_ahead_ok g (n := n) (l := h1.length) (m := g'.length) hl2 at_end hp
    have hs : min j ks.length < sizeLine := lt_line (by omega)
    simp [-List.map_take, part_numbers_ok g, z, hs]
    rw [take_snoc en, List.map_append]
    exact ⟨k1.trans .app, rfl⟩
  · subst e1
    simp [-List.map_take, lst_of at_end]
    exact (kp.trans k1).trans .app
theorem bill_bad (g : Gs ps t) {w : W} {p : Int} (hp : ¬ (0 ≤ p ∧ p ≤ ((den ps t).length : Int))) : ∃ h', ev_bill_ahead [w, sw ps t, .int p] h = .ex 103 [(9, .str "place")] h' ∧ Kp h h' := by
  have sl : ev_script_length [sw ps t] h = .ok (nI (den ps t).length) (h ++ [.lst (vls sz (words ps))]) := by
    simp [ev_script_length, fn, lengths_ok g, lst_of at_end, top_at g]
  by_cases c : 0 ≤ p
  · have c2 : ¬ p ≤ ((den ps t).length : Int) := fun q => hp ⟨c, q⟩
    exact ⟨h ++ [.lst (vls sz (words ps))], by simp [ev_bill_ahead, fn, sl, c, c2], .app⟩
  · exact ⟨h, by simp [ev_bill_ahead, fn, c], .refl⟩
theorem law_sizes_ok (g : Gs ps t) : ev__law_sizes [sw ps t] h = .ok (.ref h.length) (h ++ [.lst (vls sz (words ps))]) := by
  apply Sat.eq
  simp [ev__law_sizes, fn]
  refine Sat.bind (Sat.bind (for_parts (ps := ps) sz (fun σ => ∃ x, σ = [some (sw ps t), some (.ref h.length), x]) h.length at_end ⟨_, rfl⟩ (fun j p σ g' ep ⟨y, e1⟩ hg => ?_) fun σ ⟨x, e⟩ => ?_))
  · subst e1
    have hj := (List.getElem?_eq_some_iff.mp ep).1
    have hs : min j (words ps).length < sizeLine := lt_line (by have := g.len; omega)
    have ok := ok_at g.wf ep
    cases p with
    | it x => simp [Pt.w, lst_of hg, hg, hs, wordOf, sz, nI]
    | th a b =>
      obtain ⟨h1, h2⟩ := ok
      obtain ⟨u, hu⟩ := get_of h1
      obtain ⟨v, hv⟩ := get_of h2
      simp [Pt.w, s2, lst_of hg, hg, hs, wordOf, hu, hv, nI, sz]
    | tm a k =>
      obtain ⟨h1, h2⟩ := ok
      obtain ⟨u, hu⟩ := get_of h1
      have m := sm_at g.wf g.sm ep a k rfl
      simp [hu] at m
      simp [Pt.w, s3, s4, lst_of hg, hg, hs, wordOf, hu, m, Int.mul_comm, nI, sz, rep_len]
  · subst e
    simp
theorem law_counts_ok (g : Gs ps t) {n : Str} : ev__law_counts [sw ps t, .str n] h = .ok (.ref h.length) (h ++ [.lst (vls (cn n) (words ps))]) := by
  apply Sat.eq
  simp [ev__law_counts, fn]
  refine Sat.bind (Sat.bind (for_parts (ps := ps) (cn n) (fun σ => ∃ x, σ = [some (sw ps t), some (.str n), some (.ref h.length), x]) h.length at_end ⟨_, rfl⟩ (fun j p σ g' ep ⟨y, e1⟩ hg => ?_) fun σ ⟨x, e⟩ => ?_))
  · subst e1
    have hj := (List.getElem?_eq_some_iff.mp ep).1
    have hs : min j (words ps).length < sizeLine := lt_line (by have := g.len; omega)
    have ok := ok_at g.wf ep
    cases p with
    | it x =>
      by_cases q : x = n <;> simp [Pt.w, lst_of hg, hg, hs, wordOf, cnt_it, q, cn, nI]
    | th a b =>
      obtain ⟨h1, h2⟩ := ok
      obtain ⟨u, hu⟩ := get_of h1
      obtain ⟨v, hv⟩ := get_of h2
      simp [Pt.w, s2, lst_of hg, hg, hs, wordOf, hu, hv, cn, nI]
    | tm a k =>
      obtain ⟨h1, h2⟩ := ok
      obtain ⟨u, hu⟩ := get_of h1
      have hk := g.num _ _ _ ep
      have hu2 : u = den ps a := by
        have := (g.wf.ok _ _ ep).1
        rw [List.getElem?_take_of_lt this, den_at (by omega)] at hu
        exact (Option.some.inj hu).symm
      have hc := g.cnt (i := a) (by have := (g.wf.ok _ _ ep).1; omega) n
      rw [← hu2] at hc
      have m1 := lg (n := u.count n) (by omega)
      have m2 := lg (n := k) (by omega)
      have m3 : (u.count n).log2 + k.log2 < 3000000 := by omega
      simp [Pt.w, s3, s4, lst_of hg, hg, hs, wordOf, hu, rep_count, m3, cn, nI]
  · subst e
    simp
end
end VE
end
section
set_option Elab.async false
set_option linter.all false
set_option autoImplicit false
set_option maxRecDepth 100000
namespace VE
open PySem
@[simp] theorem fSum_eq (w : W) (h : He) : fSum [w] h = (match (lstOf h w).bind intsOf with
    | some ns => .ok (.int ns.sum) h
    | none => .bad) := rfl
theorem intsOf_nat : ∀ l : List Nat, intsOf (l.map nI) = some (l.map fun (n : Nat) => (n : Int))
  | [] => rfl
  | n :: l => by
    show (intsOf (l.map nI)).map _ = _
    rw [intsOf_nat l]; rfl
theorem sum_nat : ∀ l : List Nat, (l.map fun (n : Nat) => (n : Int)).sum = (l.sum : Nat)
  | [] => rfl
  | n :: l => by simp [sum_nat l]
abbrev pk (q : Nat × Nat) : W := .tup [nI q.1, nI q.2]
theorem lst_app {h : He} {l : Nat} {xs : List W} (e : h[l]? = some (.lst xs)) (o : EO) : lstOf (h ++ [o]) (.ref l) = some xs := lst_of (Kp.app _ _ e)
section
variable {ps : List Pt} {t : Nat} {h : He}
structure Ahead (ps : List Pt) (l : List (Nat × Nat)) (u : List Str) : Prop where
  len : l.length ≤ 400
  ok : ∀ q ∈ l, q.1 < ps.length ∧ q.2 ≤ 10 ^ 20
  cnt : ∀ n, (l.map fun q => (den ps q.1).count n * q.2).sum = u.count n
theorem down_ok (g : Gs ps t) {l : Nat} (hl : h[l]? = some (.lst (vls sz (words ps)))) {P : Nat} (hP : P < (den ps t).length) :
    ∃ n ah, ev__law_down [sw ps t, .ref l, nI P] h = .ok (.tup [.str n, .ref h.length]) (h ++ [.lst (ah.map pk)]) ∧ (den ps t)[P]? = some n ∧ Ahead ps ah ((den ps t).take P) := by
  have main : Sat (ev__law_down [sw ps t, .ref l, nI P] h) fun w h' => ∃ n ah, w = .tup [.str n, .ref h.length] ∧ h' = h ++ [.lst (ah.map pk)] ∧ (den ps t)[P]? = some n ∧ Ahead ps ah ((den ps t).take P) := by
    simp only [ev__law_down, fn]
    simp only [sSeq_eq, sAsg_eq, eIx_eq, eV_eq, eK_eq, gV_eq, eLst_eq, esN_eq, sFor_eq, iRg_eq, esC_eq, eCall_eq, List.length_cons, List.length_nil, List.map_cons, List.map_nil, List.cons_append, List.nil_append, Nat.reduceAdd, Nat.reduceSub, List.replicate, if_true, List.getElem?_cons_zero, List.getElem?_cons_succ, Rs.bind_ok, ixv_tup, atW_0, atW_1, Rs.lift_some, List.set_cons_succ, List.set_cons_zero]
    simp
    refine Sat.bind (Sat.bind (for_sat (fun i σ g' => ∃ p a ah x y, a + i ≤ t ∧ σ = [some (sw ps t), some (.ref l), some (nI p), some (nI a), some (.ref h.length), x, y] ∧ g' = h ++ [.lst (ah.map pk)] ∧ p < (den ps a).length ∧ (den ps t)[P]? = (den ps a)[p]? ∧ ah.length ≤ i ∧ (∀ q ∈ ah, q.1 < ps.length ∧ q.2 ≤ 10 ^ 20) ∧
      ∀ n, (ah.map fun q => (den ps q.1).count n * q.2).sum + ((den ps a).take p).count n = ((den ps t).take P).count n) _ 0 _ _ ⟨P, t, [], _, _, by omega, rfl, by simp, hP, rfl, by simp, by simp, by simp⟩ (fun j xx σ g' ej ⟨p, a, ah, x, y, hat, es, eg, hp, hd, hlen, hok, hcnt⟩ => ?_) fun σ g' ⟨p, a, ah, x, y, hat, _⟩ => ?_))
    · obtain ⟨hj, rfl⟩ := rgOf_at ej
      subst es eg
      have hgl := lst_app hl
      have hak : a < ps.length := by have := g.top; omega
      obtain ⟨q, hq⟩ := get_of hak
      have ok := g.wf.ok a q hq
      have ln := g.len
      have tp := g.top
      have hs : ah.length < sizeLine := lt_line (by omega)
      cases q with
      | it x =>
        rw [den_it hq] at hp hd hcnt
        have hp0 : p = 0 := by simpa using hp
        subst hp0
        refine for_brk (σ' := [some (sw ps t), some (.ref l), some (nI 0), some (nI a), some (.ref h.length), some (.int (0 + (j : Int))), some (Pt.it x).w]) (h' := h ++ [.lst (ah.map pk)]) (by simp [hq, Pt.w]) ?_
        simp [hq, Pt.w]
        exact ⟨ah, rfl, by simpa using hd, by omega, fun q hq => hok q hq, fun n => by have := hcnt n; simpa using this⟩
      | th b c =>
        obtain ⟨hb, hc⟩ := ok
        have db := den_at (ps := ps) (i := b) (by omega)
        rw [den_th g.wf hq] at hp hd hcnt
        by_cases cc : (den ps b).length ≤ p
        · have c4 : ((p : Int) - ((den ps b).length : Int)) = ((p - (den ps b).length : Nat) : Int) := by omega
          refine for_step (σ' := [some (sw ps t), some (.ref l), some (nI (p - (den ps b).length)), some (nI c), some (.ref h.length), some (.int (0 + (j : Int))), some (Pt.th b c).w]) (h' := h ++ [.lst ((ah ++ [(b, 1)]).map pk)]) (by simp [hq, Pt.w, s2, s6, hgl, lst_of at_end, db, cc, c4, hs]) ⟨_, _, _, _, _, by omega, rfl, rfl, by rw [List.length_append] at hp; omega, ?_, by simp; omega, ?_, ?_⟩
          · rw [hd, List.getElem?_append_right cc]
          · intro q hq
            rcases List.mem_append.mp hq with z | z
            · exact hok q z
            · rw [List.mem_singleton.mp z]; exact ⟨by show b < ps.length; omega, by show (1 : Nat) ≤ _; omega⟩
          · intro n
            have := hcnt n
            rw [List.take_append, List.take_of_length_le cc, List.count_append] at this
            simp
            omega
        · refine for_step (σ' := [some (sw ps t), some (.ref l), some (nI p), some (nI b), some (.ref h.length), some (.int (0 + (j : Int))), some (Pt.th b c).w]) (h' := h ++ [.lst (ah.map pk)]) (by simp [hq, Pt.w, s2, s6, hgl, db, cc]) ⟨_, _, _, _, _, by omega, rfl, rfl, by omega, ?_, by omega, hok, ?_⟩
          · rw [hd, List.getElem?_append_left (by omega)]
          · intro n
            have := hcnt n
            rw [List.take_append_of_le_length (by omega)] at this
            exact this
      | tm b k =>
        obtain ⟨hb, hk⟩ := ok
        have db := den_at (ps := ps) (i := b) (by omega)
        have pb := g.pos (i := b) (by omega)
        have pn : den ps b ≠ [] := List.length_pos_iff.mp pb
        have lb := g.size b (by omega)
        have la := g.size a hak
        have hp2 : p < k * (den ps b).length := by rw [den_tm g.wf hq, rep_len] at hp; exact hp
        rw [den_tm g.wf hq] at hd hcnt
        have m4 := lg (n := (den ps b).length) (by omega)
        have m5 : (den ps b).length.log2 < 8000 := by omega
        have hdv : p / (den ps b).length ≤ p := Nat.div_le_self _ _
        refine for_step (σ' := [some (sw ps t), some (.ref l), some (nI (p % (den ps b).length)), some (nI b), some (.ref h.length), some (.int (0 + (j : Int))), some (Pt.tm b k).w]) (h' := h ++ [.lst ((ah ++ [(b, p / (den ps b).length)]).map pk)]) (by simp [hq, Pt.w, s3, hgl, lst_of at_end, db, pn, pb, m5, hs]) ⟨_, _, _, _, _, by omega, rfl, rfl, Nat.mod_lt _ pb, ?_, by simp; omega, ?_, ?_⟩
        · rw [hd, rep_get _ _ _ hp2]
        · intro q hq
          rcases List.mem_append.mp hq with z | z
          · exact hok q z
          · rw [List.mem_singleton.mp z]; exact ⟨by show b < ps.length; omega, by show p / _ ≤ _; omega⟩
        · intro n
          have := hcnt n
          rw [rep_take _ _ _ hp2, List.count_append, rep_count] at this
          simp
          omega
    · have := g.top
      simp at hat
      omega
  obtain ⟨w, h', e, n, ah, rfl, rfl, r1, r2⟩ := main
  exact ⟨n, ah, e, r1, r2⟩
end
end VE
end
section
set_option Elab.async false
set_option linter.all false
set_option autoImplicit false
set_option maxRecDepth 100000
namespace VE
open PySem
section
variable {ps : List Pt} {t : Nat} {h : He}
theorem FU_big {n : Nat} (h : n ≤ 1000) : n < FU + 0 := by show n < 10000000 + 0; omega
theorem law_ahead_ok (g : Gs ps t) {l m : Nat} {n : Str} (hl : h[l]? = some (.lst (vls sz (words ps)))) (hm : h[m]? = some (.lst (vls (cn n) (words ps)))) {p : Nat} (hp : p ≤ (den ps t).length) :
    Sat (ev__law_ahead [sw ps t, .ref l, .ref m, nI p] h) fun w h' => w = nI (((den ps t).take p).count n) ∧ Kp h h' := by
  by_cases c : p = (den ps t).length
  · subst c
    simp [ev__law_ahead, fn, lst_of hl, lst_of hm, top_at g, Kp.refl]
  have c1 : ¬ (p : Int) = ((den ps t).length : Int) := by omega
  obtain ⟨nd, ah, ed, _, A⟩ := down_ok g hl (P := p) (by omega)
  simp [ev__law_ahead, fn, lst_of hl, top_at g, c1, ed, lst_of at_end]
  refine Sat.bind (Sat.bind (Sat.bind (Sat.bind (Sat.bind (lclive_sat (ah.map pk) (fun i acc g' => g' = h ++ [.lst (ah.map pk)] ∧ acc = ((ah.take i).map fun q => (den ps q.1).count n * q.2).map nI) (fun i acc g' ⟨e, _⟩ => by rw [e]; exact lst_of at_end) (fun i x acc g' ei ⟨e1, e2⟩ => ?_) (fun acc g' ⟨e1, e2⟩ => ?_) FU 0 [] _ (by have := A.len; simp; exact FU_big (by omega)) (by simp) ⟨rfl, by simp⟩)))))
  · subst e1 e2
    rw [List.getElem?_map] at ei
    cases eq : ah[i]? with
    | none => rw [eq] at ei; cases ei
    | some q =>
      rw [eq] at ei
      cases ei
      have hi := (List.getElem?_eq_some_iff.mp eq).1
      obtain ⟨q1, q2⟩ := A.ok q (List.mem_of_getElem? eq)
      have hc := g.cnt q1 n
      have m1 := lg (n := (den ps q.1).count n) (by omega)
      have m2 := lg (n := q.2) (by omega)
      have m3 : ((den ps q.1).count n).log2 + q.2.log2 < 3000000 := by omega
      have dq := den_at q1
      have la := A.len
      have hs : min i ah.length < sizeLine := lt_line (by omega)
      rw [take_snoc eq, List.map_append, List.map_append]
      simp [-List.map_take, -List.map_map, lst_app hm, dq, m3, hs, nI]
  · subst e1 e2
    rw [List.length_map, List.take_length]
    simp only [Rs.bind_ok, sat_ok, fSum_eq, lst_of at_end, Option.bind_some, intsOf_nat, sum_nat, A.cnt n]
    exact ⟨by trivial, Kp.app.trans .app⟩
theorem law_spot_ok (g : Gs ps t) {l m : Nat} {n : Str} (hl : h[l]? = some (.lst (vls sz (words ps)))) (hm : h[m]? = some (.lst (vls (cn n) (words ps)))) {J : Nat} :
    ev__law_spot [sw ps t, .ref l, .ref m, nI J] h = .ok (if J < (den ps t).count n then nI (posn n (den ps t) J) else .non) h := by
  by_cases c : J < (den ps t).count n
  · rw [if_pos c]
    have c2 : ¬ (den ps t).count n ≤ J := by omega
    apply Sat.eq
    simp [ev__law_spot, fn, lst_of hm, top_at g, c2]
    refine Sat.bind (Sat.bind (for_sat (fun i σ g' => ∃ j pl a x y, a + i ≤ t ∧ σ = [some (sw ps t), some (.ref l), some (.ref m), some (nI j), some (nI a), some (nI pl), x, y] ∧ h = g' ∧ j < (den ps a).count n ∧ pl + posn n (den ps a) j = posn n (den ps t) J) _ 0 _ _ ⟨J, 0, t, _, _, by omega, rfl, rfl, c, by simp⟩ (fun i xx σ g' ej ⟨j, pl, a, x, y, hat, es, eg, hj, hpl⟩ => ?_) fun σ g' ⟨j, pl, a, x, y, hat, _⟩ => ?_))
    · obtain ⟨hi, rfl⟩ := rgOf_at ej
      subst es eg
      have hak : a < ps.length := by have := g.top; omega
      obtain ⟨q, hq⟩ := get_of hak
      have ok := g.wf.ok a q hq
      have tp := g.top
      cases q with
      | it x =>
        rw [den_it hq] at hj hpl
        obtain ⟨rfl, rfl⟩ := count_pos_it hj
        refine for_brk (σ' := [some (sw ps t), some (.ref l), some (.ref m), some (nI 0), some (nI a), some (nI pl), some (.int (0 + (i : Int))), some (Pt.it x).w]) (h' := h) (by simp [hq, Pt.w]) ?_
        simp [posn] at hpl
        simp [hpl]
      | th b c' =>
        obtain ⟨hb, hc⟩ := ok
        have db := den_at (ps := ps) (i := b) (by omega)
        rw [den_th g.wf hq] at hj hpl
        by_cases cc : (den ps b).count n ≤ j
        · have c4 : ((j : Int) - ((den ps b).count n : Int)) = ((j - (den ps b).count n : Nat) : Int) := by omega
          rw [posn_app2 n _ _ _ cc] at hpl
          exact for_step (σ' := [some (sw ps t), some (.ref l), some (.ref m), some (nI (j - (den ps b).count n)), some (nI c'), some (nI (pl + (den ps b).length)), some (.int (0 + (i : Int))), some (Pt.th b c').w]) (h' := h) (by simp [hq, Pt.w, s2, s6, lst_of hl, lst_of hm, db, cc, c4]) ⟨_, _, _, _, _, by omega, rfl, rfl, by rw [List.count_append] at hj; omega, by omega⟩
        · rw [posn_app1 n _ _ _ (by omega)] at hpl
          exact for_step (σ' := [some (sw ps t), some (.ref l), some (.ref m), some (nI j), some (nI b), some (nI pl), some (.int (0 + (i : Int))), some (Pt.th b c').w]) (h' := h) (by simp [hq, Pt.w, s2, s6, lst_of hl, lst_of hm, db, cc]) ⟨_, _, _, _, _, by omega, rfl, rfl, by omega, by omega⟩
      | tm b k =>
        obtain ⟨hb, hk⟩ := ok
        have db := den_at (ps := ps) (i := b) (by omega)
        have lk := g.cnt hak n
        rw [den_tm g.wf hq] at hj hpl
        rw [rep_count] at hj
        rw [posn_rep n _ _ _ hj] at hpl
        have pb : 0 < (den ps b).count n := by
          rcases Nat.eq_zero_or_pos ((den ps b).count n) with z | z
          · rw [z] at hj; omega
          · exact z
        have la := g.size b (by omega)
        have lc := g.cnt (i := b) (by omega) n
        have hj2 : j ≤ 10 ^ 20 := by rw [den_tm g.wf hq, rep_count] at lk; omega
        have m1 := div_lg (a := j) (b := (den ps b).count n) (by omega)
        have m2 := lg (n := (den ps b).length) (by omega)
        have m3 : (((j : Int) / ((den ps b).count n : Int))).natAbs.log2 + (den ps b).length.log2 < 3000000 := by omega
        have m4 := lg (n := (den ps b).count n) (by omega)
        have m5 : ((den ps b).count n).log2 < 8000 := by omega
        exact for_step (σ' := [some (sw ps t), some (.ref l), some (.ref m), some (nI (j % (den ps b).count n)), some (nI b), some (nI (pl + j / (den ps b).count n * (den ps b).length)), some (.int (0 + (i : Int))), some (Pt.tm b k).w]) (h' := h) (by simp [hq, Pt.w, s3, lst_of hl, lst_of hm, db, pb, m3, m5, -List.count_pos_iff]) ⟨_, _, _, _, _, by omega, rfl, rfl, Nat.mod_lt _ pb, by omega⟩
    · have := g.top
      simp at hat
      omega
  · have c2 : (den ps t).count n ≤ J := by omega
    rw [if_neg c]
    simp [ev__law_spot, fn, lst_of hm, top_at g, c2]
end
end VE
end
section
set_option Elab.async false
set_option linter.all false
set_option autoImplicit false
set_option maxRecDepth 100000
namespace VE
open PySem
def foG {α : Type} (f : List α → Pt → α) : List α → List Pt → List α
  | acc, [] => acc
  | acc, p :: ps => foG f (acc ++ [f acc p]) ps
section
variable {α : Type} {f : List α → Pt → α}
theorem foG_len : ∀ (ps : List Pt) (acc : List α), (foG f acc ps).length = acc.length + ps.length
  | [], acc => rfl
  | p :: ps, acc => by
    show (foG f (acc ++ [f acc p]) ps).length = _
    rw [foG_len ps]; simp; omega
theorem foG_pre : ∀ (ps : List Pt) (acc : List α) (i : Nat), i < acc.length → (foG f acc ps)[i]? = acc[i]?
  | [], acc, i, h => rfl
  | p :: ps, acc, i, h => by
    show (foG f (acc ++ [f acc p]) ps)[i]? = _
    rw [foG_pre ps _ i (by simp; omega), List.getElem?_append_left h]
theorem foG_app : ∀ (ps qs : List Pt) (acc : List α), foG f acc (ps ++ qs) = foG f (foG f acc ps) qs
  | [], qs, acc => rfl
  | p :: ps, qs, acc => foG_app ps qs (acc ++ [f acc p])
theorem foG_take (ps : List Pt) (i : Nat) (hi : i ≤ ps.length) : foG f [] (ps.take i) = (foG f [] ps).take i := by
  have l : (foG f [] (ps.take i)).length = i := by rw [foG_len, List.length_take]; simp; omega
  have e2 : foG f [] ps = foG f (foG f [] (ps.take i)) (ps.drop i) := by
    conv => lhs; rw [← List.take_append_drop i ps]
    rw [foG_app]
  apply List.ext_getElem?
  intro j
  by_cases hj : j < i
  · rw [List.getElem?_take_of_lt hj, e2, foG_pre (ps.drop i) (foG f [] (ps.take i)) j (by omega)]
  · rw [List.getElem?_eq_none (by omega), List.getElem?_eq_none (by rw [List.length_take]; omega)]
theorem foG_at {ps : List Pt} {i : Nat} {p : Pt} (e : ps[i]? = some p) : (foG f [] ps)[i]? = some (f ((foG f [] ps).take i) p) := by
  have hi := (List.getElem?_eq_some_iff.mp e).1
  have e2 : ps.take (i + 1) = ps.take i ++ [p] := take_snoc e
  have e3 := foG_take (f := f) ps (i + 1) (by omega)
  rw [e2, foG_app, foG_take ps i (by omega)] at e3
  have e4 := congrArg (·[i]?) e3
  simp only [List.getElem?_take_of_lt (Nat.lt_succ_self i)] at e4
  rw [← e4]
  show ((foG f [] ps).take i ++ [f ((foG f [] ps).take i) p])[i]? = _
  have hl : ((foG f [] ps).take i).length = i := by rw [List.length_take, foG_len]; simp; omega
  rw [List.getElem?_append_right (by omega), hl, Nat.sub_self]; rfl
end
abbrev St3 := Nat × Nat × Nat
def strP (n : Str) (s : Nat → Nat) (acc : List St3) : Pt → St3
  | .it x => if x = n then (1, 1, 1) else (0, 0, 0)
  | .th a b => let o := acc.getD a (0, 0, 0); let q := acc.getD b (0, 0, 0)
    (if o.1 = s a then o.1 + q.1 else o.1, if q.2.1 = s b then q.2.1 + o.2.1 else q.2.1, max (max o.2.2 q.2.2) (o.2.1 + q.1))
  | .tm a k => let o := acc.getD a (0, 0, 0)
    if o.1 = s a then (o.1 * k, o.1 * k, o.1 * k) else (o.1, o.2.1, if 1 < k then max o.2.2 (o.2.1 + o.1) else o.2.2)
abbrev lenF (ps : List Pt) : Nat → Nat := fun a => (den ps a).length
def strL (n : Str) (ps : List Pt) : List St3 := foG (strP n (lenF ps)) [] ps
def str1 (n : Str) (ps : List Pt) (i : Nat) : St3 := (strL n ps).getD i (0, 0, 0)
section
variable {ps : List Pt} {t : Nat} {h : He} {n : Str}
theorem strL_len : (strL n ps).length = ps.length := by unfold strL; rw [foG_len]; simp
theorem strL_at {i : Nat} (hi : i < ps.length) : (strL n ps)[i]? = some (str1 n ps i) := by
  have : i < (strL n ps).length := by rw [strL_len]; exact hi
  unfold str1
  simp [List.getD, this]
theorem str1_it {i : Nat} {x : Str} (e : ps[i]? = some (.it x)) : str1 n ps i = if x = n then (1, 1, 1) else (0, 0, 0) := by
  unfold str1 strL
  rw [List.getD, foG_at e]; rfl
theorem str1_th {i a b : Nat} (w : Wf ps) (e : ps[i]? = some (.th a b)) : str1 n ps i = (if (str1 n ps a).1 = lenF ps a then (str1 n ps a).1 + (str1 n ps b).1 else (str1 n ps a).1, if (str1 n ps b).2.1 = lenF ps b then (str1 n ps b).2.1 + (str1 n ps a).2.1 else (str1 n ps b).2.1,
    max (max (str1 n ps a).2.2 (str1 n ps b).2.2) ((str1 n ps a).2.1 + (str1 n ps b).1)) := by
  obtain ⟨h1, h2⟩ := w.ok i _ e
  conv => lhs; unfold str1 strL
  rw [List.getD, foG_at e]
  simp only [Option.getD_some, strP]
  rw [getD_take h1, getD_take h2]; rfl
theorem str1_tm {i a k : Nat} (w : Wf ps) (e : ps[i]? = some (.tm a k)) : str1 n ps i = if (str1 n ps a).1 = lenF ps a then ((str1 n ps a).1 * k, (str1 n ps a).1 * k, (str1 n ps a).1 * k) else ((str1 n ps a).1, (str1 n ps a).2.1, if 1 < k then max (str1 n ps a).2.2 ((str1 n ps a).2.1 + (str1 n ps a).1) else (str1 n ps a).2.2) := by
  obtain ⟨h1, h2⟩ := w.ok i _ e
  conv => lhs; unfold str1 strL
  rw [List.getD, foG_at e]
  simp only [Option.getD_some, strP]
  rw [getD_take h1]; rfl
theorem str_le (w : Wf ps) : ∀ (m i : Nat), i < m → i < ps.length → (str1 n ps i).1 ≤ lenF ps i ∧ (str1 n ps i).2.1 ≤ lenF ps i ∧ (str1 n ps i).2.2 ≤ lenF ps i
  | 0, i, hm, _ => absurd hm (Nat.not_lt_zero _)
  | m + 1, i, hm, hi => by
    obtain ⟨p, e⟩ := get_of hi
    have o := w.ok i p e
    cases p with
    | it x =>
      rw [str1_it e]
      show _ ≤ (den ps i).length ∧ _ ≤ (den ps i).length ∧ _ ≤ (den ps i).length
      rw [den_it e]
      by_cases q : x = n <;> simp [q]
    | th a b =>
      obtain ⟨ha, hb⟩ := o
      obtain ⟨a1, a2, a3⟩ := str_le w m a (by omega) (by omega)
      obtain ⟨b1, b2, b3⟩ := str_le w m b (by omega) (by omega)
      have hl : lenF ps i = lenF ps a + lenF ps b := by show (den ps i).length = _; rw [den_th w e, List.length_append]
      rw [str1_th w e, hl]
      refine ⟨?_, ?_, ?_⟩
      · dsimp only; split <;> omega
      · dsimp only; split <;> omega
      · dsimp only; omega
    | tm a k =>
      obtain ⟨ha, hk⟩ := o
      obtain ⟨a1, a2, a3⟩ := str_le w m a (by omega) (by omega)
      have hl : lenF ps i = k * lenF ps a := by show (den ps i).length = _; rw [den_tm w e, rep_len]
      have h1 : lenF ps a ≤ k * lenF ps a := Nat.le_mul_of_pos_left _ hk
      rw [str1_tm w e, hl]
      split
      · rename_i q
        rw [q, Nat.mul_comm]
        exact ⟨Nat.le_refl _, Nat.le_refl _, Nat.le_refl _⟩
      · refine ⟨by dsimp only; omega, by dsimp only; omega, ?_⟩
        dsimp only
        split
        · rename_i k1
          have : 2 * lenF ps a ≤ k * lenF ps a := Nat.mul_le_mul_right _ k1
          omega
        · omega
end
end VE
end
section
set_option Elab.async false
set_option linter.all false
set_option autoImplicit false
set_option maxRecDepth 100000
namespace VE
open PySem
def vF (V : Nat → W) (j : Nat) : List W := (List.range j).map V
section
variable {V : Nat → W} {j a : Nat}
@[simp] theorem vF_len : (vF V j).length = j := by simp [vF]
theorem vF_at (h : a < j) : (vF V j)[a]? = some (V a) := by unfold vF; rw [List.getElem?_map, List.getElem?_range h]; rfl
theorem vF_succ : vF V (j + 1) = vF V j ++ [V j] := by unfold vF; rw [List.range_succ, List.map_append]; rfl
@[simp] theorem vF_zero : vF V 0 = [] := rfl
end
theorem for_vals {turn : W → Sg → He → Rs Fl} {ps : List Pt} {R : Fl → He → Prop} (V : Nat → W) (S : Sg → Prop) (l : Nat) {σ : Sg} {h : He} (hl : h[l]? = some (.lst [])) (hS : S σ)
    (st : ∀ j p σ g, ps[j]? = some p → S σ → g[l]? = some (.lst (vF V j)) → g = h.set l (.lst (vF V j)) → Sat (turn p.w σ g) (LpQ (fun σ' g' => S σ' ∧ g' = g.set l (.lst (vF V j ++ [V j]))) R))
    (d : ∀ σ, S σ → R (.nx σ) (h.set l (.lst (vF V ps.length)))) : Sat (forFix turn (ps.map Pt.w) σ h) R := by
  have hlt := (List.getElem?_eq_some_iff.mp hl).1
  refine for_sat (fun i σ g => S σ ∧ g = h.set l (.lst (vF V i))) (ps.map Pt.w) 0 σ h ⟨hS, (set_same hl).symm⟩ (fun j x σ g ej ⟨hs, eg⟩ => ?_) fun σ g ⟨hs, eg⟩ => ?_
  · obtain ⟨p, ep, rfl⟩ := map_at ej
    rw [Nat.zero_add] at eg
    have z : g[l]? = some (.lst (vF V j)) := by rw [eg]; simp [hlt]
    refine (st j p σ g ep hs z eg).imp fun fl g' q => ?_
    have up : ∀ σ', (S σ' ∧ g' = g.set l (.lst (vF V j ++ [V j]))) → (S σ' ∧ g' = h.set l (.lst (vF V (0 + j + 1)))) := fun σ' ⟨q1, q2⟩ => ⟨q1, by rw [Nat.zero_add, vF_succ, q2, eg, List.set_set]⟩
    cases fl with
    | nx σ' => exact up σ' q
    | ct σ' => exact up σ' q
    | bk σ' => exact q
    | rt w => exact q
  · rw [eg, Nat.zero_add, List.length_map]
    exact d σ hs
@[simp] theorem mul3 (h : He) (x : W) : binW h .mul (.tup [x]) (.int 3) = .ok (.tup [x, x, x]) h := rfl
@[simp] theorem fMax2 (h : He) (i j : Int) : fMax [.int i, .int j] h = .ok (.int (max i j)) h := by
  show Rs.ok (W.int (if j > i then j else i)) h = _
  congr 2
  split <;> omega
@[simp] theorem fMax3 (h : He) (i j k : Int) : fMax [.int i, .int j, .int k] h = .ok (.int (max (max i j) k)) h := by
  show Rs.ok (W.int (maxI i [j, k])) h = _
  congr 2
  simp only [maxI]
  split <;> split <;> omega
theorem cmax (a b : Nat) : ((max a b : Nat) : Int) = max (a : Int) (b : Int) := by omega
theorem ceq (a b : Nat) : ((a : Int) = (b : Int)) = (a = b) := by rw [eq_iff_iff]; omega
theorem c1lt (k : Nat) : ((1 : Int) < (k : Int)) = (1 < k) := by rw [eq_iff_iff]; omega
abbrev tw (s : St3) : W := .tup [nI s.1, nI s.2.1, nI s.2.2]
section
variable {ps : List Pt} {t : Nat} {h : He} {n : Str}
theorem law_stretch_ok (g : Gs ps t) {l : Nat} (hl : h[l]? = some (.lst (vls sz (words ps)))) : Sat (ev__law_stretch [sw ps t, .ref l, .str n] h) fun w h' => w = nI (str1 n ps t).2.2 ∧ Kp h h' := by
  simp [ev__law_stretch, fn]
  have hne : l ≠ h.length := by have := (List.getElem?_eq_some_iff.mp hl).1; omega
  refine Sat.bind (Sat.bind (for_vals (ps := ps) (fun i => tw (str1 n ps i)) (fun σ => ∃ a b c d e, σ = [some (sw ps t), some (.ref l), some (.str n), some (.ref h.length), a, b, c, d, e]) h.length at_end ⟨_, _, _, _, _, rfl⟩ (fun j p σ g' ep ⟨xa, xb, xc, xd, xe, e1⟩ hg eg => ?_) fun σ ⟨a, b, c, d, e, e1⟩ => ?_))
  · subst e1
    have hj := (List.getElem?_eq_some_iff.mp ep).1
    have ok := g.wf.ok j p ep
    have ln := g.len
    have hs : j < sizeLine := lt_line (by omega)
    have hl2 : g'[l]? = some (.lst (vls sz (words ps))) := by rw [eg, List.getElem?_set_ne (by omega), List.getElem?_append_left (List.getElem?_eq_some_iff.mp hl).1]; exact hl
    cases p with
    | it x =>
      refine for_cnt (σ' := [some (sw ps t), some (.ref l), some (.str n), some (.ref h.length), some (Pt.it x).w, xb, xc, xd, xe]) (h' := g'.set h.length (.lst (vF (fun i => tw (str1 n ps i)) j ++ [tw (str1 n ps j)]))) ?_ ⟨⟨_, _, _, _, _, rfl⟩, rfl⟩
      rw [str1_it ep]
      by_cases q : x = n <;> simp [Pt.w, lst_of hg, hg, hs, q, tw, nI]
    | th a b =>
      obtain ⟨ha, hb⟩ := ok
      have va := vF_at (V := fun i => tw (str1 n ps i)) ha
      have vb := vF_at (V := fun i => tw (str1 n ps i)) hb
      have da := den_at (ps := ps) (i := a) (by omega)
      have db := den_at (ps := ps) (i := b) (by omega)
      refine for_step (σ' := [some (sw ps t), some (.ref l), some (.str n), some (.ref h.length), some (Pt.th a b).w, some (tw (str1 n ps a)), some (tw (str1 n ps b)), some (nI (str1 n ps j).1), some (nI (str1 n ps j).2.1)]) (h' := g'.set h.length (.lst (vF (fun i => tw (str1 n ps i)) j ++ [tw (str1 n ps j)]))) ?_ ⟨⟨_, _, _, _, _, rfl⟩, rfl⟩
      rw [str1_th g.wf ep]
      by_cases q1 : (str1 n ps a).1 = (den ps a).length <;> by_cases q2 : (str1 n ps b).2.1 = (den ps b).length <;> simp [Pt.w, s2, s6, lst_of hg, lst_of hl2, hg, hs, va, vb, da, db, q1, q2, tw, nI, lenF, cmax, ceq, c1lt]
    | tm a k =>
      obtain ⟨ha, hk⟩ := ok
      have va := vF_at (V := fun i => tw (str1 n ps i)) ha
      have da := den_at (ps := ps) (i := a) (by omega)
      have la := g.size a (by omega)
      have sl := (str_le (n := n) g.wf (a + 1) a (by omega) (by omega)).1
      have m1 := lg (n := (str1 n ps a).1) (by have : (str1 n ps a).1 ≤ (den ps a).length := sl; omega)
      have m2 := lg (n := k) (by have := g.num j a k ep; omega)
      have m3 : ((str1 n ps a).1).log2 + k.log2 < 3000000 := by omega
      refine for_step (σ' := [some (sw ps t), some (.ref l), some (.str n), some (.ref h.length), some (Pt.tm a k).w, some (tw (str1 n ps a)), xc, xd, xe]) (h' := g'.set h.length (.lst (vF (fun i => tw (str1 n ps i)) j ++ [tw (str1 n ps j)]))) ?_ ⟨⟨_, _, _, _, _, rfl⟩, rfl⟩
      rw [str1_tm g.wf ep]
      by_cases q1 : (str1 n ps a).1 = (den ps a).length
      · rw [q1] at m3
        simp [Pt.w, s3, s4, lst_of hg, lst_of hl2, hg, hs, va, da, q1, m3, tw, nI, lenF, cmax, ceq, c1lt]
      · by_cases q2 : 1 < k <;> simp [Pt.w, s3, s4, lst_of hg, lst_of hl2, hg, hs, va, da, q1, q2, tw, nI, lenF, cmax, ceq, c1lt]
  · subst e1
    simp [lst_of at_end, vF_at g.top, Kp.app]
end
end VE
end
section
set_option Elab.async false
set_option linter.all false
set_option autoImplicit false
set_option maxRecDepth 100000
namespace VE
open PySem
def rn (len : Nat) (s : St3) : EO := .ins 0 [(0, nI len), (1, nI s.1), (2, nI s.2.1), (3, nI s.2.2)]
theorem runs_init {h : He} {a b c d : W} : ev_Runs___init__ [.ref h.length, a, b, c, d] (h ++ [.ins 0 []]) = .ok .non (h ++ [.ins 0 [(0, a), (1, b), (2, c), (3, d)]]) := by
  simp [ev_Runs___init__, fn, setF, fputW]
theorem fld {h : He} {r c : Nat} {fs : List (Nat × W)} (e : h[r]? = some (.ins c fs)) (cs : List Nat) (f : Nat) : getF h cs (.ref r) f = if c ∈ cs then fgetW fs f else none := by simp [getF, e]
section
variable {h : He} {r1 r2 : Nat} {l1 l2 : Nat} {s q : St3}
theorem runs_then_ok (e1 : h[r1]? = some (rn l1 s)) (e2 : h[r2]? = some (rn l2 q)) : ev_Runs_then [.ref r1, .ref r2] h = .ok (.ref h.length) (h ++ [rn (l1 + l2) (if s.1 = l1 then s.1 + q.1 else s.1, if q.2.1 = l2 then q.2.1 + s.2.1 else q.2.1, max (max s.2.2 q.2.2) (s.2.1 + q.1))]) := by
  by_cases c1 : s.1 = l1 <;> by_cases c2 : q.2.1 = l2 <;> simp [ev_Runs_then, fn, fld e1, fld e2, fgetW, ceq, c1, c2, runs_init, rn, cmax]
theorem runs_times_ok {k : Nat} (e1 : h[r1]? = some (rn l1 s)) (m : l1.log2 + k.log2 < 3000000) : ∃ r g, ev_Runs_times [.ref r1, nI k] h = .ok (.ref r) g ∧ (g = h ∧ r = r1 ∧ k = 1 ∧ s.1 ≠ l1 ∨ r = h.length ∧ g = h ++ [rn (l1 * k) (if s.1 = l1 then (s.1 * k, s.1 * k, s.1 * k) else (s.1, s.2.1, max s.2.2 (s.2.1 + s.1)))] ∧ (s.1 ≠ l1 → k ≠ 1)) := by
  by_cases c1 : s.1 = l1
  · refine ⟨_, _, ?_, .inr ⟨rfl, rfl, fun z => absurd c1 z⟩⟩
    simp [ev_Runs_times, fn, fld e1, fgetW, ceq, c1, runs_init, rn, cmax, m]
  · by_cases c2 : k = 1
    · subst c2
      refine ⟨_, _, ?_, .inl ⟨rfl, rfl, rfl, c1⟩⟩
      simp [ev_Runs_times, fn, fld e1, fgetW, ceq, c1, rn]
    · have c3 : ¬ (k : Int) = 1 := by omega
      refine ⟨_, _, ?_, .inr ⟨rfl, rfl, fun _ => c2⟩⟩
      simp [ev_Runs_times, fn, fld e1, fgetW, ceq, c1, c3, runs_init, rn, cmax, m]
end
section
variable {ps : List Pt} {t : Nat} {h : He} {n : Str}
structure RunsI (ps : List Pt) (n : Str) (h : He) (j : Nat) (refs : List Nat) (g : He) : Prop where
  len : refs.length = j
  lst : g[h.length]? = some (.lst (refs.map W.ref))
  kp : Kp h g
  at_ : ∀ (i r : Nat), refs[i]? = some r → r ≠ h.length ∧ g[r]? = some (rn (den ps i).length (str1 n ps i))
theorem RunsI.snoc {j r : Nat} {refs : List Nat} {g g1 : He} (I : RunsI ps n h j refs g) (k : Kp g g1) (hr : r ≠ h.length) (e : g1[r]? = some (rn (den ps j).length (str1 n ps j))) : RunsI ps n h (j + 1) (refs ++ [r]) (g1.set h.length (.lst (refs.map W.ref ++ [.ref r]))) := by
  have hl := (List.getElem?_eq_some_iff.mp (k _ _ I.lst)).1
  refine ⟨by simp [I.len], by simp [hl], fun i o e => ?_, fun i r' e' => ?_⟩
  · have := (List.getElem?_eq_some_iff.mp e).1
    rw [List.getElem?_set_ne (by omega)]
    exact k _ _ (I.kp _ _ e)
  · by_cases hi : i < refs.length
    · rw [List.getElem?_append_left hi] at e'
      obtain ⟨q1, q2⟩ := I.at_ i r' e'
      exact ⟨q1, by rw [List.getElem?_set_ne (Ne.symm q1)]; exact k _ _ q2⟩
    · have hi2 : i = refs.length := by have := (List.getElem?_eq_some_iff.mp e').1; simp at this; omega
      subst hi2
      rw [List.getElem?_append_right (Nat.le_refl _)] at e'
      simp at e'
      subst e'
      refine ⟨hr, ?_⟩
      rw [List.getElem?_set_ne (Ne.symm hr), I.len]; exact e
theorem longest_ok (g : Gs ps t) : Sat (ev_longest_stretch [sw ps t, .str n] h) fun w h' => w = nI (str1 n ps t).2.2 ∧ Kp h h' := by
  simp [ev_longest_stretch, fn]
  refine Sat.bind (Sat.bind (for_sat (fun i σ g' => ∃ a b refs, σ = [some (sw ps t), some (.str n), some (.ref h.length), a, b] ∧ RunsI ps n h i refs g') _ 0 _ _ ⟨_, _, [], rfl, ⟨rfl, by simp, .app, by simp⟩⟩ (fun j x σ g' ej ⟨xa, xb, refs, es, I⟩ => ?_) fun σ g' ⟨xa, xb, refs, es, I⟩ => ?_))
  · subst es
    obtain ⟨p, ep, rfl⟩ := map_at ej
    rw [Nat.zero_add] at I
    have hj := (List.getElem?_eq_some_iff.mp ep).1
    have ok := g.wf.ok j p ep
    have ln := g.len
    have hs : refs.length < sizeLine := lt_line (by rw [I.len]; omega)
    have hlt := (List.getElem?_eq_some_iff.mp I.lst).1
    have at_ : ∀ i, i < j → ∃ r, refs[i]? = some r ∧ r ≠ h.length ∧ g'[r]? = some (rn (den ps i).length (str1 n ps i)) := fun i hi => by
      obtain ⟨r, hr⟩ := get_of (l := refs) (i := i) (by rw [I.len]; exact hi)
      exact ⟨r, hr, I.at_ i r hr⟩
    have lm := lst_of I.lst
    cases p with
    | it x =>
      have e1 : (g' ++ [rn 1 (str1 n ps j)])[g'.length]? = some (rn (den ps j).length (str1 n ps j)) := by rw [den_it ep]; exact at_end
      refine for_step (σ' := [some (sw ps t), some (.str n), some (.ref h.length), some (Pt.it x).w, some (nI (str1 n ps j).1)]) (h' := (g' ++ [rn 1 (str1 n ps j)]).set h.length (.lst (refs.map W.ref ++ [.ref g'.length]))) ?_ ⟨_, _, _, rfl, by rw [Nat.zero_add]; exact I.snoc .app (by omega) e1⟩
      have hl2 : ∀ o, (g' ++ [o])[h.length]? = some (.lst (refs.map W.ref)) := fun o => Kp.app _ _ I.lst
      rw [str1_it ep]
      by_cases q : x = n <;> simp [Pt.w, q, lm, runs_init, hl2, hs, rn, nI]
    | th a b =>
      obtain ⟨ha, hb⟩ := ok
      obtain ⟨ra, qa, na, ea⟩ := at_ a ha
      obtain ⟨rb, qb, nb, eb⟩ := at_ b hb
      have ev := str1_th (n := n) g.wf ep
      have e1 : (g' ++ [rn ((den ps a).length + (den ps b).length) (str1 n ps j)])[g'.length]? = some (rn (den ps j).length (str1 n ps j)) := by rw [den_th g.wf ep, List.length_append]; exact at_end
      have hl2 : (g' ++ [rn ((den ps a).length + (den ps b).length) (str1 n ps j)])[h.length]? = some (.lst (refs.map W.ref)) := Kp.app _ _ I.lst
      have z := runs_then_ok ea eb
      rw [← ev] at z
      refine for_step (σ' := [some (sw ps t), some (.str n), some (.ref h.length), some (Pt.th a b).w, xb]) (h' := (g' ++ [rn ((den ps a).length + (den ps b).length) (str1 n ps j)]).set h.length (.lst (refs.map W.ref ++ [.ref g'.length]))) ?_ ⟨_, _, _, rfl, by rw [Nat.zero_add]; exact I.snoc .app (by omega) e1⟩
      have hi : isIns g' 0 11 (.ref ra) = true := by simp [isIns, ea, rn, fgetW]
      simp [Pt.w, s2, lm, qa, qb, hi, z, hl2, hs]
    | tm a k =>
      obtain ⟨ha, hk⟩ := ok
      obtain ⟨ra, qa, na, ea⟩ := at_ a ha
      have ev := str1_tm (n := n) g.wf ep
      have m := g.sm j a k ep
      obtain ⟨r, g1, z, c⟩ := runs_times_ok (k := k) ea m
      have key : Kp g' g1 ∧ r ≠ h.length ∧ g1[r]? = some (rn (den ps j).length (str1 n ps j)) := by
        rcases c with ⟨rfl, rfl, rfl, q⟩ | ⟨rfl, rfl, q⟩
        · refine ⟨.refl, na, ?_⟩
          rw [ea, ev, den_tm g.wf ep, rep_len, Nat.one_mul, if_neg q]; rfl
        · refine ⟨.app, by omega, ?_⟩
          rw [at_end, ev, den_tm g.wf ep, rep_len, Nat.mul_comm]
          by_cases c1 : (str1 n ps a).1 = lenF ps a
          · rw [if_pos c1, if_pos c1]
          · have k1 : 1 < k := by have := q c1; omega
            rw [if_neg c1, if_neg c1, if_pos k1]
      obtain ⟨k1, k2, k3⟩ := key
      refine for_step (σ' := [some (sw ps t), some (.str n), some (.ref h.length), some (Pt.tm a k).w, xb]) (h' := g1.set h.length (.lst (refs.map W.ref ++ [.ref r]))) ?_ ⟨_, _, _, rfl, by rw [Nat.zero_add]; exact I.snoc k1 k2 k3⟩
      have hi : isIns g' 0 12 (.ref ra) = true := by simp [isIns, ea, rn, fgetW]
      simp [Pt.w, s3, s4, lm, qa, hi, z, k1 _ _ I.lst, lst_of (k1 _ _ I.lst), hs]
  · subst es
    simp at I
    obtain ⟨r, hr⟩ := get_of (l := refs) (i := t) (by rw [I.len]; exact g.top)
    obtain ⟨q1, q2⟩ := I.at_ t r hr
    simp [lst_of I.lst, hr, fld q2, rn, fgetW]
    exact I.kp
end
end VE
end
section
set_option Elab.async false
set_option linter.all false
set_option autoImplicit false
set_option maxRecDepth 100000
set_option maxHeartbeats 4000000
namespace VE
open PySem
abbrev Gp := Option (Nat × Nat × Option Nat)
def gapT (sa sb : Nat) : Gp → Gp → Gp
  | none, none => none
  | none, some q => some (sa + q.1, q.2.1, q.2.2)
  | some o, none => some (o.1, o.2.1 + sb, o.2.2)
  | some o, some q => some (o.1, q.2.1, some (max (o.2.1 + q.1) (max (o.2.2.getD 0) (q.2.2.getD 0))))
def gapM (k : Nat) : Gp → Gp
  | none => none
  | some o => if k = 1 then some o else some (o.1, o.2.1, some (max (o.2.1 + o.1) (o.2.2.getD 0)))
def gapP (n : Str) (s : Nat → Nat) (acc : List Gp) : Pt → Gp
  | .it x => if x = n then some (0, 0, none) else none
  | .th a b => gapT (s a) (s b) (acc.getD a none) (acc.getD b none)
  | .tm a k => gapM k (acc.getD a none)
def gap1 (n : Str) (ps : List Pt) (i : Nat) : Gp := (foG (gapP n (lenF ps)) [] ps).getD i none
def ow : Option Nat → W
  | none => .non
  | some x => nI x
def gw : Gp → W
  | none => .non
  | some o => .tup [nI o.1, nI o.2.1, ow o.2.2]
@[simp] theorem ow_none : ow none = .non := rfl
@[simp] theorem ow_some (x : Nat) : ow (some x) = nI x := rfl
@[simp] theorem gw_none : gw none = .non := rfl
@[simp] theorem gw_some (o : Nat × Nat × Option Nat) : gw (some o) = .tup [nI o.1, nI o.2.1, ow o.2.2] := rfl
@[simp] theorem lcFix_nil (turn : W → List W → He → Rs (List W)) (acc : List W) (h : He) : lcFix turn [] acc h = .ok acc h := rfl
@[simp] theorem lcFix_cons (turn : W → List W → He → Rs (List W)) (x : W) (xs acc : List W) (h : He) : lcFix turn (x :: xs) acc h = (turn x acc h).bind fun acc h => lcFix turn xs acc h := rfl
@[simp] theorem add_lst (h : He) (i j : Nat) : binW h .add (.ref i) (.ref j) = (match h[i]?, h[j]? with
    | some (.lst xs), some (.lst ys) => if xs.length + ys.length ≤ sizeLine then .ok (.ref h.length) (h ++ [.lst (xs ++ ys)]) else .bad
    | _, _ => .bad) := rfl
@[simp] theorem fMax1 (i : Nat) (h : He) : fMax [.ref i] h = (match (lstOf h (.ref i)).bind intsOf with
    | some (m :: r) => .ok (.int (maxI m r)) h
    | _ => .bad) := rfl
section
variable {ps : List Pt} {t : Nat} {h : He} {n : Str}
theorem gap1_it {i : Nat} {x : Str} (e : ps[i]? = some (.it x)) : gap1 n ps i = if x = n then some (0, 0, none) else none := by
  unfold gap1
  rw [List.getD, foG_at e]; rfl
theorem gap1_th {i a b : Nat} (w : Wf ps) (e : ps[i]? = some (.th a b)) : gap1 n ps i = gapT (lenF ps a) (lenF ps b) (gap1 n ps a) (gap1 n ps b) := by
  obtain ⟨h1, h2⟩ := w.ok i _ e
  conv => lhs; unfold gap1
  rw [List.getD, foG_at e]
  simp only [Option.getD_some, gapP]
  rw [getD_take h1, getD_take h2]; rfl
theorem gap1_tm {i a k : Nat} (w : Wf ps) (e : ps[i]? = some (.tm a k)) : gap1 n ps i = gapM k (gap1 n ps a) := by
  obtain ⟨h1, h2⟩ := w.ok i _ e
  conv => lhs; unfold gap1
  rw [List.getD, foG_at e]
  simp only [Option.getD_some, gapP]
  rw [getD_take h1]; rfl
theorem one_line : (1 : Nat) < sizeLine := lt_line (by omega)
theorem one_le_line : (1 : Nat) ≤ sizeLine := Nat.le_of_lt one_line
theorem two_line : (2 : Nat) ≤ sizeLine := Nat.le_of_lt (lt_line (by omega))
theorem three_line : (3 : Nat) ≤ sizeLine := Nat.le_of_lt (lt_line (by omega))
theorem zero_line : (0 : Nat) < sizeLine := lt_line (by omega)
theorem cmaxI1 (a b : Nat) : maxI (a : Int) [(b : Int)] = ((max a b : Nat) : Int) := by simp only [maxI]; split <;> omega
theorem law_gap_ok (g : Gs ps t) {l : Nat} (hl : h[l]? = some (.lst (vls sz (words ps)))) : Sat (ev__law_gap [sw ps t, .ref l, .str n] h) fun w h' => w = (match gap1 n ps t with | none => .non | some o => ow o.2.2) ∧ Kp h h' := by
  simp [ev__law_gap, fn]
  refine Sat.bind (Sat.bind (for_sat (fun i σ g' => ∃ a b c d, σ = [some (sw ps t), some (.ref l), some (.str n), some (.ref h.length), a, b, c, d] ∧ g'[h.length]? = some (.lst (vF (fun i => gw (gap1 n ps i)) i)) ∧ Kp h g') _ 0 _ _ ⟨_, _, _, _, rfl, by simp, .app⟩ (fun j x σ g' ej ⟨xa, xb, xc, xd, es, hg, kp⟩ => ?_) fun σ g' ⟨xa, xb, xc, xd, es, hg, kp⟩ => ?_))
  · obtain ⟨p, ep, rfl⟩ := map_at ej
    subst es
    rw [Nat.zero_add] at hg
    have hj := (List.getElem?_eq_some_iff.mp ep).1
    have ok := g.wf.ok j p ep
    have ln := g.len
    have hs : j < sizeLine := lt_line (by omega)
    have hl2 : ∀ x y z, lstOf (g' ++ [x, y, z]) (.ref l) = some (vls sz (words ps)) := fun x y z => lst_of (Kp.app _ _ (kp _ _ hl))
    have hl3 := lst_of (kp _ _ hl)
    have hlt := (List.getElem?_eq_some_iff.mp hg).1
    have hg3 : ∀ x, (g' ++ x)[h.length]? = some (.lst (vF (fun i => gw (gap1 n ps i)) j)) := fun x => by rw [List.getElem?_append_left hlt]; exact hg
    have fin : ∀ (x : He) (V : W), V = gw (gap1 n ps j) → ((g' ++ x).set h.length (.lst (vF (fun i => gw (gap1 n ps i)) j ++ [V])))[h.length]? = some (.lst (vF (fun i => gw (gap1 n ps i)) (0 + j + 1))) ∧ Kp h ((g' ++ x).set h.length (.lst (vF (fun i => gw (gap1 n ps i)) j ++ [V]))) := fun x V eV => by
      subst eV
      refine ⟨by rw [List.getElem?_set_self (by simp; omega), Nat.zero_add, vF_succ], fun i o e => ?_⟩
      have := (List.getElem?_eq_some_iff.mp e).1
      rw [List.getElem?_set_ne (by omega)]
      exact Kp.app _ _ (kp _ _ e)
    cases p with
    | it x =>
      refine for_cnt (σ' := [some (sw ps t), some (.ref l), some (.str n), some (.ref h.length), some (Pt.it x).w, xb, xc, xd]) (h' := (g' ++ []).set h.length (.lst (vF (fun i => gw (gap1 n ps i)) j ++ [gw (gap1 n ps j)]))) ?_ ⟨_, _, _, _, rfl, fin [] _ rfl⟩
      rw [gap1_it ep]
      by_cases q : x = n <;> simp [Pt.w, lst_of hg, hg, hs, q, nI]
    | th a b =>
      obtain ⟨ha, hb⟩ := ok
      have va := vF_at (V := fun i => gw (gap1 n ps i)) ha
      have vb := vF_at (V := fun i => gw (gap1 n ps i)) hb
      have da := den_at (ps := ps) (i := a) (by omega)
      have db := den_at (ps := ps) (i := b) (by omega)
      have ev := gap1_th (n := n) g.wf ep
      cases qa : gap1 n ps a with
      | none =>
        cases qb : gap1 n ps b with
        | none =>
          rw [qa] at va; rw [qb] at vb; rw [qa, qb] at ev
          refine for_step (σ' := [some (sw ps t), some (.ref l), some (.str n), some (.ref h.length), some (Pt.th a b).w, some .non, some .non, xd]) (h' := (g' ++ ([] : He)).set h.length (.lst (vF (fun i => gw (gap1 n ps i)) j ++ [W.non]))) ?_ ⟨_, _, _, _, rfl, fin [] _ (by rw [ev]; rfl)⟩
          simp [Pt.w, s2, lst_of hg, hg, hs, va, vb]
        | some q =>
          rw [qa] at va; rw [qb] at vb; rw [qa, qb] at ev
          refine for_step (σ' := [some (sw ps t), some (.ref l), some (.str n), some (.ref h.length), some (Pt.th a b).w, some .non, some (gw (some q)), xd]) (h' := (g' ++ ([] : He)).set h.length (.lst (vF (fun i => gw (gap1 n ps i)) j ++ [gw (some ((den ps a).length + q.1, q.2.1, q.2.2))]))) ?_ ⟨_, _, _, _, rfl, fin [] _ (by rw [ev]; rfl)⟩
          simp [Pt.w, s2, lst_of hg, hg, hs, va, vb, hl3, da, nI]
      | some o =>
        cases qb : gap1 n ps b with
        | none =>
          rw [qa] at va; rw [qb] at vb; rw [qa, qb] at ev
          refine for_step (σ' := [some (sw ps t), some (.ref l), some (.str n), some (.ref h.length), some (Pt.th a b).w, some (gw (some o)), some .non, xd]) (h' := (g' ++ ([] : He)).set h.length (.lst (vF (fun i => gw (gap1 n ps i)) j ++ [gw (some (o.1, o.2.1 + (den ps b).length, o.2.2))]))) ?_ ⟨_, _, _, _, rfl, fin [] _ (by rw [ev]; rfl)⟩
          simp [Pt.w, s2, s6, lst_of hg, hg, hs, va, vb, hl3, db, nI]
        | some q =>
          rw [qa] at va; rw [qb] at vb; rw [qa, qb] at ev
          obtain ⟨o1, o2, o3⟩ := o
          obtain ⟨q1, q2, q3⟩ := q
          have l0 : lstOf (g' ++ [EO.lst [nI (o2 + q1)]]) (.ref g'.length) = some [nI (o2 + q1)] := lst_of at_end
          cases o3 with
          | none =>
            cases q3 with
            | none =>
              refine for_step (σ' := [some (sw ps t), some (.ref l), some (.str n), some (.ref h.length), some (Pt.th a b).w, some (gw (some (o1, o2, none))), some (gw (some (q1, q2, none))), xd]) (h' := (g' ++ [EO.lst [nI (o2 + q1)], EO.lst [], EO.lst [nI (o2 + q1)]]).set h.length (.lst (vF (fun i => gw (gap1 n ps i)) j ++ [gw (some (o1, q2, some (o2 + q1)))]))) ?_ ⟨_, _, _, _, rfl, fin _ _ (by rw [ev]; simp [gapT])⟩
              simp [Pt.w, s2, s6, lst_of hg, hg, hg3, hs, va, vb, nI, one_line, two_line, three_line, one_le_line, lstOf, intsOf, maxI]
            | some z =>
              refine for_step (σ' := [some (sw ps t), some (.ref l), some (.str n), some (.ref h.length), some (Pt.th a b).w, some (gw (some (o1, o2, none))), some (gw (some (q1, q2, some z))), xd]) (h' := (g' ++ [EO.lst [nI (o2 + q1)], EO.lst [nI z], EO.lst [nI (o2 + q1), nI z]]).set h.length (.lst (vF (fun i => gw (gap1 n ps i)) j ++ [gw (some (o1, q2, some (max (o2 + q1) z)))]))) ?_ ⟨_, _, _, _, rfl, fin _ _ (by rw [ev]; simp [gapT])⟩
              have cm := cmaxI1 (o2 + q1) z
              simp at cm
              simp [Pt.w, s2, s6, lst_of hg, hg, hg3, hs, va, vb, nI, zero_line, one_line, two_line, three_line, one_le_line, lstOf, intsOf, cm, cmax]
          | some y =>
            cases q3 with
            | none =>
              refine for_step (σ' := [some (sw ps t), some (.ref l), some (.str n), some (.ref h.length), some (Pt.th a b).w, some (gw (some (o1, o2, some y))), some (gw (some (q1, q2, none))), xd]) (h' := (g' ++ [EO.lst [nI (o2 + q1)], EO.lst [nI y], EO.lst [nI (o2 + q1), nI y]]).set h.length (.lst (vF (fun i => gw (gap1 n ps i)) j ++ [gw (some (o1, q2, some (max (o2 + q1) y)))]))) ?_ ⟨_, _, _, _, rfl, fin _ _ (by rw [ev]; simp [gapT])⟩
              have cm := cmaxI1 (o2 + q1) y
              simp at cm
              simp [Pt.w, s2, s6, lst_of hg, hg, hg3, hs, va, vb, nI, zero_line, one_line, two_line, three_line, one_le_line, lstOf, intsOf, cm, cmax]
            | some z =>
              refine for_step (σ' := [some (sw ps t), some (.ref l), some (.str n), some (.ref h.length), some (Pt.th a b).w, some (gw (some (o1, o2, some y))), some (gw (some (q1, q2, some z))), xd]) (h' := (g' ++ [EO.lst [nI (o2 + q1)], EO.lst [nI y, nI z], EO.lst [nI (o2 + q1), nI y, nI z]]).set h.length (.lst (vF (fun i => gw (gap1 n ps i)) j ++ [gw (some (o1, q2, some (max (o2 + q1) (max y z))))]))) ?_ ⟨_, _, _, _, rfl, fin _ _ (by rw [ev]; simp [gapT])⟩
              have cm : maxI ((o2 : Int) + (q1 : Int)) [(y : Int), (z : Int)] = max ((o2 : Int) + (q1 : Int)) (max (y : Int) (z : Int)) := by
                simp only [maxI]
                split <;> split <;> omega
              simp [Pt.w, s2, s6, lst_of hg, hg, hg3, hs, va, vb, nI, zero_line, one_line, two_line, three_line, one_le_line, lstOf, intsOf, cm, cmax]
    | tm a k =>
      obtain ⟨ha, hk⟩ := ok
      have va := vF_at (V := fun i => gw (gap1 n ps i)) ha
      have ev := gap1_tm (n := n) g.wf ep
      cases qa : gap1 n ps a with
      | none =>
        rw [qa] at va ev
        refine for_step (σ' := [some (sw ps t), some (.ref l), some (.str n), some (.ref h.length), some (Pt.tm a k).w, some .non, some .non, xd]) (h' := (g' ++ ([] : He)).set h.length (.lst (vF (fun i => gw (gap1 n ps i)) j ++ [W.non]))) ?_ ⟨_, _, _, _, rfl, fin [] _ (by rw [ev]; rfl)⟩
        by_cases k1 : 1 < k <;> simp [Pt.w, s3, s4, lst_of hg, hg, hs, va, c1lt, k1]
      | some o =>
        rw [qa] at va ev
        obtain ⟨o1, o2, o3⟩ := o
        by_cases k1 : k = 1
        · subst k1
          refine for_step (σ' := [some (sw ps t), some (.ref l), some (.str n), some (.ref h.length), some (Pt.tm a 1).w, some (gw (some (o1, o2, o3))), some .non, xd]) (h' := (g' ++ ([] : He)).set h.length (.lst (vF (fun i => gw (gap1 n ps i)) j ++ [gw (some (o1, o2, o3))]))) ?_ ⟨_, _, _, _, rfl, fin [] _ (by rw [ev]; rfl)⟩
          simp [Pt.w, s3, s4, lst_of hg, hg, hs, va]
        · have k2 : 1 < k := by omega
          cases o3 with
          | none =>
            refine for_step (σ' := [some (sw ps t), some (.ref l), some (.str n), some (.ref h.length), some (Pt.tm a k).w, some (gw (some (o1, o2, none))), some (gw (some (o1, o2, none))), xd]) (h' := (g' ++ [EO.lst [nI (o2 + o1)], EO.lst [], EO.lst [nI (o2 + o1)]]).set h.length (.lst (vF (fun i => gw (gap1 n ps i)) j ++ [gw (some (o1, o2, some (o2 + o1)))]))) ?_ ⟨_, _, _, _, rfl, fin _ _ (by rw [ev]; simp [gapM, k1])⟩
            simp [Pt.w, s3, s4, lst_of hg, hg, hg3, hs, va, nI, one_line, two_line, three_line, one_le_line, lstOf, intsOf, maxI, c1lt, k2]
          | some y =>
            refine for_step (σ' := [some (sw ps t), some (.ref l), some (.str n), some (.ref h.length), some (Pt.tm a k).w, some (gw (some (o1, o2, some y))), some (gw (some (o1, o2, some y))), xd]) (h' := (g' ++ [EO.lst [nI (o2 + o1)], EO.lst [nI y, nI y], EO.lst [nI (o2 + o1), nI y, nI y]]).set h.length (.lst (vF (fun i => gw (gap1 n ps i)) j ++ [gw (some (o1, o2, some (max (o2 + o1) y)))]))) ?_ ⟨_, _, _, _, rfl, fin _ _ (by rw [ev]; simp [gapM, k1])⟩
            have cm : maxI ((o2 : Int) + (o1 : Int)) [(y : Int), (y : Int)] = max ((o2 : Int) + (o1 : Int)) (y : Int) := by
              simp only [maxI]
              split
              · split <;> omega
              · first
                | omega
                | (split <;> omega)
            simp [Pt.w, s3, s4, lst_of hg, hg, hg3, hs, va, nI, zero_line, one_line, two_line, three_line, one_le_line, lstOf, intsOf, cm, cmax, c1lt, k2]
  · subst es
    simp at hg
    cases e : gap1 n ps t with
    | none => simp [lst_of hg, vF_at g.top, e, kp]
    | some o => simp [lst_of hg, vF_at g.top, e, kp]
end
end VE
end
section
set_option Elab.async false
set_option linter.all false
set_option autoImplicit false
set_option maxRecDepth 100000
set_option maxHeartbeats 4000000
namespace VE
open PySem
def gn (o : Nat × Nat × Option Nat) : EO := .ins 1 [(1, nI o.1), (2, nI o.2.1), (4, ow o.2.2)]
theorem gaps_init {h : He} {a b c : W} : ev_Gaps___init__ [.ref h.length, a, b, c] (h ++ [.ins 1 []]) = .ok .non (h ++ [.ins 1 [(1, a), (2, b), (4, c)]]) := by
  simp [ev_Gaps___init__, fn, setF, fputW]
def wm : Option Nat → Option Nat → Option Nat
  | none, b => b
  | some x, none => some x
  | some x, some y => some (max x y)
theorem wider_ok {h : He} {a b : Option Nat} : ev_wider [ow a, ow b] h = .ok (ow (wm a b)) h := by
  cases a <;> cases b <;> simp [ev_wider, fn, wm, cmax]
def GE (h : He) (l : Nat) : W → Gp → Prop
  | .non, none => True
  | .ref r, some o => r ≠ l ∧ h[r]? = some (gn o)
  | _, _ => False
theorem GE.kp {h h' : He} {l : Nat} {w : W} {o : Gp} (k : ∀ r, r ≠ l → ∀ x, h[r]? = some x → h'[r]? = some x) (e : GE h l w o) : GE h' l w o := by
  cases w <;> cases o <;> try exact e
  exact ⟨e.1, k _ e.1 _ e.2⟩
theorem getF_gn {h : He} {r : Nat} {o : Nat × Nat × Option Nat} (e : h[r]? = some (gn o)) : getF h [0, 1] (.ref r) 1 = some (nI o.1) ∧ getF h [0, 1] (.ref r) 2 = some (nI o.2.1) ∧ getF h [1] (.ref r) 4 = some (ow o.2.2) := by
  refine ⟨?_, ?_, ?_⟩ <;> rw [fld e] <;> simp [fgetW]
theorem gaps_then_ok {h : He} {l : Nat} {w1 w2 : W} {a b : Gp} {s1 s2 : Nat} (e1 : GE h l w1 a) (e2 : GE h l w2 b) (hl : l < h.length) : ∃ w g, ev_gaps_then [w1, nI s1, w2, nI s2] h = .ok w g ∧ Kp h g ∧ GE g l w (gapT s1 s2 a b) := by
  cases a with
  | none =>
    cases w1 <;> try exact e1.elim
    cases b with
    | none =>
      cases w2 <;> try exact e2.elim
      exact ⟨.non, h, by simp [ev_gaps_then, fn], .refl, trivial⟩
    | some q =>
      cases w2 <;> try exact e2.elim
      obtain ⟨n2, g2⟩ := e2
      obtain ⟨f1, f2, f3⟩ := getF_gn g2
      refine ⟨.ref h.length, h ++ [gn (s1 + q.1, q.2.1, q.2.2)], by simp [ev_gaps_then, fn, f1, f2, f3, gaps_init, gn], .app, by omega, at_end⟩
  | some o =>
    cases w1 <;> try exact e1.elim
    obtain ⟨n1, g1⟩ := e1
    obtain ⟨d1, d2, d3⟩ := getF_gn g1
    cases b with
    | none =>
      cases w2 <;> try exact e2.elim
      refine ⟨.ref h.length, h ++ [gn (o.1, o.2.1 + s2, o.2.2)], by simp [ev_gaps_then, fn, d1, d2, d3, gaps_init, gn], .app, by omega, at_end⟩
    | some q =>
      cases w2 <;> try exact e2.elim
      obtain ⟨n2, g2⟩ := e2
      obtain ⟨f1, f2, f3⟩ := getF_gn g2
      have z1 := wider_ok (h := h) (a := o.2.2) (b := q.2.2)
      have z2 := wider_ok (h := h) (a := wm o.2.2 q.2.2) (b := some (o.2.1 + q.1))
      simp [nI] at z2
      have e : wm (wm o.2.2 q.2.2) (some (o.2.1 + q.1)) = some (max (o.2.1 + q.1) (max (o.2.2.getD 0) (q.2.2.getD 0))) := by
        cases o.2.2 <;> cases q.2.2 <;> simp [wm] <;> omega
      refine ⟨.ref h.length, h ++ [gn (o.1, q.2.1, some (max (o.2.1 + q.1) (max (o.2.2.getD 0) (q.2.2.getD 0))))], ?_, .app, by omega, at_end⟩
      rw [← e]
      simp [ev_gaps_then, fn, d1, d2, d3, f1, f2, f3, z1, z2, gaps_init, gn]
theorem gaps_times_ok {h : He} {l : Nat} {w1 : W} {a : Gp} {k : Nat} (e1 : GE h l w1 a) (hl : l < h.length) : ∃ w g, ev_gaps_times [w1, nI k] h = .ok w g ∧ Kp h g ∧ GE g l w (gapM k a) := by
  cases a with
  | none =>
    cases w1 <;> try exact e1.elim
    exact ⟨.non, h, by simp [ev_gaps_times, fn], .refl, trivial⟩
  | some o =>
    cases w1 <;> try exact e1.elim
    rename_i r
    by_cases k1 : k = 1
    · subst k1
      refine ⟨.ref r, h, by simp [ev_gaps_times, fn], .refl, ?_⟩
      rw [show gapM 1 (some o) = some o from by simp [gapM]]; exact e1
    · obtain ⟨n1, g1⟩ := e1
      obtain ⟨d1, d2, d3⟩ := getF_gn g1
      have k2 : ¬ (k : Int) = 1 := by omega
      have z2 := wider_ok (h := h) (a := o.2.2) (b := some (o.2.1 + o.1))
      simp [nI] at z2
      have e : wm o.2.2 (some (o.2.1 + o.1)) = some (max (o.2.1 + o.1) (o.2.2.getD 0)) := by
        cases o.2.2 <;> simp [wm] <;> omega
      refine ⟨.ref h.length, h ++ [gn (o.1, o.2.1, some (max (o.2.1 + o.1) (o.2.2.getD 0)))], ?_, .app, ?_⟩
      · rw [← e]
        simp [ev_gaps_times, fn, d1, d2, d3, z2, gaps_init, gn, k2]
      · rw [show gapM k (some o) = some (o.1, o.2.1, some (max (o.2.1 + o.1) (o.2.2.getD 0))) from by simp [gapM, k1]]
        exact ⟨by omega, at_end⟩
section
variable {ps : List Pt} {t : Nat} {h : He} {n : Str}
structure GapsI (ps : List Pt) (n : Str) (l j : Nat) (ws : List W) (h g : He) : Prop where
  len : ws.length = j
  lst : g[l]? = some (.lst ws)
  kp : ∀ (i : Nat) o, i ≠ l → h[i]? = some o → g[i]? = some o
  at_ : ∀ (i : Nat) w, ws[i]? = some w → GE g l w (gap1 n ps i)
theorem GapsI.snoc {l j : Nat} {ws : List W} {g g1 : He} {w : W} (I : GapsI ps n l j ws h g) (k : Kp g g1) (e : GE g1 l w (gap1 n ps j)) : GapsI ps n l (j + 1) (ws ++ [w]) h (g1.set l (.lst (ws ++ [w]))) := by
  have hl := (List.getElem?_eq_some_iff.mp (k _ _ I.lst)).1
  have up : ∀ r, r ≠ l → ∀ x, g1[r]? = some x → (g1.set l (.lst (ws ++ [w])))[r]? = some x := fun r hr x q => by rw [List.getElem?_set_ne (Ne.symm hr)]; exact q
  refine ⟨by simp [I.len], by simp [hl], fun i o hi e => up i hi _ (k _ _ (I.kp i o hi e)), fun i w' e' => ?_⟩
  by_cases hi : i < ws.length
  · rw [List.getElem?_append_left hi] at e'
    exact ((I.at_ i w' e').kp fun r _ x q => k r x q).kp up
  · have hi2 : i = ws.length := by have := (List.getElem?_eq_some_iff.mp e').1; simp at this; omega
    subst hi2
    rw [List.getElem?_append_right (Nat.le_refl _)] at e'
    simp at e'
    subst e'
    rw [I.len]
    exact e.kp up
theorem widest_ok (g : Gs ps t) : Sat (ev_widest_gap [sw ps t, .str n] h) fun w h' => w = (match gap1 n ps t with | none => .non | some o => ow o.2.2) ∧ Kp h h' := by
  obtain ⟨h1, eh1⟩ : ∃ h1, h1 = h ++ [EO.lst (vls sz (words ps))] := ⟨_, rfl⟩
  have hl : h1[h.length]? = some (.lst (vls sz (words ps))) := by rw [eh1]; exact at_end
  have hlt := (List.getElem?_eq_some_iff.mp hl).1
  simp only [ev_widest_gap, fn, sSeq_eq, sPar_eq, esC_eq, eCall_eq, eV_eq, esN_eq, eLst_eq, List.length_cons, List.length_nil, List.map_cons, List.map_nil, List.cons_append, List.nil_append, Nat.reduceAdd, Nat.reduceSub, List.replicate, if_true, List.getElem?_cons_zero, List.getElem?_cons_succ, Rs.bind_ok, lengths_ok g, ← eh1, List.set_cons_succ, List.set_cons_zero]
  simp
  refine Sat.bind (Sat.bind (for_sat (fun i σ g' => ∃ a b c d ws, σ = [some (sw ps t), some (.str n), some (.ref h.length), some (.ref h1.length), a, b, c, d] ∧ GapsI ps n h1.length i ws h1 g') _ 0 _ _ ⟨_, _, _, _, [], rfl, ⟨rfl, at_end, fun i o hi e => Kp.app _ _ e, by simp⟩⟩ (fun j x σ g' ej ⟨xa, xb, xc, xd, ws, es, I⟩ => ?_) fun σ g' ⟨xa, xb, xc, xd, ws, es, I⟩ => ?_))
  · obtain ⟨p, ep, rfl⟩ := map_at ej
    subst es
    rw [Nat.zero_add] at I
    have hj := (List.getElem?_eq_some_iff.mp ep).1
    have ok := g.wf.ok j p ep
    have ln := g.len
    have hs : ws.length < sizeLine := lt_line (by rw [I.len]; omega)
    have lm := lst_of I.lst
    have lz := lst_of (I.kp _ _ (by omega) hl)
    have hlg := (List.getElem?_eq_some_iff.mp I.lst).1
    cases p with
    | it x =>
      by_cases q : x = n
      · have e1 : GE (g' ++ [gn (0, 0, none)]) h1.length (.ref g'.length) (gap1 n ps j) := by
          rw [gap1_it ep, if_pos q]; exact ⟨by omega, at_end⟩
        have hl2 : ∀ o, (g' ++ [o])[h1.length]? = some (.lst ws) := fun o => Kp.app _ _ I.lst
        refine for_step (σ' := [some (sw ps t), some (.str n), some (.ref h.length), some (.ref h1.length), some (Pt.it x).w, xb, xc, xd]) (h' := (g' ++ [gn (0, 0, none)]).set h1.length (.lst (ws ++ [.ref g'.length]))) ?_ ⟨_, _, _, _, _, rfl, by rw [Nat.zero_add]; exact I.snoc .app e1⟩
        simp [Pt.w, q, lm, gaps_init, gn, hl2, hs, nI]
      · refine for_step (σ' := [some (sw ps t), some (.str n), some (.ref h.length), some (.ref h1.length), some (Pt.it x).w, xb, xc, xd]) (h' := g'.set h1.length (.lst (ws ++ [.non]))) ?_ ⟨_, _, _, _, _, rfl, by rw [Nat.zero_add]; exact I.snoc .refl (by rw [gap1_it ep, if_neg q]; trivial)⟩
        simp [Pt.w, q, lm, I.lst, hs]
    | th a b =>
      obtain ⟨ha, hb⟩ := ok
      obtain ⟨wa, qa⟩ := get_of (l := ws) (i := a) (by rw [I.len]; exact ha)
      obtain ⟨wb, qb⟩ := get_of (l := ws) (i := b) (by rw [I.len]; exact hb)
      have da := den_at (ps := ps) (i := a) (by omega)
      have db := den_at (ps := ps) (i := b) (by omega)
      obtain ⟨w, g1, z, k, e1⟩ := gaps_then_ok (s1 := (den ps a).length) (s2 := (den ps b).length) (I.at_ a wa qa) (I.at_ b wb qb) hlg
      refine for_step (σ' := [some (sw ps t), some (.str n), some (.ref h.length), some (.ref h1.length), some (Pt.th a b).w, some (nI a), some (nI b), xd]) (h' := g1.set h1.length (.lst (ws ++ [w]))) ?_ ⟨_, _, _, _, _, rfl, by rw [Nat.zero_add]; exact I.snoc k (by rw [gap1_th g.wf ep]; exact e1)⟩
      simp [Pt.w, s2, lm, lz, qa, qb, da, db, z, k _ _ I.lst, hs, nI]
    | tm a k =>
      obtain ⟨ha, hk⟩ := ok
      obtain ⟨wa, qa⟩ := get_of (l := ws) (i := a) (by rw [I.len]; exact ha)
      obtain ⟨w, g1, z, kg, e1⟩ := gaps_times_ok (k := k) (I.at_ a wa qa) hlg
      refine for_step (σ' := [some (sw ps t), some (.str n), some (.ref h.length), some (.ref h1.length), some (Pt.tm a k).w, xb, xc, xd]) (h' := g1.set h1.length (.lst (ws ++ [w]))) ?_ ⟨_, _, _, _, _, rfl, by rw [Nat.zero_add]; exact I.snoc kg (by rw [gap1_tm g.wf ep]; exact e1)⟩
      simp [Pt.w, s3, s4, lm, lz, qa, z, kg _ _ I.lst, hs]
  · subst es
    simp at I
    have kp : Kp h g' := fun i o e => by
      have := (List.getElem?_eq_some_iff.mp e).1
      exact I.kp i o (by omega) (by rw [eh1]; exact Kp.app _ _ e)
    obtain ⟨w, hw⟩ := get_of (l := ws) (i := t) (by rw [I.len]; exact g.top)
    have q := I.at_ t w hw
    cases e : gap1 n ps t with
    | none =>
      rw [e] at q
      cases w <;> try exact q.elim
      simp [lst_of I.lst, hw, kp]
    | some o =>
      rw [e] at q
      cases w <;> try exact q.elim
      obtain ⟨d1, d2, d3⟩ := getF_gn q.2
      simp [lst_of I.lst, hw, kp, d3]
end
end VE
end
section
set_option Elab.async false
set_option linter.all false
set_option autoImplicit false
set_option maxRecDepth 100000
set_option maxHeartbeats 4000000
namespace VE
open PySem
def Pt.tn : Pt → Pt
  | .it n => .it n
  | .th a b => .th b a
  | .tm a k => .tm a k
theorem tn_at {ps : List Pt} {i : Nat} {p : Pt} (e : ps[i]? = some p) : (ps.map Pt.tn)[i]? = some p.tn := by rw [List.getElem?_map, e]; rfl
theorem rep_rev (u : List Str) : ∀ k : Nat, (List.replicate k u).flatten.reverse = (List.replicate k u.reverse).flatten
  | 0 => rfl
  | k + 1 => by
    rw [List.replicate_succ', List.flatten_append, List.reverse_append, rep_rev u k, List.replicate_succ, List.flatten_cons]
    simp
section
variable {ps : List Pt} {t : Nat} {h : He} {n : Str}
theorem tn_wf (w : Wf ps) : Wf (ps.map Pt.tn) := ⟨fun i p e => by
  rw [List.getElem?_map] at e
  cases q : ps[i]? with
  | none => rw [q] at e; cases e
  | some p0 =>
    rw [q] at e; cases e
    have o := w.ok i p0 q
    cases p0 with
    | it x => trivial
    | th a b => exact ⟨o.2, o.1⟩
    | tm a k => exact o⟩
theorem tn_den (w : Wf ps) : ∀ (m i : Nat), i < m → i < ps.length → den (ps.map Pt.tn) i = (den ps i).reverse
  | 0, i, hm, _ => absurd hm (Nat.not_lt_zero _)
  | m + 1, i, hm, hi => by
    obtain ⟨p, e⟩ := get_of hi
    have o := w.ok i p e
    have e' := tn_at e
    cases p with
    | it x => rw [den_it e, den_it e']; rfl
    | th a b =>
      obtain ⟨ha, hb⟩ := o
      rw [den_th w e, den_th (tn_wf w) e', tn_den w m b (by omega) (by omega), tn_den w m a (by omega) (by omega), List.reverse_append]
    | tm a k =>
      obtain ⟨ha, hk⟩ := o
      rw [den_tm w e, den_tm (tn_wf w) e', tn_den w m a (by omega) (by omega), rep_rev]
theorem tn_len (w : Wf ps) {i : Nat} (hi : i < ps.length) : lenF (ps.map Pt.tn) i = lenF ps i := by
  show (den _ i).length = _
  rw [tn_den w (i + 1) i (by omega) hi, List.length_reverse]
theorem tn_gs (g : Gs ps t) : Gs (ps.map Pt.tn) t where
  wf := tn_wf g.wf
  top := by simpa using g.top
  len := by simpa using g.len
  size := fun i hi => by
    have hi : i < ps.length := by simpa using hi
    have := tn_len g.wf hi
    have := g.size i hi
    simp only [lenF] at *
    omega
  num := fun i a k e => by
    rw [List.getElem?_map] at e
    cases q : ps[i]? with
    | none => rw [q] at e; cases e
    | some p0 =>
      rw [q] at e
      cases p0 with
      | it x => cases e
      | th a b => cases e
      | tm a' k' => cases e; exact g.num i _ _ q
theorem str_all (g : Gs ps t) : ∀ (m i : Nat), i < m → i < ps.length → ((str1 n ps i).1 = lenF ps i ↔ (str1 n ps i).2.1 = lenF ps i)
  | 0, i, hm, _ => absurd hm (Nat.not_lt_zero _)
  | m + 1, i, hm, hi => by
    obtain ⟨p, e⟩ := get_of hi
    have w := g.wf
    have o := w.ok i p e
    cases p with
    | it x =>
      have hl : lenF ps i = 1 := by show (den ps i).length = 1; rw [den_it e]; rfl
      rw [str1_it e, hl]
      by_cases q : x = n <;> simp [q]
    | th a b =>
      obtain ⟨ha, hb⟩ := o
      have hl : lenF ps i = lenF ps a + lenF ps b := by show (den ps i).length = _; rw [den_th w e, List.length_append]
      obtain ⟨a1, a2, a3⟩ := str_le (n := n) w (a + 1) a (by omega) (by omega)
      obtain ⟨b1, b2, b3⟩ := str_le (n := n) w (b + 1) b (by omega) (by omega)
      have pa : 0 < lenF ps a := g.pos (by omega)
      have pb : 0 < lenF ps b := g.pos (by omega)
      have ia := str_all g m a (by omega) (by omega)
      have ib := str_all g m b (by omega) (by omega)
      rw [str1_th w e, hl]
      dsimp only
      by_cases c1 : (str1 n ps a).1 = lenF ps a <;> by_cases c2 : (str1 n ps b).2.1 = lenF ps b
      · rw [if_pos c1, if_pos c2]
        have := ia.mp c1; have := ib.mpr c2
        omega
      · rw [if_pos c1, if_neg c2]
        have := ia.mp c1
        have : (str1 n ps b).1 ≠ lenF ps b := fun z => c2 (ib.mp z)
        omega
      · rw [if_neg c1, if_pos c2]
        have := ib.mpr c2
        have : (str1 n ps a).2.1 ≠ lenF ps a := fun z => c1 (ia.mpr z)
        omega
      · rw [if_neg c1, if_neg c2]
        omega
    | tm a k =>
      obtain ⟨ha, hk⟩ := o
      have hl : lenF ps i = k * lenF ps a := by show (den ps i).length = _; rw [den_tm w e, rep_len]
      obtain ⟨a1, a2, a3⟩ := str_le (n := n) w (a + 1) a (by omega) (by omega)
      have ia := str_all g m a (by omega) (by omega)
      have h1 : lenF ps a ≤ k * lenF ps a := Nat.le_mul_of_pos_left _ hk
      rw [str1_tm w e, hl]
      by_cases c1 : (str1 n ps a).1 = lenF ps a
      · rw [if_pos c1]
      · rw [if_neg c1]
        dsimp only
        have : (str1 n ps a).2.1 ≠ lenF ps a := fun z => c1 (ia.mpr z)
        omega
theorem tn_str1 (g : Gs ps t) : ∀ (m i : Nat), i < m → i < ps.length → str1 n (ps.map Pt.tn) i = ((str1 n ps i).2.1, (str1 n ps i).1, (str1 n ps i).2.2)
  | 0, i, hm, _ => absurd hm (Nat.not_lt_zero _)
  | m + 1, i, hm, hi => by
    obtain ⟨p, e⟩ := get_of hi
    have w := g.wf
    have o := w.ok i p e
    have e' := tn_at e
    cases p with
    | it x =>
      rw [str1_it e, str1_it e']
      by_cases q : x = n <;> simp [q]
    | th a b =>
      obtain ⟨ha, hb⟩ := o
      rw [str1_th w e, str1_th (tn_wf w) e', tn_str1 g m a (by omega) (by omega), tn_str1 g m b (by omega) (by omega), tn_len w (by omega), tn_len w (by omega)]
      dsimp only
      refine Prod.ext rfl (Prod.ext rfl ?_)
      dsimp only
      omega
    | tm a k =>
      obtain ⟨ha, hk⟩ := o
      have ia := str_all (n := n) g (a + 1) a (by omega) (by omega)
      rw [str1_tm w e, str1_tm (tn_wf w) e', tn_str1 g m a (by omega) (by omega), tn_len w (by omega)]
      dsimp only
      by_cases c1 : (str1 n ps a).1 = lenF ps a
      · rw [if_pos c1, if_pos (ia.mp c1), c1, ia.mp c1]
      · rw [if_neg c1, if_neg fun z => c1 (ia.mpr z)]
        refine Prod.ext rfl (Prod.ext rfl ?_)
        dsimp only
        split
        · omega
        · rfl
def gsw : Gp → Gp
  | none => none
  | some o => some (o.2.1, o.1, o.2.2)
theorem gsw_T (s1 s2 : Nat) (a b : Gp) : gapT s2 s1 (gsw b) (gsw a) = gsw (gapT s1 s2 a b) := by
  cases a <;> cases b <;> simp [gapT, gsw] <;> omega
theorem gsw_M (k : Nat) (a : Gp) : gapM k (gsw a) = gsw (gapM k a) := by
  cases a with
  | none => rfl
  | some o =>
    by_cases q : k = 1
    · simp [gapM, gsw, q]
    · simp [gapM, gsw, q]; omega
theorem tn_gap (g : Gs ps t) : ∀ (m i : Nat), i < m → i < ps.length → gap1 n (ps.map Pt.tn) i = gsw (gap1 n ps i)
  | 0, i, hm, _ => absurd hm (Nat.not_lt_zero _)
  | m + 1, i, hm, hi => by
    obtain ⟨p, e⟩ := get_of hi
    have w := g.wf
    have o := w.ok i p e
    have e' := tn_at e
    cases p with
    | it x =>
      rw [gap1_it e, gap1_it e']
      by_cases q : x = n <;> simp [q, gsw]
    | th a b =>
      obtain ⟨ha, hb⟩ := o
      rw [gap1_th w e, gap1_th (tn_wf w) e', tn_gap g m a (by omega) (by omega), tn_gap g m b (by omega) (by omega), tn_len w (by omega), tn_len w (by omega), gsw_T]
    | tm a k =>
      obtain ⟨ha, hk⟩ := o
      rw [gap1_tm w e, gap1_tm (tn_wf w) e', tn_gap g m a (by omega) (by omega), gsw_M]
theorem turned_ok (hl : ps.length ≤ 400) : ∃ g, ev_turned_script [sw ps t] h = .ok (sw (ps.map Pt.tn) t) g ∧ Kp h g := by
  have main : Sat (ev_turned_script [sw ps t] h) fun w g => w = sw (ps.map Pt.tn) t ∧ Kp h g := by
    simp [ev_turned_script, fn]
    refine Sat.bind (Sat.bind (Sat.bind (Sat.bind (lcfix_sat (fun i acc g' => g' = h ∧ acc = ((ps.take i).map Pt.tn).map Pt.w) _ 0 [] _ ⟨rfl, by simp⟩ (fun j x acc g' ej ⟨e1, e2⟩ => ?_) fun acc g' ⟨e1, e2⟩ => ?_))))
    · obtain ⟨p, ep, rfl⟩ := map_at ej
      subst e1 e2
      have hj := (List.getElem?_eq_some_iff.mp ep).1
      have hs : min j ps.length < sizeLine := lt_line (by omega)
      rw [Nat.zero_add, take_snoc ep, List.map_append, List.map_append]
      cases p with
      | it x => simp [-List.map_take, -List.map_map, Pt.w, Pt.tn, hs, s1]
      | th a b => simp [-List.map_take, -List.map_map, Pt.w, Pt.tn, hs]
      | tm a k => simp [-List.map_take, -List.map_map, Pt.w, Pt.tn, hs, s4]
    · subst e1 e2
      simp [lst_of at_end, Kp.app, List.take_of_length_le]
  obtain ⟨w, g, e, rfl, k⟩ := main
  exact ⟨g, e, k⟩
end
end VE
end
section
set_option Elab.async false
set_option linter.all false
set_option autoImplicit false
set_option maxRecDepth 100000
set_option maxHeartbeats 4000000
set_option exponentiation.threshold 5000
namespace VE
open PySem
def B3 : Nat := 2 ^ 3000
theorem lg3 {n : Nat} (h : n < B3) : n.log2 < 3000 := log_le h (by omega)
structure KT (t : Nat) (h h' : He) : Prop where
  at_ : ∀ (i : Nat) o, i ≠ t → h[i]? = some o → h'[i]? = some o
  len : h.length ≤ h'.length
theorem KT.refl {t : Nat} {h : He} : KT t h h := ⟨fun _ _ _ e => e, Nat.le_refl _⟩
theorem KT.trans {t : Nat} {h h1 h2 : He} (a : KT t h h1) (b : KT t h1 h2) : KT t h h2 := ⟨fun i o n e => b.at_ i o n (a.at_ i o n e), Nat.le_trans a.len b.len⟩
theorem Kp.kt {t : Nat} {h h' : He} (k : Kp h h') : KT t h h' := ⟨fun i o _ e => k i o e, k.len⟩
def Tb (t n : Nat) (h : He) : Prop := ∃ d m c : Nat, h[t]? = some (.lst [nI d, nI m, nI c]) ∧ d < B3 ∧ m < 2147483629 ∧ c ≤ n
theorem Tb.kp {t n : Nat} {h h' : He} (k : Kp h h') : Tb t n h → Tb t n h' := fun ⟨d, m, c, e, r⟩ => ⟨d, m, c, k _ _ e, r⟩
theorem Tb.mono {t n n' : Nat} {h : He} (k : n ≤ n') : Tb t n h → Tb t n' h := fun ⟨d, m, c, e, r1, r2, r3⟩ => ⟨d, m, c, e, r1, r2, Nat.le_trans r3 k⟩
theorem Tb.lt {t n : Nat} {h : He} : Tb t n h → t < h.length := fun ⟨d, m, c, e, _⟩ => (List.getElem?_eq_some_iff.mp e).1
def BM : Nat := 10 ^ 50
theorem lgM {n : Nat} (h : n ≤ BM) : n.log2 < 1000 := lg (Nat.le_trans h (by decide +kernel))
@[simp] theorem setI_eq (h : He) (i : Nat) (j : Int) (w : W) : setI h (.ref i) (.int j) w = (match h[i]? with
    | some (.lst xs) => (L2.ixN xs.length j).map fun j => h.set i (.lst (xs.set j w))
    | _ => none) := rfl
theorem ix30 : L2.ixN 3 0 = some 0 := by decide
theorem ix31 : L2.ixN 3 1 = some 1 := by decide
theorem ix32 : L2.ixN 3 2 = some 2 := by decide
theorem lst_set {h : He} {t : Nat} (ht : t < h.length) (xs : List W) : lstOf (h.set t (.lst xs)) (.ref t) = some xs := lst_of (by simp [ht])
section
variable {t n : Nat} {h : He}
theorem dip_ok {k : Nat} (T : Tb t n h) (hn : n ≤ BM) (k0 : 0 < k) (k1 : k ≤ 10 ^ 50) : Sat (ev__law_dip [.ref t, nI k] h) fun w h' => ∃ r, w = nI r ∧ r < k ∧ Tb t (n + 1) h' ∧ KT t h h' := by
  obtain ⟨d, m, c, e, hd, hm, hc⟩ := T
  have ht := (List.getElem?_eq_some_iff.mp e).1
  have le := lst_of e
  have kl := lg (n := k) (by omega)
  have kl2 : k.log2 < 8000 := by omega
  have kt : ∀ o, KT t h (h.set t o) := fun o => ⟨fun i o' hi e' => by rw [List.getElem?_set_ne (Ne.symm hi)]; exact e', by simp⟩
  by_cases d0 : 0 < d
  · refine Sat.of (a := nI (d % k)) (h := h.set t (.lst [nI (d / k), nI m, nI c])) (by simp [ev__law_dip, fn, le, e, d0, k0, kl2, ix30, nI]) ⟨_, rfl, Nat.mod_lt _ k0, ⟨d / k, m, c, by simp [ht], Nat.lt_of_le_of_lt (Nat.div_le_self _ _) hd, hm, by omega⟩, kt _⟩
  · have dz : d = 0 := by omega
    subst dz
    have m1 := lg (n := m) (by omega)
    have c1 := lg (n := c + 1) (by unfold BM at hn; omega)
    have l1 : (40014 : Nat).log2 < 100 := by decide
    have l2 : (7459 : Nat).log2 < 100 := by decide
    have q1 : m.log2 + (40014 : Nat).log2 < 3000000 := by omega
    have q2 : ((c : Int) + 1).natAbs.log2 + (7459 : Nat).log2 < 3000000 := by
      have : ((c : Int) + 1).natAbs = c + 1 := by omega
      rw [this]; omega
    have l3 : (311 : Nat).log2 < 8000 := by decide
    refine Sat.of (a := nI ((m * 40014 + (c + 1) * 7459 + 71) % 2147483629 / 311 % k)) (h := h.set t (.lst [nI 0, nI ((m * 40014 + (c + 1) * 7459 + 71) % 2147483629), nI (c + 1)])) ?_ ⟨_, rfl, Nat.mod_lt _ k0, ⟨0, (m * 40014 + (c + 1) * 7459 + 71) % 2147483629, c + 1, by simp [ht], hd, Nat.mod_lt _ (by omega), by omega⟩, kt _⟩
    have hs1 : ∀ o : EO, (h.set t o)[t]? = some o := fun o => by simp [ht]
    simp [ev__law_dip, fn, le, e, k0, ix30, ix31, ix32, hs1, lst_set ht, q1, q2, l3, nI]
theorem of_tup {xs : List W} (T : Tb t n h) (hn : n ≤ BM) (h0 : 0 < xs.length) (h1 : xs.length ≤ 1000) : Sat (ev__law_of [.ref t, .tup xs] h) fun w h' => w ∈ xs ∧ Tb t (n + 1) h' ∧ KT t h h' := by
  obtain ⟨w, h', e, r, rfl, hr, T', k⟩ := dip_ok T hn h0 (by omega)
  obtain ⟨x, hx⟩ := get_of hr
  refine Sat.of (a := x) (h := h') (by simp [ev__law_of, fn, e, hx]) ⟨List.mem_of_getElem? hx, T', k⟩
theorem of_ref {xs : List W} {l : Nat} (T : Tb t n h) (hn : n ≤ BM) (hl : h[l]? = some (.lst xs)) (hlt : l ≠ t) (h0 : 0 < xs.length) (h1 : xs.length ≤ 1000) : Sat (ev__law_of [.ref t, .ref l] h) fun w h' => w ∈ xs ∧ Tb t (n + 1) h' ∧ KT t h h' := by
  obtain ⟨w, h', e, r, rfl, hr, T', k⟩ := dip_ok T hn h0 (by omega)
  obtain ⟨x, hx⟩ := get_of hr
  refine Sat.of (a := x) (h := h') (by simp [ev__law_of, fn, lst_of hl, e, lst_of (k.at_ _ _ hlt hl), hx]) ⟨List.mem_of_getElem? hx, T', k⟩
@[simp] theorem mPop2 (i : Nat) (k : Int) (h : He) : mPop [.ref i, .int k] h = (match h[i]? with
    | some (.lst xs) => if -(2 ^ 63) ≤ k ∧ k < 2 ^ 63 then match L2.ixN xs.length k with
        | some j => match xs[j]? with
          | some y => .ok y (h.set i (.lst (xs.eraseIdx j)))
          | none => .bad
        | none => .bad
      else .bad
    | _ => .bad) := rfl
theorem ixN_nat {n j : Nat} (h : j < n) : L2.ixN n (j : Int) = some j := by
  unfold L2.ixN
  rw [if_pos (by omega), if_pos (by omega)]; simp
theorem some_ok {xs : List W} {k : Nat} (T : Tb t n h) (hn : n + 1000 ≤ BM) (hk : k ≤ xs.length) (h1 : xs.length ≤ 1000) : Sat (ev__law_some [.ref t, .tup xs, nI k] h) fun w h' => ∃ r ys, w = .ref r ∧ r ≠ t ∧ h'[r]? = some (.lst ys) ∧ ys.length = k ∧ (∀ y ∈ ys, y ∈ xs) ∧ Tb t (n + k) h' ∧ KT t h h' := by
  have ht := T.lt
  simp [ev__law_some, fn]
  refine Sat.bind (Sat.bind (Sat.bind (lcfix_sat (fun i acc g => ∃ rest, acc.length = i ∧ rest.length + i = xs.length ∧ (∀ y ∈ acc, y ∈ xs) ∧ (∀ y ∈ rest, y ∈ xs) ∧ g[h.length]? = some (.lst rest) ∧ Tb t (n + i) g ∧ KT t h g) _ 0 [] _ ⟨xs, rfl, rfl, by simp, by simp, at_end, by simpa using T.kp .app, Kp.app.kt⟩ (fun j x acc g ej ⟨rest, hl, hr, ha, hrr, hg, Tg, kg⟩ => ?_) fun acc g ⟨rest, hl, hr, ha, hrr, hg, Tg, kg⟩ => ?_)))
  · obtain ⟨hj, rfl⟩ := rgOf_at ej
    rw [Nat.zero_add] at hl hr Tg
    have hne : h.length ≠ t := by omega
    obtain ⟨w, g1, e, r, rfl, hrt, T1, k1⟩ := dip_ok Tg (by omega) (k := rest.length) (by omega) (by omega)
    obtain ⟨y, hy⟩ := get_of hrt
    have hg1 := k1.at_ _ _ hne hg
    have hlt := (List.getElem?_eq_some_iff.mp hg1).1
    have b1 : -9223372036854775808 ≤ (r : Int) := by omega
    have b2 : (r : Int) < 9223372036854775808 := by omega
    have hs : acc.length < sizeLine := lt_line (by omega)
    refine Sat.of (a := acc ++ [y]) (h := g1.set h.length (.lst (rest.eraseIdx r))) (by simp [lst_of hg, e, lst_of hg1, hg1, ixN_nat hrt, hy, hs, b1, b2]) ⟨rest.eraseIdx r, by simp; omega, by rw [List.length_eraseIdx_of_lt hrt]; omega, fun z hz => ?_, fun z hz => hrr z (List.mem_of_mem_eraseIdx hz), by simp [hlt], ?_, ?_⟩
    · rcases List.mem_append.mp hz with q | q
      · exact ha z q
      · rw [List.mem_singleton.mp q]; exact hrr y (List.mem_of_getElem? hy)
    · obtain ⟨d, m, c, e', r'⟩ := T1
      exact ⟨d, m, c, by rw [List.getElem?_set_ne hne]; exact e', by have := r'; omega⟩
    · have kk := kg.trans k1
      refine ⟨fun i o hi e' => ?_, by simpa using kk.len⟩
      have := (List.getElem?_eq_some_iff.mp e').1
      rw [List.getElem?_set_ne (by omega)]
      exact kk.at_ i o hi e'
  · rw [Nat.zero_add, rgOf_len] at hl Tg
    have hgl := kg.len
    simp
    exact ⟨by omega, hl, ha, by simpa using Tg.kp .app, kg.trans Kp.app.kt⟩
end
end VE
end
section
set_option Elab.async false
set_option linter.all false
set_option autoImplicit false
set_option maxRecDepth 100000
set_option maxHeartbeats 4000000
namespace VE
open PySem
mutual
def wsz : W → Nat
  | .tup xs => 1 + wszL xs
  | _ => 1
def wszL : List W → Nat
  | [] => 0
  | x :: r => wsz x + wszL r
end
mutual
def Pl : W → Prop
  | .tup xs => PlL xs
  | .non => True
  | .int _ => True
  | .str _ => True
  | _ => False
def PlL : List W → Prop
  | [] => True
  | x :: r => Pl x ∧ PlL r
end
theorem wszL_app : ∀ a b : List W, wszL (a ++ b) = wszL a + wszL b
  | [], b => by simp [wszL]
  | x :: r, b => by simp [wszL, wszL_app r b]; omega
theorem plL_app : ∀ a b : List W, PlL (a ++ b) ↔ PlL a ∧ PlL b
  | [], b => by simp [PlL]
  | x :: r, b => by simp [PlL, plL_app r b, and_assoc]
theorem wsz_pos (x : W) : 1 ≤ wsz x := by cases x <;> simp [wsz]
theorem wszL_len : ∀ a : List W, a.length ≤ wszL a
  | [] => Nat.le_refl _
  | x :: r => by have := wszL_len r; have := wsz_pos x; simp [wszL]; omega
def dup (x : W) : W := .tup [x, x]
@[simp] theorem mPop1 (i : Nat) (h : He) : mPop [.ref i] h = (match h[i]? with
    | some (.lst xs) => match xs[xs.length - 1]? with
      | some y => .ok y (h.set i (.lst xs.dropLast))
      | none => .bad
    | _ => .bad) := rfl
@[simp] theorem mExtend_eq (i j : Nat) (h : He) : mExtend [.ref i, .ref j] h = (match h[i]?, h[j]? with
    | some (.lst xs), some (.lst ys) => if xs.length + ys.length ≤ sizeLine then .ok .non (h.set i (.lst (xs ++ ys))) else .bad
    | _, _ => .bad) := rfl
@[simp] theorem cmp_ne_bl (h : He) (a b : Bool) : cmpW h .ne (.bl a) (.bl b) = some (!decide (a = b)) := rfl
@[simp] theorem truth_bl (h : He) (a : Bool) : truth h (.bl a) = some a := rfl
@[simp] theorem ty_tup (h : He) (xs : List W) : tyW h (.tup xs) = some .tuple := rfl
@[simp] theorem ty_int (h : He) (xs : Int) : tyW h (.int xs) = some .int := rfl
@[simp] theorem ty_strW (h : He) (xs : Str) : tyW h (.str xs) = some .str := rfl
@[simp] theorem ty_non (h : He) : tyW h .non = some .non := rfl
structure SameI (L : Nat) (x : W) (h0 : He) (i : Nat) (st : List W) (σ : Sg) (g : He) : Prop where
  at_ : g[L]? = some (.lst (st.map dup))
  pl : PlL st
  sm : i + wszL st ≤ wsz x
  kp : Kp h0 g
  sl : ∃ a b c d e : Option W, σ = [some x, some x, some (.ref L), a, b, c, d, e]
theorem kp_set {h0 g : He} {L : Nat} {o : EO} (k : Kp h0 g) (hl : h0.length ≤ L) : Kp h0 (g.set L o) := fun i p e => by
  have := (List.getElem?_eq_some_iff.mp e).1
  rw [List.getElem?_set_ne (by omega)]; exact k i p e
theorem zip_ok {xs : List W} {σ : Sg} {h : He} {a b c d : Option W} (hn : xs.length < 16777216) (hσ : σ = [a, b, c, d, some (.tup xs), some (.tup xs), none, none] ∨ ∃ z y, σ = [a, b, c, d, some (.tup xs), some (.tup xs), z, y]) :
    Sat (lcFix (lcT σ (eTup (esC (eIx (eV 4) (eV 6)) (esC (eIx (eV 5) (eV 6)) esN))) (gV 6) tYes [6]) (rgOf 0 xs.length) [] h) fun acc g => acc = xs.map dup ∧ g = h := by
  obtain ⟨z, y, rfl⟩ : ∃ z y, σ = [a, b, c, d, some (.tup xs), some (.tup xs), z, y] := by
    rcases hσ with q | q
    · exact ⟨_, _, q⟩
    · exact q
  refine lcfix_sat (fun i acc g => acc = (xs.take i).map dup ∧ g = h) _ 0 [] _ ⟨by simp, rfl⟩ (fun j x acc g ej ⟨e1, e2⟩ => ?_) fun acc g ⟨e1, e2⟩ => ?_
  · obtain ⟨hj, rfl⟩ := rgOf_at ej
    subst e1 e2
    obtain ⟨y, hy⟩ := get_of hj
    have hs : min j xs.length < sizeLine := lt_line (by omega)
    rw [Nat.zero_add, take_snoc hy, List.map_append]
    simp [-List.map_take, hy, hs, dup]
  · subst e1 e2
    simp [rgOf_len, List.take_of_length_le]
theorem SatS {a b : S} {σ σ' : Sg} {h h' : He} {Q : Fl → He → Prop} (e : a σ h = .ok (.nx σ') h') (q : Sat (b σ' h') Q) : Sat (sSeq a b σ h) Q := by
  rw [sSeq_eq, e]; exact q
theorem same_ok {x : W} {h : He} (p : Pl x) (s : wsz x < 400000) : Sat (ev__law_same [x, x] h) fun w g => w = .bl true ∧ Kp h g := by
  unfold ev__law_same
  obtain ⟨N, hN⟩ : ∃ N : Int, N = 400000 := ⟨_, rfl⟩
  rw [← hN]
  have hN2 : N.toNat = 400000 := by omega
  clear hN
  simp [fn]
  have rl : (rgOf 0 N.toNat).length = 400000 := by rw [rgOf_len]; exact hN2
  have ra : ∀ j y, (rgOf 0 N.toNat)[j]? = some y → j < 400000 ∧ y = .int (0 + (j : Int)) := fun j y e => by
    have := rgOf_at e
    rw [hN2] at this
    exact this
  generalize rgOf 0 N.toNat = rs at rl ra
  refine Sat.bind (Sat.bind (for_sat (fun i σ g => ∃ st, SameI h.length x h i st σ g) _ 0 _ _ ⟨[x], ⟨by simp [dup], by simp [PlL, p], by simp [wszL], Kp.app, ⟨_, _, _, _, _, rfl⟩⟩⟩ (fun j y σ g ej ⟨st, I⟩ => ?_) fun σ g ⟨st, I⟩ => ?_))
  · obtain ⟨hj, rfl⟩ := ra j _ ej
    rw [Nat.zero_add] at I
    obtain ⟨at_, pl, sm, kp, ⟨a, b, c, d, e, rfl⟩⟩ := I
    have hlt := (List.getElem?_eq_some_iff.mp at_).1
    by_cases st0 : st = []
    · subst st0
      refine for_ret (w := .bl true) (h' := g) (by simp [lst_of at_]) (by simp; exact kp)
    · obtain ⟨st', y, rfl⟩ : ∃ st' y, st = st' ++ [y] := ⟨st.dropLast, st.getLast st0, (List.dropLast_concat_getLast st0).symm⟩
      have hl := wszL_len (st' ++ [y])
      rw [wszL_app] at sm hl
      simp only [wszL, Nat.add_zero] at sm hl
      obtain ⟨p1, p2⟩ := (plL_app _ _).mp pl
      have p3 : Pl y := p2.1
      have e1 : (st'.map dup ++ [dup y])[st'.length]? = some (dup y) := by simp
      have e2 : (st'.map dup ++ [dup y]).dropLast = st'.map dup := by simp
      have at2 : g[h.length]? = some (.lst (st'.map dup ++ [dup y])) := by rw [at_]; simp
      have at3 : ∀ o, (g.set h.length o)[h.length]? = some o := fun o => by simp [hlt]
      have nn : ((st'.length : Int) + 1 = 0) = False := eq_false (by omega)
      have fin : ∀ (g' : He), g' = g.set h.length (.lst (st'.map dup)) → wsz y = 1 → ∀ (σ' : Sg), (∃ a b c d e : Option W, σ' = [some x, some x, some (.ref h.length), a, b, c, d, e]) → ∃ st, SameI h.length x h (0 + j + 1) st σ' g' := fun g' eg hy σ' hs => ⟨st', by rw [eg]; exact at3 _, p1, by omega, by rw [eg]; exact kp_set kp (Nat.le_refl _), hs⟩
      cases y with
      | non =>
        rw [trn_eq]
        refine Sat.bind (Sat.of (a := [some x, some x, some (.ref h.length), some (.int (0 + (j:Int))), b, c, d, e]) (h := g) (by simp) ?_)
        refine SatS (σ' := [some x, some x, some (.ref h.length), some (.int (0 + (j:Int))), b, c, d, e]) (h' := g) (by simp [lst_of at2, nn]) ?_
        refine SatS (σ' := [some x, some x, some (.ref h.length), some (.int (0 + (j:Int))), some .non, some .non, d, e]) (h' := g.set h.length (.lst (st'.map dup))) (by simp [lst_of at2, at2, e1, e2, dup]) ?_
        exact Sat.of (a := Fl.nx [some x, some x, some (.ref h.length), some (.int (0 + (j:Int))), some .non, some .non, d, e]) (h := g.set h.length (.lst (st'.map dup))) (by simp [isTy]) (fin _ rfl (by simp [wsz]) _ ⟨_, _, _, _, _, rfl⟩)
      | bl v => exact p3.elim
      | ref v => exact p3.elim
      | kl v => exact p3.elim
      | int v =>
        rw [trn_eq]
        refine Sat.bind (Sat.of (a := [some x, some x, some (.ref h.length), some (.int (0 + (j:Int))), b, c, d, e]) (h := g) (by simp) ?_)
        refine SatS (σ' := [some x, some x, some (.ref h.length), some (.int (0 + (j:Int))), b, c, d, e]) (h' := g) (by simp [lst_of at2, nn]) ?_
        refine SatS (σ' := [some x, some x, some (.ref h.length), some (.int (0 + (j:Int))), some (.int v), some (.int v), d, e]) (h' := g.set h.length (.lst (st'.map dup))) (by simp [lst_of at2, at2, e1, e2, dup]) ?_
        exact Sat.of (a := Fl.nx [some x, some x, some (.ref h.length), some (.int (0 + (j:Int))), some (.int v), some (.int v), d, e]) (h := g.set h.length (.lst (st'.map dup))) (by simp [isTy]) (fin _ rfl (by simp [wsz]) _ ⟨_, _, _, _, _, rfl⟩)
      | str v =>
        rw [trn_eq]
        refine Sat.bind (Sat.of (a := [some x, some x, some (.ref h.length), some (.int (0 + (j:Int))), b, c, d, e]) (h := g) (by simp) ?_)
        refine SatS (σ' := [some x, some x, some (.ref h.length), some (.int (0 + (j:Int))), b, c, d, e]) (h' := g) (by simp [lst_of at2, nn]) ?_
        refine SatS (σ' := [some x, some x, some (.ref h.length), some (.int (0 + (j:Int))), some (.str v), some (.str v), d, e]) (h' := g.set h.length (.lst (st'.map dup))) (by simp [lst_of at2, at2, e1, e2, dup]) ?_
        exact Sat.of (a := Fl.nx [some x, some x, some (.ref h.length), some (.int (0 + (j:Int))), some (.str v), some (.str v), d, e]) (h := g.set h.length (.lst (st'.map dup))) (by simp [isTy]) (fin _ rfl (by simp [wsz]) _ ⟨_, _, _, _, _, rfl⟩)
      | tup xs =>
        have hx := wszL_len xs
        simp only [wsz] at sm hl
        rw [List.length_append] at hl
        have hl : st'.length + xs.length < 16777216 := by have := wszL_len st'; omega
        have hz := zip_ok (xs := xs) (σ := [some x, some x, some (.ref h.length), some (.int (0 + j)), some (.tup xs), some (.tup xs), d, e]) (h := g.set h.length (.lst (st'.map dup))) (a := some x) (b := some x) (c := some (.ref h.length)) (d := some (.int (0 + j))) (by omega) (.inr ⟨_, _, rfl⟩)
        have hz := Sat.eq (a := xs.map dup) (h := g.set h.length (.lst (st'.map dup))) hz
        simp at hz
        have hs : st'.length + xs.length ≤ sizeLine := Nat.le_of_lt (lt_line (by omega))
        have hle : h.length ≤ (g.set h.length (.lst (st'.map dup))).length := by simpa using kp.len
        have at4 : ∀ o, (g.set h.length (.lst (st'.map dup)) ++ [o])[h.length]? = some (.lst (st'.map dup)) := fun o => by rw [List.getElem?_append_left (by simpa using hlt)]; exact at3 _
        refine for_step (σ' := [some x, some x, some (.ref h.length), some (.int (0 + j)), some (.tup xs), some (.tup xs), d, e]) (h' := (g.set h.length (.lst (st'.map dup)) ++ [EO.lst (xs.map dup)]).set h.length (.lst (st'.map dup ++ xs.map dup))) (by simp [lst_of at2, at2, nn, e1, e2, dup, isTy]; simp [lst_of (at3 _), hz, at4, hs]) ⟨st' ++ xs, ?_, (plL_app _ _).mpr ⟨p1, p3⟩, by rw [wszL_app]; omega, kp_set ((kp_set kp (Nat.le_refl _)).trans Kp.app) (Nat.le_refl _), ⟨_, _, _, _, _, rfl⟩⟩
        rw [List.getElem?_set_self (by simp; omega)]; simp
  · have := I.sm
    rw [rl] at this
    omega
end VE
end
section
set_option Elab.async false
set_option linter.all false
set_option autoImplicit false
set_option maxRecDepth 100000
set_option maxHeartbeats 4000000
namespace VE
open PySem
@[simp] theorem sTryH_eq (b : S) (hd : Nat → List (Nat × W) → Option W) (σ : Sg) (h : He) : sTryH b hd σ h = (match b σ h with
  | .ok f h => .ok f h
  | .ex c fs h => match hd c fs with
    | some w => .ok (.rt w) h
    | none => .bad
  | .bad => .bad) := rfl
theorem hd_step (x : Str) : hdT 103 "step" [9] 103 [(9, .str x)] = some (.tup [.str "step", .str x]) := rfl
abbrev told (w : W) : W := .tup [.str "told", w]
abbrev step (x : Str) : W := .tup [.str "step", .str x]
abbrev hL (ps : List Pt) (h : He) : He := h ++ [.lst (vls sz (words ps))]
section
variable {ps : List Pt} {t : Nat} {h : He}
theorem heard0_ok (g : Gs ps t) {p : Nat} {n : Str} (hp : (den ps t)[p]? = some n) : Sat (ev__law_heard [.int 0, sw ps t, nI p, .non] h) fun w h' => w = told (.str n) ∧ Kp h h' :=
  Sat.of (h := hL ps h) (by simp [hL, ev__law_heard, fn, item_at_ok g hp]) ⟨rfl, Kp.app⟩
theorem heard0_bad (g : Gs ps t) {p : Int} (hp : ¬ (0 ≤ p ∧ p < ((den ps t).length : Int))) : Sat (ev__law_heard [.int 0, sw ps t, .int p, .non] h) fun w h' => w = step "place" ∧ Kp h h' :=
  Sat.of (h := hL ps h) (by simp [hL, ev__law_heard, fn, item_at_bad g hp, hd_step]) ⟨rfl, Kp.app⟩
theorem heard1_ok (g : Gs ps t) {lo hi : Nat} (h1 : lo ≤ hi) (h2 : hi ≤ (den ps t).length) (h3 : hi - lo ≤ 400) : Sat (ev__law_heard [.int 1, sw ps t, nI lo, nI hi] h) fun w h' => w = told (.tup ((((den ps t).drop lo).take (hi - lo)).map W.str)) ∧ Kp h h' := by
  have e := between_ok (h := h) g h1 h2 h3
  exact Sat.of (h := hL ps h ++ [.lst ((((den ps t).drop lo).take (hi - lo)).map W.str)]) (by simp [hL, ev__law_heard, fn, e]) ⟨rfl, Kp.app.trans Kp.app⟩
theorem heard1_bad (g : Gs ps t) {lo hi : Int} (hp : ¬ (0 ≤ lo ∧ lo ≤ hi ∧ hi ≤ ((den ps t).length : Int))) : Sat (ev__law_heard [.int 1, sw ps t, .int lo, .int hi] h) fun w h' => w = step "place" ∧ Kp h h' :=
  Sat.of (h := hL ps h) (by simp [hL, ev__law_heard, fn, between_bad g hp, hd_step]) ⟨rfl, Kp.app⟩
theorem heard1_long (g : Gs ps t) {lo hi : Int} (h1 : 0 ≤ lo) (h2 : lo ≤ hi) (h3 : hi ≤ ((den ps t).length : Int)) (h4 : 400 < hi - lo) : Sat (ev__law_heard [.int 1, sw ps t, .int lo, .int hi] h) fun w h' => w = step "long" ∧ Kp h h' :=
  Sat.of (h := hL ps h) (by simp [hL, ev__law_heard, fn, between_long g h1 h2 h3 h4, hd_step]) ⟨rfl, Kp.app⟩
theorem heard2_ok (g : Gs ps t) {n : Str} {J : Nat} (hJ : J < (den ps t).count n) : Sat (ev__law_heard [.int 2, sw ps t, .str n, nI J] h) fun w h' => w = told (nI (posn n (den ps t) J)) ∧ Kp h h' := by
  obtain ⟨w, g', e, rfl, k⟩ := item_place_ok (h := h) g hJ
  exact Sat.of (by simp [ev__law_heard, fn, e]) ⟨rfl, k⟩
theorem heard2_bad (g : Gs ps t) {n : Str} {J : Nat} (hJ : ¬ J < (den ps t).count n) : Sat (ev__law_heard [.int 2, sw ps t, .str n, nI J] h) fun w h' => w = step "none" ∧ Kp h h' := by
  obtain ⟨g', e, k⟩ := item_place_bad (h := h) g hJ
  exact Sat.of (by simp [ev__law_heard, fn, e, hd_step]) ⟨rfl, k⟩
theorem heard3_ok (g : Gs ps t) {ks : List Str} {b : List W} {p : Nat} (hk : ks.length ≤ 400) (hp : p ≤ (den ps t).length) : Sat (ev__law_heard [.int 3, sw ps t, bk ks b, nI p] h) fun w h' => w = told (.tup (ks.map fun n => nI (((den ps t).take p).count n))) ∧ Kp h h' := by
  obtain ⟨w, g', e, rfl, k⟩ := bill_ok (h := h) (b := b) g hk hp
  exact Sat.of (by simp [ev__law_heard, fn, e]) ⟨rfl, k⟩
theorem heard3_bad (g : Gs ps t) {w : W} {p : Int} (hp : ¬ (0 ≤ p ∧ p ≤ ((den ps t).length : Int))) : Sat (ev__law_heard [.int 3, sw ps t, w, .int p] h) fun w h' => w = step "place" ∧ Kp h h' := by
  obtain ⟨g', e, k⟩ := bill_bad (h := h) (w := w) g hp
  exact Sat.of (by simp [ev__law_heard, fn, e, hd_step]) ⟨rfl, k⟩
variable {tb n l : Nat}
@[simp] theorem pow_int (h : He) (i j : Int) : binW h .pow (.int i) (.int j) = if 0 ≤ j ∧ j ≤ 1000000 ∧ i.natAbs < 2 ^ 64 then .ok (.int (i ^ j.toNat)) h else .bad := rfl
theorem dipI (T : Tb tb n h) (hn : n ≤ BM) {K : Int} (k0 : 0 < K) (k1 : K ≤ 100000000000000000000) : ∃ (r : Nat) (h' : He), ev__law_dip [.ref tb, .int K] h = .ok (.int (r : Int)) h' ∧ (r : Int) < K ∧ Tb tb (n + 1) h' ∧ KT tb h h' := by
  obtain ⟨k, rfl⟩ : ∃ k : Nat, K = (k : Int) := ⟨K.toNat, by omega⟩
  obtain ⟨w, h', e, r, rfl, hr, T', kk⟩ := dip_ok T hn (k := k) (by omega) (by omega)
  exact ⟨r, h', e, by omega, T', kk⟩
theorem lgI {x : Int} (h : x.natAbs ≤ 10 ^ 60) : x.natAbs.log2 < 1000 := lg h
theorem place_ok (g : Gs ps t) (T : Tb tb n h) (hn : n + 10 ≤ BM) (hl : h[l]? = some (.lst (vls sz (words ps)))) (hlt : l ≠ tb) : Sat (ev__law_place [.ref tb, .ref l, nI (den ps t).length] h) fun w h' => (∃ p : Int, w = .int p) ∧ Tb tb (n + 6) h' ∧ KT tb h h' := by
  have g0 := g.len
  have g1 := g.top
  have wl := words_len ps
  obtain ⟨way, h1, e1, hw, T1, k1⟩ := dipI T (by omega) (K := 6) (by omega) (by omega)
  by_cases c : (way : Int) < 2
  · obtain ⟨x, h2, e2, hx, T2, k2⟩ := dipI T1 (by omega) (K := 4) (by omega) (by omega)
    obtain ⟨y, h3, e3, hy, T3, k3⟩ := dipI T2 (by omega) (K := 4) (by omega) (by omega)
    rcases (show way = 0 ∨ way = 1 by omega) with rfl | rfl
    · refine Sat.of (a := .int (x : Int)) (h := h3) (by simp at e1; simp [ev__law_place, fn, e1, e2, e3]) ⟨⟨_, rfl⟩, T3.mono (by omega), k1.trans (k2.trans k3)⟩
    · refine Sat.of (a := .int (((den ps t).length : Int) - 1 - (y : Int))) (h := h3) (by simp at e1; simp [ev__law_place, fn, e1, e2, e3]) ⟨⟨_, rfl⟩, T3.mono (by omega), k1.trans (k2.trans k3)⟩
  · by_cases c2 : way = 2
    · subst c2
      obtain ⟨w, h2, e2, hw2, T2, k2⟩ := of_ref (xs := vls sz (words ps)) T1 (by omega) (k1.at_ _ _ hlt hl) hlt (by simp; omega) (by simp; omega)
      obtain ⟨u, hu, rfl⟩ := List.mem_map.mp hw2
      obtain ⟨y, h3, e3, hy, T3, k3⟩ := dipI T2 (by omega) (K := 3) (by omega) (by omega)
      refine Sat.of (a := .int ((u.length : Int) - (y : Int) + 1)) (h := h3) (by simp at e1; simp [ev__law_place, fn, e1, e2, e3]) ⟨⟨_, rfl⟩, T3.mono (by omega), k1.trans (k2.trans k3)⟩
    · obtain ⟨x, h2, e2, hx, T2, k2⟩ := dipI T1 (by omega) (K := 1000) (by omega) (by omega)
      obtain ⟨y, h3, e3, hy, T3, k3⟩ := dipI T2 (by omega) (K := 1000000000) (by omega) (by omega)
      obtain ⟨z, h4, e4, hz, T4, k4⟩ := dipI T3 (by omega) (K := 3) (by omega) (by omega)
      obtain ⟨u, h5, e5, hu, T5, k5⟩ := dipI T4 (by omega) (K := 3) (by omega) (by omega)
      obtain ⟨v, h6, e6, hv, T6, k6⟩ := dipI T5 (by omega) (K := 4) (by omega) (by omega)
      have s0 := g.size t g1
      have q1 : (den ps t).length.log2 + x.log2 < 3000000 := by have := lg (n := (den ps t).length) (by omega); have := lg (n := x) (by omega); omega
      have q2 : y.log2 + (100000000000 : Nat).log2 < 3000000 := by have := lg (n := y) (by omega); have : (100000000000 : Nat).log2 < 100 := by decide +kernel
                                                                   omega
      have q3 : (1000 : Nat).log2 < 8000 := by decide
      have c3 : ¬ ((way : Int) = 2) := by omega
      have K := k1.trans (k2.trans (k3.trans (k4.trans (k5.trans k6))))
      rcases (show v = 0 ∨ v = 1 ∨ v = 2 ∨ v = 3 by omega) with rfl | rfl | rfl | rfl
      · refine Sat.of (a := .int (((den ps t).length : Int) * x / 1000)) (h := h6) (by simp at e6; simp [ev__law_place, fn, e1, e2, e3, e4, e5, e6, c, c3, q1, q2, q3]) ⟨⟨_, rfl⟩, T6, K⟩
      · refine Sat.of (a := .int ((y : Int) * 100000000000 + 7)) (h := h6) (by simp at e6; simp [ev__law_place, fn, e1, e2, e3, e4, e5, e6, c, c3, q1, q2, q3]) ⟨⟨_, rfl⟩, T6, K⟩
      · refine Sat.of (a := .int (-1 - (z : Int))) (h := h6) (by simp at e6; simp [ev__law_place, fn, e1, e2, e3, e4, e5, e6, c, c3, q1, q2, q3]) ⟨⟨_, rfl⟩, T6, K⟩
      · refine Sat.of (a := .int (((den ps t).length : Int) + (u : Int))) (h := h6) (by simp at e6; simp [ev__law_place, fn, e1, e2, e3, e4, e5, e6, c, c3, q1, q2, q3]) ⟨⟨_, rfl⟩, T6, K⟩
end
end VE
end
section
set_option Elab.async false
set_option linter.all false
set_option autoImplicit false
set_option maxRecDepth 100000
set_option maxHeartbeats 4000000
namespace VE
open PySem
theorem Sat.seq {a b : S} {σ : Sg} {h : He} {Q : Fl → He → Prop} (s : Sat (a σ h) fun fl h' => ∃ σ', fl = .nx σ' ∧ Sat (b σ' h') Q) : Sat (sSeq a b σ h) Q := by
  rw [sSeq_eq]
  refine Sat.bind (s.imp fun fl h' ⟨σ', e, q⟩ => ?_)
  subst e
  exact q
theorem wszL_map {α : Type} {f : α → W} (hf : ∀ x, wsz (f x) = 1) : ∀ xs : List α, wszL (xs.map f) = xs.length
  | [] => rfl
  | x :: r => by simp [wszL, hf x, wszL_map hf r]; omega
theorem plL_map {α : Type} {f : α → W} (hf : ∀ x, Pl (f x)) : ∀ xs : List α, PlL (xs.map f)
  | [] => trivial
  | x :: r => ⟨hf x, plL_map hf r⟩
section
variable {ps : List Pt} {t tb n l : Nat} {h : He}
theorem same_told {w : W} (p : Pl w) (s : wsz w < 300000) : Sat (ev__law_same [told w, told w] h) fun v g => v = .bl true ∧ Kp h g := same_ok (by simp [Pl, PlL, p]) (by simp [wsz, wszL]; omega)
theorem same_step {x : Str} : Sat (ev__law_same [step x, step x] h) fun v g => v = .bl true ∧ Kp h g := same_ok (by simp [Pl, PlL]) (by simp [wsz, wszL])
theorem ahead_lc (g : Gs ps t) {ks : List Str} (hk : ks.length ≤ 400) {b : List W} {P : Nat} {e0 e1 e4 e5 e7 e8 e9 e10 : Option W} (hl : h[l]? = some (.lst (vls sz (words ps)))) (hp : P ≤ (den ps t).length) :
    Sat (lcFix (lcT [e0, e1, some (sw ps t), some (.ref l), e4, e5, some (nI P), e7, e8, e9, e10] (eCall ev__law_ahead (esC (eV 2) (esC (eV 3) (esC (eCall ev__law_counts (esC (eV 2) (esC (eV 8) esN))) (esC (eV 6) esN))))) (gV 8) tYes [8]) (ks.map W.str) [] h) fun acc g' => acc = ks.map (fun n => nI (((den ps t).take P).count n)) ∧ Kp h g' := by
  refine lcfix_sat (fun i acc g' => acc = (ks.take i).map (fun n => nI (((den ps t).take P).count n)) ∧ Kp h g') _ 0 [] _ ⟨by simp, Kp.refl⟩ (fun j x acc g' ej ⟨e1, k⟩ => ?_) fun acc g' ⟨e1, k⟩ => ?_
  · obtain ⟨m, em, rfl⟩ := map_str_at ej
    subst e1
    have hj := (List.getElem?_eq_some_iff.mp em).1
    have hs : min j ks.length < sizeLine := lt_line (by omega)
    have c := law_counts_ok (h := g') g (n := m)
    obtain ⟨w, g2, e2, rfl, k2⟩ := law_ahead_ok (h := g' ++ [.lst (vls (cn m) (words ps))]) g (Kp.app _ _ (k _ _ hl)) at_end hp
    rw [Nat.zero_add, take_snoc em, List.map_append]
    refine Sat.of (h := g2) (by simp [-List.map_take, c, e2, hs]) ⟨rfl, k.trans (Kp.app.trans k2)⟩
  · subst e1
    exact ⟨by simp [List.take_of_length_le], k⟩
theorem down_lc (g : Gs ps t) {lo hi : Nat} {e0 e1 e4 e5 e6 e7 e8 e9 e10 : Option W} (hl : h[l]? = some (.lst (vls sz (words ps)))) (h2 : hi ≤ (den ps t).length) (h3 : hi - lo ≤ 400) :
    Sat (lcFix (lcT [e0, e1, some (sw ps t), some (.ref l), e4, e5, e6, e7, e8, e9, e10] (eIx (eCall ev__law_down (esC (eV 2) (esC (eV 3) (esC (eV 10) esN)))) (eK (.int 0))) (gV 10) tYes [10]) (rgOf (lo : Int) (hi - lo)) [] h) fun acc g' => acc = (((den ps t).drop lo).take (hi - lo)).map W.str ∧ Kp h g' := by
  refine lcfix_sat (fun i acc g' => acc = (((den ps t).drop lo).take i).map W.str ∧ Kp h g') _ 0 [] _ ⟨by simp, Kp.refl⟩ (fun j x acc g' ej ⟨e1, k⟩ => ?_) fun acc g' ⟨e1, k⟩ => ?_
  · obtain ⟨hj, rfl⟩ := rgOf_at ej
    subst e1
    have hs : min j ((den ps t).length - lo) < sizeLine := lt_line (by omega)
    obtain ⟨m, ah, e2, e3, _⟩ := down_ok (h := g') g (k _ _ hl) (P := lo + j) (by omega)
    have e2 : ev__law_down [sw ps t, .ref l, .int ((lo : Int) + (j : Int))] g' = .ok (.tup [.str m, .ref g'.length]) (g' ++ [.lst (ah.map pk)]) := by rw [← e2]; rfl
    have e4 : ((den ps t).drop lo)[j]? = some m := by rw [List.getElem?_drop]; exact e3
    rw [Nat.zero_add, take_snoc e4, List.map_append]
    refine Sat.of (a := (((den ps t).drop lo).take j).map W.str ++ [.str m]) (h := g' ++ [.lst (ah.map pk)]) (by simp [-List.map_take, -List.map_drop, e2, hs]) ⟨rfl, k.trans Kp.app⟩
  · subst e1
    exact ⟨by rw [Nat.zero_add, rgOf_len], k⟩
structure Ask (ps : List Pt) (tb l n : Nat) (h g : He) : Prop where
  tub : Tb tb n g
  kt : KT tb h g
  at_ : g[l]? = some (.lst (vls sz (words ps)))
  ne : l ≠ tb
theorem Ask.kp {h g g' : He} (a : Ask ps tb l n h g) (k : Kp g g') : Ask ps tb l n h g' := ⟨a.tub.kp k, a.kt.trans k.kt, k _ _ a.at_, a.ne⟩
theorem Ask.to {h g g' : He} {n' : Nat} (a : Ask ps tb l n h g) (k : KT tb g g') (T : Tb tb n' g') : Ask ps tb l n' h g' := ⟨T, a.kt.trans k, k.at_ _ _ a.ne a.at_, a.ne⟩
end
end VE
end
section
set_option Elab.async false
set_option linter.all false
set_option autoImplicit false
set_option maxRecDepth 100000
set_option maxHeartbeats 4000000
namespace VE
open PySem
section
variable {ps : List Pt} {t tb n l : Nat} {h : He}
theorem toN {p : Int} (h : 0 ≤ p) : ∃ P : Nat, p = (P : Int) := ⟨p.toNat, by omega⟩
theorem pl_strs (u : List Str) : Pl (.tup (u.map W.str)) := plL_map (f := W.str) (fun _ => trivial) u
theorem sz_strs (u : List Str) : wsz (.tup (u.map W.str)) = 1 + u.length := by show 1 + wszL _ = _; rw [wszL_map fun _ => rfl]
abbrev pSg (ps : List Pt) (t : Nat) (ks : List Str) (b : List W) (tb l : Nat) (c5 c6 c7 c8 c9 c10 : Option W) : Sg := [some (.ref tb), some (bk ks b), some (sw ps t), some (.ref l), some (nI (den ps t).length), c5, c6, c7, c8, c9, c10]
theorem Sat.nx {a b : S} {σ σ' : Sg} {h h' : He} {Q : Fl → He → Prop} (e : a σ h = .ok (.nx σ') h') (q : Sat (b σ' h') Q) : Sat (sSeq a b σ h) Q := Sat.seq ⟨_, _, e, _, rfl, q⟩
theorem places_asked_ok (g : Gs ps t) {ks : List Str} (hk : ks.length ≤ 400) {b : List W} (A : Ask ps tb l n h h) (hn : n + 100 ≤ BM) : Sat (ev__law_places_asked [.ref tb, bk ks b, sw ps t, .ref l] h) fun w h' => w = .bl true ∧ Ask ps tb l (n + 100) h h' := by
  have tk := top_at g
  simp only [ev__law_places_asked, fn]
  simp [lst_of A.at_, tk]
  refine Sat.bind (Sat.bind (for_sat (fun i σ g' => (∃ a b1 c d e f, σ = pSg ps t ks b tb l a b1 c d e f) ∧ Ask ps tb l (n + i * 20) h g') _ 0 _ _ ⟨⟨_, _, _, _, _, _, rfl⟩, by simpa using A⟩ (fun j x σ g' ej ⟨⟨a, b1, c, d, e, f, hσ⟩, A1⟩ => ?_) fun σ g' ⟨⟨a, b1, c, d, e, f, hσ⟩, A1⟩ => ?_))
  · obtain ⟨hj, rfl⟩ := rgOf_at ej
    subst hσ
    rw [Nat.zero_add] at A1 ⊢
    have hn1 : n + j * 20 + 20 ≤ BM := by omega
    have fin : n + j * 20 + 20 = n + (j + 1) * 20 := by omega
    rw [← fin]
    clear fin
    generalize n + j * 20 = n1 at A1 hn1
    clear A
    rw [trn_eq]
    refine Sat.bind (Sat.of (a := pSg ps t ks b tb l (some (.int (0 + (j : Int)))) b1 c d e f) (h := g') (by simp) ?_)
    generalize some (W.int (0 + (j : Int))) = a
    -- the place
    obtain ⟨w, h1, q1, ⟨p, rfl⟩, T1, k1⟩ := place_ok g A1.tub (by omega) A1.at_ A1.ne
    have A2 := A1.to k1 T1
    refine Sat.nx (σ' := pSg ps t ks b tb l a (some (.int p)) c d e f) (h' := h1) (by simp [q1]) ?_
    clear k1 T1 q1 A1
    -- the item at it
    obtain ⟨due, h2, h3, q2, q3, A3⟩ : ∃ due h2 h3, sAsg (gV 7) (eIf (tCh2 .le .lt (eK (.int 0)) (eV 6) (eV 4)) (eTup (esC (eK (.str "told")) (esC (eIx (eCall ev__law_down (esC (eV 2) (esC (eV 3) (esC (eV 6) esN)))) (eK (.int 0))) esN))) (eTup (esC (eK (.str "step")) (esC (eK (.str "place")) esN)))) (pSg ps t ks b tb l a (some (.int p)) c d e f) h1 = .ok (.nx (pSg ps t ks b tb l a (some (.int p)) (some due) d e f)) h2 ∧ sIf (tNot (tV (eCall ev__law_same (esC (eCall ev__law_heard (esC (eK (.int 0)) (esC (eV 2) (esC (eV 6) (esC (eK .non) esN))))) (esC (eV 7) esN))))) (sRet (eK (.bl false))) sNil (pSg ps t ks b tb l a (some (.int p)) (some due) d e f) h2 = .ok (.nx (pSg ps t ks b tb l a (some (.int p)) (some due) d e f)) h3 ∧ Ask ps tb l (n1 + 6) h h3 := by
      by_cases c0 : 0 ≤ p ∧ p < ((den ps t).length : Int)
      · obtain ⟨P, rfl⟩ := toN c0.1
        have c1 : P < (den ps t).length := by omega
        obtain ⟨m, ah, e2, e3, _⟩ := down_ok (h := h1) g A2.at_ c1
        obtain ⟨w, h3, e4, rfl, k3⟩ := heard0_ok (h := h1 ++ [.lst (ah.map pk)]) g e3
        obtain ⟨w, h4, e5, rfl, k4⟩ := same_told (w := .str m) (h := h3) trivial (by simp [wsz])
        exact ⟨told (.str m), h1 ++ [.lst (ah.map pk)], h4, by simp [c1, e2], by simp [e4, e5], A2.kp (Kp.app.trans (k3.trans k4))⟩
      · obtain ⟨w, h3, e4, rfl, k3⟩ := heard0_bad (h := h1) g c0
        obtain ⟨w, h4, e5, rfl, k4⟩ := same_step (x := "place") (h := h3)
        refine ⟨step "place", h1, h4, ?_, by simp [e4, e5], A2.kp (k3.trans k4)⟩
        by_cases c1 : 0 ≤ p
        · have c2 : ¬ p < ((den ps t).length : Int) := fun q => c0 ⟨c1, q⟩
          simp [c1, c2]
        · simp [c1]
    refine Sat.nx q2 (Sat.nx q3 ?_)
    clear q2 q3 A2
    refine Sat.nx (σ' := pSg ps t ks b tb l a (some (.int p)) (some (step "place")) d e f) (h' := h3) (by simp) ?_
    -- the counts ahead of it
    obtain ⟨due, d1, h4, h5, q2, q3, A4⟩ : ∃ due d1 h4 h5, sIf (tCh2 .le .le (eK (.int 0)) (eV 6) (eV 4)) (sAsg (gV 7) (eTup (esC (eK (.str "told")) (esC (eCall fTuple (esC (eLc (eCall ev__law_ahead (esC (eV 2) (esC (eV 3) (esC (eCall ev__law_counts (esC (eV 2) (esC (eV 8) esN))) (esC (eV 6) esN))))) (gV 8) (iE (eIx (eV 1) (eK (.int 0)))) tYes [8]) esN)) esN)))) sNil (pSg ps t ks b tb l a (some (.int p)) (some (step "place")) d e f) h3 = .ok (.nx (pSg ps t ks b tb l a (some (.int p)) (some due) d1 e f)) h4 ∧ sIf (tNot (tV (eCall ev__law_same (esC (eCall ev__law_heard (esC (eK (.int 3)) (esC (eV 2) (esC (eV 1) (esC (eV 6) esN))))) (esC (eV 7) esN))))) (sRet (eK (.bl false))) sNil (pSg ps t ks b tb l a (some (.int p)) (some due) d1 e f) h4 = .ok (.nx (pSg ps t ks b tb l a (some (.int p)) (some due) d1 e f)) h5 ∧ Ask ps tb l (n1 + 6) h h5 := by
      by_cases c0 : 0 ≤ p ∧ p ≤ ((den ps t).length : Int)
      · obtain ⟨P, rfl⟩ := toN c0.1
        have c1 : P ≤ (den ps t).length := by omega
        obtain ⟨acc, h4, e2, rfl, k2⟩ := ahead_lc (h := h3) g hk (b := b) (e0 := some (.ref tb)) (e1 := some (bk ks b)) (e4 := some (nI (den ps t).length)) (e5 := a) (e7 := some (step "place")) (e8 := d) (e9 := e) (e10 := f) A3.at_ c1
        obtain ⟨w, h5, e4, rfl, k3⟩ := heard3_ok (h := h4 ++ [.lst (ks.map fun n => nI (((den ps t).take P).count n))]) g hk (b := b) c1
        obtain ⟨w, h6, e5, rfl, k4⟩ := same_told (w := .tup (ks.map fun n => nI (((den ps t).take P).count n))) (h := h5) (plL_map (f := fun n => nI (((den ps t).take P).count n)) (fun _ => trivial) ks) (by simp only [wsz]; rw [wszL_map fun _ => rfl]; omega)
        refine ⟨told (.tup (ks.map fun n => nI (((den ps t).take P).count n))), d, h4 ++ [.lst (ks.map fun n => nI (((den ps t).take P).count n))], h6, by simp [c1, e2, lst_of at_end], by simp [e4, e5], A3.kp (k2.trans (Kp.app.trans (k3.trans k4)))⟩
      · obtain ⟨w, h4, e4, rfl, k3⟩ := heard3_bad (h := h3) (w := bk ks b) g c0
        obtain ⟨w, h5, e5, rfl, k4⟩ := same_step (x := "place") (h := h4)
        refine ⟨step "place", d, h3, h5, ?_, by simp [e4, e5], A3.kp (k3.trans k4)⟩
        by_cases c1 : 0 ≤ p
        · have c2 : ¬ p ≤ ((den ps t).length : Int) := fun q => c0 ⟨c1, q⟩
          simp [c1, c2]
        · simp [c1]
    refine Sat.nx q2 (Sat.nx q3 ?_)
    clear q2 q3 A3
    -- the items after it
    obtain ⟨r, h6, q1, hr, T5, k5⟩ := dipI A4.tub (by omega) (K := 30) (by omega) (by omega)
    obtain ⟨w, h7, q2, hw, T6, k6⟩ := of_tup (xs := [.int 0, .int 1, .int 3, .int r, .int 400, .int 401, .int (-1), .int (10 ^ 19)]) T5 (by omega) (by simp) (by simp)
    obtain ⟨u, rfl⟩ : ∃ u : Int, w = .int u := by
      simp at hw
      rcases hw with q | q | q | q | q | q | q | q <;> exact ⟨_, q⟩
    have A5 := A4.to (k5.trans k6) T6
    refine Sat.nx (σ' := pSg ps t ks b tb l a (some (.int p)) (some due) d1 (some (.int (p + u))) f) (h' := h7) (by simp at q2; simp [q1, q2]) ?_
    clear k5 k6 T5 T6 q1 q2 A4 hw
    generalize p + u = hi
    refine Sat.nx (σ' := pSg ps t ks b tb l a (some (.int p)) (some (step "place")) d1 (some (.int hi)) f) (h' := h7) (by simp) ?_
    obtain ⟨due, d2, h8, h9, q2, q3, A6⟩ : ∃ due d2 h8 h9, sIf (tCh3 .le .le .le (eK (.int 0)) (eV 6) (eV 9) (eV 4)) (sAsg (gV 7) (eIf (tCmp .gt (eBin .sub (eV 9) (eV 6)) (eK (.int 400))) (eTup (esC (eK (.str "step")) (esC (eK (.str "long")) esN))) (eTup (esC (eK (.str "told")) (esC (eCall fTuple (esC (eLc (eIx (eCall ev__law_down (esC (eV 2) (esC (eV 3) (esC (eV 10) esN)))) (eK (.int 0))) (gV 10) (iRg (esC (eV 6) (esC (eV 9) esN))) tYes [10]) esN)) esN))))) sNil (pSg ps t ks b tb l a (some (.int p)) (some (step "place")) d1 (some (.int hi)) f) h7 = .ok (.nx (pSg ps t ks b tb l a (some (.int p)) (some due) d1 (some (.int hi)) d2)) h8 ∧ sIf (tNot (tV (eCall ev__law_same (esC (eCall ev__law_heard (esC (eK (.int 1)) (esC (eV 2) (esC (eV 6) (esC (eV 9) esN))))) (esC (eV 7) esN))))) (sRet (eK (.bl false))) sNil (pSg ps t ks b tb l a (some (.int p)) (some due) d1 (some (.int hi)) d2) h8 = .ok (.nx (pSg ps t ks b tb l a (some (.int p)) (some due) d1 (some (.int hi)) d2)) h9 ∧ Ask ps tb l (n1 + 6 + 1 + 1) h h9 := by
      by_cases c0 : 0 ≤ p ∧ p ≤ hi ∧ hi ≤ ((den ps t).length : Int)
      · by_cases c3 : 400 < hi - p
        · obtain ⟨w, h8, e4, rfl, k3⟩ := heard1_long (h := h7) g c0.1 c0.2.1 c0.2.2 c3
          obtain ⟨w, h9, e5, rfl, k4⟩ := same_step (x := "long") (h := h8)
          exact ⟨step "long", f, h7, h9, by simp [c0.1, c0.2.1, c0.2.2, c3], by simp [e4, e5], A5.kp (k3.trans k4)⟩
        · obtain ⟨P, rfl⟩ := toN c0.1
          obtain ⟨H, rfl⟩ := toN (p := hi) (by omega)
          have c1 : P ≤ H := by omega
          have c2 : H ≤ (den ps t).length := by omega
          have c4 : H - P ≤ 400 := by omega
          have en : ((H : Int) - (P : Int)).toNat = H - P := by omega
          obtain ⟨acc, h8, e2, rfl, k2⟩ := down_lc (h := h7) g (e0 := some (.ref tb)) (e1 := some (bk ks b)) (e4 := some (nI (den ps t).length)) (e5 := a) (e6 := some (nI P)) (e7 := some (step "place")) (e8 := d1) (e9 := some (nI H)) (e10 := f) A5.at_ c2 c4
          obtain ⟨w, h9, e4, rfl, k3⟩ := heard1_ok (h := h8 ++ [.lst ((((den ps t).drop P).take (H - P)).map W.str)]) g c1 c2 c4
          obtain ⟨w, h10, e5, rfl, k4⟩ := same_told (w := .tup ((((den ps t).drop P).take (H - P)).map W.str)) (h := h9) (pl_strs _) (by rw [sz_strs, List.length_take]; omega)
          exact ⟨told (.tup ((((den ps t).drop P).take (H - P)).map W.str)), f, h8 ++ [.lst ((((den ps t).drop P).take (H - P)).map W.str)], h10, by simp [c1, c2, c3, en, e2, lst_of at_end, -List.map_take, -List.map_drop], by simp [e4, e5, -List.map_take, -List.map_drop], A5.kp (k2.trans (Kp.app.trans (k3.trans k4)))⟩
      · obtain ⟨w, h8, e4, rfl, k3⟩ := heard1_bad (h := h7) g c0
        obtain ⟨w, h9, e5, rfl, k4⟩ := same_step (x := "place") (h := h8)
        refine ⟨step "place", f, h7, h9, ?_, by simp [e4, e5], A5.kp (k3.trans k4)⟩
        by_cases c1 : 0 ≤ p
        · by_cases c2 : p ≤ hi
          · have c3 : ¬ hi ≤ ((den ps t).length : Int) := fun q => c0 ⟨c1, c2, q⟩
            simp [c1, c2, c3]
          · simp [c1, c2]
        · simp [c1]
    refine Sat.nx q2 ?_
    exact Sat.of q3 ⟨⟨_, _, _, _, _, _, rfl⟩, ⟨A6.tub.mono (by omega), A6.kt, A6.at_, A6.ne⟩⟩
  · subst hσ
    simp
    simpa using A1
end
end VE
end
section
set_option Elab.async false
set_option linter.all false
set_option autoImplicit false
set_option maxRecDepth 100000
set_option maxHeartbeats 4000000
namespace VE
open PySem
section
variable {ps : List Pt} {t tb n l : Nat} {h : He}
@[simp] theorem add_tup (h : He) (xs ys : List W) : binW h .add (.tup xs) (.tup ys) = if xs.length + ys.length ≤ sizeLine ∧ xs.isEmpty = false then .ok (.tup (xs ++ ys)) h else .bad := rfl
def gTold (m : Str) (ps : List Pt) (t : Nat) : W := match gap1 m ps t with | none => .non | some o => ow o.2.2
theorem gTold_pl (m : Str) (ps : List Pt) (t : Nat) : Pl (gTold m ps t) := by
  unfold gTold
  cases gap1 m ps t with
  | none => trivial
  | some o => obtain ⟨a, b, c⟩ := o; cases c <;> trivial
theorem gTold_sz (m : Str) (ps : List Pt) (t : Nat) : wsz (gTold m ps t) = 1 := by
  unfold gTold
  cases gap1 m ps t with
  | none => rfl
  | some o => obtain ⟨a, b, c⟩ := o; cases c <;> rfl
theorem tell2 {a b : W} (pa : Pl a) (pb : Pl b) (sa : wsz a = 1) (sb : wsz b = 1) : Sat (ev__law_same [.tup [a, b], .tup [a, b]] h) fun v g => v = .bl true ∧ Kp h g := same_ok (by simp [Pl, PlL, pa, pb]) (by simp [wsz, wszL, sa, sb])
abbrev iSg (ps : List Pt) (t : Nat) (ks : List Str) (b : List W) (tb l : Nat) (c4 c5 c6 c7 : Option W) : Sg := [some (.ref tb), some (bk ks b), some (sw ps t), some (.ref l), c4, c5, c6, c7]
theorem items_turn (g : Gs ps t) {ks : List Str} {b : List W} {m : Str} {c : Nat} {i : Int} {d e : Option W} (hl : h[l]? = some (.lst (vls sz (words ps)))) (hc : h[c]? = some (.lst (vls (cn m) (words ps)))) :
    ∃ d' e' h', trn (gV 6) (sIf (tCmp .ge (eV 6) (eK (.int 0))) (sSeq (sAsg (gV 7) (eCall ev__law_spot (esC (eV 2) (esC (eV 3) (esC (eV 5) (esC (eV 6) esN)))))) (sIf (tNot (tV (eCall ev__law_same (esC (eCall ev__law_heard (esC (eK (.int 2)) (esC (eV 2) (esC (eV 4) (esC (eV 6) esN))))) (esC (eIf (tCmp .isN (eV 7) (eK .non)) (eTup (esC (eK (.str "step")) (esC (eK (.str "none")) esN))) (eTup (esC (eK (.str "told")) (esC (eV 7) esN)))) esN))))) (sRet (eK (.bl false))) sNil)) sNil) (.int i) (iSg ps t ks b tb l (some (.str m)) (some (.ref c)) d e) h = .ok (.nx (iSg ps t ks b tb l (some (.str m)) (some (.ref c)) d' e')) h' ∧ Kp h h' := by
  by_cases c0 : 0 ≤ i
  · obtain ⟨J, rfl⟩ := toN c0
    have sp := law_spot_ok (h := h) g hl hc (J := J)
    by_cases c1 : J < (den ps t).count m
    · rw [if_pos c1] at sp
      obtain ⟨w, h1, e1, rfl, k1⟩ := heard2_ok (h := h) g c1
      obtain ⟨w, h2, e2, rfl, k2⟩ := same_told (w := nI (posn m (den ps t) J)) (h := h1) trivial (by simp [wsz])
      exact ⟨some (nI J), some (nI (posn m (den ps t) J)), h2, by simp [sp, e1, e2], k1.trans k2⟩
    · rw [if_neg c1] at sp
      obtain ⟨w, h1, e1, rfl, k1⟩ := heard2_bad (h := h) g c1
      obtain ⟨w, h2, e2, rfl, k2⟩ := same_step (x := "none") (h := h1)
      exact ⟨some (nI J), some .non, h2, by simp [sp, e1, e2], k1.trans k2⟩
  · exact ⟨some (.int i), e, h, by simp [c0], Kp.refl⟩
theorem items_asked_ok (g : Gs ps t) {ks : List Str} (hk : ks.length ≤ 400) {b : List W} (A : Ask ps tb l n h h) (hn : n + 1000 ≤ BM) : Sat (ev__law_items_asked [.ref tb, bk ks b, sw ps t, .ref l] h) fun w h' => w = .bl true ∧ Ask ps tb l (n + 401) h h' := by
  have tk := top_at g
  have hks : 1 + ks.length ≤ sizeLine := Nat.le_of_lt (lt_line (by omega))
  simp only [ev__law_items_asked, fn]
  simp [hks]
  refine Sat.bind (Sat.bind (for_sat (fun i σ g' => (∃ a b1 c d, σ = iSg ps t ks b tb l a b1 c d) ∧ Ask ps tb l (n + i) h g') ((("" : Str) :: ks).map W.str) 0 _ _ ⟨⟨_, _, _, _, rfl⟩, by simpa using A⟩ (fun j x σ g' ej ⟨⟨a, b1, c, d, hσ⟩, A1⟩ => ?_) fun σ g' ⟨⟨a, b1, c, d, hσ⟩, A1⟩ => ?_))
  · obtain ⟨m, em, rfl⟩ := map_str_at ej
    have hj := (List.getElem?_eq_some_iff.mp em).1
    simp at hj
    subst hσ
    rw [Nat.zero_add] at A1 ⊢
    have hn1 : n + j + 1 ≤ BM := by omega
    rw [← Nat.add_assoc n]
    generalize n + j = n1 at A1 hn1
    clear A hn
    rw [trn_eq]
    refine Sat.bind (Sat.of (a := iSg ps t ks b tb l (some (.str m)) b1 c d) (h := g') (by simp) ?_)
    obtain ⟨w, h1, e1, rfl, k1⟩ := longest_ok (n := m) (h := g') g
    obtain ⟨w, h2, e2, rfl, k2⟩ := widest_ok (n := m) (h := h1) g
    obtain ⟨w, h3, e3, rfl, k3⟩ := law_stretch_ok (n := m) (h := h2) (l := l) g ((k1.trans k2) _ _ A1.at_)
    obtain ⟨w, h4, e4, rfl, k4⟩ := law_gap_ok (n := m) (h := h3) (l := l) g ((k1.trans (k2.trans k3)) _ _ A1.at_)
    obtain ⟨w, h5, e5, rfl, k5⟩ := tell2 (a := nI (str1 m ps t).2.2) (b := gTold m ps t) (h := h4) trivial (gTold_pl _ _ _) rfl (gTold_sz _ _ _)
    have e2 : ev_widest_gap [sw ps t, .str m] h1 = .ok (gTold m ps t) h2 := e2
    have e4 : ev__law_gap [sw ps t, .ref l, .str m] h3 = .ok (gTold m ps t) h4 := e4
    refine Sat.nx (σ' := iSg ps t ks b tb l (some (.str m)) b1 c d) (h' := h5) (by simp [e1, e2, e3, e4, e5]) ?_
    have A2 := A1.kp (k1.trans (k2.trans (k3.trans (k4.trans k5))))
    clear e1 e2 e3 e4 e5 k1 k2 k3 k4 k5 A1
    have ec := law_counts_ok (h := h5) g (n := m)
    refine Sat.nx (σ' := iSg ps t ks b tb l (some (.str m)) (some (.ref h5.length)) c d) (h' := h5 ++ [.lst (vls (cn m) (words ps))]) (by simp [ec]) ?_
    have A3 := A2.kp (Kp.app (g := [.lst (vls (cn m) (words ps))]))
    have hc : (h5 ++ [EO.lst (vls (cn m) (words ps))])[h5.length]? = some (.lst (vls (cn m) (words ps))) := at_end
    have ne : h5.length ≠ tb := by have := A2.tub.lt; omega
    generalize h5 ++ [EO.lst (vls (cn m) (words ps))] = h6 at A3 hc
    generalize h5.length = cc at hc ne
    obtain ⟨r, h7, q1, hr, T4, k4⟩ := dipI A3.tub (by omega) (K := 1000) (by omega) (by omega)
    have A4 := A3.to k4 T4
    have hc4 := k4.at_ _ _ ne hc
    have cl := g.cnt g.top m
    have q2 : ((den ps t).count m).log2 + r.log2 < 3000000 := by have := lg (n := (den ps t).count m) (by omega); have := lg (n := r) (by omega); omega
    have q3 : (1000 : Nat).log2 < 8000 := by decide
    rw [sFor_eq]
    refine Sat.bind (Sat.of (a := .fix [.int 0, .int (((den ps t).count m : Int) - 1), .int ((den ps t).count m : Int), .int (((den ps t).count m : Int) * (r : Int) / 1000)]) (h := h7) (by simp [lst_of hc, tk, lst_of hc4, q1, q2, q3]) ?_)
    refine for_sat (fun i σ g' => (∃ d e, σ = iSg ps t ks b tb l (some (.str m)) (some (.ref cc)) d e) ∧ Kp h7 g') _ 0 _ _ ⟨⟨_, _, rfl⟩, Kp.refl⟩ (fun j x σ g' ej ⟨⟨d, e, hσ⟩, k⟩ => ?_) fun σ g' ⟨⟨d, e, hσ⟩, k⟩ => ?_
    · subst hσ
      obtain ⟨i, rfl⟩ : ∃ i : Int, x = .int i := by
        have := List.mem_of_getElem? ej
        simp at this
        rcases this with q | q | q | q <;> exact ⟨_, q⟩
      obtain ⟨d', e', g2, e1, k2⟩ := items_turn (h := g') g (ks := ks) (b := b) (tb := tb) (i := i) (d := d) (e := e) (k _ _ A4.at_) (k _ _ hc4)
      exact Sat.of e1 ⟨⟨_, _, rfl⟩, k.trans k2⟩
    · subst hσ
      exact ⟨⟨_, _, _, _, rfl⟩, A4.kp k⟩
  · subst hσ
    simp at A1
    simp
    exact ⟨A1.tub.mono (by omega), A1.kt, A1.at_, A1.ne⟩
end
end VE
end
section
set_option Elab.async false
set_option linter.all false
set_option autoImplicit false
set_option maxRecDepth 100000
set_option maxHeartbeats 4000000
namespace VE
open PySem
theorem flats_strs : ∀ ks : List Str, flatsW (ks.map W.str) = some (ks.map L2.V.str)
  | [] => rfl
  | k :: r => by simp [flatsW, flatW, flats_strs r]
theorem inV_strs (a : Str) (ks : List Str) : L2.inV (.str a) (ks.map L2.V.str) = decide (a ∈ ks) := by
  unfold L2.inV
  rw [List.any_map]
  apply Bool.eq_iff_iff.mpr
  simp [L2.eqV]
theorem notin_strs (h : He) (a : Str) (ks : List Str) : cmpW h .notIn (.str a) (.tup (ks.map W.str)) = some (!decide (a ∈ ks)) := by
  show (inW h (.str a) (.tup (ks.map W.str))).map not = _
  have : inW h (.str a) (.tup (ks.map W.str)) = some (decide (a ∈ ks)) := by
    simp [inW, flatW, flats_strs, inV_strs]
  rw [this]; rfl
@[simp] theorem slW_tup (h : He) (xs : List W) (lo hi : Option Int) : slW h (.tup xs) lo hi = .ok (.tup (cutW xs lo hi)) h := rfl
theorem cut1 (a b c : W) : cutW [a, b, c] (some 1) none = [b, c] := rfl
@[simp] theorem eDg_eq (kvs : List (Str × Int)) (e : E) (d : Int) (σ : Sg) (h : He) : eDg kvs e d σ h = ((e σ h).bind fun x h => match x with
  | .str x => .ok (.int ((dgetW kvs x).getD d)) h
  | _ => .bad) := rfl
theorem dg1 : dgetW [("item", 2), ("then", 3), ("times", 3)] "item" = some 2 := by decide +kernel
theorem dg2 : dgetW [("item", 2), ("then", 3), ("times", 3)] "then" = some 3 := by decide +kernel
theorem dg3 : dgetW [("item", 2), ("then", 3), ("times", 3)] "times" = some 3 := by decide +kernel
def Nd (ps : List Pt) (ns : List Str) : Prop := ∀ (i : Nat) n, ps[i]? = some (.it n) → n ∈ ns
section
variable {ps : List Pt} {t tb n l : Nat} {h : He}
theorem is_script_ok (g : Gs ps t) {ns : List Str} (hn : Nd ps ns) : ev__law_is_script [.tup (ns.map W.str), sw ps t] h = .ok (.bl true) h := by
  have g1 := g.top
  have g2 := g.len
  apply Sat.eq
  have n0 : ps ≠ [] := by intro q; subst q; simp at g1
  have n1 : ((t : Int) < (ps.length : Int)) := by omega
  simp only [ev__law_is_script, fn]
  simp [isTy, n0]
  refine Sat.bind (Sat.bind (for_sat (fun i σ g' => (∃ a b c, σ = [some (.tup (ns.map W.str)), some (sw ps t), a, b, c]) ∧ g' = h) _ 0 _ _ ⟨⟨_, _, _, rfl⟩, rfl⟩ (fun j x σ g' ej ⟨⟨a, b, c, hσ⟩, hg⟩ => ?_) fun σ g' ⟨⟨a, b, c, hσ⟩, hg⟩ => ?_))
  · obtain ⟨hj, rfl⟩ := rgOf_at ej
    subst hσ hg
    obtain ⟨p, ep⟩ := get_of hj
    have o := g.wf.ok j p ep
    cases p with
    | it x =>
      have hx := hn j x ep
      refine for_cnt (σ' := [some (.tup (ns.map W.str)), some (sw ps t), some (.int (0 + (j : Int))), some (.tup [.str "item", .str x]), c]) (h' := g') (by simp [ep, Pt.w, isTy, dg1, notin_strs, hx]) ⟨⟨_, _, _, rfl⟩, rfl⟩
    | th u v =>
      obtain ⟨hu, hv⟩ := o
      have m1 : ¬ ((u : Int) < 0) := by omega
      have m2 : ¬ ((v : Int) < 0) := by omega
      have m3 : ¬ (j ≤ u) := by omega
      have m4 : ¬ (j ≤ v) := by omega
      refine for_step (σ' := [some (.tup (ns.map W.str)), some (sw ps t), some (.int (0 + (j : Int))), some (.tup [.str "then", nI u, nI v]), some (nI v)]) (h' := g') (by simp [ep, Pt.w, isTy, dg2, s2, s6, cut1, forFix, m1, m2, m3, m4]) ⟨⟨_, _, _, rfl⟩, rfl⟩
    | tm u v =>
      obtain ⟨hu, hv⟩ := o
      have m1 : ¬ ((u : Int) < 0) := by omega
      have m2 : ¬ ((v : Int) < 0) := by omega
      have m3 : ¬ (j ≤ u) := by omega
      have m4 : ¬ ((v : Int) < 1) := by omega
      have m5 : ¬ (v = 0) := by omega
      refine for_step (σ' := [some (.tup (ns.map W.str)), some (sw ps t), some (.int (0 + (j : Int))), some (.tup [.str "times", nI u, nI v]), some (nI v)]) (h' := g') (by simp [ep, Pt.w, isTy, dg3, s3, s4, cut1, forFix, m1, m2, m3, m4, m5]) ⟨⟨_, _, _, rfl⟩, rfl⟩
  · subst hσ hg
    simp [isTy, n1, g1]
@[simp] theorem fMin2 (h : He) (i j : Int) : fMin [.int i, .int j] h = .ok (.int (min i j)) h := by
  show Rs.ok (W.int (if j < i then j else i)) h = _
  have : (if j < i then j else i) = min i j := by split <;> omega
  rw [this]
theorem gTold_tn (g : Gs ps t) (m : Str) : gTold m (ps.map Pt.tn) t = gTold m ps t := by
  unfold gTold
  rw [tn_gap g (t + 1) t (by omega) g.top]
  cases gap1 m ps t <;> rfl
abbrev tSg (ps : List Pt) (t : Nat) (ks : List Str) (b : List W) (tb l : Nat) (q : List Pt) (l2 : Nat) (c8 c9 c10 : Option W) : Sg := [some (.ref tb), some (bk ks b), some (sw ps t), some (.ref l), some (nI (den ps t).length), some (sw q t), some (.ref l2), some (.bl true), c8, c9, c10]
theorem turned_asked_ok (g : Gs ps t) {ks : List Str} (hk : ks.length ≤ 400) (nd : Nd ps ((("" : Str) :: ks))) {b : List W} (A : Ask ps tb l n h h) (hn : n + 1000 ≤ BM) : Sat (ev__law_turned_asked [.ref tb, bk ks b, sw ps t, .ref l] h) fun w h' => w = .bl true ∧ Ask ps tb l (n + 72) h h' := by
  have tk := top_at g
  have gt := tn_gs g
  have tkt := top_at gt
  have hks : 1 + ks.length ≤ sizeLine := Nat.le_of_lt (lt_line (by omega))
  have pl := g.len
  have gtop := g.top
  have ndt : Nd (ps.map Pt.tn) ((("" : Str) :: ks)) := fun i m e => by
    rw [List.getElem?_map] at e
    cases q : ps[i]? with
    | none => rw [q] at e; cases e
    | some p =>
      rw [q] at e
      cases p with
      | it x => cases e; exact nd i _ q
      | th u v => cases e
      | tm u v => cases e
  have dl : den (ps.map Pt.tn) t = (den ps t).reverse := tn_den g.wf (t + 1) t (by omega) g.top
  obtain ⟨g1, e1, k1⟩ := turned_ok (ps := ps) (t := t) (h := h) g.len
  have e2 := is_script_ok (h := g1) gt ndt
  simp only [List.map_cons] at e2
  have e3 := law_sizes_ok (h := g1) gt
  have e4 := law_sizes_ok (h := g1 ++ [.lst (vls sz (words (ps.map Pt.tn)))]) gt
  have nt : (ps.map Pt.tn).length ≤ 400 := by simpa using pl
  have c1 : ((ps.length : Int) ≤ 400) := by omega
  have k2 : Kp h ((g1 ++ [EO.lst (vls sz (words (ps.map Pt.tn)))]) ++ [EO.lst (vls sz (words (ps.map Pt.tn)))]) := k1.trans (Kp.app.trans Kp.app)
  have hl2 : ((g1 ++ [EO.lst (vls sz (words (ps.map Pt.tn)))]) ++ [EO.lst (vls sz (words (ps.map Pt.tn)))])[(g1 ++ [EO.lst (vls sz (words (ps.map Pt.tn)))]).length]? = some (.lst (vls sz (words (ps.map Pt.tn)))) := at_end
  have ne2 : (g1 ++ [EO.lst (vls sz (words (ps.map Pt.tn)))]).length ≠ tb := by have := A.tub.lt; have := k1.len; simp; omega
  simp only [ev__law_turned_asked, fn]
  refine Sat.bind ?_
  refine Sat.nx (σ' := [some (.ref tb), some (bk ks b), some (sw ps t), some (.ref l), some (nI (den ps t).length), none, none, none, none, none, none]) (h' := h) (by simp [lst_of A.at_, tk]) ?_
  refine Sat.nx (σ' := [some (.ref tb), some (bk ks b), some (sw ps t), some (.ref l), some (nI (den ps t).length), some (sw (ps.map Pt.tn) t), none, none, none, none, none]) (h' := g1) (by simp [e1, -List.map_map]) ?_
  refine Sat.nx (σ' := [some (.ref tb), some (bk ks b), some (sw ps t), some (.ref l), some (nI (den ps t).length), some (sw (ps.map Pt.tn) t), none, none, none, none, none]) (h' := g1 ++ [.lst (vls sz (words (ps.map Pt.tn)))]) (by simp [e2, e3, lst_of at_end, tkt, dl, hks, -List.map_map]) ?_
  refine Sat.nx (σ' := [some (.ref tb), some (bk ks b), some (sw ps t), some (.ref l), some (nI (den ps t).length), some (sw (ps.map Pt.tn) t), some (.ref (g1 ++ [EO.lst (vls sz (words (ps.map Pt.tn)))]).length), none, none, none, none]) (h' := (g1 ++ [EO.lst (vls sz (words (ps.map Pt.tn)))]) ++ [EO.lst (vls sz (words (ps.map Pt.tn)))]) (by simp [e4, -List.map_map, -List.append_assoc]) ?_
  generalize (g1 ++ [EO.lst (vls sz (words (ps.map Pt.tn)))]).length = l2 at hl2 ne2
  generalize (g1 ++ [EO.lst (vls sz (words (ps.map Pt.tn)))]) ++ [EO.lst (vls sz (words (ps.map Pt.tn)))] = g2 at k2 hl2
  clear e1 e2 e3 e4 k1
  refine Sat.nx (σ' := tSg ps t ks b tb l (ps.map Pt.tn) l2 none none none) (h' := g2) (by simp [c1, -List.map_map]) ?_
  have A1 := A.kp k2
  generalize hq : ps.map Pt.tn = q at gt tkt ndt dl nt hl2
  refine Sat.seq (Sat.imp (Q := fun fl h' => ∃ c8, fl = .nx (tSg ps t ks b tb l q l2 c8 none none) ∧ Kp g2 h') ?_ ?_)
  · rw [sFor_eq]
    refine Sat.bind (Sat.of (a := .fix ((("" : Str) :: ks).map W.str)) (h := g2) (by simp [hks]) ?_)
    refine for_sat (fun i σ g' => (∃ c8, σ = tSg ps t ks b tb l q l2 c8 none none) ∧ Kp g2 g') _ 0 _ _ ⟨⟨_, rfl⟩, Kp.refl⟩ (fun j x σ g' ej ⟨⟨c8, hσ⟩, k⟩ => ?_) fun σ g' ⟨⟨c8, hσ⟩, k⟩ => ?_
    · obtain ⟨m, em, rfl⟩ := map_str_at ej
      subst hσ
      rw [trn_eq]
      refine Sat.bind (Sat.of (a := tSg ps t ks b tb l q l2 (some (.str m)) none none) (h := g') (by simp) ?_)
      have e1 := law_counts_ok (h := g') gt (n := m)
      have e2 := law_counts_ok (h := g' ++ [.lst (vls (cn m) (words q))]) g (n := m)
      have ce : (den q t).count m = (den ps t).count m := by rw [dl, List.count_reverse]
      have e3 : lstOf ((g' ++ [EO.lst (vls (cn m) (words q))]) ++ [EO.lst (vls (cn m) (words ps))]) (.ref (g'.length + 1)) = some (vls (cn m) (words ps)) := by
        rw [show g'.length + 1 = (g' ++ [EO.lst (vls (cn m) (words q))]).length by simp]
        exact lst_of at_end
      have k2 : Kp g' ((g' ++ [.lst (vls (cn m) (words q))]) ++ [.lst (vls (cn m) (words ps))]) := Kp.app.trans Kp.app
      refine Sat.nx (σ' := tSg ps t ks b tb l q l2 (some (.str m)) none none) (h' := (g' ++ [.lst (vls (cn m) (words q))]) ++ [.lst (vls (cn m) (words ps))]) (by simp [e1, e2, lst_of at_end, lst_app at_end, e3, tk, tkt, ce, -List.append_assoc]) ?_
      generalize (g' ++ [EO.lst (vls (cn m) (words q))]) ++ [EO.lst (vls (cn m) (words ps))] = h0 at k2
      clear e1 e2 e3
      have k3 : Kp g2 h0 := k.trans k2
      obtain ⟨w, h1, e1, rfl, k4⟩ := longest_ok (n := m) (h := h0) gt
      obtain ⟨w, h2, e2, rfl, k5⟩ := widest_ok (n := m) (h := h1) gt
      obtain ⟨w, h3, e3, rfl, k6⟩ := law_stretch_ok (n := m) (h := h2) (l := l) g ((k3.trans (k4.trans k5)) _ _ A1.at_)
      obtain ⟨w, h4, e4, rfl, k7⟩ := law_gap_ok (n := m) (h := h3) (l := l) g ((k3.trans (k4.trans (k5.trans k6))) _ _ A1.at_)
      obtain ⟨w, h5, e5, rfl, k8⟩ := tell2 (a := nI (str1 m ps t).2.2) (b := gTold m ps t) (h := h4) trivial (gTold_pl _ _ _) rfl (gTold_sz _ _ _)
      have s1 : (str1 m q t).2.2 = (str1 m ps t).2.2 := by rw [← hq, tn_str1 g (t + 1) t (by omega) gtop]
      have e2 : ev_widest_gap [sw q t, .str m] h1 = .ok (gTold m q t) h2 := e2
      rw [show gTold m q t = gTold m ps t by rw [← hq]; exact gTold_tn g m] at e2
      rw [s1] at e1
      have e4 : ev__law_gap [sw ps t, .ref l, .str m] h3 = .ok (gTold m ps t) h4 := e4
      refine Sat.of (a := Fl.nx (tSg ps t ks b tb l q l2 (some (.str m)) none none)) (h := h5) (by simp [e1, e2, e3, e4, e5]) ⟨⟨_, rfl⟩, k3.trans (k4.trans (k5.trans (k6.trans (k7.trans k8))))⟩
    · subst hσ
      exact ⟨c8, rfl, k⟩
  · intro fl g3 ⟨c8, efl, k⟩
    subst efl
    have A2 := A1.kp k
    have hl3 := k _ _ hl2
    refine ⟨_, rfl, ?_⟩
    refine Sat.seq (Sat.imp (Q := fun fl h' => ∃ c8 c9 c10, fl = .nx (tSg ps t ks b tb l q l2 c8 c9 c10) ∧ Ask ps tb l (n + 72) h h') ?_ ?_)
    · rw [sFor_eq]
      refine Sat.bind (Sat.of (a := .fix (rgOf 0 12)) (h := g3) (by simp) ?_)
      refine for_sat (fun i σ g' => (∃ c8 c9 c10, σ = tSg ps t ks b tb l q l2 c8 c9 c10) ∧ Ask ps tb l (n + i * 6) h g' ∧ g'[l2]? = some (.lst (vls sz (words q)))) _ 0 _ _ ⟨⟨_, _, _, rfl⟩, by simpa using A2, hl3⟩ (fun j x σ g' ej ⟨⟨c8, c9, c10, hσ⟩, A3, hl4⟩ => ?_) fun σ g' ⟨⟨c8, c9, c10, hσ⟩, A3, hl4⟩ => ?_
      · obtain ⟨hj, rfl⟩ := rgOf_at ej
        subst hσ
        rw [Nat.zero_add] at A3 ⊢
        have hn1 : n + j * 6 + 10 ≤ BM := by omega
        have fin : n + j * 6 + 6 = n + (j + 1) * 6 := by omega
        rw [← fin]
        clear fin
        generalize n + j * 6 = n1 at A3 hn1
        rw [trn_eq]
        refine Sat.bind (Sat.of (a := tSg ps t ks b tb l q l2 c8 (some (.int (0 + (j : Int)))) c10) (h := g') (by simp) ?_)
        generalize some (W.int (0 + (j : Int))) = c9
        obtain ⟨w, h1, q1, ⟨p, rfl⟩, T1, k1⟩ := place_ok g A3.tub (by omega) A3.at_ A3.ne
        have A4 := A3.to k1 T1
        have hl5 := k1.at_ _ _ ne2 hl4
        have pos := g.pos gtop
        obtain ⟨P, hP⟩ : ∃ P : Nat, min (max 0 p) (((den ps t).length : Int) - 1) = (P : Int) := toN (by omega)
        have hP1 : P < (den ps t).length := by omega
        refine Sat.nx (σ' := tSg ps t ks b tb l q l2 c8 c9 (some (nI P))) (h' := h1) (by simp [q1, hP]) ?_
        clear q1 k1 T1 A3 hl4 hP
        obtain ⟨m, ah, e2, e3, _⟩ := down_ok (h := h1) g A4.at_ hP1
        refine Sat.nx (σ' := tSg ps t ks b tb l q l2 (some (.str m)) c9 (some (nI P))) (h' := h1 ++ [.lst (ah.map pk)]) (by simp [e2]) ?_
        have A5 := A4.kp (Kp.app (g := [.lst (ah.map pk)]))
        have hl6 := Kp.app (g := [.lst (ah.map pk)]) _ _ hl5
        generalize h1 ++ [EO.lst (ah.map pk)] = h2 at A5 hl6
        have lt2 : (den ps t).length - 1 - P < (den q t).length := by rw [dl, List.length_reverse]; omega
        have er : (den q t)[(den ps t).length - 1 - P]? = some m := by
          rw [dl, List.getElem?_reverse (by omega), show (den ps t).length - 1 - ((den ps t).length - 1 - P) = P by omega, e3]
        have ci : ((den ps t).length : Int) - 1 - (P : Int) = (((den ps t).length - 1 - P : Nat) : Int) := by omega
        obtain ⟨m2, ah2, e4, e5, _⟩ := down_ok (h := h2) gt hl6 lt2
        obtain rfl : m2 = m := by rw [er] at e5; exact (Option.some.inj e5).symm
        refine Sat.nx (σ' := tSg ps t ks b tb l q l2 (some (.str m2)) c9 (some (nI P))) (h' := h2 ++ [.lst (ah2.map pk)]) (by simp [ci, e4]) ?_
        have A6 := A5.kp (Kp.app (g := [.lst (ah2.map pk)]))
        have hl7 := Kp.app (g := [.lst (ah2.map pk)]) _ _ hl6
        generalize h2 ++ [EO.lst (ah2.map pk)] = h3 at A6 hl7
        obtain ⟨w, h4, e6, rfl, k6⟩ := heard0_ok (h := h3) gt er
        obtain ⟨w, h5, e7, rfl, k7⟩ := same_told (w := .str m2) (h := h4) trivial (by simp [wsz])
        exact Sat.of (a := Fl.nx (tSg ps t ks b tb l q l2 (some (.str m2)) c9 (some (nI P)))) (h := h5) (by simp [ci, e6, e7]) ⟨⟨_, _, _, rfl⟩, A6.kp (k6.trans k7), (k6.trans k7) _ _ hl7⟩
      · subst hσ
        exact ⟨c8, c9, c10, rfl, by simpa using A3⟩
    · intro fl g4 ⟨c8, c9, c10, efl, A3⟩
      subst efl
      refine ⟨_, rfl, ?_⟩
      simp
      exact A3
end
end VE
end
section
set_option Elab.async false
set_option linter.all false
set_option autoImplicit false
set_option maxRecDepth 100000
set_option maxHeartbeats 4000000
namespace VE
open PySem
def nms : List Str := ["a", "talk", "song", "z9", "bell", "drum", "pause1", "q"]
theorem strs_map : ∀ ss : List Str, strsOf (ss.map W.str) = some ss
  | [] => rfl
  | x :: r => by simp [strsOf, strs_map r]
theorem strs_of : ∀ (ys : List W) (ns : List Str), (∀ y ∈ ys, y ∈ ns.map W.str) → ∃ ss : List Str, ys = ss.map W.str ∧ ∀ s ∈ ss, s ∈ ns
  | [], ns, h => ⟨[], rfl, by simp⟩
  | y :: r, ns, h => by
    obtain ⟨ss, e, hs⟩ := strs_of r ns fun z hz => h z (List.mem_cons_of_mem _ hz)
    obtain ⟨s, hs1, rfl⟩ := List.mem_map.mp (h y (List.mem_cons_self ..))
    exact ⟨s :: ss, by simp [e], fun z hz => by
      rcases List.mem_cons.mp hz with q | q
      · rw [q]; exact hs1
      · exact hs z q⟩
theorem insS_len (x : Str) : ∀ l : List Str, (insS x l).length = l.length + 1
  | [] => rfl
  | y :: r => by
    unfold insS
    split
    · simp [insS_len x r]
    · simp
theorem insS_mem (x z : Str) : ∀ l : List Str, z ∈ insS x l → z = x ∨ z ∈ l
  | [], h => by simp [insS] at h; exact .inl h
  | y :: r, h => by
    unfold insS at h
    split at h
    · rcases List.mem_cons.mp h with q | q
      · exact .inr (by simp [q])
      · rcases insS_mem x z r q with q | q
        · exact .inl q
        · exact .inr (List.mem_cons_of_mem _ q)
    · rcases List.mem_cons.mp h with q | q
      · exact .inl q
      · exact .inr q
theorem sortS_len : ∀ l : List Str, (sortS l).length = l.length
  | [] => rfl
  | x :: r => by unfold sortS; rw [insS_len, sortS_len r]; rfl
theorem sortS_mem (z : Str) : ∀ l : List Str, z ∈ sortS l → z ∈ l
  | [], h => h
  | x :: r, h => by
    unfold sortS at h
    rcases insS_mem x z _ h with q | q
    · simp [q]
    · exact List.mem_cons_of_mem _ (sortS_mem z r q)
@[simp] theorem fSorted_eq (w : W) (h : He) : fSorted [w] h = (match (lstOf h w).bind strsOf with
    | some ss => if ss.length < 64 then .ok (.ref h.length) (h ++ [.lst ((sortS ss).map .str)]) else .bad
    | none => .bad) := rfl
section
variable {tb n : Nat} {h : He}
theorem pick_lc {ks : List Str} {f : Str → W} {e : E} {σ : Sg} {hb : Nat} {s : Nat} (hk : ks.length ≤ 100) (T : Tb tb n h) (hn : n + 100 ≤ BM)
    (tn : ∀ (k : Str) (acc : List W) (g : He), acc.length ≤ 100 → Tb tb (n + 100) g → n + 100 ≤ BM → lcT σ e (gV s) (tCmp .lt (eCall ev__law_dip (esC (eV 0) (esC (eK (.int 5)) esN))) (eV 3)) [s] (.str k) acc g = (ev__law_dip [.ref tb, .int 5] g).bind fun w g => .ok (if (match w with | .int r => decide (r < (hb : Int)) | _ => false) then acc ++ [f k] else acc) g) :
    Sat (lcFix (lcT σ e (gV s) (tCmp .lt (eCall ev__law_dip (esC (eV 0) (esC (eK (.int 5)) esN))) (eV 3)) [s]) (ks.map W.str) [] h) fun acc g => acc.length ≤ ks.length ∧ Tb tb (n + ks.length) g ∧ KT tb h g := by
  refine lcfix_sat (fun i acc g => acc.length ≤ i ∧ Tb tb (n + i) g ∧ KT tb h g) _ 0 [] _ ⟨by simp, by simpa using T, KT.refl⟩ (fun j x acc g ej ⟨ha, Tg, kg⟩ => ?_) fun acc g ⟨ha, Tg, kg⟩ => ?_
  · obtain ⟨m, em, rfl⟩ := map_str_at ej
    have hj := (List.getElem?_eq_some_iff.mp em).1
    rw [Nat.zero_add] at ha Tg
    obtain ⟨r, g1, e1, hr, T1, k1⟩ := dipI Tg (by omega) (K := 5) (by omega) (by omega)
    rw [tn m acc g (by omega) (Tg.mono (by omega)) hn, e1]
    refine Sat.of rfl ⟨?_, by rw [Nat.zero_add]; exact T1, kg.trans k1⟩
    rw [Nat.zero_add]
    dsimp only
    split
    · simp; omega
    · omega
  · rw [Nat.zero_add, List.length_map] at ha Tg
    exact ⟨ha, Tg, kg⟩
theorem book_ok (T : Tb tb n h) (hn : n + 2000 ≤ BM) : Sat (ev__law_book [.ref tb, .int 5] h) fun w g => ∃ ks b, w = bk ks b ∧ 0 < ks.length ∧ ks.length ≤ 5 ∧ (∀ k ∈ ks, k ∈ nms) ∧ Tb tb (n + 100) g ∧ KT tb h g := by
  have htb := T.lt
  obtain ⟨r, h1, e1, hr, T1, k1⟩ := dipI T (by omega) (K := 5) (by omega) (by omega)
  obtain ⟨w, h2, e2, rr, ys, rfl, hne, hy, hlen, hmem, T2, k2⟩ := some_ok (xs := nms.map W.str) (k := 1 + r) T1 (by omega) (by show 1 + r ≤ 8; omega) (by show 8 ≤ 1000; omega)
  obtain ⟨ss, rfl, hss⟩ := strs_of ys nms hmem
  have hn2 := (k1.trans k2).len
  have len2 : ss.length = 1 + r := by simpa using hlen
  have c64 : ss.length < 64 := by omega
  obtain ⟨d, h3, e3, hd, T3, k3⟩ := dipI (T2.kp (Kp.app (g := [.lst ((sortS ss).map W.str)]))) (by omega) (K := 4) (by omega) (by omega)
  have e2 : ev__law_some [.ref tb, .tup [.str "a", .str "talk", .str "song", .str "z9", .str "bell", .str "drum", .str "pause1", .str "q"], .int (1 + (r : Int))] h1 = .ok (.ref rr) h2 := by rw [← e2]; simp [nms, nI]
  have lk : (sortS ss).length ≤ 5 := by rw [sortS_len]; omega
  have lk0 : 0 < (sortS ss).length := by rw [sortS_len]; omega
  have mk : ∀ k ∈ sortS ss, k ∈ nms := fun k q => hss k (sortS_mem k ss q)
  simp only [ev__law_book, fn]
  refine Sat.bind ?_
  refine Sat.nx (σ' := [some (.ref tb), some (.int 5), some (.tup ((sortS ss).map W.str)), none, none, none, none, none, none, none]) (h' := h2 ++ [.lst ((sortS ss).map W.str)]) (by simp [e1, e2, lst_of hy, strs_map, c64, lst_of at_end]) ?_
  refine Sat.nx (σ' := [some (.ref tb), some (.int 5), some (.tup ((sortS ss).map W.str)), some (nI (1 + d)), none, none, none, none, none, none]) (h' := h3) (by simp [e3, nI]) ?_
  have k03 : KT tb h h3 := k1.trans (k2.trans (Kp.app.kt.trans k3))
  generalize sortS ss = ks at lk lk0 mk
  clear e1 e2 e3 hy hmem hss k1 k2 k3 T1 T2
  have T3 : Tb tb (n + 10) h3 := T3.mono (by omega)
  obtain ⟨a4, h4, e4, l4, T4, k4⟩ := pick_lc (ks := ks) (f := W.str) (e := eV 5) (σ := [some (.ref tb), some (.int 5), some (.tup (ks.map W.str)), some (nI (1 + d)), none, none, none, none, none, none]) (hb := 1 + d) (s := 5) (by omega) T3 (by omega) (fun k acc g ha Tg hb => by
    obtain ⟨r, g1, e1, hr, T1, k1⟩ := dipI Tg (by omega) (K := 5) (by omega) (by omega)
    have hs : acc.length < sizeLine := lt_line (by omega)
    by_cases c : (r : Int) < 1 + (d : Int) <;> simp [e1, hs, nI, c])
  refine Sat.nx (σ' := [some (.ref tb), some (.int 5), some (.tup (ks.map W.str)), some (nI (1 + d)), some (.tup a4), none, none, none, none, none]) (h' := h4 ++ [.lst a4]) (by simp only [sAsg_eq, eCall_eq, esC_eq, esN_eq, eLc_eq, iE_eq, eV_eq, List.getElem?_cons_zero, List.getElem?_cons_succ, Rs.bind_ok, itOf_tup, Rs.lift_some, e4]; simp [fTuple, lst_of at_end]) ?_
  have T4 := T4.kp (Kp.app (g := [.lst a4]))
  have k4 := k4.trans (Kp.app (g := [.lst a4])).kt
  generalize h4 ++ [EO.lst a4] = h4 at T4 k4
  clear e4
  obtain ⟨a5, h5, e5, l5, T5, k5⟩ := pick_lc (ks := ks) (f := W.str) (e := eV 5) (σ := [some (.ref tb), some (.int 5), some (.tup (ks.map W.str)), some (nI (1 + d)), some (.tup a4), none, none, none, none, none]) (hb := 1 + d) (s := 5) (by omega) T4 (by omega) (fun k acc g ha Tg hb => by
    obtain ⟨r, g1, e1, hr, T1, k1⟩ := dipI Tg (by omega) (K := 5) (by omega) (by omega)
    have hs : acc.length < sizeLine := lt_line (by omega)
    by_cases c : (r : Int) < 1 + (d : Int) <;> simp [e1, hs, nI, c])
  refine Sat.nx (σ' := [some (.ref tb), some (.int 5), some (.tup (ks.map W.str)), some (nI (1 + d)), some (.tup a4), none, some (.tup a5), none, none, none]) (h' := h5 ++ [.lst a5]) (by simp only [sAsg_eq, eCall_eq, esC_eq, esN_eq, eLc_eq, iE_eq, eV_eq, List.getElem?_cons_zero, List.getElem?_cons_succ, Rs.bind_ok, itOf_tup, Rs.lift_some, e5]; simp [fTuple, lst_of at_end]) ?_
  have T5 := T5.kp (Kp.app (g := [.lst a5]))
  have k5 := k5.trans (Kp.app (g := [.lst a5])).kt
  generalize h5 ++ [EO.lst a5] = h5 at T5 k5
  clear e5
  refine Sat.nx (σ' := [some (.ref tb), some (.int 5), some (.tup (ks.map W.str)), some (nI (1 + d)), some (.tup a4), none, some (.tup a5), some (.ref h5.length), none, none]) (h' := h5 ++ [.lst []]) (by simp) ?_
  have n5 : h5.length ≠ tb := by have := T5.lt; omega
  refine Sat.seq (Sat.imp (Q := fun fl h' => ∃ r c8 xs, fl = .nx [some (.ref tb), some (.int 5), some (.tup (ks.map W.str)), some (nI (1 + d)), some (.tup a4), none, some (.tup a5), some (.ref r), c8, none] ∧ h'[r]? = some (.lst xs) ∧ Tb tb (n + 100) h' ∧ KT tb h5 h') ?_ ?_)
  · rw [sFor_eq]
    refine Sat.bind (Sat.of (a := .fix (ks.map W.str)) (h := h5 ++ [.lst []]) (by simp) ?_)
    refine for_sat (fun i σ g => ∃ r c8 xs, σ = [some (.ref tb), some (.int 5), some (.tup (ks.map W.str)), some (nI (1 + d)), some (.tup a4), none, some (.tup a5), some (.ref r), c8, none] ∧ r ≠ tb ∧ g[r]? = some (.lst xs) ∧ xs.length ≤ i * ks.length ∧ Tb tb (n + 30 + i * ks.length) g ∧ KT tb h5 g) _ 0 _ _ ⟨_, _, [], rfl, n5, at_end, by simp, (T5.kp Kp.app).mono (by omega), Kp.app.kt⟩ (fun j x σ g ej ⟨r, c8, xs, hσ, hr, hx, lx, Tg, kg⟩ => ?_) fun σ g ⟨r, c8, xs, hσ, hr, hx, lx, Tg, kg⟩ => ?_
    · obtain ⟨m, em, rfl⟩ := map_str_at ej
      have hj := (List.getElem?_eq_some_iff.mp em).1
      subst hσ
      rw [Nat.zero_add] at lx Tg ⊢
      have b1 : j * ks.length ≤ 5 * 5 := Nat.mul_le_mul (by omega) lk
      have b2 : (j + 1) * ks.length = j * ks.length + ks.length := Nat.succ_mul _ _
      rw [b2]
      generalize j * ks.length = jj at b1 lx Tg
      obtain ⟨a6, h6, e6, l6, T6, k6⟩ := pick_lc (ks := ks) (f := fun k => .tup [.str m, .str k]) (e := eTup (esC (eV 8) (esC (eV 9) esN))) (σ := [some (.ref tb), some (.int 5), some (.tup (ks.map W.str)), some (nI (1 + d)), some (.tup a4), none, some (.tup a5), some (.ref r), some (.str m), none]) (hb := 1 + d) (s := 9) (by omega) Tg (by omega) (fun k acc g ha Tg hb => by
        obtain ⟨r, g1, e1, hr, T1, k1⟩ := dipI Tg (by omega) (K := 5) (by omega) (by omega)
        have hs : acc.length < sizeLine := lt_line (by omega)
        by_cases c : (r : Int) < 1 + (d : Int) <;> simp [e1, hs, nI, c])
      have hx6 := k6.at_ _ _ hr hx
      have hx7 := Kp.app (g := [.lst a6]) _ _ hx6
      have hs : xs.length + a6.length ≤ sizeLine := Nat.le_of_lt (lt_line (by omega))
      have n6 : (h6 ++ [EO.lst a6]).length ≠ tb := by have := T6.lt; simp; omega
      refine for_step (σ' := [some (.ref tb), some (.int 5), some (.tup (ks.map W.str)), some (nI (1 + d)), some (.tup a4), none, some (.tup a5), some (.ref (h6 ++ [EO.lst a6]).length), some (.str m), none]) (h' := (h6 ++ [.lst a6]) ++ [.lst (xs ++ a6)]) (by
        simp only [trn_eq, gV_eq, List.length_cons, List.length_nil, List.set_cons_succ, List.set_cons_zero]
        rw [if_pos (by omega)]
        simp only [Rs.bind_ok, sAsg_eq, eBin_eq, eV_eq, List.getElem?_cons_zero, List.getElem?_cons_succ, eLc_eq, iE_eq, itOf_tup, Rs.lift_some, e6]
        simp [hx7, at_end, hs, -List.append_assoc]) ⟨_, _, xs ++ a6, rfl, n6, at_end, by simp; omega, ((T6.kp Kp.app).kp Kp.app).mono (by omega), kg.trans (k6.trans (Kp.app.trans Kp.app).kt)⟩
    · subst hσ
      have b1 : ks.length * ks.length ≤ 5 * 5 := Nat.mul_le_mul lk lk
      rw [Nat.zero_add, List.length_map] at Tg
      exact ⟨r, c8, xs, rfl, hx, Tg.mono (by omega), kg⟩
  · intro fl h6 ⟨r, c8, xs, efl, hx, T6, k6⟩
    subst efl
    refine ⟨_, rfl, ?_⟩
    exact Sat.of (a := Fl.rt (bk ks [.tup a4, .tup a5, .tup xs])) (h := h6) (by simp [fTuple, lst_of hx]) (Sat.of rfl ⟨ks, [.tup a4, .tup a5, .tup xs], rfl, lk0, lk, mk, T6, k03.trans (k4.trans (k5.trans k6))⟩)
end
end VE
end
section
set_option Elab.async false
set_option linter.all false
set_option autoImplicit false
set_option maxRecDepth 100000
set_option maxHeartbeats 4000000
namespace VE
open PySem
structure Sc (ps : List Pt) (ns : List Str) : Prop where
  wf : Wf ps
  size : ∀ i, i < ps.length → (den ps i).length ≤ 10 ^ 20
  num : ∀ (i a k : Nat), ps[i]? = some (Pt.tm a k) → k ≤ 10 ^ 18
  nd : Nd ps ns
theorem Sc.gs {ps : List Pt} {ns : List Str} {t : Nat} (s : Sc ps ns) (h : t < ps.length) (l : ps.length ≤ 400) : Gs ps t := ⟨s.wf, h, l, s.size, s.num⟩
theorem snoc_at {α : Type} {ps : List α} {p x : α} {i : Nat} (e : (ps ++ [p])[i]? = some x) : ps[i]? = some x ∨ (i = ps.length ∧ x = p) := by
  rcases Nat.lt_or_ge i ps.length with c | c
  · rw [List.getElem?_append_left c] at e; exact .inl e
  · rw [List.getElem?_append_right c] at e
    rcases Nat.eq_zero_or_pos (i - ps.length) with q | q
    · rw [q] at e; exact .inr ⟨by omega, (Option.some.inj e).symm⟩
    · rw [List.getElem?_eq_none (by simp; omega)] at e; cases e
theorem den_snoc {ps : List Pt} {p : Pt} {i : Nat} (h : i < ps.length) : den (ps ++ [p]) i = den ps i := by
  unfold den
  rw [words_snoc, List.getD, List.getD, List.getElem?_append_left (by rw [words_len]; exact h)]
theorem den_last {ps : List Pt} {p : Pt} : den (ps ++ [p]) ps.length = wordOf (words ps) p := by
  unfold den
  rw [words_snoc, List.getD, List.getElem?_append_right (by rw [words_len]; exact Nat.le_refl _), words_len, Nat.sub_self]
  rfl
theorem Sc.snoc {ps : List Pt} {ns : List Str} {p : Pt} (s : Sc ps ns) (o : p.ok ps.length) (z : (wordOf (words ps) p).length ≤ 10 ^ 20) (m : ∀ a k, p = .tm a k → k ≤ 10 ^ 18) (d : ∀ x, p = .it x → x ∈ ns) : Sc (ps ++ [p]) ns where
  wf := ⟨fun i q e => by
    rcases snoc_at e with c | ⟨rfl, rfl⟩
    · exact s.wf.ok i q c
    · exact o⟩
  size := fun i hi => by
    rcases Nat.lt_or_ge i ps.length with c | c
    · rw [den_snoc c]; exact s.size i c
    · have : i = ps.length := by simp at hi; omega
      subst this
      rw [den_last]; exact z
  num := fun i a k e => by
    rcases snoc_at e with c | ⟨rfl, c⟩
    · exact s.num i a k c
    · exact m a k c.symm
  nd := fun i x e => by
    rcases snoc_at e with c | ⟨rfl, c⟩
    · exact s.nd i x c
    · exact d x c.symm
theorem Sc.nil (ns : List Str) : Sc [] ns := ⟨⟨fun i p e => by simp at e⟩, fun i h => by simp at h, fun i a k e => by simp at e, fun i x e => by simp at e⟩
theorem sc_items {ns : List Str} : ∀ (ss : List Str), (∀ s ∈ ss, s ∈ ns) → ∀ ps, Sc ps ns → Sc (ps ++ ss.map Pt.it) ns
  | [], h, ps, s => by simpa using s
  | x :: r, h, ps, s => by
    have := sc_items r (fun z hz => h z (List.mem_cons_of_mem _ hz)) (ps ++ [.it x]) (s.snoc (p := .it x) trivial (by show 1 ≤ _; decide) (fun a k q => by cases q) fun y q => by cases q; exact h x (List.mem_cons_self ..))
    simpa using this
theorem words_items : ∀ (ss : List Str) (acc : List (List Str)), wordsG acc (ss.map Pt.it) = acc ++ ss.map fun x => [x]
  | [], acc => by simp [wordsG]
  | x :: r, acc => by
    show wordsG (acc ++ [[x]]) (r.map Pt.it) = _
    rw [words_items r]; simp
section
variable {tb n : Nat} {h : He}
theorem wordOf_th {ps : List Pt} {a b : Nat} (ha : a < ps.length) (hb : b < ps.length) : (wordOf (words ps) (.th a b)).length = (den ps a).length + (den ps b).length := by
  show (((words ps).getD a []) ++ ((words ps).getD b [])).length = _
  rw [List.length_append]; rfl
theorem wordOf_tm {ps : List Pt} {a k : Nat} : (wordOf (words ps) (.tm a k)).length = k * (den ps a).length := by
  show ((List.replicate k ((words ps).getD a [])).flatten).length = _
  rw [rep_len]; rfl
abbrev cSg (tb : Nat) (ns : List Str) (P : Int) (m s : Nat) (c5 c7 c8 c9 c10 c11 c12 : Option W) : Sg := [some (.ref tb), some (.tup (ns.map W.str)), some (.int P), some (.int 100000000000000000000), some (.ref m), c5, some (.ref s), c7, c8, c9, c10, c11, c12]
theorem script_ok {ns : List Str} {P : Int} (T : Tb tb n h) (hn : n + 10000 ≤ BM) (l0 : 0 < ns.length) (l1 : ns.length ≤ 6) (p0 : 0 < P) (p1 : P ≤ 150) : Sat (ev__law_script [.ref tb, .tup (ns.map W.str), .int P, .int 100000000000000000000] h) fun w g => ∃ ps t, w = sw ps t ∧ Sc ps ns ∧ t < ps.length ∧ ps.length ≤ 160 ∧ Tb tb (n + 3000) g ∧ KT tb h g := by
  have htb := T.lt
  obtain ⟨r, h1, e1, hr, T1, k1⟩ := dipI T (by omega) (K := (ns.length : Int)) (by omega) (by omega)
  obtain ⟨w, h2, e2, rr, ys, rfl, hne, hy, hlen, hmem, T2, k2⟩ := some_ok (xs := ns.map W.str) (k := 1 + r) T1 (by omega) (by simp; omega) (by simp; omega)
  obtain ⟨ss, rfl, hss⟩ := strs_of ys ns hmem
  have len2 : ss.length = 1 + r := by simpa using hlen
  have e2 : ev__law_some [.ref tb, .tup (ns.map W.str), .int (1 + (r : Int))] h1 = .ok (.ref rr) h2 := by rw [← e2]; simp [nI]
  have k02 := k1.trans k2
  have sle : ss.length ≤ 6 := by omega
  clear hmem hlen
  -- the items
  have q1 : Sat (lcLive (lcT [some (.ref tb), some (.tup (ns.map W.str)), some (.int P), some (.int 100000000000000000000), none, none, none, none, none, none, none, none, none] (eTup (esC (eK (.str "item")) (esC (eV 5) esN))) (gV 5) tYes [5]) (.ref rr) FU 0 [] h2) fun acc g => acc = (ss.map Pt.it).map Pt.w ∧ g = h2 := by
    refine lclive_sat (ss.map W.str) (fun i acc g => acc = ((ss.take i).map Pt.it).map Pt.w ∧ g = h2) (fun i acc g ⟨_, q⟩ => by rw [q]; exact lst_of hy) (fun i x acc g ei ⟨q1, q2⟩ => ?_) (fun acc g ⟨q1, q2⟩ => ⟨by simpa using q1, q2⟩) FU 0 [] h2 (FU_big (by simp; omega)) (by simp) ⟨by simp, rfl⟩
    obtain ⟨m, em, rfl⟩ := map_str_at ei
    subst q1 q2
    have hj := (List.getElem?_eq_some_iff.mp em).1
    have hs : min i ss.length < sizeLine := lt_line (by omega)
    rw [take_snoc em, List.map_append, List.map_append]
    refine Sat.of (h := g) (by simp [-List.map_take, -List.map_map, hs]; rfl) ⟨rfl, rfl⟩
  have q1 := Sat.eq (a := (ss.map Pt.it).map Pt.w) (h := h2) q1
  have n2 : h2.length ≠ tb := by have := T2.lt; omega
  have n3 : (h2 ++ [EO.lst ((ss.map Pt.it).map Pt.w)]).length ≠ tb := by have := T2.lt; simp; omega
  have q2 : Sat (lcLive (lcT [some (.ref tb), some (.tup (ns.map W.str)), some (.int P), some (.int 100000000000000000000), some (.ref h2.length), none, none, none, none, none, none, none, none] (eK (.int 1)) (gV 7) tYes [7]) (.ref h2.length) FU 0 [] (h2 ++ [.lst ((ss.map Pt.it).map Pt.w)])) fun acc g => acc = vls sz (ss.map fun x => [x]) ∧ g = h2 ++ [.lst ((ss.map Pt.it).map Pt.w)] := by
    refine lclive_sat ((ss.map Pt.it).map Pt.w) (fun i acc g => acc = vls sz ((ss.take i).map fun x => [x]) ∧ g = h2 ++ [.lst ((ss.map Pt.it).map Pt.w)]) (fun i acc g ⟨_, q⟩ => by rw [q]; exact lst_of at_end) (fun i x acc g ei ⟨q1, q2⟩ => ?_) (fun acc g ⟨q1, q2⟩ => ⟨by simpa using q1, q2⟩) FU 0 [] _ (FU_big (by simp; omega)) (by simp) ⟨by simp, rfl⟩
    have hj := (List.getElem?_eq_some_iff.mp ei).1
    simp at hj
    obtain ⟨m, em⟩ := get_of hj
    subst q1 q2
    have hs : min i ss.length < sizeLine := lt_line (by omega)
    rw [take_snoc em, List.map_append, List.map_cons, List.map_nil, vls_snoc]
    refine Sat.of (h := h2 ++ [.lst ((ss.map Pt.it).map Pt.w)]) (by simp [-List.map_take, -List.map_map, hs]) ⟨rfl, rfl⟩
  have q2 := Sat.eq (a := vls sz (ss.map fun x => [x])) (h := h2 ++ [.lst ((ss.map Pt.it).map Pt.w)]) q2
  have S0 : Sc (ss.map Pt.it) ns := by have := sc_items ss hss [] (Sc.nil ns); simpa using this
  have w0 : words (ss.map Pt.it) = ss.map fun x => [x] := by unfold words; rw [words_items]; simp
  rw [← w0] at q2
  simp only [ev__law_script, fn]
  refine Sat.bind ?_
  refine Sat.nx (σ' := cSg tb ns P h2.length 0 none none none none none none none |>.set 6 none) (h' := h2 ++ [.lst ((ss.map Pt.it).map Pt.w)]) (by
    simp only [List.length_cons, List.length_nil, List.map_cons, List.map_nil, List.cons_append, List.nil_append, Nat.reduceAdd, Nat.reduceSub, List.replicate, sAsg_eq, eLc_eq, iE_eq, eCall_eq, esC_eq, esN_eq, eV_eq, eBin_eq, eK_eq, List.getElem?_cons_zero, List.getElem?_cons_succ, Rs.bind_ok, fLen, seqOf_tup, Option.map_some, Rs.lift_some, List.length_map, e1, add_int, e2, itOf_ref, lst_of hy, q1]
    simp) ?_
  refine Sat.nx (σ' := cSg tb ns P h2.length (h2 ++ [EO.lst ((ss.map Pt.it).map Pt.w)]).length none none none none none none none) (h' := (h2 ++ [.lst ((ss.map Pt.it).map Pt.w)]) ++ [.lst (vls sz (words (ss.map Pt.it)))]) (by
    simp only [cSg, List.set_cons_succ, List.set_cons_zero, sAsg_eq, eLc_eq, iE_eq, eV_eq, List.getElem?_cons_zero, List.getElem?_cons_succ, Rs.bind_ok, Option.map_some, Rs.lift_some, itOf_ref, lst_of at_end, q2]
    simp [-List.append_assoc, -List.map_map]) ?_
  clear q1 q2 e1 e2
  have l3 : 0 < (ss.map Pt.it).length := by simp; omega
  have l4 : (ss.map Pt.it).length ≤ 6 := by simp; omega
  generalize ss.map Pt.it = ps0 at n3 S0 l3 l4
  have m1 : ((h2 ++ [EO.lst (ps0.map Pt.w)]) ++ [EO.lst (vls sz (words ps0))])[h2.length]? = some (.lst (ps0.map Pt.w)) := Kp.app _ _ at_end
  have m2 : ((h2 ++ [EO.lst (ps0.map Pt.w)]) ++ [EO.lst (vls sz (words ps0))])[(h2 ++ [EO.lst (ps0.map Pt.w)]).length]? = some (.lst (vls sz (words ps0))) := at_end
  have T3 := T2.kp ((Kp.app (g := [EO.lst (ps0.map Pt.w)])).trans (Kp.app (g := [EO.lst (vls sz (words ps0))])))
  have k3 := k02.trans ((Kp.app (g := [EO.lst (ps0.map Pt.w)])).trans (Kp.app (g := [EO.lst (vls sz (words ps0))]))).kt
  have n4 : h2.length ≠ (h2 ++ [EO.lst (ps0.map Pt.w)]).length := by simp
  have n5 : h.length ≤ h2.length := k02.len
  have n6 : h.length ≤ (h2 ++ [EO.lst (ps0.map Pt.w)]).length := by simp; omega
  generalize (h2 ++ [EO.lst (ps0.map Pt.w)]) ++ [EO.lst (vls sz (words ps0))] = h3 at m1 m2 T3 k3
  generalize (h2 ++ [EO.lst (ps0.map Pt.w)]).length = s at n3 m2 n4 n6
  generalize h2.length = m at n2 m1 n4 n5
  clear hy T2 k02 T1 k1 k2
  obtain ⟨r5, h5, e5, hr5, T5, k5⟩ := dipI T3 (by omega) (K := P) (by omega) (by omega)
  refine Sat.seq (Sat.imp (Q := fun fl h' => ∃ ps c5 c7 c8 c9 c10 c11 c12, fl = .nx (cSg tb ns P m s c5 c7 c8 c9 c10 c11 c12) ∧ h'[m]? = some (.lst (ps.map Pt.w)) ∧ Sc ps ns ∧ 0 < ps.length ∧ ps.length ≤ 156 ∧ Tb tb (n + 2900) h' ∧ KT tb h h') ?_ ?_)
  · rw [sFor_eq]
    refine Sat.bind (Sat.of (a := .fix (rgOf 0 r5)) (h := h5) (by simp [e5]) ?_)
    refine for_sat (fun i σ g => ∃ ps c5 c7 c8 c9 c10 c11 c12, σ = cSg tb ns P m s c5 c7 c8 c9 c10 c11 c12 ∧ g[m]? = some (.lst (ps.map Pt.w)) ∧ g[s]? = some (.lst (vls sz (words ps))) ∧ Sc ps ns ∧ 0 < ps.length ∧ ps.length ≤ 6 + i ∧ Tb tb (n + 20 + i * 10) g ∧ KT tb h g) _ 0 _ _ ⟨ps0, _, _, _, _, _, _, _, rfl, k5.at_ _ _ n2 m1, k5.at_ _ _ n3 m2, S0, l3, by omega, T5.mono (by omega), k3.trans k5⟩ (fun j x σ g ej ⟨ps, c5, c7, c8, c9, c10, c11, c12, hσ, am, as, S, z0, z1, Tg, kg⟩ => ?_) fun σ g ⟨ps, c5, c7, c8, c9, c10, c11, c12, hσ, am, as, S, z0, z1, Tg, kg⟩ => ?_
    · obtain ⟨hj, rfl⟩ := rgOf_at ej
      subst hσ
      rw [Nat.zero_add] at z1 Tg ⊢
      have hn1 : n + 20 + j * 10 + 10 ≤ BM := by omega
      have z2 : ps.length ≤ 155 := by omega
      have fin : n + 20 + j * 10 + 10 = n + 20 + (j + 1) * 10 := by omega
      rw [← fin]
      clear fin
      have z3 : 6 + j + 1 = 6 + (j + 1) := by omega
      rw [← z3]
      clear z3
      generalize n + 20 + j * 10 = n1 at Tg hn1
      generalize 6 + j = zz at z1
      rw [trn_eq]
      refine Sat.bind (Sat.of (a := cSg tb ns P m s c5 c7 (some (.int (0 + (j : Int)))) c9 c10 c11 c12) (h := g) (by simp) ?_)
      generalize some (W.int (0 + (j : Int))) = c8
      obtain ⟨x1, g1, e1, hx1, T1, k1⟩ := dipI Tg (by omega) (K := (ps.length : Int)) (by omega) (by omega)
      obtain ⟨x2, g2, e2, hx2, T2, k2⟩ := dipI T1 (by omega) (K := (ps.length : Int)) (by omega) (by omega)
      have am1 := k1.at_ _ _ n2 am
      have am2 := k2.at_ _ _ n2 am1
      have as2 := k2.at_ _ _ n3 (k1.at_ _ _ n3 as)
      obtain ⟨one, h1⟩ : ∃ one : Nat, max (x1 : Int) (x2 : Int) = (one : Int) := toN (by omega)
      have ho : one < ps.length := by omega
      refine Sat.nx (σ' := cSg tb ns P m s c5 c7 c8 (some (nI one)) c10 c11 c12) (h' := g2) (by simp [lst_of am, e1, lst_of am1, e2, h1]) ?_
      have kg2 := kg.trans (k1.trans k2)
      clear e1 e2 h1 k1 k2 T1 am1
      obtain ⟨sx, hsx⟩ := get_of (l := words ps) (i := one) (by rw [words_len]; exact ho)
      have dx : den ps one = sx := by unfold den; simp [List.getD, hsx]
      have lx : sx.length ≤ 10 ^ 20 := by rw [← dx]; exact S.size one ho
      obtain ⟨x3, g3, e3, hx3, T3, k3⟩ := dipI T2 (by omega) (K := 2) (by omega) (by omega)
      have am3 := k3.at_ _ _ n2 am2
      have as3 := k3.at_ _ _ n3 as2
      refine Sat.seq (Sat.imp (Q := fun fl h' => ∃ p c10 c12, fl = .nx (cSg tb ns P m s c5 (some p.w) c8 (some (nI one)) c10 (some (nI (wordOf (words ps) p).length)) c12) ∧ p.ok ps.length ∧ (∀ a k, p = .tm a k → k ≤ 10 ^ 18) ∧ (∀ x, p ≠ .it x) ∧ h'[m]? = some (.lst (ps.map Pt.w)) ∧ h'[s]? = some (.lst (vls sz (words ps))) ∧ Tb tb (n1 + 8) h' ∧ KT tb h h') ?_ ?_)
      · by_cases c : x3 = 0
        · subst c
          obtain ⟨x4, g4, e4, hx4, T4, k4⟩ := dipI T3 (by omega) (K := (ps.length : Int)) (by omega) (by omega)
          obtain ⟨sy, hsy⟩ := get_of (l := words ps) (i := x4) (by rw [words_len]; omega)
          have dy : den ps x4 = sy := by unfold den; simp [List.getD, hsy]
          have am4 := k4.at_ _ _ n2 am3
          have as4 := k4.at_ _ _ n3 as3
          have wl := wordOf_th (ps := ps) (a := one) (b := x4) ho (by omega)
          rw [dx, dy] at wl
          refine Sat.of (a := Fl.nx (cSg tb ns P m s c5 (some (Pt.th one x4).w) c8 (some (nI one)) (some (nI x4)) (some (nI (wordOf (words ps) (.th one x4)).length)) c12)) (h := g4) (by simp at e3; rw [wl]; simp [e3, lst_of am3, e4, lst_of as4, hsx, hsy, Pt.w]) ⟨.th one x4, _, _, rfl, ⟨ho, by omega⟩, (fun a k q => by cases q), (fun x q => by cases q), am4, as4, T4.mono (by omega), kg2.trans (k3.trans k4)⟩
        · have c1 : ¬ ((x3 : Int) = 0) := by omega
          obtain ⟨x4, g4, e4, hx4, T4, k4⟩ := dipI T3 (by omega) (K := 12) (by omega) (by omega)
          obtain ⟨x5, g5, e5, hx5, T5, k5⟩ := dipI T4 (by omega) (K := 7) (by omega) (by omega)
          obtain ⟨x6, g6, e6, hx6, T6, k6⟩ := dipI T5 (by omega) (K := 3) (by omega) (by omega)
          obtain ⟨x7, g7, e7, hx7, T7, k7⟩ := dipI T6 (by omega) (K := 6) (by omega) (by omega)
          obtain ⟨pw, hpw, hp1, hp2⟩ : ∃ pw : Nat, ([1, 10, 100, 1000, 10000, 100000, 1000000] : List Nat)[x5]? = some pw ∧ 1 ≤ pw ∧ pw ≤ 1000000 := by
            rcases (show x5 = 0 ∨ x5 = 1 ∨ x5 = 2 ∨ x5 = 3 ∨ x5 = 4 ∨ x5 = 5 ∨ x5 = 6 by omega) with rfl | rfl | rfl | rfl | rfl | rfl | rfl <;> exact ⟨_, rfl, by decide, by decide⟩
          have hpw2 : ([W.int 1, .int 10, .int 100, .int 1000, .int 10000, .int 100000, .int 1000000] : List W)[x5]? = some (nI pw) := by
            have : ([W.int 1, .int 10, .int 100, .int 1000, .int 10000, .int 100000, .int 1000000] : List W) = ([1, 10, 100, 1000, 10000, 100000, 1000000] : List Nat).map nI := by simp [nI]
            rw [this, List.getElem?_map, hpw]; rfl
          obtain ⟨mn, hmn, hm1, hm2⟩ : ∃ mn : Nat, ([W.int 1, .int 2, .int 3, .int (1 + (x4 : Int)), nI pw, .int (1000000000000000000 - (x6 : Int))] : List W)[x7]? = some (nI mn) ∧ 1 ≤ mn ∧ mn ≤ 10 ^ 18 := by
            have c6 : (1000000000000000000 - (x6 : Int)) = ((10 ^ 18 - x6 : Nat) : Int) := by omega
            have c4 : (1 + (x4 : Int)) = ((1 + x4 : Nat) : Int) := by omega
            rcases (show x7 = 0 ∨ x7 = 1 ∨ x7 = 2 ∨ x7 = 3 ∨ x7 = 4 ∨ x7 = 5 by omega) with rfl | rfl | rfl | rfl | rfl | rfl
            · exact ⟨1, rfl, by omega, by omega⟩
            · exact ⟨2, rfl, by omega, by omega⟩
            · exact ⟨3, rfl, by omega, by omega⟩
            · exact ⟨1 + x4, by rw [c4]; rfl, by omega, by omega⟩
            · exact ⟨pw, rfl, by omega, by omega⟩
            · exact ⟨10 ^ 18 - x6, by rw [c6]; rfl, by omega, by omega⟩
          have as7 := k7.at_ _ _ n3 (k6.at_ _ _ n3 (k5.at_ _ _ n3 (k4.at_ _ _ n3 as3)))
          have am7 := k7.at_ _ _ n2 (k6.at_ _ _ n2 (k5.at_ _ _ n2 (k4.at_ _ _ n2 am3)))
          have wl := wordOf_tm (ps := ps) (a := one) (k := mn)
          rw [dx] at wl
          have lg1 : sx.length.log2 + mn.log2 < 3000000 := by have := lg (n := sx.length) (by omega); have := lg (n := mn) (by omega); omega
          refine Sat.of (a := Fl.nx (cSg tb ns P m s c5 (some (Pt.tm one mn).w) c8 (some (nI one)) c10 (some (nI (wordOf (words ps) (.tm one mn)).length)) (some (nI mn)))) (h := g7) (by rw [wl]; simp [e3, c, e4, e5, hpw2, e6, e7, hmn, lst_of as7, hsx, lg1, Pt.w, Int.mul_comm]) ⟨.tm one mn, _, _, rfl, ⟨ho, hm1⟩, (fun a k q => by cases q; exact hm2), (fun x q => by cases q), am7, as7, T7.mono (by omega), kg2.trans (k3.trans (k4.trans (k5.trans (k6.trans k7))))⟩
      · intro fl g4 ⟨p, c10, c12, efl, ok, hnum, hit, am4, as4, T4, k4⟩
        subst efl
        refine ⟨_, rfl, ?_⟩
        by_cases c : (wordOf (words ps) p).length ≤ 10 ^ 20
        · have c1 : ((wordOf (words ps) p).length : Int) ≤ 100000000000000000000 := by omega
          have hs : ps.length < sizeLine := lt_line (by omega)
          have hs2 : (words ps).length < sizeLine := by rw [words_len]; exact hs
          have lm := (List.getElem?_eq_some_iff.mp am4).1
          have ls := (List.getElem?_eq_some_iff.mp as4).1
          have as5 : (g4.set m (.lst ((ps ++ [p]).map Pt.w)))[s]? = some (.lst (vls sz (words ps))) := by rw [List.getElem?_set_ne n4]; exact as4
          have mp : ps.map Pt.w ++ [p.w] = (ps ++ [p]).map Pt.w := by simp
          have vp : vls sz (words ps) ++ [sz (wordOf (words ps) p)] = vls sz (words (ps ++ [p])) := by rw [words_snoc, vls_snoc]
          refine for_step (σ' := cSg tb ns P m s c5 (some p.w) c8 (some (nI one)) c10 (some (nI (wordOf (words ps) p).length)) c12) (h' := (g4.set m (.lst ((ps ++ [p]).map Pt.w))).set s (.lst (vls sz (words (ps ++ [p]))))) (turn := fun _ => sIf _ _ _) (x := .non) (by simp [-List.map_append, c1, lst_of am4, am4, hs, mp, lst_of as5, as5, hs2, vp]) ⟨ps ++ [p], _, _, _, _, _, _, _, rfl, ?_, ?_, S.snoc ok c hnum (fun x q => absurd q (hit x)), by simp, by simp; omega, ?_, ?_⟩
          · rw [List.getElem?_set_ne (Ne.symm n4)]; simp [lm]
          · rw [List.getElem?_set_self (by simp; exact ls)]
          · obtain ⟨d', m', c', e', r'⟩ := T4.mono (show n1 + 8 ≤ n1 + 10 by omega)
            exact ⟨d', m', c', by rw [List.getElem?_set_ne n3, List.getElem?_set_ne n2]; exact e', r'⟩
          · exact ⟨fun i o hi e => by
              have := (List.getElem?_eq_some_iff.mp e).1
              rw [List.getElem?_set_ne (by omega), List.getElem?_set_ne (by omega)]; exact k4.at_ i o hi e, by simpa using k4.len⟩
        · have c1 : ¬ ((wordOf (words ps) p).length : Int) ≤ 100000000000000000000 := by omega
          refine for_step (σ' := cSg tb ns P m s c5 (some p.w) c8 (some (nI one)) c10 (some (nI (wordOf (words ps) p).length)) c12) (h' := g4) (turn := fun _ => sIf _ _ _) (x := .non) (by simp [c1]) ⟨ps, _, _, _, _, _, _, _, rfl, am4, as4, S, z0, by omega, T4.mono (by omega), k4⟩
    · subst hσ
      simp at z1 Tg
      exact ⟨ps, _, _, _, _, _, _, _, rfl, am, S, z0, by omega, Tg.mono (by omega), kg⟩
  · intro fl h6 ⟨ps, c5, c7, c8, c9, c10, c11, c12, efl, am, S, z0, z1, Tg, kg⟩
    subst efl
    refine ⟨_, rfl, ?_⟩
    obtain ⟨a1, h7, e7, hr7, T7, k7⟩ := dipI Tg (by omega) (K := (ps.length : Int)) (by omega) (by omega)
    obtain ⟨a2, h8, e8, hr8, T8, k8⟩ := dipI T7 (by omega) (K := 3) (by omega) (by omega)
    have am7 := k7.at_ _ _ n2 am
    have am8 := k8.at_ _ _ n2 am7
    have done : ∀ t : Nat, t < ps.length → Sat (sRet (eTup (esC (eCall fTuple (esC (eV 4) esN)) (esC (eIx (eTup (esC (eBin .sub (eCall fLen (esC (eV 4) esN)) (eK (.int 1))) (esC (eBin .sub (eCall fLen (esC (eV 4) esN)) (eK (.int 1))) (esC (eCall ev__law_dip (esC (eV 0) (esC (eCall fLen (esC (eV 4) esN)) esN))) esN)))) (eCall ev__law_dip (esC (eV 0) (esC (eK (.int 3)) esN)))) esN))) (cSg tb ns P m s c5 c7 c8 c9 c10 c11 c12) h6) (fun fl g => fl = Fl.rt (sw ps t) ∧ g = h8) → Sat (sRet (eTup (esC (eCall fTuple (esC (eV 4) esN)) (esC (eIx (eTup (esC (eBin .sub (eCall fLen (esC (eV 4) esN)) (eK (.int 1))) (esC (eBin .sub (eCall fLen (esC (eV 4) esN)) (eK (.int 1))) (esC (eCall ev__law_dip (esC (eV 0) (esC (eCall fLen (esC (eV 4) esN)) esN))) esN)))) (eCall ev__law_dip (esC (eV 0) (esC (eK (.int 3)) esN)))) esN))) (cSg tb ns P m s c5 c7 c8 c9 c10 c11 c12) h6) (fun f h' => Sat (match f with | .rt w => .ok w h' | .nx _ => .ok .non h' | _ => .bad : Rs W) fun w g => ∃ ps t, w = sw ps t ∧ Sc ps ns ∧ t < ps.length ∧ ps.length ≤ 160 ∧ Tb tb (n + 3000) g ∧ KT tb h g) := fun t ht q => q.imp fun fl g ⟨q1, q2⟩ => by
      subst q1 q2
      exact Sat.of rfl ⟨ps, t, rfl, S, ht, by omega, T8.mono (by omega), kg.trans (k7.trans k8)⟩
    rcases (show a2 = 0 ∨ a2 = 1 ∨ a2 = 2 by omega) with rfl | rfl | rfl
    · have ci : ((ps.length : Int) - 1) = ((ps.length - 1 : Nat) : Int) := by omega
      refine done (ps.length - 1) (by omega) (Sat.of (by simp at e8; simp [fTuple, lst_of am, e7, lst_of am7, e8, ci]) ⟨rfl, rfl⟩)
    · have ci : ((ps.length : Int) - 1) = ((ps.length - 1 : Nat) : Int) := by omega
      refine done (ps.length - 1) (by omega) (Sat.of (by simp at e8; simp [fTuple, lst_of am, e7, lst_of am7, e8, ci]) ⟨rfl, rfl⟩)
    · refine done a1 (by omega) (Sat.of (by simp at e8; simp [fTuple, lst_of am, e7, lst_of am7, e8]) ⟨rfl, rfl⟩)
end
end VE
end
section
set_option Elab.async false
set_option linter.all false
set_option autoImplicit false
set_option maxRecDepth 100000
set_option maxHeartbeats 4000000
namespace VE
open PySem
def lone (k : Str) (f a m : Nat) : List Pt := [.it k, .it "", .tm 1 f, .th 0 2, .tm 3 a, .th 2 0, .th 4 5, .tm 6 m]
theorem lone_sc {k : Str} {f a m : Nat} {ns : List Str} (hk : k ∈ ns) (h0 : ("" : Str) ∈ ns) (f0 : 1 ≤ f) (f1 : f ≤ 200000000) (a0 : 1 ≤ a) (a1 : a ≤ 3) (m0 : 1 ≤ m) (m1 : m ≤ 10000000) : Sc (lone k f a m) ns := by
  have w : Wf (lone k f a m) := ⟨fun i p e => by
    rcases i with _ | _ | _ | _ | _ | _ | _ | _ | i <;> simp [lone] at e <;> subst e <;> simp [Pt.ok] <;> assumption⟩
  have d0 : (den (lone k f a m) 0).length = 1 := by rw [den_it (n := k) rfl]; rfl
  have d1 : (den (lone k f a m) 1).length = 1 := by rw [den_it (n := "") rfl]; rfl
  have d2 : (den (lone k f a m) 2).length = f := by rw [den_tm (a := 1) (k := f) w rfl, rep_len, d1]; omega
  have d3 : (den (lone k f a m) 3).length = 1 + f := by rw [den_th (a := 0) (b := 2) w rfl, List.length_append, d0, d2]
  have d4 : (den (lone k f a m) 4).length = a * (1 + f) := by rw [den_tm (a := 3) (k := a) w rfl, rep_len, d3]
  have d5 : (den (lone k f a m) 5).length = f + 1 := by rw [den_th (a := 2) (b := 0) w rfl, List.length_append, d0, d2]
  have d6 : (den (lone k f a m) 6).length = a * (1 + f) + (f + 1) := by rw [den_th (a := 4) (b := 5) w rfl, List.length_append, d4, d5]
  have d7 : (den (lone k f a m) 7).length = m * (a * (1 + f) + (f + 1)) := by rw [den_tm (a := 6) (k := m) w rfl, rep_len, d6]
  have b1 : a * (1 + f) ≤ 3 * (1 + f) := Nat.mul_le_mul_right _ a1
  have b2 : m * (a * (1 + f) + (f + 1)) ≤ 10000000 * (a * (1 + f) + (f + 1)) := Nat.mul_le_mul_right _ m1
  refine ⟨w, fun i hi => ?_, fun i x y e => ?_, fun i x e => ?_⟩
  · have : i < 8 := hi
    rcases (show i = 0 ∨ i = 1 ∨ i = 2 ∨ i = 3 ∨ i = 4 ∨ i = 5 ∨ i = 6 ∨ i = 7 by omega) with rfl | rfl | rfl | rfl | rfl | rfl | rfl | rfl <;> omega
  · rcases i with _ | _ | _ | _ | _ | _ | _ | _ | i <;> simp [lone] at e <;> omega
  · rcases i with _ | _ | _ | _ | _ | _ | _ | _ | i <;> simp [lone] at e <;> subst e <;> assumption
section
variable {tb n : Nat} {h : He}
theorem lone_ok {ks : List Str} {b : List W} (T : Tb tb n h) (hn : n + 100 ≤ BM) (l0 : 0 < ks.length) (l1 : ks.length ≤ 400) : Sat (ev__law_lone [.ref tb, bk ks b] h) fun w g => ∃ ps t, w = sw ps t ∧ Sc ps ((("" : Str) :: ks)) ∧ t < ps.length ∧ ps.length ≤ 160 ∧ Tb tb (n + 100) g ∧ KT tb h g := by
  obtain ⟨w, h1, e1, hw, T1, k1⟩ := of_tup (xs := ks.map W.str) T (by omega) (by simpa using l0) (by simp; omega)
  obtain ⟨k, hk, rfl⟩ := List.mem_map.mp hw
  obtain ⟨x2, h2, e2, hx2, T2, k2⟩ := dipI T1 (by omega) (K := 9) (by omega) (by omega)
  obtain ⟨x3, h3, e3, hx3, T3, k3⟩ := dipI T2 (by omega) (K := 3) (by omega) (by omega)
  obtain ⟨x4, h4, e4, hx4, T4, k4⟩ := dipI T3 (by omega) (K := 8) (by omega) (by omega)
  obtain ⟨x5, h5, e5, hx5, T5, k5⟩ := dipI T4 (by omega) (K := 3) (by omega) (by omega)
  obtain ⟨x6, h6, e6, hx6, T6, k6⟩ := dipI T5 (by omega) (K := 3) (by omega) (by omega)
  have tens : ∀ (l : List Nat) (x : Nat), x < l.length → (∀ y ∈ l, 1 ≤ y ∧ y ≤ 100000000) → ∃ y : Nat, (l.map nI)[x]? = some (nI y) ∧ 1 ≤ y ∧ y ≤ 100000000 ∧ y ∈ l := fun l x hx hy => by
    obtain ⟨y, e⟩ := get_of hx
    have m := List.mem_of_getElem? e
    exact ⟨y, by rw [List.getElem?_map, e]; rfl, (hy y m).1, (hy y m).2, m⟩
  obtain ⟨f, ef, f0, f1, _⟩ := tens [1, 10, 100, 1000, 10000, 100000, 1000000, 10000000, 100000000] x2 (by simp; omega) (by decide)
  obtain ⟨m, em, m0, m1, mm⟩ := tens [1, 10, 100, 1000, 10000, 100000, 1000000, 10000000] x4 (by simp; omega) (by decide)
  have m2 : m ≤ 10000000 := by
    have : ∀ y ∈ [1, 10, 100, 1000, 10000, 100000, 1000000, 10000000], y ≤ 10000000 := by decide
    exact this m mm
  simp [nI] at ef em
  have ct : (7 - (x6 : Int)) = ((7 - x6 : Nat) : Int) := by omega
  have hs := lone_sc (k := k) (f := f + x3) (a := 1 + x5) (m := m) (ns := (("" : Str) :: ks)) (List.mem_cons_of_mem _ hk) (List.mem_cons_self ..) (by omega) (by omega) (by omega) (by omega) m0 m2
  refine Sat.of (a := sw (lone k (f + x3) (1 + x5) m) (7 - x6)) (h := h6) (by simp [ev__law_lone, fn, e1, e2, e3, e4, e5, e6, ef, em, lone, Pt.w, ct, nI]) ⟨_, _, rfl, hs, by show 7 - x6 < 8; omega, by show 8 ≤ 160; omega, T6.mono (by omega), k1.trans (k2.trans (k3.trans (k4.trans (k5.trans k6))))⟩
end
end VE
end
section
set_option Elab.async false
set_option linter.all false
set_option autoImplicit false
set_option maxRecDepth 100000
set_option maxHeartbeats 4000000
namespace VE
open PySem
def lng : List Pt := [.it "song", .it "pause", .th 1 0, .tm 2 1000000, .it "talk", .th 4 0, .th 5 3]
def tlk : List Pt := [.it "talk", .tm 0 3]
theorem lng_wf : Wf lng := ⟨fun i p e => by
  rcases i with _ | _ | _ | _ | _ | _ | _ | i <;> simp [lng] at e <;> subst e <;> simp [Pt.ok]⟩
theorem tlk_wf : Wf tlk := ⟨fun i p e => by
  rcases i with _ | _ | i <;> simp [tlk] at e <;> subst e <;> simp [Pt.ok]⟩
theorem lng0 : den lng 0 = (["song"] : List Str) := den_it (n := ("song" : Str)) rfl
theorem lng1 : den lng 1 = (["pause"] : List Str) := den_it (n := ("pause" : Str)) rfl
theorem lng2 : den lng 2 = (["pause", "song"] : List Str) := by rw [den_th (a := 1) (b := 0) lng_wf rfl, lng0, lng1]; rfl
theorem lng3 : den lng 3 = (List.replicate 1000000 (["pause", "song"] : List Str)).flatten := by rw [den_tm (a := 2) (k := 1000000) lng_wf rfl, lng2]
theorem lng4 : den lng 4 = (["talk"] : List Str) := den_it (n := ("talk" : Str)) rfl
theorem lng5 : den lng 5 = (["talk", "song"] : List Str) := by rw [den_th (a := 4) (b := 0) lng_wf rfl, lng0, lng4]; rfl
theorem lng6 : den lng 6 = (["talk", "song"] : List Str) ++ (List.replicate 1000000 (["pause", "song"] : List Str)).flatten := by rw [den_th (a := 5) (b := 3) lng_wf rfl, lng5, lng3]
theorem len3 : (den lng 3).length = 2000000 := by rw [lng3, rep_len]; rfl
theorem len6 : (den lng 6).length = 2000002 := by rw [lng6, List.length_append, rep_len]; rfl
theorem lng_gs : Gs lng 6 := ⟨lng_wf, by decide, by decide, fun i hi => by
    have : i < 7 := hi
    rcases (show i = 0 ∨ i = 1 ∨ i = 2 ∨ i = 3 ∨ i = 4 ∨ i = 5 ∨ i = 6 by omega) with rfl | rfl | rfl | rfl | rfl | rfl | rfl
    · rw [lng0]; decide
    · rw [lng1]; decide
    · rw [lng2]; decide
    · rw [len3]; decide
    · rw [lng4]; decide
    · rw [lng5]; decide
    · rw [len6]; decide, fun i a k e => by
  rcases i with _ | _ | _ | _ | _ | _ | _ | i <;> simp [lng] at e <;> omega⟩
theorem tlk0 : den tlk 0 = (["talk"] : List Str) := den_it (n := ("talk" : Str)) rfl
theorem tlk1 : (den tlk 1).length = 3 := by rw [den_tm (a := 0) (k := 3) tlk_wf rfl, rep_len, tlk0]; rfl
theorem tlk_gs : Gs tlk 1 := ⟨tlk_wf, by decide, by decide, fun i hi => by
    have : i < 2 := hi
    rcases (show i = 0 ∨ i = 1 by omega) with rfl | rfl
    · rw [tlk0]; decide
    · rw [tlk1]; decide, fun i a k e => by
  rcases i with _ | _ | i <;> simp [tlk] at e <;> omega⟩
section
variable {h : He}
theorem lenF_lng : lenF lng 0 = 1 ∧ lenF lng 1 = 1 ∧ lenF lng 2 = 2 ∧ lenF lng 3 = 2000000 ∧ lenF lng 4 = 1 ∧ lenF lng 5 = 2 :=
  ⟨by show (den lng 0).length = 1; rw [lng0]; rfl, by show (den lng 1).length = 1; rw [lng1]; rfl, by show (den lng 2).length = 2; rw [lng2]; rfl, len3, by show (den lng 4).length = 1; rw [lng4]; rfl, by show (den lng 5).length = 2; rw [lng5]; rfl⟩
theorem str_song : (str1 ("song" : Str) lng 6).2.2 = 1 := by
  obtain ⟨l0, l1, l2, l3, l4, l5⟩ := lenF_lng
  have n1 : ¬ (("pause" : Str) = ("song" : Str)) := by decide
  have n2 : ¬ (("talk" : Str) = ("song" : Str)) := by decide
  have s0 : str1 ("song" : Str) lng 0 = (1, 1, 1) := by rw [str1_it (x := ("song" : Str)) rfl, if_pos rfl]
  have s1 : str1 ("song" : Str) lng 1 = (0, 0, 0) := by rw [str1_it (x := ("pause" : Str)) rfl, if_neg n1]
  have s4 : str1 ("song" : Str) lng 4 = (0, 0, 0) := by rw [str1_it (x := ("talk" : Str)) rfl, if_neg n2]
  have s2 : str1 ("song" : Str) lng 2 = (0, 1, 1) := by rw [str1_th (a := 1) (b := 0) lng_wf rfl, s0, s1, l0, l1]; rfl
  have s5 : str1 ("song" : Str) lng 5 = (0, 1, 1) := by rw [str1_th (a := 4) (b := 0) lng_wf rfl, s0, s4, l0, l4]; rfl
  have s3 : str1 ("song" : Str) lng 3 = (0, 1, 1) := by rw [str1_tm (a := 2) (k := 1000000) lng_wf rfl, s2, l2]; simp
  rw [str1_th (a := 5) (b := 3) lng_wf rfl, s5, s3, l5, l3]; simp
theorem str_none : (str1 ("" : Str) lng 6).2.2 = 0 := by
  obtain ⟨l0, l1, l2, l3, l4, l5⟩ := lenF_lng
  have n1 : ¬ (("pause" : Str) = ("" : Str)) := by decide
  have n2 : ¬ (("talk" : Str) = ("" : Str)) := by decide
  have n0 : ¬ (("song" : Str) = ("" : Str)) := by decide
  have s0 : str1 ("" : Str) lng 0 = (0, 0, 0) := by rw [str1_it (x := ("song" : Str)) rfl, if_neg n0]
  have s1 : str1 ("" : Str) lng 1 = (0, 0, 0) := by rw [str1_it (x := ("pause" : Str)) rfl, if_neg n1]
  have s4 : str1 ("" : Str) lng 4 = (0, 0, 0) := by rw [str1_it (x := ("talk" : Str)) rfl, if_neg n2]
  have s2 : str1 ("" : Str) lng 2 = (0, 0, 0) := by rw [str1_th (a := 1) (b := 0) lng_wf rfl, s0, s1, l0, l1]; rfl
  have s5 : str1 ("" : Str) lng 5 = (0, 0, 0) := by rw [str1_th (a := 4) (b := 0) lng_wf rfl, s0, s4, l0, l4]; rfl
  have s3 : str1 ("" : Str) lng 3 = (0, 0, 0) := by rw [str1_tm (a := 2) (k := 1000000) lng_wf rfl, s2, l2]; simp
  rw [str1_th (a := 5) (b := 3) lng_wf rfl, s5, s3, l5, l3]; simp
theorem str_tlk : (str1 ("talk" : Str) tlk 1).2.2 = 3 := by
  have l0 : lenF tlk 0 = 1 := by show (den tlk 0).length = 1; rw [tlk0]; rfl
  have s0 : str1 ("talk" : Str) tlk 0 = (1, 1, 1) := by rw [str1_it (x := ("talk" : Str)) rfl, if_pos rfl]
  rw [str1_tm (a := 0) (k := 3) tlk_wf rfl, s0, l0]; rfl
theorem gap_pause : gTold ("pause" : Str) lng 6 = .int 1 := by
  obtain ⟨l0, l1, l2, l3, l4, l5⟩ := lenF_lng
  have n1 : ¬ (("song" : Str) = ("pause" : Str)) := by decide
  have n2 : ¬ (("talk" : Str) = ("pause" : Str)) := by decide
  have s0 : gap1 ("pause" : Str) lng 0 = none := by rw [gap1_it (x := ("song" : Str)) rfl, if_neg n1]
  have s1 : gap1 ("pause" : Str) lng 1 = some (0, 0, none) := by rw [gap1_it (x := ("pause" : Str)) rfl, if_pos rfl]
  have s4 : gap1 ("pause" : Str) lng 4 = none := by rw [gap1_it (x := ("talk" : Str)) rfl, if_neg n2]
  have s2 : gap1 ("pause" : Str) lng 2 = some (0, 1, none) := by rw [gap1_th (a := 1) (b := 0) lng_wf rfl, s0, s1, l0, l1]; rfl
  have s5 : gap1 ("pause" : Str) lng 5 = none := by rw [gap1_th (a := 4) (b := 0) lng_wf rfl, s0, s4, l0, l4]; rfl
  have s3 : gap1 ("pause" : Str) lng 3 = some (0, 1, some 1) := by rw [gap1_tm (a := 2) (k := 1000000) lng_wf rfl, s2]; rfl
  unfold gTold
  rw [gap1_th (a := 5) (b := 3) lng_wf rfl, s5, s3, l5, l3]; rfl
theorem gap_talk : gTold ("talk" : Str) lng 6 = .non := by
  obtain ⟨l0, l1, l2, l3, l4, l5⟩ := lenF_lng
  have n1 : ¬ (("song" : Str) = ("talk" : Str)) := by decide
  have n2 : ¬ (("pause" : Str) = ("talk" : Str)) := by decide
  have s0 : gap1 ("talk" : Str) lng 0 = none := by rw [gap1_it (x := ("song" : Str)) rfl, if_neg n1]
  have s1 : gap1 ("talk" : Str) lng 1 = none := by rw [gap1_it (x := ("pause" : Str)) rfl, if_neg n2]
  have s4 : gap1 ("talk" : Str) lng 4 = some (0, 0, none) := by rw [gap1_it (x := ("talk" : Str)) rfl, if_pos rfl]
  have s2 : gap1 ("talk" : Str) lng 2 = none := by rw [gap1_th (a := 1) (b := 0) lng_wf rfl, s0, s1, l0, l1]; rfl
  have s5 : gap1 ("talk" : Str) lng 5 = some (0, 1, none) := by rw [gap1_th (a := 4) (b := 0) lng_wf rfl, s0, s4, l0, l4]; rfl
  have s3 : gap1 ("talk" : Str) lng 3 = none := by rw [gap1_tm (a := 2) (k := 1000000) lng_wf rfl, s2]; rfl
  unfold gTold
  rw [gap1_th (a := 5) (b := 3) lng_wf rfl, s5, s3, l5, l3]; rfl
theorem at_song : (den lng 6)[1000001]? = some ("song" : Str) := by
  rw [lng6, List.getElem?_append_right (by decide), rep_get _ _ _ (by decide)]; rfl
theorem three : ((den lng 6).drop 0).take 3 = (["talk", "song", "pause"] : List Str) := by
  rw [lng6]
  show ((["talk", "song"] : List Str) ++ (List.replicate (999999 + 1) (["pause", "song"] : List Str)).flatten).take 3 = _
  rw [List.replicate_succ, List.flatten_cons]
  rfl
theorem cnt_pause : (den lng 6).count ("pause" : Str) = 1000000 := by
  rw [lng6, List.count_append, rep_count]; rfl
theorem cnt_talk : (den lng 6).count ("talk" : Str) = 1 := by
  rw [lng6, List.count_append, rep_count]; rfl
theorem cnt_none : (den lng 6).count ("" : Str) = 0 := by
  rw [lng6, List.count_append, rep_count]; rfl
theorem pos_pause : posn ("pause" : Str) (den lng 6) 7 = 16 := by
  rw [lng6, posn_app2 _ _ _ _ (by decide), posn_rep _ _ _ _ (by decide)]; rfl
theorem lng_sw : sw lng 6 = .tup [.tup [.tup [.str "item", .str "song"], .tup [.str "item", .str "pause"], .tup [.str "then", .int 1, .int 0], .tup [.str "times", .int 2, .int 1000000], .tup [.str "item", .str "talk"], .tup [.str "then", .int 4, .int 0], .tup [.str "then", .int 5, .int 3]], .int 6] := rfl
theorem tlk_sw : sw tlk 1 = .tup [.tup [.tup [.str "item", .str "talk"], .tup [.str "times", .int 0, .int 3]], .int 1] := rfl
theorem by_hand_ok : Sat (ev__law_by_hand [] h) fun w g => w = .bl true ∧ Kp h g := by
  have g6 := lng_gs
  have g1 := tlk_gs
  have L := len6
  obtain ⟨w, h1, e1, rfl, k1⟩ := longest_ok (n := "song") (h := h) g6
  obtain ⟨w, h2, e2, hw, k2⟩ := widest_ok (n := "pause") (h := h1) g6
  obtain rfl : w = .int 1 := hw.trans gap_pause
  obtain ⟨w, h3, e3, hw, k3⟩ := widest_ok (n := "talk") (h := h2) g6
  obtain rfl : w = .non := hw.trans gap_talk
  obtain ⟨w, h4, e4, rfl, k4⟩ := longest_ok (n := "talk") (h := h3) g1
  obtain ⟨w, h5, e5, rfl, k5⟩ := longest_ok (n := "") (h := h4) g6
  rw [str_song] at e1
  rw [str_tlk] at e4
  rw [str_none] at e5
  obtain ⟨w, h6, e6, rfl, k6⟩ := same_ok (x := .tup [.int 1, .int 1, .non, .int 3, .int 0]) (h := h5) (by simp [Pl, PlL]) (by simp [wsz, wszL])
  have e7 := item_at_ok (h := h6) g6 at_song
  have e8 := between_ok (h := hL lng h6) g6 (lo := 0) (hi := 3) (by omega) (by omega) (by omega)
  rw [show 3 - 0 = 3 from rfl, three] at e8
  obtain ⟨w, h9, e9, rfl, k9⟩ := item_place_ok (h := (hL lng (hL lng h6)) ++ [.lst [.str "talk", .str "song", .str "pause"]]) g6 (n := "pause") (J := 7) (by rw [cnt_pause]; omega)
  rw [pos_pause] at e9
  have e10 := between_ok (h := h9) g6 (lo := 2000002) (hi := 2000002) (by omega) (by omega) (by omega)
  rw [Nat.sub_self, List.take_zero] at e10
  obtain ⟨w, h11, e11, rfl, k11⟩ := same_ok (x := .tup [.str "song", .tup [.str "talk", .str "song", .str "pause"], .int 16, .tup []]) (h := (hL lng h9) ++ [.lst []]) (by simp [Pl, PlL]) (by simp [wsz, wszL])
  obtain ⟨w, h12, e12, rfl, k12⟩ := heard0_bad (h := h11) g6 (p := 2000002) (by omega)
  obtain ⟨w, h13, e13, rfl, k13⟩ := heard1_bad (h := h12) g6 (lo := 5) (hi := 4) (by omega)
  obtain ⟨w, h14, e14, rfl, k14⟩ := heard1_bad (h := h13) g6 (lo := -1) (hi := 500) (by omega)
  obtain ⟨w, h15, e15, rfl, k15⟩ := heard1_long (h := h14) g6 (lo := 0) (hi := 401) (by omega) (by omega) (by omega) (by omega)
  obtain ⟨w, h16, e16, rfl, k16⟩ := heard1_bad (h := h15) g6 (lo := 0) (hi := 2000003) (by omega)
  obtain ⟨w, h17, e17, rfl, k17⟩ := heard2_bad (h := h16) g6 (n := "talk") (J := 1) (by rw [cnt_talk]; omega)
  obtain ⟨w, h18, e18, rfl, k18⟩ := heard2_bad (h := h17) g6 (n := "") (J := 0) (by rw [cnt_none]; omega)
  obtain ⟨w, h19, e19, rfl, k19⟩ := same_ok (x := .tup [step "place", step "place", step "place", step "long", step "place", step "none", step "none"]) (h := h18) (by simp [Pl, PlL]) (by simp [wsz, wszL])
  have s7 : (7 : Nat) ≤ sizeLine := Nat.le_of_lt (lt_line (by omega))
  simp only [nI, lng_sw, tlk_sw, hL] at *
  have K : Kp h h19 := k1.trans (k2.trans (k3.trans (k4.trans (k5.trans (k6.trans ((Kp.app.trans (Kp.app.trans Kp.app)).trans (k9.trans ((Kp.app.trans Kp.app).trans (k11.trans (k12.trans (k13.trans (k14.trans (k15.trans (k16.trans (k17.trans (k18.trans k19))))))))))))))))
  have z0 : ((0 : Nat) : Int) = 0 := rfl
  have z1 : ((1 : Nat) : Int) = 1 := rfl
  have z3 : ((3 : Nat) : Int) = 3 := rfl
  have z7 : ((7 : Nat) : Int) = 7 := rfl
  have z16 : ((16 : Nat) : Int) = 16 := rfl
  have zz : ((2000002 : Nat) : Int) = 2000002 := rfl
  have zm : ((1000001 : Nat) : Int) = 1000001 := rfl
  simp only [zm] at e7
  simp only [z0, z1, z3, z7, z16, zz, List.map_cons, List.map_nil] at e1 e4 e5 e8 e9 e10 e17 e18
  refine Sat.of (a := .bl true) (h := h19) ?_ ⟨rfl, K⟩
  simp only [ev__law_by_hand, fn]
  simp [e1, e2, e3, e4, e5, e6, -List.append_assoc]
  simp [e7, e8, e9, e10, e11, -List.append_assoc]
  simp [e12, e13, e14, e15, e16, e17, e18, e19, s7, -List.append_assoc]
end
end VE
end
section
set_option Elab.async false
set_option linter.all false
set_option autoImplicit false
set_option maxRecDepth 100000
set_option maxHeartbeats 4000000
set_option exponentiation.threshold 5000
namespace VE
open PySem
theorem fAbs_int (i : Int) (h : He) : fAbs [.int i] h = .ok (nI i.natAbs) h := by
  show Rs.ok (W.int (if i < 0 then -i else i)) h = _
  have : (if i < 0 then -i else i) = (i.natAbs : Int) := by split <;> omega
  rw [this]
theorem shl_int (h : He) (i j : Int) : binW h .shl (.int i) (.int j) = if 0 ≤ j ∧ j ≤ 1000000 ∧ i.natAbs < 2 ^ 64 then .ok (.int (i * 2 ^ j.toNat)) h else .bad := rfl
def dB (i : Nat) : Nat := 2 ^ (811 + 20 * i)
theorem dB_succ (i : Nat) : dB (i + 1) = dB i * 1048576 := by
  unfold dB
  rw [show 811 + 20 * (i + 1) = (811 + 20 * i) + 20 by omega, Nat.pow_add]
theorem dB_ge (i : Nat) : 2 ^ 810 * 2 ≤ dB i := by
  unfold dB
  rw [show 2 ^ 810 * 2 = 2 ^ 811 by rw [← Nat.pow_succ]]
  exact Nat.pow_le_pow_right (by omega) (by omega)
theorem deep_next {d i q : Nat} (hd : d < dB i) (hq : q < 2 ^ 810) : d * 999779 + q < dB (i + 1) := by
  have := dB_ge i
  rw [dB_succ]
  generalize (2 : Nat) ^ 810 = z at *
  omega
theorem dB_log {d i : Nat} (hd : d < dB i) (hi : i ≤ 60) : d.log2 < 3000 := log_le (b := 3000) (Nat.lt_of_lt_of_le hd (by unfold dB; exact Nat.pow_le_pow_right (by omega) (by omega))) (by omega)
theorem two_log {z : Int} (h : Builtin.Int.intBits z ≤ 1048576) : (2 : Nat).log2 + z.natAbs.log2 < 3000000 := by
  have l2 : (2 : Nat).log2 = 1 := by decide
  unfold Builtin.Int.intBits at h
  split at h
  · rename_i c
    have : z = 0 := by simpa using c
    subst this
    decide
  · omega
theorem cut55 (xs : List W) : cutW xs none (some 55) = xs.take 55 := by
  unfold cutW HT.sIx
  simp
section
variable {h : He} {x : W} {ns : List Int}
theorem tub_ok (l : ns.length ≤ 63) (bits : ∀ z ∈ ns, Builtin.Int.intBits z ≤ 1048576) (fl : fLen [x] h = .ok (.int (ns.length : Int)) h) (sl : slW h x none (some 55) = .ok (.ref h.length) (h ++ [.lst ((ns.take 55).map W.int)])) : Sat (ev__law_tub [x] h) fun w g => ∃ t, w = .ref t ∧ Tb t 0 g ∧ Kp h g := by
  simp only [ev__law_tub, fn]
  refine Sat.bind ?_
  refine Sat.nx (σ' := [some x, some (nI 0), none, none, none]) (h' := h) (by simp) ?_
  refine Sat.nx (σ' := [some x, some (nI 0), some (nI (94007 + ns.length)), none, none]) (h' := h) (by simp [fl]) ?_
  refine Sat.seq (Sat.imp (Q := fun fl g => ∃ d m c3 c4, fl = .nx [some x, some (nI d), some (nI m), c3, c4] ∧ d < B3 ∧ m < 2147483629 ∧ g = h ++ [.lst ((ns.take 55).map W.int)]) ?_ ?_)
  · rw [sFor_eq]
    refine Sat.bind (Sat.of (a := .live (.ref h.length)) (h := h ++ [.lst ((ns.take 55).map W.int)]) (by simp [sl, lst_of at_end, -List.map_take]) ?_)
    refine forlive_sat ((ns.take 55).map W.int) (fun i σ g => ∃ d m c3 c4, σ = [some x, some (nI d), some (nI m), c3, c4] ∧ d < dB i ∧ m < 2147483629 ∧ g = h ++ [.lst ((ns.take 55).map W.int)]) (fun i σ g ⟨_, _, _, _, _, _, _, q⟩ => by rw [q]; exact lst_of at_end) (fun i y σ g ei ⟨d, m, c3, c4, hσ, hd, hm, hg⟩ => ?_) (fun σ g ⟨d, m, c3, c4, hσ, hd, hm, hg⟩ => ⟨d, m, c3, c4, by rw [hσ], ?_, hm, hg⟩) FU 0 _ _ (FU_big (by simp; omega)) (by omega) ⟨0, 94007 + ns.length, none, none, rfl, by show 0 < dB 0; unfold dB; exact Nat.two_pow_pos _, by omega, rfl⟩
    · subst hσ hg
      have hi := (List.getElem?_eq_some_iff.mp ei).1
      simp at hi
      obtain ⟨z, hz, rfl⟩ : ∃ z, z ∈ ns ∧ y = .int z := by
        rw [List.getElem?_map] at ei
        cases q : (ns.take 55)[i]? with
        | none => rw [q] at ei; cases ei
        | some z => rw [q] at ei; cases ei; exact ⟨z, List.mem_of_mem_take (List.mem_of_getElem? q), rfl⟩
      have l2 := two_log (bits z hz)
      rw [trn_eq]
      generalize hgg : h ++ [EO.lst ((ns.take 55).map W.int)] = g
      refine Sat.bind (Sat.of (a := [some x, some (nI d), some (nI m), some (.int z), c4]) (h := g) (by simp) ?_)
      obtain ⟨S, hS⟩ : ∃ S : Nat, 2 * (z.natAbs : Int) + (if z < 0 then 1 else 0) = (S : Int) := toN (by split <;> omega)
      refine Sat.nx (σ' := [some x, some (nI d), some (nI m), some (.int z), some (nI S)]) (h' := g) (by simp [fAbs_int, l2, hS]) ?_
      have hq : S % 2 ^ 810 < 2 ^ 810 := Nat.mod_lt _ (Nat.two_pow_pos _)
      have ql : d.log2 + (999779 : Nat).log2 < 3000000 := by have := dB_log hd (by omega); have : (999779 : Nat).log2 < 100 := by decide
                                                             omega
      obtain ⟨d2, hd2, q2⟩ : ∃ d2, d2 < dB (i + 1) ∧ sIf (tCmp .ge (eV 4) (eBin .pow (eK (.int 10)) (eK (.int 18)))) (sAsg (gV 1) (eBin .add (eBin .mul (eV 1) (eK (.int 999779))) (eBin .mod (eV 4) (eBin .shl (eK (.int 1)) (eK (.int 810)))))) sNil [some x, some (nI d), some (nI m), some (.int z), some (nI S)] g = .ok (.nx [some x, some (nI d2), some (nI m), some (.int z), some (nI S)]) g := by
        have t1 : tCmp .ge (eV 4) (eBin .pow (eK (.int 10)) (eK (.int 18))) [some x, some (nI d), some (nI m), some (.int z), some (nI S)] g = .ok (decide ((1000000000000000000 : Int) ≤ (S : Int))) g := by simp
        by_cases c : (1000000000000000000 : Int) ≤ (S : Int)
        · refine ⟨d * 999779 + S % 2 ^ 810, deep_next hd hq, ?_⟩
          have e7 : binW g .shl (.int 1) (.int 810) = .ok (nI (2 ^ 810)) g := by
            rw [shl_int, if_pos ⟨by omega, by omega, by decide⟩]
            rw [show (1 : Int) * 2 ^ (810 : Int).toNat = ((2 ^ 810 : Nat) : Int) by rw [Int.one_mul]; exact (Int.natCast_pow 2 810).symm]
          have p8 : (0 : Int) < ((2 ^ 810 : Nat) : Int) := by have := Nat.two_pow_pos 810; omega
          generalize (2 : Nat) ^ 810 = Z at e7 p8
          have e8 : binW g .mod (nI S) (nI Z) = .ok (nI (S % Z)) g := by
            rw [show nI S = W.int (S : Int) from rfl, show nI Z = W.int (Z : Int) from rfl, mod_int, if_pos p8]; rfl
          have e6 : binW g .mul (nI d) (.int 999779) = .ok (nI (d * 999779)) g := by
            rw [show nI d = W.int (d : Int) from rfl, mul_int, if_pos (show ((d : Int)).natAbs.log2 + (Int.natAbs 999779).log2 < 3000000 from ql)]; rfl
          have e9 : binW g .add (nI (d * 999779)) (nI (S % Z)) = .ok (nI (d * 999779 + S % Z)) g := rfl
          rw [sIf_eq, t1, Rs.bind_ok, if_pos (by simpa using c)]
          simp only [sAsg_eq, eBin_eq, eV_eq, eK_eq, List.getElem?_cons_zero, List.getElem?_cons_succ, Rs.bind_ok, e7, e8, e6, e9, gV_eq, List.length_cons, List.length_nil, List.set_cons_succ, List.set_cons_zero]
          rw [if_pos (by omega)]; rfl
        · refine ⟨d, ?_, by rw [sIf_eq, t1, Rs.bind_ok, if_neg (by simpa using c)]; rfl⟩
          rw [dB_succ]; omega
      refine Sat.nx q2 ?_
      have qm : m.log2 + (48271 : Nat).log2 < 3000000 := by have := lg (n := m) (by omega); have : (48271 : Nat).log2 < 100 := by decide
                                                            omega
      refine for_step (σ' := [some x, some (nI d2), some (nI ((m * 48271 + S % 1999711 + 43) % 2147483629)), some (.int z), some (nI S)]) (h' := g) (turn := fun _ => sAsg _ _) (x := .non) (by simp [qm]) ⟨_, _, _, _, rfl, hd2, Nat.mod_lt _ (by omega), rfl⟩
    · have : d < dB 55 := Nat.lt_of_lt_of_le hd (by unfold dB; exact Nat.pow_le_pow_right (by omega) (by simp; omega))
      exact Nat.lt_of_lt_of_le this (by unfold dB B3; exact Nat.pow_le_pow_right (by omega) (by omega))
  · intro fl g ⟨d, m, c3, c4, efl, hd, hm, hg⟩
    subst efl
    refine ⟨_, rfl, ?_⟩
    exact Sat.of (a := Fl.rt (.ref g.length)) (h := g ++ [.lst [nI d, nI m, nI 0]]) (by simp) (Sat.of rfl ⟨g.length, rfl, ⟨d, m, 0, at_end, hd, hm, Nat.le_refl _⟩, by rw [hg]; exact Kp.app.trans Kp.app⟩)
end
end VE
end
section
set_option Elab.async false
set_option linter.all false
set_option autoImplicit false
set_option maxRecDepth 100000
set_option maxHeartbeats 4000000
namespace VE
open PySem
abbrev SP : Str := " "
abbrev NL : Str := "\n"
theorem tl_SP : TL.tl SP = [32] := by rw [TL.tl_ofString]; rfl
theorem tl_NL : TL.tl NL = [10] := by rw [TL.tl_ofString]; rfl
theorem tl_E : TL.tl ("" : Str) = [] := by rw [TL.tl_ofString]; rfl
theorem k_SP : SP.cps.all (· < 256) = true := by decide +kernel
theorem k_NL : NL.cps.all (· < 256) = true := by decide +kernel
theorem tl_join' (y : Str) (parts : List Str) : TL.tl (Txt.join y parts) = TL.joinL (TL.tl y) (parts.map TL.tl) := by rw [TL.join_eq, TL.tl_join]
theorem split_SP {parts : List Str} (h : parts ≠ []) (hp : ∀ p ∈ parts, 32 ∉ TL.tl p) : Txt.split (Txt.join SP parts) SP = parts := TL.split_join tl_SP k_SP h hp
theorem split_NL {parts : List Str} (h : parts ≠ []) (hp : ∀ p ∈ parts, 10 ∉ TL.tl p) : Txt.split (Txt.join NL parts) NL = parts := TL.split_join tl_NL k_NL h hp
def toks (l : Str) : List Str := (Txt.split l SP).filter fun (w : Str) => !decide (w = "")
theorem toks_join {parts : List Str} (h : parts ≠ []) (hp : ∀ p ∈ parts, 32 ∉ TL.tl p) : toks (Txt.join SP parts) = parts.filter fun (w : Str) => !decide (w = "") := by
  unfold toks
  rw [split_SP h hp]
section
variable (s : Nat)
theorem joinL_cons {S : List Nat} (p : List Nat) {r : List (List Nat)} (h : r ≠ []) : TL.joinL S (p :: r) = p ++ (S ++ TL.joinL S r) := by
  cases r with
  | nil => exact absurd rfl h
  | cons q r => rfl
theorem joinL_lead (X : List (List Nat)) (h : X ≠ []) : ∀ k : Nat, TL.joinL [s] (List.replicate k [] ++ X) = List.replicate k s ++ TL.joinL [s] X
  | 0 => rfl
  | k + 1 => by
    rw [List.replicate_succ, List.cons_append, joinL_cons _ (by simp [h]), joinL_lead X h k, List.replicate_succ]
    simp
theorem joinL_app {S : List Nat} : ∀ (X Y : List (List Nat)), X ≠ [] → Y ≠ [] → TL.joinL S (X ++ Y) = TL.joinL S X ++ (S ++ TL.joinL S Y)
  | [], Y, h, _ => absurd rfl h
  | [p], Y, _, hY => joinL_cons p hY
  | p :: q :: r, Y, _, hY => by
    rw [List.cons_append, joinL_cons p (by simp), joinL_app (q :: r) Y (by simp) hY, joinL_cons p (by simp)]
    simp
theorem joinL_trail (X : List (List Nat)) (h : X ≠ []) : ∀ k : Nat, TL.joinL [s] (X ++ List.replicate k []) = TL.joinL [s] X ++ List.replicate k s
  | 0 => by simp
  | k + 1 => by
    have : X ++ List.replicate (k + 1) ([] : List Nat) = (X ++ List.replicate k []) ++ [[]] := by rw [List.replicate_succ', List.append_assoc]
    rw [this, joinL_app _ _ (by simp [h]) (by simp), joinL_trail X h k, List.replicate_succ']
    simp [TL.joinL]
end
def inter (c : Nat) : List Str → List Str
  | [] => []
  | [w] => [w]
  | w :: v :: r => w :: (List.replicate c ("" : Str) ++ inter c (v :: r))
theorem inter_ne (c : Nat) : ∀ ws : List Str, ws ≠ [] → inter c ws ≠ []
  | [], h => h
  | [_], _ => by simp [inter]
  | _ :: _ :: _, _ => by simp [inter]
theorem map_rep {α β : Type} (f : α → β) (k : Nat) (x : α) : (List.replicate k x).map f = List.replicate k (f x) := by simp
theorem inter_join (s c : Nat) : ∀ ws : List Str, TL.joinL [s] ((inter c ws).map TL.tl) = TL.joinL (List.replicate (c + 1) s) (ws.map TL.tl)
  | [] => rfl
  | [_] => rfl
  | w :: v :: r => by
    have hn : (inter c (v :: r)).map TL.tl ≠ [] := by simp [inter_ne]
    show TL.joinL [s] (TL.tl w :: (List.replicate c ("" : Str) ++ inter c (v :: r)).map TL.tl) = _
    rw [joinL_cons _ (by simp [inter_ne]), List.map_append, map_rep, tl_E, joinL_lead s _ hn, inter_join s c (v :: r)]
    show _ = TL.tl w ++ (List.replicate (c + 1) s ++ TL.joinL _ ((v :: r).map TL.tl))
    rw [List.replicate_succ]
    simp
theorem filt_rep (k : Nat) : (List.replicate k ("" : Str)).filter (fun (w : Str) => !decide (w = "")) = [] := by
  rw [List.filter_eq_nil_iff]
  intro w hw
  simp [List.eq_of_mem_replicate hw]
theorem inter_filt (c : Nat) : ∀ ws : List Str, (∀ w ∈ ws, w ≠ ("" : Str)) → (inter c ws).filter (fun (w : Str) => !decide (w = "")) = ws
  | [], _ => rfl
  | [w], h => by simp [inter, h w (List.mem_cons_self ..)]
  | w :: v :: r, h => by
    show (w :: (List.replicate c ("" : Str) ++ inter c (v :: r))).filter _ = _
    rw [List.filter_cons, List.filter_append, filt_rep, inter_filt c (v :: r) fun z hz => h z (List.mem_cons_of_mem _ hz)]
    simp [h w (List.mem_cons_self ..)]
theorem inter_mem (c : Nat) (x : Str) : ∀ ws : List Str, x ∈ inter c ws → x = "" ∨ x ∈ ws
  | [], h => .inr h
  | [w], h => .inr h
  | w :: v :: r, h => by
    rcases List.mem_cons.mp h with q | q
    · exact .inr (by simp [q])
    · rcases List.mem_append.mp q with q | q
      · exact .inl (List.eq_of_mem_replicate q)
      · rcases inter_mem c x (v :: r) q with q | q
        · exact .inl q
        · exact .inr (List.mem_cons_of_mem _ q)
theorem inter_len (c : Nat) : ∀ ws : List Str, (inter c ws).length ≤ ws.length * (c + 1)
  | [] => by simp [inter]
  | [w] => by simp [inter]
  | w :: v :: r => by
    have := inter_len c (v :: r)
    show (w :: (List.replicate c ("" : Str) ++ inter c (v :: r))).length ≤ _
    simp only [List.length_cons, List.length_append, List.length_replicate] at *
    have e : (r.length + 1 + 1) * (c + 1) = (r.length + 1) * (c + 1) + (c + 1) := Nat.succ_mul _ _
    omega
structure WkT (w : Str) : Prop where
  ne : w ≠ ""
  sp : 32 ∉ TL.tl w
  nl : 10 ∉ TL.tl w
  len : w.length ≤ 20
def looseP (k1 c k2 : Nat) (ws : List Str) : List Str := List.replicate k1 ("" : Str) ++ inter c ws ++ List.replicate k2 ("" : Str)
def loose (k1 c k2 : Nat) (ws : List Str) : Str := Txt.join SP (looseP k1 c k2 ws)
section
variable {ws : List Str} {k1 c k2 : Nat}
theorem looseP_ne (h : ws ≠ []) : looseP k1 c k2 ws ≠ [] := by simp [looseP, inter_ne c ws h]
theorem looseP_mem {x : Str} (h : x ∈ looseP k1 c k2 ws) : x = "" ∨ x ∈ ws := by
  rcases List.mem_append.mp h with q | q
  · rcases List.mem_append.mp q with q | q
    · exact .inl (List.eq_of_mem_replicate q)
    · exact inter_mem c x ws q
  · exact .inl (List.eq_of_mem_replicate q)
theorem loose_toks (h : ws ≠ []) (hw : ∀ w ∈ ws, WkT w) : toks (loose k1 c k2 ws) = ws := by
  unfold loose
  rw [toks_join (looseP_ne h) fun p hp => ?_]
  · unfold looseP
    rw [List.filter_append, List.filter_append, filt_rep, filt_rep, inter_filt c ws fun w hm => (hw w hm).ne]
    simp
  · rcases looseP_mem hp with q | q
    · rw [q, tl_E]; simp
    · exact (hw p q).sp
theorem sep_free {S : List Nat} {a : Nat} (hS : a ∉ S) : ∀ X : List (List Nat), (∀ p ∈ X, a ∉ p) → a ∉ TL.joinL S X
  | [], _ => by simp [TL.joinL]
  | [p], h => h p (List.mem_cons_self ..)
  | p :: q :: r, h => by
    rw [joinL_cons p (by simp)]
    have := sep_free hS (q :: r) fun z hz => h z (List.mem_cons_of_mem _ hz)
    have := h p (List.mem_cons_self ..)
    simp only [List.mem_append]
    intro z
    rcases z with z | z | z <;> contradiction
theorem loose_nl (hw : ∀ w ∈ ws, WkT w) : 10 ∉ TL.tl (loose k1 c k2 ws) := by
  unfold loose
  rw [tl_join', tl_SP]
  refine sep_free (by decide) _ fun p hp => ?_
  obtain ⟨x, hx, rfl⟩ := List.mem_map.mp hp
  rcases looseP_mem hx with q | q
  · rw [q, tl_E]; simp
  · exact (hw x q).nl
theorem joinL_len (S : List Nat) (B : Nat) : ∀ X : List (List Nat), (∀ p ∈ X, p.length ≤ B) → (TL.joinL S X).length ≤ X.length * (B + S.length)
  | [], _ => by simp [TL.joinL]
  | [p], h => by have := h p (List.mem_cons_self ..); simp [TL.joinL]; omega
  | p :: q :: r, h => by
    have e1 := joinL_len S B (q :: r) fun z hz => h z (List.mem_cons_of_mem _ hz)
    have e2 := h p (List.mem_cons_self ..)
    have e3 : (p :: q :: r).length * (B + S.length) = (q :: r).length * (B + S.length) + (B + S.length) := Nat.succ_mul _ _
    rw [joinL_cons p (by simp), e3]
    simp only [List.length_append]
    omega
theorem loose_len (hw : ∀ w ∈ ws, WkT w) (hl : ws.length ≤ 3) (h1 : k1 ≤ 2) (hc : c ≤ 2) (h2 : k2 ≤ 2) : (loose k1 c k2 ws).length ≤ 300 := by
  rw [TL.len_tl]
  unfold loose
  rw [tl_join', tl_SP]
  have e1 := joinL_len [32] 20 ((looseP k1 c k2 ws).map TL.tl) fun p hp => by
    obtain ⟨x, hx, rfl⟩ := List.mem_map.mp hp
    rcases looseP_mem hx with q | q
    · rw [q, tl_E]; simp
    · rw [← TL.len_tl]; exact (hw x q).len
  have e2 := inter_len c ws
  have e3 : ws.length * (c + 1) ≤ 3 * 3 := Nat.mul_le_mul hl (by omega)
  have e4 : ((looseP k1 c k2 ws).map TL.tl).length ≤ 13 := by
    simp [looseP]; omega
  have e5 : ((looseP k1 c k2 ws).map TL.tl).length * (20 + [32].length) ≤ 13 * 21 := Nat.mul_le_mul e4 (by decide)
  omega
theorem loose_eq (h : ws ≠ []) (hw : ∀ w ∈ ws, WkT w) : SX.S (List.replicate k1 32) ++ Txt.replace (Txt.join SP ws) SP (SX.S (List.replicate (c + 1) 32)) ++ SX.S (List.replicate k2 32) = loose k1 c k2 ws := by
  apply TL.ext_tl
  have e : Txt.replace (Txt.join SP ws) SP (SX.S (List.replicate (c + 1) 32)) = Txt.join (SX.S (List.replicate (c + 1) 32)) ws := by
    have hSP : SP = (⟨#[32]⟩ : Str) := TL.ext_tl (by rw [tl_SP])
    rw [hSP, StrLaws.replace_one, ← hSP, split_SP h fun p hp => (hw p hp).sp, TL.join_eq]
  rw [e, TL.tl_append, TL.tl_append, tl_join']
  unfold loose looseP
  rw [tl_join', tl_SP, List.map_append, List.map_append, map_rep, map_rep, tl_E, joinL_trail 32 _ (by simp [inter_ne c ws h]), joinL_lead 32 _ (by simp [inter_ne c ws h]), inter_join]
end
end VE
end
section
set_option Elab.async false
set_option linter.all false
set_option autoImplicit false
set_option maxRecDepth 100000
set_option maxHeartbeats 4000000
namespace VE
open PySem GZ
@[simp] theorem mSplit_eq (x b : Str) (h : He) : mSplit [.str x, .str b] h = if x.length + 2 ≤ sizeLine ∧ (b.length == 0) = false then .ok (.ref h.length) (h ++ [.lst ((Txt.split x b).map .str)]) else .bad := rfl
@[simp] theorem isStr_str (x : Str) : isStr (.str x) = true := rfl
theorem lSP : (SP.length == 0) = false := by decide +kernel
theorem lNL : (NL.length == 0) = false := by decide +kernel
theorem truth_ref (h : He) (i : Nat) : truth h (.ref i) = (lstOf h (.ref i)).map fun xs => !xs.isEmpty := rfl
theorem ixv_str (h : He) (z : Str) (i : Int) : ixv h (.str z) i = if z.length ≤ sizeLine then (atW z.cps.toList i).map fun c => .str ⟨#[c]⟩ else none := rfl
def fst35 : List Str → Bool
  | [] => true
  | w :: _ => decide ((TL.tl w).head? = some 35)
section
variable {h : He} {l : Str}
structure LnT (l : Str) (ws : List Str) : Prop where
  parts : (Txt.split l SP).length ≤ 100
  toks : toks l = ws
  len : l.length ≤ 2000
  nl : 10 ∉ TL.tl l
  short : ∀ w ∈ ws, w.length ≤ 20
  ne : ∀ w ∈ ws, w ≠ ("" : Str)
theorem words_of_ok (hl : l.length ≤ 2000) (hk : (Txt.split l SP).length ≤ 100) : ev_words_of [.str l] h = .ok (.ref (h.length + 1)) ((h ++ [.lst ((Txt.split l SP).map .str)]) ++ [.lst ((toks l).map .str)]) := by
  have ls : l.length + 2 ≤ sizeLine := Nat.le_of_lt (lt_line (by omega))
  have q1 : Sat (lcLive (lcT [some (.str l), none] (eV 1) (gV 1) (tCmp .ne (eV 1) (eK (.str ""))) [1]) (.ref h.length) FU 0 [] (h ++ [.lst ((Txt.split l SP).map .str)])) fun acc g => acc = (toks l).map W.str ∧ g = h ++ [.lst ((Txt.split l SP).map .str)] := by
    refine lclive_sat ((Txt.split l SP).map .str) (fun i acc g => acc = ((((Txt.split l SP).take i).filter fun (w : Str) => !decide (w = ""))).map W.str ∧ g = h ++ [.lst ((Txt.split l SP).map .str)]) (fun i acc g ⟨_, q⟩ => by rw [q]; exact lst_of at_end) (fun i x acc g ei ⟨q1, q2⟩ => ?_) (fun acc g ⟨q1, q2⟩ => ⟨by rw [q1, List.length_map, List.take_length]; rfl, q2⟩) FU 0 [] _ (by simp only [List.length_map]; show _ < 10000000 + 0; omega) (by simp) ⟨by simp, rfl⟩
    obtain ⟨m, em, rfl⟩ := map_str_at ei
    subst q1 q2
    have hf : (((Txt.split l SP).take i).filter fun (w : Str) => !decide (w = "")).length ≤ 10000 := Nat.le_trans (List.length_filter_le ..) (by rw [List.length_take]; omega)
    have hs : (((Txt.split l SP).take i).filter fun (w : Str) => !decide (w = "")).length < sizeLine := lt_line (by omega)
    rw [take_snoc em, List.filter_append, List.map_append]
    by_cases e : m = ("" : Str)
    · refine Sat.of (h := h ++ [.lst ((Txt.split l SP).map .str)]) (by simp [-List.map_take, e]) ⟨rfl, rfl⟩
    · refine Sat.of (h := h ++ [.lst ((Txt.split l SP).map .str)]) (by simp only [lcT_eq, wipe_cons, wipe_nil, List.set_cons_succ, List.set_cons_zero, gV_eq, List.length_cons, List.length_nil]; simp [-List.map_take, e, hs]) ⟨rfl, rfl⟩
  have q1 := Sat.eq (a := (toks l).map W.str) (h := h ++ [.lst ((Txt.split l SP).map .str)]) q1
  simp only [ev_words_of, fn]
  simp only [List.length_cons, List.length_nil, List.map_cons, List.map_nil, List.cons_append, List.nil_append, Nat.reduceAdd, Nat.reduceSub, List.replicate, sRet_eq, eLc_eq, iE_eq, eBmS_eq, eV_eq, List.getElem?_cons_zero, Rs.bind_ok, isStr_str, if_true, esC_eq, eK_eq, esN_eq, mSplit_eq]
  rw [if_pos ⟨ls, lSP⟩]
  simp only [Rs.bind_ok, itOf_ref, lst_of at_end, Option.map_some, Rs.lift_some, q1]
  simp
theorem passed_ok {ws : List Str} (L : LnT l ws) : ∃ h', ev_passed_over [.str l] h = .ok (.bl (fst35 ws)) h' := by
  have e1 := words_of_ok (h := h) L.len L.parts
  have tk := L.toks
  rw [tk] at e1
  have e2 : lstOf ((h ++ [EO.lst ((Txt.split l SP).map .str)]) ++ [EO.lst (ws.map .str)]) (.ref (h.length + 1)) = some (ws.map .str) := lst_of (by simp)
  generalize (h ++ [EO.lst ((Txt.split l SP).map .str)]) ++ [EO.lst (ws.map .str)] = H at e1 e2
  generalize h.length + 1 = r0 at e1 e2
  refine ⟨H, ?_⟩
  cases ws with
  | nil => simp [ev_passed_over, fn, e1, truth_ref, e2, fst35]
  | cons w r =>
    have hw := L.short w (List.mem_cons_self ..)
    have hs : w.length ≤ sizeLine := Nat.le_of_lt (lt_line (by omega))
    have hne := L.ne w (List.mem_cons_self ..)
    obtain ⟨c, u, hc⟩ : ∃ c u, TL.tl w = c :: u := by
      cases q : TL.tl w with
      | nil => exact absurd (TL.ext_tl (q.trans tl_E.symm)) hne
      | cons c u => exact ⟨c, u, rfl⟩
    have hc2 : w.cps.toList = c :: u := hc
    have e3 : ((⟨#[c]⟩ : Str) = ("#" : Str)) = (c = 35) := by
      rw [eq_iff_iff]
      constructor
      · intro q
        have := congrArg TL.tl q
        rw [TL.tl_ofString] at this
        exact (List.cons.inj this).1
      · intro q
        apply TL.ext_tl
        rw [TL.tl_ofString, q]; rfl
    have e4 : fst35 (w :: r) = decide (c = 35) := by
      show decide ((TL.tl w).head? = some 35) = _
      rw [hc]; simp
    have e5 : lstOf H (.ref r0) = some (.str w :: r.map W.str) := e2
    have e6 : w.cps[0]? = some c := by rw [← Array.getElem?_toList, hc2]; rfl
    rw [e4]
    simp [ev_passed_over, fn, e1, truth_ref, e5, ixv_str, hs, e6, e3]
theorem beyond_ok {k : Int} (hl : l.length ≤ 2000) (hk : k ≤ 400) : ev_beyond_limit [.str l, .int k] h = .ok (.bl false) h := by
  have hs : l.length ≤ sizeLine := Nat.le_of_lt (lt_line (by omega))
  have c1 : ¬ ((2000 : Int) < (l.length : Int)) := by omega
  have c2 : ¬ ((400 : Int) < k) := by omega
  simp [ev_beyond_limit, fn, hs, c1, c2]
def tlines (t : Str) : List Str := if (Txt.split t NL).getLast? = some ("" : Str) then (Txt.split t NL).dropLast else Txt.split t NL
theorem text_lines_ok {t : Str} (hl : t.length ≤ 1000000) (hn : Txt.split t NL ≠ []) : ev_text_lines [.str t] h = .ok (.ref h.length) (h ++ [.lst ((tlines t).map .str)]) := by
  have ls : t.length + 2 ≤ sizeLine := Nat.le_of_lt (lt_line (by omega))
  obtain ⟨L, x, hL⟩ : ∃ L x, Txt.split t NL = L ++ [x] := ⟨_, _, (List.dropLast_concat_getLast hn).symm⟩
  have ix : L2.ixN (L.length + 1) (-1) = some L.length := by
    unfold L2.ixN
    rw [if_neg (by omega), if_pos (by omega)]
    simp; omega
  have at_ : atW (L.map W.str ++ [.str x]) (-1) = some (.str x) := by
    unfold atW L2.atI
    simp [ix]
  unfold tlines
  rw [hL]
  have lNL' := lNL
  by_cases c : x = ("" : Str)
  · subst c
    simp [ev_text_lines, fn, ls, lNL', hL, lst_of at_end, at_]
  · simp [ev_text_lines, fn, ls, lNL', hL, lst_of at_end, at_, c]
def opt (ws : List Str) : Option (List Str) := if fst35 ws then none else some ws
theorem step_ok {k : Nat} {ws : List Str} (L : LnT l ws) (hk : k < 400) : clStep cl_1 cl_2 cl_3 k l = some (opt ws) := by
  have e1 : cl_1 (sgL k l) [] = .ok false [] := by
    have := beyond_ok (h := []) (k := (k : Int) + 1) L.len (by omega)
    simp [cl_1, sgL, this]
  obtain ⟨h2, e2⟩ := passed_ok (h := []) L
  have e3 : cl_2 (sgL k l) [] = .ok (!fst35 ws) h2 := by simp [cl_2, sgL, e2]
  cases c : fst35 ws with
  | true =>
    rw [c] at e3
    simp [clStep, opt, e1, e3, c]
  | false =>
    rw [c] at e3
    have e4 := words_of_ok (h := []) L.len L.parts
    rw [L.toks] at e4
    have e5 : cl_3 (sgL k l) [] = .ok (.tup [.int ((k : Int) + 1), .ref 1]) [.lst ((Txt.split l SP).map .str), .lst (ws.map .str)] := by
      simp at e4
      simp [cl_3, sgL, e4]
    simp [clStep, opt, e1, e3, e5, c, strs_map]
theorem all_ok : ∀ (ls : List (Str × List Str)) (k : Nat), (∀ p ∈ ls, LnT p.1 p.2) → k + ls.length ≤ 400 → clAll cl_1 cl_2 cl_3 k (ls.map (·.1)) = some (ls.map fun p => opt p.2)
  | [], k, _, _ => rfl
  | p :: r, k, h, hk => by
    have hk : k + (r.length + 1) ≤ 400 := hk
    show (match clStep cl_1 cl_2 cl_3 k p.1, clAll cl_1 cl_2 cl_3 (k + 1) (r.map (·.1)) with
      | some a, some b => some (a :: b)
      | _, _ => none) = _
    rw [step_ok (h p (List.mem_cons_self ..)) (by omega), all_ok r (k + 1) (fun q hq => h q (List.mem_cons_of_mem _ hq)) (by omega)]
    rfl
theorem text_ok {t : Str} (hl : t.length ≤ 1000000) (hn : Txt.split t NL ≠ []) : clText cl_L t = some (tlines t) := by
  have e := text_lines_ok (h := []) hl hn
  have e5 : cl_L [some (.str t), none, none] [] = .ok [.ref 0] [.lst ((tlines t).map .str)] := by simp [cl_L, e]
  unfold clText
  rw [e5]
  simp [strs_map]
end
end VE
end
section
set_option Elab.async false
set_option linter.all false
set_option autoImplicit false
set_option maxRecDepth 100000
set_option maxHeartbeats 4000000
namespace VE
open PySem
def nm (n : Nat) : Str := Str.ofString (toString ((n : Nat) : Int))
theorem tl_nm (n : Nat) : TL.tl (nm n) = TL.numL n := TL.tl_num n
theorem numL_hd : ∀ (m n : Nat), n < m → 1 ≤ n → ∃ c u, TL.numL n = c :: u ∧ 49 ≤ c ∧ c ≤ 57
  | 0, n, h, _ => absurd h (Nat.not_lt_zero _)
  | m + 1, n, h, h1 => by
    by_cases c : n < 10
    · exact ⟨48 + n, [], TL.numL_lt c, by omega, by omega⟩
    · obtain ⟨x, u, e, h2, h3⟩ := numL_hd m (n / 10) (by omega) (by omega)
      exact ⟨x, u ++ [48 + n % 10], by rw [TL.numL_step (by omega), e]; rfl, h2, h3⟩
theorem nm_wk {n : Nat} (h : n ≤ 10 ^ 18) : WkT (nm n) where
  ne := fun e => by
    have := congrArg TL.tl e
    rw [tl_nm, tl_E] at this
    exact TL.numL_ne n this
  sp := by rw [tl_nm]; exact TL.numL_free (by omega)
  nl := by rw [tl_nm]; exact TL.numL_free (by omega)
  len := by
    rw [TL.len_tl, tl_nm]
    exact TL.numL_len (by omega) (by omega)
theorem nm_len {n : Nat} (h : n ≤ 10 ^ 18) : (nm n).length ≤ 20 := (nm_wk h).len
theorem digit_in : ∀ d : Nat, d < 10 → (48 + d) ∈ TL.tl ("0123456789" : Str) := by
  rw [show TL.tl ("0123456789" : Str) = [48, 49, 50, 51, 52, 53, 54, 55, 56, 57] by rw [TL.tl_ofString]; rfl]
  decide
theorem notin_digits (h : He) {c : Nat} (h1 : 48 ≤ c) (h2 : c ≤ 57) : cmpW h .notIn (.str ⟨#[c]⟩) (.str ("0123456789" : Str)) = some false := by
  show some (!(!(Builtin.Str.occurrences ("0123456789" : Str) ⟨#[c]⟩ 0 ("0123456789" : Str).length 1).isEmpty)) = _
  rw [StrLaws.found_one]
  have : c ∈ ("0123456789" : Str).cps.toList := by
    have := digit_in (c - 48) (by omega)
    rw [show 48 + (c - 48) = c by omega] at this
    exact this
  simp [this]
theorem str1_eq (c : Nat) (s : String) (d : Nat) (hs : s.toList.map Char.toNat = [d]) : ((⟨#[c]⟩ : Str) = Str.ofString s) = (c = d) := by
  rw [eq_iff_iff]
  constructor
  · intro q
    have := congrArg TL.tl q
    rw [TL.tl_ofString, hs] at this
    exact (List.cons.inj this).1
  · intro q
    apply TL.ext_tl
    rw [TL.tl_ofString, hs, q]
@[simp] theorem itOf_str (h : He) (x : Str) : itOf h (.str x) = some (.fix (x.cps.toList.map fun c => .str ⟨#[c]⟩)) := rfl
theorem slW_str (h : He) (z : Str) (lo hi : Option Int) : slW h (.str z) lo hi = if z.length ≤ sizeLine then .ok (.str ⟨(cutW z.cps.toList lo hi).toArray⟩) h else .bad := rfl
theorem fInt_str (x : Str) (h : He) : fInt [.str x] h = if x.length ≤ 640 then Rs.lift ((PySem.intText? x).map .int) h else .bad := rfl
section
variable {h : He} {n : Nat}
theorem written_big_ok (hn : n ≤ 10 ^ 18) : ev_written_big [.str (nm n), .int 20] h = .ok (nI n) (h ++ [.lst []]) := by
  have len := nm_len hn
  have s1 : (nm n).length ≤ sizeLine := Nat.le_of_lt (lt_line (by omega))
  have s2 : ¬ ((20 : Int) < ((nm n).length : Int)) := by omega
  have s3 : (nm n).length ≤ 640 := by omega
  have ne := (nm_wk hn).ne
  have it := TL.int_num (n := n) (by rw [← tl_nm, ← TL.len_tl]; omega)
  have it : PySem.intText? (nm n) = some (n : Int) := it
  obtain ⟨c, u, hc, h1, h2⟩ : ∃ c u, (nm n).cps.toList = c :: u ∧ 48 ≤ c ∧ c ≤ 57 := by
    have e := tl_nm n
    cases q : TL.numL n with
    | nil => exact absurd q (TL.numL_ne n)
    | cons c u =>
      have := TL.numL_digits n c (by rw [q]; exact List.mem_cons_self ..)
      exact ⟨c, u, e.trans q, this.1, this.2⟩
  have cut : cutW (nm n).cps.toList none (some 1) = [c] := by
    rw [hc]
    unfold cutW HT.sIx
    simp
  have e45 : ((⟨#[c]⟩ : Str) = ("-" : Str)) = False := by
    rw [str1_eq c "-" 45 rfl]; exact eq_false (by omega)
  have q1 : ∀ σ : Sg, (∃ a b d e, σ = [a, b, d, e]) → Sat (lcFix (lcT σ (eV 3) (gV 3) (tCmp .notIn (eV 3) (eK (.str "0123456789"))) [3]) ((nm n).cps.toList.map fun c => .str ⟨#[c]⟩) [] h) fun acc g => acc = [] ∧ g = h := fun σ ⟨a, b, d, e, hσ⟩ => by
    subst hσ
    refine lcfix_sat (fun i acc g => acc = [] ∧ g = h) _ 0 [] _ ⟨rfl, rfl⟩ (fun j x acc g ej ⟨e1, e2⟩ => ?_) fun acc g q => q
    subst e1 e2
    rw [List.getElem?_map] at ej
    cases q : (nm n).cps.toList[j]? with
    | none => rw [q] at ej; cases ej
    | some d =>
      rw [q] at ej; cases ej
      have hd := TL.numL_digits n d (by rw [← tl_nm]; exact List.mem_of_getElem? q)
      exact Sat.of (by simp [notin_digits _ hd.1 hd.2]) ⟨rfl, rfl⟩
  have q1 : ∀ a b d e : Option W, _ := fun a b d e => Sat.eq (a := []) (h := h) (q1 [a, b, d, e] ⟨a, b, d, e, rfl⟩)
  have e48 : ((⟨#[c]⟩ : Str) = ("0" : Str)) = (c = 48) := str1_eq c "0" 48 rfl
  have z : c = 48 → nm n = ("0" : Str) := fun q => by
    rcases Nat.eq_zero_or_pos n with r | r
    · subst r
      apply TL.ext_tl
      rw [tl_nm, TL.numL_lt (by omega), TL.tl_ofString]; rfl
    · obtain ⟨c', u', e, h3, h4⟩ := numL_hd (n + 1) n (by omega) r
      have : c :: u = c' :: u' := hc.symm.trans ((tl_nm n).trans e)
      have := (List.cons.inj this).1
      omega
  have hc0 : (nm n).cps[0]? = some c := by rw [← Array.getElem?_toList, hc]; rfl
  apply Sat.eq
  simp only [ev_written_big, fn]
  refine Sat.bind ?_
  refine Sat.nx (σ' := [some (.str (nm n)), some (.int 20), some (.str (nm n)), none]) (h' := h) (by simp [slW_str, s1, cut, e45]) ?_
  refine Sat.nx (σ' := [some (.str (nm n)), some (.int 20), some (.str (nm n)), none]) (h' := h ++ [.lst []]) (by
    simp only [sIf_eq, tOr_eq, tV_eq, eLc_eq, iE_eq, eV_eq, List.getElem?_cons_zero, List.getElem?_cons_succ, Rs.bind_ok, itOf_str, Rs.lift_some, q1]
    simp [s1, s2, ne, truth_ref, lst_of at_end, q1]) ?_
  refine Sat.nx (σ' := [some (.str (nm n)), some (.int 20), some (.str (nm n)), none]) (h' := h ++ [.lst []]) (by
    by_cases c0 : c = 48
    · have hz : (nm n = ("0" : Str)) = True := eq_true (z c0)
      simp [ixv_str, s1, hc0, e48, c0, hz]
    · simp [ixv_str, s1, hc0, e48, c0]) ?_
  simp [fInt_str, s3, it]
end
end VE
end
section
set_option Elab.async false
set_option linter.all false
set_option autoImplicit false
set_option maxRecDepth 100000
set_option maxHeartbeats 4000000
namespace VE
open PySem
def wrd (x : Str) : Str := if x = ("" : Str) then "-" else x
def lnW : Pt → List Str
  | .it x => ["item", wrd x]
  | .th a b => ["then", nm a, nm b]
  | .tm a k => ["times", nm a, nm k]
def Pt.rd (ks : List Str) : Pt → Prop
  | .it x => x = ("" : Str) ∨ (x ∈ ks ∧ x ≠ ("" : Str) ∧ x ≠ ("-" : Str))
  | .th a b => a ≤ 199 ∧ b ≤ 199
  | .tm a k => a ≤ 199 ∧ 1 ≤ k ∧ k ≤ 10 ^ 18
section
variable {h : He} {n : Nat}
theorem written_integer_ok (hn : n ≤ 10 ^ 18) : ev_written_integer [.str (nm n)] h = .ok (nI n) (h ++ [.lst []]) := by
  simp [ev_written_integer, fn, written_big_ok hn]
theorem within_ok (hn : n ≤ 10 ^ 18) {lo hi : Int} (h1 : lo ≤ (n : Int)) (h2 : (n : Int) ≤ hi) : ev_written_within [.str (nm n), .int lo, .int hi] h = .ok (nI n) (h ++ [.lst []]) := by
  simp [ev_written_within, fn, written_integer_ok hn, h1, h2]
theorem part_of_ok {p : Pt} {ks : List Str} {r w : Nat} (hw : h[w]? = some (.lst ((lnW p).map W.str))) (hp : p.rd ks) : ∃ g, ev_Reader_part_of [.ref r, .ref w] h = .ok p.w g ∧ Kp h g := by
  cases p with
  | it x =>
    refine ⟨h, ?_, Kp.refl⟩
    have e : (if wrd x = ("-" : Str) then ("" : Str) else wrd x) = x := by
      unfold wrd
      rcases hp with q | ⟨_, q1, q2⟩
      · simp [q]
      · simp [q1, q2]
    have e2 : ev_node_of_word [.str (wrd x)] h = .ok (.str x) h := by
      by_cases c : wrd x = ("-" : Str)
      · rw [if_pos c] at e
        simp [ev_node_of_word, fn, c, e]
      · rw [if_neg c] at e
        simp [ev_node_of_word, fn, c]
        exact e
    simp [ev_Reader_part_of, fn, lst_of hw, lnW, e2, Pt.w]
  | th a b =>
    obtain ⟨ha, hb⟩ := hp
    have e1 := within_ok (h := h) (n := a) (by omega) (lo := 0) (hi := 199) (by omega) (by omega)
    have e2 := within_ok (h := h ++ [.lst []]) (n := b) (by omega) (lo := 0) (hi := 199) (by omega) (by omega)
    refine ⟨(h ++ [.lst []]) ++ [.lst []], ?_, Kp.app.trans Kp.app⟩
    have hw2 := lst_app (Kp.app (g := [EO.lst []]) _ _ hw) (.lst [])
    simp [ev_Reader_part_of, fn, lst_of hw, lst_app hw, hw2, lnW, s2, s6, e1, e2, Pt.w, -List.append_assoc]
  | tm a k =>
    obtain ⟨ha, hk0, hk1⟩ := hp
    have e1 := within_ok (h := h) (n := a) (by omega) (lo := 0) (hi := 199) (by omega) (by omega)
    have e2 := within_ok (h := h ++ [.lst []]) (n := k) (by omega) (lo := 1) (hi := 1000000000000000000) (by omega) (by omega)
    refine ⟨(h ++ [.lst []]) ++ [.lst []], ?_, Kp.app.trans Kp.app⟩
    have hw2 := lst_app (Kp.app (g := [EO.lst []]) _ _ hw) (.lst [])
    simp [ev_Reader_part_of, fn, lst_of hw, lst_app hw, hw2, lnW, s3, s4, e1, e2, Pt.w, -List.append_assoc]
structure Rd (B : W) (ps : List Pt) (res : W) (r m s : Nat) (g : He) : Prop where
  me : g[r]? = some (.ins 2 [(5, B), (6, .ref m), (7, .ref s), (8, res)])
  parts : g[m]? = some (.lst (ps.map Pt.w))
  lens : g[s]? = some (.lst (vls sz (words ps)))
  rm : r ≠ m
  rs : r ≠ s
  ms : m ≠ s
theorem Rd.kp {B : W} {ps : List Pt} {res : W} {r m s : Nat} {g g' : He} (R : Rd B ps res r m s g) (k : Kp g g') : Rd B ps res r m s g' := ⟨k _ _ R.me, k _ _ R.parts, k _ _ R.lens, R.rm, R.rs, R.ms⟩
theorem Rd.fld {B : W} {ps : List Pt} {res : W} {r m s : Nat} {g : He} (R : Rd B ps res r m s g) : getF g [2] (.ref r) 5 = some B ∧ getF g [2] (.ref r) 6 = some (.ref m) ∧ getF g [2] (.ref r) 7 = some (.ref s) ∧ getF g [2] (.ref r) 8 = some res := by
  have := R.me
  refine ⟨?_, ?_, ?_, ?_⟩ <;> simp [getF, this, fgetW]
theorem operands_ok {p : Pt} : ∃ xs : List Nat, ev_operands [p.w] h = .ok (.ref h.length) (h ++ [.lst (xs.map nI)]) ∧ (∀ x ∈ xs, ∀ i, p.ok i → x < i) ∧ xs.length ≤ 2 := by
  cases p with
  | it x => exact ⟨[], by simp [ev_operands, fn, Pt.w, s1, s5], by simp, by simp⟩
  | th a b => exact ⟨[a, b], by simp [ev_operands, fn, Pt.w], fun x hx i o => by
      simp at hx
      rcases hx with rfl | rfl
      · exact o.1
      · exact o.2, by simp⟩
  | tm a k => exact ⟨[a], by simp [ev_operands, fn, Pt.w, s4], fun x hx i o => by
      simp at hx
      subst hx
      exact o.1, by simp⟩
theorem take_part_ok {B : W} {ps : List Pt} {r m s : Nat} {p : Pt} {ns : List Str} (R : Rd B ps .non r m s h) (S : Sc ps ns) (l : ps.length < 200) (ok : p.ok ps.length) (z : (wordOf (words ps) p).length ≤ 10 ^ 20) (num : ∀ a k, p = .tm a k → k ≤ 10 ^ 18) :
    Sat (ev_Reader_take_part [.ref r, p.w] h) fun w g => w = .non ∧ Rd B (ps ++ [p]) .non r m s g ∧ ∀ i o, i ≠ m → i ≠ s → h[i]? = some o → g[i]? = some o := by
  obtain ⟨f5, f6, f7, f8⟩ := R.fld
  obtain ⟨xs, e1, hx, hx2⟩ := operands_ok (h := h) (p := p)
  have R1 := R.kp (Kp.app (g := [.lst (xs.map nI)]))
  obtain ⟨g5, g6, g7, g8⟩ := R1.fld
  have q1 : Sat (lcLive (lcT [some (.ref r), some p.w, none, none] (eV 2) (gV 2) (tCmp .ge (eV 2) (eCall fLen (esC (eFld [2] 6 (eV 0)) esN))) [2]) (.ref h.length) FU 0 [] (h ++ [.lst (xs.map nI)])) fun acc g => acc = [] ∧ g = h ++ [.lst (xs.map nI)] := by
    refine lclive_sat (xs.map nI) (fun i acc g => acc = [] ∧ g = h ++ [.lst (xs.map nI)]) (fun i acc g ⟨_, q⟩ => by rw [q]; exact lst_of at_end) (fun i x acc g ei ⟨q1, q2⟩ => ?_) (fun acc g q => q) FU 0 [] _ (FU_big ?_) (by simp) ⟨rfl, rfl⟩
    · subst q1 q2
      rw [List.getElem?_map] at ei
      cases q : xs[i]? with
      | none => rw [q] at ei; cases ei
      | some y =>
        rw [q] at ei; cases ei
        have := hx y (List.mem_of_getElem? q) _ ok
        have c1 : ¬ ps.length ≤ y := by omega
        exact Sat.of (by simp [g6, lst_of R1.parts, c1]) ⟨rfl, rfl⟩
    · simp; omega
  have q1 := Sat.eq (a := []) (h := h ++ [.lst (xs.map nI)]) q1
  have R2 := R1.kp (Kp.app (g := [EO.lst []]))
  have kk : Kp h ((h ++ [.lst (xs.map nI)]) ++ [EO.lst []]) := Kp.app.trans Kp.app
  simp only [ev_Reader_take_part, fn]
  refine Sat.bind ?_
  refine Sat.nx (σ' := [some (.ref r), some p.w, none, none]) (h' := (h ++ [.lst (xs.map nI)]) ++ [.lst []]) (by
    simp only [List.length_cons, List.length_nil, List.map_cons, List.map_nil, List.cons_append, List.nil_append, Nat.reduceAdd, Nat.reduceSub, List.replicate, sIf_eq, tV_eq, eLc_eq, iE_eq, eCall_eq, esC_eq, esN_eq, eV_eq, List.getElem?_cons_zero, List.getElem?_cons_succ, Rs.bind_ok, e1, itOf_ref, lst_of at_end, Option.map_some, Rs.lift_some, q1, truR_eq, truth_ref]
    simp [-List.append_assoc]) ?_
  generalize (h ++ [EO.lst (xs.map nI)]) ++ [EO.lst []] = g at R2 kk
  clear q1 e1 R1 g5 g6 g7 g8 f5 f6 f7 f8
  obtain ⟨g5, g6, g7, g8⟩ := R2.fld
  have c200 : ¬ ((ps.length : Int) = 200) := by omega
  refine Sat.nx (σ' := [some (.ref r), some p.w, none, none]) (h' := g) (by simp [g6, lst_of R2.parts, c200]) ?_
  have wl : (words ps).length = ps.length := words_len ps
  have e2 := part_length_ok (p := p) R2.lens (by rw [wl]; exact ok) (fun a k q => by
    subst q
    have h1 : a < ps.length := ok.1
    have h2 := S.size a h1
    have h3 := num a k rfl
    have h4 : ((words ps).getD a []).length ≤ 10 ^ 20 := h2
    have := lg (n := ((words ps).getD a []).length) (by omega)
    have := lg (n := k) (by omega)
    omega)
  refine Sat.nx (σ' := [some (.ref r), some p.w, none, some (nI (wordOf (words ps) p).length)]) (h' := g) (by simp [g7, e2]) ?_
  have c20 : ¬ ((100000000000000000000 : Int) < ((wordOf (words ps) p).length : Int)) := by omega
  refine Sat.nx (σ' := [some (.ref r), some p.w, none, some (nI (wordOf (words ps) p).length)]) (h' := g) (by simp [c20]) ?_
  have hs : ps.length < sizeLine := lt_line (by omega)
  have hs2 : (words ps).length < sizeLine := by rw [wl]; exact hs
  have lm := (List.getElem?_eq_some_iff.mp R2.parts).1
  have ls := (List.getElem?_eq_some_iff.mp R2.lens).1
  have mp : ps.map Pt.w ++ [p.w] = (ps ++ [p]).map Pt.w := by simp
  generalize hPW : (ps ++ [p]).map Pt.w = PW at mp
  have vp : vls sz (words ps) ++ [sz (wordOf (words ps) p)] = vls sz (words (ps ++ [p])) := by rw [words_snoc, vls_snoc]
  refine Sat.nx (σ' := [some (.ref r), some p.w, none, some (nI (wordOf (words ps) p).length)]) (h' := g.set m (.lst PW)) (by simp [-List.map_append, g6, lst_of R2.parts, R2.parts, hs, mp]) ?_
  have a1 : (g.set m (.lst PW))[r]? = some (.ins 2 [(5, B), (6, .ref m), (7, .ref s), (8, .non)]) := by rw [List.getElem?_set_ne (Ne.symm R2.rm)]; exact R2.me
  have a2 : (g.set m (.lst PW))[s]? = some (.lst (vls sz (words ps))) := by rw [List.getElem?_set_ne R2.ms]; exact R2.lens
  have a3 : getF (g.set m (.lst PW)) [2] (.ref r) 7 = some (.ref s) := by simp [getF, a1, fgetW]
  refine Sat.nx (σ' := [some (.ref r), some p.w, none, some (nI (wordOf (words ps) p).length)]) (h' := (g.set m (.lst PW)).set s (.lst (vls sz (words (ps ++ [p]))))) (by simp [-List.map_append, a3, lst_of a2, a2, hs2, vp]) ?_
  refine Sat.of (a := Fl.rt .non) (by simp; rfl) (Sat.of rfl ⟨rfl, ⟨?_, ?_, ?_, R2.rm, R2.rs, R2.ms⟩, fun i o h1 h2 e => ?_⟩)
  · rw [List.getElem?_set_ne (Ne.symm R2.rs)]; exact a1
  · rw [List.getElem?_set_ne (Ne.symm R2.ms), List.getElem?_set_self lm, hPW]
  · rw [List.getElem?_set_self (by simpa using ls)]
  · rw [List.getElem?_set_ne (Ne.symm h2), List.getElem?_set_ne (Ne.symm h1)]; exact kk _ _ e
end
end VE
end
section
set_option Elab.async false
set_option linter.all false
set_option autoImplicit false
set_option maxRecDepth 100000
set_option maxHeartbeats 4000000
namespace VE
open PySem GZ
theorem wc1 : dgetW gd_WORD_COUNTS "item" = some 2 := by decide +kernel
theorem wc2 : dgetW gd_WORD_COUNTS "then" = some 3 := by decide +kernel
theorem wc3 : dgetW gd_WORD_COUNTS "times" = some 3 := by decide +kernel
theorem wc4 : dgetW gd_WORD_COUNTS "word" = some 2 := by decide +kernel
theorem u1 : (("item" : Str) = "word") = False := by decide
theorem u2 : (("then" : Str) = "word") = False := by decide
theorem u3 : (("times" : Str) = "word") = False := by decide
theorem u4 : (("word" : Str) = "item") = False := by decide
@[simp] theorem eGg_eq (kvs : List (Str × Int)) (e : E) (σ : Sg) (h : He) : eGg kvs e σ h = ((e σ h).bind fun x h => match x with
  | .str x => .ok (match dgetW kvs x with | some i => .int i | none => .non) h
  | _ => .bad) := rfl
section
variable {h : He} {n : Nat}
theorem Rd.isI {B : W} {ps : List Pt} {res : W} {r m s : Nat} {g : He} (R : Rd B ps res r m s g) (k : Nat) (hk : 8 < k) : isIns g 2 k (.ref r) = true := by
  have h5 : ¬ 5 = k := by omega
  have h6 : ¬ 6 = k := by omega
  have h7 : ¬ 7 = k := by omega
  have h8 : ¬ 8 = k := by omega
  simp [isIns, R.me, fgetW, h5, h6, h7, h8]
theorem take_ok {ks : List Str} {b : List W} {ps : List Pt} {r m s w : Nat} {p : Pt} {ns : List Str} (R : Rd (bk ks b) ps .non r m s h) (hw : h[w]? = some (.lst ((lnW p).map W.str))) (rd : p.rd ks) (S : Sc ps ns) (l : ps.length < 200) (ok : p.ok ps.length) (z : (wordOf (words ps) p).length ≤ 10 ^ 20) (num : ∀ a k, p = .tm a k → k ≤ 10 ^ 18) :
    Sat (ev_Reader_take [.ref r, .ref w] h) fun v g => v = .non ∧ Rd (bk ks b) (ps ++ [p]) .non r m s g ∧ ∀ i o, i ≠ m → i ≠ s → h[i]? = some o → g[i]? = some o := by
  obtain ⟨f5, f6, f7, f8⟩ := R.fld
  have i13 := R.isI 13 (by omega)
  obtain ⟨g, e1, k1⟩ := part_of_ok (r := r) hw rd
  have R1 := R.kp k1
  have i14 := R1.isI 14 (by omega)
  obtain ⟨v, g2, e2, rfl, R2, k2⟩ := take_part_ok R1 S l ok z num
  have nn : isNonW p.w = false := by cases p <;> rfl
  refine Sat.of (a := .non) (h := g2) ?_ ⟨rfl, R2, fun i o a1 a2 e => k2 i o a1 a2 (k1 i o e)⟩
  cases p with
  | it x =>
    rcases rd with q | ⟨q1, q2, q3⟩
    · subst q
      have e0 : wrd "" = ("-" : Str) := rfl
      simp [ev_Reader_take, fn, f5, f8, lst_of hw, lnW, wc1, u1, e0, i13, e1, nn, i14, e2]
    · have e0 : wrd x = x := by unfold wrd; simp [q2]
      simp [ev_Reader_take, fn, f5, f8, lst_of hw, lnW, wc1, u1, e0, q3, notin_strs, q1, i13, e1, nn, i14, e2]
  | th u v => simp [ev_Reader_take, fn, f5, f8, lst_of hw, lnW, wc2, u2, s2, i13, e1, nn, i14, e2]
  | tm u v => simp [ev_Reader_take, fn, f5, f8, lst_of hw, lnW, wc3, u3, s3, i13, e1, nn, i14, e2]
def wdL (t : Nat) : List Str := ["word", nm t]
theorem take_word_ok {B : W} {ps : List Pt} {r m s w t : Nat} (R : Rd B ps .non r m s h) (hw : h[w]? = some (.lst ((wdL t).map W.str))) (ht : t < ps.length) (l : ps.length ≤ 200) :
    Sat (ev_Reader_take [.ref r, .ref w] h) fun v g => v = .non ∧ Rd B ps (nI t) r m s g ∧ ∀ i o, i ≠ r → h[i]? = some o → g[i]? = some o := by
  obtain ⟨f5, f6, f7, f8⟩ := R.fld
  have i15 := R.isI 15 (by omega)
  have e1 := within_ok (h := h) (n := t) (by omega) (lo := 0) (hi := 199) (by omega) (by omega)
  have R1 := R.kp (Kp.app (g := [EO.lst []]))
  obtain ⟨g5, g6, g7, g8⟩ := R1.fld
  have c1 : ¬ ps.length ≤ t := by omega
  have lr := (List.getElem?_eq_some_iff.mp R1.me).1
  have st : setF (h ++ [EO.lst []]) [2] (.ref r) 8 (nI t) = some ((h ++ [EO.lst []]).set r (.ins 2 [(5, B), (6, .ref m), (7, .ref s), (8, nI t)])) := by
    simp [setF, R1.me, fputW]
  have e2 : ev_Reader_take_result [.ref r, .str (nm t)] h = .ok .non ((h ++ [EO.lst []]).set r (.ins 2 [(5, B), (6, .ref m), (7, .ref s), (8, nI t)])) := by
    simp [ev_Reader_take_result, fn, e1, g6, lst_of R1.parts, c1, st]
  refine Sat.of (a := .non) (h := (h ++ [EO.lst []]).set r (.ins 2 [(5, B), (6, .ref m), (7, .ref s), (8, nI t)])) (by
    simp [ev_Reader_take, fn, f8, lst_of hw, wdL, wc4, i15, e2]) ⟨rfl, ⟨?_, ?_, ?_, R.rm, R.rs, R.ms⟩, fun i o hi e => ?_⟩
  · rw [List.getElem?_set_self lr]
  · rw [List.getElem?_set_ne R.rm]; exact R1.parts
  · rw [List.getElem?_set_ne R.rs]; exact R1.lens
  · rw [List.getElem?_set_ne (Ne.symm hi)]; exact Kp.app _ _ e
theorem den_app {ps : List Pt} : ∀ (qs : List Pt) {i : Nat}, i < ps.length → den (ps ++ qs) i = den ps i := fun qs i hi => by
  unfold den words
  rw [wordsG_app, List.getD, List.getD, wordsG_pre qs _ i (by rw [wordsG_len]; simp; exact hi)]
theorem Sc.pre {ps qs : List Pt} {ns : List Str} (S : Sc (ps ++ qs) ns) : Sc ps ns := by
  have at_ : ∀ {i : Nat} {p : Pt}, ps[i]? = some p → (ps ++ qs)[i]? = some p := fun {i p} e => by
    rw [List.getElem?_append_left (List.getElem?_eq_some_iff.mp e).1]; exact e
  exact ⟨⟨fun i p e => S.wf.ok i p (at_ e)⟩, fun i hi => by rw [← den_app qs hi]; exact S.size i (by simp; omega), fun i a k e => S.num i a k (at_ e), fun i x e => S.nd i x (at_ e)⟩
theorem Sc.step {ps qs : List Pt} {p : Pt} {ns : List Str} (S : Sc (ps ++ p :: qs) ns) : p.ok ps.length ∧ (wordOf (words ps) p).length ≤ 10 ^ 20 ∧ (∀ a k, p = .tm a k → k ≤ 10 ^ 18) := by
  have at_ : (ps ++ p :: qs)[ps.length]? = some p := by simp
  refine ⟨S.wf.ok _ _ at_, ?_, fun a k q => by subst q; exact S.num _ a k at_⟩
  have e : ps ++ p :: qs = (ps ++ [p]) ++ qs := by simp
  have := S.size ps.length (by simp)
  rw [e, den_app qs (by simp), den_last] at this
  exact this
abbrev rTurn : W → Sg → He → Rs Fl := fun x σ h => ((gTup 2 (gsC (gV 3) (gsC (gV 4) gsN))) x σ h).bind fun σ h => (sSeq (sAsg (gV 5) (eMeth 2 16 ev_Reader_take (eV 2) (esC (eV 4) esN))) (sIf (tCmp .notN (eV 5) (eK .non)) (sRaise 104 [10, 9] (esC (eV 3) (esC (eV 5) esN))) sNil)) σ h
theorem turn_ok {p : Int} {w r : Nat} {B T : W} {c3 c4 c5 : Option W} {g : He} (i16 : isIns h 2 16 (.ref r) = true) (e : ev_Reader_take [.ref r, .ref w] h = .ok .non g) : rTurn (.tup [.int p, .ref w]) [some B, some T, some (.ref r), c3, c4, c5] h = .ok (.nx [some B, some T, some (.ref r), some (.int p), some (.ref w), some .non]) g := by
  simp [rTurn, i16, e]
theorem pairs_ok {ks : List Str} {b : List W} {T : W} {r m s t : Nat} {h0 : He} {ns : List Str} : ∀ (qs : List Pt) (l : List (Int × List Str)) (ps : List Pt) (c3 c4 c5 : Option W) (h : He), l.map (·.2) = qs.map lnW ++ [wdL t] → Sc (ps ++ qs) ns → (∀ q ∈ qs, q.rd ks) → (ps ++ qs).length ≤ 200 → t < (ps ++ qs).length → Rd (bk ks b) ps .non r m s h → Kp h0 h → h0.length ≤ r → h0.length ≤ m → h0.length ≤ s →
    Sat (forPairs rTurn l [some (bk ks b), some T, some (.ref r), c3, c4, c5] h) fun fl g => ∃ c3 c4 c5, fl = .nx [some (bk ks b), some T, some (.ref r), c3, c4, c5] ∧ Rd (bk ks b) (ps ++ qs) (nI t) r m s g ∧ Kp h0 g
  | [], l, ps, c3, c4, c5, h, e, S, rd, len, ht, R, k, hr, hm, hs => by
    obtain ⟨p, rfl⟩ : ∃ p, l = [(p, wdL t)] := by
      cases l with
      | nil => simp at e
      | cons a l' =>
        cases l' with
        | nil => simp at e; exact ⟨a.1, by rw [← e]⟩
        | cons a2 l2 => simp at e
    rw [List.append_nil] at *
    have R1 := R.kp (Kp.app (g := [EO.lst ((wdL t).map W.str)]))
    obtain ⟨v, g, e1, rfl, R2, k2⟩ := take_word_ok (w := h.length) R1 at_end ht len
    have e2 := turn_ok (p := p) (B := bk ks b) (T := T) (c3 := c3) (c4 := c4) (c5 := c5) (R1.isI 16 (by omega)) e1
    refine Sat.of (a := Fl.nx [some (bk ks b), some T, some (.ref r), some (.int p), some (.ref h.length), some .non]) (h := g) (by simp only [forPairs]; rw [e2]; rfl) ⟨_, _, _, rfl, R2, fun i o e => ?_⟩
    have := (List.getElem?_eq_some_iff.mp e).1
    exact k2 i o (by omega) (Kp.app _ _ (k _ _ e))
  | q :: qs, l, ps, c3, c4, c5, h, e, S, rd, len, ht, R, k, hr, hm, hs => by
    obtain ⟨p, l', rfl, e'⟩ : ∃ p l', l = (p, lnW q) :: l' ∧ l'.map (·.2) = qs.map lnW ++ [wdL t] := by
      cases l with
      | nil => simp at e
      | cons a l' =>
        simp at e
        exact ⟨a.1, l', by rw [← e.1], by simpa using e.2⟩
    have R1 := R.kp (Kp.app (g := [EO.lst ((lnW q).map W.str)]))
    obtain ⟨o1, o2, o3⟩ := S.step
    have e0 : ps ++ q :: qs = (ps ++ [q]) ++ qs := by simp
    have hl : ps.length < 200 := by simp at len; omega
    obtain ⟨v, g, e1, rfl, R2, k2⟩ := take_ok (w := h.length) R1 at_end (rd q (List.mem_cons_self ..)) S.pre hl o1 o2 o3
    have e2 := turn_ok (p := p) (B := bk ks b) (T := T) (c3 := c3) (c4 := c4) (c5 := c5) (R1.isI 16 (by omega)) e1
    rw [e0] at S len ht ⊢
    have := pairs_ok (h0 := h0) (T := T) qs l' (ps ++ [q]) (some (.int p)) (some (.ref h.length)) (some .non) g e' S (fun x hx => rd x (List.mem_cons_of_mem _ hx)) len ht R2 (fun i o e => by
      have := (List.getElem?_eq_some_iff.mp e).1
      exact k2 i o (by omega) (by omega) (Kp.app _ _ (k _ _ e))) hr hm hs
    simp only [forPairs]
    rw [e2]
    exact this
end
end VE
end
section
set_option Elab.async false
set_option linter.all false
set_option autoImplicit false
set_option maxRecDepth 100000
set_option maxHeartbeats 4000000
namespace VE
open PySem GZ
theorem outs_snd : ∀ (rs : List (Option (List Str))) (k : Nat), (outs k rs).map (·.2) = rs.filterMap id
  | [], k => rfl
  | none :: r, k => by simp [outs, outs_snd r]
  | some ws :: r, k => by simp [outs, outs_snd r]
section
variable {h : He}
theorem init_ok {B : W} : ev_Reader___init__ [.ref h.length, B] (h ++ [.ins 2 []]) = .ok .non (h ++ [.ins 2 [(5, B), (6, .ref (h.length + 1)), (7, .ref (h.length + 2)), (8, .non)], .lst [], .lst []]) := by
  simp [ev_Reader___init__, fn, setF, fputW]
theorem read_script_ok {ks : List Str} {b : List W} {ps : List Pt} {t : Nat} {ns : List Str} {tx : Str} {ls : List (Str × List Str)} (hl : tx.length ≤ 1000000) (hn : Txt.split tx NL ≠ []) (ht : tlines tx = ls.map (·.1)) (L : ∀ p ∈ ls, LnT p.1 p.2) (l400 : ls.length ≤ 400)
    (ws : (ls.map fun p => opt p.2).filterMap id = ps.map lnW ++ [wdL t]) (S : Sc ps ns) (rd : ∀ q ∈ ps, q.rd ks) (len : ps.length ≤ 200) (top : t < ps.length) : Sat (ev_read_script [bk ks b, .str tx] h) fun w g => w = sw ps t ∧ Kp h g := by
  have e1 := text_ok hl hn
  have e2 := all_ok ls 0 L (by omega)
  rw [← ht] at e2
  have i := init_ok (h := h) (B := bk ks b)
  have R : Rd (bk ks b) [] .non h.length (h.length + 1) (h.length + 2) (h ++ [.ins 2 [(5, bk ks b), (6, .ref (h.length + 1)), (7, .ref (h.length + 2)), (8, .non)], .lst [], .lst []]) := ⟨by simp, by simp, by simp [words, wordsG], by omega, by omega, by omega⟩
  simp only [ev_read_script, fn]
  refine Sat.bind ?_
  refine Sat.nx (σ' := [some (bk ks b), some (.str tx), some (.ref h.length), none, none, none]) (h' := h ++ [.ins 2 [(5, bk ks b), (6, .ref (h.length + 1)), (7, .ref (h.length + 2)), (8, .non)], .lst [], .lst []]) (by simp [i]) ?_
  have kk : Kp h (h ++ [.ins 2 [(5, bk ks b), (6, .ref (h.length + 1)), (7, .ref (h.length + 2)), (8, .non)], .lst [], .lst []]) := Kp.app
  generalize h ++ [EO.ins 2 [(5, bk ks b), (6, .ref (h.length + 1)), (7, .ref (h.length + 2)), (8, .non)], .lst [], .lst []] = g at R kk
  have main := pairs_ok (h0 := h) (T := .str tx) (t := t) ps (outs 0 (ls.map fun p => opt p.2)) [] none none none g (by rw [outs_snd]; exact ws) (by simpa using S) rd (by simpa using len) (by simpa using top) R kk (by omega) (by omega) (by omega)
  rw [List.nil_append] at main
  refine Sat.seq (Sat.imp (Q := fun fl g => ∃ c3 c4 c5, fl = .nx [some (bk ks b), some (.str tx), some (.ref h.length), c3, c4, c5] ∧ Rd (bk ks b) ps (nI t) h.length (h.length + 1) (h.length + 2) g ∧ Kp h g) ?_ fun fl g2 ⟨c3, c4, c5, efl, R2, k2⟩ => ?_)
  · unfold sForC
    rw [eV_eq]
    simp only [List.getElem?_cons_zero, List.getElem?_cons_succ, Rs.bind_ok, e1, e2, Option.bind_some]
    exact main
  · subst efl
    refine ⟨_, rfl, ?_⟩
    obtain ⟨f5, f6, f7, f8⟩ := R2.fld
    refine Sat.nx (σ' := [some (bk ks b), some (.str tx), some (.ref h.length), c3, c4, c5]) (h' := g2) (by simp [f8]) ?_
    exact Sat.of (a := Fl.rt (sw ps t)) (h := g2) (by simp [f6, f8, fTuple, lst_of R2.parts]) (Sat.of rfl ⟨rfl, k2⟩)
end
end VE
end
section
set_option Elab.async false
set_option linter.all false
set_option autoImplicit false
set_option maxRecDepth 100000
set_option maxHeartbeats 4000000
namespace VE
open PySem GZ
structure Pc (p : Str) : Prop where
  sp : 32 ∉ TL.tl p
  nl : 10 ∉ TL.tl p
  len : p.length ≤ 20
theorem WkT.pc {w : Str} (h : WkT w) : Pc w := ⟨h.sp, h.nl, h.len⟩
theorem pc_e : Pc ("" : Str) := ⟨by rw [tl_E]; simp, by rw [tl_E]; simp, by decide +kernel⟩
theorem LnT.of_join {P : List Str} (h0 : P ≠ []) (h1 : P.length ≤ 50) (hp : ∀ p ∈ P, Pc p) : LnT (Txt.join SP P) (P.filter fun (w : Str) => !decide (w = "")) where
  parts := by rw [split_SP h0 fun p q => (hp p q).sp]; omega
  toks := toks_join h0 fun p q => (hp p q).sp
  len := by
    rw [TL.len_tl, tl_join', tl_SP]
    have e1 := joinL_len [32] 20 (P.map TL.tl) fun p hm => by
      obtain ⟨x, hx, rfl⟩ := List.mem_map.mp hm
      rw [← TL.len_tl]; exact (hp x hx).len
    have e2 : (P.map TL.tl).length * (20 + [32].length) ≤ 50 * 21 := Nat.mul_le_mul (by simpa using h1) (by decide)
    omega
  nl := by
    rw [tl_join', tl_SP]
    refine sep_free (by decide) _ fun p hm => ?_
    obtain ⟨x, hx, rfl⟩ := List.mem_map.mp hm
    exact (hp x hx).nl
  short := fun w hw => (hp w (List.mem_filter.mp hw).1).len
  ne := fun w hw => by simpa using (List.mem_filter.mp hw).2
theorem loose_ln {ws : List Str} {k1 c k2 : Nat} (h : ws ≠ []) (hw : ∀ w ∈ ws, WkT w) (hl : ws.length ≤ 3) (h1 : k1 ≤ 2) (hc : c ≤ 2) (h2 : k2 ≤ 2) : LnT (loose k1 c k2 ws) ws := by
  have e2 := inter_len c ws
  have e3 : ws.length * (c + 1) ≤ 3 * 3 := Nat.mul_le_mul hl (by omega)
  have := LnT.of_join (looseP_ne (k1 := k1) (c := c) (k2 := k2) h) (by simp [looseP]; omega) fun p hp => by
    rcases looseP_mem hp with q | q
    · rw [q]; exact pc_e
    · exact (hw p q).pc
  have t := loose_toks (k1 := k1) (c := c) (k2 := k2) h hw
  have e : ((looseP k1 c k2 ws).filter fun (w : Str) => !decide (w = "")) = ws := this.toks.symm.trans t
  rw [e] at this
  exact this
def blanks : List (Str × List Str) := [("", []), ("   ", []), ("# length 3", ["#", "length", "3"]), ("#", ["#"]), ("# end", ["#", "end"])]
theorem pc_dec : ∀ p ∈ (["", "#", "length", "3", "end"] : List Str), Pc p := by
  have h : ∀ p ∈ (["", "#", "length", "3", "end"] : List Str), (p.cps.toList.all fun c => c != 32 && c != 10) = true ∧ p.length ≤ 20 := by decide +kernel
  intro p hp
  obtain ⟨h1, h2⟩ := h p hp
  exact ⟨fun hm => by have := List.all_eq_true.mp h1 32 hm; simp at this, fun hm => by have := List.all_eq_true.mp h1 10 hm; simp at this, h2⟩
theorem blank_ln : ∀ p ∈ blanks, LnT p.1 p.2 ∧ fst35 p.2 = true := by
  intro p hp
  simp [blanks] at hp
  have mk : ∀ (P ws : List Str) (l : Str), l = Txt.join SP P → (P.filter fun (w : Str) => !decide (w = "")) = ws → P ≠ [] → P.length ≤ 50 → (∀ p ∈ P, p ∈ (["", "#", "length", "3", "end"] : List Str)) → LnT l ws := fun P ws l e1 e2 h0 h1 h2 => by
    have := LnT.of_join h0 h1 fun p q => pc_dec p (h2 p q)
    rw [← e1, e2] at this
    exact this
  rcases hp with rfl | rfl | rfl | rfl | rfl
  · exact ⟨mk [""] _ _ (by decide +kernel) (by decide +kernel) (by simp) (by simp) (by decide +kernel), by decide +kernel⟩
  · exact ⟨mk ["", "", "", ""] _ _ (by decide +kernel) (by decide +kernel) (by simp) (by simp) (by decide +kernel), by decide +kernel⟩
  · exact ⟨mk ["#", "length", "3"] _ _ (by decide +kernel) (by decide +kernel) (by simp) (by simp) (by decide +kernel), by decide +kernel⟩
  · exact ⟨mk ["#"] _ _ (by decide +kernel) (by decide +kernel) (by simp) (by simp) (by decide +kernel), by decide +kernel⟩
  · exact ⟨mk ["#", "end"] _ _ (by decide +kernel) (by decide +kernel) (by simp) (by simp) (by decide +kernel), by decide +kernel⟩
theorem wk_dec : ∀ p ∈ (["item", "then", "times", "word", "-", "a", "talk", "song", "z9", "bell", "drum", "pause1", "q"] : List Str), WkT p := by
  have h : ∀ p ∈ (["item", "then", "times", "word", "-", "a", "talk", "song", "z9", "bell", "drum", "pause1", "q"] : List Str), (p.cps.toList.all fun c => c != 32 && c != 10) = true ∧ p.length ≤ 20 ∧ p ≠ ("" : Str) := by decide +kernel
  intro p hp
  obtain ⟨h1, h2, h3⟩ := h p hp
  exact ⟨h3, fun hm => by have := List.all_eq_true.mp h1 32 hm; simp at this, fun hm => by have := List.all_eq_true.mp h1 10 hm; simp at this, h2⟩
theorem nms_wk {x : Str} (h : x ∈ nms) : WkT x ∧ x ≠ ("" : Str) ∧ x ≠ ("-" : Str) := by
  have h1 : ∀ x ∈ nms, x ∈ (["item", "then", "times", "word", "-", "a", "talk", "song", "z9", "bell", "drum", "pause1", "q"] : List Str) ∧ x ≠ ("-" : Str) := by decide +kernel
  have := h1 x h
  exact ⟨wk_dec x this.1, (wk_dec x this.1).ne, this.2⟩
theorem wrd_wk {x : Str} (h : x = ("" : Str) ∨ x ∈ nms) : WkT (wrd x) := by
  unfold wrd
  rcases h with q | q
  · rw [if_pos q]; exact wk_dec _ (by decide +kernel)
  · rw [if_neg (nms_wk q).2.1]; exact (nms_wk q).1
def Pt.gd (ks : List Str) : Pt → Prop
  | .it x => x = ("" : Str) ∨ (x ∈ ks ∧ x ∈ nms)
  | .th a b => a ≤ 199 ∧ b ≤ 199
  | .tm a k => a ≤ 199 ∧ 1 ≤ k ∧ k ≤ 10 ^ 18
theorem Pt.gd.rd {ks : List Str} {p : Pt} (h : p.gd ks) : p.rd ks := by
  cases p with
  | it x =>
    rcases h with q | ⟨q1, q2⟩
    · exact .inl q
    · exact .inr ⟨q1, (nms_wk q2).2⟩
  | th a b => exact h
  | tm a k => exact h
theorem lnW_wk {ks : List Str} {p : Pt} (h : p.gd ks) : ∀ w ∈ lnW p, WkT w := by
  cases p with
  | it x =>
    intro w hw
    simp [lnW] at hw
    rcases hw with rfl | rfl
    · exact wk_dec _ (by decide +kernel)
    · exact wrd_wk (h.imp id And.right)
  | th a b =>
    intro w hw
    obtain ⟨h1, h2⟩ := h
    simp [lnW] at hw
    rcases hw with rfl | rfl | rfl
    · exact wk_dec _ (by decide +kernel)
    · exact nm_wk (by omega)
    · exact nm_wk (by omega)
  | tm a k =>
    intro w hw
    obtain ⟨h1, h2, h3⟩ := h
    simp [lnW] at hw
    rcases hw with rfl | rfl | rfl
    · exact wk_dec _ (by decide +kernel)
    · exact nm_wk (by omega)
    · exact nm_wk h3
theorem wdL_wk {t : Nat} (h : t ≤ 199) : ∀ w ∈ wdL t, WkT w := by
  intro w hw
  simp [wdL] at hw
  rcases hw with rfl | rfl
  · exact wk_dec _ (by decide +kernel)
  · exact nm_wk (by omega)
theorem lnW_35 (p : Pt) : fst35 (lnW p) = false := by
  cases p with
  | it x => show decide ((TL.tl ("item" : Str)).head? = some 35) = false; decide +kernel
  | th x y => show decide ((TL.tl ("then" : Str)).head? = some 35) = false; decide +kernel
  | tm x y => show decide ((TL.tl ("times" : Str)).head? = some 35) = false; decide +kernel
theorem wdL_35 (t : Nat) : fst35 (wdL t) = false := by show decide ((TL.tl ("word" : Str)).head? = some 35) = false; decide +kernel
structure Gw (ws : List Str) : Prop where
  wk : ∀ w ∈ ws, WkT w
  ne : ws ≠ []
  len : ws.length ≤ 3
  nc : fst35 ws = false
theorem lnW_gw {ks : List Str} {p : Pt} (h : p.gd ks) : Gw (lnW p) := ⟨lnW_wk h, by cases p <;> simp [lnW], by cases p <;> simp [lnW], lnW_35 p⟩
theorem wdL_gw {t : Nat} (h : t ≤ 199) : Gw (wdL t) := ⟨wdL_wk h, by simp [wdL], by simp [wdL], wdL_35 t⟩
theorem Gw.opt {ws : List Str} (g : Gw ws) : opt ws = some ws := by unfold VE.opt; rw [g.nc]; rfl
theorem Gw.lenS {ws : List Str} (g : Gw ws) : (Txt.join SP ws).length ≤ 63 := by
  rw [TL.len_tl, tl_join', tl_SP]
  have e1 := joinL_len [32] 20 (ws.map TL.tl) fun p hm => by
    obtain ⟨x, hx, rfl⟩ := List.mem_map.mp hm
    rw [← TL.len_tl]; exact (g.wk x hx).len
  have e2 : (ws.map TL.tl).length * (20 + [32].length) ≤ 3 * 21 := Nat.mul_le_mul (by simpa using g.len) (by decide)
  omega
theorem Gw.nl {ws : List Str} (g : Gw ws) : 10 ∉ TL.tl (Txt.join SP ws) := by
  rw [tl_join', tl_SP]
  refine sep_free (by decide) _ fun p hm => ?_
  obtain ⟨x, hx, rfl⟩ := List.mem_map.mp hm
  exact (g.wk x hx).nl
end VE
end
section
set_option Elab.async false
set_option linter.all false
set_option autoImplicit false
set_option maxRecDepth 100000
set_option maxHeartbeats 4000000
namespace VE
open PySem GZ
def lnS (p : Pt) : Str := Txt.join SP (lnW p)
def wordS (t : Nat) : Str := Txt.join SP (wdL t)
def stext (ps : List Pt) (t : Nat) : Str := Txt.join NL (ps.map lnS ++ [wordS t, ""])
@[simp] theorem fStr_nat (n : Nat) (h : He) : fStr [.int (n : Int)] h = if n.log2 < 1920 then .ok (.str (nm n)) h else .bad := rfl
theorem add_str (h : He) (x y : Str) : binW h .add (.str x) (.str y) = if x.length + y.length ≤ sizeLine then .ok (.str (x ++ y)) h else .bad := rfl
theorem add_str' (h : He) {x y : Str} (hx : x.length + y.length ≤ 16777216) : binW h .add (.str x) (.str y) = .ok (.str (x ++ y)) h := by
  rw [add_str, if_pos (Nat.le_trans hx sizeLine_big)]
theorem mJoin_eq (a : Str) (y : W) (h : He) : mJoin [.str a, y] h = (match (seqOf h y).bind strsOf with
    | some ss => if (ss.map (·.length)).sum + ss.length * a.length ≤ 16777216 then .ok (.str (Txt.join a ss)) h else .bad
    | none => .bad) := rfl
theorem tl_it (x : Str) : ("item " : Str) ++ wrd x = lnS (.it x) := by
  apply TL.ext_tl
  unfold lnS
  rw [tl_join', tl_SP, TL.tl_append, TL.tl_ofString]
  show _ = TL.tl ("item" : Str) ++ ([32] ++ TL.tl (wrd x))
  rw [TL.tl_ofString]; rfl
theorem tl_3 (k : String) (a b : Nat) : Str.ofString k ++ SP ++ nm a ++ SP ++ nm b = Txt.join SP [Str.ofString k, nm a, nm b] := by
  apply TL.ext_tl
  rw [tl_join', tl_SP, TL.tl_append, TL.tl_append, TL.tl_append, TL.tl_append, tl_SP]
  show _ = TL.tl (Str.ofString k) ++ ([32] ++ (TL.tl (nm a) ++ ([32] ++ TL.tl (nm b))))
  simp
theorem joinL_nl : ∀ (ls : List (List Nat)) (w : List Nat), (ls.map fun l => l ++ [10]).flatten ++ w ++ [10] = TL.joinL [10] (ls ++ [w, []])
  | [], w => by simp [TL.joinL]
  | l :: r, w => by
    rw [List.cons_append, joinL_cons l (by simp), ← joinL_nl r w]
    simp
theorem joinL_e : ∀ ls : List (List Nat), TL.joinL [] ls = ls.flatten
  | [] => rfl
  | [p] => by simp [TL.joinL]
  | p :: q :: r => by rw [joinL_cons p (by simp), joinL_e (q :: r)]; simp
theorem stext_eq (ps : List Pt) (t : Nat) : Txt.join ("" : Str) ((ps.map lnS).map fun l => l ++ NL) ++ ("word " : Str) ++ nm t ++ NL = stext ps t := by
  apply TL.ext_tl
  unfold stext
  rw [tl_join', tl_NL, TL.tl_append, TL.tl_append, TL.tl_append, tl_join', tl_E, tl_NL, joinL_e, List.map_append]
  have e1 : (((ps.map lnS).map fun l => l ++ NL).map TL.tl) = ((ps.map lnS).map TL.tl).map fun l => l ++ [10] := by
    simp only [List.map_map]
    apply List.map_congr_left
    intro p _
    show TL.tl (lnS p ++ NL) = TL.tl (lnS p) ++ [10]
    rw [TL.tl_append, tl_NL]
  have e2 : ([wordS t, ""] : List Str).map TL.tl = [TL.tl (wordS t), []] := by
    show [TL.tl (wordS t), TL.tl ("" : Str)] = _
    rw [tl_E]
  have e3 : TL.tl (wordS t) = TL.tl ("word " : Str) ++ TL.tl (nm t) := by
    unfold wordS
    rw [tl_join', tl_SP, TL.tl_ofString]
    show TL.tl ("word" : Str) ++ ([32] ++ TL.tl (nm t)) = _
    rw [TL.tl_ofString]; rfl
  rw [e1, e2, ← joinL_nl, e3]
  simp
section
variable {ps : List Pt} {t : Nat} {h : He}
theorem nmlog {n : Nat} (h : n ≤ 10 ^ 18) : n.log2 < 1920 := by have := lg (n := n) (by omega); omega
theorem lenw : (("item" : Str)).length ≤ 20 ∧ (("item " : Str)).length ≤ 20 ∧ (("then" : Str)).length ≤ 20 ∧ (("times" : Str)).length ≤ 20 ∧ SP.length ≤ 20 ∧ NL.length ≤ 20 ∧ (("word " : Str)).length ≤ 20 := by decide +kernel
theorem law_node_ok {x : Str} : ev__law_node [.str x] h = .ok (.str (wrd x)) h := by
  by_cases c : x = ("" : Str)
  · simp [ev__law_node, fn, wrd, c]
  · simp [ev__law_node, fn, wrd, c]
theorem sum_len (B : Nat) : ∀ ls : List Str, (∀ l ∈ ls, l.length ≤ B) → (ls.map (·.length)).sum ≤ ls.length * B
  | [], _ => by simp
  | l :: r, h => by
    have e1 := sum_len B r fun z hz => h z (List.mem_cons_of_mem _ hz)
    have e2 := h l (List.mem_cons_self ..)
    have e3 : (l :: r).length * B = r.length * B + B := Nat.succ_mul _ _
    rw [e3, List.map_cons, List.sum_cons]; omega
theorem script_text_ok {ks : List Str} (gd : ∀ p ∈ ps, p.gd ks) (hl : ps.length ≤ 160) (ht : t ≤ 199) : ∃ g, ev__law_script_text [sw ps t] h = .ok (.str (stext ps t)) g ∧ Kp h g := by
  obtain ⟨w1, w2, w3, w4, w5, w6, w7⟩ := lenw
  have main : Sat (ev__law_script_text [sw ps t] h) fun w g => w = .str (stext ps t) ∧ Kp h g := by
    simp only [ev__law_script_text, fn]
    refine Sat.bind ?_
    refine Sat.nx (σ' := [some (sw ps t), some (.ref h.length), none, none]) (h' := h ++ [.lst []]) (by simp) ?_
    refine Sat.seq (Sat.imp (Q := fun fl g => ∃ c2, fl = .nx [some (sw ps t), some (.ref h.length), c2, none] ∧ g = h ++ [.lst ((ps.map lnS).map W.str)]) ?_ fun fl g ⟨c2, efl, hg⟩ => ?_)
    · rw [sFor_eq]
      refine Sat.bind (Sat.of (a := .fix (ps.map Pt.w)) (h := h ++ [.lst []]) (by simp) ?_)
      refine for_sat (fun i σ g => (∃ c2, σ = [some (sw ps t), some (.ref h.length), c2, none]) ∧ g = h ++ [.lst (((ps.take i).map lnS).map W.str)]) _ 0 _ _ ⟨⟨_, rfl⟩, by simp⟩ (fun j x σ g ej ⟨⟨c2, hσ⟩, hg⟩ => ?_) fun σ g ⟨⟨c2, hσ⟩, hg⟩ => ?_
      · obtain ⟨p, ep, rfl⟩ := map_at ej
        have hj := (List.getElem?_eq_some_iff.mp ep).1
        have hs : min j ps.length < sizeLine := lt_line (by omega)
        have hp := gd p (List.mem_of_getElem? ep)
        rw [Nat.zero_add] at hg ⊢
        subst hσ
        rw [take_snoc ep, List.map_append, List.map_append]
        have at_ : g[h.length]? = some (.lst (((ps.take j).map lnS).map W.str)) := by rw [hg]; exact at_end
        have st : g.set h.length (.lst (((ps.take j).map lnS).map W.str ++ ([p].map lnS).map W.str)) = h ++ [.lst (((ps.take j).map lnS).map W.str ++ ([p].map lnS).map W.str)] := by rw [hg, set_end]
        have ll : (((ps.take j).map lnS).map W.str).length < sizeLine := by simpa using hs
        generalize ((ps.take j).map lnS).map W.str = acc at at_ st ll
        refine for_step (σ' := [some (sw ps t), some (.ref h.length), some p.w, none]) (h' := h ++ [.lst (acc ++ ([p].map lnS).map W.str)]) ?_ ⟨⟨_, rfl⟩, rfl⟩
        cases p with
        | it x =>
          have hw := (wrd_wk (hp.imp id And.right)).len
          simp [lst_of at_, Pt.w, law_node_ok, add_str' g (x := ("item " : Str)) (y := wrd x) (by omega), at_, ll, tl_it]
          simpa using st
        | th a b =>
          obtain ⟨ha, hb⟩ := hp
          have la := nm_len (n := a) (by omega)
          have lb := nm_len (n := b) (by omega)
          have x1 := Str.length_append ("then" : Str) SP
          have x2 := Str.length_append (("then" : Str) ++ SP) (nm a)
          have x3 := Str.length_append (("then" : Str) ++ SP ++ nm a) SP
          have e := tl_3 "then" a b
          have a1 := add_str' g (x := ("then" : Str)) (y := SP) (by omega)
          have a2 := add_str' g (x := ("then" : Str) ++ SP) (y := nm a) (by omega)
          have a3 := add_str' g (x := ("then" : Str) ++ SP ++ nm a) (y := SP) (by omega)
          have a4 := add_str' g (x := ("then" : Str) ++ SP ++ nm a ++ SP) (y := nm b) (by omega)
          rw [e] at a4
          simp [lst_of at_, Pt.w, s2, a1, a2, a3, a4, nmlog (n := a) (by omega), nmlog (n := b) (by omega), at_, ll]
          simpa [lnS, lnW] using st
        | tm a b =>
          obtain ⟨ha, hb0, hb⟩ := hp
          have la := nm_len (n := a) (by omega)
          have lb := nm_len (n := b) (by omega)
          have x1 := Str.length_append ("times" : Str) SP
          have x2 := Str.length_append (("times" : Str) ++ SP) (nm a)
          have x3 := Str.length_append (("times" : Str) ++ SP ++ nm a) SP
          have e := tl_3 "times" a b
          have a1 := add_str' g (x := ("times" : Str)) (y := SP) (by omega)
          have a2 := add_str' g (x := ("times" : Str) ++ SP) (y := nm a) (by omega)
          have a3 := add_str' g (x := ("times" : Str) ++ SP ++ nm a) (y := SP) (by omega)
          have a4 := add_str' g (x := ("times" : Str) ++ SP ++ nm a ++ SP) (y := nm b) (by omega)
          rw [e] at a4
          simp [lst_of at_, Pt.w, s3, a1, a2, a3, a4, nmlog (n := a) (by omega), nmlog (n := b) (by omega), at_, ll]
          simpa [lnS, lnW] using st
      · subst hσ
        refine ⟨c2, rfl, ?_⟩
        rw [hg, Nat.zero_add, List.length_map, List.take_length]
    · subst efl hg
      refine ⟨_, rfl, ?_⟩
      have L63 : ∀ l ∈ ps.map lnS, l.length ≤ 63 := fun l hm => by
        obtain ⟨p, hp, rfl⟩ := List.mem_map.mp hm
        exact (lnW_gw (gd p hp)).lenS
      have ll : (ps.map lnS).length ≤ 160 := by simpa using hl
      have se := stext_eq ps t
      generalize ps.map lnS = L at L63 ll se
      have q1 : Sat (lcLive (lcT [some (sw ps t), some (.ref h.length), c2, none] (eBin .add (eV 3) (eK (.str "\n"))) (gV 3) tYes [3]) (.ref h.length) FU 0 [] (h ++ [.lst (L.map W.str)])) fun acc g => acc = (L.map fun l => l ++ NL).map W.str ∧ g = h ++ [.lst (L.map W.str)] := by
        refine lclive_sat (L.map W.str) (fun i acc g => acc = ((L.take i).map fun l => l ++ NL).map W.str ∧ g = h ++ [.lst (L.map W.str)]) (fun i acc g ⟨_, q⟩ => by rw [q]; exact lst_of at_end) (fun i x acc g ei ⟨q1, q2⟩ => ?_) (fun acc g ⟨q1, q2⟩ => ⟨by rw [q1, List.length_map, List.take_length], q2⟩) FU 0 [] _ (FU_big (by simp; omega)) (by simp) ⟨by simp, rfl⟩
        obtain ⟨m, em, rfl⟩ := map_str_at ei
        subst q1 q2
        have hj := (List.getElem?_eq_some_iff.mp em).1
        have hs : min i L.length < sizeLine := lt_line (by omega)
        have hm := L63 m (List.mem_of_getElem? em)
        rw [take_snoc em, List.map_append, List.map_append]
        exact Sat.of (h := h ++ [.lst (L.map W.str)]) (by simp [-List.map_take, -List.map_map, hs, add_str' _ (x := m) (y := NL) (by omega)]) ⟨rfl, rfl⟩
      have q1 := Sat.eq (a := (L.map fun l => l ++ NL).map W.str) (h := h ++ [.lst (L.map W.str)]) q1
      have sl := sum_len 83 (L.map fun l => l ++ NL) fun l hm => by
        obtain ⟨p, hp, rfl⟩ := List.mem_map.mp hm
        have := L63 p hp
        rw [Str.length_append]; omega
      rw [List.length_map] at sl
      have sl2 : L.length * 83 ≤ 160 * 83 := Nat.mul_le_mul_right _ ll
      have jl : (Txt.join ("" : Str) (L.map fun l => l ++ NL)).length ≤ 14000 := by
        rw [TL.len_tl, tl_join', tl_E, joinL_e, List.length_flatten]
        have : ((L.map fun l => l ++ NL).map TL.tl).map List.length = (L.map fun l => l ++ NL).map (·.length) := by
          rw [List.map_map]
          apply List.map_congr_left
          intro l _
          exact (TL.len_tl l).symm
        rw [this]; omega
      have lt' := nm_len (n := t) (by omega)
      have x1 := Str.length_append (Txt.join ("" : Str) (L.map fun l => l ++ NL)) ("word " : Str)
      have x2 := Str.length_append (Txt.join ("" : Str) (L.map fun l => l ++ NL) ++ ("word " : Str)) (nm t)
      have jn : mJoin [.str "", .ref (h.length + 1)] ((h ++ [.lst (L.map W.str)]) ++ [.lst ((L.map fun l => l ++ NL).map W.str)]) = .ok (.str (Txt.join ("" : Str) (L.map fun l => l ++ NL))) ((h ++ [.lst (L.map W.str)]) ++ [.lst ((L.map fun l => l ++ NL).map W.str)]) := by
        have e1 : lstOf ((h ++ [EO.lst (L.map W.str)]) ++ [EO.lst ((L.map fun l => l ++ NL).map W.str)]) (.ref (h.length + 1)) = some ((L.map fun l => l ++ NL).map W.str) := lst_of (by simp)
        rw [mJoin_eq, seqOf_ref, e1, Option.bind_some, strs_map]
        have z : ("" : Str).length = 0 := by decide +kernel
        dsimp only
        rw [if_pos (by rw [z]; omega)]
      have a1 := add_str' ((h ++ [.lst (L.map W.str)]) ++ [.lst ((L.map fun l => l ++ NL).map W.str)]) (x := Txt.join ("" : Str) (L.map fun l => l ++ NL)) (y := ("word " : Str)) (by omega)
      have a2 := add_str' ((h ++ [.lst (L.map W.str)]) ++ [.lst ((L.map fun l => l ++ NL).map W.str)]) (x := Txt.join ("" : Str) (L.map fun l => l ++ NL) ++ ("word " : Str)) (y := nm t) (by omega)
      have a3 := add_str' ((h ++ [.lst (L.map W.str)]) ++ [.lst ((L.map fun l => l ++ NL).map W.str)]) (x := Txt.join ("" : Str) (L.map fun l => l ++ NL) ++ ("word " : Str) ++ nm t) (y := NL) (by omega)
      rw [se] at a3
      refine Sat.of (a := Fl.rt (.str (stext ps t))) (h := (h ++ [.lst (L.map W.str)]) ++ [.lst ((L.map fun l => l ++ NL).map W.str)]) ?_ (Sat.of rfl ⟨rfl, Kp.app.trans Kp.app⟩)
      generalize hLL : (L.map fun l => l ++ NL) = LL at q1 jn a1 a2 a3
      simp only [sRet_eq, eBin_eq, eBmS_eq, eK_eq, Rs.bind_ok, isStr_str, if_true, esC_eq, eLc_eq, iE_eq, eV_eq, List.getElem?_cons_zero, List.getElem?_cons_succ, itOf_ref, lst_of at_end, Option.map_some, Rs.lift_some, q1, esN_eq]
      simp [-List.append_assoc, jn, a1, a2, a3, nmlog (n := t) (by omega)]
  obtain ⟨w, g, e, rfl, k⟩ := main
  exact ⟨g, e, k⟩
end
end VE
end
section
set_option Elab.async false
set_option linter.all false
set_option autoImplicit false
set_option maxRecDepth 100000
set_option maxHeartbeats 4000000
namespace VE
open PySem GZ
structure TxOk (tx : Str) (LW : List (List Str)) (ls : List (Str × List Str)) : Prop where
  len : tx.length ≤ 1000000
  ne : Txt.split tx NL ≠ []
  lines : tlines tx = ls.map (·.1)
  ln : ∀ p ∈ ls, LnT p.1 p.2
  few : ls.length ≤ 400
  tells : (ls.map fun p => opt p.2).filterMap id = LW
theorem fst_len {ls : List (Str × List Str)} (L : ∀ p ∈ ls, LnT p.1 p.2) (B : Nat) (hB : ls.length ≤ B) : (TL.joinL [10] ((ls.map (·.1)).map TL.tl)).length ≤ B * 2001 := by
  have e1 := joinL_len [10] 2000 ((ls.map (·.1)).map TL.tl) fun p hm => by
    obtain ⟨x, hx, rfl⟩ := List.mem_map.mp hm
    obtain ⟨y, hy, rfl⟩ := List.mem_map.mp hx
    rw [← TL.len_tl]; exact (L y hy).len
  have e2 : ((ls.map (·.1)).map TL.tl).length * (2000 + [10].length) ≤ B * 2001 := Nat.mul_le_mul (by simpa using hB) (by decide)
  omega
theorem tx_of {ls lt : List (Str × List Str)} {LW : List (List Str)} (L : ∀ p ∈ ls, LnT p.1 p.2) (h0 : ls ≠ []) (few : ls.length ≤ 400) (e : tlines (Txt.join NL (ls.map (·.1))) = lt.map (·.1)) (Lt : ∀ p ∈ lt, LnT p.1 p.2) (few2 : lt.length ≤ 400) (t : (lt.map fun p => opt p.2).filterMap id = LW) : TxOk (Txt.join NL (ls.map (·.1))) LW lt where
  len := by
    rw [TL.len_tl, tl_join', tl_NL]
    have := fst_len L 400 few
    omega
  ne := by
    rw [split_NL (by simpa using h0) fun p hp => by
      obtain ⟨y, hy, rfl⟩ := List.mem_map.mp hp
      exact (L y hy).nl]
    simpa using h0
  lines := e
  ln := Lt
  few := few2
  tells := t
theorem opt_none {ws : List Str} (h : fst35 ws = true) : opt ws = none := by unfold opt; rw [h]; rfl
theorem tl_join_app (X : List Str) (Y : List Str) (hX : X ≠ []) (hY : Y ≠ []) : Txt.join NL (X ++ Y) = Txt.join NL X ++ (NL ++ Txt.join NL Y) := by
  apply TL.ext_tl
  rw [TL.tl_append, TL.tl_append, tl_join', tl_join', tl_join', tl_NL, List.map_append, joinL_app _ _ (by simpa using hX) (by simpa using hY)]
def tails : List (Str × List (Str × List Str)) := [("", []), ("\n", [("", [])]), ("\n# end", [("# end", ["#", "end"])]), ("\n\n", [("", []), ("", [])])]
abbrev bE : Str × List Str := ("", [])
abbrev bH : Str × List Str := ("# end", ["#", "end"])
theorem tail_ok {e : Str} {E : List (Str × List Str)} (he : (e, E) ∈ tails) {ls : List (Str × List Str)} {LW : List (List Str)} {l' : List (Str × List Str)} {s : Str} {ws : List Str} (hl : ls = l' ++ [(s, ws)]) (hs : s ≠ "") (L : ∀ p ∈ ls, LnT p.1 p.2) (few : ls.length ≤ 390) (t : (ls.map fun p => opt p.2).filterMap id = LW) : ∃ lt, TxOk (Txt.join NL (ls.map (·.1)) ++ e) LW lt := by
  have h0 : ls ≠ [] := by rw [hl]; simp
  have h0' : ls.map (·.1) ≠ [] := by simpa using h0
  have nl : ∀ p ∈ ls.map (·.1), 10 ∉ TL.tl p := fun p hp => by
    obtain ⟨y, hy, rfl⟩ := List.mem_map.mp hp
    exact (L y hy).nl
  have b0 := (blank_ln bE (by simp [blanks, bE])).1
  have b1 := (blank_ln bH (by simp [blanks, bH])).1
  have t0 : opt ([] : List Str) = none := opt_none rfl
  have t1 : opt (["#", "end"] : List Str) = none := opt_none (blank_ln bH (by simp [blanks, bH])).2
  have last : (ls.map (·.1)).getLast? = some s := by rw [hl]; simp
  simp [tails] at he
  rcases he with ⟨rfl, rfl⟩ | ⟨rfl, rfl⟩ | ⟨rfl, rfl⟩ | ⟨rfl, rfl⟩
  · have e1 : Txt.join NL (ls.map (·.1)) ++ ("" : Str) = Txt.join NL (ls.map (·.1)) := TL.ext_tl (by rw [TL.tl_append, tl_E, List.append_nil])
    rw [e1]
    refine ⟨ls, tx_of L h0 (by omega) ?_ L (by omega) t⟩
    unfold tlines
    rw [split_NL h0' nl, last, if_neg (by intro q; exact hs (Option.some.inj q))]
  · have e1 : Txt.join NL (ls.map (·.1)) ++ ("\n" : Str) = Txt.join NL ((ls ++ [bE]).map (·.1)) := by
      rw [List.map_append, tl_join_app _ _ h0' (by simp)]
      rfl
    rw [e1]
    have L2 : ∀ p ∈ ls ++ [bE], LnT p.1 p.2 := fun p hp => by
      rcases List.mem_append.mp hp with q | q
      · exact L p q
      · rw [List.mem_singleton.mp q]; exact b0
    refine ⟨ls, tx_of L2 (by simp) (by simp; omega) ?_ L (by omega) t⟩
    unfold tlines
    rw [split_NL (by simp) fun p hp => by
      obtain ⟨y, hy, rfl⟩ := List.mem_map.mp hp
      exact (L2 y hy).nl]
    simp
  · have e1 : Txt.join NL (ls.map (·.1)) ++ ("\n# end" : Str) = Txt.join NL ((ls ++ [bH]).map (·.1)) := by
      rw [List.map_append, tl_join_app _ _ h0' (by simp)]
      have : ("\n# end" : Str) = NL ++ Txt.join NL ([bH].map fun (x : Str × List Str) => x.1) := by decide +kernel
      rw [this]
    rw [e1]
    have L2 : ∀ p ∈ ls ++ [bH], LnT p.1 p.2 := fun p hp => by
      rcases List.mem_append.mp hp with q | q
      · exact L p q
      · rw [List.mem_singleton.mp q]; exact b1
    refine ⟨ls ++ [bH], tx_of L2 (by simp) (by simp; omega) ?_ L2 (by simp; omega) (by simp [t1]; simpa using t)⟩
    unfold tlines
    rw [split_NL (by simp) fun p hp => by
      obtain ⟨y, hy, rfl⟩ := List.mem_map.mp hp
      exact (L2 y hy).nl]
    have : ¬ (("# end" : Str) = "") := by decide +kernel
    simp [this]
  · have e1 : Txt.join NL (ls.map (·.1)) ++ ("\n\n" : Str) = Txt.join NL ((ls ++ [bE, bE]).map (·.1)) := by
      rw [List.map_append, tl_join_app _ _ h0' (by simp)]
      have : ("\n\n" : Str) = NL ++ Txt.join NL ([bE, bE].map fun (x : Str × List Str) => x.1) := by decide +kernel
      rw [this]
    rw [e1]
    have L2 : ∀ p ∈ ls ++ [bE, bE], LnT p.1 p.2 := fun p hp => by
      rcases List.mem_append.mp hp with q | q
      · exact L p q
      · simp at q; rw [q]; exact b0
    have L3 : ∀ p ∈ ls ++ [bE], LnT p.1 p.2 := fun p hp => by
      rcases List.mem_append.mp hp with q | q
      · exact L p q
      · rw [List.mem_singleton.mp q]; exact b0
    refine ⟨ls ++ [bE], tx_of L2 (by simp) (by simp; omega) ?_ L3 (by simp; omega) (by simp [t0]; simpa using t)⟩
    unfold tlines
    rw [split_NL (by simp) fun p hp => by
      obtain ⟨y, hy, rfl⟩ := List.mem_map.mp hp
      exact (L2 y hy).nl]
    simp
end VE
end
section
set_option Elab.async false
set_option linter.all false
set_option autoImplicit false
set_option maxRecDepth 100000
set_option maxHeartbeats 4000000
namespace VE
open PySem GZ
@[simp] theorem eStrMul_eq' (a b : E) (σ : Sg) (h : He) : eStrMul a b σ h = ((a σ h).bind fun x h => (b σ h).bind fun y h => match x, y with
  | .str x, .int n => if 0 ≤ n ∧ n ≤ 1000 ∧ x.length ≤ 1000 then .ok (.str (repW x n)) h else .bad
  | _, _ => .bad) := rfl
theorem mReplace_eq (x a b : Str) (h : He) : mReplace [.str x, .str a, .str b] h = if x.length ≤ 100000 ∧ b.length ≤ 100 ∧ a.length = 1 then .ok (.str (Txt.replace x a b)) h else .bad := rfl
def repS (k : Nat) : Str := SX.S (List.replicate k 32)
theorem rep_dec : ∀ k : Nat, k ≤ 2 → repW SP (k : Int) = repS k ∧ (repS k).length ≤ 3 := by
  intro k hk
  rcases (show k = 0 ∨ k = 1 ∨ k = 2 by omega) with rfl | rfl | rfl <;> decide +kernel
theorem sep_dec {w : W} (h : w ∈ [W.str " ", .str "  ", .str "   "]) : ∃ c, c ≤ 2 ∧ w = .str (repS (c + 1)) ∧ (repS (c + 1)).length ≤ 3 := by
  simp at h
  have e0 : (" " : Str) = repS (0 + 1) ∧ (repS (0 + 1)).length ≤ 3 := by decide +kernel
  have e1 : ("  " : Str) = repS (1 + 1) ∧ (repS (1 + 1)).length ≤ 3 := by decide +kernel
  have e2 : ("   " : Str) = repS (2 + 1) ∧ (repS (2 + 1)).length ≤ 3 := by decide +kernel
  rcases h with rfl | rfl | rfl
  · exact ⟨0, by omega, by rw [← e0.1], e0.2⟩
  · exact ⟨1, by omega, by rw [← e1.1], e1.2⟩
  · exact ⟨2, by omega, by rw [← e2.1], e2.2⟩
theorem blank_dec {w : W} (h : w ∈ [W.str "", .str "   ", .str "# length 3", .str "#"]) : ∃ p ∈ blanks, w = .str p.1 := by
  simp at h
  rcases h with rfl | rfl | rfl | rfl
  · exact ⟨("", []), by simp [blanks], rfl⟩
  · exact ⟨("   ", []), by simp [blanks], rfl⟩
  · exact ⟨("# length 3", ["#", "length", "3"]), by simp [blanks], rfl⟩
  · exact ⟨("#", ["#"]), by simp [blanks], rfl⟩
theorem tail_dec {w : W} (h : w ∈ [W.str "", .str "\n", .str "\n# end", .str "\n\n"]) : ∃ p ∈ tails, w = .str p.1 ∧ p.1.length ≤ 10 := by
  simp at h
  rcases h with rfl | rfl | rfl | rfl
  · exact ⟨("", []), by simp [tails], rfl, by decide +kernel⟩
  · exact ⟨("\n", [("", [])]), by simp [tails], rfl, by decide +kernel⟩
  · exact ⟨("\n# end", [("# end", ["#", "end"])]), by simp [tails], rfl, by decide +kernel⟩
  · exact ⟨("\n\n", [("", []), ("", [])]), by simp [tails], rfl, by decide +kernel⟩
theorem loose_ne {ws : List Str} (h : ws ≠ []) (hw : ∀ w ∈ ws, WkT w) (k1 c k2 : Nat) : loose k1 c k2 ws ≠ ("" : Str) := fun q => by
  have t := loose_toks (k1 := k1) (c := c) (k2 := k2) h hw
  rw [q] at t
  have := (blank_ln bE (by simp [blanks, bE])).1.toks
  rw [this] at t
  exact h t.symm
section
variable {tb n : Nat} {h : He}
abbrev oSg (tb : Nat) (tx : Str) (T0 : Nat) (c3 : Option W) : Sg := [some (.ref tb), some (.str tx), some (.ref T0), c3]
structure Lo (LW : List (List Str)) (i : Nat) (ls : List (Str × List Str)) : Prop where
  ln : ∀ p ∈ ls, LnT p.1 p.2
  few : ls.length ≤ 2 * i
  tells : (ls.map fun p => opt p.2).filterMap id = LW.take i
  last : i = 0 ∨ ∃ l' s ws, ls = l' ++ [(s, ws)] ∧ s ≠ ("" : Str)
theorem loose_turn {LW : List (List Str)} {i T0 : Nat} {ls : List (Str × List Str)} {ws : List Str} {tx : Str} {c3 : Option W} (T : Tb tb n h) (hn : n + 10 ≤ BM) (e : LW[i]? = some ws) (g : Gw ws) (L : Lo LW i ls) (li : i < 170) (ht : h[T0]? = some (.lst ((ls.map (·.1)).map W.str))) (hne : T0 ≠ tb) :
    Sat (trn (gV 3) (sSeq (sIf (tCmp .eq (eCall ev__law_dip (esC (eV 0) (esC (eK (.int 4)) esN))) (eK (.int 0))) (sEx (eBmL mAppend (eV 2) (esC (eCall ev__law_of (esC (eV 0) (esC (eTup (esC (eK (.str "")) (esC (eK (.str "   ")) (esC (eK (.str "# length 3")) (esC (eK (.str "#")) esN))))) esN))) esN))) sNil) (sEx (eBmL mAppend (eV 2) (esC (eBin .add (eBin .add (eStrMul (eK (.str " ")) (eCall ev__law_dip (esC (eV 0) (esC (eK (.int 3)) esN)))) (eBmS mReplace (eV 3) (esC (eK (.str " ")) (esC (eCall ev__law_of (esC (eV 0) (esC (eTup (esC (eK (.str " ")) (esC (eK (.str "  ")) (esC (eK (.str "   ")) esN)))) esN))) esN)))) (eStrMul (eK (.str " ")) (eCall ev__law_dip (esC (eV 0) (esC (eK (.int 2)) esN))))) esN)))) (.str (Txt.join SP ws)) (oSg tb tx T0 c3) h) fun fl g => ∃ ls' : List (Str × List Str), fl = .nx (oSg tb tx T0 (some (.str (Txt.join SP ws)))) ∧ Lo LW (i + 1) ls' ∧ g[T0]? = some (.lst ((ls'.map (·.1)).map W.str)) ∧ Tb tb (n + 10) g ∧ h.length ≤ g.length ∧ ∀ j o, j ≠ tb → j ≠ T0 → h[j]? = some o → g[j]? = some o := by
  have lS := g.lenS
  rw [trn_eq]
  refine Sat.bind (Sat.of (a := oSg tb tx T0 (some (.str (Txt.join SP ws)))) (h := h) (by simp) ?_)
  -- perhaps a blank line
  refine Sat.seq (Sat.imp (Q := fun fl g => ∃ ls1 : List (Str × List Str), fl = .nx (oSg tb tx T0 (some (.str (Txt.join SP ws)))) ∧ (∀ p ∈ ls1, LnT p.1 p.2) ∧ ls1.length ≤ 2 * i + 1 ∧ (ls1.map fun p => opt p.2).filterMap id = LW.take i ∧ g[T0]? = some (.lst ((ls1.map (·.1)).map W.str)) ∧ Tb tb (n + 3) g ∧ h.length ≤ g.length ∧ ∀ j o, j ≠ tb → j ≠ T0 → h[j]? = some o → g[j]? = some o) ?_ fun fl g1 ⟨ls1, efl, L1, f1, t1, at1, T1, len1, k1⟩ => ?_)
  · obtain ⟨r, h1, e1, hr, T1, k1⟩ := dipI T (by omega) (K := 4) (by omega) (by omega)
    by_cases c : r = 0
    · subst c
      obtain ⟨w, h2, e2, hw, T2, k2⟩ := of_tup (xs := [W.str "", .str "   ", .str "# length 3", .str "#"]) T1 (by omega) (by simp) (by simp)
      obtain ⟨p, hp, rfl⟩ := blank_dec hw
      have at2 := k2.at_ _ _ hne (k1.at_ _ _ hne ht)
      have lt2 := (List.getElem?_eq_some_iff.mp at2).1
      have hs : ls.length < sizeLine := lt_line (by have := L.few; omega)
      have b := blank_ln p hp
      have ap : (ls.map (·.1)).map W.str ++ [W.str p.1] = ((ls ++ [p]).map (·.1)).map W.str := by simp
      have at1 := k1.at_ _ _ hne ht
      refine Sat.of (a := Fl.nx (oSg tb tx T0 (some (.str (Txt.join SP ws))))) (h := h2.set T0 (.lst (((ls ++ [p]).map (·.1)).map W.str))) (by
        simp at e1
        simp [-List.map_append, -List.map_map, e1, lst_of at1, e2, at2, hs, ap]) ⟨ls ++ [p], rfl, ?_, by have := L.few; simp; omega, ?_, by rw [List.getElem?_set_self lt2], ?_, by have := k1.len; have := k2.len; simp; omega, fun j o h1 h2 e => ?_⟩
      · intro q hq
        rcases List.mem_append.mp hq with z | z
        · exact L.ln q z
        · rw [List.mem_singleton.mp z]; exact b.1
      · rw [List.map_append, List.filterMap_append, L.tells]
        simp [opt_none b.2]
      · obtain ⟨d, m, cc, e', r'⟩ := T2.mono (show n + 1 + 1 ≤ n + 3 by omega)
        exact ⟨d, m, cc, by rw [List.getElem?_set_ne hne]; exact e', r'⟩
      · rw [List.getElem?_set_ne (Ne.symm h2)]
        exact k2.at_ _ _ h1 (k1.at_ _ _ h1 e)
    · have c1 : ¬ ((r : Int) = 0) := by omega
      exact Sat.of (a := Fl.nx (oSg tb tx T0 (some (.str (Txt.join SP ws))))) (h := h1) (by simp [e1, c]) ⟨ls, rfl, L.ln, by have := L.few; omega, L.tells, k1.at_ _ _ hne ht, T1.mono (by omega), k1.len, fun j o h1 h2 e => k1.at_ _ _ h1 e⟩
  · subst efl
    refine ⟨_, rfl, ?_⟩
    obtain ⟨x1, g2, e1, hx1, T2, k2⟩ := dipI T1 (by omega) (K := 3) (by omega) (by omega)
    obtain ⟨w, g3, e2, hw, T3, k3⟩ := of_tup (xs := [W.str " ", .str "  ", .str "   "]) T2 (by omega) (by simp) (by simp)
    obtain ⟨c, hc, rfl, lsep⟩ := sep_dec hw
    obtain ⟨x2, g4, e3, hx2, T4, k4⟩ := dipI T3 (by omega) (K := 2) (by omega) (by omega)
    have at4 := k4.at_ _ _ hne (k3.at_ _ _ hne (k2.at_ _ _ hne at1))
    have lt4 := (List.getElem?_eq_some_iff.mp at4).1
    have hs : ls1.length < sizeLine := lt_line (by omega)
    obtain ⟨r1, r1l⟩ := rep_dec x1 (by omega)
    obtain ⟨r2, r2l⟩ := rep_dec x2 (by omega)
    have lq := loose_eq (k1 := x1) (c := c) (k2 := x2) g.ne g.wk
    have rl := TK.replace_len (Txt.join SP ws) SP (repS (c + 1))
    have lq : repS x1 ++ Txt.replace (Txt.join SP ws) SP (repS (c + 1)) ++ repS x2 = loose x1 c x2 ws := lq
    have rb : (Txt.replace (Txt.join SP ws) SP (repS (c + 1))).length ≤ 255 := by
      have e1 : ((Txt.join SP ws).length + 1) * (repS (c + 1)).length ≤ 64 * 3 := Nat.mul_le_mul (by omega) lsep
      omega
    have rp : mReplace [.str (Txt.join SP ws), .str SP, .str (repS (c + 1))] g3 = .ok (.str (Txt.replace (Txt.join SP ws) SP (repS (c + 1)))) g3 := by
      rw [mReplace_eq, if_pos ⟨by omega, by omega, by decide +kernel⟩]
    have x0 := Str.length_append (repS x1) (Txt.replace (Txt.join SP ws) SP (repS (c + 1)))
    have a1 := add_str' g3 (x := repS x1) (y := Txt.replace (Txt.join SP ws) SP (repS (c + 1))) (by omega)
    have a2 := add_str' g4 (x := repS x1 ++ Txt.replace (Txt.join SP ws) SP (repS (c + 1))) (y := repS x2) (by omega)
    rw [lq] at a2
    have lsp : SP.length ≤ 1000 := by decide +kernel
    have hx1' : (x1 : Int) ≤ 1000 := by omega
    have hx2' : (x2 : Int) ≤ 1000 := by omega
    have ap : (ls1.map (·.1)).map W.str ++ [W.str (loose x1 c x2 ws)] = ((ls1 ++ [(loose x1 c x2 ws, ws)]).map (·.1)).map W.str := by simp
    generalize hz : ((ls1 ++ [(loose x1 c x2 ws, ws)]).map (·.1)).map W.str = zs at ap
    have sz1 : ls1.length = ((ls1.map (·.1)).map W.str).length := by simp
    rw [sz1] at hs
    generalize (ls1.map (·.1)).map W.str = ys at at1 at4 hs ap
    refine Sat.of (a := Fl.nx (oSg tb tx T0 (some (.str (Txt.join SP ws))))) (h := g4.set T0 (.lst zs)) (by
      simp [e1, lst_of at1, r1, lsp, hx1', e2, rp, a1, e3, r2, hx2', a2, at4, hs, ap]) ⟨ls1 ++ [(loose x1 c x2 ws, ws)], rfl, ⟨?_, ?_, ?_, .inr ⟨ls1, _, ws, rfl, loose_ne g.ne g.wk _ _ _⟩⟩, by rw [hz, List.getElem?_set_self lt4], ?_, by have := k2.len; have := k3.len; have := k4.len; simp; omega, fun j o h1 h2 e => ?_⟩
    · intro q hq
      rcases List.mem_append.mp hq with z | z
      · exact L1 q z
      · rw [List.mem_singleton.mp z]; exact loose_ln g.ne g.wk g.len (by omega) hc (by omega)
    · simp; omega
    · rw [List.map_append, List.filterMap_append, t1, take_snoc e]
      simp [g.opt]
    · obtain ⟨d, m, cc, e', r'⟩ := T4.mono (show n + 3 + 1 + 1 + 1 ≤ n + 10 by omega)
      exact ⟨d, m, cc, by rw [List.getElem?_set_ne hne]; exact e', r'⟩
    · rw [List.getElem?_set_ne (Ne.symm h2)]
      exact k4.at_ _ _ h1 (k3.at_ _ _ h1 (k2.at_ _ _ h1 (k1 j o h1 h2 e)))
end
end VE
end
section
set_option Elab.async false
set_option linter.all false
set_option autoImplicit false
set_option maxRecDepth 100000
set_option maxHeartbeats 4000000
namespace VE
open PySem GZ
def LWs (ps : List Pt) (t : Nat) : List (List Str) := ps.map lnW ++ [wdL t]
def jn (LW : List (List Str)) : List Str := LW.map fun ws => Txt.join SP ws
def eS : List Str := [""]
theorem stext_LW (ps : List Pt) (t : Nat) : stext ps t = Txt.join NL (jn (LWs ps t) ++ eS) := by
  unfold stext LWs
  congr 1
  simp [lnS, wordS, jn, eS]
theorem cut_last (xs : List W) (x : W) : cutW (xs ++ [x]) none (some (-1)) = xs := by
  unfold cutW HT.sIx
  simp
  rw [show ((-1 : Int) + ((xs.length : Int) + 1)).toNat = xs.length by omega]
  simp
theorem jn_at {LW : List (List Str)} {i : Nat} {x : W} (e : ((jn LW).map W.str)[i]? = some x) : ∃ ws, LW[i]? = some ws ∧ x = .str (Txt.join SP ws) := by
  unfold jn at e
  rw [List.getElem?_map, List.getElem?_map] at e
  cases q : LW[i]? with
  | none => rw [q] at e; cases e
  | some ws => rw [q] at e; cases e; exact ⟨ws, rfl, rfl⟩
section
variable {ps : List Pt} {t tb n : Nat} {h : He}
theorem loose_ok {ks : List Str} (T : Tb tb n h) (hn : n + 5000 ≤ BM) (gd : ∀ p ∈ ps, p.gd ks) (hl : ps.length ≤ 160) (ht : t ≤ 199) : Sat (ev__law_loose [.ref tb, .str (stext ps t)] h) fun w g => ∃ tx ls, w = .str tx ∧ TxOk tx (LWs ps t) ls ∧ Tb tb (n + 5000) g ∧ KT tb h g := by
  have htb := T.lt
  have G : ∀ ws ∈ LWs ps t, Gw ws := fun ws hw => by
    rcases List.mem_append.mp hw with q | q
    · obtain ⟨p, hp, rfl⟩ := List.mem_map.mp q
      exact lnW_gw (gd p hp)
    · rw [List.mem_singleton.mp q]; exact wdL_gw ht
  have lLW : (LWs ps t).length = ps.length + 1 := by simp [LWs]
  have lne : LWs ps t ≠ [] := by intro q; rw [q] at lLW; simp at lLW
  have split : Txt.split (stext ps t) NL = jn (LWs ps t) ++ eS := by
    rw [stext_LW, split_NL (by simp [eS]) fun p hp => ?_]
    rcases List.mem_append.mp hp with q | q
    · obtain ⟨ws, hw, rfl⟩ := List.mem_map.mp q
      exact (G ws hw).nl
    · rw [List.mem_singleton.mp q, tl_E]; simp
  have slen : (stext ps t).length ≤ 20000 := by
    rw [stext_LW, TL.len_tl, tl_join', tl_NL]
    have e1 := joinL_len [10] 63 ((jn (LWs ps t) ++ eS).map TL.tl) fun p hm => by
      obtain ⟨x, hx, rfl⟩ := List.mem_map.mp hm
      rw [← TL.len_tl]
      rcases List.mem_append.mp hx with q | q
      · obtain ⟨ws, hw, rfl⟩ := List.mem_map.mp q
        exact (G ws hw).lenS
      · rw [List.mem_singleton.mp q]; decide +kernel
    have e2 : ((jn (LWs ps t) ++ eS).map TL.tl).length * (63 + [10].length) ≤ 162 * 64 := Nat.mul_le_mul (by simp [jn, eS]; omega) (by decide)
    omega
  have sl2 : (stext ps t).length + 2 ≤ sizeLine := Nat.le_of_lt (lt_line (by omega))
  generalize stext ps t = tx0 at split slen sl2
  generalize LWs ps t = LW at G lLW lne split
  simp only [ev__law_loose, fn]
  refine Sat.bind ?_
  refine Sat.nx (σ' := oSg tb tx0 h.length none) (h' := h ++ [.lst []]) (by simp) ?_
  have T0ne : h.length ≠ tb := by omega
  refine Sat.seq (Sat.imp (Q := fun fl g => ∃ c3 ls, fl = .nx (oSg tb tx0 h.length c3) ∧ Lo LW LW.length ls ∧ g[h.length]? = some (.lst ((ls.map (·.1)).map W.str)) ∧ Tb tb (n + 4000) g ∧ KT tb h g) ?_ fun fl g ⟨c3, ls, efl, L, at_, Tg, kg⟩ => ?_)
  · rw [sFor_eq]
    have lNL' := lNL
    have lJ : ((jn LW).map W.str).length ≤ 170 := by simp [jn]; omega
    have lJ2 : ((jn LW).map W.str).length = LW.length := by simp [jn]
    have jat := @jn_at LW
    have e2 : (Txt.split tx0 NL).map W.str = (jn LW).map W.str ++ [.str ""] := by rw [split]; simp [eS]
    generalize (jn LW).map W.str = J at e2 lJ lJ2 jat
    have e1 : ((h ++ [EO.lst []]) ++ [EO.lst (J ++ [.str ""])])[h.length + 1]? = some (.lst (J ++ [.str ""])) := by simp
    have hk : Kp h (((h ++ [EO.lst []]) ++ [EO.lst (J ++ [.str ""])]) ++ [EO.lst J]) := Kp.app.trans (Kp.app.trans Kp.app)
    have a0 : (((h ++ [EO.lst []]) ++ [EO.lst (J ++ [.str ""])]) ++ [EO.lst J])[h.length]? = some (.lst []) := by simp
    have a2 : (((h ++ [EO.lst []]) ++ [EO.lst (J ++ [.str ""])]) ++ [EO.lst J])[h.length + 2]? = some (.lst J) := by simp
    have sl3 : ∀ g : He, lstOf g (.ref (h.length + 1)) = some (J ++ [.str ""]) → slW g (.ref (h.length + 1)) none (some (-1)) = .ok (.ref g.length) (g ++ [EO.lst J]) := fun g q => by
      show (match lstOf g (.ref (h.length + 1)) with | some xs => Rs.ok (W.ref g.length) (g ++ [EO.lst (cutW xs none (some (-1)))]) | none => .bad) = _
      rw [q]
      dsimp only
      rw [cut_last]
    have sl4 := sl3 _ (lst_of e1)
    refine Sat.bind (Sat.of (a := .live (.ref (h.length + 2))) (h := ((h ++ [EO.lst []]) ++ [EO.lst (J ++ [.str ""])]) ++ [EO.lst J]) ?_ ?_)
    · simp [sl2, lNL', e2, -List.append_assoc, -List.map_append]
      simp [sl4, lst_of a2, -List.append_assoc]
    · generalize ((h ++ [EO.lst []]) ++ [EO.lst (J ++ [.str ""])]) ++ [EO.lst J] = g0 at hk a0 a2
      have T0 := T.kp hk
      refine forlive_sat J (fun i σ g => (∃ c3, σ = oSg tb tx0 h.length c3) ∧ (∃ ls, Lo LW i ls ∧ g[h.length]? = some (.lst ((ls.map (·.1)).map W.str))) ∧ g[h.length + 2]? = some (.lst J) ∧ Tb tb (n + i * 10) g ∧ KT tb h g) (fun i σ g ⟨_, _, q, _⟩ => lst_of q) (fun i x σ g ei ⟨⟨c3, hσ⟩, ⟨ls, L, at_⟩, aJ, Tg, kg⟩ => ?_) (fun σ g ⟨⟨c3, hσ⟩, ⟨ls, L, at_⟩, aJ, Tg, kg⟩ => ?_) FU 0 _ _ (FU_big (by omega)) (by omega) ⟨⟨_, rfl⟩, ⟨[], ⟨by simp, by simp, by simp, .inl rfl⟩, a0⟩, a2, by simpa using T0, hk.kt⟩
      · obtain ⟨ws, ew, rfl⟩ := jat ei
        subst hσ
        have hi := (List.getElem?_eq_some_iff.mp ew).1
        refine (loose_turn (c3 := c3) (tx := tx0) Tg (by omega) ew (G ws (List.mem_of_getElem? ew)) L (by omega) at_ T0ne).imp fun fl g2 ⟨ls', efl, L', at', T', len', k'⟩ => ?_
        subst efl
        exact ⟨⟨_, rfl⟩, ⟨ls', L', at'⟩, k' _ _ (by omega) (by omega) aJ, T'.mono (by omega), fun j o hj e => by
          have := (List.getElem?_eq_some_iff.mp e).1
          exact k' j o hj (by omega) (kg.at_ j o hj e), by
          have := kg.len
          omega⟩
      · subst hσ
        rw [lJ2] at L Tg
        exact ⟨c3, ls, rfl, L, at_, Tg.mono (by omega), kg⟩
  · subst efl
    refine ⟨_, rfl, ?_⟩
    have h0 : LW.length ≠ 0 := by omega
    obtain ⟨l', s, ws, hls, hs⟩ := L.last.resolve_left h0
    have few := L.few
    have tl' := L.tells
    rw [List.take_length] at tl'
    obtain ⟨w, g2, q2, hw, T2, k2⟩ := of_tup (xs := [W.str "", .str "\n", .str "\n# end", .str "\n\n"]) Tg (by omega) (by simp) (by simp)
    obtain ⟨p, hp, rfl, pl⟩ := tail_dec hw
    obtain ⟨lt, TX⟩ := tail_ok (e := p.1) (E := p.2) hp hls hs L.ln (by omega) tl'
    have sl := sum_len 2000 (ls.map (·.1)) fun l hm => by
      obtain ⟨y, hy, rfl⟩ := List.mem_map.mp hm
      exact (L.ln y hy).len
    have jl : (Txt.join NL (ls.map (·.1))).length ≤ 400 * 2001 := by
      rw [TL.len_tl, tl_join', tl_NL]
      exact fst_len L.ln 400 (by omega)
    have jj : mJoin [.str NL, .ref h.length] g = .ok (.str (Txt.join NL (ls.map (·.1)))) g := by
      rw [mJoin_eq, seqOf_ref, lst_of at_, Option.bind_some, strs_map]
      have z : NL.length = 1 := by decide +kernel
      rw [List.length_map] at sl
      dsimp only
      rw [if_pos (by rw [z, List.length_map]; omega)]
    have a1 := add_str' g2 (x := Txt.join NL (ls.map (·.1))) (y := p.1) (by omega)
    refine Sat.of (a := Fl.rt (.str (Txt.join NL (ls.map (·.1)) ++ p.1))) (h := g2) (by simp [jj, q2, a1]) (Sat.of rfl ⟨_, lt, rfl, TX, T2.mono (by omega), kg.trans k2⟩)
end
end VE
end
section
set_option Elab.async false
set_option linter.all false
set_option autoImplicit false
set_option maxRecDepth 100000
set_option maxHeartbeats 4000000
namespace VE
open PySem GZ
theorem sc_gd {ps : List Pt} {ks : List Str} (S : Sc ps ((("" : Str) :: ks))) (l : ps.length ≤ 160) (kn : ∀ k ∈ ks, k ∈ nms) : ∀ p ∈ ps, p.gd ks := fun p hp => by
  obtain ⟨i, hi⟩ := List.mem_iff_getElem?.mp hp
  have lt := (List.getElem?_eq_some_iff.mp hi).1
  have o := S.wf.ok i p hi
  cases p with
  | it x =>
    rcases List.mem_cons.mp (S.nd i x hi) with q | q
    · exact .inl q
    · exact .inr ⟨q, kn x q⟩
  | th a b => exact ⟨by have := o.1; omega, by have := o.2; omega⟩
  | tm a k => exact ⟨by have := o.1; omega, o.2, S.num i a k hi⟩
theorem pl_parts : ∀ ps : List Pt, PlL (ps.map Pt.w) ∧ wszL (ps.map Pt.w) ≤ 4 * ps.length
  | [] => ⟨trivial, by simp [wszL]⟩
  | p :: r => by
    obtain ⟨h1, h2⟩ := pl_parts r
    refine ⟨⟨by cases p <;> simp [Pt.w, Pl, PlL], h1⟩, ?_⟩
    have : wsz p.w ≤ 4 := by cases p <;> simp [Pt.w, wsz, wszL]
    simp only [List.map_cons, wszL, List.length_cons]
    omega
section
variable {tb n : Nat} {h : He} {ks : List Str} {b : List W} {ps : List Pt} {t : Nat}
theorem scene_ok (T : Tb tb n h) (hn : n + 8000 ≤ BM) (S : Sc ps ((("" : Str) :: ks))) (ht : t < ps.length) (l : ps.length ≤ 160) (kn : ∀ k ∈ ks, k ∈ nms) (kl : ks.length ≤ 5) : Sat (ev__law_scene [.ref tb, bk ks b, sw ps t] h) fun w g => w = .bl true ∧ Tb tb (n + 8000) g ∧ KT tb h g := by
  have gd := sc_gd S l kn
  have g := S.gs ht (by omega)
  obtain ⟨h1, e1, k1⟩ := script_text_ok (h := h) (t := t) gd l (by omega)
  obtain ⟨w, h2, e2, tx, ls, rfl, X, T2, k2⟩ := loose_ok (t := t) (T.kp k1) (by omega) gd l (by omega)
  obtain ⟨w, h3, e3, rfl, k3⟩ := read_script_ok (h := h2) (b := b) (ks := ks) (ps := ps) (t := t) X.len X.ne X.lines X.ln X.few X.tells S (fun q hq => (gd q hq).rd) (by omega) ht
  obtain ⟨p1, p2⟩ := pl_parts ps
  obtain ⟨w, h4, e4, rfl, k4⟩ := same_ok (x := sw ps t) (h := h3) (by simp only [sw, Pl, PlL]; exact ⟨p1, trivial, trivial⟩) (by simp only [sw, wsz, wszL]; omega)
  have e5 := law_sizes_ok (h := h4) g
  have T5 := T2.kp (k3.trans (k4.trans (Kp.app (g := [.lst (vls sz (words ps))]))))
  have kk : KT tb h (h4 ++ [.lst (vls sz (words ps))]) := k1.kt.trans (k2.trans (k3.trans (k4.trans (Kp.app (g := [.lst (vls sz (words ps))])))).kt)
  have at_ : (h4 ++ [EO.lst (vls sz (words ps))])[h4.length]? = some (.lst (vls sz (words ps))) := at_end
  have ne : h4.length ≠ tb := by have := (T2.kp (k3.trans k4)).lt; omega
  simp only [ev__law_scene, fn]
  refine Sat.bind ?_
  refine Sat.nx (σ' := [some (.ref tb), some (bk ks b), some (sw ps t), none]) (h' := h4) (by simp [e1, e2, e3, e4]) ?_
  refine Sat.nx (σ' := [some (.ref tb), some (bk ks b), some (sw ps t), some (.ref h4.length)]) (h' := h4 ++ [.lst (vls sz (words ps))]) (by simp [e5]) ?_
  generalize h4 ++ [EO.lst (vls sz (words ps))] = g0 at T5 kk at_
  generalize h4.length = lz at at_ ne
  obtain ⟨w, g1, e6, rfl, A1⟩ := places_asked_ok (b := b) g (ks := ks) (by omega) ⟨T5, KT.refl, at_, ne⟩ (by omega)
  obtain ⟨w, g2, e7, rfl, A2⟩ := items_asked_ok (b := b) g (ks := ks) (by omega) ⟨A1.tub, KT.refl, A1.at_, ne⟩ (by omega)
  obtain ⟨w, g3, e8, rfl, A3⟩ := turned_asked_ok (b := b) g (ks := ks) (by omega) S.nd ⟨A2.tub, KT.refl, A2.at_, ne⟩ (by omega)
  exact Sat.of (a := Fl.rt (.bl true)) (h := g3) (by simp [e6, e7, e8]) (Sat.of rfl ⟨rfl, A3.tub.mono (by omega), kk.trans (A1.kt.trans (A2.kt.trans A3.kt))⟩)
end
theorem law_ok {x : W} {h : He} {ns : List Int} (l : ns.length ≤ 63) (bits : ∀ z ∈ ns, Builtin.Int.intBits z ≤ 1048576) (fl : fLen [x] h = .ok (.int (ns.length : Int)) h) (sl : slW h x none (some 55) = .ok (.ref h.length) (h ++ [.lst ((ns.take 55).map W.int)])) : Sat (ev_law [x] h) fun w g => w = .bl true := by
  have bm : 10 ^ 10 ≤ BM := by unfold BM; decide
  obtain ⟨w, h1, e1, tb, rfl, T1, k1⟩ := tub_ok l bits fl sl
  obtain ⟨w, h2, e2, rfl, k2⟩ := by_hand_ok (h := h1)
  have T2 := T1.kp k2
  have ns6 : ∀ ks : List Str, ks.length ≤ 5 → 1 + ks.length ≤ sizeLine := fun ks q => Nat.le_of_lt (lt_line (by omega))
  simp only [ev_law, fn]
  refine Sat.bind ?_
  refine Sat.nx (σ' := [some x, some (.ref tb), none, none]) (h' := h1) (by simp [e1]) ?_
  refine Sat.nx (σ' := [some x, some (.ref tb), none, none]) (h' := h2) (by simp [e2]) ?_
  refine Sat.seq (Sat.imp (Q := fun fl g => ∃ c2 ks b, fl = .nx [some x, some (.ref tb), c2, some (bk ks b)] ∧ 0 < ks.length ∧ ks.length ≤ 5 ∧ (∀ k ∈ ks, k ∈ nms) ∧ Tb tb 100000 g) ?_ fun fl g ⟨c2, ks, b, efl, l0, l5, kn, Tg⟩ => ?_)
  · rw [sFor_eq]
    refine Sat.bind (Sat.of (a := .fix (rgOf 0 2)) (h := h2) (by simp) ?_)
    refine for_sat (fun i σ g => (∃ c2 c3, σ = [some x, some (.ref tb), c2, c3] ∧ (i = 0 ∨ ∃ ks b, c3 = some (bk ks b) ∧ 0 < ks.length ∧ ks.length ≤ 5 ∧ (∀ k ∈ ks, k ∈ nms))) ∧ Tb tb (i * 30000) g) _ 0 _ _ ⟨⟨_, _, rfl, .inl rfl⟩, by simpa using T2⟩ (fun j y σ g ej ⟨⟨c2, c3, hσ, _⟩, Tg⟩ => ?_) fun σ g ⟨⟨c2, c3, hσ, hc⟩, Tg⟩ => ?_
    · obtain ⟨hj, rfl⟩ := rgOf_at ej
      subst hσ
      rw [Nat.zero_add] at Tg ⊢
      rw [trn_eq]
      refine Sat.bind (Sat.of (a := [some x, some (.ref tb), some (.int (0 + (j : Int))), c3]) (h := g) (by simp) ?_)
      obtain ⟨w, g1, e3, ks, b, rfl, l0, l5, kn, T3, k3⟩ := book_ok Tg (by omega)
      refine Sat.nx (σ' := [some x, some (.ref tb), some (.int (0 + (j : Int))), some (bk ks b)]) (h' := g1) (by simp [e3]) ?_
      obtain ⟨w, g2, e4, ps, t, rfl, S, ht, lp, T4, k4⟩ := script_ok (ns := ((("" : Str) :: ks))) (P := 16) T3 (by omega) (by simp) (by simp; omega) (by omega) (by omega)
      obtain ⟨w, g3, e5, rfl, T5, k5⟩ := scene_ok (b := b) T4 (by omega) S ht lp kn l5
      refine Sat.nx (σ' := [some x, some (.ref tb), some (.int (0 + (j : Int))), some (bk ks b)]) (h' := g3) (by simp at e4; simp [ns6 ks l5, e4, e5]) ?_
      obtain ⟨w, g4, e6, ps2, t2, rfl, S2, ht2, lp2, T6, k6⟩ := lone_ok (b := b) (ks := ks) T5 (by omega) l0 (by omega)
      obtain ⟨w, g5, e7, rfl, T7, k7⟩ := scene_ok (b := b) T6 (by omega) S2 ht2 lp2 kn l5
      refine for_step (σ' := [some x, some (.ref tb), some (.int (0 + (j : Int))), some (bk ks b)]) (h' := g5) (turn := fun _ => sIf _ _ _) (x := .non) (by simp [e6, e7]) ⟨⟨_, _, rfl, .inr ⟨ks, b, rfl, l0, l5, kn⟩⟩, T7.mono (by omega)⟩
    · subst hσ
      rw [rgOf_len] at hc Tg
      obtain ⟨ks, b, rfl, l0, l5, kn⟩ := hc.resolve_left (by omega)
      exact ⟨c2, ks, b, rfl, l0, l5, kn, Tg.mono (by omega)⟩
  · subst efl
    refine ⟨_, rfl, ?_⟩
    obtain ⟨r, g1, e3, hr, T3, k3⟩ := dipI Tg (by omega) (K := 13) (by omega) (by omega)
    by_cases c : r = 5
    · subst c
      obtain ⟨w, g2, e4, ps, t, rfl, S, ht, lp, T4, k4⟩ := script_ok (ns := ((("" : Str) :: ks))) (P := 150) T3 (by omega) (by simp) (by simp; omega) (by omega) (by omega)
      obtain ⟨w, g3, e5, rfl, T5, k5⟩ := scene_ok (b := b) T4 (by omega) S ht lp kn l5
      exact Sat.of (a := Fl.rt (.bl true)) (h := g3) (by simp at e3 e4; simp [e3, ns6 ks l5, e4, e5]) (Sat.of rfl rfl)
    · have c1 : ¬ ((r : Int) = 5) := by omega
      exact Sat.of (a := Fl.rt (.bl true)) (h := g1) (by simp [e3, c1]) (Sat.of rfl rfl)
end VE
end
set_option Elab.async false
set_option linter.all false
set_option maxRecDepth 100000
namespace VE
open PySem PySem.Spec PyProof.Rows L2
theorem law94 : LawT ev_law := by
  refine ⟨fun ns l b => ?_, fun ns l b => ?_⟩
  · obtain ⟨w, h, e, q⟩ := law_ok (x := .ref 0) (h := [.ro (ns.map W.int)]) l b (by simp [fLen, seqOf, lstOf]) (by
      show (match lstOf [.ro (ns.map W.int)] (.ref 0) with | some xs => Rs.ok (W.ref 1) ([EO.ro (ns.map W.int)] ++ [EO.lst (cutW xs none (some 55))]) | none => .bad) = _
      rw [show lstOf [.ro (ns.map W.int)] (.ref 0) = some (ns.map W.int) from rfl]
      dsimp only
      rw [cut55, List.map_take]; rfl)
    exact ⟨h, by rw [e, q]⟩
  · obtain ⟨w, h, e, q⟩ := law_ok (x := .kl ns) (h := []) l b (by simp [fLen, seqOf, lstOf]) (by
      show (match lstOf [] (.kl ns) with | some xs => Rs.ok (W.ref 0) (([] : He) ++ [EO.lst (cutW xs none (some 55))]) | none => .bad) = _
      rw [show lstOf [] (.kl ns) = some (ns.map W.int) from rfl]
      dsimp only
      rw [cut55, List.map_take]; rfl)
    exact ⟨h, by rw [e, q]⟩
end VE
open PySem PySem.W PySem.Calls PyProof.Rows
theorem PySem.Challenge.cw_followon_k94_whole_far_places_holds : PySem.Challenge.rw_followon_k94_whole_far_places.Holds := by
  exact VE.end94 VE.law94
