import PyProof.Rows.All
import Wide.All
import OpenK.AllK
import Wide.FinOn
import KE.KStateDown
import Lean
import HandS.ForMost
import HandS.ForExc
import HandS.Deep
import HandS.More
import HandS.IsInst
import HandS.Sort
import HandS.Defaults
import HandS.Flow
import HandS.TupAny
import HandS.TupMul
import HandS.Style
import HandS.TupLe
import HandS.Zip
import HandS.Head0
import HandS.Head1
import HandS.Head2
import HandS.HeadEnd
import HandS.HeadHook1
import HandS.HeadHook2
import HandS.HeadHook3
import HandS.HeadHook4
import HandS.Conv
import KE.GoesEnum
import KE.KDictKeyed
import KE.KDictWalk
import KE.KDictDisplayH
import HandS.NoneIn
import KE.SortData
import KE.DataMinMax
import HandS.CallSlots
import HandS.SetFor
import HandS.TupSets
import HandS.DictComp
import HandS.TryOnly
import HandS.ExcIs
import HandS.TryMany
import HandS.TupLen
import HandS.HotCalls
import HandS.Text
import HandS.Steps
import HandS.RaiseMore
import PySem.Challenge.RW_slipsheets_k22_rooms_refused
set_option Elab.async false
set_option linter.all false
set_option maxRecDepth 100000
set_option maxHeartbeats 4000000
/-! # Ev0: the plain evaluator's parts (no program, no model in sight) -/
namespace Ev
open PySem
abbrev D := PyData
/-- what a local name holds (refs: a list of its own, of shared things): nothing yet; data; a list, a dict of its own (nobody else holds it); a shared thing, by its number; an exception -/
inductive Slot where
  | no | val (d : D) | own (ds : List D) | ownd (kvs : List (D × D)) | ref (n : Nat) | exc (c : Str) | refs (ns : List Nat)
/-- a shared thing: a list, a dict, what was given away; a classroom (its school, rows, rows ahead of each call, calls), one that is not made yet -/
inductive Ob where
  | lst (ds : List D) | dic (kvs : List (D × D)) | dead | room (s : D) (rows : List (Str × D)) (past : List (List (Str × D))) (calls : List D) | blank
abbrev Ro := List Slot
abbrev Hh := List Ob
structure S where
  rho : Ro
  h : Hh
inductive R (α : Type) where
  | ok (a : α) (h : Hh) | exc (c : Str) (h : Hh) | bad
def R.bind {α β : Type} (x : R α) (f : α → Hh → R β) : R β := match x with
  | .ok a h => f a h
  | .exc c h => .exc c h
  | .bad => .bad
/-- an expression; a test; an expression that makes a new list -/
abbrev Den := Ro → Hh → R D
abbrev DenT := Ro → Hh → R Bool
abbrev DenL := Ro → Hh → R (List D)
inductive Fl where
  | next (s : S) | ret (d : D) (h : Hh) | cont (s : S) | exc (c : Str) (s : S) | bad | retR (n : Nat) (h : Hh)
abbrev DenS := S → Fl
inductive Arg where
  | dat (d : D) | ref (n : Nat) | exc (c : Str)
abbrev FnDen := List Arg → Hh → R D
/-- what a name shows, as it stands -/
def look (rho : Ro) (h : Hh) (i : Nat) : Option D := match rho[i]? with
  | some (.val d) => some d
  | some (.own ds) => some (.list ds)
  | some (.ownd kvs) => some (.dict kvs)
  | some (.ref n) => (match h[n]? with
    | some (.lst ds) => some (.list ds)
    | some (.dic kvs) => some (.dict kvs)
    | _ => none)
  | _ => none
/-! keys of a dict: tuples of whole numbers (True is 1) -/
def keyI : D → Option Int
  | .int i => some i
  | .bool b => some (if b = true then 1 else 0)
  | _ => none
def keyL : List D → Option (List Int)
  | [] => some []
  | d :: ds => match keyI d, keyL ds with
    | some i, some is => some (i :: is)
    | _, _ => none
def keyOf : D → Option (List Int)
  | .tuple ds => keyL ds
  | _ => none
/-- what stands at a key -/
def getK : List (D × D) → List Int → Option D
  | [], _ => none
  | (k, d) :: r, is => if keyOf k = some is then some d else getK r is
/-- stored at a key -/
def setK (kvs : List (D × D)) (is : List Int) (d : D) : List (D × D) := kvs.map fun kv => if keyOf kv.1 = some is then (kv.1, d) else kv
def stoK (kvs : List (D × D)) (kd : D) (is : List Int) (d : D) : List (D × D) := match getK kvs is with
  | some _ => setK kvs is d
  | none => kvs ++ [(kd, d)]
inductive Opd where
  | var (i : Nat) | exp (f : Den)
def op1 {β : Type} (o : Opd) (k : D → Hh → R β) : Ro → Hh → R β := match o with
  | .var i => fun rho h => (match look rho h i with
    | some d => k d h
    | none => .bad)
  | .exp f => fun rho h => (f rho h).bind k
def op2 {β : Type} (o1 o2 : Opd) (k : D → D → Hh → R β) : Ro → Hh → R β := match o1 with
  | .exp f => fun rho h => (f rho h).bind fun a h1 => op1 o2 (fun b h2 => k a b h2) rho h1
  | .var i => fun rho h => (match look rho h i with
    | some _ => op1 o2 (fun b h2 => match look rho h2 i with
      | some a => k a b h2
      | none => .bad) rho h
    | none => .bad)
/-- an operand, then more, then k -/
def opThen {β γ : Type} (o : Opd) (rest : Ro → Hh → R β) (k : D → β → Hh → R γ) : Ro → Hh → R γ := match o with
  | .exp f => fun rho h => (f rho h).bind fun a h1 => (rest rho h1).bind fun b h2 => k a b h2
  | .var i => fun rho h => (match look rho h i with
    | some _ => (rest rho h).bind fun b h2 => (match look rho h2 i with
      | some a => k a b h2
      | none => .bad)
    | none => .bad)
/-- a name as a value -/
def dVar (i : Nat) : Den := fun rho h => match rho[i]? with
  | some (.val d) => .ok d h
  | _ => .bad
def dC (d : D) : Den := fun _ h => .ok d h
def lift1 {β : Type} (p : D → Option β) : D → Hh → R β := fun a h => match p a with
  | some d => .ok d h
  | none => .bad
def lift2 {β : Type} (p : D → D → Option β) : D → D → Hh → R β := fun a b h => match p a b with
  | some d => .ok d h
  | none => .bad
def testOf (f : Den) : DenT := fun rho h => (f rho h).bind fun d h' => match d with
  | .bool b => .ok b h'
  | _ => .bad
def valOf (t : DenT) : Den := fun rho h => (t rho h).bind fun b h' => .ok (.bool b) h'
def tNotD (t : DenT) : DenT := fun rho h => (t rho h).bind fun b h' => .ok (!b) h'
def tAndD (t u : DenT) : DenT := fun rho h => (t rho h).bind fun b h' => if b = true then u rho h' else .ok false h'
def tOrD (t u : DenT) : DenT := fun rho h => (t rho h).bind fun b h' => if b = true then .ok true h' else u rho h'
def dIf (t : DenT) (f g : Den) : Den := fun rho h => (t rho h).bind fun b h' => if b = true then f rho h' else g rho h'
def dAnd (f g : Den) : Den := fun rho h => (f rho h).bind fun d h' => match d with
  | .bool true => g rho h'
  | .bool false => .ok (.bool false) h'
  | _ => .bad
def dOr (f g : Den) : Den := fun rho h => (f rho h).bind fun d h' => match d with
  | .bool true => .ok (.bool true) h'
  | .bool false => g rho h'
  | _ => .bad
def dNot (f : Den) : Den := fun rho h => (f rho h).bind fun d h' => match d with
  | .bool b => .ok (.bool (!b)) h'
  | _ => .bad
/-- a op b op' c, b asked once -/
def dChain (p p' : D → D → Option D) (o1 o2 o3 : Opd) : Den := fun rho h => op2 o1 o2 (fun a b h' => match p a b with
  | some (.bool true) => (match b with
    | .int j => op1 o3 (fun c h'' => match p' (.int j) c with
      | some d => .ok d h''
      | none => .bad) rho h'
    | _ => .bad)
  | some (.bool false) => .ok (.bool false) h'
  | _ => .bad) rho h
/-- values from the left -/
def dAll : List Den → Ro → Hh → R (List D)
  | [], _, h => .ok [] h
  | f :: r, rho, h => (f rho h).bind fun d h1 => (dAll r rho h1).bind fun ds h2 => .ok (d :: ds) h2
def dTup (fs : List Den) : Den := fun rho h => (dAll fs rho h).bind fun ds h' => .ok (.tuple ds) h'
def ofL (l : DenL) : Den := fun rho h => (l rho h).bind fun ds h' => .ok (.list ds) h'
/-! calls -/
inductive ADen where
  | var (i : Nat) | exp (f : Den) | newd (l : Ro → Hh → R (List (D × D))) | obj (f : Ro → Hh → R Nat)
def aRun : ADen → Ro → Hh → R Arg
  | .var i, rho, h => (match rho[i]? with
    | some (.val d) => .ok (.dat d) h
    | some (.ref n) => .ok (.ref n) h
    | some (.exc c) => .ok (.exc c) h
    | _ => .bad)
  | .exp f, rho, h => (f rho h).bind fun d h' => .ok (.dat d) h'
  | .newd l, rho, h => (l rho h).bind fun kvs h' => .ok (.ref h'.length) (h' ++ [.dic kvs])
  | .obj f, rho, h => (f rho h).bind fun n h' => .ok (.ref n) h'
def aAll : List ADen → Ro → Hh → R (List Arg)
  | [], _, h => .ok [] h
  | f :: r, rho, h => (aRun f rho h).bind fun d h1 => (aAll r rho h1).bind fun ds h2 => .ok (d :: ds) h2
def dCall (m : FnDen) (as : List ADen) : Den := fun rho h => (aAll as rho h).bind fun xs h1 => m xs h1
/-- f(.., k = e) -/
def dCallK (m : FnDen) (fs : List Den) (fk : Den) : Den := fun rho h => (dAll fs rho h).bind fun ds h1 => (fk rho h1).bind fun d h2 => m (ds.map Arg.dat ++ [.dat d]) h2
/-! statements -/
def Fl.seq (x : Fl) (k : S → Fl) : Fl := match x with
  | .next s => k s
  | y => y
def sSeq (a b : DenS) : DenS := fun s => (a s).seq b
def sNop : DenS := fun s => .next s
def sCont : DenS := fun s => .cont s
def ofR {α : Type} (x : R α) (rho : Ro) (k : α → Hh → Fl) : Fl := match x with
  | .ok a h => k a h
  | .exc c h => .exc c ⟨rho, h⟩
  | .bad => .bad
def sRet (f : Den) : DenS := fun s => ofR (f s.rho s.h) s.rho fun d h' => .ret d h'
def sIf (t : DenT) (a b : DenS) : DenS := fun s => ofR (t s.rho s.h) s.rho fun b' h' => if b' = true then a ⟨s.rho, h'⟩ else b ⟨s.rho, h'⟩
def sExpr (f : Den) : DenS := fun s => ofR (f s.rho s.h) s.rho fun _ h' => .next ⟨s.rho, h'⟩
def sRaise (c : Str) : DenS := fun s => .exc c s
/-- what is its own is given away -/
def frz (rho : Ro) (i : Nat) : Ro := match rho[i]? with
  | some (.own ds) => rho.set i (.val (.list ds))
  | some (.ownd kvs) => rho.set i (.val (.dict kvs))
  | _ => rho
def sFrz (is : List Nat) : DenS := fun s => .next ⟨is.foldl frz s.rho, s.h⟩
/-- a shared list is given away for good -/
def sGive (i : Nat) : DenS := fun s => match s.rho[i]? with
  | some (.ref n) => (match s.h[n]? with
    | some (.lst ds) => .next ⟨s.rho.set i (.val (.list ds)), s.h.set n .dead⟩
    | _ => .bad)
  | _ => .next s
inductive Tgt where
  | name (i : Nat) | tup (ts : List Tgt)
mutual
def Tgt.put : Tgt → D → Ro → Option Ro
  | .name i, d, rho => some (rho.set i (.val d))
  | .tup ts, .tuple ds, rho => putAll ts ds rho
  | .tup ts, .list ds, rho => putAll ts ds rho
  | .tup _, .none, _ | .tup _, .bool _, _ | .tup _, .int _, _ | .tup _, .str _, _ | .tup _, .dict _, _ => none
def putAll : List Tgt → List D → Ro → Option Ro
  | [], [], rho => some rho
  | t :: ts, d :: ds, rho => (match t.put d rho with
    | some rho' => putAll ts ds rho'
    | none => none)
  | [], _ :: _, _ => none
  | _ :: _, [], _ => none
end
mutual
def Tgt.slots : Tgt → List Nat
  | .name i => [i]
  | .tup ts => slotsAll ts
def slotsAll : List Tgt → List Nat
  | [] => []
  | t :: ts => t.slots ++ slotsAll ts
end
def sAsg (t : Tgt) (f : Den) : DenS := fun s => ofR (f s.rho s.h) s.rho fun d h' => match t.put d s.rho with
  | some rho' => .next ⟨rho', h'⟩
  | none => .bad
/-- x = a new list, to be x's own -/
def sOwn (i : Nat) (l : DenL) : DenS := fun s => ofR (l s.rho s.h) s.rho fun ds h' => .next ⟨s.rho.set i (.own ds), h'⟩
/-- x = a new list, shared from now on -/
def sShare (i : Nat) (l : DenL) : DenS := fun s => ofR (l s.rho s.h) s.rho fun ds h' => .next ⟨s.rho.set i (.ref h'.length), h' ++ [.lst ds]⟩
def lim : Nat := 16000000
/-- x.append(e) -/
def sAppend (i : Nat) (f : Den) : DenS := fun s => match s.rho[i]? with
  | some (.own ds) => ofR (f s.rho s.h) s.rho fun d h' => if ds.length < lim then .next ⟨s.rho.set i (.own (ds ++ [d])), h'⟩ else .bad
  | some (.ref n) => (match s.h[n]? with
    | some (.lst _) => ofR (f s.rho s.h) s.rho fun d h' => (match h'[n]? with
      | some (.lst ds) => if ds.length < lim then .next ⟨s.rho, h'.set n (.lst (ds ++ [d]))⟩ else .bad
      | _ => .bad)
    | _ => .bad)
  | _ => .bad
/-- x.extend(e) -/
def itemsOf : D → Option (List D)
  | .list ds => some ds
  | .tuple ds => some ds
  | _ => none
def sExtend (i : Nat) (o : Opd) : DenS := fun s => match s.rho[i]? with
  | some (.own ds) => ofR (op1 o (fun d h' => R.ok d h') s.rho s.h) s.rho fun d h' => (match d with
    | .list es => if ds.length + es.length < lim then .next ⟨s.rho.set i (.own (ds ++ es)), h'⟩ else .bad
    | _ => .bad)
  | _ => .bad
/-- a, b, c = e1, e2, e3 -/
abbrev DenD := Ro → Hh → R (List (D × D))
inductive PCo where
  | val (f : Den) | own (l : DenL) | shr (l : DenL) | dic (l : DenD) | obj (f : Ro → Hh → R Nat)
inductive PV where
  | val (d : D) | own (ds : List D) | shr (ds : List D) | dic (kvs : List (D × D)) | obj (n : Nat)
def parRun : List PCo → Ro → Hh → R (List PV)
  | [], _, h => .ok [] h
  | .val f :: r, rho, h => (f rho h).bind fun d h1 => (parRun r rho h1).bind fun ds h2 => .ok (.val d :: ds) h2
  | .own l :: r, rho, h => (l rho h).bind fun d h1 => (parRun r rho h1).bind fun ds h2 => .ok (.own d :: ds) h2
  | .shr l :: r, rho, h => (l rho h).bind fun d h1 => (parRun r rho h1).bind fun ds h2 => .ok (.shr d :: ds) h2
  | .dic l :: r, rho, h => (l rho h).bind fun d h1 => (parRun r rho h1).bind fun ds h2 => .ok (.dic d :: ds) h2
  | .obj l :: r, rho, h => (l rho h).bind fun d h1 => (parRun r rho h1).bind fun ds h2 => .ok (.obj d :: ds) h2
def putPV : List Nat → List PV → S → Option S
  | [], [], s => some s
  | i :: is, .val d :: r, s => putPV is r ⟨s.rho.set i (.val d), s.h⟩
  | i :: is, .own ds :: r, s => putPV is r ⟨s.rho.set i (.own ds), s.h⟩
  | i :: is, .shr ds :: r, s => putPV is r ⟨s.rho.set i (.ref s.h.length), s.h ++ [.lst ds]⟩
  | i :: is, .dic kvs :: r, s => putPV is r ⟨s.rho.set i (.ownd kvs), s.h⟩
  | i :: is, .obj n :: r, s => putPV is r ⟨s.rho.set i (.ref n), s.h⟩
  | [], _ :: _, _ => none
  | _ :: _, [], _ => none
def sPar (is : List Nat) (cs : List PCo) : DenS := fun s => ofR (parRun cs s.rho s.h) s.rho fun pvs h' => match putPV is pvs ⟨s.rho, h'⟩ with
  | some s' => .next s'
  | none => .bad
def loopL (step : D → S → Fl) : List D → S → Fl
  | [], s => .next s
  | d :: ds, s => match step d s with
    | .next s' => loopL step ds s'
    | .cont s' => loopL step ds s'
    | y => y
def loopRef (n : Nat) (step : D → S → Fl) : Nat → Nat → S → Fl
  | 0, j, s => (match s.h[n]? with
    | some (.lst ds) => if ds.length = j then .next s else .bad
    | _ => .bad)
  | m + 1, j, s => (match s.h[n]? with
    | some (.lst ds) => (match ds[j]? with
      | some x => (match step x s with
        | .next s' => loopRef n step m (j + 1) s'
        | .cont s' => loopRef n step m (j + 1) s'
        | y => y)
      | none => .bad)
    | _ => .bad)
def stepOf (t : Tgt) (b : DenS) : D → S → Fl := fun d s => match t.put d s.rho with
  | some rho' => b ⟨rho', s.h⟩
  | none => .bad
/-- for t in l: b; l's items as they stand at the start -/
def sFor (l : DenL) (t : Tgt) (b : DenS) : DenS := fun s => ofR (l s.rho s.h) s.rho fun ds h' => loopL (stepOf t b) ds ⟨s.rho, h'⟩
/-- over a shared list -/
def sForRef (i : Nat) (t : Tgt) (b : DenS) : DenS := fun s => match s.rho[i]? with
  | some (.ref n) => (match s.h[n]? with
    | some (.lst ds) => loopRef n (stepOf t b) ds.length 0 s
    | _ => .bad)
  | _ => .bad
def sWhile (t : DenT) (b : DenS) : Nat → DenS
  | 0, _ => .bad
  | n + 1, s => ofR (t s.rho s.h) s.rho fun c h' => if c = true then (match b ⟨s.rho, h'⟩ with
    | .next s2 => sWhile t b n s2
    | .cont s2 => sWhile t b n s2
    | y => y) else .next ⟨s.rho, h'⟩
/-! comprehensions: vs the places of their own names -/
def wipeR (rho : Ro) : List Nat → Ro
  | [] => rho
  | v :: vs => (wipeR rho vs).set v .no
def plainAt (rho : Ro) (vs : List Nat) : Bool := vs.all fun v => match rho[v]? with
  | some .no => true
  | some (.val _) => true
  | _ => false
def loopC (vs : List Nat) (t : Tgt) (tt : DenT) (el : Den) (rho : Ro) : List D → List D → Hh → R (List D)
  | [], acc, h => .ok acc h
  | d :: ds, acc, h => match t.put d (wipeR rho vs) with
    | some rho' => (match tt rho' h with
      | .ok true h1 => (match el rho' h1 with
        | .ok y h2 => loopC vs t tt el rho ds (acc ++ [y]) h2
        | _ => .bad)
      | .ok false h1 => loopC vs t tt el rho ds acc h1
      | _ => .bad)
    | none => .bad
def lComp (vs : List Nat) (l : DenL) (t : Tgt) (tt : DenT) (el : Den) : DenL := fun rho h => if plainAt rho vs = true then (l rho h).bind fun ds h' => loopC vs t tt el rho ds [] h' else .bad
/-- two fors in one comprehension: the inner one, then k -/
def loopI (vs : List Nat) (t : Tgt) (tt : DenT) (el : Den) (rho : Ro) (k : List D → Hh → R (List D)) : List D → List D → Hh → R (List D)
  | [], acc, h => k acc h
  | d :: ds, acc, h => match t.put d (wipeR rho vs) with
    | some rho' => (match tt rho' h with
      | .ok true h1 => (match el rho' h1 with
        | .ok y h2 => if acc.length < lim then loopI vs t tt el rho k ds (acc ++ [y]) h2 else .bad
        | _ => .bad)
      | .ok false h1 => loopI vs t tt el rho k ds acc h1
      | _ => .bad)
    | none => .bad
def loopO (vs : List Nat) (t : Tgt) (tt : DenT) (l1 : DenL) (vs1 : List Nat) (t1 : Tgt) (tt1 : DenT) (el : Den) (rho : Ro) : List D → List D → Hh → R (List D)
  | [], acc, h => .ok acc h
  | d :: ds, acc, h => match t.put d (wipeR rho vs) with
    | some rho' => (match tt rho' h with
      | .ok true h1 => if plainAt rho' vs1 = true then (match l1 rho' h1 with
        | .ok ds1 h2 => loopI vs1 t1 tt1 el rho' (fun acc' h' => loopO vs t tt l1 vs1 t1 tt1 el rho ds acc' h') ds1 acc h2
        | _ => .bad) else .bad
      | .ok false h1 => loopO vs t tt l1 vs1 t1 tt1 el rho ds acc h1
      | _ => .bad)
    | none => .bad
def lComp2 (vs : List Nat) (l : DenL) (t : Tgt) (tt : DenT) (l1 : DenL) (vs1 : List Nat) (t1 : Tgt) (tt1 : DenT) (el : Den) : DenL := fun rho h => if plainAt rho vs = true then (l rho h).bind fun ds h' => loopO vs t tt l1 vs1 t1 tt1 el rho ds [] h' else .bad
def kRange : D → Option (List D)
  | .int j => if -(2 ^ 62) ≤ j ∧ j ≤ lim then some ((List.range j.toNat).map fun (i : Nat) => .int (0 + i)) else none
  | _ => none
def kRange2 : D → D → Option (List D)
  | .int i, .int j => if -(2 ^ 62) ≤ i ∧ i < 2 ^ 62 ∧ -(2 ^ 62) ≤ j ∧ j < 2 ^ 62 ∧ j - i ≤ lim then some ((List.range (j - i).toNat).map fun (k : Nat) => .int (i + k)) else none
  | _, _ => none
def lRange (o : Opd) : DenL := op1 o (lift1 kRange)
def lRange2 (o1 o2 : Opd) : DenL := op2 o1 o2 (lift2 kRange2)
def tYesD : DenT := fun _ h => .ok true h
/-- the signs of a text -/
def sgn (c : Nat) : Str := ⟨#[c]⟩
def sgns (x : Str) : List D := x.cps.toList.map fun c => .str (sgn c)
def isSg (x : Str) : Option Nat := match x.cps.toList with
  | [c] => some c
  | _ => none
/-- what a walk gives: items, a dict's keys -/
def walkOf : D → Option (List D)
  | .list ds => some ds
  | .tuple ds => some ds
  | .dict kvs => some (kvs.map (·.1))
  | .str x => if x.length ≤ lim then some (sgns x) else none
  | _ => none
/-- a name's items (not shared) -/
def lVar (i : Nat) : DenL := fun rho h => match rho[i]? with
  | some (.val d) => (match walkOf d with
    | some ds => .ok ds h
    | none => .bad)
  | some (.own ds) => .ok ds h
  | _ => .bad
def lOf (f : Den) : DenL := fun rho h => (f rho h).bind fun d h' => match walkOf d with
  | some ds => .ok ds h'
  | none => .bad
/-! primitives -/
/-- a pair whose second is a tuple that begins with a text (a branch); tuples of such are known to be plain objects -/
def isBr : D → Bool
  | .tuple [_, .tuple (.str _ :: _)] => true
  | _ => false
def brn : List D → Bool
  | [] => false
  | d :: _ => isBr d
def noBr (ds : List D) : Bool := ds.all fun d => !isBr d
def pAdd : D → D → Option D
  | .int i, .int j => some (.int (i + j))
  | .str x, .str y => if x.length + y.length ≤ lim then some (.str (x ++ y)) else none
  | .tuple xs, .tuple ys => if xs.length + ys.length ≤ lim ∧ brn (xs ++ ys) = false then some (.tuple (xs ++ ys)) else none
  | .list xs, .list ys => if xs.length + ys.length ≤ lim then some (.list (xs ++ ys)) else none
  | _, _ => none
def pSub : D → D → Option D
  | .int i, .int j => some (.int (i - j))
  | _, _ => none
def pMul : D → D → Option D
  | .int i, .int j => if i.natAbs < 2 ^ 64 ∨ j.natAbs < 2 ^ 64 then some (.int (i * j)) else none
  | .list xs, .int k => if 0 ≤ k ∧ k < 2 ^ 62 ∧ xs.length * k.toNat ≤ lim then some (.list (List.replicate k.toNat xs).flatten) else none
  | .tuple xs, .int k => if xs ≠ [] ∧ 2 ≤ k ∧ k ≤ 1000 ∧ xs.length ≤ 1000 ∧ brn (List.replicate k.toNat xs).flatten = false then some (.tuple (List.replicate k.toNat xs).flatten) else none
  | _, _ => none
def pFdiv : D → D → Option D
  | .int i, .int j => if j ≠ 0 ∧ j.natAbs < 1073741824 then some (.int (i.fdiv j)) else none
  | _, _ => none
def pMod : D → D → Option D
  | .int i, .int j => if j ≠ 0 then some (.int (i.fmod j)) else none
  | _, _ => none
def pPow : D → D → Option D
  | .int i, .int j => if 0 ≤ j ∧ j ≤ 1000000 ∧ i.natAbs < 2 ^ 64 then some (.int (i ^ j.toNat)) else none
  | _, _ => none
def pInt2 (g : Int → Int → D) : D → D → Option D
  | .int i, .int j => some (g i j)
  | _, _ => none
def pLt : D → D → Option D := pInt2 fun i j => .bool (decide (i < j))
def pLe : D → D → Option D := pInt2 fun i j => .bool (decide (i ≤ j))
def pGt : D → D → Option D := pInt2 fun i j => .bool (decide (j < i))
def pGe : D → D → Option D := pInt2 fun i j => .bool (decide (j ≤ i))
def pEq (a b : D) : Option D := if SeqAt.shaped a = true ∧ SeqAt.shaped b = true then some (.bool (PyData.eqv a b)) else none
def pNe (a b : D) : Option D := if SeqAt.shaped a = true ∧ SeqAt.shaped b = true then some (.bool (!PyData.eqv a b)) else none
def isNone : D → Bool
  | .none => true
  | _ => false
def pIs : D → D → Option D
  | a, .none => some (.bool (isNone a))
  | .bool a, .bool b => some (.bool (decide (a = b)))
  | _, _ => none
def pIsNot : D → D → Option D
  | a, .none => some (.bool (!isNone a))
  | .bool a, .bool b => some (.bool (!decide (a = b)))
  | _, _ => none
def inL (d : D) (ds : List D) : Bool := ds.any fun z => PyData.eqv z d
def pInS (d c : D) : Option D := if SeqAt.shaped d = true ∧ SeqAt.shaped c = true then (match c with
  | .list ds => some (.bool (inL d ds))
  | .tuple ds => some (.bool (inL d ds))
  | _ => none) else none
def pNotInS (d c : D) : Option D := if SeqAt.shaped d = true ∧ SeqAt.shaped c = true then (match c with
  | .list ds => some (.bool (!inL d ds))
  | .tuple ds => some (.bool (!inL d ds))
  | _ => none) else none
def pInN (d c : D) : Option D := match c with
  | .dict kvs => (keyOf d).map fun is => .bool (getK kvs is).isSome
  | c => pInS d c
def pNotInN (d c : D) : Option D := match c with
  | .dict kvs => (keyOf d).map fun is => .bool (!(getK kvs is).isSome)
  | c => pNotInS d c
def pIn (d c : D) : Option D := match c with
  | .str y => (match d with
    | .str x => (isSg x).map fun c => .bool (decide (c ∈ y.cps.toList))
    | _ => none)
  | c => pInN d c
def pNotIn (d c : D) : Option D := match c with
  | .str y => (match d with
    | .str x => (isSg x).map fun c => .bool (!decide (c ∈ y.cps.toList))
    | _ => none)
  | c => pNotInN d c
def ixD (ds : List D) (i : Int) : Option D := L2.atI ds i
def pIxS : D → D → Option D
  | .list ds, .int i => ixD ds i
  | .tuple ds, .int i => ixD ds i
  | _, _ => none
def pIx (a b : D) : Option D := match a with
  | .dict kvs => (match keyOf b with
    | some is => getK kvs is
    | none => none)
  | a => pIxS a b
def pLen : D → Option D
  | .list ds => some (.int ds.length)
  | .tuple ds => some (.int ds.length)
  | .str x => if x.length ≤ lim then some (.int x.length) else none
  | .dict kvs => some (.int kvs.length)
  | _ => none
def tyName : D → Option String
  | .none => some "NoneType"
  | .bool _ => some "bool"
  | .int _ => some "int"
  | .str _ => some "str"
  | .list _ => some "list"
  | .tuple _ => some "tuple"
  | .dict _ => none
def pIsi (t : String) (d : D) : Option D := (tyName d).bind fun a => (L2.kitB a t).map fun b => .bool b
def boolsOf : List D → Option (List Bool)
  | [] => some []
  | .bool b :: r => (boolsOf r).map fun bs => b :: bs
  | _ :: _ => none
def pAll : D → Option D
  | .list ds => (boolsOf ds).map fun bs => .bool (bs.all id)
  | _ => none
def pAny : D → Option D
  | .list ds => (boolsOf ds).map fun bs => .bool (bs.any id)
  | _ => none
def pMin2 : D → D → Option D := pInt2 fun i j => .int (if j < i then j else i)
def pMax2 : D → D → Option D := pInt2 fun i j => .int (if j > i then j else i)
def pInt : D → Option D
  | .int i => some (.int i)
  | .bool b => some (.int (if b then 1 else 0))
  | .str a => (match PySem.intText? a with
    | some n => if a.length ≤ 640 then some (.int n) else none
    | none => none)
  | _ => none
def pTuple : D → Option D
  | .list ds => some (.tuple ds)
  | .tuple ds => some (.tuple ds)
  | _ => none
/-- list(x) -/
def kList : D → Option (List D)
  | .dict kvs => some (kvs.map (·.1))
  | d => itemsOf d
def pNeg : D → Option D
  | .int i => some (.int (-i))
  | _ => none
def pStr : D → Option D
  | .int i => if i.natAbs.log2 < 1920 then some (.str (toString i)) else none
  | .str a => some (.str a)
  | _ => none
/-! slices -/
def cutL {α : Type} (xs : List α) (lo hi : Option Int) : List α := (xs.drop (HT.sIx xs.length 0 lo)).take (HT.sIx xs.length xs.length hi - HT.sIx xs.length 0 lo)
def partRun (o : Option Den) : Ro → Hh → R (Option Int) := match o with
  | none => fun _ h => .ok none h
  | some f => fun rho h => (f rho h).bind fun d h' => match d with
    | .int i => .ok (some i) h'
    | _ => .bad
def partsRun (lo hi : Option Den) : Ro → Hh → R (Option Int × Option Int) := fun rho h => (partRun lo rho h).bind fun a h1 => (partRun hi rho h1).bind fun b h2 => .ok (a, b) h2
def pCut (d : D) (c : Option Int × Option Int) : Option D := match d with
  | .list ds => some (.list (cutL ds c.1 c.2))
  | .tuple ds => some (.tuple (cutL ds c.1 c.2))
  | .str z => if z.length ≤ lim then some (.str ⟨(cutL z.cps.toList c.1 c.2).toArray⟩) else none
  | _ => none
def dCut (o : Opd) (lo hi : Option Den) : Den := opThen o (partsRun lo hi) fun d c h => match pCut d c with
  | some d' => .ok d' h
  | none => .bad
def kCut (d : D) (c : Option Int × Option Int) : Option (List D) := match d with
  | .list ds => some (cutL ds c.1 c.2)
  | _ => none
def lCut (o : Opd) (lo hi : Option Den) : DenL := opThen o (partsRun lo hi) fun d c h => match kCut d c with
  | some d' => .ok d' h
  | none => .bad
def kRev : D → Option (List D)
  | .list ds => some ds.reverse
  | _ => none
def lRev (o : Opd) : DenL := op1 o (lift1 kRev)
/-! zip of two lists, of two tuples -/
def zipD : List D → List D → List D
  | a :: as, b :: bs => .tuple [a, b] :: zipD as bs
  | _, _ => []
def kZip : D → D → Option (List D)
  | .list xs, .list ys => if noBr xs = true then some (zipD xs ys) else none
  | .tuple xs, .tuple ys => if noBr xs = true then some (zipD xs ys) else none
  | _, _ => none
def lZip (f g : Den) : DenL := fun rho h => (f rho h).bind fun a h1 => (g rho h1).bind fun b h2 => match kZip a b with
  | some ds => .ok ds h2
  | none => .bad
/-- zip of three tuples -/
def zip3D : List D → List D → List D → List D
  | a :: as, b :: bs, c :: cs => .tuple [a, b, c] :: zip3D as bs cs
  | _, _, _ => []
def kZip3 : D → D → D → Option (List D)
  | .tuple xs, .tuple ys, .tuple zs => if noBr xs = true then some (zip3D xs ys zs) else none
  | _, _, _ => none
def lZip3 (f g k : Den) : DenL := fun rho h => (f rho h).bind fun a h1 => (g rho h1).bind fun b h2 => (k rho h2).bind fun c h3 => match kZip3 a b c with
  | some ds => .ok ds h3
  | none => .bad
def enumD : Nat → List D → List D
  | _, [] => []
  | i, d :: ds => .tuple [.int i, d] :: enumD (i + 1) ds
def lEnum (f : Den) : DenL := fun rho h => (f rho h).bind fun a h1 => match itemsOf a with
  | some ds => .ok (enumD 0 ds) h1
  | none => .bad
/-! {"a": .., "b": ..}[k] -/
def pickS : List Str → List D → Str → Option D
  | k :: ks, d :: ds, x => match pickS ks ds x with
    | some r => some r
    | none => if k = x then some d else none
  | _, _, _ => none
def dPick (ks : List Str) (fs : List Den) (g : Den) : Den := fun rho h => (dAll fs rho h).bind fun ds h1 => (g rho h1).bind fun d h2 => match d with
  | .str x => (match pickS ks ds x with
    | some r => .ok r h2
    | none => .bad)
  | _ => .bad
/-! x.index(e) -/
def idxD : List D → D → Nat → Option Nat
  | [], _, _ => none
  | z :: r, d, j => if PyData.eqv z d = true then some j else idxD r d (j + 1)
def kIndex (ds : List D) (d : D) (h : Hh) : R D := if SeqAt.shaped (.list ds) = true ∧ SeqAt.shaped d = true then (match idxD ds d 0 with
  | some j => .ok (.int (j : Nat)) h
  | none => .bad) else .bad
def dIndex (i : Nat) (o : Opd) : Den := fun rho h => match look rho h i with
  | some (.list _) => op1 o (fun b h2 => match look rho h2 i with
    | some (.list ds) => kIndex ds b h2
    | _ => .bad) rho h
  | _ => .bad
/-! x.count(e) -/
def kCount (ds : List D) (d : D) (h : Hh) : R D := if SeqAt.shaped (.list ds) = true ∧ SeqAt.shaped d = true then .ok (.int ((ds.countP fun z => PyData.eqv z d : Nat) : Int)) h else .bad
def dCount (i : Nat) (o : Opd) : Den := fun rho h => match look rho h i with
  | some (.list _) => op1 o (fun b h2 => match look rho h2 i with
    | some (.list ds) => kCount ds b h2
    | _ => .bad) rho h
  | _ => .bad
/-! range(a, b, -1) -/
def kRng3 : List D → Option (List D)
  | [.int i, .int j, .int c] => if c = -1 ∧ (-(2 ^ 62) ≤ i ∧ i < 2 ^ 62) ∧ (-(2 ^ 62) ≤ j ∧ j < 2 ^ 62) ∧ (i - j).toNat ≤ lim then some ((List.range (i - j).toNat).map fun (k : Nat) => .int (i + (k : Nat) * (-1))) else none
  | _ => none
def lRng3 (fs : List Den) : DenL := fun rho h => (dAll fs rho h).bind fun ds h' => match kRng3 ds with
  | some r => .ok r h'
  | none => .bad
/-! dicts -/
def kNew : DenD := fun _ h => .ok [] h
def kNew1 (f g : Den) : DenD := fun rho h => (f rho h).bind fun k h1 => (g rho h1).bind fun d h2 => match keyOf k with
  | some _ => .ok [(k, d)] h2
  | none => .bad
def ofD (l : DenD) : Den := fun rho h => (l rho h).bind fun kvs h' => .ok (.dict kvs) h'
/-- x.get(k, d) -/
def dGet (i : Nat) (f g : Den) : Den := fun rho h => match look rho h i with
  | some (.dict _) => (f rho h).bind fun k h1 => (g rho h1).bind fun d h2 => (match look rho h2 i with
    | some (.dict kvs) => (match keyOf k with
      | some is => .ok ((getK kvs is).getD d) h2
      | none => .bad)
    | _ => .bad)
  | _ => .bad
/-- x = a new dict, x's own -/
def sOwnD (i : Nat) (l : DenD) : DenS := fun s => ofR (l s.rho s.h) s.rho fun kvs h' => .next ⟨s.rho.set i (.ownd kvs), h'⟩
/-- x[k] = d -/
def sPutD (i : Nat) (f g : Den) : DenS := fun s => ofR (g s.rho s.h) s.rho fun d h1 => match s.rho[i]? with
  | some (.ownd kvs) => ofR (f s.rho h1) s.rho fun k h2 => (match keyOf k with
    | some is => if kvs.length < lim then .next ⟨s.rho.set i (.ownd (stoK kvs k is d)), h2⟩ else .bad
    | none => .bad)
  | some (.own ds) => ofR (f s.rho h1) s.rho fun k h2 => (match k with
    | .int k => (match L2.ixN ds.length k with
      | some j => .next ⟨s.rho.set i (.own (ds.set j d)), h2⟩
      | none => .bad)
    | _ => .bad)
  | some (.ref n) => ofR (f s.rho h1) s.rho fun k h2 => (match keyOf k with
    | some is => (match h2[n]? with
      | some (.dic kvs) => if kvs.length < lim then .next ⟨s.rho, h2.set n (.dic (stoK kvs k is d))⟩ else .bad
      | _ => .bad)
    | none => .bad)
  | _ => .bad
/-! a[k], b = e1, e2 -/
inductive PTg where
  | nm (i : Nat) | sub (i : Nat) (f : Den)
def stoX : List PTg → List D → S → Option S
  | [], [], s => some s
  | .nm i :: ts, d :: ds, s => stoX ts ds ⟨s.rho.set i (.val d), s.h⟩
  | .sub i f :: ts, d :: ds, s => (match s.rho[i]? with
    | some (.ownd kvs) => (match f s.rho s.h with
      | .ok k h1 => (match keyOf k with
        | some is => if kvs.length < lim then stoX ts ds ⟨s.rho.set i (.ownd (stoK kvs k is d)), h1⟩ else none
        | none => none)
      | _ => none)
    | _ => none)
  | [], _ :: _, _ => none
  | _ :: _, [], _ => none
def sParX (ts : List PTg) (fs : List Den) : DenS := fun s => ofR (dAll fs s.rho s.h) s.rho fun ds h' => match stoX ts ds ⟨s.rho, h'⟩ with
  | some s' => .next s'
  | none => .bad
/-! sorted, sum, min, max of a list; a list's item taken out; [::-1] -/
def tup1 : D → Bool
  | .tuple (_ :: _) => true
  | _ => false
def noTup : D → Bool
  | .none => false
  | .tuple _ => false
  | _ => true
def isTup : D → Bool
  | .tuple _ => true
  | _ => false
def allAlike (ds : List D) : Bool := ds.all fun d => ds.all fun d' => PySem.W.alike d d'
def tup0 : List D → Bool
  | .tuple [] :: r => r.all isTup
  | _ => false
def sortOk (ds : List D) : Bool := SeqAt.shaped (.list ds) && allAlike ds && (ds.all tup1 || ds.all noTup || tup0 ds)
/-- sorted, as the kernel can run it -/
def insD (a : D) : List D → List D
  | [] => [a]
  | b :: r => if PySem.W.dataLe false id a b = true then a :: b :: r else b :: insD a r
def srtD : List D → List D
  | [] => []
  | a :: r => insD a (srtD r)
theorem insD_eq {a : D} : ∀ {l₁ l₂ : List D}, (∀ b ∈ l₁, PySem.W.dataLe false id a b = false) → (l₁ ++ a :: l₂).Pairwise (fun a b => PySem.W.dataLe false id a b = true) → insD a (l₁ ++ l₂) = l₁ ++ a :: l₂
  | [], [], _, _ => rfl
  | [], b :: r, _, p => by
    rw [List.nil_append, List.pairwise_cons] at p
    show (if _ then _ else _) = _
    rw [if_pos (p.1 b List.mem_cons_self)]
    rfl
  | b :: l₁, l₂, h, p => by
    rw [List.cons_append, List.pairwise_cons] at p
    show (if _ then _ else _) = _
    rw [if_neg (by rw [h b List.mem_cons_self]; exact Bool.false_ne_true)]
    exact congrArg (b :: ·) (insD_eq (fun c hc => h c (List.mem_cons_of_mem _ hc)) p.2)
theorem srtD_eq : ∀ ds : List D, srtD ds = ds.mergeSort (PySem.W.dataLe false id)
  | [] => by rw [List.mergeSort_nil]; rfl
  | a :: r => by
    have T := PySem.W.sortLe_total (PyProof.Rows.listOrd PyProof.Rows.itemOrd) false fun b : D => PySem.W.keyToks (id b)
    have tr : ∀ a b c : D, PySem.W.dataLe false id a b = true → PySem.W.dataLe false id b c = true → PySem.W.dataLe false id a c = true := fun a b c h1 h2 => T.trans a b c h1 h2
    have tt : ∀ a b : D, (PySem.W.dataLe false id a b || PySem.W.dataLe false id b a) = true := fun a b => by
      rcases T.total a b with q | q
      · exact Bool.or_eq_true _ _ |>.mpr (.inl q)
      · exact Bool.or_eq_true _ _ |>.mpr (.inr q)
    obtain ⟨l₁, l₂, e1, e2, e3⟩ := List.mergeSort_cons tr tt a r
    have pw := List.pairwise_mergeSort tr tt (a :: r)
    rw [e1] at pw
    show insD a (srtD r) = _
    rw [srtD_eq r, e1, e2]
    exact insD_eq (fun b hb => by simpa using e3 b hb) pw
def kSorted : D → Option (List D)
  | .list ds => if sortOk ds = true then some (srtD ds) else none
  | _ => none
def lSorted (o : Opd) : DenL := op1 o (lift1 kSorted)
def intsOf : List D → Option (List Int)
  | [] => some []
  | .int i :: r => (intsOf r).map fun is => i :: is
  | _ :: _ => none
def pSum : D → Option D
  | .list ds => (intsOf ds).map fun is => .int is.sum
  | _ => none
def bestOk (ds : List D) : Bool := SeqAt.shaped (.list ds) && allAlike ds && ds.all fun d => !isNone d
def pMinL : D → Option D
  | .list (d :: ds) => if bestOk (d :: ds) = true then some (PySem.W.minD d ds) else none
  | _ => none
def pMaxL : D → Option D
  | .list (d :: ds) => if bestOk (d :: ds) = true then some (PySem.W.maxD d ds) else none
  | _ => none
def pRev : D → Option D
  | .list ds => some (.list ds.reverse)
  | .tuple ds => some (.tuple ds.reverse)
  | .str z => if z.length ≤ lim then some (.str ⟨z.cps.toList.reverse.toArray⟩) else none
  | _ => none
/-- x.pop(e) -/
def sPopAt (i : Nat) (f : Den) : DenS := fun s => match s.rho[i]? with
  | some (.own ds) => ofR (f s.rho s.h) s.rho fun d h' => (match d with
    | .int k => if -(2 ^ 62) ≤ k ∧ k < 2 ^ 62 then (match seqIndex? k ds.length with
      | some j => .next ⟨s.rho.set i (.own (ds.eraseIdx j)), h'⟩
      | none => .bad) else .bad
    | _ => .bad)
  | _ => .bad
/-! lists of lists that change -/
def refsD (h : Hh) : List Nat → Option (List D)
  | [] => some []
  | n :: ns => match h[n]?, refsD h ns with
    | some (.lst ds), some r => some (.list ds :: r)
    | _, _ => none
def sRefs0 (i : Nat) : DenS := fun s => .next ⟨s.rho.set i (.refs []), s.h⟩
/-- x.append(a new list) -/
def sAppR (i : Nat) (l : DenL) : DenS := fun s => match s.rho[i]? with
  | some (.refs ns) => ofR (l s.rho s.h) s.rho fun ds h' => if ns.length < lim then .next ⟨s.rho.set i (.refs (ns ++ [h'.length])), h' ++ [.lst ds]⟩ else .bad
  | _ => .bad
/-- x[k].append(e) -/
def sAppIn (i : Nat) (g f : Den) : DenS := fun s => match s.rho[i]? with
  | some (.refs ns) => ofR (g s.rho s.h) s.rho fun k h1 => (match k with
    | .int k => (match L2.atI ns k with
      | some n => (match h1[n]? with
        | some (.lst _) => ofR (f s.rho h1) s.rho fun d h2 => (match h2[n]? with
          | some (.lst ds) => if ds.length < lim then .next ⟨s.rho, h2.set n (.lst (ds ++ [d]))⟩ else .bad
          | _ => .bad)
        | _ => .bad)
      | none => .bad)
    | _ => .bad)
  | _ => .bad
/-- if x == []: -/
def sIfNil (i : Nat) (a b : DenS) : DenS := fun s => match s.rho[i]? with
  | some (.refs ns) => (match refsD s.h ns with
    | some ds => if SeqAt.shaped (.list ds) = true then (if ns.isEmpty = true then a s else b s) else .bad
    | none => .bad)
  | _ => .bad
def giveR : Hh → List Nat → Option (List D × Hh)
  | h, [] => some ([], h)
  | h, n :: ns => match h[n]? with
    | some (.lst ds) => (match giveR (h.set n .dead) ns with
      | some (r, h') => some (.list ds :: r, h')
      | none => none)
    | _ => none
def sRetR (i : Nat) : DenS := fun s => match s.rho[i]? with
  | some (.refs ns) => (match giveR s.h ns with
    | some (ds, h') => .ret (.list ds) h'
    | none => .bad)
  | _ => .bad
/-- x = [y for y in z if ..], z of shared things -/
def loopP (vs : List Nat) (v : Nat) (tt : DenT) (rho : Ro) : List Nat → List Nat → Hh → R (List Nat)
  | [], acc, h => .ok acc h
  | n :: ns, acc, h => match tt ((wipeR rho vs).set v (.ref n)) h with
    | .ok true h1 => loopP vs v tt rho ns (acc ++ [n]) h1
    | .ok false h1 => loopP vs v tt rho ns acc h1
    | _ => .bad
def sPick (i j v : Nat) (vs : List Nat) (tt : DenT) : DenS := fun s => if plainAt s.rho vs = true then (match s.rho[j]? with
  | some (.refs ns) => ofR (loopP vs v tt s.rho ns [] s.h) s.rho fun ns' h' => .next ⟨s.rho.set i (.refs ns'), h'⟩
  | _ => .bad) else .bad
/-- x = [k for k, y in enumerate(z) if ..] -/
def loopE (vs : List Nat) (k v : Nat) (tt : DenT) (rho : Ro) : Nat → List Nat → List D → Hh → R (List D)
  | _, [], acc, h => .ok acc h
  | m, n :: ns, acc, h => match tt (((wipeR rho vs).set k (.val (.int (m : Nat)))).set v (.ref n)) h with
    | .ok true h1 => loopE vs k v tt rho (m + 1) ns (acc ++ [.int (m : Nat)]) h1
    | .ok false h1 => loopE vs k v tt rho (m + 1) ns acc h1
    | _ => .bad
def sPickE (i j k v : Nat) (vs : List Nat) (tt : DenT) : DenS := fun s => if plainAt s.rho vs = true then (match s.rho[j]? with
  | some (.refs ns) => ofR (loopE vs k v tt s.rho 0 ns [] s.h) s.rho fun ds h' => .next ⟨s.rho.set i (.val (.list ds)), h'⟩
  | _ => .bad) else .bad
/-! a def -/
def slotOf : Arg → Slot
  | .dat d => .val d
  | .ref n => .ref n
  | .exc c => .exc c
def runFn (np nn : Nat) (b : DenS) : FnDen := fun as h => if as.length = np then (match b ⟨as.map slotOf ++ List.replicate (nn - np) .no, h⟩ with
  | .ret d h' => .ok d (h'.take h.length)
  | .next s => .ok .none (s.h.take h.length)
  | .exc c s => .exc c (s.h.take h.length)
  | _ => .bad) else .bad
/-! a def that calls itself -/
def badFn : FnDen := fun _ _ => .bad
def recM (np nn : Nat) (br : FnDen → DenS) : Nat → FnDen
  | 0 => badFn
  | n + 1 => runFn np nn (br (recM np nn br n))
/-- list(e) -/
def lList (o : Opd) : DenL := op1 o (lift1 kList)
/-- a + b, two lists -/
def kCat : D → D → Option (List D)
  | .list xs, .list ys => if xs.length + ys.length ≤ lim then some (xs ++ ys) else none
  | _, _ => none
def lCat (o1 o2 : Opd) : DenL := op2 o1 o2 (lift2 kCat)
/-- [el for t in x if tt], x a shared list -/
def loopCR (vs : List Nat) (t : Tgt) (tt : DenT) (el : Den) (rho : Ro) (n : Nat) : Nat → Nat → List D → Hh → R (List D)
  | 0, j, acc, h => (match h[n]? with
    | some (.lst ds) => if ds.length = j then .ok acc h else .bad
    | _ => .bad)
  | m + 1, j, acc, h => (match h[n]? with
    | some (.lst ds) => (match ds[j]? with
      | some d => (match t.put d (wipeR rho vs) with
        | some rho' => (match tt rho' h with
          | .ok true h1 => (match el rho' h1 with
            | .ok y h2 => loopCR vs t tt el rho n m (j + 1) (acc ++ [y]) h2
            | _ => .bad)
          | .ok false h1 => loopCR vs t tt el rho n m (j + 1) acc h1
          | _ => .bad)
        | none => .bad)
      | none => .bad)
    | _ => .bad)
def lCompRef (vs : List Nat) (i : Nat) (t : Tgt) (tt : DenT) (el : Den) : DenL := fun rho h => if plainAt rho vs = true then (match rho[i]? with
  | some (.ref n) => (match h[n]? with
    | some (.lst ds) => if ds.length < lim then loopCR vs t tt el rho n ds.length 0 [] h else .bad
    | _ => .bad)
  | _ => .bad) else .bad
/-- x.pop(), x a shared list -/
def dPop (i : Nat) : Den := fun rho h => match rho[i]? with
  | some (.ref n) => (match h[n]? with
    | some (.lst ds) => (match ds[ds.length - 1]? with
      | some d => .ok d (h.set n (.lst ds.dropLast))
      | none => .bad)
    | _ => .bad)
  | _ => .bad
/-- x.pop(e), x a shared list -/
def sPopAtR (i : Nat) (f : Den) : DenS := fun s => match s.rho[i]? with
  | some (.ref n) => (match s.h[n]? with
    | some (.lst _) => ofR (f s.rho s.h) s.rho fun d h' => (match d with
      | .int k => if -(2 ^ 62) ≤ k ∧ k < 2 ^ 62 then (match h'[n]? with
        | some (.lst ds) => (match seqIndex? k ds.length with
          | some j => .next ⟨s.rho, h'.set n (.lst (ds.eraseIdx j))⟩
          | none => .bad)
        | _ => .bad) else .bad
      | _ => .bad)
    | _ => .bad)
  | _ => .bad
/-- x = a new dict, shared from now on -/
def sShareD (i : Nat) (l : DenD) : DenS := fun s => ofR (l s.rho s.h) s.rho fun kvs h' => .next ⟨s.rho.set i (.ref h'.length), h' ++ [.dic kvs]⟩
def whileN : Nat := 1000000
/-- dict(pairs) -/
def goPairs : List D → List (D × D) → Option (List (D × D))
  | [], acc => some acc
  | .tuple [k, d] :: r, acc => (match keyOf k with
    | some is => goPairs r (stoK acc k is d)
    | none => none)
  | _ :: _, _ => none
def kPairs : D → Option (List (D × D))
  | .tuple ds => if brn ds = true then goPairs ds [] else none
  | _ => none
def kDictP (o : Opd) : DenD := op1 o (lift1 kPairs)
theorem perm_sorted {α : Type} (lt : α → α → Bool) : ∀ {l' l : List α}, l.Perm l' → l.Pairwise (fun a b => (!lt b a) = true) → l'.Pairwise (fun a b => lt a b = true) → l = l'
  | [], l, p, _, _ => List.Perm.eq_nil p
  | a :: r, [], p, _, _ => by simp at p
  | a :: r, b :: t, p, h1, h2 => by
    rw [List.pairwise_cons] at h1 h2
    have hb : b = a ∨ b ∈ r := by simpa using p.subset (List.mem_cons_self (a := b) (l := t))
    have ha : a = b ∨ a ∈ t := by simpa using p.symm.subset (List.mem_cons_self (a := a) (l := r))
    have e : b = a := by
      rcases hb with hb | hb
      · exact hb
      · rcases ha with ha | ha
        · exact ha.symm
        · have := h1.1 a ha
          rw [h2.1 b hb] at this
          cases this
    subst e
    rw [perm_sorted lt ((List.perm_cons b).mp p) h1.2 h2.2]
theorem sort_eq {l l' : List D} (p : l.Perm l') (s : l'.Pairwise fun a b => PySem.W.dataLt a b = true) : srtD l = l' := by
  rw [srtD_eq]
  have T := PySem.W.sortLe_total (PyProof.Rows.listOrd PyProof.Rows.itemOrd) false fun b : D => PySem.W.keyToks (id b)
  refine perm_sorted PySem.W.dataLt ((List.mergeSort_perm l _).trans p) ?_ s
  exact List.pairwise_mergeSort (fun a b c h1 h2 => T.trans a b c h1 h2) (fun a b => by
    rcases T.total a b with q | q
    · exact Bool.or_eq_true _ _ |>.mpr (.inl q)
    · exact Bool.or_eq_true _ _ |>.mpr (.inr q)) l
/-! sorted(set(xs)), xs tuples of whole numbers -/
def tupI (k : List Int) : D := .tuple (k.map PyData.int)
def keyT : D → Option (List Int)
  | .tuple ds => intsOf ds
  | _ => none
def keysT : List D → Option (List (List Int))
  | [] => some []
  | d :: r => match keyT d, keysT r with
    | some k, some ks => some (k :: ks)
    | _, _ => none
def addI (ks : List (List Int)) (k : List Int) : List (List Int) := if k ∈ ks then ks else ks ++ [k]
def ddI (ks : List (List Int)) : List (List Int) := ks.foldl addI []
def kSortSet : D → Option (List D)
  | .list ds => (match keysT ds with
    | some ks => if ds.length < 64 ∧ ks.all (fun k => !k.isEmpty) = true then some (srtD ((ddI ks).map tupI)) else none
    | none => none)
  | _ => none
def lSortSet (o : Opd) : DenL := op1 o (lift1 kSortSet)
/-! texts -/
/-- a.split(b) -/
def kSplit (b : Str) : D → Option (List D)
  | .str a => if (b.length == 0) = false ∧ a.length + 2 ≤ lim ∧ (Txt.split a b).length ≤ lim then some ((Txt.split a b).map PyData.str) else none
  | _ => none
def lSplit (o : Opd) (b : Str) : DenL := op1 o (lift1 (kSplit b))
def strsOf : List D → Option (List Str)
  | [] => some []
  | .str x :: r => (match strsOf r with
    | some xs => some (x :: xs)
    | none => none)
  | _ => none
/-- a.join(..) -/
def pJoin (a : Str) : D → Option D
  | .list ds => (match strsOf ds with
    | some ys => if (ys.map (·.length)).sum + ys.length * a.length ≤ lim then some (.str (Txt.join a ys)) else none
    | none => none)
  | _ => none
/-- tuple(zip(..)) -/
def dTupZip (f g : Den) : Den := fun rho h => (lZip f g rho h).bind fun ds h' => .ok (.tuple ds) h'
/-- a dict of the text, at a text -/
def getS : List (Str × D) → Str → Option D
  | [], _ => none
  | (k, d) :: r, x => if k = x then some d else getS r x
def dDct (kvs : List (Str × D)) (g : Den) : Den := fun rho h => (g rho h).bind fun d h' => match d with
  | .str x => (match getS kvs x with
    | some v => .ok v h'
    | none => .bad)
  | _ => .bad
/-! try .. except -/
def refD (i : Nat) : D := .tuple [.str "refused", .int (i : Int)]
def ixS : List Str → Str → Nat → Option Nat
  | [], _, _ => none
  | y :: r, x, j => if y = x then some j else ixS r x (j + 1)
/-- try: b / except .. as e: return which(e) -/
def sTryW (n : Nat) (cs : List Str) (b : DenS) : DenS := fun s => match b s with
  | .exc c s' => (match ixS cs c 0 with
    | some i => if n < s'.rho.length then .ret (refD i) s'.h else .bad
    | none => .bad)
  | y => y
/-- try: b / except x: k -/
def sTryC (cs : List Str) (b k : DenS) : DenS := fun s => match b s with
  | .exc c s' => if c ∈ cs then k s' else .bad
  | y => y
/-! functions out of a list -/
def mDef (m : FnDen) (dd : D) : FnDen := fun args h => m (args ++ [.dat dd]) h
/-- [f, g, ..][e](..) -/
def dSel (ms : List FnDen) (fi : Den) (as : List ADen) : Den := fun rho h => (fi rho h).bind fun d h1 => match d with
  | .int j => if 0 ≤ j then (match ms[j.toNat]? with
    | some m => dCall m as rho h1
    | none => .bad) else .bad
  | _ => .bad
/-- x = [f, g, ..], then return x[e](..) -/
def sSel (i : Nat) (g : Den) : DenS := fun s => if i < s.rho.length then sRet g ⟨s.rho.set i .no, s.h⟩ else .bad
/-! classrooms -/
def roomAt (rho : Ro) (h : Hh) (i : Nat) : Option (Nat × D × List (Str × D) × List (List (Str × D)) × List D) := match rho[i]? with
  | some (.ref n) => (match h[n]? with
    | some (.room s r p c) => some (n, s, r, p, c)
    | _ => none)
  | _ => none
def putS (rows : List (Str × D)) (k : Str) (d : D) : List (Str × D) := if (getS rows k).isSome = true then rows.map fun r => if r.1 = k then (r.1, d) else r else rows ++ [(k, d)]
/-- x.school -/
def dSchool (i : Nat) : Den := fun rho h => match roomAt rho h i with
  | some (_, s, _, _, _) => .ok s h
  | none => .bad
/-- e in x.rows -/
def dRowIn (b : Bool) (i : Nat) (f : Den) : Den := fun rho h => (f rho h).bind fun d h1 => match d, roomAt rho h1 i with
  | .str x, some (_, _, r, _, _) => .ok (.bool ((getS r x).isSome == b)) h1
  | _, _ => .bad
/-- x.rows[y] -/
def dRowGet (i j : Nat) : Den := fun rho h => match rho[j]?, roomAt rho h i with
  | some (.val (.str x)), some (_, _, r, _, _) => (match getS r x with
    | some v => .ok v h
    | none => .bad)
  | _, _ => .bad
/-- x.past.append(dict(x.rows)) -/
def sPastPush (i : Nat) : DenS := fun s => match roomAt s.rho s.h i with
  | some (n, sc, r, p, c) => if p.length < lim then .next ⟨s.rho, s.h.set n (.room sc r (p ++ [r]) c)⟩ else .bad
  | none => .bad
/-- x.calls.append(y) -/
def sCallPush (i j : Nat) : DenS := fun s => match s.rho[j]?, roomAt s.rho s.h i with
  | some (.val d), some (n, sc, r, p, c) => if c.length < lim then .next ⟨s.rho, s.h.set n (.room sc r p (c ++ [d]))⟩ else .bad
  | _, _ => .bad
/-- x.rows[y] = z -/
def sRowPut (i j k : Nat) : DenS := fun s => match s.rho[j]?, s.rho[k]?, roomAt s.rho s.h i with
  | some (.val (.str x)), some (.val d), some (n, sc, r, p, c) => if r.length < lim then .next ⟨s.rho, s.h.set n (.room sc (putS r x d) p c)⟩ else .bad
  | _, _, _ => .bad
/-- x.school = y; x.rows = {}; x.past = []; x.calls = [] -/
def sInit (i j : Nat) : DenS := fun s => match s.rho[j]?, s.rho[i]? with
  | some (.val d), some (.ref n) => (match s.h[n]? with
    | some .blank => .next ⟨s.rho, s.h.set n (.room d [] [] [])⟩
    | _ => .bad)
  | _, _ => .bad
/-- x.past == [] -/
def dPastNil (i : Nat) : Den := fun rho h => match roomAt rho h i with
  | some (_, _, _, p, _) => .ok (.bool p.isEmpty) h
  | none => .bad
/-- x.rows = x.past.pop() -/
def sRowsPop (i : Nat) : DenS := fun s => match roomAt s.rho s.h i with
  | some (n, sc, _, p, c) => (match p[p.length - 1]? with
    | some r => .next ⟨s.rho, s.h.set n (.room sc r p.dropLast c)⟩
    | none => .bad)
  | none => .bad
/-- x.calls.pop() -/
def dCallPop (i : Nat) : Den := fun rho h => match roomAt rho h i with
  | some (n, sc, r, p, c) => (match c[c.length - 1]? with
    | some d => .ok d (h.set n (.room sc r p c.dropLast))
    | none => .bad)
  | none => .bad
/-- y.rows = dict(x.rows) -/
def sRowsCopy (j i : Nat) : DenS := fun s => match roomAt s.rho s.h i, roomAt s.rho s.h j with
  | some (_, _, r, _, _), some (m, sc, _, p, c) => .next ⟨s.rho, s.h.set m (.room sc r p c)⟩
  | _, _ => .bad
/-- len(x.rows), list(x.rows) -/
def dRowsLen (i : Nat) : Den := fun rho h => match roomAt rho h i with
  | some (_, _, r, _, _) => .ok (.int (r.length : Nat)) h
  | none => .bad
def lRowsKeys (i : Nat) : DenL := fun rho h => match roomAt rho h i with
  | some (_, _, r, _, _) => .ok (r.map fun q => .str q.1) h
  | none => .bad
/-- x.rows == y.rows -/
def rowsEq (a b : List (Str × D)) : Bool := a.length == b.length && a.all fun q => match getS b q.1 with
  | some d => PyData.eqv q.2 d
  | none => false
def rowsSh (a : List (Str × D)) : Bool := a.all fun q => SeqAt.shaped q.2
def dRowsEq (i j : Nat) : Den := fun rho h => match roomAt rho h i, roomAt rho h j with
  | some (_, _, r, _, _), some (_, _, r', _, _) => if (rowsSh r && rowsSh r') = true then .ok (.bool (rowsEq r r')) h else .bad
  | _, _ => .bad
/-- isinstance(x, Room) -/
def dIsRoom (i : Nat) : Den := fun rho h => match rho[i]? with
  | some (.ref _) => (match roomAt rho h i with
    | some _ => .ok (.bool true) h
    | none => .bad)
  | some (.val d) => (match tyName d with
    | some _ => .ok (.bool false) h
    | none => .bad)
  | _ => .bad
/-! objects that are made, told -/
/-- a shared thing, by its number -/
abbrev DenO := Ro → Hh → R Nat
/-- Room(..), m: what __init__ does -/
def oMake (m : FnDen) (fs : List Den) : DenO := fun rho h => (dAll fs rho h).bind fun ds h1 => (m (.ref h1.length :: ds.map Arg.dat) (h1 ++ [.blank])).bind fun d h2 => match d with
  | .none => .ok h1.length h2
  | _ => .bad
/-- Room(..) where it only may be refused -/
def dMakeX (m : FnDen) (fs : List Den) : Den := fun rho h => (oMake m fs rho h).bind fun _ _ => .bad
/-- a def that gives a thing of its own -/
abbrev FnDenO := List Arg → Hh → R Ob
def obLive : Ob → Bool
  | .dead => false
  | _ => true
def runFnO (np nn : Nat) (b : DenS) : FnDenO := fun as h => if as.length = np then (match b ⟨as.map slotOf ++ List.replicate (nn - np) .no, h⟩ with
  | .retR n h' => if h.length ≤ n then (match h'[n]? with
    | some o => if obLive o = true then .ok o (h'.take h.length) else .bad
    | none => .bad) else .bad
  | .exc c s => .exc c (s.h.take h.length)
  | _ => .bad) else .bad
def oCall (m : FnDenO) (as : List ADen) : DenO := fun rho h => (aAll as rho h).bind fun xs h1 => (m xs h1).bind fun o h2 => .ok h2.length (h2 ++ [o])
/-- return x, a thing of its own -/
def sRetO (i : Nat) : DenS := fun s => match s.rho[i]? with
  | some (.ref n) => .retR n s.h
  | _ => .bad
/-- x = a thing -/
def sAsgO (i : Nat) (f : DenO) : DenS := fun s => ofR (f s.rho s.h) s.rho fun n h' => .next ⟨s.rho.set i (.ref n), h'⟩
/-! methods of a classroom -/
def dMeth (m : FnDen) (i : Nat) (as : List ADen) : Den := fun rho h => match roomAt rho h i with
  | some (n, _) => (aAll as rho h).bind fun xs h1 => m (.ref n :: xs) h1
  | none => .bad
def dMethK (m : FnDen) (i : Nat) (fs : List Den) (fk : Den) : Den := fun rho h => match roomAt rho h i with
  | some (n, _) => (dAll fs rho h).bind fun ds h1 => (fk rho h1).bind fun d h2 => m (.ref n :: (ds.map Arg.dat ++ [.dat d])) h2
  | none => .bad
def oMeth (m : FnDenO) (i : Nat) : DenO := fun rho h => match roomAt rho h i with
  | some (n, _) => (m [.ref n] h).bind fun o h2 => .ok h2.length (h2 ++ [o])
  | none => .bad
/-- len(x), str(x) -/
def dLenO (m : FnDen) (i : Nat) : Den := fun rho h => match roomAt rho h i with
  | some (n, _) => (m [.ref n] h).bind fun d h2 => match d with
    | .int k => if 0 ≤ k ∧ k < 2 ^ 62 then .ok (.int k) h2 else .bad
    | _ => .bad
  | none => .bad
def dStrO (m : FnDen) (i : Nat) : Den := fun rho h => match roomAt rho h i with
  | some (n, _) => (m [.ref n] h).bind fun d h2 => match d with
    | .str y => .ok (.str y) h2
    | _ => .bad
  | none => .bad
def isRm (h : Hh) : Arg → Bool
  | .ref n => (match h[n]? with
    | some (.room _ _ _ _) => true
    | _ => false)
  | _ => false
def isTy : Arg → Bool
  | .dat d => (tyName d).isSome
  | _ => false
/-- a == b, a a classroom -/
def dEqO (m : FnDen) (a b : ADen) : Den := fun rho h => (aRun a rho h).bind fun u h1 => (aRun b rho h1).bind fun v h2 =>
  if isRm h2 u = true ∧ (isRm h2 v = true ∨ isTy v = true) then (m [u, v] h2).bind fun d h3 => match d with
    | .bool c => .ok (.bool c) h3
    | _ => .bad else .bad
/-- what is not served -/
def sBad : DenS := fun _ => .bad
end Ev
/-! # Ev1: how the plain states stand for the model's -/
namespace Ev
open PySem PySem.Spec PyProof.Rows L2
section
variable {K : PySem.W.Frag} {F F' H H' : Hp}
theorem same_refl : Same H H := fun _ _ e => e
theorem Same.rd (e : Same F F') {a : Addr} {u : HO} (h : Rd F a u) : Rd F' a u := by
  rcases h with h | ⟨o, h⟩
  · exact .inl (e _ _ h)
  · exact .inr ⟨o, e _ _ h⟩
theorem Same.seqT (e : Same F F') {a : Addr} {xs : List V} (h : SqT K F a xs) : SqT K F' a xs := by
  rcases h with h | h
  · exact .inl (Same.rd e h)
  · exact .inr h
end
/-! ### dicts: the object itself is known -/
def pinO (a : Addr) (o : Obj) : HO := .ext fun h => h.get? a = some o
abbrev DEnt := List Int × Addr × Value
def nkey (is : List Int) : NestedKey := .tup (is.map .num)
def entN (w : World) (x : DEnt) : DictEntry := ⟨NestedKey.hash w (nkey x.1), .ref x.2.1, x.2.2⟩
structure DOk (a : Addr) (o : Obj) (xs : List DEnt) : Prop where
  ns : (a == sysModules) = false
  ex : o.ExactDict
  es : ∃ es ep, o.data = .dict es ep ∧ ∀ w, es.toList = xs.map (entN w)
  nd : (xs.map (·.1)).Nodup
  le : xs.length ≤ sizeLine
/-- a tuple that is a plain object -/
def PlT (F : Hp) (a : Addr) (xs : List V) : Prop := ∃ o, F a = some (.frz o (.tup xs)) ∧ o.dict = none
theorem PlT.mono {F F' : Hp} {a : Addr} {xs : List V} (m : Same F F') (h : PlT F a xs) : PlT F' a xs := by
  obtain ⟨o, e, d⟩ := h
  exact ⟨o, m _ _ e, d⟩
mutual
/-- data of any depth: lists are tracked (or locked) ones, tuples any -/
inductive Rp (K : PySem.W.Frag) (F : Hp) : V → D → Prop
  | non : Rp K F .non .none
  | bl (b : Bool) : Rp K F (.bl b) (.bool b)
  | int (i : Int) : Rp K F (.int i) (.int i)
  | str (x : Str) : Rp K F (.str x) (.str x)
  | lst {a : Addr} {xs : List V} {ds : List D} : Rd F a (.lst xs) → RpAll K F xs ds → ds.length ≤ sizeLine → Rp K F (.ref a) (.list ds)
  | tup {a : Addr} {xs : List V} {ds : List D} : SqT K F a xs → RpAll K F xs ds → ds.length ≤ sizeLine → (brn ds = true → PlT F a xs) → Rp K F (.ref a) (.tuple ds)
  | dct {a : Addr} {o : Obj} {xs : List DEnt} {kvs : List (D × D)} : F a = some (pinO a o) → DOk a o xs → RpKv K F xs kvs → Rp K F (.ref a) (.dict kvs)
inductive RpAll (K : PySem.W.Frag) (F : Hp) : List V → List D → Prop
  | nil : RpAll K F [] []
  | cons {v : V} {vs : List V} {d : D} {ds : List D} : Rp K F v d → RpAll K F vs ds → RpAll K F (v :: vs) (d :: ds)
inductive RpKv (K : PySem.W.Frag) (F : Hp) : List DEnt → List (D × D) → Prop
  | nil : RpKv K F [] []
  | cons {is : List Int} {b : Addr} {u : Value} {xs : List DEnt} {kd d : D} {kvs : List (D × D)} {v : V} : keyOf kd = some is → Rp K F (.ref b) kd → RelV v u → Rp K F v d → RpKv K F xs kvs → RpKv K F ((is, b, u) :: xs) ((kd, d) :: kvs)
end
section
variable {K : PySem.W.Frag} {F F' H H' : Hp}
mutual
theorem rp_mono (m : Same F F') : ∀ {v : V} {d : D}, Rp K F v d → Rp K F' v d
  | _, _, .non => .non
  | _, _, .bl b => .bl b
  | _, _, .int i => .int i
  | _, _, .str x => .str x
  | _, _, .lst h r l => .lst (Same.rd m h) (rpAll_mono m r) l
  | _, _, .tup h r l b => .tup (Same.seqT m h) (rpAll_mono m r) l fun z => (b z).mono m
  | _, _, .dct h k r => .dct (m _ _ h) k (rpKv_mono m r)
theorem rpAll_mono (m : Same F F') : ∀ {vs : List V} {ds : List D}, RpAll K F vs ds → RpAll K F' vs ds
  | _, _, .nil => .nil
  | _, _, .cons h r => .cons (rp_mono m h) (rpAll_mono m r)
theorem rpKv_mono (m : Same F F') : ∀ {xs : List DEnt} {kvs : List (D × D)}, RpKv K F xs kvs → RpKv K F' xs kvs
  | _, _, .nil => .nil
  | _, _, .cons h1 h2 h3 h4 r => .cons h1 (rp_mono m h2) h3 (rp_mono m h4) (rpKv_mono m r)
end
mutual
theorem rp_dp (m : Same F H) : ∀ {v : V} {d : D}, Rp K F v d → d.canLay0 = true → Dp K H v d
  | _, _, .non, _ => .non
  | _, _, .bl b, _ => .bl b
  | _, _, .int i, _ => .int i
  | _, _, .str x, _ => .str x
  | _, _, .lst h r _, c => .lst (.inl (Same.rd m h)) (rpAll_dp m r (by rw [PyData.canLay0] at c; exact c))
  | _, _, .tup h r _ _, c => .tup (Same.seqT m h) (rpAll_dp m r (by rw [PyData.canLay0] at c; exact c))
  | _, _, .dct _ _ _, c => by rw [PyData.canLay0] at c; cases c
theorem rpAll_dp (m : Same F H) : ∀ {vs : List V} {ds : List D}, RpAll K F vs ds → PyData.canLayAll0 ds = true → DpAll K H vs ds
  | _, _, .nil, _ => .nil
  | _, _, .cons h r, c => by
    rw [PyData.canLayAll0, Bool.and_eq_true] at c
    exact .cons (rp_dp m h c.1) (rpAll_dp m r c.2)
end
theorem RpAll.length : ∀ {vs : List V} {ds : List D}, RpAll K F vs ds → vs.length = ds.length
  | _, _, .nil => rfl
  | _, _, .cons _ r => by rw [List.length_cons, List.length_cons, RpAll.length r]
theorem RpAll.get : ∀ {vs : List V} {ds : List D} {i : Nat} {d : D}, RpAll K F vs ds → ds[i]? = some d → ∃ v, vs[i]? = some v ∧ Rp K F v d
  | _, _, _, _, .nil, e => by simp at e
  | _, _, 0, _, .cons h _, e => by simp at e; subst e; exact ⟨_, rfl, h⟩
  | _, _, i + 1, d, .cons _ r, e => by
    obtain ⟨v, h1, h2⟩ := RpAll.get (i := i) (d := d) r (by simpa using e)
    exact ⟨v, by simpa using h1, h2⟩
theorem RpAll.getV : ∀ {vs : List V} {ds : List D} {i : Nat} {v : V}, RpAll K F vs ds → vs[i]? = some v → ∃ d, ds[i]? = some d ∧ Rp K F v d
  | _, _, _, _, .nil, e => by simp at e
  | _, _, 0, _, .cons h _, e => by simp at e; subst e; exact ⟨_, rfl, h⟩
  | _, _, i + 1, v, .cons _ r, e => by
    obtain ⟨d, h1, h2⟩ := RpAll.getV (i := i) (v := v) r (by simpa using e)
    exact ⟨d, by simpa using h1, h2⟩
theorem RpAll.append : ∀ {vs ws : List V} {ds es : List D}, RpAll K F vs ds → RpAll K F ws es → RpAll K F (vs ++ ws) (ds ++ es)
  | _, _, _, _, .nil, s => s
  | _, _, _, _, .cons h r, s => .cons h (RpAll.append r s)
theorem RpAll.take : ∀ {vs : List V} {ds : List D} (n : Nat), RpAll K F vs ds → RpAll K F (vs.take n) (ds.take n)
  | _, _, 0, _ => .nil
  | _, _, _ + 1, .nil => .nil
  | _, _, n + 1, .cons h r => .cons h (RpAll.take n r)
theorem RpAll.drop : ∀ {vs : List V} {ds : List D} (n : Nat), RpAll K F vs ds → RpAll K F (vs.drop n) (ds.drop n)
  | _, _, 0, r => r
  | _, _, _ + 1, .nil => .nil
  | _, _, n + 1, .cons _ r => RpAll.drop n r
theorem RpAll.rev : ∀ {vs : List V} {ds : List D}, RpAll K F vs ds → RpAll K F vs.reverse ds.reverse
  | _, _, .nil => .nil
  | _, _, .cons h r => by
    rw [List.reverse_cons, List.reverse_cons]
    exact (RpAll.rev r).append (.cons h .nil)
theorem RpAll.one {v : V} {d : D} (h : Rp K F v d) : RpAll K F [v] [d] := .cons h .nil
end
/-- items of a list that stands -/
structure RpL (K : PySem.W.Frag) (F : Hp) (vs : List V) (ds : List D) : Prop where
  all : RpAll K F vs ds
  le : ds.length ≤ sizeLine
theorem RpL.mono {K : PySem.W.Frag} {F F' : Hp} {vs : List V} {ds : List D} (m : Same F F') (r : RpL K F vs ds) : RpL K F' vs ds := ⟨rpAll_mono m r.all, r.le⟩
theorem RpL.length {K : PySem.W.Frag} {F : Hp} {vs : List V} {ds : List D} (r : RpL K F vs ds) : vs.length = ds.length := r.all.length
/-- more is frozen, all that stood stands -/
structure Ext (F H F' H' : Hp) : Prop where
  f : Same F F'
  h : Same H H'
  sub : Same F' H'
  new : ∀ b o, F' b = some o → F b = some o ∨ H b = none
theorem Ext.refl {F H : Hp} (s : Same F H) : Ext F H F H := ⟨same_refl, same_refl, s, fun _ _ e => .inl e⟩
theorem same_upd {H : Hp} {p : Addr} {o : HO} (h : H p = none) : Same H (upd H p o) := fun b x e => by
  rw [upd_ne (ne_of_none e h)]
  exact e
theorem not_none {H H' : Hp} {p : Addr} (s : Same H H') (h : H' p = none) : H p = none := by
  cases e : H p with
  | none => rfl
  | some o => rw [s p o e] at h; cases h
/-- a new thing, frozen at once -/
theorem Ext.put {F H : Hp} {p : Addr} {o : HO} (s : Same F H) (h : H p = none) : Ext F H (upd F p o) (upd H p o) := by
  have hF : F p = none := not_none s h
  refine ⟨same_upd hF, same_upd h, fun b x e => ?_, fun b x e => ?_⟩
  · by_cases hb : b = p
    · subst hb; rw [upd_same] at e ⊢; exact e
    · rw [upd_ne hb] at e ⊢; exact s b x e
  · by_cases hb : b = p
    · subst hb; exact .inr h
    · rw [upd_ne hb] at e; exact .inl e
/-- what is fixed while a def runs -/
structure Fx where
  F0 : Hp
  H0 : Hp
  al0 : List Addr
  kp : Hp
  /-- shared things that stay -/
  ab : List Addr := []
  /-- what belonged to classrooms at the entry -/
  in0 : List Addr := []
/-! ### classrooms: the class, what belongs to one -/
def roomC (K : PySem.W.Frag) : Addr := He.ga K "Room"
def refA : V → Option Addr
  | .ref a => some a
  | _ => none
def pastA (H : Hp) (b : Addr) : List Addr := match H b with
  | some (.lst vs) => vs.filterMap refA
  | _ => []
def insA (H : Hp) : List (Str × V) → List Addr
  | [_, (_, .ref a), (_, .ref b), (_, .ref c)] => a :: b :: c :: pastA H b
  | _ => []
def inn (H : Hp) (p : Addr) : List Addr := match H p with
  | some (.ins _ dx fs) => dx :: insA H fs
  | _ => []
def innA (H : Hp) (α : List Addr) : List Addr := α.flatMap (inn H)
def notIns : Option HO → Bool
  | some (.ins _ _ _) => false
  | _ => true
theorem inn_no {H : Hp} {p : Addr} (h : notIns (H p) = true) : inn H p = [] := by
  unfold inn
  cases e : H p with
  | none => rfl
  | some o => cases o <;> first | rfl | (rw [e] at h; cases h)
theorem insA_congr {H H' : Hp} {fs : List (Str × V)} (h : ∀ q ∈ insA H fs, H' q = H q) : insA H' fs = insA H fs := by
  unfold insA at h ⊢
  split
  · rename_i f x0 f1 a f2 b f3 c
    have hb : H' b = H b := h b (by simp)
    unfold pastA
    rw [hb]
  · rfl
theorem inn_congr {H H' : Hp} {p : Addr} (hp : H' p = H p) (h : ∀ q ∈ inn H p, H' q = H q) : inn H' p = inn H p := by
  unfold inn at h ⊢
  rw [hp]
  split
  · rename_i C dx fs e
    rw [e] at h
    rw [insA_congr fun q hq => h q (List.mem_cons_of_mem _ hq)]
  · rfl
theorem innA_congr {H H' : Hp} : ∀ {α : List Addr}, (∀ p ∈ α, H' p = H p ∨ (notIns (H p) = true ∧ notIns (H' p) = true)) → (∀ q ∈ innA H α, H' q = H q) → innA H' α = innA H α
  | [], _, _ => rfl
  | p :: r, h1, h2 => by
    have e : innA H (p :: r) = inn H p ++ innA H r := rfl
    have e' : innA H' (p :: r) = inn H' p ++ innA H' r := rfl
    rw [e] at h2
    rw [e, e', innA_congr (fun q hq => h1 q (List.mem_cons_of_mem _ hq)) fun q hq => h2 q (List.mem_append_right _ hq)]
    rcases h1 p List.mem_cons_self with z | ⟨z1, z2⟩
    · rw [inn_congr z fun q hq => h2 q (List.mem_append_left _ hq)]
    · rw [inn_no z1, inn_no z2]
theorem mem_innA {H : Hp} {α : List Addr} {p q : Addr} (hp : p ∈ α) (hq : q ∈ inn H p) : q ∈ innA H α := List.mem_flatMap.mpr ⟨p, hp, hq⟩
theorem innA_app {H : Hp} {α β : List Addr} : innA H (α ++ β) = innA H α ++ innA H β := List.flatMap_append
/-- what belongs to classrooms stands apart -/
structure InOk (F : Hp) (α : List Addr) (H : Hp) : Prop where
  nd : (innA H α).Nodup
  na : ∀ q ∈ innA H α, q ∉ α
  f : ∀ q ∈ innA H α, F q = none
  h : ∀ q ∈ innA H α, ∃ o, H q = some o
/-- a dict by texts -/
def SdOk (K : PySem.W.Frag) (F H : Hp) (a : Addr) (rows : List (Str × D)) : Prop := ∃ kvs : List (Key × V), H a = some (.dK kvs) ∧ Paired (fun (x : Key × V) (r : Str × D) => x.1 = Sum.inr r.1 ∧ Rp K F x.2 r.2) kvs rows ∧ rows.length ≤ sizeLine
def RoomOk (K : PySem.W.Frag) (F H : Hp) (p : Addr) (s : D) (rows : List (Str × D)) (past : List (List (Str × D))) (calls : List D) : Prop :=
  ∃ dx sv a b c vs ws, H p = some (.ins (roomC K) dx [("school", sv), ("rows", .ref a), ("past", .ref b), ("calls", .ref c)]) ∧ H dx = some (.own p) ∧ Rp K F sv s ∧ SdOk K F H a rows ∧
    H b = some (.lst vs) ∧ Paired (fun v r => ∃ q, v = .ref q ∧ SdOk K F H q r) vs past ∧ past.length ≤ sizeLine ∧ H c = some (.lst ws) ∧ RpL K F ws calls
def ObOk (K : PySem.W.Frag) (F H : Hp) (p : Addr) : Ob → Prop
  | .lst ds => F p = none ∧ ∃ vs, H p = some (.lst vs) ∧ RpL K F vs ds
  | .dic kvs => F p = none ∧ ∃ o xs, H p = some (pinO p o) ∧ DOk p o xs ∧ RpKv K F xs kvs
  | .dead => ∃ o, H p = some o ∧ notIns (some o) = true
  | .room s rows past calls => F p = none ∧ RoomOk K F H p s rows past calls
  | .blank => F p = none ∧ ∃ dx, H p = some (.ins (roomC K) dx []) ∧ H dx = some (.own p)
theorem SdOk.keep {K : PySem.W.Frag} {F F' H H' : Hp} {a : Addr} {rows : List (Str × D)} (s : Same F F') (e : H' a = H a) (h : SdOk K F H a rows) : SdOk K F' H' a rows := by
  obtain ⟨kvs, h1, h2, h3⟩ := h
  exact ⟨kvs, by rw [e]; exact h1, Paired.mapP h2 fun x r ⟨w1, w2⟩ => ⟨w1, rp_mono s w2⟩, h3⟩
theorem mem_pastA {H : Hp} {b q : Addr} {vs : List V} (h : H b = some (.lst vs)) (hq : V.ref q ∈ vs) : q ∈ pastA H b := by
  unfold pastA
  rw [h]
  exact List.mem_filterMap.mpr ⟨_, hq, rfl⟩
theorem paired_mem {A B : Type} {P : A → B → Prop} : ∀ {xs : List A} {ys : List B}, Paired P xs ys → Paired (fun a b => a ∈ xs ∧ P a b) xs ys
  | _, _, .nil => .nil
  | _, _, .cons h r => .cons ⟨List.mem_cons_self, h⟩ (Paired.mapP (paired_mem r) fun _ _ ⟨m, z⟩ => ⟨List.mem_cons_of_mem _ m, z⟩)
/-- the cell stays, the heap changes elsewhere -/
theorem ObOk.keep {K : PySem.W.Frag} {F F' H H' : Hp} {p : Addr} {o : Ob} (s : Same F F') (hf : F p = none → F' p = none) (hp : H' p = H p) (hi : ∀ q ∈ inn H p, H' q = H q) (h : ObOk K F H p o) : ObOk K F' H' p o := by
  cases o with
  | lst ds => obtain ⟨h1, vs, h2, h3⟩ := h; exact ⟨hf h1, vs, by rw [hp]; exact h2, h3.mono s⟩
  | dic kvs => obtain ⟨h1, o, xs, h2, h3, h4⟩ := h; exact ⟨hf h1, o, xs, by rw [hp]; exact h2, h3, rpKv_mono s h4⟩
  | dead => obtain ⟨u, e, n⟩ := h; exact ⟨u, by rw [hp]; exact e, n⟩
  | blank =>
    obtain ⟨h1, dx, h2, h3⟩ := h
    refine ⟨hf h1, dx, by rw [hp]; exact h2, ?_⟩
    rw [hi dx (by unfold inn; rw [h2]; exact List.mem_cons_self)]
    exact h3
  | room sc rows past calls =>
    obtain ⟨h1, dx, sv, a, b, c, vs, ws, h2, h3, h4, h5, h6, h7, h8, h9, h10⟩ := h
    have ei : inn H p = dx :: a :: b :: c :: pastA H b := by unfold inn insA; rw [h2]
    rw [ei] at hi
    refine ⟨hf h1, dx, sv, a, b, c, vs, ws, by rw [hp]; exact h2, by rw [hi dx (by simp)]; exact h3, rp_mono s h4, h5.keep s (hi a (by simp)), by rw [hi b (by simp)]; exact h6, ?_, h8, by rw [hi c (by simp)]; exact h9, h10.mono s⟩
    refine Paired.mapP (paired_mem h7) fun v r ⟨m, q, e, z⟩ => ⟨q, e, z.keep s (hi q ?_)⟩
    subst e
    have := mem_pastA h6 m
    simp [this]
/-- v is the shared thing n, ours -/
def RefIs (B : Fx) (α : List Addr) (v : V) (n : Nat) : Prop := ∃ q, v = .ref q ∧ α[n]? = some q ∧ B.H0 q = none
def SlotOk (K : PySem.W.Frag) (B : Fx) (F : Hp) (α : List Addr) (H : Hp) : Slot → Option V → Prop
  | .no, _ => True
  | .val d, ov => ∃ v, ov = some v ∧ Rp K F v d
  | .own ds, ov => ∃ p vs, ov = some (.ref p) ∧ B.H0 p = none ∧ p ∉ α ∧ F p = none ∧ H p = some (.lst vs) ∧ RpL K F vs ds
  | .ownd kvs, ov => ∃ p, ov = some (.ref p) ∧ B.H0 p = none ∧ p ∉ α ∧ F p = none ∧ ∃ o xs, H p = some (pinO p o) ∧ DOk p o xs ∧ RpKv K F xs kvs
  | .ref n, ov => ∃ p, ov = some (.ref p) ∧ α[n]? = some p
  | .exc _, _ => False
  | .refs ns, ov => ∃ p vs, ov = some (.ref p) ∧ B.H0 p = none ∧ p ∉ α ∧ F p = none ∧ H p = some (.lst vs) ∧ Paired (RefIs B α) vs ns ∧ ns.length ≤ sizeLine
def IsOwn : Slot → Prop
  | .own _ => True
  | .ownd _ => True
  | .refs _ => True
  | _ => False
structure Rel (K : PySem.W.Frag) (B : Fx) (F : Hp) (α : List Addr) (rho : Ro) (h : Hh) (σ : L2.St) (H : Hp) : Prop where
  sub : Same F H
  new : ∀ b o, F b = some o → B.F0 b = some o ∨ B.H0 b = none
  fr : ∀ b o, B.H0 b = some o → b ∉ B.al0 → b ∉ B.in0 → H b = some o
  pre : ∃ r, α = B.al0 ++ r ∧ (∀ p ∈ r, B.H0 p = none) ∧ ∃ t, r = B.ab ++ t
  a0 : ∀ p ∈ B.al0, ∃ o, B.H0 p = some o
  nd : α.Nodup
  len : rho.length = σ.length
  slot : ∀ (i : Nat) (sl : Slot), rho[i]? = some sl → SlotOk K B F α H sl (σ[i]?.join)
  sep : ∀ (i j : Nat) (si sj : Slot) (p : Addr), i ≠ j → rho[i]? = some si → rho[j]? = some sj → IsOwn si → IsOwn sj → σ[i]? = some (some (.ref p)) → σ[j]? = some (some (.ref p)) → False
  kp : ∀ b o, B.kp b = some o → H b = some o ∧ F b = none ∧ b ∉ α ∧ B.H0 b = none ∧ ∀ (i : Nat) (sl : Slot), rho[i]? = some sl → IsOwn sl → σ[i]? ≠ some (some (.ref b))
  hl : α.length = h.length
  heap : ∀ (n : Nat) (p : Addr) (o : Ob), α[n]? = some p → h[n]? = some o → ObOk K F H p o
  io : InOk F α H
  df : ∀ b o, B.H0 b = some o → ∃ o', H b = some o'
  ii : ∀ q ∈ innA H α, B.kp q = none ∧ (q ∈ B.in0 ∨ B.H0 q = none) ∧ ∀ (i : Nat) (sl : Slot), rho[i]? = some sl → IsOwn sl → σ[i]? ≠ some (some (.ref q))
section
variable {K : PySem.W.Frag} {B : Fx} {F F' H H' : Hp} {α : List Addr} {rho : Ro} {h : Hh} {σ : L2.St}
theorem ObOk.ex {p : Addr} {o : Ob} (q : ObOk K F H p o) : ∃ o, H p = some o := by
  cases o with
  | lst ds => obtain ⟨_, vs, q, _⟩ := q; exact ⟨_, q⟩
  | dic _ => obtain ⟨_, o, _, q, _⟩ := q; exact ⟨_, q⟩
  | dead => obtain ⟨o, q, _⟩ := q; exact ⟨_, q⟩
  | room _ _ _ _ => obtain ⟨_, _, _, _, _, _, _, _, q, _⟩ := q; exact ⟨_, q⟩
  | blank => obtain ⟨_, _, q, _⟩ := q; exact ⟨_, q⟩
theorem Rel.at (r : Rel K B F α rho h σ H) {n : Nat} {p : Addr} (e : α[n]? = some p) : ∃ o, H p = some o := by
  obtain ⟨hn, _⟩ := List.getElem?_eq_some_iff.mp e
  have hn' : n < h.length := by rw [← r.hl]; exact hn
  exact (r.heap n p h[n] e (List.getElem?_eq_getElem hn')).ex
theorem Rel.fresh0 (r : Rel K B F α rho h σ H) {b : Addr} (e : H b = none) : B.H0 b = none := by
  cases q : B.H0 b with
  | none => rfl
  | some o =>
    obtain ⟨o', e'⟩ := r.df b o q
    rw [e] at e'; cases e'
theorem Rel.freshA (r : Rel K B F α rho h σ H) {b : Addr} (e : H b = none) : b ∉ α := fun hb => by
  obtain ⟨n, hn⟩ := List.mem_iff_getElem?.mp hb
  obtain ⟨o, q⟩ := r.at hn
  rw [e] at q; cases q
theorem Rel.freshI (r : Rel K B F α rho h σ H) {b : Addr} (e : H b = none) : b ∉ innA H α := fun hb => by
  obtain ⟨o, q⟩ := r.io.h b hb
  rw [e] at q; cases q
/-- what stood stands: nothing else belongs to classrooms -/
theorem InOk.same (i : InOk F α H) (hα : ∀ p ∈ α, ∃ o, H p = some o) (s : Same H H') : innA H' α = innA H α :=
  innA_congr (fun p hp => .inl (by obtain ⟨o, e⟩ := hα p hp; rw [e, s p o e])) fun q hq => by obtain ⟨o, e⟩ := i.h q hq; rw [e, s q o e]
theorem Rel.mem (r : Rel K B F α rho h σ H) {p : Addr} (hp : p ∈ α) : ∃ o, H p = some o := by
  obtain ⟨n, hn⟩ := List.mem_iff_getElem?.mp hp
  exact r.at hn
/-- what belongs to classrooms is the same, and stands -/
theorem InOk.to (i : InOk F α H) (e : innA H' α = innA H α) (hf : ∀ q ∈ innA H α, F' q = none) (hh : ∀ q ∈ innA H α, ∃ o, H' q = some o) : InOk F' α H' :=
  ⟨by rw [e]; exact i.nd, by rw [e]; exact i.na, by rw [e]; exact hf, by rw [e]; exact hh⟩
theorem Ext.noF (x : Ext F H F' H') {b : Addr} {o : HO} (h1 : F b = none) (h2 : H b = some o) : F' b = none := by
  cases e : F' b with
  | none => rfl
  | some u =>
    rcases x.new b u e with z | z
    · rw [h1] at z; cases z
    · rw [h2] at z; cases z
theorem ObOk.ext {p : Addr} {o : Ob} (x : Ext F H F' H') (hi : ∀ q ∈ inn H p, ∃ o, H q = some o) (q : ObOk K F H p o) : ObOk K F' H' p o := by
  obtain ⟨u, e⟩ := q.ex
  exact q.keep x.f (fun z => x.noF z e) (by rw [e, x.h _ _ e]) fun b hb => by obtain ⟨w, e'⟩ := hi b hb; rw [e', x.h _ _ e']
theorem SlotOk.ext {sl : Slot} {ov : Option V} (x : Ext F H F' H') (q : SlotOk K B F α H sl ov) : SlotOk K B F' α H' sl ov := by
  cases sl with
  | no => trivial
  | val d => obtain ⟨v, e, z⟩ := q; exact ⟨v, e, rp_mono x.f z⟩
  | own ds =>
    obtain ⟨p, vs, e, e0, na, h1, h2, h3⟩ := q
    refine ⟨p, vs, e, e0, na, ?_, x.h _ _ h2, h3.mono x.f⟩
    cases e : F' p with
    | none => rfl
    | some u =>
      rcases x.new p u e with z | z
      · rw [h1] at z; cases z
      · rw [h2] at z; cases z
  | ownd kvs =>
    obtain ⟨p, e, e0, na, h1, o, xs, h2, k, h3⟩ := q
    refine ⟨p, e, e0, na, ?_, o, xs, x.h _ _ h2, k, rpKv_mono x.f h3⟩
    cases e : F' p with
    | none => rfl
    | some u =>
      rcases x.new p u e with z | z
      · rw [h1] at z; cases z
      · rw [h2] at z; cases z
  | ref n => exact q
  | exc _ => exact q
  | refs ns =>
    obtain ⟨p, vs, e, e0, na, h1, h2, h3⟩ := q
    refine ⟨p, vs, e, e0, na, ?_, x.h _ _ h2, h3⟩
    cases e : F' p with
    | none => rfl
    | some u =>
      rcases x.new p u e with z | z
      · rw [h1] at z; cases z
      · rw [h2] at z; cases z
theorem Rel.ext (r : Rel K B F α rho h σ H) (x : Ext F H F' H') : Rel K B F' α rho h σ H' where
  sub := x.sub
  new := fun b o e => by
    rcases x.new b o e with z | z
    · exact r.new b o z
    · exact .inr (r.fresh0 z)
  fr := fun b o e hb hi => x.h _ _ (r.fr b o e hb hi)
  pre := r.pre
  a0 := r.a0
  nd := r.nd
  len := r.len
  slot := fun i sl e => (r.slot i sl e).ext x
  sep := r.sep
  kp := fun b o e => by
    obtain ⟨h1, h2, h3⟩ := r.kp b o e
    refine ⟨x.h _ _ h1, ?_, h3⟩
    cases w : F' b with
    | none => rfl
    | some u =>
      rcases x.new b u w with z | z
      · rw [h2] at z; cases z
      · rw [h1] at z; cases z
  hl := r.hl
  heap := fun n p o e1 e2 => (r.heap n p o e1 e2).ext x fun q hq => r.io.h q (mem_innA (List.mem_of_getElem? e1) hq)
  io := r.io.to (r.io.same (fun p hp => r.mem hp) x.h) (fun q hq => by obtain ⟨o, e⟩ := r.io.h q hq; exact x.noF (r.io.f q hq) e) fun q hq => by obtain ⟨o, e⟩ := r.io.h q hq; exact ⟨o, x.h _ _ e⟩
  df := fun b o e => by obtain ⟨o', e'⟩ := r.df b o e; exact ⟨o', x.h _ _ e'⟩
  ii := by rw [r.io.same (fun p hp => r.mem hp) x.h]; exact r.ii
end
/-- read as it stands: the top by H, what is within by F -/
inductive Top (K : PySem.W.Frag) (F H : Hp) : V → D → Prop
  | dp {v : V} {d : D} : Rp K F v d → Top K F H v d
  | lst {p : Addr} {vs : List V} {ds : List D} : H p = some (.lst vs) → RpL K F vs ds → Top K F H (.ref p) (.list ds)
  | dct {p : Addr} {o : Obj} {xs : List DEnt} {kvs : List (D × D)} : H p = some (pinO p o) → DOk p o xs → RpKv K F xs kvs → Top K F H (.ref p) (.dict kvs)
section
variable {K : PySem.W.Frag} {F F' H H' : Hp}
theorem Top.dpH (s : Same F H) {v : V} {d : D} : Top K F H v d → SeqAt.shaped d = true → Dp K H v d
  | .dp h, c => rp_dp s h (SeqAt.canLay_of_shaped c)
  | .lst h r, c => .lst (.inl (.inl h)) (rpAll_dp s r.all (by have := SeqAt.canLay_of_shaped c; rw [PyData.canLay0] at this; exact this))
  | .dct _ _ _, c => by have := SeqAt.canLay_of_shaped c; rw [PyData.canLay0] at this; cases this
theorem Top.dict (s : Same F H) {v : V} {kvs : List (D × D)} : Top K F H v (.dict kvs) → ∃ p o xs, v = .ref p ∧ H p = some (pinO p o) ∧ DOk p o xs ∧ RpKv K F xs kvs
  | .dp (.dct h k r) => ⟨_, _, _, rfl, s _ _ h, k, r⟩
  | .dct h k r => ⟨_, _, _, rfl, h, k, r⟩
theorem Top.list (s : Same F H) {v : V} {ds : List D} : Top K F H v (.list ds) → ∃ p vs, v = .ref p ∧ Rd H p (.lst vs) ∧ RpL K F vs ds
  | .dp (.lst h r l) => ⟨_, _, rfl, Same.rd s h, r, l⟩
  | .lst h r => ⟨_, _, rfl, .inl h, r⟩
theorem Top.tuple (s : Same F H) {v : V} {ds : List D} : Top K F H v (.tuple ds) → ∃ p vs, v = .ref p ∧ SqT K H p vs ∧ RpL K F vs ds
  | .dp (.tup h r l _) => ⟨_, _, rfl, Same.seqT s h, r, l⟩
theorem Top.int {v : V} {i : Int} : Top K F H v (.int i) → v = .int i
  | .dp (.int _) => rfl
theorem Top.bool {v : V} {b : Bool} : Top K F H v (.bool b) → v = .bl b
  | .dp (.bl _) => rfl
theorem Top.str {v : V} {x : Str} : Top K F H v (.str x) → v = .str x
  | .dp (.str _) => rfl
theorem Top.none {v : V} : Top K F H v .none → v = .non
  | .dp .non => rfl
end
theorem Rel.look {K : PySem.W.Frag} {B : Fx} {F H : Hp} {α : List Addr} {rho : Ro} {h : Hh} {σ : L2.St} (r : Rel K B F α rho h σ H) {i : Nat} {d : D} (e : look rho h i = some d) : ∃ v, σ[i]? = some (some v) ∧ Top K F H v d := by
  unfold Ev.look at e
  cases q : rho[i]? with
  | none => rw [q] at e; cases e
  | some sl =>
    rw [q] at e
    have z := r.slot i sl q
    have jn : ∀ {v : V}, σ[i]?.join = some v → σ[i]? = some (some v) := fun {v} e => by
      cases w : σ[i]? with
      | none => rw [w] at e; cases e
      | some o => rw [w] at e; simpa using e
    cases sl with
    | no => cases e
    | val d' =>
      cases e
      obtain ⟨v, e1, e2⟩ := z
      exact ⟨v, jn e1, .dp e2⟩
    | own ds =>
      cases e
      obtain ⟨p, vs, e1, _, _, _, e2, e3⟩ := z
      exact ⟨_, jn e1, .lst e2 e3⟩
    | ownd kvs =>
      cases e
      obtain ⟨p, e1, _, _, _, o, xs, e2, k, e3⟩ := z
      exact ⟨_, jn e1, .dct e2 k e3⟩
    | ref n =>
      obtain ⟨p, e1, e2⟩ := z
      cases w : h[n]? with
      | none => simp only [w] at e; cases e
      | some o =>
        simp only [w] at e
        cases o with
        | lst ds =>
          cases e
          obtain ⟨_, vs, e3, e4⟩ := r.heap n p _ e2 w
          exact ⟨_, jn e1, .lst e3 e4⟩
        | dic kvs =>
          cases e
          obtain ⟨_, o, xs, e3, k, e4⟩ := r.heap n p _ e2 w
          exact ⟨_, jn e1, .dct e3 k e4⟩
        | _ => cases e
    | exc _ => cases e
    | refs _ => cases e
end Ev
/-! # Ev2: readings by plain meanings; names, constants, operators, tests -/
namespace Ev
open PySem PySem.Spec PyProof.Rows L2
/-- what is wanted behind a plain meaning's end -/
def Post {β : Type} (X : Cx) (W : WX) (B : Fx) (σ : L2.St) (F : Hp) (rho : Ro) (x : R β) (G : β → Hp → List Addr → Hp → Prop) : Prop := match x with
  | .ok a h' => ∀ F' α' H', Same F F' → Rel X.K B F' α' rho h' σ H' → G a F' α' H'
  | .exc c h' => ∀ cv F' α' H', Same F F' → Rel X.K B F' α' rho h' σ H' → X.mg c = some cv → W cv none σ H'
  | .bad => False
def Run {β : Type} (X : Cx) (W : WX) (f : Ro → Hh → R β) (σ : L2.St) (H : Hp) (G : β → Hp → List Addr → Hp → Prop) : Prop :=
  ∃ B F α rho h, Rel X.K B F α rho h σ H ∧ Post X W B σ F rho (f rho h) G
def GD (X : Cx) (Q : VK) : D → Hp → List Addr → Hp → Prop := fun d F' _ H' => ∀ v, Rp X.K F' v d → Q v H'
def tE (X : Cx) (W : WX) (f : Den) : TE := fun σ H Q => Run X W f σ H (GD X Q)
def tT (X : Cx) (W : WX) (f : DenT) : TT := fun σ H Q => Run X W f σ H fun b _ _ H' => Q b H'
def tO (X : Cx) (W : WX) : Opd → TE
  | .var i => tVar i
  | .exp f => tE X W f
section
variable {X : Cx} {W : WX} {B : Fx} {σ : L2.St} {F F1 H : Hp} {rho : Ro} {α : List Addr} {h : Hh} {β γ : Type}
theorem pe_mono {e : Expr} {t t' : TE} (p : PE X e t) (m : ∀ σ H Q, t' σ H Q → t σ H Q) : PE X e t' := ⟨fun pins s σ H Q I q => p.run pins s σ H Q I (m σ H Q q)⟩
theorem pt_mono {e : Expr} {t t' : TT} (p : PT X e t) (m : ∀ σ H Q, t' σ H Q → t σ H Q) : PT X e t' := ⟨fun pins s σ H Q I q => p.run pins s σ H Q I (m σ H Q q)⟩
theorem ps_mono {st : Stmt} {t t' : TS} (p : PS X st t) (m : ∀ D σ H, t' D σ H → t D σ H) : PS X st t' := ⟨fun pins s σ H D I q => p.run pins s σ H D I (m D σ H q)⟩
theorem pss_mono {st : List Stmt} {t t' : TS} (p : PSs X st t) (m : ∀ D σ H, t' D σ H → t D σ H) : PSs X st t' := ⟨fun pins s σ H D I q => p.run pins s σ H D I (m D σ H q)⟩
theorem post_mono {x : R β} {G : β → Hp → List Addr → Hp → Prop} (s : Same F F1) (p : Post X W B σ F rho x G) : Post X W B σ F1 rho x G := by
  cases x with
  | ok a h' => exact fun F' α' H' s' r => p F' α' H' (s.trans s') r
  | exc c h' => exact fun cv F' α' H' s' r e => p cv F' α' H' (s.trans s') r e
  | bad => exact p
theorem post_imp {x : R β} {G G' : β → Hp → List Addr → Hp → Prop} (p : Post X W B σ F rho x G) (m : ∀ a F' α' H', Same F F' → G a F' α' H' → G' a F' α' H') : Post X W B σ F rho x G' := by
  cases x with
  | ok a h' => exact fun F' α' H' s' r => m a F' α' H' s' (p F' α' H' s' r)
  | exc c h' => exact p
  | bad => exact p
/-- the same with the state behind -/
theorem post_imp2 {x : R β} {G G' : β → Hp → List Addr → Hp → Prop} (p : Post X W B σ F rho x G) (m : ∀ a F' α' H', Same F F' → (∃ h', Rel X.K B F' α' rho h' σ H') → G a F' α' H' → G' a F' α' H') : Post X W B σ F rho x G' := by
  cases x with
  | ok a h' => exact fun F' α' H' s' r => m a F' α' H' s' ⟨h', r⟩ (p F' α' H' s' r)
  | exc c h' => exact p
  | bad => exact p
theorem post_assoc {δ : Type} {x : R β} {k : β → Hh → R γ} {k' : γ → Hh → R δ} {G : δ → Hp → List Addr → Hp → Prop} (p : Post X W B σ F rho ((x.bind k).bind k') G) : Post X W B σ F rho (x.bind fun a h => (k a h).bind k') G := by
  cases x <;> exact p
/-- kept for later -/
theorem post_keep {x : R β} {G : β → Hp → List Addr → Hp → Prop} (p : Post X W B σ F rho x G) :
    Post X W B σ F rho x fun a F1 α1 H1 => ∃ h1, Rel X.K B F1 α1 rho h1 σ H1 ∧ ∀ F2 α2 H2, Same F1 F2 → Rel X.K B F2 α2 rho h1 σ H2 → G a F2 α2 H2 := by
  cases x with
  | ok a h' => exact fun F' α' H' s' r' => ⟨h', r', fun F2 α2 H2 s2 r2 => p F2 α2 H2 (s'.trans s2) r2⟩
  | exc c h' => exact p
  | bad => exact p
/-- first x, then k -/
theorem post_bind {x : R β} {k : β → Hh → R γ} {G : γ → Hp → List Addr → Hp → Prop} (p : Post X W B σ F rho (x.bind k) G) :
    Post X W B σ F rho x fun a F1 α1 H1 => ∃ h1, Rel X.K B F1 α1 rho h1 σ H1 ∧ Post X W B σ F1 rho (k a h1) G := by
  cases x with
  | ok a h' => exact fun F' α' H' s' r' => ⟨h', r', post_mono s' p⟩
  | exc c h' => exact p
  | bad => exact p
theorem post_bind' {f : Ro → Hh → R β} {k : β → Hh → R γ} {G : γ → Hp → List Addr → Hp → Prop} (p : Post X W B σ F rho ((fun rho h => (f rho h).bind k) rho h) G) :
    Post X W B σ F rho (f rho h) fun a F1 α1 H1 => ∃ h1, Rel X.K B F1 α1 rho h1 σ H1 ∧ Post X W B σ F1 rho (k a h1) G := post_bind p
theorem run_mono {f : Ro → Hh → R β} {G G' : β → Hp → List Addr → Hp → Prop} (p : Run X W f σ H G) (m : ∀ a F' α' H', G a F' α' H' → G' a F' α' H') : Run X W f σ H G' := by
  obtain ⟨B, F, α, rho, h, r, p⟩ := p
  exact ⟨B, F, α, rho, h, r, post_imp p fun a F' α' H' _ q => m a F' α' H' q⟩
theorem tO_mono {o : Opd} {Q Q' : VK} (p : tO X W o σ H Q) (m : ∀ v H', Q v H' → Q' v H') : tO X W o σ H Q' := by
  cases o with
  | var i => obtain ⟨v, e, q⟩ := p; exact ⟨v, e, m _ _ q⟩
  | exp f => exact run_mono p fun a F' α' H' q v hv => m _ _ (q v hv)
/-- an operand, then k -/
theorem o1 {o : Opd} {k : D → Hh → R γ} {G : γ → Hp → List Addr → Hp → Prop} (r : Rel X.K B F α rho h σ H) (p : Post X W B σ F rho (op1 o k rho h) G) :
    tO X W o σ H fun x H1 => ∃ F1 α1 h1 a, Same F F1 ∧ Rel X.K B F1 α1 rho h1 σ H1 ∧ Top X.K F1 H1 x a ∧ Post X W B σ F1 rho (k a h1) G := by
  cases o with
  | var i =>
    have p : Post X W B σ F rho (match look rho h i with
      | some d => k d h
      | none => .bad) G := p
    cases e : look rho h i with
    | none => rw [e] at p; exact p.elim
    | some d =>
      rw [e] at p
      obtain ⟨v, e1, e2⟩ := r.look e
      exact ⟨v, e1, F, α, h, d, same_refl, r, e2, p⟩
  | exp f =>
    refine ⟨B, F, α, rho, h, r, post_imp (post_bind p) fun a F1 α1 H1 s1 ⟨h1, r1, p1⟩ v hv => ⟨F1, α1, h1, a, s1, r1, .dp hv, p1⟩⟩
/-- two operands, then k -/
theorem o2 {o1 o2 : Opd} {k : D → D → Hh → R γ} {G : γ → Hp → List Addr → Hp → Prop} (r : Rel X.K B F α rho h σ H) (p : Post X W B σ F rho (op2 o1 o2 k rho h) G) :
    tO X W o1 σ H fun x H1 => tO X W o2 σ H1 fun y H2 => ∃ F2 α2 h2 a b, Same F F2 ∧ Rel X.K B F2 α2 rho h2 σ H2 ∧ Top X.K F2 H2 x a ∧ Top X.K F2 H2 y b ∧ Post X W B σ F2 rho (k a b h2) G := by
  cases o1 with
  | exp f =>
    refine ⟨B, F, α, rho, h, r, post_imp (post_bind p) fun a F1 α1 H1 s1 ⟨h1, r1, p1⟩ v hv => ?_⟩
    cases o2 with
    | var i =>
      obtain ⟨y, ey, F2, α2, h2, b, s2, r2, ty, p2⟩ := Ev.o1 (o := .var i) r1 p1
      exact ⟨y, ey, F2, α2, h2, a, b, s1.trans s2, r2, .dp (rp_mono s2 hv), ty, p2⟩
    | exp g =>
      refine ⟨B, F1, α1, rho, h1, r1, post_imp (post_bind p1) fun b F2 α2 H2 s2 ⟨h2, r2, p2⟩ w hw => ?_⟩
      exact ⟨F2, α2, h2, a, b, s1.trans s2, r2, .dp (rp_mono s2 hv), .dp hw, p2⟩
  | var i =>
    have fin : ∀ {F2 H2 : Hp} {α2 : List Addr} {h2 : Hh} {b : D} {y : V}, Same F F2 → Rel X.K B F2 α2 rho h2 σ H2 → Top X.K F2 H2 y b → Post X W B σ F2 rho (match look rho h2 i with
        | some a => k a b h2
        | none => .bad) G → ∃ x, σ[i]? = some (some x) ∧ ∃ F2 α2 h2 a b, Same F F2 ∧ Rel X.K B F2 α2 rho h2 σ H2 ∧ Top X.K F2 H2 x a ∧ Top X.K F2 H2 y b ∧ Post X W B σ F2 rho (k a b h2) G := fun {F2 H2 α2 h2 b y} s2 r2 ty p2 => by
      cases e : look rho h2 i with
      | none => rw [e] at p2; exact p2.elim
      | some a =>
        rw [e] at p2
        obtain ⟨x, e1, e2⟩ := r2.look e
        exact ⟨x, e1, F2, α2, h2, a, b, s2, r2, e2, ty, p2⟩
    have p : Post X W B σ F rho (match look rho h i with
      | some _ => op1 o2 (fun b h2 => match look rho h2 i with
        | some a => k a b h2
        | none => .bad) rho h
      | none => .bad) G := p
    cases e : look rho h i with
    | none => rw [e] at p; exact p.elim
    | some a0 =>
      rw [e] at p
      obtain ⟨v, ev, _⟩ := r.look e
      refine ⟨v, ev, ?_⟩
      have same : ∀ {x : V}, σ[i]? = some (some x) → x = v := fun {x} z => by
        rw [ev] at z
        exact (Option.some.inj (Option.some.inj z)).symm
      cases o2 with
      | var j =>
        obtain ⟨y, ey, F2, α2, h2, b, s2, r2, ty, p2⟩ := Ev.o1 (o := .var j) r p
        obtain ⟨x, ex, q⟩ := fin s2 r2 ty p2
        cases same ex
        exact ⟨y, ey, q⟩
      | exp g =>
        refine ⟨B, F, α, rho, h, r, post_imp (post_bind p) fun b F2 α2 H2 s2 ⟨h2, r2, p2⟩ w hw => ?_⟩
        obtain ⟨x, ex, q⟩ := fin s2 r2 (.dp hw) p2
        cases same ex
        exact q
/-! ### expressions -/
abbrev JE (X : Cx) (W : WX) (e : Expr) (f : Den) : Prop := PE X e (tE X W f)
abbrev JO (X : Cx) (W : WX) (e : Expr) (o : Opd) : Prop := PE X e (tO X W o)
abbrev JT (X : Cx) (W : WX) (e : Expr) (t : DenT) : Prop := PT X e (tT X W t)
theorem jo_exp {e : Expr} {f : Den} (h : JE X W e f) : JO X W e (.exp f) := h
theorem jo_var {i : Nat} {x : Str} {pos : Pos} (hN : X.N[i]? = some x) (hv : Vis X.env.scope x) (hd : (x == ("__debug__" : Str)) = false) (hcd : (x == ("__classdict__" : Str)) = false) : JO X W (.Name x pos) (.var i) := pe_var hN hv hd hcd
theorem je_var {i : Nat} {x : Str} {pos : Pos} (hN : X.N[i]? = some x) (hv : Vis X.env.scope x) (hd : (x == ("__debug__" : Str)) = false) (hcd : (x == ("__classdict__" : Str)) = false) : JE X W (.Name x pos) (dVar i) := by
  refine pe_mono (pe_var hN hv hd hcd) fun σ H Q ⟨B, F, α, rho, h, r, p⟩ => ?_
  unfold dVar at p
  cases e : rho[i]? with
  | none => rw [e] at p; exact p.elim
  | some sl =>
    rw [e] at p
    cases sl with
    | val d =>
      have q := r.look (i := i) (d := d) (by unfold look; rw [e])
      obtain ⟨v, e1, e2⟩ := q
      obtain ⟨w, e3, e4⟩ := r.slot i _ e
      rw [e1] at e3
      cases (Option.some.inj e3 : v = w)
      exact ⟨v, e1, p F α H same_refl r v e4⟩
    | _ => exact p.elim
/-- a constant -/
theorem je_c {e : Expr} {v : V} {d : D} (h : PE X e (tC v)) (hd : ∀ F, Rp X.K F v d) : JE X W e (dC d) :=
  pe_mono h fun σ H Q ⟨B, F, α, rho, h, r, p⟩ => p F α H same_refl r v (hd F)
/-- what a primitive promises -/
def Prim1 (K : PySem.W.Frag) (r : V → Hp → VK → Prop) (p : D → Option D) : Prop := ∀ x F H a d Q, Same F H → Top K F H x a → p a = some d → (∀ v F' H', Ext F H F' H' → Rp K F' v d → Q v H') → r x H Q
def Prim2 (K : PySem.W.Frag) (r : R2) (p : D → D → Option D) : Prop := ∀ x y F H a b d Q, Same F H → Top K F H x a → Top K F H y b → p a b = some d → (∀ v F' H', Ext F H F' H' → Rp K F' v d → Q v H') → r x y H Q
theorem post_ext {x : D} {Q : VK} {F' H' : Hp} (r : Rel X.K B F α rho h σ H) (p : Post X W B σ F rho (.ok x h) (GD X Q)) (e : Ext F H F' H') {v : V} (hv : Rp X.K F' v x) : Q v H' := p F' α H' e.f (r.ext e) v hv
theorem run_lift2 {r : R2} {p : D → D → Option D} {x y : V} {a b : D} {Q : VK} (hp : Prim2 X.K r p) (r0 : Rel X.K B F α rho h σ H) (tx : Top X.K F H x a) (ty : Top X.K F H y b) (q : Post X W B σ F rho (lift2 p a b h) (GD X Q)) : r x y H Q := by
  unfold lift2 at q
  cases e : p a b with
  | none => rw [e] at q; exact q.elim
  | some d =>
    rw [e] at q
    exact hp x y F H a b d Q r0.sub tx ty e fun v F' H' x hv => post_ext r0 q x hv
theorem run_lift1 {r : V → Hp → VK → Prop} {p : D → Option D} {x : V} {a : D} {Q : VK} (hp : Prim1 X.K r p) (r0 : Rel X.K B F α rho h σ H) (tx : Top X.K F H x a) (q : Post X W B σ F rho (lift1 p a h) (GD X Q)) : r x H Q := by
  unfold lift1 at q
  cases e : p a with
  | none => rw [e] at q; exact q.elim
  | some d =>
    rw [e] at q
    exact hp x F H a d Q r0.sub tx e fun v F' H' x hv => post_ext r0 q x hv
/-- two operands and a rule by values -/
theorem t_op2 {r : R2} {p : D → D → Option D} {o1 o2 : Opd} (hp : Prim2 X.K r p) (σ : L2.St) (H : Hp) (Q : VK) (q : tE X W (op2 o1 o2 (lift2 p)) σ H Q) : tOp r (tO X W o1) (tO X W o2) σ H Q := by
  obtain ⟨B, F, α, rho, h, r0, q⟩ := q
  have z := Ev.o2 r0 q
  unfold tOp
  exact tO_mono z fun x H1 z1 => tO_mono z1 fun y H2 ⟨F2, α2, h2, a, b, _, r2, tx, ty, p2⟩ => run_lift2 hp r2 tx ty p2
end
end Ev
/-! # Ev3: tests, and, or, not, if-expressions, comparisons -/
namespace Ev
open PySem PySem.Spec PyProof.Rows L2
section
variable {X : Cx} {W : WX} {a b c e : Expr} {pos : Pos} {rest : List Expr}
abbrev JW (X : Cx) (W : WX) (e : Expr) (t : DenT) : Prop := PW X e (tT X W t)
theorem pw_mono {t t' : TT} (p : PW X e t) (m : ∀ σ H Q, t' σ H Q → t σ H Q) : PW X e t' := ⟨fun whole pins s σ H Q I q => p.run whole pins s σ H Q I (m σ H Q q)⟩
theorem post_ok {β : Type} {B : Fx} {F H : Hp} {α : List Addr} {rho : Ro} {h : Hh} {σ : L2.St} {x : β} {G : β → Hp → List Addr → Hp → Prop} (r : Rel X.K B F α rho h σ H) (p : Post X W B σ F rho (.ok x h) G) : G x F α H := p F α H same_refl r
theorem jt_of {f : Den} (h : JE X W e f) (he : ∀ whole, isTrue e X.env whole = (do let v ← whole; standAt e.pos; holding [v] (truthy v))) : JT X W e (testOf f) := by
  refine pt_mono (pt_val h he) fun σ H Q ⟨B, F, α, rho, h, r, p⟩ => ?_
  refine ⟨B, F, α, rho, h, r, post_imp (post_bind p) fun d F1 α1 H1 s1 ⟨h1, r1, p1⟩ v hv => ?_⟩
  cases d with
  | bool b =>
    cases hv
    exact ⟨b, rfl, post_ok r1 p1⟩
  | _ => exact p1.elim
/-- by a comparison -/
theorem jt_test {f : Den} {t : TE} (h : PT X e (tTest t)) (m : ∀ σ H Q, tE X W f σ H Q → t σ H Q) : JT X W e (testOf f) := by
  refine pt_mono h fun σ H Q ⟨B, F, α, rho, h, r, p⟩ => ?_
  refine m σ H _ ⟨B, F, α, rho, h, r, post_imp (post_bind p) fun d F1 α1 H1 s1 ⟨h1, r1, p1⟩ v hv => ?_⟩
  cases d with
  | bool b =>
    cases hv
    exact ⟨b, rfl, post_ok r1 p1⟩
  | _ => exact p1.elim
theorem jt_not {t : DenT} (h : JT X W a t) : JT X W (.UnaryOp .Not a pos) (tNotD t) := by
  refine pt_mono (pt_not h) fun σ H Q ⟨B, F, α, rho, h, r, p⟩ => ?_
  exact ⟨B, F, α, rho, h, r, post_imp (post_bind p) fun d F1 α1 H1 s1 ⟨h1, r1, p1⟩ => post_ok r1 p1⟩
theorem jw_and {t u : DenT} (h : JT X W a t) (h2 : JW X W (.BoolOp .And (b :: rest) pos) u) : JW X W (.BoolOp .And (a :: b :: rest) pos) (tAndD t u) := by
  refine pw_mono (pw_and h h2) fun σ H Q ⟨B, F, α, rho, h, r, p⟩ => ?_
  refine ⟨B, F, α, rho, h, r, post_imp (post_bind p) fun d F1 α1 H1 s1 ⟨h1, r1, p1⟩ => ?_⟩
  cases d with
  | true => exact ⟨B, F1, α1, rho, h1, r1, p1⟩
  | false => exact post_ok r1 p1
theorem jw_or {t u : DenT} (h : JT X W a t) (h2 : JW X W (.BoolOp .Or (b :: rest) pos) u) : JW X W (.BoolOp .Or (a :: b :: rest) pos) (tOrD t u) := by
  refine pw_mono (pw_or h h2) fun σ H Q ⟨B, F, α, rho, h, r, p⟩ => ?_
  refine ⟨B, F, α, rho, h, r, post_imp (post_bind p) fun d F1 α1 H1 s1 ⟨h1, r1, p1⟩ => ?_⟩
  cases d with
  | true => exact post_ok r1 p1
  | false => exact ⟨B, F1, α1, rho, h1, r1, p1⟩
theorem jw_and1 {t : DenT} (h : JT X W a t) : JW X W (.BoolOp .And [a] pos) t := pw_and1 h
theorem jw_or1 {t : DenT} (h : JT X W a t) : JW X W (.BoolOp .Or [a] pos) t := pw_or1 h
theorem je_if {t : DenT} {f g : Den} (h : JT X W c t) (ha : JE X W a f) (hb : JE X W b g) : JE X W (.IfExp c a b pos) (dIf t f g) := by
  refine pe_mono (pe_ifExp h ha hb) fun σ H Q ⟨B, F, α, rho, h, r, p⟩ => ?_
  refine ⟨B, F, α, rho, h, r, post_imp (post_bind p) fun d F1 α1 H1 s1 ⟨h1, r1, p1⟩ => ?_⟩
  cases d with
  | true => exact ⟨B, F1, α1, rho, h1, r1, p1⟩
  | false => exact ⟨B, F1, α1, rho, h1, r1, p1⟩
theorem je_and {f g : Den} (h : JE X W a f) (h2 : JE X W (.BoolOp .And (b :: rest) pos) g) : JE X W (.BoolOp .And (a :: b :: rest) pos) (dAnd f g) := by
  refine pe_mono (pe_and h h2) fun σ H Q ⟨B, F, α, rho, h, r, p⟩ => ?_
  refine ⟨B, F, α, rho, h, r, post_imp (post_bind p) fun d F1 α1 H1 s1 ⟨h1, r1, p1⟩ v hv => ?_⟩
  cases d with
  | bool b =>
    cases hv
    cases b with
    | true => exact ⟨true, rfl, B, F1, α1, rho, h1, r1, p1⟩
    | false => exact ⟨false, rfl, post_ok r1 p1 _ (.bl false)⟩
  | _ => exact p1.elim
theorem je_or {f g : Den} (h : JE X W a f) (h2 : JE X W (.BoolOp .Or (b :: rest) pos) g) : JE X W (.BoolOp .Or (a :: b :: rest) pos) (dOr f g) := by
  refine pe_mono (pe_or h h2) fun σ H Q ⟨B, F, α, rho, h, r, p⟩ => ?_
  refine ⟨B, F, α, rho, h, r, post_imp (post_bind p) fun d F1 α1 H1 s1 ⟨h1, r1, p1⟩ v hv => ?_⟩
  cases d with
  | bool b =>
    cases hv
    cases b with
    | true => exact ⟨true, rfl, post_ok r1 p1 _ (.bl true)⟩
    | false => exact ⟨false, rfl, B, F1, α1, rho, h1, r1, p1⟩
  | _ => exact p1.elim
theorem je_one {op : BoolOp} {f : Den} (h : JE X W a f) : JE X W (.BoolOp op [a] pos) f := pe_one h
theorem je_not {f : Den} (h : JE X W a f) : JE X W (.UnaryOp .Not a pos) (dNot f) := by
  refine pe_mono (pe_not h) fun σ H Q ⟨B, F, α, rho, h, r, p⟩ => ?_
  refine ⟨B, F, α, rho, h, r, post_imp (post_bind p) fun d F1 α1 H1 s1 ⟨h1, r1, p1⟩ v hv => ?_⟩
  cases d with
  | bool b =>
    cases hv
    exact ⟨b, rfl, post_ok r1 p1 _ (.bl _)⟩
  | _ => exact p1.elim
/-- two rules for one operation -/
theorem OpR.or {f : Value → Value → Sem Value} {r r' : R2} (h : OpR X f r) (h' : OpR X f r') : OpR X f (fun x y H Q => r x y H Q ∨ r' x y H Q) := by
  intro pins s σ H x y v u Q I rx ry q
  rcases q with q | q
  · exact h pins s σ H x y v u Q I rx ry q
  · exact h' pins s σ H x y v u Q I rx ry q
theorem IxR.or {r r' : R2} (h : IxR X r) (h' : IxR X r') : IxR X (fun x y H Q => r x y H Q ∨ r' x y H Q) := by
  intro value slice pins s σ H x y v u Q I rx ry q
  rcases q with q | q
  · exact h value slice pins s σ H x y v u Q I rx ry q
  · exact h' value slice pins s σ H x y v u Q I rx ry q
theorem CallR.or {f : Value} {r r' : List V → Hp → VK → Prop} (h : CallR X f r) (h' : CallR X f r') : CallR X f (fun xs H Q => r xs H Q ∨ r' xs H Q) := by
  intro pins s σ H xs us Q I rx q
  rcases q with q | q
  · exact h pins s σ H xs us Q I rx q
  · exact h' pins s σ H xs us Q I rx q
theorem je_bin {op : Operator} {r : R2} {p : D → D → Option D} {o1 o2 : Opd} (ho : OpR X (binaryOp op) r) (hp : Prim2 X.K r p) (ha : JO X W a o1) (hb : JO X W b o2) : JE X W (.BinOp a op b pos) (op2 o1 o2 (lift2 p)) :=
  pe_mono (pe_op ho ha hb) fun σ H Q q => t_op2 hp σ H Q q
theorem je_cmp {op : CmpOp} {r : R2} {p : D → D → Option D} {o1 o2 : Opd} (ho : OpR X (compareOp op) r) (hp : Prim2 X.K r p) (ha : JO X W a o1) (hb : JO X W b o2) (hm : behindInMarks op b = false) : JE X W (.Compare a [op] [b] pos) (op2 o1 o2 (lift2 p)) :=
  pe_mono (pe_cmpR ho ha hb hm) fun σ H Q q => t_op2 hp σ H Q q
theorem jt_cmp {op : CmpOp} {r : R2} {p : D → D → Option D} {o1 o2 : Opd} (ho : OpR X (compareOp op) r) (hp : Prim2 X.K r p) (ha : JO X W a o1) (hb : JO X W b o2) (hm : behindInMarks op b = false) : JT X W (.Compare a [op] [b] pos) (testOf (op2 o1 o2 (lift2 p))) :=
  jt_test (pt_cmpR ho ha hb hm) fun σ H Q q => t_op2 hp σ H Q q
theorem je_ix {r : R2} {p : D → D → Option D} {o1 o2 : Opd} (ho : IxR X r) (hp : Prim2 X.K r p) (ha : JO X W a o1) (hb : JO X W b o2) (hs : PlainIx b) : JE X W (.Subscript a b pos) (op2 o1 o2 (lift2 p)) :=
  pe_mono (pe_ix ho ha hb hs) fun σ H Q q => t_op2 hp σ H Q q
/-- a chain -/
theorem t_chain {r r' : R2} {p p' : D → D → Option D} {o1 o2 o3 : Opd} (hp : Prim2 X.K r p) (hp' : Prim2 X.K r' p') (σ : L2.St) (H : Hp) (Q : VK) (q : tE X W (dChain p p' o1 o2 o3) σ H Q) : tChain r r' (tO X W o1) (tO X W o2) (tO X W o3) σ H Q := by
  obtain ⟨B, F, α, rho, h, r0, q⟩ := q
  have z := Ev.o2 r0 q
  unfold tChain
  refine tO_mono z fun x H1 z1 => tO_mono z1 fun y H2 ⟨F2, α2, h2, a, b, _, r2, tx, ty, p2⟩ => ?_
  cases e : p a b with
  | none => rw [e] at p2; exact p2.elim
  | some d =>
    rw [e] at p2
    refine hp x y F2 H2 a b d _ r2.sub tx ty e fun v F3 H3 x3 hv => ?_
    have r3 := r2.ext x3
    have p3 := post_mono x3.f p2
    cases d with
    | bool k =>
      cases hv
      cases k with
      | false => exact ⟨false, rfl, post_ok r3 p3 _ (.bl false)⟩
      | true =>
        refine ⟨true, rfl, ?_⟩
        rw [if_pos rfl]
        cases b with
        | int j =>
          cases ty.int
          refine tO_mono (Ev.o1 r3 p3) fun w H4 ⟨F4, α4, h4, c, s4, r4, tw, p4⟩ => ?_
          cases e' : p' (.int j) c with
          | none => rw [e'] at p4; exact p4.elim
          | some d' =>
            rw [e'] at p4
            exact hp' _ w F4 H4 (.int j) c d' _ r4.sub (.dp (.int j)) tw e' fun v F' H' x hv => post_ext r4 p4 x hv
        | _ => exact p2.elim
    | _ => exact p2.elim
theorem je_chain {op op' : CmpOp} {r r' : R2} {p p' : D → D → Option D} {o1 o2 o3 : Opd} (ho : OpR X (compareOp op) r) (hp : Prim2 X.K r p) (ho' : OpR X (compareOp op') r') (hp' : Prim2 X.K r' p') (ha : JO X W a o1) (hb : JO X W b o2) (hc : JO X W c o3)
    (hm : lastMarks [op, op'] [b, c] = false) : JE X W (.Compare a [op, op'] [b, c] pos) (dChain p p' o1 o2 o3) :=
  pe_mono (pe_chain ho ho' ha hb hc hm) fun σ H Q q => t_chain hp hp' σ H Q q
theorem jt_chain {op op' : CmpOp} {r r' : R2} {p p' : D → D → Option D} {o1 o2 o3 : Opd} (ho : OpR X (compareOp op) r) (hp : Prim2 X.K r p) (ho' : OpR X (compareOp op') r') (hp' : Prim2 X.K r' p') (ha : JO X W a o1) (hb : JO X W b o2) (hc : JO X W c o3)
    (hm : lastMarks [op, op'] [b, c] = false) : JT X W (.Compare a [op, op'] [b, c] pos) (testOf (dChain p p' o1 o2 o3)) :=
  jt_test (pt_chain ho ho' ha hb hc hm) fun σ H Q q => t_chain hp hp' σ H Q q
end
end Ev
/-! # Ev4: the primitives keep their promises -/
namespace Ev
open PySem PySem.Spec PyProof.Rows L2
theorem lim_le : lim ≤ sizeLine := by rw [sizeLine_eq]; decide
section
variable {X : Cx} {W : WX} {K : PySem.W.Frag}
theorem ext0 {F H : Hp} (s : Same F H) : Ext F H F H := Ext.refl s
/-- a new tuple, a new list -/
theorem mk_tup {F H : Hp} {vs : List V} {ds : List D} {Q : VK} (s : Same F H) (r : RpL K F vs ds) (nb : brn ds = false) (q : ∀ v F' H', Ext F H F' H' → Rp K F' v (.tuple ds) → Q v H') : ∀ p, H p = none → Q (.ref p) (upd H p (.tup vs)) := fun p hp =>
  q _ _ _ (Ext.put s hp) (.tup (.inl (.inl upd_same)) (rpAll_mono (Ext.put (o := .tup vs) s hp).f r.all) r.le fun z => by rw [nb] at z; cases z)
theorem mk_tupF {F H : Hp} {vs : List V} {ds : List D} {Q : VK} (s : Same F H) (r : RpL K F vs ds) (q : ∀ v F' H', Ext F H F' H' → Rp K F' v (.tuple ds) → Q v H') : ∀ p o, H p = none → o.dict = none → Q (.ref p) (upd H p (.frz o (.tup vs))) := fun p o hp hd =>
  q _ _ _ (Ext.put s hp) (.tup (.inl (.inr ⟨o, upd_same⟩)) (rpAll_mono (Ext.put (o := .frz o (.tup vs)) s hp).f r.all) r.le fun _ => ⟨o, upd_same, hd⟩)
theorem mk_lst {F H : Hp} {vs : List V} {ds : List D} {Q : VK} (s : Same F H) (r : RpL K F vs ds) (q : ∀ v F' H', Ext F H F' H' → Rp K F' v (.list ds) → Q v H') : ∀ p, H p = none → Q (.ref p) (upd H p (.lst vs)) := fun p hp =>
  q _ _ _ (Ext.put s hp) (.lst (.inl upd_same) (rpAll_mono (Ext.put (o := .lst vs) s hp).f r.all) r.le)
theorem RpL.append {F : Hp} {vs ws : List V} {ds es : List D} (r : RpL K F vs ds) (r' : RpL K F ws es) (h : ds.length + es.length ≤ sizeLine) : RpL K F (vs ++ ws) (ds ++ es) := ⟨r.all.append r'.all, by rw [List.length_append]; exact h⟩
/-- two lists that may be read -/
def rCatR : R2 := fun x y H Q => ∃ l b xs zs, x = .ref l ∧ y = .ref b ∧ Rd H l (.lst xs) ∧ Rd H b (.lst zs) ∧ xs.length + zs.length ≤ sizeLine ∧ ∀ p, H p = none → Q (.ref p) (upd H p (.lst (xs ++ zs)))
theorem op_catR : OpR X (binaryOp .Add) rCatR := by
  intro pins s σ H x y v u Q I rx ry h
  obtain ⟨l, b, xs, zs, rfl, rfl, hH, hB, hz, q⟩ := h
  cases rx
  cases ry
  obtain ⟨z, its, n, r, e⟩ := hH.ok I.hok
  obtain ⟨z2, its2, n2, r2, e2⟩ := hB.ok I.hok
  have l1 := r.length
  have l2 := r2.length
  refine PySem.P.add_list e e2 ?_ (by rw [List.size_toArray, List.size_toArray]; omega)
  have ea : its.toArray ++ its2.toArray = (its ++ its2).toArray := by simp
  rw [ea]
  exact ⟨.ref _, _, I.lnew (t' := s.toks) (r.append r2) (by rw [List.length_append]; omega), rfl, q _ I.fresh⟩
theorem p_add : Prim2 K (fun x y H Q => rI0 (fun i j => .int (i + j)) x y H Q ∨ ((∃ i j, x = .str i ∧ y = .str j ∧ i.length + j.length ≤ sizeLine ∧ Q (.str (i ++ j)) H) ∨ (rCatA K x y H Q ∨ rCatR x y H Q))) pAdd := by
  intro x y F H a b d Q s tx ty e q
  unfold pAdd at e
  split at e
  · cases e
    cases tx.int
    cases ty.int
    exact .inl ⟨_, _, rfl, rfl, q _ _ _ (ext0 s) (.int _)⟩
  · split at e
    · rename_i hl
      cases e
      cases tx.str
      cases ty.str
      exact .inr (.inl ⟨_, _, rfl, rfl, Nat.le_trans hl lim_le, q _ _ _ (ext0 s) (.str _)⟩)
    · cases e
  · split at e
    · rename_i hl
      cases e
      obtain ⟨p, vs, rfl, h1, r1⟩ := tx.tuple s
      obtain ⟨p', vs', rfl, h2, r2⟩ := ty.tuple s
      refine .inr (.inr (.inl ⟨p, p', vs, vs', rfl, rfl, h1, h2, by rw [r1.length, r2.length]; exact Nat.le_trans hl.1 lim_le, fun z => ?_, fun _ z => ?_, fun _ _ => mk_tup s (r1.append r2 (Nat.le_trans hl.1 lim_le)) hl.2 q⟩))
      · subst z
        cases r1.all
        cases ty with
        | dp h => exact q _ _ _ (ext0 s) h
      · subst z
        cases r2.all
        rw [List.append_nil] at q
        cases tx with
        | dp h => exact q _ _ _ (ext0 s) h
    · cases e
  · split at e
    · rename_i hl
      cases e
      obtain ⟨p, vs, rfl, h1, r1⟩ := tx.list s
      obtain ⟨p', vs', rfl, h2, r2⟩ := ty.list s
      exact .inr (.inr (.inr ⟨p, p', vs, vs', rfl, rfl, h1, h2, by rw [r1.length, r2.length]; exact Nat.le_trans hl lim_le, mk_lst s (r1.append r2 (Nat.le_trans hl lim_le)) q⟩))
    · cases e
  · cases e
theorem p_sub : Prim2 K (rI0 fun i j => .int (i - j)) pSub := by
  intro x y F H a b d Q s tx ty e q
  unfold pSub at e
  split at e
  · cases e
    cases tx.int
    cases ty.int
    exact ⟨_, _, rfl, rfl, q _ _ _ (ext0 s) (.int _)⟩
  · cases e
theorem p_int2 {g : Int → Int → D} {g' : Int → Int → V} (hg : ∀ i j F, Rp K F (g' i j) (g i j)) : Prim2 K (rI0 g') (pInt2 g) := by
  intro x y F H a b d Q s tx ty e q
  unfold pInt2 at e
  split at e
  · cases e
    cases tx.int
    cases ty.int
    exact ⟨_, _, rfl, rfl, q _ _ _ (ext0 s) (hg _ _ _)⟩
  · cases e
theorem p_lt : Prim2 K (rI0 fun i j => .bl (decide (i < j))) pLt := p_int2 fun _ _ _ => .bl _
theorem p_le : Prim2 K (rI0 fun i j => .bl (decide (i ≤ j))) pLe := p_int2 fun _ _ _ => .bl _
theorem p_gt : Prim2 K (rI0 fun i j => .bl (decide (j < i))) pGt := p_int2 fun _ _ _ => .bl _
theorem p_ge : Prim2 K (rI0 fun i j => .bl (decide (j ≤ i))) pGe := p_int2 fun _ _ _ => .bl _
/-- a list that may be read, times an int -/
def rRepR : R2 := fun x y H Q => ∃ l k xs, x = .ref l ∧ y = .int k ∧ Rd H l (.lst xs) ∧ -(2 ^ 63) ≤ k ∧ k < 2 ^ 63 ∧ xs.length * k.toNat ≤ sizeLine ∧
  ∀ p, H p = none → Q (.ref p) (upd H p (.lst (List.replicate k.toNat xs).flatten))
theorem op_repR : OpR X (binaryOp .Mult) rRepR := by
  intro pins s σ H x y v u Q I rx ry h
  obtain ⟨l, k, xs, rfl, rfl, hH, h1, h2, hz, q⟩ := h
  cases rx
  obtain ⟨t, rfl⟩ := ry
  obtain ⟨z, its, n, r, e⟩ := hH.ok I.hok
  have hl := r.length
  have long : its.toArray.size * k.toNat ≤ sizeLine := by rw [List.size_toArray, ← hl]; exact hz
  have cap : ¬ its.toArray.size * k.toNat > (2 ^ 63 - 1) / 8 := by
    have w : (sizeLine : Nat) ≤ (2 ^ 63 - 1) / 8 := by decide
    omega
  have fit : ¬ (!Builtin.List.listFitsIndex k) = true := by rw [fitsIndex_both h1 h2]; decide
  have short : ¬ Builtin.List.listTooLong (its.toArray.size * k.toNat) = true := by rw [notLongL long]; decide
  have made : List.foldl (fun x1 x2 => x1 ++ x2) #[] (List.replicate (if its.toArray.isEmpty = true then 0 else k.toNat) its.toArray) = (List.replicate k.toNat its).flatten.toArray := by
    have all : ∀ m : Nat, List.foldl (fun x1 x2 => x1 ++ x2) #[] (List.replicate m its.toArray) = (List.replicate m its).flatten.toArray := fun m => by
      have w := foldl_rep its m []
      rwa [List.nil_append] at w
    rw [all]
    cases its with
    | nil => simp
    | cons a b => rw [if_neg (by simp)]
  refine wpAny_binaryOp_repeat_ref (T := "list") (U := "int") (by decide) ⟨_, e, rfl⟩ (fun s' => typeIs_int s' k t) noFill_list_mul F.fills_int_mul F.slot_int_rmul repeat_list F.slot_int_index.lookup ?_
  refine call_meets F.slot_int_rmul (typeIs_int s k t) F.entry_int_rmul (F.args_int_rmul_2 _ _) (int___rmul___int_list k t l its.toArray n) ⟨e, rfl, ⟨_, e, rfl⟩, ?_⟩
  refine call_meets F.slot_list_mul ⟨_, e, rfl⟩ F.entry_list_mul (F.args_list_mul_2 _ _) (AutoListH.list___mul___list_int_3 l its.toArray n k t fit cap short) ⟨e, ?_⟩
  rw [made]
  exact ⟨.ref _, _, I.lnew (t' := s.toks) (r.rep k.toNat) (by rw [PyProof.Rows.lm_len_rep_flat, Nat.mul_comm]; exact hz), rfl, q _ I.fresh⟩
theorem RpAll.rep {F : Hp} {vs : List V} {ds : List D} (r : RpAll K F vs ds) : ∀ n : Nat, RpAll K F (List.replicate n vs).flatten (List.replicate n ds).flatten
  | 0 => .nil
  | n + 1 => by
    rw [List.replicate_succ, List.replicate_succ, List.flatten_cons, List.flatten_cons]
    exact r.append (RpAll.rep r n)
theorem rep_len {ds : List D} : ∀ n : Nat, (List.replicate n ds).flatten.length = ds.length * n
  | 0 => by simp
  | n + 1 => by
    rw [List.replicate_succ, List.flatten_cons, List.length_append, rep_len n, Nat.mul_succ, Nat.add_comm]
theorem p_mul : Prim2 K (fun x y H Q => rI CMul (fun i j => .int (i * j)) x y H Q ∨ (rRepR x y H Q ∨ rRepT K x y H Q)) pMul := by
  intro x y F H a b d Q s tx ty e q
  unfold pMul at e
  split at e
  · split at e
    · rename_i hl
      cases e
      cases tx.int
      cases ty.int
      refine .inl ⟨_, _, rfl, rfl, ?_, q _ _ _ (ext0 s) (.int _)⟩
      unfold CMul
      omega
    · cases e
  · split at e
    · rename_i hl
      cases e
      obtain ⟨p, vs, rfl, h1, r1⟩ := tx.list s
      cases ty.int
      exact .inr (.inl ⟨p, _, vs, rfl, rfl, h1, by omega, by omega, by rw [r1.length]; exact Nat.le_trans hl.2.2 lim_le, mk_lst s ⟨r1.all.rep _, by rw [rep_len]; exact Nat.le_trans hl.2.2 lim_le⟩ q⟩)
    · cases e
  · split at e
    · rename_i hl
      cases e
      obtain ⟨p, vs, rfl, h1, r1⟩ := tx.tuple s
      cases ty.int
      refine .inr (.inr ⟨p, _, vs, rfl, rfl, h1, ?_, hl.2.1, hl.2.2.1, by rw [r1.length]; exact hl.2.2.2.1, mk_tup s ⟨r1.all.rep _, ?_⟩ hl.2.2.2.2 q⟩)
      · intro z
        subst z
        cases r1.all
        exact hl.1 rfl
      · rw [rep_len]
        refine Nat.le_trans (Nat.mul_le_mul hl.2.2.2.1 (show _ ≤ 1000 by omega)) ?_
        rw [sizeLine_eq]
        decide
    · cases e
  · cases e
theorem p_fdiv : Prim2 K (rI CDivN fun i j => .int (i.fdiv j)) pFdiv := by
  intro x y F H a b d Q s tx ty e q
  unfold pFdiv at e
  split at e
  · split at e
    · rename_i hl
      cases e
      cases tx.int
      cases ty.int
      exact ⟨_, _, rfl, rfl, hl, q _ _ _ (ext0 s) (.int _)⟩
    · cases e
  · cases e
theorem p_mod : Prim2 K (rI (fun _ j => j ≠ 0) fun i j => .int (i.fmod j)) pMod := by
  intro x y F H a b d Q s tx ty e q
  unfold pMod at e
  split at e
  · split at e
    · rename_i hl
      cases e
      cases tx.int
      cases ty.int
      exact ⟨_, _, rfl, rfl, hl, q _ _ _ (ext0 s) (.int _)⟩
    · cases e
  · cases e
theorem p_pow : Prim2 K (rI CPow fun i j => .int (i ^ j.toNat)) pPow := by
  intro x y F H a b d Q s tx ty e q
  unfold pPow at e
  split at e
  · split at e
    · rename_i hl
      cases e
      cases tx.int
      cases ty.int
      exact ⟨_, _, rfl, rfl, hl, q _ _ _ (ext0 s) (.int _)⟩
    · cases e
  · cases e
theorem p_eq : Prim2 K (rEqD K) pEq := by
  intro x y F H a b d Q s tx ty e q
  unfold pEq at e
  split at e
  · rename_i hl
    cases e
    exact ⟨a, b, tx.dpH s hl.1, ty.dpH s hl.2, hl.1, hl.2, q _ _ _ (ext0 s) (.bl _)⟩
  · cases e
theorem p_ne : Prim2 K (rNeD K) pNe := by
  intro x y F H a b d Q s tx ty e q
  unfold pNe at e
  split at e
  · rename_i hl
    cases e
    exact ⟨a, b, tx.dpH s hl.1, ty.dpH s hl.2, hl.1, hl.2, q _ _ _ (ext0 s) (.bl _)⟩
  · cases e
theorem isNone_top {F H : Hp} {x : V} {a : D} (t : Top K F H x a) : decide (x = V.non) = isNone a := by
  cases t with
  | dp h => cases h <;> simp [isNone]
  | lst h r => simp [isNone]
  | dct h k r => simp [isNone]
theorem p_is : Prim2 K (fun x y H Q => (y = .non ∧ Q (.bl (decide (x = .non))) H) ∨ rIsB x y H Q) pIs := by
  intro x y F H a b d Q s tx ty e q
  unfold pIs at e
  split at e
  · cases e
    cases ty.none
    refine .inl ⟨rfl, ?_⟩
    rw [isNone_top tx]
    exact q _ _ _ (ext0 s) (.bl _)
  · cases e
    cases tx.bool
    cases ty.bool
    refine .inr ⟨_, _, rfl, rfl, ?_⟩
    exact q _ _ _ (ext0 s) (.bl _)
  · cases e
theorem p_isNot : Prim2 K (fun x y H Q => (y = .non ∧ Q (.bl (!decide (x = .non))) H) ∨ rNotB x y H Q) pIsNot := by
  intro x y F H a b d Q s tx ty e q
  unfold pIsNot at e
  split at e
  · cases e
    cases ty.none
    refine .inl ⟨rfl, ?_⟩
    rw [isNone_top tx]
    exact q _ _ _ (ext0 s) (.bl _)
  · cases e
    cases tx.bool
    cases ty.bool
    refine .inr ⟨_, _, rfl, rfl, ?_⟩
    exact q _ _ _ (ext0 s) (.bl _)
  · cases e
/-- in, not in: data in a tuple -/
def rInT (K : PySem.W.Frag) : R2 := fun x y H Q => ∃ d ds, Dp K H x d ∧ Dp K H y (.tuple ds) ∧ SeqAt.shaped d = true ∧ SeqAt.shaped (.tuple ds) = true ∧ Q (.bl (ds.any fun z => PyData.eqv z d)) H
def rNotInT (K : PySem.W.Frag) : R2 := fun x y H Q => ∃ d ds, Dp K H x d ∧ Dp K H y (.tuple ds) ∧ SeqAt.shaped d = true ∧ SeqAt.shaped (.tuple ds) = true ∧ Q (.bl (!ds.any fun z => PyData.eqv z d)) H
theorem op_inT (hu : X.A.units + 65 < cLine) : OpR X (compareOp .In) (rInT X.K) := by
  intro pins s σ H x y v u Q I rx ry h
  obtain ⟨d, ds, hd, he, sd, se, q⟩ := h
  obtain ⟨as, r1⟩ := Dp.reads I d x v hd rx
  obtain ⟨bs, r2⟩ := Dp.reads I (.tuple ds) y u he ry
  exact SeqAt.in_tuple_reads r2 r1 (SeqAt.canLay_of_shaped se) (SeqAt.canLay_of_shaped sd) (room_in_shaped sd hu) ⟨.bl _, H, I, rfl, q⟩
theorem op_notInT (hu : X.A.units + 65 < cLine) : OpR X (compareOp .NotIn) (rNotInT X.K) := by
  intro pins s σ H x y v u Q I rx ry h
  obtain ⟨d, ds, hd, he, sd, se, q⟩ := h
  obtain ⟨as, r1⟩ := Dp.reads I d x v hd rx
  obtain ⟨bs, r2⟩ := Dp.reads I (.tuple ds) y u he ry
  exact SeqAt.notIn_tuple_reads r2 r1 (SeqAt.canLay_of_shaped se) (SeqAt.canLay_of_shaped sd) (room_in_shaped sd hu) ⟨.bl _, H, I, rfl, q⟩
theorem p_in : Prim2 K (fun x y H Q => rInD K x y H Q ∨ rInT K x y H Q) pInS := by
  intro x y F H a b d Q s tx ty e q
  unfold pInS at e
  split at e
  · rename_i hl
    split at e
    · cases e
      exact .inl ⟨_, _, tx.dpH s hl.1, ty.dpH s hl.2, hl.1, hl.2, q _ _ _ (ext0 s) (.bl _)⟩
    · cases e
      exact .inr ⟨_, _, tx.dpH s hl.1, ty.dpH s hl.2, hl.1, hl.2, q _ _ _ (ext0 s) (.bl _)⟩
    · cases e
  · cases e
theorem p_notIn : Prim2 K (fun x y H Q => rNotInD K x y H Q ∨ rNotInT K x y H Q) pNotInS := by
  intro x y F H a b d Q s tx ty e q
  unfold pNotInS at e
  split at e
  · rename_i hl
    split at e
    · cases e
      exact .inl ⟨_, _, tx.dpH s hl.1, ty.dpH s hl.2, hl.1, hl.2, q _ _ _ (ext0 s) (.bl _)⟩
    · cases e
      exact .inr ⟨_, _, tx.dpH s hl.1, ty.dpH s hl.2, hl.1, hl.2, q _ _ _ (ext0 s) (.bl _)⟩
    · cases e
  · cases e
theorem RpAll.atI {F : Hp} {vs : List V} {ds : List D} {i : Int} {d : D} (r : RpAll K F vs ds) (e : ixD ds i = some d) : ∃ v, L2.atI vs i = some v ∧ Rp K F v d := by
  unfold ixD L2.atI at e
  unfold L2.atI
  rw [r.length]
  cases w : ixN ds.length i with
  | none => rw [w] at e; cases e
  | some j =>
    rw [w] at e
    exact r.get e
theorem p_ix : Prim2 K (fun x y H Q => rIxL K x y H Q ∨ rIxT K x y H Q) pIxS := by
  intro x y F H a b d Q s tx ty e q
  unfold pIxS at e
  split at e
  · obtain ⟨p, vs, rfl, h1, r1⟩ := tx.list s
    cases ty.int
    obtain ⟨v, e1, e2⟩ := r1.all.atI e
    exact .inl ⟨p, vs, _, v, rfl, rfl, .inl h1, e1, q _ _ _ (ext0 s) e2⟩
  · obtain ⟨p, vs, rfl, h1, r1⟩ := tx.tuple s
    cases ty.int
    obtain ⟨v, e1, e2⟩ := r1.all.atI e
    exact .inr ⟨p, vs, _, v, rfl, rfl, h1, e1, q _ _ _ (ext0 s) e2⟩
  · cases e
/-- a built-in of one argument -/
def PrimC1 (K : PySem.W.Frag) (r : List V → Hp → VK → Prop) (p : D → Option D) : Prop := Prim1 K (fun x H Q => r [x] H Q) p
theorem Top.ty {F H : Hp} (s : Same F H) {x : V} {a : D} {n : String} (t : Top K F H x a) (e : tyName a = some n) : TyX K H x (.type n) := by
  cases t with
  | dp h =>
    cases h with
    | non => cases e; exact .base .non
    | bl b => cases e; exact .base (.bl b)
    | int i => cases e; exact .base (.int i)
    | str z => cases e; exact .base (.str z)
    | lst h r l =>
      cases e
      rcases Same.rd s h with z | ⟨o, z⟩
      · exact .base (.lst z)
      · exact .base (.frz z)
    | tup h r l =>
      cases e
      rcases Same.seqT s h with (z | ⟨o, z⟩) | ⟨o, its, n, z, c, _⟩
      · exact .base (.tup z)
      · exact .fTuple z
      · exact .kTuple z c
    | dct h k r => cases e
  | lst h r => cases e; exact .base (.lst h)
  | dct h k r => cases e
theorem p_isi {t : String} {x : V} {F H : Hp} {a d : D} {Q : VK} (s : Same F H) (tx : Top K F H x a) (e : pIsi t a = some d) (q : ∀ v F' H', Ext F H F' H' → Rp K F' v d → Q v H') : rIsi K [x, .ty t] H Q := by
  unfold pIsi at e
  cases h1 : tyName a with
  | none => rw [h1] at e; cases e
  | some n =>
    rw [h1] at e
    cases h2 : kitB n t with
    | none => simp [h2] at e
    | some b =>
      simp only [Option.bind_some, h2, Option.map_some, Option.some.injEq] at e
      subst e
      exact ⟨x, _, _, _, b, rfl, .ty t, tx.ty s h1, kit_ty h2, q _ _ _ (ext0 s) (.bl b)⟩
theorem RpAll.bools {F : Hp} : ∀ {vs : List V} {ds : List D} {bs : List Bool}, RpAll K F vs ds → boolsOf ds = some bs → vs = bs.map V.bl
  | _, _, bs, .nil, e => by cases e; rfl
  | _, _, bs, .cons (d := d) h r, e => by
    cases d with
    | bool b =>
      cases h
      unfold boolsOf at e
      cases w : boolsOf _ with
      | none => rw [w] at e; cases e
      | some cs =>
        rw [w] at e
        cases e
        rw [RpAll.bools r w]
        rfl
    | _ => cases e
theorem p_all : PrimC1 K (rAll K) pAll := by
  intro x F H a d Q s tx e q
  unfold pAll at e
  split at e
  · obtain ⟨p, vs, rfl, h1, r1⟩ := tx.list s
    cases w : boolsOf _ with
    | none => rw [w] at e; cases e
    | some bs =>
      rw [w] at e
      cases e
      have z := r1.all.bools w
      subst z
      exact ⟨p, bs, rfl, .inl h1, q _ _ _ (ext0 s) (.bl _)⟩
  · cases e
theorem p_any : PrimC1 K (rAny K) pAny := by
  intro x F H a d Q s tx e q
  unfold pAny at e
  split at e
  · obtain ⟨p, vs, rfl, h1, r1⟩ := tx.list s
    cases w : boolsOf _ with
    | none => rw [w] at e; cases e
    | some bs =>
      rw [w] at e
      cases e
      have z := r1.all.bools w
      subst z
      exact ⟨p, bs, rfl, .inl h1, q _ _ _ (ext0 s) (.bl _)⟩
  · cases e
theorem p_int : PrimC1 K (fun xs H Q => ((∃ i, xs = [.int i] ∧ Q (.int i) H) ∨ ∃ k, xs = [.bl k] ∧ Q (.int (if k then 1 else 0)) H) ∨ ∃ a n, xs = [.str a] ∧ PySem.intText? a = some n ∧ a.length ≤ 640 ∧ Q (.int n) H) pInt := by
  intro x F H a d Q s tx e q
  unfold pInt at e
  split at e
  · cases e
    cases tx.int
    exact .inl (.inl ⟨_, rfl, q _ _ _ (ext0 s) (.int _)⟩)
  · cases e
    cases tx.bool
    exact .inl (.inr ⟨_, rfl, q _ _ _ (ext0 s) (.int _)⟩)
  · split at e
    · rename_i n hn
      split at e
      · rename_i hl
        cases e
        cases tx.str
        exact .inr ⟨_, n, rfl, hn, hl, q _ _ _ (ext0 s) (.int _)⟩
      · cases e
    · cases e
  · cases e
theorem p_str : PrimC1 K (fun xs H Q => (∃ i, xs = [.int i] ∧ i.natAbs.log2 < 1920 ∧ Q (.str (toString i)) H) ∨ ∃ a, xs = [.str a] ∧ Q (.str a) H) pStr := by
  intro x F H a d Q s tx e q
  unfold pStr at e
  split at e
  · split at e
    · rename_i hl
      cases e
      cases tx.int
      exact .inl ⟨_, rfl, hl, q _ _ _ (ext0 s) (.str _)⟩
    · cases e
  · cases e
    cases tx.str
    exact .inr ⟨_, rfl, q _ _ _ (ext0 s) (.str _)⟩
  · cases e
def rTupF (K : PySem.W.Frag) : List V → Hp → VK → Prop := fun xs H Q => ∃ p ys, xs = [.ref p] ∧ ((SqL K H p ys ∧ ∀ l o, H l = none → o.dict = none → Q (.ref l) (upd H l (.frz o (.tup ys)))) ∨ (SqT K H p ys ∧ Q (.ref p) H))
theorem cr_tupF : CallR X (.type "tuple") (rTupF X.K) := by
  intro pins s σ H xs us Q I r h
  obtain ⟨p, ys, rfl, h⟩ := h
  rcases h with ⟨hq, q⟩ | ⟨hq, q⟩
  · obtain ⟨u, rfl, rx⟩ := vals1 r
    cases rx
    obtain ⟨its, r', pl, hz⟩ := I.list hq
    have hl := r'.length
    refine call_tuple_list pl.isList (fun h' kp => ?_) (by rw [List.size_toArray]; omega)
    have I1 : Inv X pins σ H { s with heap := h' } := I.kept (t' := s.toks) kp
    refine ⟨.ref h'.objs.size, _, I1.laid (t' := s.toks) (o := .frz { cls := .type "tuple", data := .seq its.toArray } (.tup ys)) (fun b o e => Heap.get?_push_of_some _ e) (Nat.le_refl _) ?_, rfl, q _ _ (I1.hok.fresh (Nat.le_refl _)) rfl⟩
    exact ⟨Heap.get?_push_size _ rfl, hz, its, r', IsTup.new _ _⟩
  · exact call_tuple_of pins s σ H _ us Q I r ⟨p, ys, rfl, .inr ⟨hq, q⟩⟩
theorem p_tuple : PrimC1 K (rTupF K) pTuple := by
  intro x F H a d Q s tx e q
  unfold pTuple at e
  split at e
  · cases e
    obtain ⟨p, vs, rfl, h1, r1⟩ := tx.list s
    exact ⟨p, vs, rfl, .inl ⟨.inl h1, mk_tupF s r1 q⟩⟩
  · cases e
    obtain ⟨p, vs, rfl, h1, r1⟩ := tx.tuple s
    refine ⟨p, vs, rfl, .inr ⟨h1, ?_⟩⟩
    cases tx with
    | dp h => exact q _ _ _ (ext0 s) h
  · cases e
/-- a built-in of two ints -/
theorem p_min2 : Prim2 K (fun x y H Q => (fun xs H Q => ∃ i j, xs = [.int i, .int j] ∧ Q (.int (if j < i then j else i)) H) [x, y] H Q) pMin2 := by
  intro x y F H a b d Q s tx ty e q
  unfold pMin2 pInt2 at e
  split at e
  · cases e
    cases tx.int
    cases ty.int
    exact ⟨_, _, rfl, q _ _ _ (ext0 s) (.int _)⟩
  · cases e
theorem p_max2 : Prim2 K (fun x y H Q => (fun xs H Q => ∃ i j, xs = [.int i, .int j] ∧ Q (.int (if j > i then j else i)) H) [x, y] H Q) pMax2 := by
  intro x y F H a b d Q s tx ty e q
  unfold pMax2 pInt2 at e
  split at e
  · cases e
    cases tx.int
    cases ty.int
    exact ⟨_, _, rfl, q _ _ _ (ext0 s) (.int _)⟩
  · cases e
end
end Ev
/-! # Ev5: new lists, displays, calls -/
namespace Ev
open PySem PySem.Spec PyProof.Rows L2
/-- nobody but us holds p -/
structure Fresh (B : Fx) (F : Hp) (α : List Addr) (rho : Ro) (σ : L2.St) (H : Hp) (p : Addr) : Prop where
  h0 : B.H0 p = none
  a : p ∉ α
  f : F p = none
  k : B.kp p = none
  o : ∀ (i : Nat) (sl : Slot), rho[i]? = some sl → IsOwn sl → σ[i]? ≠ some (some (.ref p))
  i : p ∉ innA H α
section
variable {K : PySem.W.Frag} {B : Fx} {F F' H H' : Hp} {α : List Addr} {rho : Ro} {h : Hh} {σ : L2.St} {p : Addr} {o : HO}
theorem jn {v : V} {i : Nat} (e : σ[i]?.join = some v) : σ[i]? = some (some v) := by
  cases w : σ[i]? with
  | none => rw [w] at e; cases e
  | some o => rw [w] at e; simpa using e
theorem Rel.add (r : Rel K B F α rho h σ H) (hp : H p = none) : Rel K B F α rho h σ (upd H p o) :=
  r.ext ⟨same_refl, same_upd hp, r.sub.trans (same_upd hp), fun _ _ e => .inl e⟩
theorem Rel.fresh (r : Rel K B F α rho h σ H) (hp : H p = none) : Fresh B F α rho σ H p := by
  have nk : B.kp p = none := by
    cases w : B.kp p with
    | none => rfl
    | some u => have := (r.kp p u w).1; rw [hp] at this; cases this
  refine ⟨r.fresh0 hp, r.freshA hp, not_none r.sub hp, nk, fun i sl e1 e2 e3 => ?_, r.freshI hp⟩
  have q := r.slot i sl e1
  cases sl with
  | own ds =>
    obtain ⟨p', vs, e, _, _, _, e4, _⟩ := q
    have e5 := jn e
    rw [e3] at e5
    cases e5
    rw [hp] at e4
    cases e4
  | ownd _ =>
    obtain ⟨p', e, _, _, _, _, _, e4, _⟩ := q
    have e5 := jn e
    rw [e3] at e5
    cases e5
    rw [hp] at e4
    cases e4
  | refs _ =>
    obtain ⟨p', vs, e, _, _, _, e4, _⟩ := q
    have e5 := jn e
    rw [e3] at e5
    cases e5
    rw [hp] at e4
    cases e4
  | _ => exact e2
theorem Rel.innU (r : Rel K B F α rho h σ H) (hp : H p = none) : innA (upd H p o) α = innA H α := r.io.same (fun _ hq => r.mem hq) (same_upd hp)
theorem Rel.freshU (r : Rel K B F α rho h σ H) (hp : H p = none) : Fresh B F α rho σ (upd H p o) p := by
  have f := r.fresh hp
  exact ⟨f.h0, f.a, f.f, f.k, f.o, by rw [r.innU hp]; exact f.i⟩
theorem Fresh.up (f : Fresh B F α rho σ H p) (e : innA H' α = innA H α) : Fresh B F α rho σ H' p := ⟨f.h0, f.a, f.f, f.k, f.o, by rw [e]; exact f.i⟩
theorem Fresh.innO (f : Fresh B F α rho σ H p) : innA (upd H p o) α = innA H α := innA_congr (fun _ hq => .inl (upd_ne fun z => f.a (z ▸ hq))) fun _ hq => upd_ne fun z => f.i (z ▸ hq)
theorem Fresh.over (f : Fresh B F α rho σ H p) : Fresh B F α rho σ (upd H p o) p := f.up f.innO
/-- it is frozen -/
theorem Rel.freeze (r : Rel K B F α rho h σ H) (f : Fresh B F α rho σ H p) (hp : H p = some o) : Rel K B (upd F p o) α rho h σ H := by
  have m : Same F (upd F p o) := same_upd f.f
  refine ⟨fun b u e => ?_, fun b u e => ?_, r.fr, r.pre, r.a0, r.nd, r.len, fun i sl e => ?_, r.sep, fun b u e => ?_, r.hl, fun n q u e1 e2 => ?_, ⟨r.io.nd, r.io.na, fun q hq => by rw [upd_ne (show q ≠ p from fun z => f.i (z ▸ hq))]; exact r.io.f q hq, r.io.h⟩, r.df, r.ii⟩
  · by_cases hb : b = p
    · subst hb; rw [upd_same] at e; rw [hp]; exact e
    · rw [upd_ne hb] at e; exact r.sub b u e
  · by_cases hb : b = p
    · subst hb; exact .inr f.h0
    · rw [upd_ne hb] at e; exact r.new b u e
  · have q := r.slot i sl e
    cases sl with
    | no => trivial
    | val d => obtain ⟨v, e1, z⟩ := q; exact ⟨v, e1, rp_mono m z⟩
    | own ds =>
      obtain ⟨p', vs, e1, e0, na, h1, h2, h3⟩ := q
      refine ⟨p', vs, e1, e0, na, ?_, h2, h3.mono m⟩
      rw [upd_ne]
      · exact h1
      · rintro rfl
        exact f.o i _ e trivial (jn e1)
    | ownd kvs =>
      obtain ⟨p', e1, e0, na, h1, ob, xs, h2, k, h3⟩ := q
      refine ⟨p', e1, e0, na, ?_, ob, xs, h2, k, rpKv_mono m h3⟩
      rw [upd_ne]
      · exact h1
      · rintro rfl
        exact f.o i _ e trivial (jn e1)
    | ref n => exact q
    | exc _ => exact q
    | refs ns =>
      obtain ⟨p', vs, e1, e0, na, h1, h2, h3⟩ := q
      refine ⟨p', vs, e1, e0, na, ?_, h2, h3⟩
      rw [upd_ne]
      · exact h1
      · rintro rfl
        exact f.o i _ e trivial (jn e1)
  · obtain ⟨h1, h2, h3⟩ := r.kp b u e
    refine ⟨h1, ?_, h3⟩
    rw [upd_ne]
    · exact h2
    · rintro rfl
      rw [f.k] at e; cases e
  · exact (r.heap n q u e1 e2).keep m (fun z => by rw [upd_ne (show q ≠ p from fun w => f.a (w ▸ List.mem_of_getElem? e1))]; exact z) rfl fun _ _ => rfl
end
section
variable {X : Cx} {W : WX} {e a b : Expr} {es : List Expr} {pos p : Pos}
/-- a new list -/
def GL (X : Cx) (B : Fx) (rho : Ro) (σ : L2.St) (Q : VK) : List D → Hp → List Addr → Hp → Prop := fun ds F' α' H' => ∀ p vs, Fresh B F' α' rho σ H' p → H' p = some (.lst vs) → RpL X.K F' vs ds → Q (.ref p) H'
def tL (X : Cx) (W : WX) (l : DenL) : TE := fun σ H Q => ∃ B F α rho h, Rel X.K B F α rho h σ H ∧ Post X W B σ F rho (l rho h) (GL X B rho σ Q)
abbrev JL (X : Cx) (W : WX) (e : Expr) (l : DenL) : Prop := PE X e (tL X W l)
theorem je_ofL {l : DenL} (h : JL X W e l) : JE X W e (ofL l) := by
  refine pe_mono h fun σ H Q ⟨B, F, α, rho, h, r, q⟩ => ⟨B, F, α, rho, h, r, ?_⟩
  refine post_imp2 (post_bind q) fun ds F1 α1 H1 s1 r1 ⟨h1, r1', p1⟩ p vs fr hp rp => ?_
  have m : Same F1 (upd F1 p (.lst vs)) := same_upd fr.f
  exact p1 _ _ _ m (r1'.freeze fr hp) _ (.lst (.inl upd_same) (rpAll_mono m rp.all) rp.le)
/-- arguments, items -/
def tA (X : Cx) (W : WX) (fs : List Den) : TA := fun σ H Q => Run X W (dAll fs) σ H fun ds F' _ H' => ∀ vs, RpAll X.K F' vs ds → Q vs H'
def isStar : Expr → Bool
  | .Starred _ _ => true
  | _ => false
theorem star_cons {env : Env} (h : isStar e = false) : starEach (e :: es) env = (false, eval e env) :: starEach es env := by
  cases e <;> first | rfl | cases h
theorem star_none {env : Env} : ∀ {es : List Expr}, (es.all fun e => !isStar e) = true → ∀ pos, (backTo pos (starEach es env)).any (·.1) = false
  | [], _, _ => rfl
  | e :: es, h, pos => by
    simp only [List.all_cons, Bool.and_eq_true, Bool.not_eq_true'] at h
    rw [star_cons h.1]
    have z := star_none (env := env) h.2 pos
    unfold backTo at z ⊢
    simp only [List.map_cons, List.any_cons, Bool.false_or]
    exact z
theorem pa_mono {t t' : TA} (q : PA X es t) (m : ∀ σ H Q, t' σ H Q → t σ H Q) : PA X es t' := ⟨fun pos pins s σ H Q I z => q.run pos pins s σ H Q I (m σ H Q z)⟩
theorem ja_nil : PA X [] (tA X W []) := pa_mono pa_nil fun σ H Q ⟨B, F, α, rho, h, r, q⟩ => post_ok r q [] .nil
theorem ja_cons {f : Den} {fs : List Den} (hs : isStar e = false) (h : JE X W e f) (hr : PA X es (tA X W fs)) : PA X (e :: es) (tA X W (f :: fs)) := by
  refine pa_mono (pa_cons h hr (star_cons hs)) fun σ H Q ⟨B, F, α, rho, h, r, q⟩ => ⟨B, F, α, rho, h, r, ?_⟩
  refine post_imp (post_bind q) fun d F1 α1 H1 s1 ⟨h1, r1, p1⟩ v hv => ⟨B, F1, α1, rho, h1, r1, ?_⟩
  refine post_imp (post_bind p1) fun ds F2 α2 H2 s2 ⟨h2, r2, p2⟩ vs hvs => ?_
  exact post_ok r2 p2 (v :: vs) (.cons (rp_mono s2 hv) hvs)
theorem dAll_len {fs : List Den} {rho : Ro} {h h' : Hh} {ds : List D} : dAll fs rho h = .ok ds h' → ds.length = fs.length := by
  induction fs generalizing h h' ds with
  | nil => intro e; cases e; rfl
  | cons f fs ih =>
    intro e
    unfold dAll at e
    cases w : f rho h with
    | ok d h1 =>
      rw [w] at e
      change ((dAll fs rho h1).bind fun ds h2 => R.ok (d :: ds) h2) = R.ok ds h' at e
      cases w2 : dAll fs rho h1 with
      | ok ds1 h2 =>
        rw [w2] at e
        cases e
        rw [List.length_cons, List.length_cons, ih w2]
      | exc c h2 => rw [w2] at e; cases e
      | bad => rw [w2] at e; cases e
    | exc c h1 => rw [w] at e; cases e
    | bad => rw [w] at e; cases e
theorem post_len {fs : List Den} {B : Fx} {σ : L2.St} {F : Hp} {rho : Ro} {h : Hh} {G : List D → Hp → List Addr → Hp → Prop} (q : Post X W B σ F rho (dAll fs rho h) G) : Post X W B σ F rho (dAll fs rho h) fun ds F' α' H' => ds.length = fs.length ∧ G ds F' α' H' := by
  cases w : dAll fs rho h with
  | ok ds h' => rw [w] at q; exact fun F' α' H' s r => ⟨dAll_len w, q F' α' H' s r⟩
  | exc c h' => rw [w] at q; exact q
  | bad => rw [w] at q; exact q
def tTupF (t : TA) : TE := fun σ H Q => t σ H fun xs H1 => xs.length ≤ sizeLine ∧ ∀ p o, H1 p = none → o.dict = none → Q (.ref p) (upd H1 p (.frz o (.tup xs)))
theorem pe_tupF {t : TA} {k : Nat} (h : PA X es t) : PE X (.Tuple es k pos) (tTupF t) := by
  refine ⟨fun pins s σ H Q I hq => wpAny_Tuple_spliced (thn (h.run pos pins s σ H _ I hq) fun us s1 ⟨xs, H1, I1, r, z, q⟩ => ⟨by rw [← r.length]; exact z, ?_⟩)⟩
  refine ⟨.ref s1.heap.objs.size, _, I1.laid (t' := s1.toks) (o := .frz { cls := .type "tuple", data := .seq us.toArray } (.tup xs)) (fun b u e => Heap.get?_push_of_some _ e) (Nat.le_refl _) ?_, rfl, q _ _ (I1.hok.fresh (Nat.le_refl _)) rfl⟩
  exact ⟨Heap.get?_push_size _ rfl, z, us, r, ⟨_, Heap.get?_push_size _ rfl, rfl, _, rfl⟩⟩
theorem je_tup {fs : List Den} {k : Nat} (hl : fs.length ≤ lim) (h : PA X es (tA X W fs)) : JE X W (.Tuple es k pos) (dTup fs) := by
  refine pe_mono (pe_tupF h) fun σ H Q ⟨B, F, α, rho, h, r, q⟩ => ⟨B, F, α, rho, h, r, ?_⟩
  refine post_imp (post_len (post_bind q)) fun ds F1 α1 H1 s1 ⟨len, h1, r1, p1⟩ vs hvs => ⟨by rw [hvs.length, len]; exact Nat.le_trans hl lim_le, ?_⟩
  exact mk_tupF r1.sub ⟨hvs, by rw [len]; exact Nat.le_trans hl lim_le⟩ fun v F' H' x hv => post_ext r1 p1 x hv
theorem jl_disp {fs : List Den} (hl : fs.length ≤ lim) (h : PA X es (tA X W fs)) : JL X W (.List es pos) (dAll fs) := by
  refine pe_mono (pe_lst h) fun σ H Q ⟨B, F, α, rho, h, r, q⟩ => ⟨B, F, α, rho, h, r, ?_⟩
  refine post_imp (post_len (post_keep q)) fun ds F1 α1 H1 s1 ⟨len, h1, r1, q1⟩ vs hvs => ⟨by rw [hvs.length, len]; exact Nat.le_trans hl lim_le, fun p hp => ?_⟩
  exact q1 F1 α1 _ same_refl (r1.add hp) p vs (r1.freshU hp) upd_same ⟨hvs, by rw [len]; exact Nat.le_trans hl lim_le⟩
/-- what a new list's making asks: the items are at hand -/
theorem new_lst {B : Fx} {F H : Hp} {α : List Addr} {rho : Ro} {h : Hh} {σ : L2.St} {ds : List D} {vs : List V} {Q : VK} (r : Rel X.K B F α rho h σ H) (q : Post X W B σ F rho (.ok ds h) (GL X B rho σ Q)) (hvs : RpL X.K F vs ds) : ∀ p, H p = none → Q (.ref p) (upd H p (.lst vs)) := fun p hp =>
  q F α _ same_refl (r.add hp) p vs (r.freshU hp) upd_same hvs
/-! ### built-ins -/
/-- one operand, as arguments -/
def tA1 (X : Cx) (W : WX) (o : Opd) : TA := tCons (tO X W o) tNil
def tA2 (X : Cx) (W : WX) (o1 o2 : Opd) : TA := tCons (tO X W o1) (tCons (tO X W o2) tNil)
theorem ja1 {o : Opd} (hs : isStar a = false) (h : JO X W a o) : PA X [a] (tA1 X W o) := pa_cons h pa_nil (star_cons hs)
theorem ja2 {o1 o2 : Opd} (hs : isStar a = false) (hs2 : isStar b = false) (h : JO X W a o1) (h2 : JO X W b o2) : PA X [a, b] (tA2 X W o1 o2) := pa_cons h (pa_cons h2 pa_nil (star_cons hs2)) (star_cons hs)
theorem t_call1 {r : List V → Hp → VK → Prop} {p : D → Option D} {o : Opd} (hp : PrimC1 X.K r p) (σ : L2.St) (H : Hp) (Q : VK) (q : tE X W (op1 o (lift1 p)) σ H Q) : tCB r (tA1 X W o) σ H Q := by
  obtain ⟨B, F, α, rho, h, r0, q⟩ := q
  unfold tCB tA1 tCons tNil
  exact tO_mono (Ev.o1 r0 q) fun x H1 ⟨F1, α1, h1, a, s1, r1, tx, p1⟩ => run_lift1 hp r1 tx p1
theorem t_call2 {r : List V → Hp → VK → Prop} {p : D → D → Option D} {o1 o2 : Opd} (hp : Prim2 X.K (fun x y H Q => r [x, y] H Q) p) (σ : L2.St) (H : Hp) (Q : VK) (q : tE X W (op2 o1 o2 (lift2 p)) σ H Q) : tCB r (tA2 X W o1 o2) σ H Q := by
  obtain ⟨B, F, α, rho, h, r0, q⟩ := q
  unfold tCB tA2 tCons tNil
  exact tO_mono (Ev.o2 r0 q) fun x H1 z1 => tO_mono z1 fun y H2 ⟨F2, α2, h2, a, b, _, r2, tx, ty, p2⟩ => run_lift2 hp r2 tx ty p2
/-- a built-in function (f := .builtin id) or class (f := .type T) by its name -/
theorem pe_blt {f : Value} {x : Str} {r : List V → Hp → VK → Prop} {t : TA} (hc : CallR X f r) (hf : (∃ id, f = .builtin id) ∨ ∃ T, f = .type T) (hg : Gl X x) (hm : X.mg x = none) (hv : bootBuiltins x = some f) (hn : x ≠ "__name__") (hdb : (x == ("__debug__" : Str)) = false)
    (hs : ((a :: es).all fun e => !isStar e) = true) (ha : PA X (a :: es) t) : PE X (.Call (.Name x p) (a :: es) [] pos) (tCB r t) := by
  have h1 : isStar a = false := by
    simp only [List.all_cons, Bool.and_eq_true, Bool.not_eq_true'] at hs
    exact hs.1
  have h2 : (es.all fun e => !isStar e) = true := by
    simp only [List.all_cons, Bool.and_eq_true] at hs
    exact hs.2
  rcases hf with ⟨id, rfl⟩ | ⟨T, rfl⟩
  · exact pe_callB hc hg hm hv ha hn hdb (star_cons h1) (star_none h2 pos)
  · exact pe_callTy hc hg hm hv ha hn hdb (star_cons h1) (star_none h2 pos)
/-- isinstance(e, T) -/
theorem je_isi {o : Opd} {T : String} {y : Str} {p2 : Pos} (hg : Gl X "isinstance") (hm : X.mg "isinstance" = none) (hv : bootBuiltins "isinstance" = some (.builtin "isinstance")) (hg2 : Gl X y) (hm2 : X.mg y = none) (hv2 : bootBuiltins y = some (.type T)) (hn2 : y ≠ "__name__") (hd2 : (y == ("__debug__" : Str)) = false)
    (hs : isStar a = false) (h : JO X W a o) : JE X W (.Call (.Name "isinstance" p) [a, .Name y p2] [] pos) (op1 o (lift1 (pIsi T))) := by
  have hT : PE X (.Name y p2) (tC (.ty T)) := pe_bltn hg2 hm2 hv2 rfl hn2 hd2
  refine pe_mono (pe_callB call_isi hg hm hv (pa_cons h (pa_cons hT pa_nil rfl) (star_cons hs)) (by decide) (by decide) (star_cons hs) rfl) fun σ H Q ⟨B, F, α, rho, h, r0, q⟩ => ?_
  unfold tCB tCons tNil
  refine tO_mono (Ev.o1 r0 q) fun x H1 ⟨F1, α1, h1, a, s1, r1, tx, p1⟩ => ?_
  show rIsi X.K [x, .ty T] H1 Q
  unfold lift1 at p1
  cases e : pIsi T a with
  | none => rw [e] at p1; exact p1.elim
  | some d =>
    rw [e] at p1
    exact p_isi r1.sub tx e fun v F' H' x hv => post_ext r1 p1 x hv
theorem jl_cat {o1 o2 : Opd} (ha : JO X W a o1) (hb : JO X W b o2) : JL X W (.BinOp a .Add b pos) (lCat o1 o2) := by
  refine pe_mono (pe_op op_catR ha hb) fun σ H Q ⟨B, F, α, rho, h, r0, q⟩ => ?_
  unfold tOp
  refine tO_mono (Ev.o2 r0 q) fun x H1 z1 => tO_mono z1 fun y H2 ⟨F2, α2, h2, a, b, _, r2, tx, ty, p2⟩ => ?_
  unfold lift2 kCat at p2
  split at p2
  · rename_i d e
    split at e
    · split at e
      · rename_i hl
        cases e
        obtain ⟨p, vs, rfl, h1, r1⟩ := tx.list r2.sub
        obtain ⟨p', vs', rfl, h2, r3⟩ := ty.list r2.sub
        exact ⟨p, p', vs, vs', rfl, rfl, h1, h2, by rw [r1.length, r3.length]; exact Nat.le_trans hl lim_le, new_lst r2 p2 (r1.append r3 (Nat.le_trans hl lim_le))⟩
      · cases e
    · cases e
  · exact p2.elim
end
/-! ### own defs -/
def HeapOk (K : PySem.W.Frag) (F : Hp) (α : List Addr) (h : Hh) (H : Hp) : Prop := (α.length = h.length ∧ ∀ (n : Nat) (p : Addr) (o : Ob), α[n]? = some p → h[n]? = some o → ObOk K F H p o) ∧ InOk F α H
def ArgOk (K : PySem.W.Frag) (F : Hp) (α : List Addr) : V → Arg → Prop
  | v, .dat d => Rp K F v d
  | v, .ref n => ∃ p, v = .ref p ∧ α[n]? = some p
  | _, .exc _ => False
structure FnPost (F H : Hp) (α : List Addr) (F' H' : Hp) : Prop where
  f : Same F F'
  sub : Same F' H'
  new : ∀ b o, F' b = some o → F b = some o ∨ H b = none
  fr : ∀ b o, H b = some o → b ∉ α → b ∉ innA H α → H' b = some o
  inn : ∀ q ∈ innA H' α, q ∈ innA H α ∨ H q = none
  df : ∀ b o, H b = some o → ∃ o', H' b = some o'
def spOf (K : PySem.W.Frag) (mg : Str → Option Value) (np : Nat) (m : FnDen) : Sp := fun vs H Q E => vs.length = np ∧ ∃ F α args h, Same F H ∧ α.Nodup ∧ HeapOk K F α h H ∧ Paired (ArgOk K F α) vs args ∧ match m args h with
  | .ok d h' => ∀ v F' H', FnPost F H α F' H' → HeapOk K F' α h' H' → Rp K F' v d → Q v H'
  | .exc c h' => ∀ cv F' H', FnPost F H α F' H' → HeapOk K F' α h' H' → mg c = some cv → E cv none H'
  | .bad => False
section
variable {K : PySem.W.Frag} {B : Fx} {F F' H H' : Hp} {α : List Addr} {rho : Ro} {h h' : Hh} {σ : L2.St}
theorem Rel.heapOk (r : Rel K B F α rho h σ H) : HeapOk K F α h H := ⟨⟨r.hl, r.heap⟩, r.io⟩
theorem Rel.called (r : Rel K B F α rho h σ H) (x : FnPost F H α F' H') (ho : HeapOk K F' α h' H') : Rel K B F' α rho h' σ H' where
  sub := x.sub
  new := fun b o e => by
    rcases x.new b o e with z | z
    · exact r.new b o z
    · exact .inr (r.fresh0 z)
  fr := fun b o e hb hi => x.fr b o (r.fr b o e hb hi) (fun hm => by
    obtain ⟨t, ea, ht, _⟩ := r.pre
    rw [ea] at hm
    rcases List.mem_append.mp hm with z | z
    · exact hb z
    · rw [ht b z] at e; cases e) fun hm => by
    rcases (r.ii b hm).2.1 with z | z
    · exact hi z
    · rw [z] at e; cases e
  pre := r.pre
  a0 := r.a0
  nd := r.nd
  len := r.len
  slot := fun i sl e => by
    have q := r.slot i sl e
    cases sl with
    | no => trivial
    | val d => obtain ⟨v, e1, z⟩ := q; exact ⟨v, e1, rp_mono x.f z⟩
    | own ds =>
      obtain ⟨p, vs, e1, e0, na, h1, h2, h3⟩ := q
      refine ⟨p, vs, e1, e0, na, ?_, x.fr p _ h2 na (fun z => (r.ii p z).2.2 i _ e trivial (jn e1)), h3.mono x.f⟩
      cases w : F' p with
      | none => rfl
      | some u =>
        rcases x.new p u w with z | z
        · rw [h1] at z; cases z
        · rw [h2] at z; cases z
    | ownd kvs =>
      obtain ⟨p, e1, e0, na, h1, ob, xs, h2, k, h3⟩ := q
      refine ⟨p, e1, e0, na, ?_, ob, xs, x.fr p _ h2 na (fun z => (r.ii p z).2.2 i _ e trivial (jn e1)), k, rpKv_mono x.f h3⟩
      cases w : F' p with
      | none => rfl
      | some u =>
        rcases x.new p u w with z | z
        · rw [h1] at z; cases z
        · rw [h2] at z; cases z
    | ref n => exact q
    | exc _ => exact q
    | refs ns =>
      obtain ⟨p, vs, e1, e0, na, h1, h2, h3⟩ := q
      refine ⟨p, vs, e1, e0, na, ?_, x.fr p _ h2 na (fun z => (r.ii p z).2.2 i _ e trivial (jn e1)), h3⟩
      cases w : F' p with
      | none => rfl
      | some u =>
        rcases x.new p u w with z | z
        · rw [h1] at z; cases z
        · rw [h2] at z; cases z
  sep := r.sep
  kp := fun b o e => by
    obtain ⟨h1, h2, h3, h4⟩ := r.kp b o e
    refine ⟨x.fr b o h1 h3 (fun z => by rw [(r.ii b z).1] at e; cases e), ?_, h3, h4⟩
    cases w : F' b with
    | none => rfl
    | some u =>
      rcases x.new b u w with z | z
      · rw [h2] at z; cases z
      · rw [h1] at z; cases z
  hl := ho.1.1
  heap := ho.1.2
  io := ho.2
  df := fun b o e => by obtain ⟨o', e'⟩ := r.df b o e; exact x.df b o' e'
  ii := fun q hq => by
    rcases x.inn q hq with z | z
    · exact r.ii q z
    · have f := r.fresh z
      exact ⟨f.k, .inr f.h0, f.o⟩
theorem ArgOk.mono {v : V} {a : Arg} (s : Same F F') (q : ArgOk K F α v a) : ArgOk K F' α v a := by
  cases a with
  | dat d => exact rp_mono s q
  | ref n => exact q
  | exc c => exact q
end
section
variable {X : Cx} {W : WX} {e : Expr} {es : List Expr} {pos p : Pos}
def tAs (X : Cx) (W : WX) (as : List ADen) : TA := fun σ H Q => Run X W (aAll as) σ H fun args F' α' H' => ∀ vs, Paired (ArgOk X.K F' α') vs args → Q vs H'
theorem js_nil : PA X [] (tAs X W []) := pa_mono pa_nil fun σ H Q ⟨B, F, α, rho, h, r, q⟩ => post_ok r q [] .nil
theorem js_exp {f : Den} {as : List ADen} (hs : isStar e = false) (h : JE X W e f) (hr : PA X es (tAs X W as)) : PA X (e :: es) (tAs X W (.exp f :: as)) := by
  refine pa_mono (pa_cons h hr (star_cons hs)) fun σ H Q ⟨B, F, α, rho, h, r, q⟩ => ⟨B, F, α, rho, h, r, ?_⟩
  have q : Post X W B σ F rho (((f rho h).bind fun d h' => R.ok (Arg.dat d) h').bind fun d h1 => (aAll as rho h1).bind fun ds h2 => .ok (d :: ds) h2) _ := q
  refine post_imp (post_bind (post_assoc q)) fun d F1 α1 H1 s1 ⟨h1, r1, p1⟩ v hv => ⟨B, F1, α1, rho, h1, r1, ?_⟩
  refine post_imp (post_bind p1) fun ds F2 α2 H2 s2 ⟨h2, r2, p2⟩ vs hvs => ?_
  exact post_ok r2 p2 (v :: vs) (.cons (rp_mono s2 hv) hvs)
theorem js_var {i : Nat} {x : Str} {as : List ADen} {p0 : Pos} (hN : X.N[i]? = some x) (hv : Vis X.env.scope x) (hd : (x == ("__debug__" : Str)) = false) (hcd : (x == ("__classdict__" : Str)) = false) (hr : PA X es (tAs X W as)) : PA X (.Name x p0 :: es) (tAs X W (.var i :: as)) := by
  refine pa_mono (pa_cons (pe_var hN hv hd hcd) hr (star_cons rfl)) fun σ H Q ⟨B, F, α, rho, h, r, q⟩ => ?_
  have q : Post X W B σ F rho ((match rho[i]? with
    | some (.val d) => R.ok (Arg.dat d) h
    | some (.ref n) => .ok (.ref n) h
    | some (.exc c) => .ok (.exc c) h
    | _ => .bad).bind fun d h1 => (aAll as rho h1).bind fun ds h2 => .ok (d :: ds) h2) _ := q
  cases w : rho[i]? with
  | none => rw [w] at q; exact q.elim
  | some sl =>
    rw [w] at q
    have z := r.slot i sl w
    cases sl with
    | val d =>
      obtain ⟨v, e1, e2⟩ := z
      have q : Post X W B σ F rho ((aAll as rho h).bind fun ds h2 => R.ok (Arg.dat d :: ds) h2) _ := q
      refine ⟨v, jn e1, B, F, α, rho, h, r, post_imp (post_bind q) fun ds F2 α2 H2 s2 ⟨h2, r2, p2⟩ vs hvs => ?_⟩
      exact post_ok r2 p2 (v :: vs) (.cons (rp_mono s2 e2) hvs)
    | ref n =>
      obtain ⟨pa, e1, e2⟩ := z
      have q : Post X W B σ F rho ((aAll as rho h).bind fun ds h2 => R.ok (Arg.ref n :: ds) h2) _ := q
      refine ⟨_, jn e1, B, F, α, rho, h, r, post_imp (post_bind q) fun ds F2 α2 H2 s2 ⟨h2, r2, p2⟩ vs hvs => ?_⟩
      obtain ⟨pb, e3, e4⟩ := r2.slot i _ w
      rw [e1] at e3
      cases (Option.some.inj e3)
      exact post_ok r2 p2 (.ref pa :: vs) (.cons ⟨pa, rfl, e4⟩ hvs)
    | exc c => exact z.elim
    | _ => exact q.elim
/-- f(..) -/
theorem je_call {k np : Nat} {f : Addr} {fd : FuncData} {ps : List Str} {m : FnDen} {x : Str} {as : List ADen} (G : FnOk X.prog X.w X.K X.mg X.base (L2.CX X.prog X.w) k f fd ps (spOf X.K X.mg np m)) (har : ∀ args h, m args h ≠ .bad → args.length = np)
    (hr : Room k X.A) (tk : Takes X W) (hg : Gl X x) (hm : X.mg x = some (.ref f)) (hk : PySem.W.keepIn X.K (.ref f) = true) (hb : Binds X.K fd ps []) (hdb : (x == ("__debug__" : Str)) = false)
    (hs : ((e :: es).all fun e => !isStar e) = true) (ha : PA X (e :: es) (tAs X W as)) : JE X W (.Call (.Name x p) (e :: es) [] pos) (dCall m as) := by
  have h1 : isStar e = false := by
    simp only [List.all_cons, Bool.and_eq_true, Bool.not_eq_true'] at hs
    exact hs.1
  have h2 : (es.all fun e => !isStar e) = true := by
    simp only [List.all_cons, Bool.and_eq_true] at hs
    exact hs.2
  refine pe_mono (pe_callS G hr hg hm hk hb (fun σ => passAt tk σ) ha hdb (star_cons h1) (star_none h2 pos)) fun σ H Q ⟨B, F, α, rho, h, r, q⟩ => ?_
  unfold tCallS
  refine ⟨B, F, α, rho, h, r, post_imp (post_bind q) fun args F1 α1 H1 s1 ⟨h1, r1, p1⟩ vs hvs => ?_⟩
  have len : vs.length = np := by
    rw [Paired.length hvs]
    refine har args h1 fun z => ?_
    rw [z] at p1
    exact p1
  refine ⟨len, F1, α1, args, h1, r1.sub, r1.nd, r1.heapOk, hvs, ?_⟩
  cases w : m args h1 with
  | ok d h2 =>
    rw [w] at p1
    exact fun v F' H' x ho hv => p1 F' α1 H' x.f (r1.called x ho) v hv
  | exc c h2 =>
    rw [w] at p1
    exact fun cv F' H' x ho hc => p1 cv F' α1 H' x.f (r1.called x ho) hc
  | bad =>
    rw [w] at p1
    exact p1
end
end Ev
/-! # Ev6: statements -/
namespace Ev
open PySem PySem.Spec PyProof.Rows L2
def PostS (X : Cx) (W : WX) (B : Fx) (E : Ends) (F : Hp) (x : Fl) : Prop := match x with
  | .next s => ∀ σ' F' α' H', Same F F' → Rel X.K B F' α' s.rho s.h σ' H' → E.nx σ' H'
  | .cont s => ∀ σ' F' α' H', Same F F' → Rel X.K B F' α' s.rho s.h σ' H' → E.ct σ' H'
  | .ret d h => ∀ v rho' σ' F' α' H', Same F F' → Rel X.K B F' α' rho' h σ' H' → Rp X.K F' v d → E.rt v H'
  | .exc c s => ∀ cv σ' F' α' H', Same F F' → Rel X.K B F' α' s.rho s.h σ' H' → X.mg c = some cv → W cv none σ' H'
  | .bad => False
  | .retR n h => ∀ v rho' σ' F' α' H', Same F F' → Rel X.K B F' α' rho' h σ' H' → (∃ q, v = .ref q ∧ α'[n]? = some q) → E.rt v H'
def tS (X : Cx) (W : WX) (b : DenS) : TS := fun E σ H => ∃ B F α rho h, Rel X.K B F α rho h σ H ∧ PostS X W B E F (b ⟨rho, h⟩)
abbrev JS (X : Cx) (W : WX) (st : Stmt) (b : DenS) : Prop := PS X st (tS X W b)
abbrev JSs (X : Cx) (W : WX) (st : List Stmt) (b : DenS) : Prop := PSs X st (tS X W b)
section
variable {X : Cx} {W : WX} {B : Fx} {E E' : Ends} {F F1 H : Hp} {rho : Ro} {h : Hh} {σ : L2.St} {α : List Addr} {x : Fl}
theorem postS_mono (s : Same F F1) (p : PostS X W B E F x) : PostS X W B E F1 x := by
  cases x with
  | next z => exact fun σ' F' α' H' s' r => p σ' F' α' H' (s.trans s') r
  | cont z => exact fun σ' F' α' H' s' r => p σ' F' α' H' (s.trans s') r
  | ret d h => exact fun v rho' σ' F' α' H' s' r e => p v rho' σ' F' α' H' (s.trans s') r e
  | retR d h => exact fun v rho' σ' F' α' H' s' r e => p v rho' σ' F' α' H' (s.trans s') r e
  | exc c z => exact fun cv σ' F' α' H' s' r e => p cv σ' F' α' H' (s.trans s') r e
  | bad => exact p
/-- an expression, then k -/
theorem postS_of {β : Type} {x : R β} {k : β → Hh → Fl} (p : PostS X W B E F (ofR x rho k)) (hW : ∀ c h', x = .exc c h' → True := fun _ _ _ => trivial) :
    Post X W B σ F rho x fun a F1 α1 H1 => ∃ h1, Rel X.K B F1 α1 rho h1 σ H1 ∧ PostS X W B E F1 (k a h1) := by
  cases x with
  | ok a h' => exact fun F' α' H' s' r' => ⟨h', r', postS_mono s' p⟩
  | exc c h' => exact fun cv F' α' H' s' r' e => p cv σ F' α' H' s' r' e
  | bad => exact p
theorem postS_seq {k : S → Fl} (p : PostS X W B E F (x.seq k)) :
    PostS X W B { E with nx := fun σ' H' => ∃ F1 α1 s, Same F F1 ∧ Rel X.K B F1 α1 s.rho s.h σ' H' ∧ PostS X W B E F1 (k s) } F x := by
  cases x with
  | next z => exact fun σ' F' α' H' s' r => ⟨F', α', z, s', r, postS_mono s' p⟩
  | cont z => exact p
  | ret d h => exact p
  | retR d h => exact p
  | exc c z => exact p
  | bad => exact p
theorem js_cons {st : Stmt} {rest : List Stmt} {a b : DenS} (h1 : JS X W st a) (h2 : JSs X W rest b) : JSs X W (st :: rest) (sSeq a b) := by
  refine pss_mono (pss_cons h1 h2) fun E σ H ⟨B, F, α, rho, h, r, p⟩ => ?_
  unfold tSeq
  refine ⟨B, F, α, rho, h, r, ?_⟩
  have q := postS_seq p
  cases w : a ⟨rho, h⟩ with
  | next z =>
    rw [w] at q
    exact fun σ' F' α' H' s' r' => by
      obtain ⟨F1, α1, s1, _, r1, p1⟩ := q σ' F' α' H' s' r'
      exact ⟨B, F1, α1, s1.rho, s1.h, r1, p1⟩
  | cont z => rw [w] at q; exact q
  | ret d h => rw [w] at q; exact q
  | retR d h => rw [w] at q; exact q
  | exc c z => rw [w] at q; exact q
  | bad => rw [w] at q; exact q
theorem js_one {st : Stmt} {a : DenS} (h1 : JS X W st a) : JSs X W [st] a := pss_one h1
theorem js_nil' : JSs X W [] sNop := pss_mono pss_nil fun E σ H ⟨B, F, α, rho, h, r, p⟩ => p σ F α H same_refl r
theorem js_ret {e : Expr} {pos : Pos} {f : Den} (he : JE X W e f) : JS X W (.Return (some e) pos) (sRet f) := by
  refine ps_mono (ps_ret he) fun E σ H ⟨B, F, α, rho, h, r, p⟩ => ⟨B, F, α, rho, h, r, ?_⟩
  exact post_imp (postS_of p) fun d F1 α1 H1 s1 ⟨h1, r1, p1⟩ v hv => p1 v rho σ F1 α1 H1 same_refl r1 hv
theorem js_if {c : Expr} {a b : List Stmt} {pos : Pos} {t : DenT} {f g : DenS} (hc : JT X W c t) (ha : JSs X W a f) (hb : JSs X W b g) : JS X W (.If c a b pos) (sIf t f g) := by
  refine ps_mono (ps_if hc ha hb) fun E σ H ⟨B, F, α, rho, h, r, p⟩ => ⟨B, F, α, rho, h, r, ?_⟩
  refine post_imp (postS_of p) fun d F1 α1 H1 s1 ⟨h1, r1, p1⟩ => ?_
  cases d with
  | true => exact ⟨B, F1, α1, rho, h1, r1, p1⟩
  | false => exact ⟨B, F1, α1, rho, h1, r1, p1⟩
theorem js_expr {e : Expr} {pos : Pos} {f : Den} (he : JE X W e f) (hs : swapsWith e none pos.line X.env = pure false) : JS X W (.Expr e pos) (sExpr f) := by
  refine ps_mono (ps_expr he hs) fun E σ H ⟨B, F, α, rho, h, r, p⟩ => ⟨B, F, α, rho, h, r, ?_⟩
  exact post_imp (postS_of p) fun d F1 α1 H1 s1 ⟨h1, r1, p1⟩ v hv => p1 σ F1 α1 H1 same_refl r1
theorem js_pass {pos : Pos} : JS X W (.Pass pos) sNop := ps_mono ps_pass fun E σ H ⟨B, F, α, rho, h, r, p⟩ => p σ F α H same_refl r
theorem js_continue {pos : Pos} : JS X W (.Continue pos) sCont := ps_mono ps_continue fun E σ H ⟨B, F, α, rho, h, r, p⟩ => p σ F α H same_refl r
/-! ### stores -/
theorem Rel.set {i : Nat} {sl : Slot} {v : V} (r : Rel X.K B F α rho h σ H) (hs : SlotOk X.K B F α H sl (some v)) (hkp : ∀ p, IsOwn sl → v = .ref p → B.kp p = none) (ho : ∀ p, IsOwn sl → v = .ref p → ∀ (j : Nat) (sj : Slot), j ≠ i → rho[j]? = some sj → IsOwn sj → σ[j]? ≠ some (some (.ref p))) (hin : ∀ p, IsOwn sl → v = .ref p → p ∉ innA H α) : Rel X.K B F α (rho.set i sl) h (σ.set i (some v)) H := by
  refine ⟨r.sub, r.new, r.fr, r.pre, r.a0, r.nd, by rw [List.length_set, List.length_set]; exact r.len, fun j sj e => ?_, fun j k sj sk p hjk e1 e2 o1 o2 e3 e4 => ?_, fun b u e => ?_, r.hl, r.heap, r.io, r.df, fun q hq => ?_⟩
  · by_cases hj : i = j
    · subst hj
      by_cases hl : i < rho.length
      · rw [List.getElem?_set_self hl] at e
        cases e
        rw [List.getElem?_set_self (by rw [← r.len]; exact hl)]
        exact hs
      · rw [List.getElem?_eq_none (by rw [List.length_set]; omega)] at e
        cases e
    · rw [List.getElem?_set_ne hj] at e ⊢
      exact r.slot j sj e
  · have lt : ∀ {j : Nat} {s : Slot}, (rho.set i sl)[j]? = some s → j < rho.length := fun {j s} e => by
      have := (List.getElem?_eq_some_iff.mp e).1
      rwa [List.length_set] at this
    by_cases hj : i = j
    · subst hj
      have hk : i ≠ k := hjk
      have hl := lt e1
      rw [List.getElem?_set_self hl] at e1
      cases e1
      rw [List.getElem?_set_self (by rw [← r.len]; exact hl)] at e3
      cases e3
      rw [List.getElem?_set_ne hk] at e2 e4
      exact ho p o1 rfl k sk (Ne.symm hk) e2 o2 e4
    · rw [List.getElem?_set_ne hj] at e1 e3
      by_cases hk : i = k
      · subst hk
        have hl := lt e2
        rw [List.getElem?_set_self hl] at e2
        cases e2
        rw [List.getElem?_set_self (by rw [← r.len]; exact hl)] at e4
        cases e4
        exact ho p o2 rfl j sj (Ne.symm hj) e1 o1 e3
      · rw [List.getElem?_set_ne hk] at e2 e4
        exact r.sep j k sj sk p hjk e1 e2 o1 o2 e3 e4
  · obtain ⟨h1, h2, h3, h4, h5⟩ := r.kp b u e
    refine ⟨h1, h2, h3, h4, fun j sj e1 o1 e3 => ?_⟩
    by_cases hj : i = j
    · subst hj
      have hl : i < rho.length := by
        have := (List.getElem?_eq_some_iff.mp e1).1
        rwa [List.length_set] at this
      rw [List.getElem?_set_self hl] at e1
      cases e1
      rw [List.getElem?_set_self (by rw [← r.len]; exact hl)] at e3
      cases e3
      rw [hkp b o1 rfl] at e; cases e
    · rw [List.getElem?_set_ne hj] at e1 e3
      exact h5 j sj e1 o1 e3
  · obtain ⟨k1, k2, k3⟩ := r.ii q hq
    refine ⟨k1, k2, fun j sj e1 o1 e3 => ?_⟩
    by_cases hj : i = j
    · subst hj
      have hl : i < rho.length := by
        have := (List.getElem?_eq_some_iff.mp e1).1
        rwa [List.length_set] at this
      rw [List.getElem?_set_self hl] at e1
      cases e1
      rw [List.getElem?_set_self (by rw [← r.len]; exact hl)] at e3
      cases e3
      exact hin q o1 rfl hq
    · rw [List.getElem?_set_ne hj] at e1 e3
      exact k3 j sj e1 o1 e3
theorem Rel.setVal {i : Nat} {d : D} {v : V} (r : Rel X.K B F α rho h σ H) (hv : Rp X.K F v d) : Rel X.K B F α (rho.set i (.val d)) h (σ.set i (some v)) H := r.set ⟨v, rfl, hv⟩ (fun _ o => o.elim) (fun _ o => o.elim) fun _ o => o.elim
theorem js_asg {i : Nat} {x : Str} {e : Expr} {pos pos' : Pos} {f : Den} (hN : X.N.Nodup) (hi : X.N[i]? = some x) (hx : Loc X.env.scope x) (he : JE X W e f) (hs : swapsWith e (some (.Name x pos')) pos.line X.env = pure false) (hf : X.fn x = true ∨ X.env.scope.names.lookup x = some .local) :
    JS X W (.Assign [.Name x pos'] e pos) (sAsg (.name i) f) := by
  refine ps_mono (ps_set hN hi hx he hs hf) fun E σ H ⟨B, F, α, rho, h, r, p⟩ => ⟨B, F, α, rho, h, r, ?_⟩
  exact post_imp (postS_of p) fun d F1 α1 H1 s1 ⟨h1, r1, p1⟩ v hv => p1 _ F1 α1 H1 same_refl (r1.setVal hv)
/-- a new list becomes x's own -/
theorem Rel.setOwn {i : Nat} {ds : List D} {vs : List V} {p : Addr} (r : Rel X.K B F α rho h σ H) (f : Fresh B F α rho σ H p) (hp : H p = some (.lst vs)) (hv : RpL X.K F vs ds) : Rel X.K B F α (rho.set i (.own ds)) h (σ.set i (some (.ref p))) H :=
  r.set ⟨p, vs, rfl, f.h0, f.a, f.f, hp, hv⟩ (fun q _ e => by cases e; exact f.k) (fun q _ e j sj _ e1 o1 => by cases e; exact f.o j sj e1 o1) fun q _ e => by cases e; exact f.i
theorem Rel.setOwnD {i : Nat} {kvs : List (D × D)} {o : Obj} {xs : List DEnt} {p : Addr} (r : Rel X.K B F α rho h σ H) (f : Fresh B F α rho σ H p) (hp : H p = some (pinO p o)) (k : DOk p o xs) (hv : RpKv X.K F xs kvs) : Rel X.K B F α (rho.set i (.ownd kvs)) h (σ.set i (some (.ref p))) H :=
  r.set ⟨p, rfl, f.h0, f.a, f.f, o, xs, hp, k, hv⟩ (fun q _ e => by cases e; exact f.k) (fun q _ e j sj _ e1 o1 => by cases e; exact f.o j sj e1 o1) fun q _ e => by cases e; exact f.i
theorem Rel.shareG {ob : Ob} {p : Addr} (r : Rel X.K B F α rho h σ H) (f : Fresh B F α rho σ H p) (hob : ObOk X.K F H p ob) (hnd : (inn H p).Nodup) (hin : ∀ q ∈ inn H p, (q ∉ innA H α ∧ q ∉ α ∧ F q = none ∧ q ≠ p ∧ ∃ o, H q = some o) ∧ B.kp q = none ∧ (q ∈ B.in0 ∨ B.H0 q = none) ∧ ∀ (i : Nat) (sl : Slot), rho[i]? = some sl → IsOwn sl → σ[i]? ≠ some (some (.ref q))) : Rel X.K B F (α ++ [p]) rho (h ++ [ob]) σ H := by
  have ei : innA H (α ++ [p]) = innA H α ++ inn H p := by rw [innA_app]; simp [innA]
  have up : ∀ {n : Nat} {q : Addr}, α[n]? = some q → (α ++ [p])[n]? = some q := fun {n q} e => by
    rw [List.getElem?_append_left (List.getElem?_eq_some_iff.mp e).1]; exact e
  refine ⟨r.sub, r.new, r.fr, ?_, r.a0, ?_, r.len, fun j sj e => ?_, r.sep, fun b o e => ?_, by rw [List.length_append, List.length_append, r.hl]; rfl, fun n q o e1 e2 => ?_, ⟨?_, fun q hq => ?_, fun q hq => ?_, fun q hq => ?_⟩, r.df, fun q hq => ?_⟩
  · obtain ⟨t, ea, ht, t', et⟩ := r.pre
    refine ⟨t ++ [p], by rw [ea, List.append_assoc], fun q hq => ?_, t' ++ [p], by rw [et, List.append_assoc]⟩
    rcases List.mem_append.mp hq with z | z
    · exact ht q z
    · simp only [List.mem_singleton] at z; rw [z]; exact f.h0
  · rw [List.nodup_append]
    refine ⟨r.nd, by simp, fun q hq q' hq' => ?_⟩
    simp only [List.mem_singleton] at hq'
    rw [hq']
    exact fun z => f.a (z ▸ hq)
  · have q := r.slot j sj e
    cases sj with
    | own ds' =>
      obtain ⟨p', vs', e1, e0, na, h1, h2, h3⟩ := q
      refine ⟨p', vs', e1, e0, fun hm => ?_, h1, h2, h3⟩
      rcases List.mem_append.mp hm with z | z
      · exact na z
      · simp only [List.mem_singleton] at z
        subst z
        exact f.o j _ e trivial (jn e1)
    | ownd kvs' =>
      obtain ⟨p', e1, e0, na, h1, h2⟩ := q
      refine ⟨p', e1, e0, fun hm => ?_, h1, h2⟩
      rcases List.mem_append.mp hm with z | z
      · exact na z
      · simp only [List.mem_singleton] at z
        subst z
        exact f.o j _ e trivial (jn e1)
    | refs ns' =>
      obtain ⟨p', vs', e1, e0, na, h1, h2, h3, h4⟩ := q
      refine ⟨p', vs', e1, e0, fun hm => ?_, h1, h2, L2.Paired.mapP h3 fun v n ⟨q, w1, w2, w3⟩ => ⟨q, w1, up w2, w3⟩, h4⟩
      rcases List.mem_append.mp hm with z | z
      · exact na z
      · simp only [List.mem_singleton] at z
        subst z
        exact f.o j _ e trivial (jn e1)
    | ref n => obtain ⟨q, e1, e2⟩ := q; exact ⟨q, e1, up e2⟩
    | _ => exact q
  · obtain ⟨h1, h2, h3, h4⟩ := r.kp b o e
    refine ⟨h1, h2, fun hm => ?_, h4⟩
    rcases List.mem_append.mp hm with z | z
    · exact h3 z
    · simp only [List.mem_singleton] at z
      subst z
      rw [f.k] at e; cases e
  · by_cases hn : n < α.length
    · rw [List.getElem?_append_left hn] at e1
      rw [List.getElem?_append_left (by rw [← r.hl]; exact hn)] at e2
      exact r.heap n q o e1 e2
    · have hn2 : n = α.length := by
        have := (List.getElem?_eq_some_iff.mp e1).1
        rw [List.length_append] at this
        simp at this
        omega
      subst hn2
      rw [List.getElem?_append_right (Nat.le_refl _)] at e1
      rw [r.hl, List.getElem?_append_right (Nat.le_refl _)] at e2
      simp at e1 e2
      subst e1 e2
      exact hob
  · rw [ei, List.nodup_append]
    exact ⟨r.io.nd, hnd, fun q hq q' hq' z => (hin q' hq').1.1 (z ▸ hq)⟩
  · rw [ei] at hq
    intro hm
    rcases List.mem_append.mp hm with w | w
    · rcases List.mem_append.mp hq with z | z
      · exact r.io.na q z w
      · exact (hin q z).1.2.1 w
    · simp only [List.mem_singleton] at w
      rcases List.mem_append.mp hq with z | z
      · exact f.i (w ▸ z)
      · exact (hin q z).1.2.2.2.1 w
  · rw [ei] at hq
    rcases List.mem_append.mp hq with z | z
    · exact r.io.f q z
    · exact (hin q z).1.2.2.1
  · rw [ei] at hq
    rcases List.mem_append.mp hq with z | z
    · exact r.io.h q z
    · exact (hin q z).1.2.2.2.2
  · rw [ei] at hq
    rcases List.mem_append.mp hq with z | z
    · exact r.ii q z
    · exact (hin q z).2
theorem Rel.shareO {ob : Ob} {p : Addr} (r : Rel X.K B F α rho h σ H) (f : Fresh B F α rho σ H p) (hob : ObOk X.K F H p ob) (hnd : (inn H p).Nodup) (hin : ∀ q ∈ inn H p, Fresh B F α rho σ H q ∧ q ≠ p ∧ ∃ o, H q = some o) : Rel X.K B F (α ++ [p]) rho (h ++ [ob]) σ H :=
  r.shareG f hob hnd fun q hq => by
    obtain ⟨g, n, e⟩ := hin q hq
    exact ⟨⟨g.i, g.a, g.f, n, e⟩, g.k, .inr g.h0, g.o⟩
theorem Rel.shareN {ob : Ob} {p : Addr} (r : Rel X.K B F α rho h σ H) (f : Fresh B F α rho σ H p) (hob : ObOk X.K F H p ob) (hn : notIns (H p) = true) : Rel X.K B F (α ++ [p]) rho (h ++ [ob]) σ H :=
  r.shareO f hob (by rw [inn_no hn]; simp) (by rw [inn_no hn]; simp)
theorem Rel.share {ds : List D} {vs : List V} {p : Addr} (r : Rel X.K B F α rho h σ H) (f : Fresh B F α rho σ H p) (hp : H p = some (.lst vs)) (hv : RpL X.K F vs ds) : Rel X.K B F (α ++ [p]) rho (h ++ [.lst ds]) σ H := r.shareN f ⟨f.f, vs, hp, hv⟩ (by rw [hp]; rfl)
theorem Rel.setShare {i : Nat} {ds : List D} {vs : List V} {p : Addr} (r : Rel X.K B F α rho h σ H) (f : Fresh B F α rho σ H p) (hp : H p = some (.lst vs)) (hv : RpL X.K F vs ds) : Rel X.K B F (α ++ [p]) (rho.set i (.ref h.length)) (h ++ [.lst ds]) (σ.set i (some (.ref p))) H := by
  have r1 := r.share f hp hv
  refine r1.set ⟨p, rfl, ?_⟩ (fun _ o => o.elim) (fun _ o => o.elim) fun _ o => o.elim
  rw [← r.hl, List.getElem?_append_right (Nat.le_refl _)]
  simp
theorem js_own {i : Nat} {x : Str} {e : Expr} {pos pos' : Pos} {l : DenL} (hN : X.N.Nodup) (hi : X.N[i]? = some x) (hx : Loc X.env.scope x) (he : JL X W e l) (hs : swapsWith e (some (.Name x pos')) pos.line X.env = pure false) (hf : X.fn x = true ∨ X.env.scope.names.lookup x = some .local) :
    JS X W (.Assign [.Name x pos'] e pos) (sOwn i l) := by
  refine ps_mono (ps_set hN hi hx he hs hf) fun E σ H ⟨B, F, α, rho, h, r, p⟩ => ⟨B, F, α, rho, h, r, ?_⟩
  exact post_imp (postS_of p) fun ds F1 α1 H1 s1 ⟨h1, r1, p1⟩ q vs fr hq hv => p1 _ F1 α1 H1 same_refl (r1.setOwn fr hq hv)
theorem js_share {i : Nat} {x : Str} {e : Expr} {pos pos' : Pos} {l : DenL} (hN : X.N.Nodup) (hi : X.N[i]? = some x) (hx : Loc X.env.scope x) (he : JL X W e l) (hs : swapsWith e (some (.Name x pos')) pos.line X.env = pure false) (hf : X.fn x = true ∨ X.env.scope.names.lookup x = some .local) :
    JS X W (.Assign [.Name x pos'] e pos) (sShare i l) := by
  refine ps_mono (ps_set hN hi hx he hs hf) fun E σ H ⟨B, F, α, rho, h, r, p⟩ => ⟨B, F, α, rho, h, r, ?_⟩
  exact post_imp (postS_of p) fun ds F1 α1 H1 s1 ⟨h1, r1, p1⟩ q vs fr hq hv => p1 _ F1 (α1 ++ [q]) H1 same_refl (r1.setShare fr hq hv)
/-! ### targets -/
/-- the same but at some places -/
def Off {β : Type} (vs : List Nat) (σ σ' : List β) : Prop := σ'.length = σ.length ∧ ∀ i, i ∉ vs → σ'[i]? = σ[i]?
theorem Off.refl {β : Type} {vs : List Nat} {σ : List β} : Off vs σ σ := ⟨rfl, fun _ _ => rfl⟩
theorem Off.set {β : Type} {i : Nat} {x : β} {σ : List β} : Off [i] σ (σ.set i x) := ⟨List.length_set, fun j hj => by
  rw [List.getElem?_set_ne]
  simp only [List.mem_singleton] at hj
  exact fun z => hj z.symm⟩
theorem Off.app {β : Type} {vs ws : List Nat} {σ σ1 σ2 : List β} (a : Off vs σ σ1) (b : Off ws σ1 σ2) : Off (vs ++ ws) σ σ2 := ⟨b.1.trans a.1, fun i hi => by
  rw [b.2 i (fun z => hi (List.mem_append_right _ z)), a.2 i (fun z => hi (List.mem_append_left _ z))]⟩
def gT (K : PySem.W.Frag) (t : Tgt) : TG := fun v σ H Q => ∃ B F α rho h d rho', Rel K B F α rho h σ H ∧ Rp K F v d ∧ t.put d rho = some rho' ∧ ∀ σ', Off t.slots σ σ' → Rel K B F α rho' h σ' H → Q σ' H
def gTs (K : PySem.W.Frag) (ts : List Tgt) : TGs := fun vs σ H Q => ∃ B F α rho h ds rho', Rel K B F α rho h σ H ∧ RpAll K F vs ds ∧ putAll ts ds rho = some rho' ∧ ∀ σ', Off (slotsAll ts) σ σ' → Rel K B F α rho' h σ' H → Q σ' H
abbrev JG (X : Cx) (e : Expr) (t : Tgt) : Prop := PG X e (gT X.K t)
abbrev JGs (X : Cx) (es : List Expr) (ts : List Tgt) : Prop := PGs X es (gTs X.K ts)
theorem pg_mono {e : Expr} {t t' : TG} (q : PG X e t) (m : ∀ v σ H Q, t' v σ H Q → t v σ H Q) : PG X e t' := ⟨fun pins s σ H v u Q I rv z => q.run pins s σ H v u Q I rv (m v σ H Q z)⟩
theorem pgs_mono {es : List Expr} {t t' : TGs} (q : PGs X es t) (m : ∀ v σ H Q, t' v σ H Q → t v σ H Q) : PGs X es t' := ⟨fun pins s σ H v u Q I rv z => q.run pins s σ H v u Q I rv (m v σ H Q z)⟩
theorem jg_name {i : Nat} {x : Str} {pos : Pos} (hN : X.N.Nodup) (hi : X.N[i]? = some x) (hx : Loc X.env.scope x) (hf : X.fn x = true ∨ X.env.scope.names.lookup x = some .local) : JG X (.Name x pos) (.name i) := by
  refine pg_mono (pg_name hN hi hx hf) fun v σ H Q ⟨B, F, α, rho, h, d, rho', r, rv, e, q⟩ => ?_
  unfold Tgt.put at e
  cases e
  exact q _ (by unfold Tgt.slots; exact Off.set) (r.setVal rv)
theorem each_len {env : Env} : ∀ {es : List Expr}, (assignEach es env).length = es.length
  | [] => rfl
  | e :: es => by
    have ih := each_len (env := env) (es := es)
    cases e <;> (unfold assignEach; rw [List.length_cons, List.length_cons, ih])
theorem each_cons {env : Env} {e : Expr} {es : List Expr} (hs : isStar e = false) : assignEach (e :: es) env = (false, assign e env) :: assignEach es env := by
  cases e <;> first | rfl | cases hs
theorem each_none {env : Env} : ∀ {es : List Expr}, (es.all fun e => !isStar e) = true → (assignEach es env).findIdx? (·.1) = none
  | [], _ => rfl
  | e :: es, h => by
    simp only [List.all_cons, Bool.and_eq_true, Bool.not_eq_true'] at h
    rw [each_cons h.1, List.findIdx?_cons]
    simp [each_none (env := env) h.2]
theorem jgs_nil : JGs X [] [] := by
  refine pgs_mono pgs_nil fun vs σ H Q ⟨B, F, α, rho, h, ds, rho', r, rv, e, q⟩ => ?_
  cases ds with
  | nil => cases rv; unfold putAll at e; cases e; exact ⟨rfl, q σ .refl r⟩
  | cons d ds => unfold putAll at e; cases e
theorem jgs_cons {e : Expr} {es : List Expr} {t : Tgt} {ts : List Tgt} (hs : isStar e = false) (h1 : JG X e t) (h2 : JGs X es ts) : JGs X (e :: es) (t :: ts) := by
  refine pgs_mono (pgs_cons h1 h2 (by rw [each_cons hs]; rfl)) fun vs σ H Q ⟨B, F, α, rho, h, ds, rho', r, rv, e, q⟩ => ?_
  cases ds with
  | nil => unfold putAll at e; cases e
  | cons d ds =>
    cases rv with
    | cons rv1 rv2 =>
      unfold putAll at e
      cases w : t.put d rho with
      | none => rw [w] at e; cases e
      | some rho1 =>
        rw [w] at e
        exact ⟨_, _, rfl, B, F, α, rho, h, d, rho1, r, rv1, w, fun σ1 o1 r1 => ⟨B, F, α, rho1, h, ds, rho', r1, rv2, e, fun σ2 o2 r2 => q σ2 (by unfold slotsAll; exact o1.app o2) r2⟩⟩
theorem putAll_len : ∀ {ts : List Tgt} {ds : List D} {rho rho' : Ro}, putAll ts ds rho = some rho' → ds.length = ts.length
  | [], [], _, _, _ => rfl
  | [], _ :: _, _, _, e => by unfold putAll at e; cases e
  | _ :: _, [], _, _, e => by unfold putAll at e; cases e
  | t :: ts, d :: ds, rho, rho', e => by
    unfold putAll at e
    cases w : t.put d rho with
    | none => rw [w] at e; cases e
    | some rho1 => rw [w] at e; rw [List.length_cons, List.length_cons, putAll_len e]
theorem pg_or {e : Expr} {t t' : TG} (q : PG X e t) (q' : PG X e t') : PG X e (fun v σ H Q => t v σ H Q ∨ t' v σ H Q) := ⟨fun pins s σ H v u Q I rv z => z.elim (fun z => q.run pins s σ H v u Q I rv z) fun z => q'.run pins s σ H v u Q I rv z⟩
theorem jg_tup {es : List Expr} {ts : List Tgt} {k : Nat} {pos : Pos} (hc : X.calm = true) (hs : (es.all fun e => !isStar e) = true) (hl : es.length = ts.length) (h : JGs X es ts) : JG X (.Tuple es k pos) (.tup ts) := by
  refine pg_mono (pg_or (pg_tup (n := es.length) hc h each_len (each_none hs)) (pg_unl (n := es.length) hc h each_len (each_none hs))) fun v σ H Q ⟨B, F, α, rho, h, d, rho', r, rv, e, q⟩ => ?_
  cases d with
  | tuple ds =>
    unfold Tgt.put at e
    cases rv with
    | tup h1 r1 =>
      have len : ds.length = ts.length := putAll_len e
      exact .inl ⟨_, _, rfl, Same.seqT r.sub h1, by rw [r1.length, hl, len], B, F, α, rho, h, ds, rho', r, r1, e, fun σ' o r' => q σ' (by unfold Tgt.slots; exact o) r'⟩
  | list ds =>
    unfold Tgt.put at e
    cases rv with
    | lst h1 r1 =>
      have len : ds.length = ts.length := putAll_len e
      exact .inr ⟨_, _, rfl, .inl (Same.rd r.sub h1), by rw [r1.length, hl, len], B, F, α, rho, h, ds, rho', r, r1, e, fun σ' o r' => q σ' (by unfold Tgt.slots; exact o) r'⟩
  | _ => unfold Tgt.put at e; cases e
theorem js_asgT {es : List Expr} {ts : List Tgt} {k : Nat} {e : Expr} {pos tpos : Pos} {f : Den} (hg : JG X (.Tuple es k tpos) (.tup ts)) (he : JE X W e f) (hs : swapsWithSole [.Tuple es k tpos] e pos.line X.env = pure false) (hw : swappedStores [.Tuple es k tpos] e X.env = pure none) :
    JS X W (.Assign [.Tuple es k tpos] e pos) (sAsg (.tup ts) f) := by
  refine ps_mono (ps_asg he hg hs hw rfl) fun E σ H ⟨B, F, α, rho, h, r, p⟩ => ⟨B, F, α, rho, h, r, ?_⟩
  refine post_imp (postS_of p) fun d F1 α1 H1 s1 ⟨h1, r1, p1⟩ v hv => ?_
  cases w : (Tgt.tup ts).put d rho with
  | none => rw [w] at p1; exact p1.elim
  | some rho' =>
    rw [w] at p1
    exact ⟨B, F1, α1, rho, h1, d, rho', r1, hv, w, fun σ' _ r' => p1 σ' F1 α1 H1 same_refl r'⟩
end
end Ev
/-! # Ev7: several stores at once; append, extend; what is given away; raise -/
namespace Ev
open PySem PySem.Spec PyProof.Rows L2
def PVsOk (K : PySem.W.Frag) (B : Fx) (F : Hp) (α : List Addr) (rho : Ro) (σ : L2.St) (H : Hp) : List Addr → List V → List PV → Prop
  | _, [], [] => True
  | av, v :: vs, .val d :: r => Rp K F v d ∧ PVsOk K B F α rho σ H av vs r
  | av, v :: vs, .own ds :: r => ∃ p us, v = .ref p ∧ p ∉ av ∧ Fresh B F α rho σ H p ∧ H p = some (.lst us) ∧ RpL K F us ds ∧ PVsOk K B F α rho σ H (p :: av) vs r
  | av, v :: vs, .shr ds :: r => ∃ p us, v = .ref p ∧ p ∉ av ∧ Fresh B F α rho σ H p ∧ H p = some (.lst us) ∧ RpL K F us ds ∧ PVsOk K B F α rho σ H (p :: av) vs r
  | av, v :: vs, .dic kvs :: r => ∃ p o xs, v = .ref p ∧ p ∉ av ∧ Fresh B F α rho σ H p ∧ H p = some (pinO p o) ∧ (DOk p o xs ∧ RpKv K F xs kvs) ∧ PVsOk K B F α rho σ H (p :: av) vs r
  | av, v :: vs, .obj n :: r => (∃ p, v = .ref p ∧ α[n]? = some p) ∧ PVsOk K B F α rho σ H av vs r
  | _, [], _ :: _ => False
  | _, _ :: _, [] => False
section
variable {K : PySem.W.Frag} {B B' : Fx} {F F' H H' : Hp} {α α' : List Addr} {rho rho' : Ro} {h h' : Hh} {σ σ' : L2.St}
theorem PVsOk.imp {av' : List Addr} : ∀ {pvs : List PV} {vs : List V} {av : List Addr}, PVsOk K B F α rho σ H av vs pvs → (∀ q, q ∉ av → Fresh B F α rho σ H q → Fresh B' F α' rho' σ' H q ∧ q ∉ av') → (∀ (n : Nat) (q : Addr), α[n]? = some q → α'[n]? = some q) → ∀ {av2 : List Addr}, (∀ q, q ∈ av2 → q ∈ av ∨ q ∈ av') → PVsOk K B' F α' rho' σ' H av2 vs pvs
  | [], [], _, _, _, _, _, _ => trivial
  | [], _ :: _, _, z, _, _, _, _ => z.elim
  | .val d :: r, [], _, z, _, _, _, _ => z.elim
  | .own d :: r, [], _, z, _, _, _, _ => z.elim
  | .shr d :: r, [], _, z, _, _, _, _ => z.elim
  | .dic d :: r, [], _, z, _, _, _, _ => z.elim
  | .obj d :: r, [], _, z, _, _, _, _ => z.elim
  | .val d :: r, v :: vs, av, z, m, hα, av2, h2 => ⟨z.1, PVsOk.imp z.2 m hα h2⟩
  | .obj n :: r, v :: vs, av, ⟨⟨p, e, ea⟩, t⟩, m, hα, av2, h2 => ⟨⟨p, e, hα n p ea⟩, PVsOk.imp t m hα h2⟩
  | .own d :: r, v :: vs, av, ⟨p, us, e, na, fr, hp, rp, t⟩, m, hα, av2, h2 => by
    refine ⟨p, us, e, fun hm => ?_, (m p na fr).1, hp, rp, PVsOk.imp (av := p :: av) t (fun q hq fq => m q (fun z => hq (List.mem_cons_of_mem _ z)) fq) hα fun q hq => ?_⟩
    · rcases h2 p hm with z | z
      · exact na z
      · exact (m p na fr).2 z
    · rcases List.mem_cons.mp hq with z | z
      · exact .inl (z ▸ List.mem_cons_self)
      · rcases h2 q z with y | y
        · exact .inl (List.mem_cons_of_mem _ y)
        · exact .inr y
  | .shr d :: r, v :: vs, av, ⟨p, us, e, na, fr, hp, rp, t⟩, m, hα, av2, h2 => by
    refine ⟨p, us, e, fun hm => ?_, (m p na fr).1, hp, rp, PVsOk.imp (av := p :: av) t (fun q hq fq => m q (fun z => hq (List.mem_cons_of_mem _ z)) fq) hα fun q hq => ?_⟩
    · rcases h2 p hm with z | z
      · exact na z
      · exact (m p na fr).2 z
    · rcases List.mem_cons.mp hq with z | z
      · exact .inl (z ▸ List.mem_cons_self)
      · rcases h2 q z with y | y
        · exact .inl (List.mem_cons_of_mem _ y)
        · exact .inr y
  | .dic d :: r, v :: vs, av, ⟨p, o, xs, e, na, fr, hp, rp, t⟩, m, hα, av2, h2 => by
    refine ⟨p, o, xs, e, fun hm => ?_, (m p na fr).1, hp, rp, PVsOk.imp (av := p :: av) t (fun q hq fq => m q (fun z => hq (List.mem_cons_of_mem _ z)) fq) hα fun q hq => ?_⟩
    · rcases h2 p hm with z | z
      · exact na z
      · exact (m p na fr).2 z
    · rcases List.mem_cons.mp hq with z | z
      · exact .inl (z ▸ List.mem_cons_self)
      · rcases h2 q z with y | y
        · exact .inl (List.mem_cons_of_mem _ y)
        · exact .inr y
theorem Fresh.setNo {p : Addr} {i : Nat} {sl : Slot} {v : V} (hl : rho.length = σ.length) (f : Fresh B F α rho σ H p) (h : IsOwn sl → v ≠ .ref p) : Fresh B F α (rho.set i sl) (σ.set i (some v)) H p := by
  refine ⟨f.h0, f.a, f.f, f.k, fun j sj e1 o1 e3 => ?_, f.i⟩
  by_cases hj : i = j
  · subst hj
    have hlt : i < rho.length := by
      have := (List.getElem?_eq_some_iff.mp e1).1
      rwa [List.length_set] at this
    rw [List.getElem?_set_self hlt] at e1
    cases e1
    rw [List.getElem?_set_self (by rw [← hl]; exact hlt)] at e3
    cases e3
    exact h o1 rfl
  · rw [List.getElem?_set_ne hj] at e1 e3
    exact f.o j sj e1 o1 e3
end
section
variable {X : Cx} {W : WX}
def setV : L2.St → List Nat → List V → L2.St
  | σ, [], _ => σ
  | σ, _ :: _, [] => σ
  | σ, i :: is, v :: vs => setV (σ.set i (some v)) is vs
theorem Rel.store {B : Fx} {F H : Hp} : ∀ {is : List Nat} {vs : List V} {pvs : List PV} {av α : List Addr} {s s' : S} {σ : L2.St}, Rel X.K B F α s.rho s.h σ H → PVsOk X.K B F α s.rho σ H av vs pvs → putPV is pvs s = some s' → ∃ α', Rel X.K B F α' s'.rho s'.h (setV σ is vs) H
  | [], vs, [], av, α, s, s', σ, r, z, e => by cases e; exact ⟨α, r⟩
  | [], vs, _ :: _, av, α, s, s', σ, r, z, e => by cases e
  | i :: is, vs, [], av, α, s, s', σ, r, z, e => by cases e
  | i :: is, [], .val d :: _, av, α, s, s', σ, r, z, e => z.elim
  | i :: is, [], .own d :: _, av, α, s, s', σ, r, z, e => z.elim
  | i :: is, [], .shr d :: _, av, α, s, s', σ, r, z, e => z.elim
  | i :: is, [], .dic d :: _, av, α, s, s', σ, r, z, e => z.elim
  | i :: is, [], .obj d :: _, av, α, s, s', σ, r, z, e => z.elim
  | i :: is, v :: vs, .val d :: pvs, av, α, s, s', σ, r, z, e => by
    refine Rel.store (is := is) (s := ⟨s.rho.set i (.val d), s.h⟩) (av := av) (σ := σ.set i (some v)) (r.setVal z.1) ?_ e
    exact PVsOk.imp (av' := []) z.2 (fun q _ f => ⟨f.setNo (sl := .val d) r.len fun o => o.elim, by simp⟩) (fun _ _ e => e) fun q hq => .inl hq
  | i :: is, v :: vs, .own ds :: pvs, av, α, s, s', σ, r, ⟨p, us, ev, na, fr, hp, rp, t⟩, e => by
    subst ev
    refine Rel.store (is := is) (s := ⟨s.rho.set i (.own ds), s.h⟩) (av := p :: av) (σ := σ.set i (some (.ref p))) (r.setOwn fr hp rp) ?_ e
    exact PVsOk.imp (av' := []) t (fun q hq f => ⟨f.setNo r.len fun _ z => hq (by cases z; exact List.mem_cons_self), by simp⟩) (fun _ _ e => e) fun q hq => .inl hq
  | i :: is, v :: vs, .dic kvs :: pvs, av, α, s, s', σ, r, ⟨p, o, xs, ev, na, fr, hp, rp, t⟩, e => by
    subst ev
    refine Rel.store (is := is) (s := ⟨s.rho.set i (.ownd kvs), s.h⟩) (av := p :: av) (σ := σ.set i (some (.ref p))) (r.setOwnD fr hp rp.1 rp.2) ?_ e
    exact PVsOk.imp (av' := []) t (fun q hq f => ⟨f.setNo r.len fun _ z => hq (by cases z; exact List.mem_cons_self), by simp⟩) (fun _ _ e => e) fun q hq => .inl hq
  | i :: is, v :: vs, .shr ds :: pvs, av, α, s, s', σ, r, ⟨p, us, ev, na, fr, hp, rp, t⟩, e => by
    subst ev
    have e : putPV is pvs ⟨s.rho.set i (.ref s.h.length), s.h ++ [.lst ds]⟩ = some s' := e
    refine Rel.store (is := is) (s := ⟨s.rho.set i (.ref s.h.length), s.h ++ [.lst ds]⟩) (pvs := pvs) (av := p :: av) (σ := σ.set i (some (.ref p))) (r.setShare fr hp rp) ?_ e
    refine PVsOk.imp (av' := []) t (fun q hq f => ?_) (fun n q e => by rw [List.getElem?_append_left (List.getElem?_eq_some_iff.mp e).1]; exact e) fun q hq => .inl hq
    have f2 : Fresh B F α (s.rho.set i (.ref s.h.length)) (σ.set i (some (.ref p))) H q := f.setNo (sl := .ref s.h.length) r.len fun o => o.elim
    refine ⟨⟨f2.h0, fun hm => ?_, f2.f, f2.k, f2.o, fun hm => ?_⟩, by simp⟩
    rotate_left
    · rw [innA_app] at hm
      rcases List.mem_append.mp hm with z | z
      · exact f2.i z
      · rw [show innA H [p] = [] by simp [innA, inn_no (show notIns (H p) = true by rw [hp]; rfl)]] at z; cases z
    rcases List.mem_append.mp hm with z | z
    · exact f2.a z
    · simp only [List.mem_singleton] at z
      exact hq (z ▸ List.mem_cons_self)
  | i :: is, v :: vs, .obj n :: pvs, av, α, s, s', σ, r, ⟨⟨p, ev, ea⟩, t⟩, e => by
    subst ev
    refine Rel.store (is := is) (s := ⟨s.rho.set i (.ref n), s.h⟩) (av := av) (σ := σ.set i (some (.ref p))) (r.set (sl := .ref n) ⟨p, rfl, ea⟩ (fun _ o => o.elim) (fun _ o => o.elim) fun _ o => o.elim) ?_ e
    exact PVsOk.imp (av' := []) t (fun q _ f => ⟨f.setNo (sl := .ref n) r.len fun o => o.elim, by simp⟩) (fun _ _ e => e) fun q hq => .inl hq
def tP (X : Cx) (W : WX) (cs : List PCo) : TA := fun σ H Q => ∃ B F α rho h, Rel X.K B F α rho h σ H ∧ Post X W B σ F rho (parRun cs rho h) fun pvs F' α' H' => ∀ vs, PVsOk X.K B F' α' rho σ H' [] vs pvs → Q vs H'
theorem jp_nil : PA X [] (tP X W []) := pa_mono pa_nil fun σ H Q ⟨B, F, α, rho, h, r, q⟩ => post_ok r q [] trivial
theorem jp_val {e : Expr} {es : List Expr} {f : Den} {cs : List PCo} (hs : isStar e = false) (h : JE X W e f) (hr : PA X es (tP X W cs)) : PA X (e :: es) (tP X W (.val f :: cs)) := by
  refine pa_mono (pa_cons h hr (star_cons hs)) fun σ H Q ⟨B, F, α, rho, h, r, q⟩ => ⟨B, F, α, rho, h, r, ?_⟩
  refine post_imp (post_bind q) fun d F1 α1 H1 s1 ⟨h1, r1, p1⟩ v hv => ⟨B, F1, α1, rho, h1, r1, ?_⟩
  refine post_imp (post_bind p1) fun ds F2 α2 H2 s2 ⟨h2, r2, p2⟩ vs hvs => ?_
  exact post_ok r2 p2 (v :: vs) ⟨rp_mono s2 hv, hvs⟩
/-- with one more thing that is kept -/
def Fx.keep (B : Fx) (p : Addr) (o : HO) : Fx := { B with kp := upd B.kp p o }
theorem Rel.keep {B : Fx} {F H : Hp} {α : List Addr} {rho : Ro} {h : Hh} {σ : L2.St} {p : Addr} {o : HO} (r : Rel X.K B F α rho h σ H) (f : Fresh B F α rho σ H p) (hp : H p = some o) : Rel X.K (B.keep p o) F α rho h σ H := by
  refine ⟨r.sub, r.new, r.fr, r.pre, r.a0, r.nd, r.len, r.slot, r.sep, fun b u e => ?_, r.hl, r.heap, r.io, r.df, fun q hq => ⟨by show upd B.kp p o q = none; rw [upd_ne (show q ≠ p from fun z => f.i (z ▸ hq))]; exact (r.ii q hq).1, (r.ii q hq).2⟩⟩
  by_cases hb : b = p
  · subst hb
    have e : upd B.kp b o b = some u := e
    rw [upd_same] at e
    cases e
    exact ⟨hp, f.f, f.a, f.h0, f.o⟩
  · have e : upd B.kp p o b = some u := e
    rw [upd_ne hb] at e
    exact r.kp b u e
theorem Rel.unkeep {B : Fx} {F H : Hp} {α : List Addr} {rho : Ro} {h : Hh} {σ : L2.St} {p : Addr} {o : HO} (hk : B.kp p = none) (r : Rel X.K (B.keep p o) F α rho h σ H) : Rel X.K B F α rho h σ H ∧ Fresh B F α rho σ H p ∧ H p = some o := by
  have q := r.kp p o upd_same
  have ni : p ∉ innA H α := fun z => by
    have w : upd B.kp p o p = none := (r.ii p z).1
    rw [upd_same] at w; cases w
  refine ⟨⟨r.sub, r.new, r.fr, r.pre, r.a0, r.nd, r.len, r.slot, r.sep, fun b u e => r.kp b u ?_, r.hl, r.heap, r.io, r.df, fun b hb => ⟨?_, (r.ii b hb).2⟩⟩, ⟨q.2.2.2.1, q.2.2.1, q.2.1, hk, q.2.2.2.2, ni⟩, q.1⟩
  rotate_left
  · have z : upd B.kp p o b = none := (r.ii b hb).1
    rwa [upd_ne (show b ≠ p from fun w => ni (w ▸ hb))] at z
  show upd B.kp p o b = some u
  rw [upd_ne]
  · exact e
  · rintro rfl; rw [hk] at e; cases e
theorem Fresh.unkeep {B : Fx} {F H : Hp} {α : List Addr} {rho : Ro} {σ : L2.St} {p q : Addr} {o : HO} (f : Fresh (B.keep p o) F α rho σ H q) : Fresh B F α rho σ H q ∧ q ≠ p := by
  have hk : upd B.kp p o q = none := f.k
  have ne : q ≠ p := fun z => by rw [z, upd_same] at hk; cases hk
  rw [upd_ne ne] at hk
  exact ⟨⟨f.h0, f.a, f.f, hk, f.o, f.i⟩, ne⟩
/-- the same behind one more that is kept -/
theorem post_keepB {β : Type} {B : Fx} {σ : L2.St} {F : Hp} {rho : Ro} {p : Addr} {o : HO} (hk : B.kp p = none) {x : R β} {G : β → Hp → List Addr → Hp → Prop} (q : Post X W B σ F rho x G) : Post X W (B.keep p o) σ F rho x fun a F' α' H' => Fresh B F' α' rho σ H' p ∧ H' p = some o ∧ G a F' α' H' := by
  cases x with
  | ok a h' =>
    intro F' α' H' s r
    obtain ⟨r1, f1, e1⟩ := r.unkeep hk
    exact ⟨f1, e1, q F' α' H' s r1⟩
  | exc c h' => exact fun cv F' α' H' s r e => q cv F' α' H' s (r.unkeep hk).1 e
  | bad => exact q
theorem jp_own {e : Expr} {es : List Expr} {l : DenL} {cs : List PCo} (hs : isStar e = false) (h : JL X W e l) (hr : PA X es (tP X W cs)) : PA X (e :: es) (tP X W (.own l :: cs)) := by
  refine pa_mono (pa_cons h hr (star_cons hs)) fun σ H Q ⟨B, F, α, rho, h, r, q⟩ => ⟨B, F, α, rho, h, r, ?_⟩
  refine post_imp (post_bind q) fun d F1 α1 H1 s1 ⟨h1, r1, p1⟩ p us fr hp rp => ⟨B.keep p (.lst us), F1, α1, rho, h1, r1.keep fr hp, ?_⟩
  refine post_imp (post_keepB fr.k (post_bind p1)) fun ds F2 α2 H2 s2 ⟨f2, e2, h2, r2, p2⟩ vs hvs => ?_
  refine post_ok r2 p2 (.ref p :: vs) ⟨p, us, rfl, by simp, f2, e2, rp.mono s2, ?_⟩
  exact PVsOk.imp (av' := [p]) hvs (fun q _ f => ⟨f.unkeep.1, by simp only [List.mem_singleton]; exact f.unkeep.2⟩) (fun _ _ e => e) fun q hq => .inr hq
theorem jp_shr {e : Expr} {es : List Expr} {l : DenL} {cs : List PCo} (hs : isStar e = false) (h : JL X W e l) (hr : PA X es (tP X W cs)) : PA X (e :: es) (tP X W (.shr l :: cs)) := by
  refine pa_mono (pa_cons h hr (star_cons hs)) fun σ H Q ⟨B, F, α, rho, h, r, q⟩ => ⟨B, F, α, rho, h, r, ?_⟩
  refine post_imp (post_bind q) fun d F1 α1 H1 s1 ⟨h1, r1, p1⟩ p us fr hp rp => ⟨B.keep p (.lst us), F1, α1, rho, h1, r1.keep fr hp, ?_⟩
  refine post_imp (post_keepB fr.k (post_bind p1)) fun ds F2 α2 H2 s2 ⟨f2, e2, h2, r2, p2⟩ vs hvs => ?_
  refine post_ok r2 p2 (.ref p :: vs) ⟨p, us, rfl, by simp, f2, e2, rp.mono s2, ?_⟩
  exact PVsOk.imp (av' := [p]) hvs (fun q _ f => ⟨f.unkeep.1, by simp only [List.mem_singleton]; exact f.unkeep.2⟩) (fun _ _ e => e) fun q hq => .inr hq
/-- a new dict -/
def GDc (X : Cx) (B : Fx) (rho : Ro) (σ : L2.St) (Q : VK) : List (D × D) → Hp → List Addr → Hp → Prop := fun kvs F' α' H' => ∀ p o xs, Fresh B F' α' rho σ H' p → H' p = some (pinO p o) → DOk p o xs → RpKv X.K F' xs kvs → Q (.ref p) H'
def tDc (X : Cx) (W : WX) (l : DenD) : TE := fun σ H Q => ∃ B F α rho h, Rel X.K B F α rho h σ H ∧ Post X W B σ F rho (l rho h) (GDc X B rho σ Q)
abbrev JD (X : Cx) (W : WX) (e : Expr) (l : DenD) : Prop := PE X e (tDc X W l)
theorem je_ofD {e : Expr} {l : DenD} (h : JD X W e l) : JE X W e (ofD l) := by
  refine pe_mono h fun σ H Q ⟨B, F, α, rho, h, r, q⟩ => ⟨B, F, α, rho, h, r, ?_⟩
  refine post_imp2 (post_bind q) fun kvs F1 α1 H1 s1 r1 ⟨h1, r1', p1⟩ p o xs fr hp k rp => ?_
  have m : Same F1 (upd F1 p (pinO p o)) := same_upd fr.f
  exact p1 _ _ _ m (r1'.freeze fr hp) _ (.dct upd_same k (rpKv_mono m rp))
theorem jp_dic {e : Expr} {es : List Expr} {l : DenD} {cs : List PCo} (hs : isStar e = false) (h : JD X W e l) (hr : PA X es (tP X W cs)) : PA X (e :: es) (tP X W (.dic l :: cs)) := by
  refine pa_mono (pa_cons h hr (star_cons hs)) fun σ H Q ⟨B, F, α, rho, h, r, q⟩ => ⟨B, F, α, rho, h, r, ?_⟩
  refine post_imp (post_bind q) fun d F1 α1 H1 s1 ⟨h1, r1, p1⟩ p o xs fr hp k rp => ⟨B.keep p (pinO p o), F1, α1, rho, h1, r1.keep fr hp, ?_⟩
  refine post_imp (post_keepB fr.k (post_bind p1)) fun ds F2 α2 H2 s2 ⟨f2, e2, h2, r2, p2⟩ vs hvs => ?_
  refine post_ok r2 p2 (.ref p :: vs) ⟨p, o, xs, rfl, by simp, f2, e2, ⟨k, rpKv_mono s2 rp⟩, ?_⟩
  exact PVsOk.imp (av' := [p]) hvs (fun q _ f => ⟨f.unkeep.1, by simp only [List.mem_singleton]; exact f.unkeep.2⟩) (fun _ _ e => e) fun q hq => .inr hq
theorem PVsOk.length {K : PySem.W.Frag} {B : Fx} {F H : Hp} {α : List Addr} {rho : Ro} {σ : L2.St} : ∀ {pvs : List PV} {vs : List V} {av : List Addr}, PVsOk K B F α rho σ H av vs pvs → vs.length = pvs.length
  | [], [], _, _ => rfl
  | [], _ :: _, _, z => z.elim
  | .val d :: r, [], _, z => z.elim
  | .own d :: r, [], _, z => z.elim
  | .shr d :: r, [], _, z => z.elim
  | .dic d :: r, [], _, z => z.elim
  | .obj d :: r, [], _, z => z.elim
  | .obj d :: r, v :: vs, av, z => by rw [List.length_cons, List.length_cons, PVsOk.length z.2]
  | .val d :: r, v :: vs, av, z => by rw [List.length_cons, List.length_cons, PVsOk.length z.2]
  | .own d :: r, v :: vs, av, ⟨p, us, e, na, fr, hp, rp, t⟩ => by rw [List.length_cons, List.length_cons, PVsOk.length t]
  | .shr d :: r, v :: vs, av, ⟨p, us, e, na, fr, hp, rp, t⟩ => by rw [List.length_cons, List.length_cons, PVsOk.length t]
  | .dic d :: r, v :: vs, av, ⟨p, o, xs, e, na, fr, hp, rp, t⟩ => by rw [List.length_cons, List.length_cons, PVsOk.length t]
theorem putPV_len : ∀ {is : List Nat} {pvs : List PV} {s s' : S}, putPV is pvs s = some s' → is.length = pvs.length
  | [], [], _, _, _ => rfl
  | [], _ :: _, _, _, e => by cases e
  | _ :: _, [], _, _, e => by cases e
  | i :: is, .val d :: r, s, s', e => by rw [List.length_cons, List.length_cons, putPV_len (is := is) e]
  | i :: is, .own d :: r, s, s', e => by rw [List.length_cons, List.length_cons, putPV_len (is := is) e]
  | i :: is, .shr d :: r, s, s', e => by rw [List.length_cons, List.length_cons, putPV_len (is := is) e]
  | i :: is, .dic d :: r, s, s', e => by rw [List.length_cons, List.length_cons, putPV_len (is := is) e]
  | i :: is, .obj d :: r, s, s', e => by rw [List.length_cons, List.length_cons, putPV_len (is := is) e]
/-- what the store asks of values -/
theorem t_par {is : List Nat} {cs : List PCo} {E : Ends} {σ : L2.St} {H : Hp} (z : tS X W (sPar is cs) E σ H) : tP X W cs σ H fun vs H1 => vs.length = is.length ∧ E.nx (setV σ is vs) H1 := by
  obtain ⟨B, F, α, rho, h, r, p⟩ := z
  refine ⟨B, F, α, rho, h, r, post_imp (postS_of p) fun pvs F1 α1 H1 s1 ⟨h1, r1, p1⟩ vs hvs => ?_⟩
  cases w : putPV is pvs ⟨rho, h1⟩ with
  | none => rw [w] at p1; exact p1.elim
  | some s' =>
    rw [w] at p1
    obtain ⟨α2, r2⟩ := Rel.store (s := ⟨rho, h1⟩) r1 hvs w
    exact ⟨by rw [hvs.length, putPV_len w], p1 _ F1 α2 H1 same_refl r2⟩
end
end Ev
/-! # Ev8: several stores; append, extend; what is given away; raise -/
namespace Ev
open PySem PySem.Spec PyProof.Rows L2
section
variable {X : Cx} {W : WX}
theorem PVsOk.up {K : PySem.W.Frag} {B : Fx} {F H H' : Hp} {α : List Addr} {rho : Ro} {σ : L2.St} (m : Same H H') (ei : innA H' α = innA H α) : ∀ {pvs : List PV} {vs : List V} {av : List Addr}, PVsOk K B F α rho σ H av vs pvs → PVsOk K B F α rho σ H' av vs pvs
  | [], [], _, _ => trivial
  | [], _ :: _, _, z => z.elim
  | .val d :: r, [], _, z => z.elim
  | .own d :: r, [], _, z => z.elim
  | .shr d :: r, [], _, z => z.elim
  | .dic d :: r, [], _, z => z.elim
  | .obj d :: r, [], _, z => z.elim
  | .obj d :: r, v :: vs, av, z => ⟨z.1, PVsOk.up m ei z.2⟩
  | .dic d :: r, v :: vs, av, ⟨p, o, xs, e, na, fr, hp, rp, t⟩ => ⟨p, o, xs, e, na, fr.up ei, m _ _ hp, rp, PVsOk.up m ei t⟩
  | .val d :: r, v :: vs, av, z => ⟨z.1, PVsOk.up m ei z.2⟩
  | .own d :: r, v :: vs, av, ⟨p, us, e, na, fr, hp, rp, t⟩ => ⟨p, us, e, na, fr.up ei, m _ _ hp, rp, PVsOk.up m ei t⟩
  | .shr d :: r, v :: vs, av, ⟨p, us, e, na, fr, hp, rp, t⟩ => ⟨p, us, e, na, fr.up ei, m _ _ hp, rp, PVsOk.up m ei t⟩
theorem t_parT {is : List Nat} {cs : List PCo} {E : Ends} {σ : L2.St} {H : Hp} (z : tS X W (sPar is cs) E σ H) : tP X W cs σ H fun vs H1 => vs.length = is.length ∧ ∀ p, H1 p = none → E.nx (setV σ is vs) (upd H1 p (.tup vs)) := by
  obtain ⟨B, F, α, rho, h, r, p⟩ := z
  refine ⟨B, F, α, rho, h, r, post_imp (postS_of p) fun pvs F1 α1 H1 s1 ⟨h1, r1, p1⟩ vs hvs => ?_⟩
  cases w : putPV is pvs ⟨rho, h1⟩ with
  | none => rw [w] at p1; exact p1.elim
  | some s' =>
    rw [w] at p1
    refine ⟨by rw [hvs.length, putPV_len w], fun q hq => ?_⟩
    obtain ⟨α2, r2⟩ := Rel.store (s := ⟨rho, h1⟩) (r1.add (o := .tup vs) hq) (hvs.up (same_upd hq) (r1.innU hq)) w
    exact p1 _ F1 α2 _ same_refl r2
theorem tP_mono {cs : List PCo} {σ : L2.St} {H : Hp} {Q Q' : List V → Hp → Prop} (z : tP X W cs σ H Q) (m : ∀ vs H', Q vs H' → Q' vs H') : tP X W cs σ H Q' := by
  obtain ⟨B, F, α, rho, h, r, p⟩ := z
  exact ⟨B, F, α, rho, h, r, post_imp p fun pvs F1 α1 H1 _ q vs hvs => m _ _ (q vs hvs)⟩
theorem js_par2 {i j : Nat} {x y : Str} {a b : Expr} {cs : List PCo} {px py pt pos : Pos} {kt k2 pt2} (hc : X.calm = true) (hN : X.N.Nodup) (hi : X.N[i]? = some x) (hj : X.N[j]? = some y) (hij : i ≠ j)
    (hx : X.env.scope.names.lookup x = some .local) (hy : X.env.scope.names.lookup y = some .local) (ha : PA X [a, b] (tP X W cs))
    (hw : swappedStores [.Tuple [.Name x px, .Name y py] kt pt] (.Tuple [a, b] k2 pt2) X.env = pure (some [x, y]))
    (hs : swapsWithSole [.Tuple [.Name x px, .Name y py] kt pt] (.Tuple [a, b] k2 pt2) pos.line X.env = pure false) :
    JS X W (.Assign [.Tuple [.Name x px, .Name y py] kt pt] (.Tuple [a, b] k2 pt2) pos) (sPar [i, j] cs) := by
  refine ps_mono (ps_par hc hN hi hj hij hx hy ha hw hs) fun E σ H z => ?_
  refine tP_mono (t_par z) fun vs H1 ⟨hl, q⟩ => ?_
  match vs, hl with
  | [v, w], _ => exact ⟨v, w, rfl, q⟩
theorem js_par3 {i j l : Nat} {x y z : Str} {a b c : Expr} {cs : List PCo} {px py pz pt pos : Pos} {kt k2 pt2} (hc : X.calm = true) (hN : X.N.Nodup) (hi : X.N[i]? = some x) (hj : X.N[j]? = some y) (hl : X.N[l]? = some z) (hij : i ≠ j) (hil : i ≠ l) (hjl : j ≠ l)
    (hx : X.env.scope.names.lookup x = some .local) (hy : X.env.scope.names.lookup y = some .local) (hz : X.env.scope.names.lookup z = some .local) (ha : PA X [a, b, c] (tP X W cs))
    (hw : swappedStores [.Tuple [.Name x px, .Name y py, .Name z pz] kt pt] (.Tuple [a, b, c] k2 pt2) X.env = pure (some [x, y, z]))
    (hs : swapsWithSole [.Tuple [.Name x px, .Name y py, .Name z pz] kt pt] (.Tuple [a, b, c] k2 pt2) pos.line X.env = pure false) :
    JS X W (.Assign [.Tuple [.Name x px, .Name y py, .Name z pz] kt pt] (.Tuple [a, b, c] k2 pt2) pos) (sPar [i, j, l] cs) := by
  refine ps_mono (ps_par3 hc hN hi hj hl hij hil hjl hx hy hz ha hw hs) fun E σ H z => ?_
  refine tP_mono (t_par z) fun vs H1 ⟨hl, q⟩ => ?_
  match vs, hl with
  | [u, v, w], _ => exact ⟨u, v, w, rfl, q⟩
/-- names as targets, by values -/
def gNs : List Nat → TGs
  | [] => gNil
  | i :: is => gCons (gName i) (gNs is)
theorem gNs_run {H : Hp} {Q : L2.St → Hp → Prop} : ∀ {is : List Nat} {vs : List V} {σ : L2.St}, vs.length = is.length → Q (setV σ is vs) H → gNs is vs σ H Q
  | [], [], σ, _, q => ⟨rfl, q⟩
  | [], _ :: _, σ, h, _ => by simp at h
  | _ :: _, [], σ, h, _ => by simp at h
  | i :: is, v :: vs, σ, h, q => ⟨v, vs, rfl, gNs_run (is := is) (by simpa using h) q⟩
theorem js_parT {es ts : List Expr} {is : List Nat} {cs : List PCo} {k k2 : Nat} {pos tpos vpos : Pos} (hc : X.calm = true) (hl : is.length ≤ lim) (hts : ts.length = is.length) (hst : (ts.all fun e => !isStar e) = true) (hg : PGs X ts (gNs is)) (ha : PA X es (tP X W cs))
    (hs : swapsWithSole [.Tuple ts k tpos] (.Tuple es k2 vpos) pos.line X.env = pure false) (hw : swappedStores [.Tuple ts k tpos] (.Tuple es k2 vpos) X.env = pure none) :
    JS X W (.Assign [.Tuple ts k tpos] (.Tuple es k2 vpos) pos) (sPar is cs) := by
  refine ps_mono (ps_asg (pe_tup ha) (pg_tup (n := ts.length) hc hg each_len (each_none hst)) hs hw rfl) fun E σ H z => ?_
  refine tP_mono (t_parT z) fun vs H1 ⟨hlen, q⟩ => ⟨by rw [hlen]; exact Nat.le_trans hl lim_le, fun p hp => ?_⟩
  exact ⟨p, vs, rfl, .inl (.inl upd_same), by rw [hlen, hts], gNs_run hlen (q p hp)⟩
/-! ### lists that change -/
theorem Rel.mutAny {B : Fx} {F H : Hp} {α : List Addr} {rho : Ro} {h : Hh} {σ : L2.St} {i : Nat} {sl sl' : Slot} {o' : HO} {p' : Addr} (r : Rel X.K B F α rho h σ H) (e : rho[i]? = some sl) (ow : IsOwn sl) (ow' : IsOwn sl') (es : σ[i]? = some (some (.ref p'))) (e0 : B.H0 p' = none) (na : p' ∉ α) (h1 : F p' = none) (new : SlotOk X.K B F α (upd H p' o') sl' (some (.ref p'))) :
    Rel X.K B F α (rho.set i sl') h σ (upd H p' o') := by
  have hil : i < rho.length := (List.getElem?_eq_some_iff.mp e).1
  have ne : ∀ {q : Addr}, q ∈ innA H α → q ≠ p' := fun {q} hq z => (r.ii q hq).2.2 i sl e ow (z ▸ es)
  have ei : innA (upd H p' o') α = innA H α := innA_congr (fun q hq => .inl (upd_ne fun z => na (z ▸ hq))) fun q hq => upd_ne (ne hq)
  refine ⟨fun b u q => ?_, r.new, fun b u q hb hi => ?_, r.pre, r.a0, r.nd, by rw [List.length_set]; exact r.len, fun j sj q => ?_, fun j k sj sk q hjk e1' e2 o1 o2 e3 e4 => ?_, fun b u q => ?_, r.hl, fun n q u e1' e2 => ?_, r.io.to ei r.io.f (fun q hq => by rw [upd_ne (ne hq)]; exact r.io.h q hq), fun b u q => ?_, fun q hq => ?_⟩
  · rw [upd_ne]
    · exact r.sub b u q
    · rintro rfl; rw [h1] at q; cases q
  · rw [upd_ne]
    · exact r.fr b u q hb hi
    · rintro rfl; rw [e0] at q; cases q
  · by_cases hj : i = j
    · subst hj
      rw [List.getElem?_set_self hil] at q
      cases q
      rw [es]
      exact new
    · rw [List.getElem?_set_ne hj] at q
      have z := r.slot j sj q
      cases sj with
      | own ds2 =>
        obtain ⟨p2, vs2, f1, f0, fa, f2, f3, f4⟩ := z
        refine ⟨p2, vs2, f1, f0, fa, f2, ?_, f4⟩
        rw [upd_ne]
        · exact f3
        · rintro rfl
          exact r.sep i j _ _ _ hj e q ow trivial es (jn f1)
      | ownd kvs2 =>
        obtain ⟨p2, f1, f0, fa, f2, ob, xs, f3, f4⟩ := z
        refine ⟨p2, f1, f0, fa, f2, ob, xs, ?_, f4⟩
        rw [upd_ne]
        · exact f3
        · rintro rfl
          exact r.sep i j _ _ _ hj e q ow trivial es (jn f1)
      | refs ns2 =>
        obtain ⟨p2, vs2, f1, f0, fa, f2, f3, f4⟩ := z
        refine ⟨p2, vs2, f1, f0, fa, f2, ?_, f4⟩
        rw [upd_ne]
        · exact f3
        · rintro rfl
          exact r.sep i j _ _ _ hj e q ow trivial es (jn f1)
      | _ => exact z
  · have up : ∀ {j : Nat} {s : Slot}, (rho.set i sl')[j]? = some s → IsOwn s → ∃ s', rho[j]? = some s' ∧ IsOwn s' := fun {j s} q o => by
      by_cases hj : i = j
      · subst hj; exact ⟨_, e, ow⟩
      · rw [List.getElem?_set_ne hj] at q; exact ⟨s, q, o⟩
    obtain ⟨t1, w1, w2⟩ := up e1' o1
    obtain ⟨t2, w3, w4⟩ := up e2 o2
    exact r.sep j k t1 t2 q hjk w1 w3 w2 w4 e3 e4
  · obtain ⟨k1, k2, k3, k4, k5⟩ := r.kp b u q
    have nb : b ≠ p' := fun z => k5 i _ e ow (by rw [z]; exact es)
    refine ⟨by rw [upd_ne nb]; exact k1, k2, k3, k4, fun j sj e1' o1 => ?_⟩
    by_cases hj : i = j
    · subst hj
      rw [es]
      intro z
      cases z
      exact nb rfl
    · rw [List.getElem?_set_ne hj] at e1'
      exact k5 j sj e1' o1
  · have nq : q ≠ p' := fun w => na (w ▸ List.mem_of_getElem? e1')
    exact (r.heap n q u e1' e2).keep same_refl id (upd_ne nq) fun b hb => upd_ne (ne (mem_innA (List.mem_of_getElem? e1') hb))
  · by_cases hb : b = p'
    · subst hb; exact ⟨_, upd_same⟩
    · rw [upd_ne hb]; exact r.df b u q
  · rw [ei] at hq
    obtain ⟨k1, k2, k3⟩ := r.ii q hq
    refine ⟨k1, k2, fun j sj e1' o1 => ?_⟩
    by_cases hj : i = j
    · subst hj; exact k3 i sl e ow
    · rw [List.getElem?_set_ne hj] at e1'; exact k3 j sj e1' o1
theorem Rel.mutOwn {B : Fx} {F H : Hp} {α : List Addr} {rho : Ro} {h : Hh} {σ : L2.St} {i : Nat} {ds ds' : List D} {vs' : List V} {p : Addr} (r : Rel X.K B F α rho h σ H) (e : rho[i]? = some (.own ds)) (es : σ[i]? = some (some (.ref p))) (rv : RpL X.K F vs' ds') :
    Rel X.K B F α (rho.set i (.own ds')) h σ (upd H p (.lst vs')) := by
  obtain ⟨p', vs, e1, e0, na, h1, h2, h3⟩ := r.slot i _ e
  have ep : p' = p := by
    have := jn e1
    rw [es] at this
    cases this
    rfl
  subst ep
  exact r.mutAny e trivial trivial es e0 na h1 ⟨p', vs', rfl, e0, na, h1, upd_same, rv⟩
theorem Rel.mutOwnD {B : Fx} {F H : Hp} {α : List Addr} {rho : Ro} {h : Hh} {σ : L2.St} {i : Nat} {kvs kvs' : List (D × D)} {o' : Obj} {xs' : List DEnt} {p : Addr} (r : Rel X.K B F α rho h σ H) (e : rho[i]? = some (.ownd kvs)) (es : σ[i]? = some (some (.ref p))) (k : DOk p o' xs') (rv : RpKv X.K F xs' kvs') :
    Rel X.K B F α (rho.set i (.ownd kvs')) h σ (upd H p (pinO p o')) := by
  obtain ⟨p', e1, e0, na, h1, _⟩ := r.slot i _ e
  have ep : p' = p := by
    have := jn e1
    rw [es] at this
    cases this
    rfl
  subst ep
  exact r.mutAny e trivial trivial es e0 na h1 ⟨p', rfl, e0, na, h1, o', xs', upd_same, k, rv⟩
theorem nodup_get {α : List Addr} (nd : α.Nodup) {n m : Nat} {p : Addr} (h1 : α[n]? = some p) (h2 : α[m]? = some p) : n = m := by
  obtain ⟨l1, e1⟩ := List.getElem?_eq_some_iff.mp h1
  obtain ⟨l2, e2⟩ := List.getElem?_eq_some_iff.mp h2
  exact (List.getElem?_inj l1 nd).mp (h1.trans h2.symm)
theorem Rel.mutRefO {B : Fx} {F H : Hp} {α : List Addr} {rho : Ro} {h : Hh} {σ : L2.St} {n : Nat} {ob ob' : Ob} {o' : HO} {p : Addr} (r : Rel X.K B F α rho h σ H) (ea : α[n]? = some p) (eh : h[n]? = some ob) (h1 : F p = none) (hob : ObOk X.K F (upd H p o') p ob') (hn : notIns (H p) = true) (hn' : notIns (some o') = true) :
    Rel X.K B F α rho (h.set n ob') σ (upd H p o') := by
  have pm : p ∈ α := List.mem_of_getElem? ea
  have ne : ∀ {q : Addr}, q ∈ innA H α → q ≠ p := fun {q} hq z => r.io.na q hq (z ▸ pm)
  have ei : innA (upd H p o') α = innA H α := innA_congr (fun q hq => by
    by_cases hb : q = p
    · subst hb; exact .inr ⟨hn, by rw [upd_same]; exact hn'⟩
    · exact .inl (upd_ne hb)) fun q hq => upd_ne (ne hq)
  refine ⟨fun b u q => ?_, r.new, fun b u q hb hi => ?_, r.pre, r.a0, r.nd, r.len, fun j sj q => ?_, r.sep, fun b u q => ?_, by rw [List.length_set]; exact r.hl, fun m q u e1 e2 => ?_, r.io.to ei r.io.f (fun q hq => by rw [upd_ne (ne hq)]; exact r.io.h q hq), fun b u q => ?_, by rw [ei]; exact r.ii⟩
  · rw [upd_ne]
    · exact r.sub b u q
    · rintro rfl; rw [h1] at q; cases q
  · rw [upd_ne]
    · exact r.fr b u q hb hi
    · rintro rfl
      obtain ⟨t, et, ht, _⟩ := r.pre
      rw [et] at pm
      rcases List.mem_append.mp pm with z | z
      · exact hb z
      · rw [ht _ z] at q; cases q
  · have z := r.slot j sj q
    cases sj with
    | own ds2 =>
      obtain ⟨p2, vs2, f1, f0, fa, f2, f3, f4⟩ := z
      exact ⟨p2, vs2, f1, f0, fa, f2, by rw [upd_ne (show p2 ≠ p from fun z => fa (z ▸ pm))]; exact f3, f4⟩
    | ownd kvs2 =>
      obtain ⟨p2, f1, f0, fa, f2, ob, xs, f3, f4⟩ := z
      exact ⟨p2, f1, f0, fa, f2, ob, xs, by rw [upd_ne (show p2 ≠ p from fun z => fa (z ▸ pm))]; exact f3, f4⟩
    | refs ns2 =>
      obtain ⟨p2, vs2, f1, f0, fa, f2, f3, f4⟩ := z
      exact ⟨p2, vs2, f1, f0, fa, f2, by rw [upd_ne (show p2 ≠ p from fun z => fa (z ▸ pm))]; exact f3, f4⟩
    | _ => exact z
  · obtain ⟨k1, k2, k3, k4⟩ := r.kp b u q
    exact ⟨by rw [upd_ne (show b ≠ p from fun z => k3 (z ▸ pm))]; exact k1, k2, k3, k4⟩
  · by_cases hm : n = m
    · subst hm
      rw [ea] at e1
      cases e1
      rw [List.getElem?_set_self (List.getElem?_eq_some_iff.mp eh).1] at e2
      cases e2
      exact hob
    · rw [List.getElem?_set_ne hm] at e2
      have nq : q ≠ p := fun w => hm (nodup_get r.nd ea (w ▸ e1))
      exact (r.heap m q u e1 e2).keep same_refl id (upd_ne nq) fun b hb => upd_ne (ne (mem_innA (List.mem_of_getElem? e1) hb))
  · by_cases hb : b = p
    · subst hb; exact ⟨_, upd_same⟩
    · rw [upd_ne hb]; exact r.df b u q
theorem Rel.mutRef {B : Fx} {F H : Hp} {α : List Addr} {rho : Ro} {h : Hh} {σ : L2.St} {n : Nat} {ds ds' : List D} {vs' : List V} {p : Addr} (r : Rel X.K B F α rho h σ H) (ea : α[n]? = some p) (eh : h[n]? = some (.lst ds)) (rv : RpL X.K F vs' ds') :
    Rel X.K B F α rho (h.set n (.lst ds')) σ (upd H p (.lst vs')) := by
  obtain ⟨h1, vs, h2, h3⟩ := r.heap n p _ ea eh
  exact r.mutRefO ea eh h1 ⟨h1, vs', upd_same, rv⟩ (by rw [h2]; rfl) rfl
theorem RpL.snoc {K : PySem.W.Frag} {F : Hp} {vs : List V} {ds : List D} {v : V} {d : D} (r : RpL K F vs ds) (hl : ds.length < lim) (h : Rp K F v d) : RpL K F (vs ++ [v]) (ds ++ [d]) := ⟨r.all.append (.one h), by rw [List.length_append]; exact Nat.le_trans hl lim_le⟩
theorem js_append {i : Nat} {x : Str} {a : Expr} {f : Den} {px apos cpos pos : Pos} (hN : X.N[i]? = some x) (hv : Vis X.env.scope x) (hd : (x == ("__debug__" : Str)) = false) (hcd : (x == ("__classdict__" : Str)) = false) (hs : isStar a = false) (ha : JE X W a f) (hline : (apos.endLine == cpos.line) = true) :
    JS X W (.Expr (.Call (.Attribute (.Name x px) "append" apos) [a] [] cpos) pos) (sAppend i f) := by
  have hfew : ((backTo cpos (starEach [a] X.env)).all (fun x => !x.1) && (backToKw cpos (keywordEach [] X.env)).all (fun x => x.1.isSome) && decide ([a].length + ([] : List Keyword).length + (if ([] : List Keyword).isEmpty then 0 else 1) < 30)) = true := by
    rw [star_cons hs]; rfl
  refine ps_mono (ps_expr (pe_bm PySem.F.plainAttrs_list PySem.F.slot_list_append PySem.F.type_list_append mt_append (pe_var hN hv hd hcd) (pa_cons ha pa_nil (star_cons hs)) rfl hfew hline (star_cons hs) rfl) rfl) fun E σ H ⟨B, F, α, rho, h, r, p⟩ => ?_
  unfold sAppend at p
  dsimp only at p
  cases w : rho[i]? with
  | none => rw [w] at p; exact p.elim
  | some sl =>
    rw [w] at p
    have z := r.slot i sl w
    cases sl with
    | own ds =>
      obtain ⟨q, vs, e1, e0, na, h1, h2, h3⟩ := z
      refine ⟨.ref q, jn e1, .inl ⟨rfl, vs, .inl (.inl h2)⟩, B, F, α, rho, h, r, ?_⟩
      refine post_imp (postS_of p) fun d F1 α1 H1 s1 ⟨h1', r1, p1⟩ v hv => ?_
      obtain ⟨q', vs', e1', _, _, _, h2', h3'⟩ := r1.slot i _ w
      rw [e1] at e1'
      cases e1'
      split at p1
      · rename_i hl
        refine ⟨q, vs', v, rfl, rfl, h2', by rw [h3'.length]; exact Nat.lt_of_lt_of_le hl lim_le, ?_⟩
        exact p1 σ F1 α1 _ same_refl (r1.mutOwn w (jn e1) (h3'.snoc hl hv))
      · exact p1.elim
    | ref n =>
      obtain ⟨q, e1, ea⟩ := z
      dsimp only at p
      cases w2 : h[n]? with
      | none => rw [w2] at p; exact p.elim
      | some ob =>
        rw [w2] at p
        cases ob with
        | lst ds0 =>
          obtain ⟨_, vs0, hq0, _⟩ := r.heap n q _ ea w2
          refine ⟨.ref q, jn e1, .inl ⟨rfl, vs0, .inl (.inl hq0)⟩, B, F, α, rho, h, r, ?_⟩
          refine post_imp (postS_of p) fun d F1 α1 H1 s1 ⟨h1', r1, p1⟩ v hv => ?_
          obtain ⟨q', e1', ea'⟩ := r1.slot i _ w
          rw [e1] at e1'
          cases e1'
          cases w3 : h1'[n]? with
          | none => rw [w3] at p1; exact p1.elim
          | some ob1 =>
            rw [w3] at p1
            cases ob1 with
            | lst ds =>
              dsimp only at p1
              split at p1
              · rename_i hl
                obtain ⟨_, vs, hq, h3⟩ := r1.heap n q _ ea' w3
                refine ⟨q, vs, v, rfl, rfl, hq, by rw [h3.length]; exact Nat.lt_of_lt_of_le hl lim_le, ?_⟩
                exact p1 σ F1 α1 _ same_refl (r1.mutRef ea' w3 (h3.snoc hl hv))
              · exact p1.elim
            | _ => exact p1.elim
        | _ => exact p.elim
    | _ => exact p.elim
end
end Ev
/-! # Ev9: what is walked; for, while; comprehensions -/
namespace Ev
open PySem PySem.Spec PyProof.Rows L2
/-- J goes over ds, which is frozen in F -/
structure ItF (K : PySem.W.Frag) (F : Hp) (J : It) (ds : List D) : Prop where
  go : ∀ (i : Nat) (H : Hp), Same F H → i < ds.length → J.go i H
  stop : ∀ H, Same F H → J.stop ds.length H
  yld : ∀ (i : Nat) (F1 H : Hp) (x : V) (H' : Hp), Same F F1 → Same F1 H → i < ds.length → J.yld i H x H' → ∃ F' d, Ext F1 H F' H' ∧ ds[i]? = some d ∧ Rp K F' x d
/-- .. as long as the names stand as they do -/
def ItC (X : Cx) (σ : L2.St) (rho : Ro) (F : Hp) (J : It) (ds : List D) : Prop := ∀ B F1 α1 h1 H, Same F F1 → Rel X.K B F1 α1 rho h1 σ H → (∀ i : Nat, i < ds.length → J.go i H) ∧ J.stop ds.length H ∧ ∀ (i : Nat) (x : V) (H' : Hp), i < ds.length → J.yld i H x H' → ∃ F' d, Ext F1 H F' H' ∧ ds[i]? = some d ∧ Rp X.K F' x d
def tI (X : Cx) (W : WX) (l : DenL) : TI := fun σ H R => ∃ B F α rho h, Rel X.K B F α rho h σ H ∧ Post X W B σ F rho (l rho h) fun ds F' _ H' => ∀ J, ds.length ≤ sizeLine → ItF X.K F' J ds → R J H'
def tIC (X : Cx) (W : WX) (l : DenL) : TI := fun σ H R => ∃ B F α rho h, Rel X.K B F α rho h σ H ∧ Post X W B σ F rho (l rho h) fun ds F' _ H' => ∀ J, ds.length ≤ sizeLine → ItC X σ rho F' J ds → R J H'
abbrev JI (X : Cx) (W : WX) (tg e : Expr) (l : DenL) : Prop := PI X tg e (tI X W l)
abbrev JIC (X : Cx) (W : WX) (tg e : Expr) (l : DenL) : Prop := PI X tg e (tIC X W l)
section
variable {X : Cx} {W : WX} {tg e a : Expr}
theorem pi_mono {t t' : TI} (q : PI X tg e t) (m : ∀ σ H R, t' σ H R → t σ H R) : PI X tg e t' := ⟨fun pins s σ H R I z => q.run pins s σ H R I (m σ H R z)⟩
theorem ItF.c {σ : L2.St} {rho : Ro} {F : Hp} {J : It} {ds : List D} (q : ItF X.K F J ds) : ItC X σ rho F J ds := fun B F1 α1 h1 H s r => ⟨fun i hi => q.go i H (s.trans r.sub) hi, q.stop H (s.trans r.sub), fun i x H' hi y => q.yld i F1 H x H' s r.sub hi y⟩
theorem jic_of {l : DenL} (h : JI X W tg e l) : JIC X W tg e l := pi_mono h fun σ H R ⟨B, F, α, rho, h, r, p⟩ => ⟨B, F, α, rho, h, r, post_imp p fun ds F1 α1 H1 _ q J hl it => q J hl it.c⟩
/-- a list or a tuple, at hand -/
theorem itF_list {K : PySem.W.Frag} {F : Hp} {p : Addr} {vs : List V} {ds : List D} (h : SqL K F p vs) (r : RpAll K F vs ds) : ItF K F (Itl K p) ds := by
  refine ⟨fun i H s hi => ?_, fun H s => ⟨vs, s.seq h, by rw [r.length]; exact Nat.le_refl _⟩, fun i F1 H x H' s s1 hi y => ?_⟩
  · obtain ⟨v, e1, _⟩ := r.get (List.getElem?_eq_getElem hi)
    exact ⟨vs, v, s.seq h, e1⟩
  · obtain ⟨rfl, y⟩ := y
    obtain ⟨d, e1, e2⟩ := r.getV (y vs ((s.trans s1).seq h))
    exact ⟨F1, d, ext0 s1, e1, rp_mono s e2⟩
theorem itF_tup {K : PySem.W.Frag} {F : Hp} {p : Addr} {vs : List V} {ds : List D} (h : SqT K F p vs) (r : RpAll K F vs ds) : ItF K F (Itt K p) ds := by
  refine ⟨fun i H s hi => ?_, fun H s => ⟨vs, Same.seqT s h, by rw [r.length]; exact Nat.le_refl _⟩, fun i F1 H x H' s s1 hi y => ?_⟩
  · obtain ⟨v, e1, _⟩ := r.get (List.getElem?_eq_getElem hi)
    exact ⟨vs, v, Same.seqT s h, e1⟩
  · obtain ⟨rfl, y⟩ := y
    obtain ⟨d, e1, e2⟩ := r.getV (y vs (Same.seqT (s.trans s1) h))
    exact ⟨F1, d, ext0 s1, e1, rp_mono s e2⟩
/-! ### the keys of a dict whose object is known -/
theorem _root_.L2.Inv.pinD {pins : List (Addr × Obj)} {σ : L2.St} {H : Hp} {s : Shared} {d : Addr} {o : Obj} (I : Inv X pins σ H s) (h : H d = some (pinO d o)) : s.heap.get? d = some o := (I.hok d _ h).1
def Itn (d : Addr) (o : Obj) (xs : List DEnt) : It :=
  ⟨fun i H => H d = some (pinO d o) ∧ i < xs.length, fun i H x H' => H' = H ∧ ∃ y, xs[i]? = some y ∧ x = .ref y.2.1, fun i H => H d = some (pinO d o) ∧ xs.length ≤ i⟩
theorem ents_size {es : Array DictEntry} {xs : List DEnt} {w : World} (h : es.toList = xs.map (entN w)) : es.size = xs.length := by
  rw [← Array.length_toList, h, List.length_map]
theorem ents_at {es : Array DictEntry} {xs : List DEnt} {w : World} (h : es.toList = xs.map (entN w)) (i : Nat) : es[i]? = (xs[i]?).map (entN w) := by
  rw [← Array.getElem?_toList, h, List.getElem?_map]
theorem turn_keysN {P : Program} {w : World} {K : PySem.W.Frag} {tg : Expr} {d : Addr} {o : Obj} {xs : List DEnt} {es : Array DictEntry} {ep : Nat} (it : Addr) (hod : o.data = .dict es ep) (he : ∀ w, es.toList = xs.map (entN w)) : Turn P w K tg (Itn d o xs) [it] it (fun i h => h.IsKeyIter it d i xs.length ep) where
  mem := by simp
  obj := fun i h st b hb => by
    have e : b = it := by simpa using hb
    subst e
    obtain ⟨oi, e, c, dd⟩ := st
    exact ⟨oi, e, fun v z => by rw [dd] at z; cases z⟩
  keep := fun i h h' st k => st.at fun oi e => k it (by simp) oi e
  item := by
    intro X hP hw hK hc i pins s σ H E I hf st hg
    subst hP hw hK
    obtain ⟨hd, hi⟩ := hg
    obtain ⟨f0, f1, f2, f3, f4, f5⟩ := hf it (by simp)
    have hgd := I.pinD hd
    obtain ⟨y, hy⟩ : ∃ y, xs[i]? = some y := ⟨xs[i], List.getElem?_eq_getElem hi⟩
    have hen : es[i]? = some (entN X.w y) := by rw [ents_at (he X.w), hy]; rfl
    refine next_key_item st hgd hod (ents_size (he X.w)) hen fun h' st' sb => ?_
    have I1 : Inv X pins σ H { s with heap := h' } := I.turned (t' := s.toks) (fun b ob hb e => (sb.2 b hb).trans e) f0 f1 f3 f4 f5
    obtain ⟨oi, e, c, dd⟩ := id st'
    exact ⟨(entN X.w y).key, rfl, go_of (s := { s with heap := h' }) e c dd (by decide) ⟨.ref y.2.1, H, I1, rfl, ⟨rfl, y, hy, rfl⟩, st', fun b hb => (hf b hb).1⟩⟩
  done := by
    intro X hP hw hK hc i pins s σ H E I hf st hg
    subst hP hw hK
    obtain ⟨hd, hi⟩ := hg
    obtain ⟨f0, f1, f2, f3, f4, f5⟩ := hf it (by simp)
    have hgd := I.pinD hd
    exact next_key_end (I.ok.hd hc) st hgd hod (ents_size (he X.w)) hi fun h' eb => ⟨rfl, I.turned (t' := s.toks) (fun b ob hb e => eb b ob hb e) f0 f1 f3 f4 f5⟩
  self := fun A i s Q E st h => by
    refine wpAny_pyIter_slot st.typeIs F.slot_dict_keyiterator_iter (wpAny_call_entry F.slot_dict_keyiterator_iter st.typeIs F.entry_dict_keyiterator_iter ?_ (F.args_dict_keyiterator_iter_1 _))
    show wpAny _ _ (ret (.ref it)) _ _ s
    exact wpAny_pure ⟨_, rfl, "dict_keyiterator", _, st.typeIs, F.slot_dict_keyiterator_next.lookup, h⟩
theorem RpKv.length {K : PySem.W.Frag} {F : Hp} : ∀ {xs : List DEnt} {kvs : List (D × D)}, RpKv K F xs kvs → xs.length = kvs.length
  | _, _, .nil => rfl
  | _, _, .cons _ _ _ _ r => by rw [List.length_cons, List.length_cons, RpKv.length r]
theorem RpKv.get {K : PySem.W.Frag} {F : Hp} : ∀ {xs : List DEnt} {kvs : List (D × D)} {i : Nat} {y : DEnt}, RpKv K F xs kvs → xs[i]? = some y → ∃ kv, kvs[i]? = some kv ∧ Rp K F (.ref y.2.1) kv.1
  | _, _, _, _, .nil, e => by simp at e
  | _, _, 0, _, .cons _ h _ _ _, e => by simp at e; subst e; exact ⟨_, rfl, h⟩
  | _, _, i + 1, y, .cons _ _ _ _ r, e => by
    obtain ⟨kv, h1, h2⟩ := RpKv.get (i := i) (y := y) r (by simpa using e)
    exact ⟨kv, by simpa using h1, h2⟩
theorem itF_dict {K : PySem.W.Frag} {F : Hp} {a : Addr} {o : Obj} {xs : List DEnt} {kvs : List (D × D)} (h : F a = some (pinO a o)) (r : RpKv K F xs kvs) : ItF K F (Itn a o xs) (kvs.map (·.1)) := by
  refine ⟨fun i H s hi => ⟨s _ _ h, by rw [r.length]; simpa using hi⟩, fun H s => ⟨s _ _ h, by rw [r.length, List.length_map]; exact Nat.le_refl _⟩, fun i F1 H x H' s s1 hi y => ?_⟩
  obtain ⟨rfl, y, hy, rfl⟩ := y
  obtain ⟨kv, e1, e2⟩ := r.get hy
  exact ⟨F1, kv.1, ext0 s1, by rw [List.getElem?_map, e1]; rfl, rp_mono s e2⟩
theorem itF_str {K : PySem.W.Frag} {F : Hp} (x : Str) : ItF K F (Its x) (sgns x) := by
  have hl : (sgns x).length = x.cps.size := by unfold sgns; rw [List.length_map, Array.length_toList]
  refine ⟨fun i H s hi => by rw [hl] at hi; exact hi, fun H s => by rw [hl]; exact Nat.le_refl _, fun i F1 H v H' s s1 hi y => ?_⟩
  obtain ⟨rfl, c, hc, rfl⟩ := y
  refine ⟨F1, .str ⟨#[c]⟩, ext0 s1, ?_, .str _⟩
  unfold sgns
  rw [List.getElem?_map, Array.getElem?_toList, hc]
  rfl
/-- iter(x) of a list, of a tuple, of a dict, of a text -/
def tIx (X : Cx) (te : TE) : TI := fun σ H R => te σ H fun x H1 => (∃ a xs, x = .ref a ∧ SqL X.K H1 a xs ∧ (xs.length ≤ sizeLine → R (Itl X.K a) H1)) ∨ (∃ a xs, x = .ref a ∧ SqT X.K H1 a xs ∧ (xs.length ≤ sizeLine → R (Itt X.K a) H1)) ∨ (∃ a o xs, x = .ref a ∧ H1 a = some (pinO a o) ∧ DOk a o xs ∧ R (Itn a o xs) H1) ∨ ∃ z, x = .str z ∧ R (Its z) H1
theorem pi_seq {te : TE} (hl : PE X e te) : PI X tg e (tIx X te) := by
  refine ⟨fun pins s σ H R I h => ?_⟩
  refine thn (hl.run pins s σ H _ I h) fun v s1 ⟨x, H1, I1, r1, q1⟩ => ?_
  rcases q1 with ⟨a, xs, e, hq, q⟩ | ⟨a, xs, e, hq, q⟩ | ⟨a, o, xs, e, hq, k, q⟩ | ⟨z, e, q⟩
  · subst e
    cases r1
    obtain ⟨its, rv, p, hz⟩ := I1.list hq
    refine wpAny_pyIter_list p.isList ?_
    exact pi_one (tk := s1.toks) I1 _ (turn_list a _) ⟨_, Heap.get?_push_size _ rfl, rfl, rfl⟩ (q hz)
  · subst e
    cases r1
    obtain ⟨its, rv, p, hz⟩ := I1.tuple hq
    refine wpAny_pyIter_tuple (show s1.heap.IsTuple a its.toArray from p) ?_
    exact pi_one (tk := s1.toks) I1 _ (turn_tuple a _) ⟨_, Heap.get?_push_size _ rfl, rfl, rfl⟩ (q hz)
  · subst e
    cases r1
    obtain ⟨es, ep, hod, he⟩ := k.es
    refine iter_keys k.ns (I1.pinD hq) k.ex hod (pi_one (tk := s1.toks) I1 _ (turn_keysN _ hod he) ⟨_, Heap.get?_push_size _ rfl, rfl, ?_⟩ q)
    rw [ents_size (he X.w)] <;> rfl
  · subst e
    obtain ⟨t, rfl⟩ := r1
    cases ha : z.cps.all (· < 128)
    · exact wpAny_pyIter_wide ha (pi_one (tk := s1.toks) I1 _ (turn_str _ z t "str_iterator" (.inr rfl)) ⟨_, Heap.get?_push_size _ rfl, rfl, rfl⟩ q)
    · exact wpAny_pyIter_ascii ha (pi_one (tk := s1.toks) I1 _ (turn_str _ z t "str_ascii_iterator" (.inl rfl)) ⟨_, Heap.get?_push_size _ rfl, rfl, rfl⟩ q)
theorem sgns_le {z : Str} (h : z.length ≤ lim) : (sgns z).length ≤ sizeLine := by
  unfold sgns
  rw [List.length_map, Array.length_toList]
  exact Nat.le_trans h lim_le
theorem ji_of {f : Den} (h : JE X W e f) : JI X W tg e (lOf f) := by
  refine pi_mono (pi_seq h) fun σ H R ⟨B, F, α, rho, h, r, p⟩ => ⟨B, F, α, rho, h, r, ?_⟩
  refine post_imp (post_bind p) fun d F1 α1 H1 s1 ⟨h1, r1, p1⟩ v hv => ?_
  cases d with
  | list ds =>
    cases hv with
    | lst h2 r2 l2 => exact .inl ⟨_, _, rfl, .inl (Same.rd r1.sub h2), fun hl => post_ok r1 p1 _ l2 (itF_list (.inl h2) r2)⟩
  | tuple ds =>
    cases hv with
    | tup h2 r2 l2 => exact .inr (.inl ⟨_, _, rfl, Same.seqT r1.sub h2, fun hl => post_ok r1 p1 _ l2 (itF_tup h2 r2)⟩)
  | dict kvs =>
    cases hv with
    | dct h2 k r2 => exact .inr (.inr (.inl ⟨_, _, _, rfl, r1.sub _ _ h2, k, post_ok r1 p1 _ (by rw [List.length_map, ← r2.length]; exact k.le) (itF_dict h2 r2)⟩))
  | str z =>
    cases hv
    unfold walkOf at p1
    dsimp only at p1
    by_cases hz : z.length ≤ lim
    · rw [if_pos hz] at p1
      exact .inr (.inr (.inr ⟨z, rfl, post_ok r1 p1 _ (sgns_le hz) (itF_str z)⟩))
    · rw [if_neg hz] at p1
      exact p1.elim
  | _ => exact p1.elim
/-- over a name's own list, in a comprehension -/
theorem jic_var {i : Nat} {x : Str} {pos : Pos} (hN : X.N[i]? = some x) (hv : Vis X.env.scope x) (hd : (x == ("__debug__" : Str)) = false) (hcd : (x == ("__classdict__" : Str)) = false) : JIC X W tg (.Name x pos) (lVar i) := by
  refine pi_mono (pi_seq (pe_var hN hv hd hcd)) fun σ H R ⟨B, F, α, rho, h, r, p⟩ => ?_
  unfold lVar at p
  cases w : rho[i]? with
  | none => rw [w] at p; exact p.elim
  | some sl =>
    rw [w] at p
    have z := r.slot i sl w
    cases sl with
    | val d =>
      obtain ⟨v, e1, e2⟩ := z
      refine ⟨v, jn e1, ?_⟩
      cases d with
      | list ds =>
        cases e2 with
        | lst h2 r2 l2 => exact .inl ⟨_, _, rfl, .inl (Same.rd r.sub h2), fun hl => post_ok r p _ l2 (itF_list (.inl h2) r2).c⟩
      | tuple ds =>
        cases e2 with
        | tup h2 r2 l2 => exact .inr (.inl ⟨_, _, rfl, Same.seqT r.sub h2, fun hl => post_ok r p _ l2 (itF_tup h2 r2).c⟩)
      | dict kvs =>
        cases e2 with
        | dct h2 k r2 => exact .inr (.inr (.inl ⟨_, _, _, rfl, r.sub _ _ h2, k, post_ok r p _ (by rw [List.length_map, ← r2.length]; exact k.le) (itF_dict h2 r2).c⟩))
      | str z =>
        cases e2
        unfold walkOf at p
        dsimp only at p
        by_cases hz : z.length ≤ lim
        · rw [if_pos hz] at p
          exact .inr (.inr (.inr ⟨z, rfl, post_ok r p _ (sgns_le hz) (itF_str z).c⟩))
        · rw [if_neg hz] at p
          exact p.elim
      | _ => exact p.elim
    | own ds =>
      obtain ⟨q, vs, e1, _, _, _, h2, h3⟩ := z
      refine ⟨.ref q, jn e1, .inl ⟨q, vs, rfl, .inl (.inl h2), fun hl => post_ok r p _ h3.le ?_⟩⟩
      intro B1 F1 α1 h1 H1 s1 r1
      obtain ⟨q', vs', e1', _, _, _, h2', h3'⟩ := r1.slot i _ w
      rw [e1] at e1'
      cases e1'
      refine ⟨fun j hj => ?_, ⟨vs', .inl (.inl h2'), by rw [h3'.length]; exact Nat.le_refl _⟩, fun j x H' hj y => ?_⟩
      · obtain ⟨v, z1, _⟩ := h3'.all.get (List.getElem?_eq_getElem hj)
        exact ⟨vs', v, .inl (.inl h2'), z1⟩
      · obtain ⟨rfl, y⟩ := y
        obtain ⟨d, z1, z2⟩ := h3'.all.getV (y vs' (.inl (.inl h2')))
        exact ⟨F1, d, ext0 r1.sub, z1, z2⟩
    | _ => exact p.elim
theorem range_get {n i : Nat} {lo : Int} (h : i < ((List.range n).map fun (k : Nat) => (PyData.int (lo + k) : D)).length) : ((List.range n).map fun (k : Nat) => (PyData.int (lo + k) : D))[i]? = some (.int (lo + i)) := by
  have h2 : i < n := by simpa using h
  simp [h2]
theorem itF_range {K : PySem.W.Frag} {F : Hp} {lo : Int} {n : Nat} : ItF K F (Itr lo n) ((List.range n).map fun (k : Nat) => (PyData.int (lo + k) : D)) := by
  refine ⟨fun i H s hi => by show i < n; simpa using hi, fun H s => by show n ≤ _; simp, fun i F1 H x H' s s1 hi y => ?_⟩
  obtain ⟨rfl, rfl⟩ := y
  exact ⟨F1, _, ext0 s1, range_get hi, .int _⟩
theorem ji_range {o : Opd} {p pos : Pos} (hg : Gl X "range") (hm : X.mg "range" = none) (hs : isStar a = false) (h : JO X W a o) : JI X W tg (.Call (.Name "range" p) [a] [] pos) (lRange o) := by
  refine pi_mono (pi_range1 hg hm (pa_cons h pa_nil (star_cons hs)) (star_cons hs)) fun σ H R ⟨B, F, α, rho, h, r, q⟩ => ?_
  unfold iRng1 tCons tNil
  refine tO_mono (Ev.o1 r q) fun x H1 ⟨F1, α1, h1, a, s1, r1, tx, p1⟩ => ?_
  unfold lift1 kRange at p1
  split at p1
  · rename_i ds e
    split at e
    · split at e
      · rename_i hl
        cases e
        cases tx.int
        have e1 : (lim : Int) < 2 ^ 62 := by decide
        refine ⟨_, rfl, hl.1, by omega, post_ok r1 p1 _ ?_ itF_range⟩
        rw [List.length_map, List.length_range]
        have := lim_le
        omega
      · cases e
    · cases e
  · exact p1.elim
/-- list(range(a)) -/
theorem rg_rp {K : PySem.W.Frag} {F : Hp} {j : Int} : RpAll K F (rgV 0 j) ((List.range j.toNat).map fun (k : Nat) => (PyData.int (0 + k) : D)) := by
  unfold rgV
  rw [Int.sub_zero]
  generalize List.range j.toNat = l
  induction l with
  | nil => exact .nil
  | cons x r ih => exact .cons (.int _) ih
theorem jl_listRg {o : Opd} {p pos p2 pos2 : Pos} (hc : X.calm = true) (hg : Gl X "list") (hm : X.mg "list" = none) (hg2 : Gl X "range") (hm2 : X.mg "range" = none) (hs : isStar a = false) (h : JO X W a o) : JL X W (.Call (.Name "list" p) [.Call (.Name "range" p2) [a] [] pos2] [] pos) (lRange o) := by
  refine pe_mono (pe_listRg hc hg hm (prg_1 hg2 hm2 h (star_cons hs))) fun σ H Q ⟨B, F, α, rho, h, r0, q⟩ => ?_
  unfold tLstRg tRg1
  refine tO_mono (Ev.o1 r0 q) fun x H1 ⟨F1, α1, h1, a, s1, r1, tx, p1⟩ => ?_
  unfold lift1 kRange at p1
  split at p1
  · rename_i ds e
    split at e
    · split at e
      · rename_i hl
        cases e
        cases tx.int
        have e1 : (lim : Int) < 2 ^ 62 := by decide
        have e2 : (lim : Int) ≤ 2 ^ 24 := by decide
        refine ⟨_, rfl, ⟨by decide, by decide, hl.1, by omega, by omega⟩, new_lst r1 p1 ⟨rg_rp, ?_⟩⟩
        rw [List.length_map, List.length_range]
        have := lim_le
        omega
      · cases e
    · cases e
  · exact p1.elim
/-! ### for -/
theorem fold_set {env : Env} (h : ∀ es k p, e ≠ .Set es k p) : ∀ x, foldedSetIterable e env x = pure x := by
  intro x
  cases e <;> first | rfl | exact absurd rfl (h _ _ _)
theorem js_for {l : DenL} {t : Tgt} {body : List Stmt} {b : DenS} {pos : Pos} (hp : PassesOwn (model X.prog X.w) X.A X.env X.xe) (hc : X.calm = true) (hns : ∀ es k p, e ≠ .Set es k p) (hi : JI X W tg e l) (hg : JG X tg t) (hb : JSs X W body b) : JS X W (.For tg e body [] pos) (sFor l t b) := by
  refine ps_mono (ps_for hp hc hi hg hb (fold_set hns)) fun E σ H ⟨B, F, α, rho, h, r, p⟩ => ⟨B, F, α, rho, h, r, ?_⟩
  refine post_imp (postS_of p) fun ds F1 α1 H1 s1 ⟨h1, r1, p1⟩ J hl it => ?_
  refine ⟨fun i m σ' H' => i + m = ds.length ∧ ∃ F2 α2 rho2 h2, Same F1 F2 ∧ Rel X.K B F2 α2 rho2 h2 σ' H' ∧ PostS X W B E F2 (loopL (stepOf t b) (ds.drop i) ⟨rho2, h2⟩), ⟨ds.length, by omega, F1, α1, rho, h1, same_refl, r1, by rw [List.drop_zero]; exact p1⟩, ?_⟩
  rintro i m σ' H' ⟨hm, F2, α2, rho2, h2, s2, r2, p2⟩
  by_cases hi : i < ds.length
  · refine .inr ⟨it.go i H' (s2.trans r2.sub) hi, fun σ3 H3 => ∃ F3 α3 rho3 h3, Same F1 F3 ∧ Rel X.K B F3 α3 rho3 h3 σ3 H3 ∧ PostS X W B E F3 (loopL (stepOf t b) (ds.drop (i + 1)) ⟨rho3, h3⟩), fun σ3 H3 ⟨F3, α3, rho3, h3, s3, r3, p3⟩ => ⟨m - 1, by omega, by omega, F3, α3, rho3, h3, s3, r3, p3⟩, fun x H3 y => ?_⟩
    obtain ⟨F3, d, x3, ed, rd⟩ := it.yld i F2 H' x H3 s2 r2.sub hi y
    have r3 := r2.ext x3
    have ed2 : ds.drop i = d :: ds.drop (i + 1) := by
      rw [List.drop_eq_getElem_cons hi]
      rw [List.getElem?_eq_getElem hi] at ed
      rw [Option.some.inj ed]
    rw [ed2] at p2
    unfold loopL at p2
    cases w : t.put d rho2 with
    | none =>
      have z : stepOf t b d ⟨rho2, h2⟩ = .bad := by unfold stepOf; rw [w]
      rw [z] at p2
      exact p2.elim
    | some rho3 =>
      have z : stepOf t b d ⟨rho2, h2⟩ = b ⟨rho3, h2⟩ := by unfold stepOf; rw [w]
      rw [z] at p2
      refine ⟨B, F3, α2, rho2, h2, d, rho3, r3, rd, w, fun σ4 _ r4 => ⟨B, F3, α2, rho3, h2, r4, ?_⟩⟩
      cases wb : b ⟨rho3, h2⟩ with
      | next s' => rw [wb] at p2; exact fun σ5 F5 α5 H5 s5 r5 => ⟨F5, α5, s'.rho, s'.h, s2.trans (x3.f.trans s5), r5, postS_mono (x3.f.trans s5) p2⟩
      | cont s' => rw [wb] at p2; exact fun σ5 F5 α5 H5 s5 r5 => ⟨F5, α5, s'.rho, s'.h, s2.trans (x3.f.trans s5), r5, postS_mono (x3.f.trans s5) p2⟩
      | ret d' h' => rw [wb] at p2; exact postS_mono (x := .ret d' h') x3.f p2
      | retR d' h' => rw [wb] at p2; exact postS_mono (x := .retR d' h') x3.f p2
      | exc c s' => rw [wb] at p2; exact postS_mono (x := .exc c s') x3.f p2
      | bad => rw [wb] at p2; exact p2
  · have e : i = ds.length := by omega
    subst e
    rw [List.drop_length] at p2
    exact .inl ⟨it.stop H' (s2.trans r2.sub), p2 σ' F2 α2 H' same_refl r2⟩
/-! ### while -/
theorem js_while {c : Expr} {body : List Stmt} {t : DenT} {b : DenS} {n : Nat} {pos : Pos} (hp : PassesOwn (model X.prog X.w) X.A X.env X.xe) (hc : JT X W c t) (hb : JSs X W body b) : JS X W (.While c body [] pos) (sWhile t b n) := by
  refine ps_mono (ps_while hp hc hb) fun E σ H ⟨B, F, α, rho, h, r, p⟩ => ?_
  refine ⟨fun m σ' H' => ∃ F2 α2 rho2 h2, Same F F2 ∧ Rel X.K B F2 α2 rho2 h2 σ' H' ∧ PostS X W B E F2 (sWhile t b m ⟨rho2, h2⟩), ⟨n, F, α, rho, h, same_refl, r, p⟩, ?_⟩
  rintro m σ' H' ⟨F2, α2, rho2, h2, s2, r2, p2⟩
  cases m with
  | zero => exact p2.elim
  | succ m =>
    unfold sWhile at p2
    refine ⟨B, F2, α2, rho2, h2, r2, post_imp (postS_of p2) fun d F3 α3 H3 s3 ⟨h3, r3, p3⟩ => ?_⟩
    cases d with
    | false => exact p3 σ' F3 α3 H3 same_refl r3
    | true =>
      refine ⟨fun σ4 H4 => ∃ F4 α4 rho4 h4, Same F F4 ∧ Rel X.K B F4 α4 rho4 h4 σ4 H4 ∧ PostS X W B E F4 (sWhile t b m ⟨rho4, h4⟩), fun σ4 H4 q => ⟨m, Nat.lt_succ_self m, q⟩, B, F3, α3, rho2, h3, r3, ?_⟩
      have p3 : PostS X W B E F3 (match b ⟨rho2, h3⟩ with
        | .next s2 => sWhile t b m s2
        | .cont s2 => sWhile t b m s2
        | y => y) := p3
      cases wb : b ⟨rho2, h3⟩ with
      | next s' => rw [wb] at p3; exact fun σ5 F5 α5 H5 s5 r5 => ⟨F5, α5, s'.rho, s'.h, s2.trans (s3.trans s5), r5, postS_mono s5 p3⟩
      | cont s' => rw [wb] at p3; exact fun σ5 F5 α5 H5 s5 r5 => ⟨F5, α5, s'.rho, s'.h, s2.trans (s3.trans s5), r5, postS_mono s5 p3⟩
      | ret d' h' => rw [wb] at p3; exact p3
      | retR d' h' => rw [wb] at p3; exact p3
      | exc c s' => rw [wb] at p3; exact p3
      | bad => rw [wb] at p3; exact p3
end
end Ev
/-! # Ev10: comprehensions -/
namespace Ev
open PySem PySem.Spec PyProof.Rows L2
section
variable {X : Cx} {W : WX} {B : Fx} {F F' H H' : Hp} {α α' : List Addr} {rho rho' : Ro} {h h' : Hh} {σ σ' : L2.St}
/-- a place is forgotten -/
theorem Rel.setNo {i : Nat} (r : Rel X.K B F α rho h σ H) : Rel X.K B F α (rho.set i .no) h (σ.set i none) H := by
  have old : ∀ {j : Nat} {s : Slot}, (rho.set i .no)[j]? = some s → IsOwn s → i ≠ j ∧ rho[j]? = some s := fun {j s} q o => by
    by_cases hj : i = j
    · subst hj
      have hl : i < rho.length := by
        have := (List.getElem?_eq_some_iff.mp q).1
        rwa [List.length_set] at this
      rw [List.getElem?_set_self hl] at q
      cases q
      exact o.elim
    · rw [List.getElem?_set_ne hj] at q; exact ⟨hj, q⟩
  refine ⟨r.sub, r.new, r.fr, r.pre, r.a0, r.nd, by rw [List.length_set, List.length_set]; exact r.len, fun j sj e => ?_, fun j k sj sk p hjk e1 e2 o1 o2 e3 e4 => ?_, fun b u e => ?_, r.hl, r.heap, r.io, r.df, fun q hq => ⟨(r.ii q hq).1, (r.ii q hq).2.1, fun j sj e1 o1 => ?_⟩⟩
  · by_cases hj : i = j
    · subst hj
      have hl : i < rho.length := by
        have := (List.getElem?_eq_some_iff.mp e).1
        rwa [List.length_set] at this
      rw [List.getElem?_set_self hl] at e
      cases e
      trivial
    · rw [List.getElem?_set_ne hj] at e ⊢
      exact r.slot j sj e
  · obtain ⟨n1, w1⟩ := old e1 o1
    obtain ⟨n2, w2⟩ := old e2 o2
    rw [List.getElem?_set_ne n1] at e3
    rw [List.getElem?_set_ne n2] at e4
    exact r.sep j k sj sk p hjk w1 w2 o1 o2 e3 e4
  · obtain ⟨k1, k2, k3, k4, k5⟩ := r.kp b u e
    refine ⟨k1, k2, k3, k4, fun j sj e1 o1 => ?_⟩
    obtain ⟨n1, w1⟩ := old e1 o1
    rw [List.getElem?_set_ne n1]
    exact k5 j sj w1 o1
  · obtain ⟨n1, w1⟩ := old e1 o1
    rw [List.getElem?_set_ne n1]
    exact (r.ii q hq).2.2 j sj w1 o1
theorem Rel.wipe (r : Rel X.K B F α rho h σ H) : ∀ vs : List Nat, Rel X.K B F α (wipeR rho vs) h (L2.wipe σ vs) H
  | [] => r
  | v :: vs => (Rel.wipe r vs).setNo
theorem wipeR_off (rho : Ro) : ∀ vs : List Nat, Off vs rho (wipeR rho vs)
  | [] => Off.refl
  | v :: vs => by
    have ih := wipeR_off rho vs
    refine ⟨by unfold wipeR; rw [List.length_set, ih.1], fun i hi => ?_⟩
    unfold wipeR
    rw [List.getElem?_set_ne (show v ≠ i from fun z => hi (z ▸ List.mem_cons_self)), ih.2 i (fun z => hi (List.mem_cons_of_mem _ z))]
theorem wipe_off (σ : L2.St) : ∀ vs : List Nat, Off vs σ (L2.wipe σ vs)
  | [] => Off.refl
  | v :: vs => by
    have ih := wipe_off σ vs
    refine ⟨by unfold L2.wipe; rw [List.length_set, ih.1], fun i hi => ?_⟩
    unfold L2.wipe
    rw [List.getElem?_set_ne (show v ≠ i from fun z => hi (z ▸ List.mem_cons_self)), ih.2 i (fun z => hi (List.mem_cons_of_mem _ z))]
theorem wipe_at (σ : L2.St) {i : Nat} : ∀ {vs : List Nat}, i ∈ vs → i < σ.length → (L2.wipe σ vs)[i]? = some none
  | v :: vs, hm, hl => by
    unfold L2.wipe
    by_cases hv : v = i
    · subst hv
      rw [List.getElem?_set_self (by rw [wipe_length]; exact hl)]
    · rw [List.getElem?_set_ne hv]
      rcases List.mem_cons.mp hm with z | z
      · exact absurd z.symm hv
      · exact wipe_at σ z hl
/-- what differs only within vs is wiped alike -/
theorem wipe_eq {vs : List Nat} (o : Off vs σ σ') : L2.wipe σ' vs = L2.wipe σ vs := by
  refine List.ext_getElem? fun i => ?_
  by_cases hi : i ∈ vs
  · by_cases hl : i < σ.length
    · rw [wipe_at σ hi hl, wipe_at σ' hi (by rw [o.1]; exact hl)]
    · rw [List.getElem?_eq_none (by rw [wipe_length, o.1]; omega), List.getElem?_eq_none (by rw [wipe_length]; omega)]
  · rw [(wipe_off σ' vs).2 i hi, (wipe_off σ vs).2 i hi, o.2 i hi]
mutual
theorem put_off : ∀ {t : Tgt} {d : D} {rho rho' : Ro}, t.put d rho = some rho' → Off t.slots rho rho'
  | .name i, d, rho, rho', e => by unfold Tgt.put at e; cases e; unfold Tgt.slots; exact Off.set
  | .tup ts, .tuple ds, rho, rho', e => by unfold Tgt.put at e; unfold Tgt.slots; exact putAll_off e
  | .tup _, .none, _, _, e => by unfold Tgt.put at e; cases e
  | .tup _, .bool _, _, _, e => by unfold Tgt.put at e; cases e
  | .tup _, .int _, _, _, e => by unfold Tgt.put at e; cases e
  | .tup _, .str _, _, _, e => by unfold Tgt.put at e; cases e
  | .tup ts, .list ds, rho, rho', e => by unfold Tgt.put at e; unfold Tgt.slots; exact putAll_off e
  | .tup _, .dict _, _, _, e => by unfold Tgt.put at e; cases e
theorem putAll_off : ∀ {ts : List Tgt} {ds : List D} {rho rho' : Ro}, putAll ts ds rho = some rho' → Off (slotsAll ts) rho rho'
  | [], [], rho, rho', e => by unfold putAll at e; cases e; exact Off.refl
  | [], _ :: _, _, _, e => by unfold putAll at e; cases e
  | _ :: _, [], _, _, e => by unfold putAll at e; cases e
  | t :: ts, d :: ds, rho, rho', e => by
    unfold putAll at e
    cases w : t.put d rho with
    | none => rw [w] at e; cases e
    | some rho1 =>
      rw [w] at e
      unfold slotsAll
      exact (put_off w).app (putAll_off e)
end
theorem Off.sub {β : Type} {vs ws : List Nat} {a b : List β} (o : Off vs a b) (h : ∀ i ∈ vs, i ∈ ws) : Off ws a b := ⟨o.1, fun i hi => o.2 i fun z => hi (h i z)⟩
theorem Off.trans {β : Type} {vs : List Nat} {a b c : List β} (o : Off vs a b) (o2 : Off vs b c) : Off vs a c := ⟨o2.1.trans o.1, fun i hi => (o2.2 i hi).trans (o.2 i hi)⟩
theorem plain_at {vs : List Nat} (hp : plainAt rho vs = true) {i : Nat} (hi : i ∈ vs) : rho[i]? = some .no ∨ ∃ d, rho[i]? = some (.val d) := by
  unfold plainAt at hp
  have z := List.all_eq_true.mp hp i hi
  split at z
  · exact .inl (by assumption)
  · exact .inr ⟨_, by assumption⟩
  · cases z
/-- back from a block whose own names stand at vs -/
theorem Rel.back {vs : List Nat} {H2 : Hp} {F2 : Hp} {α2 : List Addr} {h2 : Hh} (r0 : Rel X.K B F α rho h σ H) (hp : plainAt rho vs = true) (s : Same F F2) (o1 : Off vs rho rho') (o2 : Off vs σ σ') (r : Rel X.K B F2 α2 rho' h2 σ' H2) : Rel X.K B F2 α2 rho h2 σ H2 := by
  have own : ∀ {i : Nat} {sl : Slot}, rho[i]? = some sl → IsOwn sl → i ∉ vs := fun {i sl} e o hi => by
    rcases plain_at hp hi with z | ⟨d, z⟩ <;> (rw [e] at z; cases z; exact o)
  refine ⟨r.sub, r.new, r.fr, r.pre, r.a0, r.nd, r0.len, fun i sl e => ?_, fun i j si sj p hij e1 e2 w1 w2 e3 e4 => ?_, fun b u e => ?_, r.hl, r.heap, r.io, r.df, fun q hq => ⟨(r.ii q hq).1, (r.ii q hq).2.1, fun j sj e1 w1 => ?_⟩⟩
  · by_cases hi : i ∈ vs
    · rcases plain_at hp hi with z | ⟨d, z⟩
      · rw [e] at z; cases z; trivial
      · rw [e] at z; cases z
        obtain ⟨v, e1, e2⟩ := r0.slot i _ e
        exact ⟨v, e1, rp_mono s e2⟩
    · rw [← o2.2 i hi]
      exact r.slot i sl (by rw [o1.2 i hi]; exact e)
  · have n1 := own e1 w1
    have n2 := own e2 w2
    exact r.sep i j si sj p hij (by rw [o1.2 i n1]; exact e1) (by rw [o1.2 j n2]; exact e2) w1 w2 (by rw [o2.2 i n1]; exact e3) (by rw [o2.2 j n2]; exact e4)
  · obtain ⟨k1, k2, k3, k4, k5⟩ := r.kp b u e
    refine ⟨k1, k2, k3, k4, fun j sj e1 w1 => ?_⟩
    have n1 := own e1 w1
    rw [← o2.2 j n1]
    exact k5 j sj (by rw [o1.2 j n1]; exact e1) w1
  · have n1 := own e1 w1
    rw [← o2.2 j n1]
    exact (r.ii q hq).2.2 j sj (by rw [o1.2 j n1]; exact e1) w1
/-- a thing of ours alone is changed -/
theorem Rel.over {p : Addr} {o : HO} (r : Rel X.K B F α rho h σ H) (f : Fresh B F α rho σ H p) : Rel X.K B F α rho h σ (upd H p o) := by
  refine ⟨fun b u q => ?_, r.new, fun b u q hb hi => ?_, r.pre, r.a0, r.nd, r.len, fun i sl e => ?_, r.sep, fun b u e => ?_, r.hl, fun n q u e1 e2 => ?_, r.io.to f.innO r.io.f (fun q hq => by rw [upd_ne (show q ≠ p from fun z => f.i (z ▸ hq))]; exact r.io.h q hq), fun b u q => ?_, by rw [f.innO]; exact r.ii⟩
  · rw [upd_ne]
    · exact r.sub b u q
    · rintro rfl; rw [f.f] at q; cases q
  · rw [upd_ne]
    · exact r.fr b u q hb hi
    · rintro rfl; rw [f.h0] at q; cases q
  · have z := r.slot i sl e
    cases sl with
    | own ds =>
      obtain ⟨p2, vs2, f1, f0, fa, f2, f3, f4⟩ := z
      refine ⟨p2, vs2, f1, f0, fa, f2, ?_, f4⟩
      rw [upd_ne]
      · exact f3
      · rintro rfl; exact f.o i _ e trivial (jn f1)
    | ownd kvs =>
      obtain ⟨p2, f1, f0, fa, f2, ob, xs, f3, f4⟩ := z
      refine ⟨p2, f1, f0, fa, f2, ob, xs, ?_, f4⟩
      rw [upd_ne]
      · exact f3
      · rintro rfl; exact f.o i _ e trivial (jn f1)
    | refs ns =>
      obtain ⟨p2, vs2, f1, f0, fa, f2, f3, f4⟩ := z
      refine ⟨p2, vs2, f1, f0, fa, f2, ?_, f4⟩
      rw [upd_ne]
      · exact f3
      · rintro rfl; exact f.o i _ e trivial (jn f1)
    | _ => exact z
  · obtain ⟨k1, k2⟩ := r.kp b u e
    refine ⟨?_, k2⟩
    rw [upd_ne]
    · exact k1
    · rintro rfl; rw [f.k] at e; cases e
  · have nq : q ≠ p := fun w => f.a (w ▸ List.mem_of_getElem? e1)
    exact (r.heap n q u e1 e2).keep same_refl id (upd_ne nq) fun b hb => upd_ne fun w => f.i (w ▸ mem_innA (List.mem_of_getElem? e1) hb)
  · by_cases hb : b = p
    · subst hb; exact ⟨_, upd_same⟩
    · rw [upd_ne hb]; exact r.df b u q
/-- no exception is wanted -/
def W0 : WX := fun _ _ _ _ => False
theorem t_comp {vs : List Nat} {l : DenL} {t : Tgt} {tt : DenT} {el : Den} (hv : ∀ i ∈ t.slots, i ∈ vs) (σ : L2.St) (H : Hp) (Q : VK) (z : tL X W (lComp vs l t tt el) σ H Q) : tLc (tIC X W l) (gT X.K t) (tT X W0 tt) (tE X W0 el) vs σ H Q := by
  obtain ⟨B, F, α, rho, h, r, p⟩ := z
  unfold lComp at p
  split at p
  · rename_i hp
    refine ⟨B, F, α, rho, h, r, post_imp (post_bind p) fun ds F1 α1 H1 s1 ⟨h1, r1, p1⟩ J hl it => ?_⟩
    intro A hA
    have fr := r1.freshU (o := .lst []) hA
    have r1' : Rel X.K B F1 α1 rho h1 σ (upd H1 A (.lst [])) := r1.add hA
    refine ⟨fun i m H' => i + m = ds.length ∧ ∃ F2 α2 h2 acc ws, Same F1 F2 ∧ Rel X.K (B.keep A (.lst ws)) F2 α2 rho h2 σ H' ∧ RpAll X.K F2 ws acc ∧ ws.length ≤ i ∧ Post X W B σ F2 rho (loopC vs t tt el rho (ds.drop i) acc h2) (GL X B rho σ Q),
      ⟨ds.length, by omega, F1, α1, h1, [], [], same_refl, r1'.keep fr upd_same, .nil, Nat.le_refl _, by rw [List.drop_zero]; exact p1⟩, ?_⟩
    rintro i m H' ⟨hm, F2, α2, h2, acc, ws, s2, r2, rw2, lw, p2⟩
    obtain ⟨g1, g2, g3⟩ := it _ F2 α2 h2 H' s2 r2
    by_cases hi : i < ds.length
    · refine .inr ⟨g1 i hi, fun H3 => ∃ F3 α3 h3 acc ws, Same F1 F3 ∧ Rel X.K (B.keep A (.lst ws)) F3 α3 rho h3 σ H3 ∧ RpAll X.K F3 ws acc ∧ ws.length ≤ i + 1 ∧ Post X W B σ F3 rho (loopC vs t tt el rho (ds.drop (i + 1)) acc h3) (GL X B rho σ Q), fun H3 ⟨F3, α3, h3, acc3, ws3, s3, r3, rw3, lw3, p3⟩ => ⟨m - 1, by omega, by omega, F3, α3, h3, acc3, ws3, s3, r3, rw3, lw3, p3⟩, fun x H3 y => ?_⟩
      obtain ⟨F3, d, x3, ed, rd⟩ := g3 i x H3 hi y
      have r3 := r2.ext x3
      have ed2 : ds.drop i = d :: ds.drop (i + 1) := by
        rw [List.drop_eq_getElem_cons hi]
        rw [List.getElem?_eq_getElem hi] at ed
        rw [Option.some.inj ed]
      rw [ed2] at p2
      unfold loopC at p2
      cases w : t.put d (wipeR rho vs) with
      | none => rw [w] at p2; exact p2.elim
      | some rho' =>
        rw [w] at p2
        have of1 : Off vs rho rho' := (wipeR_off rho vs).trans ((put_off w).sub hv)
        refine ⟨_, F3, α2, wipeR rho vs, h2, d, rho', r3.wipe vs, rd, w, fun σ4 o4 r4 => ?_⟩
        have of2 : Off vs σ σ4 := (wipe_off σ vs).trans (o4.sub hv)
        refine ⟨wipe_eq of2, _, F3, α2, rho', h2, r4, ?_⟩
        dsimp only at p2
        cases wt : tt rho' h2 with
        | bad => rw [wt] at p2; exact p2.elim
        | exc c h5 => rw [wt] at p2; exact p2.elim
        | ok b h5 =>
          rw [wt] at p2
          intro F5 α5 H5 s5 r5
          cases b with
          | false =>
            rw [if_neg Bool.false_ne_true]
            have rb := r2.back hp (x3.f.trans s5) of1 of2 r5
            exact ⟨F5, α5, h5, acc, ws, s2.trans (x3.f.trans s5), rb, rpAll_mono (x3.f.trans s5) rw2, by omega, post_mono (x3.f.trans s5) p2⟩
          | true =>
            rw [if_pos rfl]
            refine ⟨_, F5, α5, rho', h5, r5, ?_⟩
            dsimp only at p2
            cases we : el rho' h5 with
            | bad => rw [we] at p2; exact p2.elim
            | exc c h6 => rw [we] at p2; exact p2.elim
            | ok y h6 =>
              rw [we] at p2
              intro F6 α6 H6 s6 r6 v hvv
              have sm : Same F2 F6 := x3.f.trans (s5.trans s6)
              have rb := r2.back hp sm of1 of2 r6
              obtain ⟨ru, fu, eu⟩ := rb.unkeep fr.k
              refine ⟨ws, eu, Nat.lt_of_le_of_lt lw (Nat.lt_of_lt_of_le hi hl), F6, α6, h6, acc ++ [y], ws ++ [v], s2.trans sm, (ru.over fu).keep fu.over upd_same, (rpAll_mono sm rw2).append (.one hvv), by rw [List.length_append]; simpa using lw, post_mono sm p2⟩
    · have e : i = ds.length := by omega
      subst e
      rw [List.drop_length] at p2
      obtain ⟨ru, fu, eu⟩ := r2.unkeep fr.k
      exact .inl ⟨g2, p2 F2 α2 H' same_refl ru A ws fu eu ⟨rw2, by rw [← rw2.length]; exact Nat.le_trans lw hl⟩⟩
  · exact p.elim
theorem t_comp2 {vs vs1 : List Nat} {l l1 : DenL} {t t1 : Tgt} {tt tt1 : DenT} {el : Den} (hv : ∀ i ∈ t.slots, i ∈ vs) (hv1 : ∀ i ∈ t1.slots, i ∈ vs1) (hsub : ∀ i ∈ vs1, i ∈ vs) (σ : L2.St) (H : Hp) (Q : VK) (z : tL X W (lComp2 vs l t tt l1 vs1 t1 tt1 el) σ H Q) :
    tLc2 (tIC X W l) (gT X.K t) (tT X W0 tt) (tIC X W0 l1) (gT X.K t1) (tT X W0 tt1) (tE X W0 el) vs vs1 σ H Q := by
  obtain ⟨B, F, α, rho, h, r, p⟩ := z
  unfold lComp2 at p
  split at p
  · rename_i hp
    refine ⟨B, F, α, rho, h, r, post_imp (post_bind p) fun ds F1 α1 H1 s1 ⟨h1, r1, p1⟩ J hl it => ?_⟩
    intro A hA
    have fr := r1.freshU (o := .lst []) hA
    have r1' : Rel X.K B F1 α1 rho h1 σ (upd H1 A (.lst [])) := r1.add hA
    refine ⟨fun i m H' => i + m = ds.length ∧ ∃ F2 α2 h2 acc ws, Same F1 F2 ∧ Rel X.K (B.keep A (.lst ws)) F2 α2 rho h2 σ H' ∧ RpAll X.K F2 ws acc ∧ acc.length ≤ sizeLine ∧ Post X W B σ F2 rho (loopO vs t tt l1 vs1 t1 tt1 el rho (ds.drop i) acc h2) (GL X B rho σ Q),
      ⟨ds.length, by omega, F1, α1, h1, [], [], same_refl, r1'.keep fr upd_same, .nil, Nat.zero_le _, by rw [List.drop_zero]; exact p1⟩, ?_⟩
    rintro i m H' ⟨hm, F2, α2, h2, acc, ws, s2, r2, rw2, lw, p2⟩
    obtain ⟨g1, g2, g3⟩ := it _ F2 α2 h2 H' s2 r2
    by_cases hi : i < ds.length
    · refine .inr ⟨g1 i hi, fun H3 => ∃ F3 α3 h3 acc ws, Same F1 F3 ∧ Rel X.K (B.keep A (.lst ws)) F3 α3 rho h3 σ H3 ∧ RpAll X.K F3 ws acc ∧ acc.length ≤ sizeLine ∧ Post X W B σ F3 rho (loopO vs t tt l1 vs1 t1 tt1 el rho (ds.drop (i + 1)) acc h3) (GL X B rho σ Q), fun H3 ⟨F3, α3, h3, acc3, ws3, s3, r3, rw3, lw3, p3⟩ => ⟨m - 1, by omega, by omega, F3, α3, h3, acc3, ws3, s3, r3, rw3, lw3, p3⟩, fun x H3 y => ?_⟩
      obtain ⟨F3, d, x3, ed, rd⟩ := g3 i x H3 hi y
      have r3 := r2.ext x3
      have ed2 : ds.drop i = d :: ds.drop (i + 1) := by
        rw [List.drop_eq_getElem_cons hi]
        rw [List.getElem?_eq_getElem hi] at ed
        rw [Option.some.inj ed]
      rw [ed2] at p2
      unfold loopO at p2
      cases w : t.put d (wipeR rho vs) with
      | none => rw [w] at p2; exact p2.elim
      | some rho' =>
        rw [w] at p2
        have of1 : Off vs rho rho' := (wipeR_off rho vs).trans ((put_off w).sub hv)
        refine ⟨_, F3, α2, wipeR rho vs, h2, d, rho', r3.wipe vs, rd, w, fun σ4 o4 r4 => ?_⟩
        have of2 : Off vs σ σ4 := (wipe_off σ vs).trans (o4.sub hv)
        refine ⟨wipe_eq of2, _, F3, α2, rho', h2, r4, ?_⟩
        dsimp only at p2
        cases wt : tt rho' h2 with
        | bad => rw [wt] at p2; exact p2.elim
        | exc c h5 => rw [wt] at p2; exact p2.elim
        | ok b h5 =>
          rw [wt] at p2
          intro F5 α5 H5 s5 r5
          cases b with
          | false =>
            rw [if_neg Bool.false_ne_true]
            have rb := r2.back hp (x3.f.trans s5) of1 of2 r5
            exact ⟨F5, α5, h5, acc, ws, s2.trans (x3.f.trans s5), rb, rpAll_mono (x3.f.trans s5) rw2, lw, post_mono (x3.f.trans s5) p2⟩
          | true =>
            rw [if_pos rfl]
            dsimp only at p2
            split at p2
            · rename_i hp1
              refine ⟨_, F5, α5, rho', h5, r5, ?_⟩
              cases wl : l1 rho' h5 with
              | bad => rw [wl] at p2; exact p2.elim
              | exc c h6 => rw [wl] at p2; exact p2.elim
              | ok ds1 h6 =>
                rw [wl] at p2
                intro F6 α6 H6 s6 r6 J1 hl1 it1
                have sm6 : Same F2 F6 := x3.f.trans (s5.trans s6)
                refine ⟨fun j q H7 => j + q = ds1.length ∧ ∃ F7 α7 h7 acc ws, Same F6 F7 ∧ Rel X.K (B.keep A (.lst ws)) F7 α7 rho' h7 σ4 H7 ∧ RpAll X.K F7 ws acc ∧ acc.length ≤ sizeLine ∧ Post X W B σ F7 rho (loopI vs1 t1 tt1 el rho' (fun acc' h' => loopO vs t tt l1 vs1 t1 tt1 el rho (ds.drop (i + 1)) acc' h') (ds1.drop j) acc h7) (GL X B rho σ Q),
                  ⟨ds1.length, by omega, F6, α6, h6, acc, ws, same_refl, r6, rpAll_mono sm6 rw2, lw, by rw [List.drop_zero]; exact post_mono sm6 p2⟩, ?_⟩
                rintro j q H7 ⟨hq, F7, α7, h7, acc7, ws7, s7, r7, rw7, lw7, p7⟩
                obtain ⟨e1, e2, e3⟩ := it1 _ F7 α7 h7 H7 s7 r7
                by_cases hj : j < ds1.length
                · refine .inr ⟨e1 j hj, fun H8 => ∃ F8 α8 h8 acc ws, Same F6 F8 ∧ Rel X.K (B.keep A (.lst ws)) F8 α8 rho' h8 σ4 H8 ∧ RpAll X.K F8 ws acc ∧ acc.length ≤ sizeLine ∧ Post X W B σ F8 rho (loopI vs1 t1 tt1 el rho' (fun acc' h' => loopO vs t tt l1 vs1 t1 tt1 el rho (ds.drop (i + 1)) acc' h') (ds1.drop (j + 1)) acc h8) (GL X B rho σ Q), fun H8 ⟨F8, α8, h8, acc8, ws8, s8, r8, rw8, lw8, p8⟩ => ⟨q - 1, by omega, by omega, F8, α8, h8, acc8, ws8, s8, r8, rw8, lw8, p8⟩, fun x8 H8 y8 => ?_⟩
                  obtain ⟨F8, d8, x8', ed8, rd8⟩ := e3 j x8 H8 hj y8
                  have r8 := r7.ext x8'
                  have ed9 : ds1.drop j = d8 :: ds1.drop (j + 1) := by
                    rw [List.drop_eq_getElem_cons hj]
                    rw [List.getElem?_eq_getElem hj] at ed8
                    rw [Option.some.inj ed8]
                  rw [ed9] at p7
                  unfold loopI at p7
                  cases w8 : t1.put d8 (wipeR rho' vs1) with
                  | none => rw [w8] at p7; exact p7.elim
                  | some rho8 =>
                    rw [w8] at p7
                    have of3 : Off vs1 rho' rho8 := (wipeR_off rho' vs1).trans ((put_off w8).sub hv1)
                    refine ⟨_, F8, α7, wipeR rho' vs1, h7, d8, rho8, r8.wipe vs1, rd8, w8, fun σ9 o9 r9 => ?_⟩
                    have of4 : Off vs1 σ4 σ9 := (wipe_off σ4 vs1).trans (o9.sub hv1)
                    refine ⟨wipe_eq of4, _, F8, α7, rho8, h7, r9, ?_⟩
                    dsimp only at p7
                    cases wt8 : tt1 rho8 h7 with
                    | bad => rw [wt8] at p7; exact p7.elim
                    | exc c h9 => rw [wt8] at p7; exact p7.elim
                    | ok b h9 =>
                      rw [wt8] at p7
                      intro F9 α9 H9 s9 r9'
                      cases b with
                      | false =>
                        rw [if_neg Bool.false_ne_true]
                        have rb := r7.back hp1 (x8'.f.trans s9) of3 of4 r9'
                        exact ⟨F9, α9, h9, acc7, ws7, s7.trans (x8'.f.trans s9), rb, rpAll_mono (x8'.f.trans s9) rw7, lw7, post_mono (x8'.f.trans s9) p7⟩
                      | true =>
                        rw [if_pos rfl]
                        refine ⟨_, F9, α9, rho8, h9, r9', ?_⟩
                        dsimp only at p7
                        cases we : el rho8 h9 with
                        | bad => rw [we] at p7; exact p7.elim
                        | exc c h6 => rw [we] at p7; exact p7.elim
                        | ok y h10 =>
                          rw [we] at p7
                          dsimp only at p7
                          split at p7
                          · rename_i hacc
                            intro F10 α10 H10 s10 r10 v hvv
                            have sm : Same F7 F10 := x8'.f.trans (s9.trans s10)
                            have rb := r7.back hp1 sm of3 of4 r10
                            obtain ⟨ru, fu, eu⟩ := rb.unkeep fr.k
                            have la : ws7.length < sizeLine := by
                              rw [rw7.length]
                              exact Nat.lt_of_lt_of_le hacc lim_le
                            refine ⟨ws7, eu, la, F10, α10, h10, acc7 ++ [y], ws7 ++ [v], s7.trans sm, (ru.over fu).keep fu.over upd_same, (rpAll_mono sm rw7).append (.one hvv), by rw [List.length_append, ← rw7.length]; exact la, post_mono sm p7⟩
                          · exact p7.elim
                · have e : j = ds1.length := by omega
                  subst e
                  rw [List.drop_length] at p7
                  unfold loopI at p7
                  have sm : Same F2 F7 := sm6.trans s7
                  obtain ⟨ru2, fu2, _⟩ := r2.unkeep fr.k
                  obtain ⟨ru7, fu7, eu7⟩ := r7.unkeep fr.k
                  have rb := ru2.back hp sm of1 of2 ru7
                  exact .inl ⟨e2, F7, α7, h7, acc7, ws7, s2.trans sm, rb.keep { fu7 with o := fu2.o } eu7, rw7, lw7, p7⟩
            · exact p2.elim
    · have e : i = ds.length := by omega
      subst e
      rw [List.drop_length] at p2
      obtain ⟨ru, fu, eu⟩ := r2.unkeep fr.k
      exact .inl ⟨g2, p2 F2 α2 H' same_refl ru A ws fu eu ⟨rw2, lw⟩⟩
  · exact p.elim
end
end Ev
/-! # Ev11: slices, zip, enumerate, pick from a written dict, extend, minus -/
namespace HT
open PySem PyProof.Rows
open PySem.SeqAt
open PySem.AutoSeq1 (wpAny_loadPart')
open PySem.MeetsSeq PySem.MeetsSeq2 PySem.MeetsSeq3
section
variable {prog : Program} {w : World} {A : Around} {E : Value → Shared → Prop} {s : Shared}
theorem getItem_tuple_whole {t sl : Addr} {items : Array Value} {vl vu : Value} {lo hi : Option Int} {Q : Value → Shared → Prop} (ht : IsTup s.heap t items) (hs : s.heap.IsSliceOf sl vl vu .none) (pl : IsPart vl lo) (pu : IsPart vu hi)
    (hw : sIx items.size 0 lo = 0 ∧ sIx items.size items.size hi = items.size) (h : Q (.ref t) s) : wpAny (model prog w) A (getItem (.ref t) (.ref sl)) Q E s := by
  obtain ⟨os, hos, hcs, hds⟩ := id hs
  have hTs : s.TypeIs (.ref sl) "slice" := ⟨os, hos, hcs⟩
  unfold getItem
  try with_reducible refine wpAny_holding ?_
  first | refine wpAny_bind (wpAny_pure ?_) | skip
  refine wpAny_bind (wpAny_sequenceKey ht.typeIs (by decide) ?_)
  refine wpAny_bind (wpAny_callSpecial?_slot (name := Str.ofString "__getitem__") ht.typeIs PyProof.Rows.slot_tuple_getitem
    (wpAny_call_entry PyProof.Rows.slot_tuple_getitem ht.typeIs entry_tuple_getitem ?_ (args_tuple_getitem _ _)))
  show wpAny _ _ (Builtin.Tuple.tupleItemsOf (.ref t) >>= _) _ _ s
  refine wpAny_bind (tupleItemsOf_ ht ?_)
  refine wpAny_bind (wpAny_typeOf hTs ?_)
  rw [if_pos (by decide)]
  refine wpAny_bind (sliceApplied_gen hs pl pu ?_)
  have hyes : (((sIx items.size 0 lo : Nat) : Int) == 0 && (1 : Int) == 1 && (sIx items.size items.size hi - sIx items.size 0 lo) == items.size) = true := by
    rw [hw.1, hw.2]
    simp
  show wpAny _ _ (if (((sIx items.size 0 lo : Nat) : Int) == 0 && (1 : Int) == 1 && (sIx items.size items.size hi - sIx items.size 0 lo) == items.size) = true then _ else _) _ _ s
  rw [if_pos hyes]
  unfold Builtin.Tuple.tupleIsExact
  refine wpAny_bind (wpAny_bind (wpAny_typeOf ht.typeIs (wpAny_pure ?_)))
  rw [if_pos (by decide)]
  first
    | exact wpAny_bind (wpAny_rule (wpAny_pure ⟨_, rfl, wpAny_pure h⟩))
    | exact wpAny_bind (wpAny_rule (wpAny_bind (wpAny_pure (wpAny_pure ⟨_, rfl, wpAny_pure h⟩))))
    | trace_state
end
end HT
namespace Ev
open PySem PySem.Spec PyProof.Rows L2
section
variable {X : Cx} {W : WX} {K : PySem.W.Frag}
/-- an operand, then a run, then k -/
theorem oThen {β γ : Type} {B : Fx} {F H : Hp} {α : List Addr} {rho : Ro} {h : Hh} {σ : L2.St} {o : Opd} {rest : Ro → Hh → R β} {k : D → β → Hh → R γ} {G : γ → Hp → List Addr → Hp → Prop} (r : Rel X.K B F α rho h σ H) (p : Post X W B σ F rho (opThen o rest k rho h) G) :
    tO X W o σ H fun x H1 => Run X W rest σ H1 fun b F2 α2 H2 => ∃ h2 a, Rel X.K B F2 α2 rho h2 σ H2 ∧ Top X.K F2 H2 x a ∧ Post X W B σ F2 rho (k a b h2) G := by
  cases o with
  | exp f =>
    refine ⟨B, F, α, rho, h, r, post_imp (post_bind p) fun a F1 α1 H1 s1 ⟨h1, r1, p1⟩ v hv => ⟨B, F1, α1, rho, h1, r1, ?_⟩⟩
    exact post_imp (post_bind p1) fun b F2 α2 H2 s2 ⟨h2, r2, p2⟩ => ⟨h2, a, r2, .dp (rp_mono s2 hv), p2⟩
  | var i =>
    have p : Post X W B σ F rho (match look rho h i with
      | some _ => (rest rho h).bind fun b h2 => (match look rho h2 i with
        | some a => k a b h2
        | none => .bad)
      | none => .bad) G := p
    cases e : look rho h i with
    | none => rw [e] at p; exact p.elim
    | some a0 =>
      rw [e] at p
      obtain ⟨v, ev, _⟩ := r.look e
      refine ⟨v, ev, B, F, α, rho, h, r, post_imp (post_bind p) fun b F2 α2 H2 s2 ⟨h2, r2, p2⟩ => ?_⟩
      cases e2 : look rho h2 i with
      | none => rw [e2] at p2; exact p2.elim
      | some a =>
        rw [e2] at p2
        obtain ⟨w, ew, tw⟩ := r2.look e2
        rw [ev] at ew
        cases ew
        exact ⟨h2, a, r2, tw, p2⟩
/-! ### slices -/
def rSlTA (K : PySem.W.Frag) : V → Option Int → Option Int → Hp → VK → Prop := fun x lo hi H Q => ∃ a xs, x = .ref a ∧ SqT K H a xs ∧
  ((HT.sIx xs.length 0 lo = 0 ∧ HT.sIx xs.length xs.length hi = xs.length) → Q (.ref a) H) ∧ (¬ (HT.sIx xs.length 0 lo = 0 ∧ HT.sIx xs.length xs.length hi = xs.length) → ∀ p o, H p = none → o.dict = none → Q (.ref p) (upd H p (.frz o (.tup (cutV xs lo hi)))))
theorem sl_tupA : L2.SlR X (rSlTA X.K) := by
  intro pins s σ H x v vl vu lo hi sl Q I rx hs pl pu h
  obtain ⟨a, xs, rfl, hx, q1, q2⟩ := h
  by_cases hw : HT.sIx xs.length 0 lo = 0 ∧ HT.sIx xs.length xs.length hi = xs.length
  · cases rx
    obtain ⟨its, r, ht, hz⟩ := I.tuple hx
    have hlen : its.toArray.size = xs.length := by rw [List.size_toArray]; exact r.length.symm
    refine ⟨"tuple", _, PyProof.Rows.slot_tuple_getitem.lookup, ht.typeIs, ?_⟩
    exact HT.getItem_tuple_whole ht hs pl pu (by rw [hlen]; exact hw) ⟨.ref a, H, I, rfl, q1 hw⟩
  · cases rx
    obtain ⟨its, r, ht, hz⟩ := I.tuple hx
    have hlen : its.toArray.size = xs.length := by rw [List.size_toArray]; exact r.length.symm
    refine ⟨"tuple", _, PyProof.Rows.slot_tuple_getitem.lookup, ht.typeIs, HT.getItem_tuple_cut ht hs pl pu (by rw [hlen]; exact hw) ?_ (by rw [hlen]; exact hz)⟩
    rw [hlen]
    have ok : ∀ (H' : Hp) (h' : Heap) (b : Addr) (ob : Obj), h'.get? b = some ob → ob = { cls := .type "tuple", data := .seq ((its.drop (HT.sIx xs.length 0 lo)).take (HT.sIx xs.length xs.length hi - HT.sIx xs.length 0 lo)).toArray } → ObjOk X.prog X.w H' h' b (.frz ob (.tup (cutV xs lo hi))) := fun H' h' b ob e z =>
      ⟨e, Nat.le_trans (cutV_length xs lo hi) hz, _, (r.drop _).take _, ⟨ob, e, by rw [z], 0, by rw [z]⟩⟩
    exact ⟨.ref s.heap.objs.size, _, I.laid (t' := s.toks) (fun b ob q => Heap.get?_push_of_some _ q) (Nat.le_refl _) (ok _ _ _ _ (Heap.get?_push_size _ rfl) rfl), rfl, q2 hw _ _ (I.hok.fresh (Nat.le_refl _)) rfl⟩
theorem SlR.or {r r' : V → Option Int → Option Int → Hp → VK → Prop} (h : L2.SlR X r) (h' : L2.SlR X r') : L2.SlR X (fun x lo hi H Q => r x lo hi H Q ∨ r' x lo hi H Q) := by
  intro pins s σ H x v vl vu lo hi sl Q I rx hs pl pu q
  rcases q with q | q
  · exact h pins s σ H x v vl vu lo hi sl Q I rx hs pl pu q
  · exact h' pins s σ H x v vl vu lo hi sl Q I rx hs pl pu q
theorem RpL.cut {F : Hp} {vs : List V} {ds : List D} {lo hi : Option Int} (r : RpL K F vs ds) : RpL K F (cutV vs lo hi) (cutL ds lo hi) := by
  refine ⟨?_, ?_⟩
  · unfold cutV cutL
    rw [r.length]
    exact (r.all.drop _).take _
  · unfold cutL
    rw [List.length_take, List.length_drop]
    have := r.le
    omega
theorem cut_whole {ds : List D} {lo hi : Option Int} (h : HT.sIx ds.length 0 lo = 0 ∧ HT.sIx ds.length ds.length hi = ds.length) : cutL ds lo hi = ds := by
  unfold cutL
  rw [h.1, h.2]
  simp
def tPs (X : Cx) (W : WX) (o : Option Den) : L2.TO := fun σ H Q => Run X W (partRun o) σ H fun a _ _ H' => Q a H'
abbrev JP (X : Cx) (W : WX) (e : Option Expr) (o : Option Den) : Prop := PO X e (tPs X W o)
theorem po_mono {e : Option Expr} {t t' : L2.TO} (q : PO X e t) (m : ∀ σ H Q, t' σ H Q → t σ H Q) : PO X e t' := ⟨fun pins s σ H Q I z => q.run pins s σ H Q I (m σ H Q z)⟩
theorem jp_none : JP X W none none := po_mono po_none fun σ H Q ⟨B, F, α, rho, h, r, p⟩ => post_ok r p
theorem jp_some {e : Expr} {f : Den} (h : JE X W e f) : JP X W (some e) (some f) := by
  refine po_mono (po_some h) fun σ H Q ⟨B, F, α, rho, h, r, p⟩ => ⟨B, F, α, rho, h, r, ?_⟩
  refine post_imp (post_bind p) fun d F1 α1 H1 s1 ⟨h1, r1, p1⟩ v hv => ?_
  cases d with
  | int i => cases hv; exact ⟨i, rfl, post_ok r1 p1⟩
  | _ => exact p1.elim
theorem parts_run {lo hi : Option Den} {σ : L2.St} {H : Hp} {G : Option Int × Option Int → Hp → List Addr → Hp → Prop} (z : Run X W (partsRun lo hi) σ H G) : tPs X W lo σ H fun a H1 => tPs X W hi σ H1 fun b H2 => ∃ F2 α2, G (a, b) F2 α2 H2 := by
  obtain ⟨B, F, α, rho, h, r, p⟩ := z
  refine ⟨B, F, α, rho, h, r, post_imp (post_bind p) fun a F1 α1 H1 s1 ⟨h1, r1, p1⟩ => ⟨B, F1, α1, rho, h1, r1, ?_⟩⟩
  exact post_imp (post_bind p1) fun b F2 α2 H2 s2 ⟨h2, r2, p2⟩ => ⟨F2, α2, post_ok r2 p2⟩
theorem tPs_mono {o : Option Den} {σ : L2.St} {H : Hp} {Q Q' : Option Int → Hp → Prop} (z : tPs X W o σ H Q) (m : ∀ a H', Q a H' → Q' a H') : tPs X W o σ H Q' := run_mono z fun a F' α' H' q => m a H' q
theorem je_cut {e : Expr} {lo hi : Option Expr} {o : Opd} {dl dh : Option Den} {p2 pos : Pos} (he : JO X W e o) (hl : JP X W lo dl) (hh : JP X W hi dh) : JE X W (.Subscript e (.Slice lo hi none p2) pos) (dCut o dl dh) := by
  refine pe_mono (pe_slice (SlR.or (SlR.or sl_list sl_tupA) sl_str) he hl hh) fun σ H Q ⟨B, F, α, rho, h, r, p⟩ => ?_
  unfold tSl
  refine tO_mono (oThen r p) fun x H1 z1 => tPs_mono (parts_run z1) fun a H2 z2 => tPs_mono z2 fun b H3 ⟨F3, α3, h3, d, r3, tx, p3⟩ => ?_
  cases d with
  | list ds =>
    obtain ⟨q, vs, rfl, h1, r1⟩ := tx.list r3.sub
    exact .inl (.inl ⟨q, vs, rfl, .inl h1, mk_lst r3.sub r1.cut fun v F' H' x hv => post_ext r3 p3 x hv⟩)
  | tuple ds =>
    obtain ⟨q, vs, rfl, h1, r1⟩ := tx.tuple r3.sub
    refine .inl (.inr ⟨q, vs, rfl, h1, fun hw => ?_, fun _ => mk_tupF r3.sub r1.cut fun v F' H' x hv => post_ext r3 p3 x hv⟩)
    rw [r1.length] at hw
    have p3 : Post X W B σ F3 rho (.ok (.tuple (cutL ds a b)) h3) (GD X Q) := p3
    rw [cut_whole hw] at p3
    cases tx with
    | dp hh => exact post_ok r3 p3 _ hh
  | str z =>
    cases tx.str
    by_cases hz : z.length ≤ lim
    · have e : pCut (.str z) (a, b) = some (.str (cutS z a b)) := by
        unfold pCut
        dsimp only
        rw [if_pos hz]
        rfl
      rw [e] at p3
      exact .inr ⟨z, rfl, Nat.le_trans hz lim_le, post_ok r3 p3 _ (.str _)⟩
    · have e : pCut (.str z) (a, b) = none := by
        unfold pCut
        dsimp only
        rw [if_neg hz]
      rw [e] at p3
      exact p3.elim
  | _ => exact p3.elim
theorem jl_cut {e : Expr} {lo hi : Option Expr} {o : Opd} {dl dh : Option Den} {p2 pos : Pos} (he : JO X W e o) (hl : JP X W lo dl) (hh : JP X W hi dh) : JL X W (.Subscript e (.Slice lo hi none p2) pos) (lCut o dl dh) := by
  refine pe_mono (pe_slice sl_list he hl hh) fun σ H Q ⟨B, F, α, rho, h, r, p⟩ => ?_
  unfold tSl
  refine tO_mono (oThen r p) fun x H1 z1 => tPs_mono (parts_run z1) fun a H2 z2 => tPs_mono z2 fun b H3 ⟨F3, α3, h3, d, r3, tx, p3⟩ => ?_
  cases d with
  | list ds =>
    obtain ⟨q, vs, rfl, h1, r1⟩ := tx.list r3.sub
    exact ⟨q, vs, rfl, .inl h1, new_lst r3 p3 r1.cut⟩
  | _ => exact p3.elim
theorem jl_rev {e : Expr} {o : Opd} {k : Nat} {p1 p2 p3 pos : Pos} (he : JO X W e o) : JL X W (.Subscript e (.Slice none none (some (.UnaryOp .USub (.Constant (.int 1) k p1) p2)) p3) pos) (lRev o) := by
  refine pe_mono (pe_revL he) fun σ H Q ⟨B, F, α, rho, h, r, p⟩ => ?_
  unfold tRevL
  refine tO_mono (Ev.o1 r p) fun x H1 ⟨F1, α1, h1, a, s1, r1, tx, p1⟩ => ?_
  cases a with
  | list ds =>
    obtain ⟨q, vs, rfl, h2, r2⟩ := tx.list r1.sub
    exact ⟨q, vs, rfl, .inl h2, new_lst r1 p1 ⟨r2.all.rev, by rw [List.length_reverse]; exact r2.le⟩⟩
  | _ => exact p1.elim
/-! ### zip, enumerate -/
theorem zipD_get : ∀ {xs ys : List D} {i : Nat}, i < (zipD xs ys).length → ∃ a b, xs[i]? = some a ∧ ys[i]? = some b ∧ (zipD xs ys)[i]? = some (.tuple [a, b])
  | [], _, _, h => by simp [zipD] at h
  | _ :: _, [], _, h => by simp [zipD] at h
  | a :: as, b :: bs, 0, _ => ⟨a, b, rfl, rfl, rfl⟩
  | a :: as, b :: bs, i + 1, h => by
    obtain ⟨c, d, h1, h2, h3⟩ := zipD_get (xs := as) (ys := bs) (i := i) (by simpa [zipD] using h)
    exact ⟨c, d, by simpa using h1, by simpa using h2, by simpa [zipD] using h3⟩
theorem zipD_len : ∀ {xs ys : List D}, (zipD xs ys).length = xs.length ∨ (zipD xs ys).length = ys.length
  | [], _ => .inl rfl
  | _ :: _, [] => .inr rfl
  | a :: as, b :: bs => by
    rcases zipD_len (xs := as) (ys := bs) with h | h
    · exact .inl (by simp [zipD, h])
    · exact .inr (by simp [zipD, h])
theorem zipD_le : ∀ {xs ys : List D}, (zipD xs ys).length ≤ xs.length
  | [], _ => Nat.le_refl _
  | _ :: _, [] => Nat.zero_le _
  | a :: as, b :: bs => by
    have h := zipD_le (xs := as) (ys := bs)
    simp only [zipD, List.length_cons]
    omega
theorem ext_pair {F1 H : Hp} {T : Addr} {v1 v2 : V} {a b : D} (s : Same F1 H) (hT : H T = none) (r1 : Rp K F1 v1 a) (r2 : Rp K F1 v2 b) (nb : isBr a = false) : ∃ F', Ext F1 H F' (upd H T (.tup [v1, v2])) ∧ Rp K F' (.ref T) (.tuple [a, b]) := by
  have x := Ext.put (o := .tup [v1, v2]) s hT
  exact ⟨_, x, .tup (.inl (.inl upd_same)) (rpAll_mono x.f (.cons r1 (.cons r2 .nil))) (by show 2 ≤ sizeLine; rw [sizeLine_eq]; decide) fun z => by rw [show brn [a, b] = isBr a from rfl, nb] at z; cases z⟩
theorem noBr_at {ds : List D} {i : Nat} {a : D} (n : noBr ds = true) (e : ds[i]? = some a) : isBr a = false := by
  have := List.all_eq_true.mp n a (List.mem_of_getElem? e)
  simpa using this
theorem itF_zipL {F : Hp} {p q : Addr} {vs us : List V} {ds es : List D} (h : SqL K F p vs) (r : RpAll K F vs ds) (h' : SqL K F q us) (r' : RpAll K F us es) (nb : noBr ds = true) : ItF K F (Itz K p q) (zipD ds es) := by
  refine ⟨fun i H s hi => ?_, fun H s => ⟨vs, us, s.seq h, s.seq h', ?_⟩, fun i F1 H x H' s s1 hi y => ?_⟩
  · obtain ⟨a, b, h1, h2, _⟩ := zipD_get hi
    obtain ⟨v, e1, _⟩ := r.get h1
    obtain ⟨u, e2, _⟩ := r'.get h2
    exact ⟨vs, us, v, u, s.seq h, s.seq h', e1, e2⟩
  · rcases zipD_len (xs := ds) (ys := es) with z | z
    · exact .inl (by rw [z, r.length]; exact Nat.le_refl _)
    · exact .inr (by rw [z, r'.length]; exact Nat.le_refl _)
  · obtain ⟨T, v1, v2, rfl, hT, rfl, y1, y2⟩ := y
    obtain ⟨a, b, h1, h2, h3⟩ := zipD_get hi
    obtain ⟨a', e1, ra⟩ := r.getV (y1 vs ((s.trans s1).seq h))
    obtain ⟨b', e2, rb⟩ := r'.getV (y2 us ((s.trans s1).seq h'))
    rw [h1] at e1
    cases e1
    rw [h2] at e2
    cases e2
    obtain ⟨F', x, rp⟩ := ext_pair s1 hT (rp_mono s ra) (rp_mono s rb) (noBr_at nb h1)
    exact ⟨F', _, x, h3, rp⟩
theorem itF_zipT {F : Hp} {p q : Addr} {vs us : List V} {ds es : List D} (h : SqT K F p vs) (r : RpAll K F vs ds) (h' : SqT K F q us) (r' : RpAll K F us es) (nb : noBr ds = true) : ItF K F (RZ.ItzT K p q) (zipD ds es) := by
  refine ⟨fun i H s hi => ?_, fun H s => ⟨vs, us, Same.seqT s h, Same.seqT s h', ?_⟩, fun i F1 H x H' s s1 hi y => ?_⟩
  · obtain ⟨a, b, h1, h2, _⟩ := zipD_get hi
    obtain ⟨v, e1, _⟩ := r.get h1
    obtain ⟨u, e2, _⟩ := r'.get h2
    exact ⟨vs, us, v, u, Same.seqT s h, Same.seqT s h', e1, e2⟩
  · rcases zipD_len (xs := ds) (ys := es) with z | z
    · exact .inl (by rw [z, r.length]; exact Nat.le_refl _)
    · exact .inr (by rw [z, r'.length]; exact Nat.le_refl _)
  · obtain ⟨T, v1, v2, rfl, hT, rfl, y1, y2⟩ := y
    obtain ⟨a, b, h1, h2, h3⟩ := zipD_get hi
    obtain ⟨a', e1, ra⟩ := r.getV (y1 vs (Same.seqT (s.trans s1) h))
    obtain ⟨b', e2, rb⟩ := r'.getV (y2 us (Same.seqT (s.trans s1) h'))
    rw [h1] at e1
    cases e1
    rw [h2] at e2
    cases e2
    obtain ⟨F', x, rp⟩ := ext_pair s1 hT (rp_mono s ra) (rp_mono s rb) (noBr_at nb h1)
    exact ⟨F', _, x, h3, rp⟩
theorem ji_zip {e e2 : Expr} {f g : Den} {p pos tpos : Pos} {elts : List Expr} {kk : Nat} (hg : Gl X "zip") (hm : X.mg "zip" = none) (hs : isStar e = false) (hs2 : isStar e2 = false) (h : JE X W e f) (h2 : JE X W e2 g) : JI X W (.Tuple elts kk tpos) (.Call (.Name "zip" p) [e, e2] [] pos) (lZip f g) := by
  refine pi_mono (RZ.pi_zipA hg hm (pa_cons h (pa_cons h2 pa_nil (star_cons hs2)) (star_cons hs)) (star_cons hs) (by rw [star_cons hs2]; rfl)) fun σ H R ⟨B, F, α, rho, h, r, q⟩ => ?_
  unfold RZ.iZipA tCons tNil
  refine ⟨B, F, α, rho, h, r, post_imp (post_bind q) fun a F1 α1 H1 s1 ⟨h1, r1, p1⟩ v hv => ⟨B, F1, α1, rho, h1, r1, post_imp (post_bind p1) fun b F2 α2 H2 s2 ⟨h2, r2, p2⟩ w hw => ?_⟩⟩
  have hv2 := rp_mono s2 hv
  unfold kZip at p2
  cases hv2 with
  | lst k1 k2 k3 =>
    cases hw with
    | lst l1 l2 l3 =>
      dsimp only at p2
      split at p2
      · rename_i e
        split at e
        · rename_i nb
          cases e
          exact ⟨_, _, _, _, rfl, .inl ⟨.inl (Same.rd r2.sub k1), .inl (Same.rd r2.sub l1), post_ok r2 p2 _ (Nat.le_trans zipD_le k3) (itF_zipL (.inl k1) k2 (.inl l1) l2 nb)⟩⟩
        · cases e
      · exact p2.elim
    | _ => exact p2.elim
  | tup k1 k2 k3 _ =>
    cases hw with
    | tup l1 l2 l3 _ =>
      dsimp only at p2
      split at p2
      · rename_i e
        split at e
        · rename_i nb
          cases e
          exact ⟨_, _, _, _, rfl, .inr ⟨Same.seqT r2.sub k1, Same.seqT r2.sub l1, post_ok r2 p2 _ (Nat.le_trans zipD_le k3) (itF_zipT k1 k2 l1 l2 nb)⟩⟩
        · cases e
      · exact p2.elim
    | _ => exact p2.elim
  | _ => exact p2.elim
theorem enumD_get : ∀ {xs : List D} {i k : Nat}, i < (enumD k xs).length → ∃ a, xs[i]? = some a ∧ (enumD k xs)[i]? = some (.tuple [.int ((k + i : Nat) : Int), a])
  | [], _, _, h => by simp [enumD] at h
  | a :: as, 0, k, _ => ⟨a, rfl, rfl⟩
  | a :: as, i + 1, k, h => by
    obtain ⟨c, h1, h3⟩ := enumD_get (xs := as) (i := i) (k := k + 1) (by simpa [enumD] using h)
    refine ⟨c, by simpa using h1, ?_⟩
    rw [show k + (i + 1) = k + 1 + i by omega]
    simpa [enumD] using h3
theorem enumD_len : ∀ {xs : List D} {k : Nat}, (enumD k xs).length = xs.length
  | [], _ => rfl
  | a :: as, k => by simp [enumD, enumD_len (xs := as)]
theorem itF_enum {F : Hp} {p : Addr} {vs : List V} {ds : List D} (h : SqL K F p vs) (r : RpAll K F vs ds) : ItF K F (Ite K p) (enumD 0 ds) := by
  refine ⟨fun i H s hi => ?_, fun H s => ⟨vs, s.seq h, by rw [enumD_len, r.length]; exact Nat.le_refl _⟩, fun i F1 H x H' s s1 hi y => ?_⟩
  · obtain ⟨a, h1, _⟩ := enumD_get hi
    obtain ⟨v, e1, _⟩ := r.get h1
    exact ⟨vs, v, s.seq h, e1⟩
  · obtain ⟨T, v1, rfl, hT, rfl, y1⟩ := y
    obtain ⟨a, h1, h3⟩ := enumD_get hi
    obtain ⟨a', e1, ra⟩ := r.getV (y1 vs ((s.trans s1).seq h))
    rw [h1] at e1
    cases e1
    rw [Nat.zero_add] at h3
    obtain ⟨F', x, rp⟩ := ext_pair s1 hT (.int (i : Nat)) (rp_mono s ra) rfl
    exact ⟨F', _, x, h3, rp⟩
end
end Ev
/-! # En: enumerate over a tuple -/
namespace Ev
open PySem PySem.Spec PyProof.Rows L2
/-- enumerate of what begins an iterator -/
theorem enumB_new {v : Value} {o : Obj} {G : Heap → Prop} (B : Begins v o G) :
    Meets (Builtin.«enumerate.__new__» ⟨[.type "enumerate", v], []⟩) (fun _ R s => G s.heap ∧
      R (.ok (.ret (.ref (s.heap.push o).objs.size))) { s with heap := (s.heap.push o).push { cls := .type "enumerate", data := .fields #[.none, .bool false, .ref s.heap.objs.size, rawInt 0, .none, .none] } }) :=
  .of_wp fun prog w A R s h => by
    obtain ⟨hp, g, d, tk, os⟩ := s
    obtain ⟨h1, h⟩ := h
    have hsub := sub_enumerate
    have q1 : ∀ {A' : Around} {E : Value → Shared → Prop} {Q : Value → Shared → Prop}, Q (.ref hp.objs.size) ⟨hp.push o, g, d, tk, os⟩ → wpAny (model prog w) A' (pyIter v) Q E ⟨hp, g, d, tk, os⟩ := fun q => B.iter prog w _ _ ⟨hp, g, d, tk, os⟩ _ h1 q
    wp_walk using q1
    refine wpAny_stack_any fun st => wpAny_pure ?_
    split
    · rename_i c _ _ _ _ _
      cases (c == Value.type "enumerate") <;> (wp_walk using q1; exact ⟨_, rfl, h⟩)
    · wp_walk using q1
      exact ⟨_, rfl, h⟩
theorem enumB_call {prog : Program} {w : World} {A : Around} {E : Value → Shared → Prop} {s : Shared} {v : Value} {o : Obj} {G : Heap → Prop} {Q : Value → Shared → Prop} (B : Begins v o G) (h1 : G s.heap)
    (h : ∀ h', IsEnum h' (s.heap.objs.size + 1) s.heap.objs.size 0 .none → h'.get? s.heap.objs.size = some o → h'.objs.size = s.heap.objs.size + 2 → (∀ b o, s.heap.get? b = some o → h'.get? b = some o) → Q (.ref (s.heap.objs.size + 1)) { s with heap := h' }) :
    wpAny (model prog w) A (call (.type "enumerate") [v]) Q E s := by
  refine callType_new F.called_enumerate (by decide) (F.typeCall_enumerate_1 _) (F.newCall_enumerate_1 _) (fun obj => F.args_object_init_2 obj _) F.entry_enumerate_new (enumB_new B) ⟨h1, ?_⟩
  have hz : (s.heap.push o).objs.size = s.heap.objs.size + 1 := Heap.size_push ..
  show _ ∧ _
  rw [hz]
  obtain ⟨en, hen⟩ : ∃ en : Obj, en = { cls := .type "enumerate", data := .fields #[.none, .bool false, .ref s.heap.objs.size, rawInt 0, .none, .none] } := ⟨_, rfl⟩
  rw [← hen]
  have he : IsEnum ((s.heap.push o).push en) (s.heap.objs.size + 1) s.heap.objs.size 0 .none := by
    have := Heap.get?_push_size (s.heap.push o) (o := en) (by rw [hen]; rfl)
    rw [hz, hen] at this
    rw [hen]
    exact this
  exact ⟨⟨_, he, rfl⟩, h _ he (Heap.get?_push_of_some _ (Heap.get?_push_size _ B.free)) (by rw [Heap.size_push, hz]) fun b u x => Heap.get?_push_of_some _ (Heap.get?_push_of_some _ x)⟩
/-- the tuple at a, each item in a new pair -/
def IteT (K : PySem.W.Frag) (a : Addr) : It :=
  ⟨fun i H => ∃ (xs : List V) (x : V), SqT K H a xs ∧ xs[i]? = some x, fun i H v H' => ∃ T x, v = .ref T ∧ H T = none ∧ H' = upd H T (.tup [.int (i : Nat), x]) ∧ ∀ xs, SqT K H a xs → xs[i]? = some x, fun i H => ∃ xs : List V, SqT K H a xs ∧ xs.length = i⟩
theorem turn_enumT {P : Program} {w : World} {K : PySem.W.Frag} {elts : List Expr} {kk : Nat} {tpos : Pos} (a e it : Addr) (hne : e ≠ it) (hai : a ≠ it) (hea : e ≠ a) :
    Turn P w K (.Tuple elts kk tpos) (IteT K a) [e, it] e (fun i h => (∃ old, IsEnum h e it ((i : Nat) : Int) old) ∧ h.IsTupleIter it a i) where
  mem := by simp
  obj := fun i h st b hb => by
    obtain ⟨⟨old, he⟩, ⟨o, ho, hc, hd⟩⟩ := st
    have e' : b = e ∨ b = it := by simpa using hb
    rcases e' with z | z
    · rw [z]; exact ⟨_, he, fun v q => nomatch q⟩
    · rw [z]; exact ⟨o, ho, fun v q => by rw [hd] at q; cases q⟩
  keep := fun i h h' st k => let ⟨⟨old, he⟩, hi⟩ := st; ⟨⟨old, k e (by simp) _ he⟩, hi.at fun o q => k it (by simp) o q⟩
  item := by
    intro X hP hw hK hc i pins s σ H E I hf st hg
    subst hP hw hK
    obtain ⟨⟨old, he⟩, hit⟩ := st
    obtain ⟨xs, x, hq, hx⟩ := hg
    obtain ⟨its, rv, p, hz⟩ := I.tuple hq
    obtain ⟨u, hu, ru⟩ := rv.get hx
    have hel : e < s.heap.objs.size := Heap.lt_size he
    have hil : it < s.heap.objs.size := by obtain ⟨_, q, _⟩ := hit; exact Heap.lt_size q
    have hlt : i < its.toArray.size := by
      have := (List.getElem?_eq_some_iff.mp hu).1
      simpa using this
    refine wpAny_pyNext_enum_itemC (Draws.tuple (A := X.A.in1) (I.ok.hd hc) it a hai its.toArray) he ⟨hit, p⟩ hlt hne (by simp [hne, hea]) fun y h' tk hy ho hst' hT hsz hk => ?_
    obtain ⟨hit', _⟩ := hst'
    have hyu : y = u := by
      have : its.toArray[i]? = some u := by simpa using hu
      rw [this] at hy
      exact (Option.some.inj hy).symm
    subst hyu
    refine ⟨_, rfl, wpAny_letOwnedTupleGo_enum (s := { s with heap := h', toks := tk + 1 }) ho fun h'' he' sb => ?_⟩
    have hT2 : h''.get? s.heap.objs.size = some { cls := .type "tuple", data := .seq #[.int i tk, y] } := (sb.2 _ (Nat.ne_of_gt hel)).trans hT
    have new : ObjOk X.prog X.w (upd H s.heap.objs.size (.tup [.int (i : Nat), x])) h'' s.heap.objs.size (.tup [.int (i : Nat), x]) :=
      ⟨by show 2 ≤ sizeLine; decide, [.int i tk, y], .cons ⟨_, rfl⟩ (.cons ru .nil), ⟨_, hT2, rfl, _, rfl⟩⟩
    have I1 : Inv X pins σ (upd H s.heap.objs.size (.tup [.int (i : Nat), x])) { s with heap := h'', toks := tk + 1 } :=
      I.turnedNew (ch := [e, it]) (fun b ob hb q => (sb.2 b (fun z => hb (by simp [z]))).trans (hk b ob (fun z => hb (by simp [z])) (fun z => hb (by simp [z])) q)) hf (Nat.le_refl _) new
    refine ⟨.ref s.heap.objs.size, _, I1, rfl, ⟨_, x, rfl, I.hok.fresh (Nat.le_refl _), rfl, fun ys hy => by rw [I.tuple_inj hy hq]; exact hx⟩, ⟨⟨y, ?_⟩, hit'.at fun o q => (sb.2 it (Ne.symm hne)).trans q⟩, fun b hb => ?_⟩
    · have e1 : ((i + 1 : Nat) : Int) = (i : Int) + 1 := by omega
      rw [e1]; exact he'
    · have hb' : b < s.heap.objs.size := by
        have e' : b = e ∨ b = it := by simpa using hb
        rcases e' with z | z
        · rw [z]; exact hel
        · rw [z]; exact hil
      rw [upd_ne (Nat.ne_of_lt hb')]
      exact (hf b hb).1
  done := by
    intro X hP hw hK hc i pins s σ H E I hf st hg
    subst hP hw hK
    obtain ⟨⟨old, he⟩, hit⟩ := st
    obtain ⟨xs, hq, hx⟩ := hg
    obtain ⟨its, rv, p, hz⟩ := I.tuple hq
    obtain ⟨f0, f1, f2, f3, f4, f5⟩ := hf it (by simp)
    have hl : its.toArray.size = i := by
      have := rv.length
      simp
      omega
    exact wpAny_pyNext_enum_endD (Draws.tuple (A := X.A.in1) (I.ok.hd hc) it a hai its.toArray) he ⟨by rw [hl]; exact hit, p⟩ fun h' eb => ⟨rfl, I.turned (t' := s.toks) (fun b o hb q => eb b o hb q) f0 f1 f3 f4 f5⟩
  self := fun A i s Q E st h => let ⟨⟨_, he⟩, _⟩ := st; wpAny_pyIter_enum he h
def iEnumT (K : PySem.W.Frag) (ta : TA) : TI := fun σ H R => ta σ H fun vs H1 => ∃ a xs, vs = [.ref a] ∧ ((SqL K H1 a xs ∧ R (Ite K a) H1) ∨ (SqT K H1 a xs ∧ R (IteT K a) H1))
theorem pi_enumT {X : Cx} {e : Expr} {ta : TA} {p pos tpos : Pos} {elts : List Expr} {kk : Nat} (hg : Gl X "enumerate") (hm : X.mg "enumerate" = none) (ha : PA X [e] ta) (hs : starEach [e] X.env = [(false, eval e X.env)]) :
    PI X (.Tuple elts kk tpos) (.Call (.Name "enumerate" p) [e] [] pos) (iEnumT X.K ta) := by
  refine ⟨fun pins s σ H R I h => ?_⟩
  refine Call_ (ld_blt I hg hm boot_enumerate (PyProof.Rows.callWith_type1 (thn (ha.run pos pins s σ H _ I h) fun us s1 ⟨vs, H1, I1, r1, q1⟩ => ?_) hs rfl))
  obtain ⟨a, xs, ex, q1⟩ := q1
  subst ex
  cases r1 with
  | cons r rr =>
    cases rr
    cases r
    have fresh2 : ∀ b, b ∈ [s1.heap.objs.size + 1, s1.heap.objs.size] → FpOk X pins H1 b := fun b hb => by
      have hle : s1.heap.objs.size ≤ b := by
        simp at hb
        omega
      exact I1.fpOk hle (I1.hok.fresh hle)
    rcases q1 with ⟨hq, q⟩ | ⟨hq, q⟩
    · obtain ⟨its, rv, p', hz⟩ := I1.list hq
      refine call_enumerate_list p'.isList fun h' he hit hsz hk => wpAny_pyIter_enum he ?_
      have I2 : Inv X pins σ H1 { s1 with heap := h' } := I1.kept (t' := s1.toks) hk
      exact ⟨s1.heap.objs.size + 1, [s1.heap.objs.size + 1, s1.heap.objs.size], _, _, H1, rfl, I2, turn_enum a (s1.heap.objs.size + 1) s1.heap.objs.size, ⟨⟨.none, he⟩, hit, Nat.succ_ne_self _⟩, fresh2, q⟩
    · obtain ⟨its, rv, p', hz⟩ := I1.tuple hq
      obtain ⟨o1, ho1, _⟩ := id p'
      have hal : a < s1.heap.objs.size := Heap.lt_size ho1
      refine enumB_call (begins_tuple a its.toArray) (show s1.heap.IsTuple a its.toArray from p') fun h' he hit hsz hk => wpAny_pyIter_enum he ?_
      have I2 : Inv X pins σ H1 { s1 with heap := h' } := I1.kept (t' := s1.toks) hk
      exact ⟨s1.heap.objs.size + 1, [s1.heap.objs.size + 1, s1.heap.objs.size], _, _, H1, rfl, I2, turn_enumT a (s1.heap.objs.size + 1) s1.heap.objs.size (Nat.succ_ne_self _) (Nat.ne_of_lt hal) (Nat.ne_of_gt (Nat.lt_succ_of_lt hal)), ⟨⟨.none, he⟩, ⟨_, hit, rfl, rfl⟩⟩, fresh2, q⟩
section
variable {X : Cx} {W : WX} {K : PySem.W.Frag}
theorem itF_enumT {F : Hp} {p : Addr} {vs : List V} {ds : List D} (h : SqT K F p vs) (r : RpAll K F vs ds) : ItF K F (IteT K p) (enumD 0 ds) := by
  refine ⟨fun i H s hi => ?_, fun H s => ⟨vs, Same.seqT s h, by rw [enumD_len, r.length]⟩, fun i F1 H x H' s s1 hi y => ?_⟩
  · obtain ⟨a, h1, _⟩ := enumD_get hi
    obtain ⟨v, h2, _⟩ := r.get h1
    exact ⟨vs, v, Same.seqT s h, h2⟩
  · obtain ⟨T, x0, rfl, hT, rfl, y⟩ := y
    obtain ⟨a, h1, h3⟩ := enumD_get hi
    have hv := y vs (Same.seqT (s.trans s1) h)
    obtain ⟨d, h4, h5⟩ := r.getV hv
    rw [h1] at h4
    cases h4
    have e := Ext.put (o := .tup [V.int ((i : Nat) : Int), x0]) s1 hT
    refine ⟨_, _, e, h3, .tup (.inl (.inl upd_same)) (.cons ?_ (.cons (rp_mono (s.trans e.f) h5) .nil)) (by rw [sizeLine_eq]; simp) fun z => by cases z⟩
    rw [Nat.zero_add]
    exact .int _
theorem ji_enum {e : Expr} {f : Den} {p pos tpos : Pos} {elts : List Expr} {kk : Nat} (hg : Gl X "enumerate") (hm : X.mg "enumerate" = none) (hs : isStar e = false) (h : JE X W e f) : JI X W (.Tuple elts kk tpos) (.Call (.Name "enumerate" p) [e] [] pos) (lEnum f) := by
  refine pi_mono (pi_enumT hg hm (pa_cons h pa_nil (star_cons hs)) (star_cons hs)) fun σ H R ⟨B, F, α, rho, h, r, q⟩ => ?_
  refine ⟨B, F, α, rho, h, r, post_imp (post_bind q) fun d F1 α1 H1 s1 ⟨h1, r1, p1⟩ v hv => ?_⟩
  cases hv with
  | lst k1 k2 k3 => exact ⟨_, _, rfl, .inl ⟨.inl (Same.rd r1.sub k1), post_ok r1 p1 _ (by rw [enumD_len]; exact k3) (itF_enum (.inl k1) k2)⟩⟩
  | tup k1 k2 k3 => exact ⟨_, _, rfl, .inr ⟨Same.seqT r1.sub k1, post_ok r1 p1 _ (by rw [enumD_len]; exact k3) (itF_enumT k1 k2)⟩⟩
  | _ => exact p1.elim
end
end Ev
/-! # Z3: zip of three tuples -/
namespace Ev
open PySem PySem.Spec PyProof.Rows L2
def It3 (K : PySem.W.Frag) (a b c : Addr) : It :=
  ⟨fun i H => ∃ (xs ys zs : List V) (x y z : V), SqT K H a xs ∧ SqT K H b ys ∧ SqT K H c zs ∧ xs[i]? = some x ∧ ys[i]? = some y ∧ zs[i]? = some z,
   fun i H v H' => ∃ T x y z, v = .ref T ∧ H T = none ∧ H' = upd H T (.tup [x, y, z]) ∧ (∀ l, SqT K H a l → l[i]? = some x) ∧ (∀ l, SqT K H b l → l[i]? = some y) ∧ ∀ l, SqT K H c l → l[i]? = some z,
   fun i H => ∃ xs ys zs : List V, SqT K H a xs ∧ SqT K H b ys ∧ SqT K H c zs ∧ (i ≤ xs.length ∧ i ≤ ys.length ∧ i ≤ zs.length) ∧ (i = xs.length ∨ i = ys.length ∨ i = zs.length)⟩
theorem turn_zip3 {P : Program} {w : World} {K : PySem.W.Frag} {elts : List Expr} {kk : Nat} {tpos : Pos} {a b c z TI TO i1 i2 i3 : Addr} (S : ZipSep3 z TI TO i1 i2 i3 [i1, a] [i2, b] [i3, c]) (ha : a ≠ i1) (hb : b ≠ i2) (hc' : c ≠ i3) (hTI : TI ≠ i1 ∧ TI ≠ i2 ∧ TI ≠ i3) :
    Turn P w K (.Tuple elts kk tpos) (It3 K a b c) [z, TI, TO, i1, i2, i3] z (fun i h => IsZip h z TI TO .none ∧ IsTupOf3 h TI (.ref i1) (.ref i2) (.ref i3) ∧ (∃ x y u, IsTupOf3 h TO x y u) ∧ h.IsTupleIter i1 a i ∧ h.IsTupleIter i2 b i ∧ h.IsTupleIter i3 c i) where
  mem := by simp
  obj := fun i h st d hd => by
    obtain ⟨hz, hTI, ⟨x, y, u, hTO⟩, ⟨o1, e1, _, d1⟩, ⟨o2, e2, _, d2⟩, ⟨o3, e3, _, d3⟩⟩ := st
    have e' : d = z ∨ d = TI ∨ d = TO ∨ d = i1 ∨ d = i2 ∨ d = i3 := by simpa using hd
    rcases e' with q | q | q | q | q | q
    · rw [q]; exact ⟨_, hz, fun v q => nomatch q⟩
    · rw [q]; exact ⟨_, hTI, fun v q => nomatch q⟩
    · rw [q]; exact ⟨_, hTO, fun v q => nomatch q⟩
    · rw [q]; exact ⟨o1, e1, fun v q => by rw [d1] at q; cases q⟩
    · rw [q]; exact ⟨o2, e2, fun v q => by rw [d2] at q; cases q⟩
    · rw [q]; exact ⟨o3, e3, fun v q => by rw [d3] at q; cases q⟩
  keep := fun i h h' st k => by
    obtain ⟨hz, hTI, ⟨x, y, u, hTO⟩, h1, h2, h3⟩ := st
    exact ⟨k z (by simp) _ hz, k TI (by simp) _ hTI, ⟨x, y, u, k TO (by simp) _ hTO⟩, h1.at fun o q => k i1 (by simp) o q, h2.at fun o q => k i2 (by simp) o q, h3.at fun o q => k i3 (by simp) o q⟩
  item := by
    intro X hP hw hK hc i pins s σ H E I hf st hg
    subst hP hw hK
    obtain ⟨hz, hTup, ⟨x0, y0, u0, hTO⟩, h1, h2, h3⟩ := st
    obtain ⟨xs, ys, zs, x, y, v, hqx, hqy, hqz, hx, hy, hv⟩ := hg
    obtain ⟨its, rv, p, _⟩ := I.tuple hqx
    obtain ⟨its2, rv2, p2, _⟩ := I.tuple hqy
    obtain ⟨its3, rv3, p3, _⟩ := I.tuple hqz
    obtain ⟨u, hu, ru⟩ := rv.get hx
    obtain ⟨u2, hu2, ru2⟩ := rv2.get hy
    obtain ⟨u3, hu3, ru3⟩ := rv3.get hv
    have hzl : z < s.heap.objs.size := Heap.lt_size hz
    have lt1 : i < its.toArray.size := by simpa using (List.getElem?_eq_some_iff.mp hu).1
    have lt2 : i < its2.toArray.size := by simpa using (List.getElem?_eq_some_iff.mp hu2).1
    have lt3 : i < its3.toArray.size := by simpa using (List.getElem?_eq_some_iff.mp hu3).1
    refine wpAny_pyNext_zipD3_item S (Draws.tuple (A := X.A.in1) (I.ok.hd hc) i1 a ha its.toArray) (Draws.tuple (A := X.A.in1) (I.ok.hd hc) i2 b hb its2.toArray) (Draws.tuple (A := X.A.in1) (I.ok.hd hc) i3 c hc' its3.toArray) hz hTup hTO ⟨h1, p⟩ ⟨h2, p2⟩ ⟨h3, p3⟩ lt1 lt2 lt3 fun y1 y2 y3 h' tk e1 e2 e3 z' TO' h1' h2' h3' hT hsz hk => ?_
    obtain ⟨h1', _⟩ := h1'
    obtain ⟨h2', _⟩ := h2'
    obtain ⟨h3', _⟩ := h3'
    have f1 : y1 = u := by
      have : its.toArray[i]? = some u := by simpa using hu
      rw [this] at e1; exact (Option.some.inj e1).symm
    have f2 : y2 = u2 := by
      have : its2.toArray[i]? = some u2 := by simpa using hu2
      rw [this] at e2; exact (Option.some.inj e2).symm
    have f3 : y3 = u3 := by
      have : its3.toArray[i]? = some u3 := by simpa using hu3
      rw [this] at e3; exact (Option.some.inj e3).symm
    subst f1 f2 f3
    refine ⟨_, rfl, wpAny_letOwnedTupleGo_zip (s := { s with heap := h', toks := tk }) z' fun h'' z'' sb => ?_⟩
    have hT2 : h''.get? s.heap.objs.size = some { cls := .type "tuple", data := .seq #[y1, y2, y3] } := (sb.2 _ (Nat.ne_of_gt hzl)).trans hT
    have new : ObjOk X.prog X.w (upd H s.heap.objs.size (.tup [x, y, v])) h'' s.heap.objs.size (.tup [x, y, v]) :=
      ⟨by show 3 ≤ sizeLine; decide, [y1, y2, y3], .cons ru (.cons ru2 (.cons ru3 .nil)), ⟨_, hT2, rfl, _, rfl⟩⟩
    have I1 : Inv X pins σ (upd H s.heap.objs.size (.tup [x, y, v])) { s with heap := h'', toks := tk } :=
      I.turnedNew (ch := [z, TI, TO, i1, i2, i3]) (fun d o hb q => (sb.2 d (fun q' => hb (by simp [q']))).trans (hk d o (fun q' => hb (by simp [q'])) (fun q' => hb (by simp [q'])) (fun q' => hb (by simp [q'])) (fun q' => hb (by simp [q'])) (fun q' => hb (by simp [q'])) q)) hf (Nat.le_refl _) new
    have zi1 : i1 ≠ z := fun q => S.zf1 (by rw [q]; simp)
    have zi2 : i2 ≠ z := fun q => S.zf2 (by rw [q]; simp)
    have zi3 : i3 ≠ z := fun q => S.zf3 (by rw [q]; simp)
    refine ⟨.ref s.heap.objs.size, _, I1, rfl, ⟨_, x, y, v, rfl, I.hok.fresh (Nat.le_refl _), rfl, fun l hl => by rw [I.tuple_inj hl hqx]; exact hx, fun l hl => by rw [I.tuple_inj hl hqy]; exact hy, fun l hl => by rw [I.tuple_inj hl hqz]; exact hv⟩, ⟨z'', ?_, ⟨y1, y2, y3, ?_⟩, ?_, ?_, ?_⟩, fun d hdm => ?_⟩
    · exact (sb.2 _ S.TIz).trans (hk _ _ S.TIz S.TITO hTI.1 hTI.2.1 hTI.2.2 hTup)
    · exact (sb.2 _ S.TOz).trans TO'
    · exact h1'.at fun o q => (sb.2 _ zi1).trans q
    · exact h2'.at fun o q => (sb.2 _ zi2).trans q
    · exact h3'.at fun o q => (sb.2 _ zi3).trans q
    · have hlt : d < s.heap.objs.size := by
        have e' : d = z ∨ d = TI ∨ d = TO ∨ d = i1 ∨ d = i2 ∨ d = i3 := by simpa using hdm
        rcases e' with q | q | q | q | q | q
        · rw [q]; exact hzl
        · rw [q]; exact Heap.lt_size hTup
        · rw [q]; exact Heap.lt_size hTO
        · rw [q]; obtain ⟨_, e1, _⟩ := h1; exact Heap.lt_size e1
        · rw [q]; obtain ⟨_, e2, _⟩ := h2; exact Heap.lt_size e2
        · rw [q]; obtain ⟨_, e3, _⟩ := h3; exact Heap.lt_size e3
      rw [upd_ne (Nat.ne_of_lt hlt)]
      exact (hf d hdm).1
  done := by
    intro X hP hw hK hc i pins s σ H E I hf st hg
    subst hP hw hK
    obtain ⟨hz, hTup, ⟨x0, y0, u0, hTO⟩, h1, h2, h3⟩ := st
    obtain ⟨xs, ys, zs, hqx, hqy, hqz, ⟨le1, le2, le3⟩, hend⟩ := hg
    obtain ⟨its, rv, p, _⟩ := I.tuple hqx
    obtain ⟨its2, rv2, p2, _⟩ := I.tuple hqy
    obtain ⟨its3, rv3, p3, _⟩ := I.tuple hqz
    have l1 : its.toArray.size = xs.length := by rw [List.size_toArray, rv.length]
    have l2 : its2.toArray.size = ys.length := by rw [List.size_toArray, rv2.length]
    have l3 : its3.toArray.size = zs.length := by rw [List.size_toArray, rv3.length]
    refine wpAny_pyNext_zipD3_end S (Draws.tuple (A := X.A.in1) (I.ok.hd hc) i1 a ha its.toArray) (Draws.tuple (A := X.A.in1) (I.ok.hd hc) i2 b hb its2.toArray) (Draws.tuple (A := X.A.in1) (I.ok.hd hc) i3 c hc' its3.toArray) hz hTup hTO ⟨h1, p⟩ ⟨h2, p2⟩ ⟨h3, p3⟩ (by omega) (by omega) (by omega) (by rw [l1, l2, l3]; exact hend) fun h' tk hk => ⟨rfl, I.turnedL (ch := [z, TI, TO, i1, i2, i3]) (fun d o hb q => hk d o (fun q' => hb (by simp [q'])) (fun q' => hb (by simp [q'])) (fun q' => hb (by simp [q'])) (fun q' => hb (by simp [q'])) (fun q' => hb (by simp [q'])) q) hf⟩
  self := fun A i s Q E st h => wpAny_pyIter_zip st.1 h
def iZip3 (K : PySem.W.Frag) (ta : TA) : TI := fun σ H R => ta σ H fun vs H1 => ∃ a b c xs ys zs, vs = [.ref a, .ref b, .ref c] ∧ SqT K H1 a xs ∧ SqT K H1 b ys ∧ SqT K H1 c zs ∧ R (It3 K a b c) H1
theorem pi_zip3 {X : Cx} {e e2 e3 : Expr} {ta : TA} {p pos tpos : Pos} {elts : List Expr} {kk : Nat} (hg : Gl X "zip") (hm : X.mg "zip" = none) (ha : PA X [e, e2, e3] ta)
    (hs : starEach [e, e2, e3] X.env = (false, eval e X.env) :: starEach [e2, e3] X.env) (hpl : (backTo pos (starEach [e2, e3] X.env)).any (·.1) = false) :
    PI X (.Tuple elts kk tpos) (.Call (.Name "zip" p) [e, e2, e3] [] pos) (iZip3 X.K ta) := by
  refine ⟨fun pins s σ H R I h => ?_⟩
  refine Call_ (ld_blt I hg hm PyProof.Rows.boot_zip (PyProof.Rows.callWith_type1 (thn (ha.run pos pins s σ H _ I h) fun us s1 ⟨vs, H1, I1, r1, q1⟩ => ?_) hs hpl))
  obtain ⟨a, b, c, xs, ys, zs, ex, hqx, hqy, hqz, q⟩ := q1
  subst ex
  obtain ⟨its, rv, p1, _⟩ := I1.tuple hqx
  obtain ⟨its2, rv2, p2, _⟩ := I1.tuple hqy
  obtain ⟨its3, rv3, p3, _⟩ := I1.tuple hqz
  obtain ⟨o1, ho1, _⟩ := id p1
  obtain ⟨o2, ho2, _⟩ := id p2
  obtain ⟨o3, ho3, _⟩ := id p3
  have la := Heap.lt_size ho1
  have lb := Heap.lt_size ho2
  have lc := Heap.lt_size ho3
  cases r1 with
  | cons r rr =>
    cases rr with
    | cons r' rr =>
      cases rr with
      | cons r'' rr =>
        cases rr
        cases r
        cases r'
        cases r''
        generalize hN : s1.heap.objs.size = N at la lb lc
        have S : ZipSep3 (N + 5) (N + 3) (N + 4) N (N + 1) (N + 2) [N, a] [N + 1, b] [N + 2, c] := zip_sep3 (fp1 := [a]) (fp2 := [b]) (fp3 := [c]) (by simpa using la) (by simpa using lb) (by simpa using lc)
        have fresh6 : ∀ d, d ∈ [N + 5, N + 3, N + 4, N, N + 1, N + 2] → FpOk X pins H1 d := fun d hdm => by
          have hle : s1.heap.objs.size ≤ d := by
            simp at hdm
            omega
          exact I1.fpOk hle (I1.hok.fresh hle)
        refine zip_begins3 (begins_tuple a its.toArray) (begins_tuple b its2.toArray) (begins_tuple c its3.toArray) (show s1.heap.IsTuple a its.toArray from p1) (show s1.heap.IsTuple b its2.toArray from p2) (show s1.heap.IsTuple c its3.toArray from p3) fun h' hz hTI hTO h1 h2 h3 hsz hk => ?_
        rw [hN] at hz hTI hTO h1 h2 h3 ⊢
        refine wpAny_pyIter_zip hz ?_
        have I2 : Inv X pins σ H1 { s1 with heap := h' } := I1.kept (t' := s1.toks) hk
        exact ⟨N + 5, [N + 5, N + 3, N + 4, N, N + 1, N + 2], _, _, H1, rfl, I2, turn_zip3 S (Nat.ne_of_lt la) (Nat.ne_of_lt (Nat.lt_succ_of_lt lb)) (Nat.ne_of_lt (Nat.lt_succ_of_lt (Nat.lt_succ_of_lt lc))) ⟨show (N + 3 : Nat) ≠ N by omega, show (N + 3 : Nat) ≠ N + 1 by omega, show (N + 3 : Nat) ≠ N + 2 by omega⟩, ⟨hz, hTI, ⟨_, _, _, hTO⟩, ⟨_, h1, rfl, rfl⟩, ⟨_, h2, rfl, rfl⟩, ⟨_, h3, rfl, rfl⟩⟩, fresh6, q⟩
section
variable {X : Cx} {W : WX} {K : PySem.W.Frag}
theorem zip3D_get : ∀ {xs ys zs : List D} {i : Nat}, i < (zip3D xs ys zs).length → ∃ a b c, xs[i]? = some a ∧ ys[i]? = some b ∧ zs[i]? = some c ∧ (zip3D xs ys zs)[i]? = some (.tuple [a, b, c])
  | [], _, _, _, h => by simp [zip3D] at h
  | _ :: _, [], _, _, h => by simp [zip3D] at h
  | _ :: _, _ :: _, [], _, h => by simp [zip3D] at h
  | a :: as, b :: bs, c :: cs, 0, _ => ⟨a, b, c, rfl, rfl, rfl, rfl⟩
  | a :: as, b :: bs, c :: cs, i + 1, h => by
    obtain ⟨x, y, z, h1, h2, h3, h4⟩ := zip3D_get (xs := as) (ys := bs) (zs := cs) (i := i) (by simpa [zip3D] using h)
    exact ⟨x, y, z, by simpa using h1, by simpa using h2, by simpa using h3, by simpa [zip3D] using h4⟩
theorem zip3D_len : ∀ {xs ys zs : List D}, ((zip3D xs ys zs).length ≤ xs.length ∧ (zip3D xs ys zs).length ≤ ys.length ∧ (zip3D xs ys zs).length ≤ zs.length) ∧ ((zip3D xs ys zs).length = xs.length ∨ (zip3D xs ys zs).length = ys.length ∨ (zip3D xs ys zs).length = zs.length)
  | [], _, _ => by simp [zip3D]
  | _ :: _, [], _ => by simp [zip3D]
  | _ :: _, _ :: _, [] => by simp [zip3D]
  | a :: as, b :: bs, c :: cs => by
    obtain ⟨⟨h1, h2, h3⟩, h4⟩ := zip3D_len (xs := as) (ys := bs) (zs := cs)
    simp only [zip3D, List.length_cons]
    omega
theorem itF_zip3 {F : Hp} {p q t : Addr} {vs us ws : List V} {ds es gs : List D} (h : SqT K F p vs) (r : RpAll K F vs ds) (h' : SqT K F q us) (r' : RpAll K F us es) (h'' : SqT K F t ws) (r'' : RpAll K F ws gs) (nb : noBr ds = true) : ItF K F (It3 K p q t) (zip3D ds es gs) := by
  refine ⟨fun i H s hi => ?_, fun H s => ⟨vs, us, ws, Same.seqT s h, Same.seqT s h', Same.seqT s h'', ?_, ?_⟩, fun i F1 H x H' s s1 hi y => ?_⟩
  · obtain ⟨a, b, c, h1, h2, h3, _⟩ := zip3D_get hi
    obtain ⟨v, e1, _⟩ := r.get h1
    obtain ⟨u, e2, _⟩ := r'.get h2
    obtain ⟨w, e3, _⟩ := r''.get h3
    exact ⟨vs, us, ws, v, u, w, Same.seqT s h, Same.seqT s h', Same.seqT s h'', e1, e2, e3⟩
  · rw [r.length, r'.length, r''.length]
    exact zip3D_len.1
  · rw [r.length, r'.length, r''.length]
    exact zip3D_len.2
  · obtain ⟨T, v1, v2, v3, rfl, hT, rfl, y1, y2, y3⟩ := y
    obtain ⟨a, b, c, h1, h2, h3, h4⟩ := zip3D_get hi
    obtain ⟨a', e1, ra⟩ := r.getV (y1 vs (Same.seqT (s.trans s1) h))
    obtain ⟨b', e2, rb⟩ := r'.getV (y2 us (Same.seqT (s.trans s1) h'))
    obtain ⟨c', e3, rc⟩ := r''.getV (y3 ws (Same.seqT (s.trans s1) h''))
    rw [h1] at e1
    cases e1
    rw [h2] at e2
    cases e2
    rw [h3] at e3
    cases e3
    have x := Ext.put (o := .tup [v1, v2, v3]) s1 hT
    exact ⟨_, _, x, h4, .tup (.inl (.inl upd_same)) (rpAll_mono x.f (.cons (rp_mono s ra) (.cons (rp_mono s rb) (.cons (rp_mono s rc) .nil)))) (by show 3 ≤ sizeLine; rw [sizeLine_eq]; decide) fun z => by rw [show brn [a, b, c] = isBr a from rfl, noBr_at nb h1] at z; cases z⟩
theorem ji_zip3 {e e2 e3 : Expr} {f g k : Den} {p pos tpos : Pos} {elts : List Expr} {kk : Nat} (hg : Gl X "zip") (hm : X.mg "zip" = none) (hs : isStar e = false) (hs2 : isStar e2 = false) (hs3 : isStar e3 = false) (h : JE X W e f) (h2 : JE X W e2 g) (h3 : JE X W e3 k) : JI X W (.Tuple elts kk tpos) (.Call (.Name "zip" p) [e, e2, e3] [] pos) (lZip3 f g k) := by
  refine pi_mono (pi_zip3 hg hm (pa_cons h (pa_cons h2 (pa_cons h3 pa_nil (star_cons hs3)) (star_cons hs2)) (star_cons hs)) (star_cons hs) (by rw [star_cons hs2, star_cons hs3]; rfl)) fun σ H R ⟨B, F, α, rho, h, r, q⟩ => ?_
  refine ⟨B, F, α, rho, h, r, post_imp (post_bind q) fun a F1 α1 H1 s1 ⟨h1, r1, p1⟩ v hv => ⟨B, F1, α1, rho, h1, r1, post_imp (post_bind p1) fun b F2 α2 H2 s2 ⟨h2, r2, p2⟩ w hw => ⟨B, F2, α2, rho, h2, r2, post_imp (post_bind p2) fun c F3 α3 H3 s3 ⟨h3, r3, p3⟩ u hu => ?_⟩⟩⟩
  have hv2 := rp_mono (s2.trans s3) hv
  have hw2 := rp_mono s3 hw
  unfold kZip3 at p3
  cases hv2 with
  | tup k1 k2 k3 _ =>
    cases hw2 with
    | tup l1 l2 l3 _ =>
      cases hu with
      | tup m1 m2 m3 _ =>
        dsimp only at p3
        split at p3
        · rename_i e
          split at e
          · rename_i nb
            cases e
            exact ⟨_, _, _, _, _, _, rfl, Same.seqT r3.sub k1, Same.seqT r3.sub l1, Same.seqT r3.sub m1, post_ok r3 p3 _ (Nat.le_trans zip3D_len.1.1 k3) (itF_zip3 k1 k2 l1 l2 m1 m2 nb)⟩
          · cases e
        · exact p3.elim
      | _ => exact p3.elim
    | _ => exact p3.elim
  | _ => exact p3.elim
end
end Ev
/-! # Ev12: pick from a written dict; extend; minus; what is given away; raise; defs -/
namespace Ev
open PySem PySem.Spec PyProof.Rows L2
section
variable {X : Cx} {W : WX} {K : PySem.W.Frag}
theorem p_neg : Prim1 K (rU fun i => .int (-i)) pNeg := by
  intro x F H a d Q s tx e q
  unfold pNeg at e
  split at e
  · cases e
    cases tx.int
    exact ⟨_, rfl, q _ _ _ (ext0 s) (.int _)⟩
  · cases e
theorem je_neg {a : Expr} {o : Opd} {pos : Pos} (h : JO X W a o) : JE X W (.UnaryOp .USub a pos) (op1 o (lift1 pNeg)) := by
  refine pe_mono (pe_un un_neg h) fun σ H Q ⟨B, F, α, rho, h, r0, q⟩ => ?_
  unfold tUn
  exact tO_mono (Ev.o1 r0 q) fun x H1 ⟨F1, α1, h1, a, s1, r1, tx, p1⟩ => run_lift1 p_neg r1 tx p1
/-! ### x.extend(e) -/
def rExtendR : V → List V → Hp → VK → Prop := fun x vs H Q => ∃ l b xs zs, x = .ref l ∧ vs = [.ref b] ∧ H l = some (.lst xs) ∧ Rd H b (.lst zs) ∧ xs.length + zs.length ≤ sizeLine ∧ Q .non (upd H l (.lst (xs ++ zs)))
theorem mt_extendR : MtM X "list.extend" rExtendR := by
  intro pins s σ H x vs v us Q I rx rv h
  obtain ⟨l, b, xs, zs, rfl, rfl, hH, hB, hz, q⟩ := h
  cases rx
  obtain ⟨u, rfl, ru⟩ := rv.one
  cases ru
  obtain ⟨z, its, n, r, hl, e⟩ := I.lstM hH
  obtain ⟨z2, its2, n2, r2, e2⟩ := hB.ok I.hok
  have hl2 := r2.length
  have hsz : its.toArray.size + its2.toArray.size ≤ sizeLine := by rw [List.size_toArray, List.size_toArray]; omega
  have hlong : ¬ (!its.toArray.isEmpty && Builtin.List.listTooLong (its.toArray.size + its2.toArray.size)) = true := by
    rw [notLongL hsz, Bool.and_false]
    exact Bool.false_ne_true
  refine call_meets F.slot_list_extend ⟨_, e, rfl⟩ F.entry_list_extend (F.args_list_extend_2 _ _)
    (AutoSeq1.list_extend_list_list_0 l its.toArray n b its2.toArray n2 hlong (by rw [List.size_toArray]; omega) (by omega)) ⟨e, e2, ?_⟩
  refine ⟨.non, _, I.lset (its' := its ++ its2) hH e (by simp) (r.append r2) ?_, rfl, q⟩
  rw [List.length_append]
  omega
theorem js_extend {i : Nat} {x : Str} {a : Expr} {o : Opd} {px apos cpos pos : Pos} (hN : X.N[i]? = some x) (hv : Vis X.env.scope x) (hd : (x == ("__debug__" : Str)) = false) (hcd : (x == ("__classdict__" : Str)) = false) (hs : isStar a = false) (ha : JO X W a o) (hline : (apos.endLine == cpos.line) = true) :
    JS X W (.Expr (.Call (.Attribute (.Name x px) "extend" apos) [a] [] cpos) pos) (sExtend i o) := by
  have hfew : ((backTo cpos (starEach [a] X.env)).all (fun x => !x.1) && (backToKw cpos (keywordEach [] X.env)).all (fun x => x.1.isSome) && decide ([a].length + ([] : List Keyword).length + (if ([] : List Keyword).isEmpty then 0 else 1) < 30)) = true := by
    rw [star_cons hs]; rfl
  refine ps_mono (ps_expr (pe_bm PySem.F.plainAttrs_list PySem.F.slot_list_extend PySem.F.type_list_extend mt_extendR (pe_var hN hv hd hcd) (pa_cons ha pa_nil (star_cons hs)) rfl hfew hline (star_cons hs) rfl) rfl) fun E σ H ⟨B, F, α, rho, h, r, p⟩ => ?_
  unfold sExtend at p
  dsimp only at p
  cases w : rho[i]? with
  | none => rw [w] at p; exact p.elim
  | some sl =>
    rw [w] at p
    have z := r.slot i sl w
    cases sl with
    | own ds =>
      obtain ⟨q, vs, e1, e0, na, h1, h2, h3⟩ := z
      refine ⟨.ref q, jn e1, .inl ⟨rfl, vs, .inl (.inl h2)⟩, ?_⟩
      unfold tCons tNil
      have p' := postS_of (σ := σ) p
      refine tO_mono (Ev.o1 r p') fun y H1 ⟨F1, α1, h1', a, s1, r1, ty, p1⟩ => ?_
      obtain ⟨h1'', r1', p1⟩ := post_ok r1 p1
      obtain ⟨q', vs', e1', _, _, _, h2', h3'⟩ := r1'.slot i _ w
      rw [e1] at e1'
      cases e1'
      cases a with
      | list es =>
        dsimp only at p1
        split at p1
        · rename_i hl
          obtain ⟨b, us, rfl, hb, rb⟩ := ty.list r1.sub
          refine ⟨q, b, vs', us, rfl, rfl, h2', hb, by rw [h3'.length, rb.length]; exact Nat.le_trans (Nat.le_of_lt hl) lim_le, ?_⟩
          exact p1 σ F1 α1 _ same_refl (r1'.mutOwn w (jn e1) (h3'.append rb (Nat.le_trans (Nat.le_of_lt hl) lim_le)))
        · exact p1.elim
      | _ => exact p1.elim
    | _ => exact p.elim
/-! ### given away -/
theorem Rel.give {B : Fx} {F H : Hp} {α : List Addr} {rho : Ro} {h : Hh} {σ : L2.St} {i : Nat} {sl : Slot} {p : Addr} {o : HO} {d : D} (r : Rel X.K B F α rho h σ H) (e : rho[i]? = some sl) (ow : IsOwn sl) (e1 : σ[i]? = some (some (.ref p))) (e0 : B.H0 p = none) (na : p ∉ α) (h1 : F p = none) (h2 : H p = some o) (hv : Rp X.K (upd F p o) (.ref p) d) :
    ∃ F', Same F F' ∧ Rel X.K B F' α (rho.set i (.val d)) h σ H := by
  have hil : i < rho.length := (List.getElem?_eq_some_iff.mp e).1
  -- the name no longer owns it
  have r1 : Rel X.K B F α (rho.set i .no) h σ H := by
    have old : ∀ {j : Nat} {s : Slot}, (rho.set i .no)[j]? = some s → (i = j ∧ s = .no) ∨ (i ≠ j ∧ rho[j]? = some s) := fun {j s} q => by
      by_cases hj : i = j
      · subst hj
        rw [List.getElem?_set_self hil] at q
        cases q
        exact .inl ⟨rfl, rfl⟩
      · rw [List.getElem?_set_ne hj] at q; exact .inr ⟨hj, q⟩
    refine ⟨r.sub, r.new, r.fr, r.pre, r.a0, r.nd, by rw [List.length_set]; exact r.len, fun j sj q => ?_, fun j k sj sk p hjk e1 e2 o1 o2 e3 e4 => ?_, fun b u q => ?_, r.hl, r.heap, r.io, r.df, fun q hq => ⟨(r.ii q hq).1, (r.ii q hq).2.1, fun j sj e1 o1 => ?_⟩⟩
    · rcases old q with ⟨_, rfl⟩ | ⟨_, q⟩
      · trivial
      · exact r.slot j sj q
    · rcases old e1 with ⟨_, rfl⟩ | ⟨_, w1⟩
      · exact o1.elim
      · rcases old e2 with ⟨_, rfl⟩ | ⟨_, w2⟩
        · exact o2.elim
        · exact r.sep j k sj sk p hjk w1 w2 o1 o2 e3 e4
    · obtain ⟨k1, k2, k3, k4, k5⟩ := r.kp b u q
      refine ⟨k1, k2, k3, k4, fun j sj e1 o1 => ?_⟩
      rcases old e1 with ⟨_, rfl⟩ | ⟨_, w1⟩
      · exact o1.elim
      · exact k5 j sj w1 o1
    · rcases old e1 with ⟨_, rfl⟩ | ⟨_, w1⟩
      · exact o1.elim
      · exact (r.ii q hq).2.2 j sj w1 o1
  have fr : Fresh B F α (rho.set i .no) σ H p := by
    refine ⟨e0, na, h1, ?_, fun j sj q o q3 => ?_, fun z => (r.ii p z).2.2 i sl e ow e1⟩
    · cases w : B.kp p with
      | none => rfl
      | some u => exact ((r.kp p u w).2.2.2.2 i _ e ow e1).elim
    · by_cases hj : i = j
      · subst hj
        rw [List.getElem?_set_self hil] at q
        cases q
        exact o
      · rw [List.getElem?_set_ne hj] at q
        exact r.sep i j _ sj p hj e q ow o e1 q3
  have r2 := r1.freeze fr h2
  have m : Same F (upd F p o) := same_upd fr.f
  refine ⟨_, m, ?_⟩
  have r3 := r2.set (i := i) (sl := .val d) (v := .ref p) ⟨_, rfl, hv⟩ (fun _ o => o.elim) (fun _ o => o.elim) fun _ o => o.elim
  have es : σ.set i (some (.ref p)) = σ := by
    refine List.ext_getElem? fun j => ?_
    by_cases hj : i = j
    · subst hj
      rw [List.getElem?_set_self (by rw [← r.len]; exact hil), e1]
    · rw [List.getElem?_set_ne hj]
  rw [es, List.set_set] at r3
  exact r3
theorem Rel.frz {B : Fx} {F H : Hp} {α : List Addr} {rho : Ro} {h : Hh} {σ : L2.St} (r : Rel X.K B F α rho h σ H) (i : Nat) : ∃ F', Same F F' ∧ Rel X.K B F' α (Ev.frz rho i) h σ H := by
  unfold Ev.frz
  split
  · rename_i ds e
    obtain ⟨p, vs, e1, e0, na, h1, h2, h3⟩ := r.slot i _ e
    exact r.give e trivial (jn e1) e0 na h1 h2 (.lst (.inl upd_same) (rpAll_mono (same_upd h1) h3.all) h3.le)
  · rename_i kvs e
    obtain ⟨p, e1, e0, na, h1, o, xs, h2, k, h3⟩ := r.slot i _ e
    exact r.give e trivial (jn e1) e0 na h1 h2 (.dct upd_same k (rpKv_mono (same_upd h1) h3))
  · exact ⟨F, same_refl, r⟩
theorem Rel.frzs {B : Fx} {H : Hp} {α : List Addr} {h : Hh} {σ : L2.St} : ∀ {is : List Nat} {F : Hp} {rho : Ro}, Rel X.K B F α rho h σ H → ∃ F', Same F F' ∧ Rel X.K B F' α (is.foldl Ev.frz rho) h σ H
  | [], F, rho, r => ⟨F, same_refl, r⟩
  | i :: is, F, rho, r => by
    obtain ⟨F1, s1, r1⟩ := r.frz i
    obtain ⟨F2, s2, r2⟩ := Rel.frzs (is := is) r1
    exact ⟨F2, s1.trans s2, r2⟩
theorem js_frz {st : Stmt} {is : List Nat} {m : DenS} (h : JS X W st m) : JS X W st (sSeq (sFrz is) m) := by
  refine ps_mono h fun E σ H ⟨B, F, α, rho, h, r, p⟩ => ?_
  obtain ⟨F1, s1, r1⟩ := r.frzs (is := is)
  exact ⟨B, F1, α, _, h, r1, postS_mono s1 p⟩
/-! ### raise -/
structure ExcOk (X : Cx) (c : Str) (C : Addr) : Prop where
  g : X.mg c = some (.ref C)
  ex : PySem.W.excIn X.K C He.veBase "ValueError.__new__" = true
  kp : PySem.W.keepIn X.K (.ref C) = true
  sub : PySem.W.subIn X.K (.ref C) (.type "BaseException") = some true
  ty : PySem.W.typeIn X.K (.ref C) = some (.type "type")
theorem js_raise {c m : Str} {C : Addr} {j : Nat} {p p2 pos pos2 : Pos} (hc : X.calm = true) (tk : Takes X W) (hg : Gl X c) (hdb : (c == ("__debug__" : Str)) = false) (x : ExcOk X c C) : JS X W (.Raise (some (.Call (.Name c p) [.Constant (.str m) j p2] [] pos)) none pos2) (sRaise c) := by
  refine ps_mono (ps_raise hc tk (pmk_own PySem.F.excBase_ValueError x.ex x.g x.kp (raises_own x.sub x.ty) hg hdb)) fun E σ H ⟨B, F, α, rho, h, r, q⟩ => ?_
  exact q _ σ F α H same_refl r x.g
end
/-! ### a def keeps its promise -/
theorem runFn_ar {np nn : Nat} {b : DenS} : ∀ args h, runFn np nn b args h ≠ .bad → args.length = np := fun args h z => by
  unfold runFn at z
  by_cases e : args.length = np
  · exact e
  · rw [if_neg e] at z; exact absurd rfl z
theorem args_slots {K : PySem.W.Frag} {B : Fx} {F H : Hp} {α : List Addr} : ∀ {vs : List V} {args : List Arg}, Paired (ArgOk K F α) vs args → ∀ (i : Nat) (sl : Slot), (args.map slotOf)[i]? = some sl → ∃ v, vs[i]? = some v ∧ SlotOk K B F α H sl (some v) ∧ ¬ IsOwn sl
  | _, _, .nil, i, sl, e => by simp at e
  | _, _, .cons (b := a) h t, 0, sl, e => by
    simp only [List.map_cons, List.getElem?_cons_zero, Option.some.injEq] at e
    subst e
    refine ⟨_, rfl, ?_, ?_⟩
    · cases a with
      | dat d => exact ⟨_, rfl, h⟩
      | ref n => obtain ⟨p, rfl, e⟩ := h; exact ⟨p, rfl, e⟩
      | exc c => exact h.elim
    · cases a <;> exact fun o => o
  | _, _, .cons h t, i + 1, sl, e => by
    obtain ⟨v, e1, e2⟩ := args_slots (B := B) (H := H) t i sl (by simpa using e)
    exact ⟨v, by simpa using e1, e2⟩
/-- what stands at a def's start -/
abbrev fxS (F0 H : Hp) (α : List Addr) : Fx := ⟨F0, H, α, fun _ => none, [], innA H α⟩
theorem fn_rel {K : PySem.W.Frag} {F0 H : Hp} {α : List Addr} {args : List Arg} {h0 : Hh} {vs : List V} {N ps : List Str} (len : vs.length = ps.length) (sub : Same F0 H) (nd : α.Nodup) (ho : HeapOk K F0 α h0 H) (ha : Paired (ArgOk K F0 α) vs args) :
    Rel K (fxS F0 H α) F0 α (args.map slotOf ++ List.replicate (N.length - ps.length) .no) h0 (L2.start N vs) H := by
  have la : args.length = ps.length := by rw [← Paired.length ha]; exact len
  have sl := args_slots (B := fxS F0 H α) (H := H) ha
  have low : ∀ (i : Nat) (s1 : Slot), (args.map slotOf ++ List.replicate (N.length - ps.length) .no)[i]? = some s1 → s1 = .no ∨ ((args.map slotOf)[i]? = some s1 ∧ i < vs.length) := fun i s1 e => by
    by_cases hi : i < (args.map slotOf).length
    · rw [List.getElem?_append_left hi] at e
      exact .inr ⟨e, by rw [List.length_map, la, ← len] at hi; exact hi⟩
    · rw [List.getElem?_append_right (by omega)] at e
      rw [List.getElem?_replicate] at e
      split at e
      · exact .inl (Option.some.inj e).symm
      · cases e
  have st : ∀ i, i < vs.length → (L2.start N vs)[i]? = some (vs[i]?) := fun i hi => by
    unfold L2.start
    rw [List.getElem?_append_left (by rw [List.length_map]; exact hi), List.getElem?_map, List.getElem?_eq_getElem hi]
    rfl
  refine ⟨sub, fun b o e => .inl e, fun b o e _ _ => e, ⟨[], by simp, fun p hp => by simp at hp, [], rfl⟩, fun p hp => ?_, nd, ?_, fun i s1 e => ?_, fun i j si sj p hij e1 e2 o1 o2 e3 e4 => ?_, fun b o e => (by cases e), ho.1.1, ho.1.2, ho.2, fun b o e => ⟨o, e⟩, fun q hq => ⟨rfl, .inl hq, fun i si e1 o1 => ?_⟩⟩
  · obtain ⟨n, hn⟩ := List.mem_iff_getElem?.mp hp
    have hn' : n < h0.length := by rw [← ho.1.1]; exact (List.getElem?_eq_some_iff.mp hn).1
    exact (ho.1.2 n p h0[n] hn (List.getElem?_eq_getElem hn')).ex
  · unfold L2.start
    rw [List.length_append, List.length_append, List.length_map, List.length_map, List.length_replicate, List.length_replicate, la, len]
  · rcases low i s1 e with rfl | ⟨e', hi⟩
    · trivial
    · obtain ⟨v, e1, e2, _⟩ := sl i s1 e'
      rw [st i hi, e1]
      exact e2
  · rcases low i si e1 with rfl | ⟨e', hi⟩
    · exact o1
    · obtain ⟨v, _, _, e2'⟩ := sl i si e'
      exact (e2' o1).elim
  · rcases low i si e1 with rfl | ⟨e', hi⟩
    · exact o1.elim
    · obtain ⟨v, _, _, e2'⟩ := sl i si e'
      exact (e2' o1).elim
theorem fn_heap {K : PySem.W.Frag} {F0 H : Hp} {α : List Addr} {h0 : Hh} (hl0 : α.length = h0.length) {F' H' : Hp} {α' : List Addr} {rho' : Ro} {h' : Hh} {σ' : L2.St} (r' : Rel K (fxS F0 H α) F' α' rho' h' σ' H') : HeapOk K F' α (h'.take h0.length) H' := by
  obtain ⟨t, et, _⟩ := r'.pre
  have et : α' = α ++ t := et
  have hl := r'.hl
  rw [et, List.length_append] at hl
  have io := r'.io
  rw [et] at io
  have up : ∀ {q : Addr}, q ∈ innA H' α → q ∈ innA H' (α ++ t) := fun {q} hq => by rw [innA_app]; exact List.mem_append_left _ hq
  refine ⟨⟨?_, fun n p o e1 e2 => ?_⟩, ⟨?_, fun q hq hm => io.na q (up hq) (List.mem_append_left _ hm), fun q hq => io.f q (up hq), fun q hq => io.h q (up hq)⟩⟩
  · rw [List.length_take, ← hl0]; omega
  · have hn : n < α.length := (List.getElem?_eq_some_iff.mp e1).1
    rw [List.getElem?_take, if_pos (by rw [← hl0]; exact hn)] at e2
    exact r'.heap n p o (by rw [et, List.getElem?_append_left hn]; exact e1) e2
  · have nd' := io.nd
    rw [innA_app, List.nodup_append] at nd'
    exact nd'.1
theorem fn_post {K : PySem.W.Frag} {F0 H : Hp} {α : List Addr} {F' H' : Hp} {α' : List Addr} {rho' : Ro} {h' : Hh} {σ' : L2.St} (s' : Same F0 F') (r' : Rel K (fxS F0 H α) F' α' rho' h' σ' H') : FnPost F0 H α F' H' := ⟨s', r'.sub, r'.new, r'.fr, fun q hq => (r'.ii q (by
    obtain ⟨t, et, _⟩ := r'.pre
    have et : α' = α ++ t := et
    rw [et, innA_app]
    exact List.mem_append_left _ hq)).2.1, r'.df⟩
theorem fn_ok {P : Program} {w : World} {K : PySem.W.Frag} {mg : Str → Option Value} {base : Heap} {x qual : Str} {params : Arguments} {body : List Stmt} {scope : Scope} {f : Addr} {fd : FuncData} {N ps : List Str} {k : Nat} {b : DenS} {kws : List (Str × V)}
    (F : FunD K x qual params body scope [] kws f fd) (S : FnScope N ps scope) (hps : ps.length ≤ N.length)
    (hb : ∀ (cdv : Value) (A : Around) (outer : List Env) (s : Shared) (H : Hp) (E : XK), Room k (A.deeper (envOfC qual scope s.heap.objs.size f cdv)) →
      JSs (cxOf (L2.CX P w) P w K mg base N qual scope f cdv A outer s H E) (fun cls d _ H => E cls d H) body b) :
    FnOk P w K mg base (L2.CX P w) (k + 1) f fd ps (spOf K mg ps.length (runFn ps.length N.length b)) := by
  refine F.ok S (fun vs H Q E h => h.1) (fun cdv A outer s H vs Q E hr h => ⟨tS (cxOf (L2.CX P w) P w K mg base N qual scope f cdv A outer s H E) (fun cls d _ H => E cls d H) b, hb cdv A outer s H E hr, ?_⟩)
  obtain ⟨len, F0, α, args, h0, sub, nd, ho, ha, m⟩ := h
  have la : args.length = ps.length := by rw [← Paired.length ha]; exact len
  refine ⟨fxS F0 H α, F0, α, _, h0, fn_rel (N := N) len sub nd ho ha, ?_⟩
  unfold runFn at m
  rw [if_pos la] at m
  cases wb : b ⟨args.map slotOf ++ List.replicate (N.length - ps.length) .no, h0⟩ with
  | next s' =>
    rw [wb] at m
    exact fun σ' F' α' H' s1 r1 => m .non F' H' (fn_post s1 r1) (fn_heap ho.1.1 r1) .non
  | cont s' => rw [wb] at m; exact m.elim
  | retR n h' => rw [wb] at m; exact m.elim
  | ret d h' =>
    rw [wb] at m
    exact fun v rho' σ' F' α' H' s1 r1 rv => m v F' H' (fn_post s1 r1) (fn_heap ho.1.1 r1) rv
  | exc c s' =>
    rw [wb] at m
    exact fun cv σ' F' α' H' s1 r1 e => m cv F' H' (fn_post s1 r1) (fn_heap ho.1.1 r1) e
  | bad => rw [wb] at m; exact m.elim
end Ev
/-! # Ev13: {"a": .., ..}[k] -/
namespace Ev
open PySem PySem.Spec PyProof.Rows L2
section
variable {X : Cx} {W : WX}
def pickV : List (L2.Key × V) → L2.Key → Option V
  | [], _ => none
  | (k, v) :: r, x => match pickV r x with
    | some u => some u
    | none => if k = x then some v else none
theorem valV_merge {x : L2.Key} : ∀ {more kvs : List (L2.Key × V)}, valV (mergeK kvs more) x = match pickV more x with
    | some u => some u
    | none => valV kvs x
  | [], kvs => rfl
  | (k, v) :: r, kvs => by
    have ih := valV_merge (x := x) (more := r) (kvs := putK kvs k v)
    show valV (mergeK (putK kvs k v) r) x = _
    rw [ih, L2.valV_put]
    show _ = match (match pickV r x with
      | some u => some u
      | none => if k = x then some v else none) with
      | some u => some u
      | none => valV kvs x
    cases pickV r x with
    | some u => rfl
    | none =>
      by_cases h : k = x
      · subst h; simp
      · simp [h, Ne.symm h]
def mkK : List Str → List V → List (L2.Key × V)
  | k :: ks, v :: vs => (.inr k, v) :: mkK ks vs
  | _, _ => []
theorem pickV_S {K : PySem.W.Frag} {F : Hp} {x : Str} : ∀ {ks : List Str} {vs : List V} {ds : List D}, RpAll K F vs ds → ∀ {d : D}, pickS ks ds x = some d → ∃ v, pickV (mkK ks vs) (.inr x) = some v ∧ Rp K F v d
  | [], _, _, _, _, e => by cases e
  | _ :: _, _, _, .nil, _, e => by cases e
  | k :: ks, _, _, .cons (v := v) (d := d0) h r, d, e => by
    unfold pickS at e
    unfold mkK pickV
    cases w : pickS ks _ x with
    | some r0 =>
      rw [w] at e
      cases e
      obtain ⟨u, h1, h2⟩ := pickV_S (ks := ks) r w
      exact ⟨u, by rw [h1], h2⟩
    | none =>
      rw [w] at e
      have hn : pickV (mkK ks _) (.inr x) = none := pickS_none r w
      rw [hn]
      dsimp only at e
      split at e
      · rename_i hk
        cases e
        exact ⟨v, by rw [hk]; simp, h⟩
      · cases e
where
  pickS_none {K : PySem.W.Frag} {F : Hp} {x : Str} : ∀ {ks : List Str} {vs : List V} {ds : List D}, RpAll K F vs ds → pickS ks ds x = none → pickV (mkK ks vs) (.inr x) = none
  | [], _, _, _, _ => by unfold mkK; rfl
  | _ :: _, _, _, .nil, _ => by unfold mkK; rfl
  | k :: ks, _, _, .cons h r, e => by
    unfold pickS at e
    unfold mkK pickV
    cases w : pickS ks _ x with
    | some r0 => rw [w] at e; cases e
    | none =>
      rw [w] at e
      rw [pickS_none (ks := ks) r w]
      dsimp only at e ⊢
      split at e
      · cases e
      · rename_i hk
        have : ¬ ((Sum.inr k : L2.Key) = Sum.inr x) := fun z => hk (Sum.inr.inj z)
        simp [this]
def trsOf (X : Cx) (W : WX) (ks : List Str) (fs : List Den) : List (TE × TE) := (ks.zip fs).map fun q => (tC (.str q.1), tE X W q.2)
theorem pairs_run {B : Fx} {σ : L2.St} {rho : Ro} : ∀ {ks : List Str} {fs : List Den} {F H : Hp} {α : List Addr} {h : Hh} {G : List D → Hp → List Addr → Hp → Prop} {Q : List (V × V) → Hp → Prop}, ks.length = fs.length → Rel X.K B F α rho h σ H → Post X W B σ F rho (dAll fs rho h) G →
    (∀ ps H2, (∃ F2 α2 h2 ds vs, Same F F2 ∧ Rel X.K B F2 α2 rho h2 σ H2 ∧ RpAll X.K F2 vs ds ∧ ps = (mkK ks vs).map (fun kv => (kV kv.1, kv.2)) ∧ vs.length = ks.length ∧ Post X W B σ F2 rho (.ok ds h2) G) → Q ps H2) → tPairs (trsOf X W ks fs) σ H Q
  | [], [], F, H, α, h, G, Q, _, r, p, hQ => hQ [] H ⟨F, α, h, [], [], same_refl, r, .nil, rfl, rfl, p⟩
  | [], _ :: _, _, _, _, _, _, _, e, _, _, _ => by simp at e
  | _ :: _, [], _, _, _, _, _, _, e, _, _, _ => by simp at e
  | k :: ks, f :: fs, F, H, α, h, G, Q, e, r, p, hQ => by
    show tE X W f σ H fun y H2 => tPairs (trsOf X W ks fs) σ H2 _
    refine ⟨B, F, α, rho, h, r, post_imp (post_bind p) fun d F1 α1 H1 s1 ⟨h1, r1, p1⟩ v hv => ?_⟩
    refine pairs_run (ks := ks) (fs := fs) (by simpa using e) r1 (post_bind p1) fun ps H2 ⟨F2, α2, h2, ds, vs, s2, r2, rv, eps, lv, p2⟩ => ?_
    obtain ⟨h3, r3, p3⟩ := post_ok r2 p2
    refine hQ _ _ ⟨F2, α2, h3, d :: ds, v :: vs, s1.trans s2, r3, .cons (rp_mono s2 hv) rv, ?_, by rw [List.length_cons, List.length_cons, lv], p3⟩
    rw [eps]
    rfl
theorem mkK_len : ∀ {ks : List Str} {vs : List V}, vs.length = ks.length → (mkK ks vs).length = ks.length
  | [], _, _ => by unfold mkK; rfl
  | _ :: _, [], e => by simp at e
  | k :: ks, v :: vs, e => by unfold mkK; rw [List.length_cons, List.length_cons, mkK_len (by simpa using e)]
theorem je_pick {keys : List (Option Expr)} {values : List Expr} {key : Expr} {ks : List Str} {fs : List Den} {g : Den} {pos dpos : Pos} (hu : X.A.units + 1 < cLine) (hp : PPs X dpos keys values (trsOf X W ks fs)) (hall : keys.all (·.isSome) = true) (hl : keys.length = values.length) (h0 : keys ≠ []) (h15 : keys.length ≤ 15)
    (hk : ks.length = keys.length) (hf : ks.length = fs.length) (hg : JE X W key g) (hs : NoSl key) : JE X W (.Subscript (.Dict keys values dpos) key pos) (dPick ks fs g) := by
  refine pe_mono (pe_dget hu (pe_disp hp hall hl h0 h15) hg hs) fun σ H Q ⟨B, F, α, rho, h, r, p⟩ => ?_
  unfold tDGet tDisp
  intro q hq
  have fr := r.freshU (o := .dK []) hq
  have r1 : Rel X.K (B.keep q (.dK [])) F α rho h σ (upd H q (.dK [])) := (r.add hq).keep fr upd_same
  have pk := post_keepB (o := HO.dK []) fr.k (post_bind (show Post X W B σ F rho ((dAll fs rho h).bind _) _ from p))
  refine pairs_run hf r1 pk fun ps H2 ⟨F2, α2, h2, ds, vs, s2, r2, rv, eps, lv, p2⟩ => ?_
  obtain ⟨f3, e3, h3, r3, p3⟩ := post_ok r2 p2
  refine ⟨e3, mkK ks vs, eps, by rw [mkK_len lv, hk]; exact h15, ?_⟩
  have r4 : Rel X.K (B.keep q (.dK (mergeK [] (mkK ks vs)))) F2 α2 rho h3 σ (upd H2 q (.dK (mergeK [] (mkK ks vs)))) := (r3.over f3).keep f3.over upd_same
  refine ⟨_, F2, α2, rho, h3, r4, post_imp (post_keepB fr.k (post_bind p3)) fun d F5 α5 H5 s5 ⟨f5, e5, h5, r5, p5⟩ v hv => ?_⟩
  cases d with
  | str x =>
    cases hv
    dsimp only at p5
    cases w : pickS ks ds x with
    | none => rw [w] at p5; exact p5.elim
    | some d =>
      rw [w] at p5
      obtain ⟨u, e6, ru⟩ := pickV_S (rpAll_mono s5 rv) w
      refine ⟨q, u, rfl, .inl ⟨_, .inr x, .inl e5, rfl, ?_⟩, post_ok r5 p5 u ru⟩
      rw [valV_merge, e6]
  | _ => exact p5.elim
end
end Ev
/-! # Ex: x.index(e) -/
namespace Ev
open PySem PySem.Spec PyProof.Rows L2
section
variable {X : Cx} {W : WX} {K : PySem.W.Frag}
theorem idxD_some {d : D} {j : Nat} : ∀ {ds : List D} {k : Nat}, idxD ds d k = some j → ∃ m z, j = k + m ∧ ds[m]? = some z ∧ PyData.eqv z d = true ∧ ∀ (n : Nat) (z' : D), n < m → ds[n]? = some z' → PyData.eqv z' d = false
  | [], _, e => by cases e
  | z :: r, k, e => by
    unfold idxD at e
    split at e
    · rename_i h
      cases e
      exact ⟨0, z, rfl, rfl, h, fun n z' hn => absurd hn (Nat.not_lt_zero _)⟩
    · rename_i h
      obtain ⟨m, y, h1, h2, h3, h4⟩ := idxD_some (ds := r) e
      refine ⟨m + 1, y, by omega, by simpa using h2, h3, fun n z' hn e' => ?_⟩
      cases n with
      | zero =>
        simp only [List.getElem?_cons_zero, Option.some.injEq] at e'
        subst e'
        simpa using h
      | succ n => exact h4 n z' (by omega) (by simpa using e')
theorem je_index {i : Nat} {x : Str} {a : Expr} {o : Opd} {px apos cpos : Pos} (hu : X.A.units + 65 < cLine) (hN : X.N[i]? = some x) (hv : Vis X.env.scope x) (hd : (x == ("__debug__" : Str)) = false) (hcd : (x == ("__classdict__" : Str)) = false) (hs : isStar a = false) (ha : JO X W a o) (hline : (apos.endLine == cpos.line) = true) :
    JE X W (.Call (.Attribute (.Name x px) "index" apos) [a] [] cpos) (dIndex i o) := by
  have hfew : ((backTo cpos (starEach [a] X.env)).all (fun x => !x.1) && (backToKw cpos (keywordEach [] X.env)).all (fun x => x.1.isSome) && decide ([a].length + ([] : List Keyword).length + (if ([] : List Keyword).isEmpty then 0 else 1) < 30)) = true := by
    rw [star_cons hs]; rfl
  refine pe_mono (pe_bm PySem.F.plainAttrs_list PySem.F.slot_list_index PySem.F.type_list_index (mt_indexD hu) (pe_var hN hv hd hcd) (pa_cons ha pa_nil (star_cons hs)) rfl hfew hline (star_cons hs) rfl) fun σ H Q ⟨B, F, α, rho, h, r, p⟩ => ?_
  unfold dIndex at p
  cases e : look rho h i with
  | none => rw [e] at p; exact p.elim
  | some a0 =>
    rw [e] at p
    cases a0 with
    | list ds0 =>
      obtain ⟨v, ev, tv⟩ := r.look e
      obtain ⟨q, vs, rfl, rd, _⟩ := tv.list r.sub
      refine ⟨.ref q, ev, .inl ⟨rfl, vs, .inl rd⟩, ?_⟩
      unfold tCons tNil
      refine tO_mono (Ev.o1 r p) fun y H1 ⟨F1, α1, h1, b, s1, r1, ty, p1⟩ => ?_
      cases e1 : look rho h1 i with
      | none => rw [e1] at p1; exact p1.elim
      | some a1 =>
        rw [e1] at p1
        cases a1 with
        | list ds =>
          obtain ⟨v', ev', tv'⟩ := r1.look e1
          rw [ev] at ev'
          cases ev'
          dsimp only at p1
          unfold kIndex at p1
          split at p1
          · rename_i hl
            cases e2 : idxD ds b 0 with
            | none => rw [e2] at p1; exact p1.elim
            | some j =>
              rw [e2] at p1
              obtain ⟨m, z, h2, h3, h4, h5⟩ := idxD_some e2
              rw [Nat.zero_add] at h2
              subst h2
              exact ⟨q, y, b, ds, j, z, rfl, rfl, tv'.dpH r1.sub hl.1, ty.dpH r1.sub hl.2, hl.1, hl.2, h3, h4, h5, post_ok r1 p1 _ (.int _)⟩
          · exact p1.elim
        | _ => exact p1.elim
    | _ => exact p.elim
end
end Ev
/-! # Dc: dicts whose keys are tuples of whole numbers -/
namespace Ev
open PySem PySem.Spec PyProof.Rows L2
section
variable {X : Cx} {W : WX} {K : PySem.W.Frag} {F H : Hp} {pins : List (Addr × Obj)} {σ : L2.St} {s : Shared}
theorem keyL_nested {h : Heap} : ∀ {vs : List V} {ds : List D} {is : List Int} {its : List Value}, RpAll K F vs ds → keyL ds = some is → Vals vs its → NestedAll h (is.map .num) its
  | _, _, _, _, .nil, e, r => by
    cases e
    cases r
    exact .nil
  | _, _, is, _, .cons (d := d) (ds := ds) hd hr, e, r => by
    cases r with
    | cons r1 r2 =>
      unfold keyL at e
      cases e1 : keyI d with
      | none => rw [e1] at e; cases e
      | some i =>
        cases e2 : keyL ds with
        | none => rw [e1, e2] at e; cases e
        | some js =>
          rw [e1, e2] at e
          cases e
          refine .cons ?_ (keyL_nested hr e2 r2)
          unfold keyI at e1
          split at e1
          · cases e1
            cases hd
            obtain ⟨t, rfl⟩ := r1
            exact .int _ t
          · cases e1
            cases hd
            cases r1
            exact .bool rfl
          · cases e1
theorem nums_depth : ∀ is : List Int, NestedKey.depthAll (is.map .num) ≤ 1
  | [] => by rw [List.map_nil, NestedKey.depthAll]; omega
  | i :: is => by
    have := nums_depth is
    rw [List.map_cons, NestedKey.depthAll, NestedKey.depth]
    omega
theorem nkey_depth (is : List Int) : (nkey is).depth ≤ 8 := by
  have := nums_depth is
  unfold nkey
  rw [NestedKey.depth]
  omega
theorem nums_inj : ∀ {a b : List Int}, a.map NestedKey.num = b.map NestedKey.num → a = b
  | [], [], _ => rfl
  | [], _ :: _, h => by simp at h
  | _ :: _, [], h => by simp at h
  | x :: xs, y :: ys, h => by
    rw [List.map_cons, List.map_cons, List.cons.injEq] at h
    have e : x = y := by injection h.1
    rw [e, nums_inj h.2]
theorem nkey_inj {a b : List Int} (h : nkey a = nkey b) : a = b := by
  unfold nkey at h
  injection h with h
  exact nums_inj h
theorem hash_world (w w' : World) : ∀ is : List Int, NestedKey.hashes w (is.map .num) = NestedKey.hashes w' (is.map .num)
  | [] => by rw [List.map_nil, NestedKey.hashes, NestedKey.hashes]
  | i :: is => by rw [List.map_cons, NestedKey.hashes, NestedKey.hashes, hash_world w w' is, NestedKey.hash, NestedKey.hash]
theorem entN_world (w w' : World) (x : DEnt) : entN w x = entN w' x := by
  unfold entN nkey
  rw [NestedKey.hash, NestedKey.hash, hash_world w w']
theorem key_is (I : Inv X pins σ H s) (sub : Same F H) {b : Addr} {kd : D} {is : List Int} (r : Rp X.K F (.ref b) kd) (e : keyOf kd = some is) : (nestedKind X.prog X.w).is s.heap (nkey is) b := by
  cases r with
  | tup h r l _ =>
    obtain ⟨its, rv, ⟨o, e1, e2, n, e3⟩, _⟩ := I.tuple (Same.seqT sub h)
    exact ⟨.tup e1 e2 e3 (keyL_nested r e rv), nkey_depth is⟩
  | lst _ _ _ => cases e
  | dct _ _ _ => cases e
def asH (x : DEnt) : NestedKey × Addr × Value := (nkey x.1, x.2.1, x.2.2)
theorem nodup_nkey : ∀ {xs : List DEnt}, (xs.map (·.1)).Nodup → ((xs.map asH).map (·.1)).Nodup
  | [], _ => List.nodup_nil
  | x :: xs, h => by
    rw [List.map_cons, List.nodup_cons] at h
    rw [List.map_cons, List.map_cons, List.nodup_cons]
    refine ⟨fun hm => h.1 ?_, nodup_nkey h.2⟩
    rw [List.map_map, List.mem_map] at hm
    obtain ⟨y, hy, e⟩ := hm
    have e : y.1 = x.1 := nkey_inj e
    exact List.mem_map.mpr ⟨y, hy, e⟩
theorem RpKv.keys {xs : List DEnt} {kvs : List (D × D)} (r : RpKv K F xs kvs) : ∀ x ∈ xs, ∃ kd, keyOf kd = some x.1 ∧ Rp K F (.ref x.2.1) kd := by
  intro x hx
  induction xs generalizing kvs with
  | nil => simp at hx
  | cons y xs ih =>
    cases r with
    | cons h1 h2 h3 h4 r =>
      rcases List.mem_cons.mp hx with rfl | hx
      · exact ⟨_, h1, h2⟩
      · exact ih r hx
theorem dict_is (I : Inv X pins σ H s) (sub : Same F H) {p : Addr} {o : Obj} {xs : List DEnt} {kvs : List (D × D)} (hd : H p = some (pinO p o)) (k : DOk p o xs) (r : RpKv X.K F xs kvs) : s.heap.DictOfH (nestedKind X.prog X.w) p (xs.map asH) := by
  obtain ⟨es, ep, hod, he⟩ := k.es
  refine ⟨o, es, ep, I.pinD hd, k.ex, hod, ?_, fun x hx => ?_, nodup_nkey k.nd⟩
  · rw [he X.w, List.map_map]
    rfl
  · obtain ⟨y, hy, rfl⟩ := List.mem_map.mp hx
    obtain ⟨kd, h1, h2⟩ := r.keys y hy
    exact key_is I sub h2 h1
theorem atKey_some {is : List Int} {d : D} : ∀ {xs : List DEnt} {kvs : List (D × D)}, RpKv K F xs kvs → getK kvs is = some d → ∃ b u v, atKey (xs.map asH) (nkey is) = some (b, u) ∧ RelV v u ∧ Rp K F v d
  | _, _, .nil, e => by cases e
  | _, _, .cons (is := js) (b := b) (u := u) (v := v) h1 h2 h3 h4 r, e => by
    unfold getK at e
    rw [h1] at e
    by_cases hj : js = is
    · subst hj
      rw [if_pos rfl] at e
      cases e
      exact ⟨b, u, v, by simp [atKey, asH], h3, h4⟩
    · rw [if_neg (fun z => hj (Option.some.inj z))] at e
      obtain ⟨b', u', v', g1, g2, g3⟩ := atKey_some r e
      refine ⟨b', u', v', ?_, g2, g3⟩
      have hne : ¬ nkey js = nkey is := fun z => hj (nkey_inj z)
      rw [← g1]
      simp [atKey, asH, hne]
theorem atKey_none {is : List Int} : ∀ {xs : List DEnt} {kvs : List (D × D)}, RpKv K F xs kvs → getK kvs is = none → atKey (xs.map asH) (nkey is) = none
  | _, _, .nil, _ => rfl
  | _, _, .cons (is := js) h1 h2 h3 h4 r, e => by
    unfold getK at e
    rw [h1] at e
    by_cases hj : js = is
    · subst hj
      rw [if_pos rfl] at e
      cases e
    · rw [if_neg (fun z => hj (Option.some.inj z))] at e
      have g := atKey_none r e
      have hne : ¬ nkey js = nkey is := fun z => hj (nkey_inj z)
      rw [← g]
      simp [atKey, asH, hne]
theorem atKey_isSome {is : List Int} {xs : List DEnt} {kvs : List (D × D)} (r : RpKv K F xs kvs) : (atKey (xs.map asH) (nkey is)).isSome = (getK kvs is).isSome := by
  cases e : getK kvs is with
  | none => rw [atKey_none r e]; rfl
  | some d => obtain ⟨b, u, v, g, _⟩ := atKey_some r e; rw [g]; rfl
/-! ### the rules, by values -/
/-- a dict and a key, at hand -/
def DKey (K : PySem.W.Frag) (F H : Hp) (p b : Addr) (kvs : List (D × D)) (is : List Int) : Prop := Same F H ∧ ∃ o xs kd, H p = some (pinO p o) ∧ DOk p o xs ∧ RpKv K F xs kvs ∧ Rp K F (.ref b) kd ∧ keyOf kd = some is
theorem top_key {x : V} {kd : D} {is : List Int} (t : Top K F H x kd) (e : keyOf kd = some is) : ∃ b, x = .ref b ∧ Rp K F (.ref b) kd := by
  cases t with
  | dp h =>
    cases h with
    | tup h1 h2 h3 h4 => exact ⟨_, rfl, .tup h1 h2 h3 h4⟩
    | lst h1 h2 h3 => cases e
    | dct h1 h2 h3 => cases e
    | _ => cases e
  | lst _ _ => cases e
  | dct _ _ _ => cases e
def rIxN (K : PySem.W.Frag) : R2 := fun x y H Q => ∃ F p b kvs is d, x = .ref p ∧ y = .ref b ∧ DKey K F H p b kvs is ∧ getK kvs is = some d ∧ ∀ v, Rp K F v d → Q v H
theorem ix_dict (hu : X.A.units + 65 < cLine) : IxR X (rIxN X.K) := by
  intro value slice pins s σ H x y v u Q I rx ry h hs
  obtain ⟨F, p, b, kvs, is, d, rfl, rfl, ⟨sub, o, xs, kd, hd, k, r, rk, ek⟩, e, q⟩ := h
  cases rx
  cases ry
  have dd := dict_is I sub hd k r
  obtain ⟨b', u', v', g1, g2, g3⟩ := atKey_some r e
  have fin : EP X pins σ Q u' { s with toks := s.toks + (nestedKind X.prog X.w).draws (nkey is) } := ⟨v', H, I.tok _, g2, q _ g3⟩
  exact subscriptTail_builtinR (x := u') dd.typeIs PySem.F.slot_dict_getitem.lookup
    (wpAny_getItem_heap (knd := nestedKind X.prog X.w) (Q := fun r s' => r = u' ∧ EP X pins σ Q r s') (show X.A.units + 1 + 8 < cLine by omega) (key_is I sub rk ek) dd g1 ⟨rfl, fin⟩) hs
def rInN (K : PySem.W.Frag) : R2 := fun x y H Q => ∃ F p b kvs is, x = .ref b ∧ y = .ref p ∧ DKey K F H p b kvs is ∧ Q (.bl (getK kvs is).isSome) H
def rNotInN (K : PySem.W.Frag) : R2 := fun x y H Q => ∃ F p b kvs is, x = .ref b ∧ y = .ref p ∧ DKey K F H p b kvs is ∧ Q (.bl (!(getK kvs is).isSome)) H
theorem op_inN (hu : X.A.units + 65 < cLine) : OpR X (compareOp .In) (rInN X.K) := by
  intro pins s σ H x y v u Q I rx ry h
  obtain ⟨F, p, b, kvs, is, rfl, rfl, ⟨sub, o, xs, kd, hd, k, r, rk, ek⟩, q⟩ := h
  cases rx
  cases ry
  refine wpAny_in_heap (knd := nestedKind X.prog X.w) (show X.A.units + 1 + 8 < cLine by omega) (key_is I sub rk ek) k.ns (dict_is I sub hd k r) ?_
  rw [atKey_isSome r]
  exact ⟨.bl _, H, I.tok _, rfl, q⟩
theorem op_notInN (hu : X.A.units + 65 < cLine) : OpR X (compareOp .NotIn) (rNotInN X.K) := by
  intro pins s σ H x y v u Q I rx ry h
  obtain ⟨F, p, b, kvs, is, rfl, rfl, ⟨sub, o, xs, kd, hd, k, r, rk, ek⟩, q⟩ := h
  cases rx
  cases ry
  refine wpAny_notIn_heap (knd := nestedKind X.prog X.w) (show X.A.units + 1 + 8 < cLine by omega) (key_is I sub rk ek) k.ns (dict_is I sub hd k r) ?_
  rw [atKey_isSome r]
  exact ⟨.bl _, H, I.tok _, rfl, q⟩
theorem p_ixN : Prim2 K (fun x y H Q => (rIxL K x y H Q ∨ rIxT K x y H Q) ∨ rIxN K x y H Q) pIx := by
  intro x y F H a b d Q s tx ty e q
  unfold pIx at e
  split at e
  · split at e
    · rename_i kvs _ is ek
      obtain ⟨p, o, xs, rfl, h1, k, r⟩ := tx.dict s
      obtain ⟨b', rfl, rb⟩ := top_key ty ek
      exact .inr ⟨F, p, b', _, is, d, rfl, rfl, ⟨s, o, xs, _, h1, k, r, rb, ek⟩, e, fun v hv => q v F H (ext0 s) hv⟩
    · cases e
  · exact .inl (p_ix x y F H a b d Q s tx ty e q)
theorem p_inN : Prim2 K (fun x y H Q => (rInD K x y H Q ∨ rInT K x y H Q) ∨ rInN K x y H Q) pInN := by
  intro x y F H a b d Q s tx ty e q
  unfold pInN at e
  split at e
  · rename_i kvs
    cases ek : keyOf a with
    | none => rw [ek] at e; cases e
    | some is =>
      rw [ek] at e
      cases e
      obtain ⟨p, o, xs, rfl, h1, k, r⟩ := ty.dict s
      obtain ⟨b', rfl, rb⟩ := top_key tx ek
      exact .inr ⟨F, p, b', _, is, rfl, rfl, ⟨s, o, xs, _, h1, k, r, rb, ek⟩, q _ F H (ext0 s) (.bl _)⟩
  · exact .inl (p_in x y F H a _ d Q s tx ty e q)
theorem p_notInN : Prim2 K (fun x y H Q => (rNotInD K x y H Q ∨ rNotInT K x y H Q) ∨ rNotInN K x y H Q) pNotInN := by
  intro x y F H a b d Q s tx ty e q
  unfold pNotInN at e
  split at e
  · rename_i kvs
    cases ek : keyOf a with
    | none => rw [ek] at e; cases e
    | some is =>
      rw [ek] at e
      cases e
      obtain ⟨p, o, xs, rfl, h1, k, r⟩ := ty.dict s
      obtain ⟨b', rfl, rb⟩ := top_key tx ek
      exact .inr ⟨F, p, b', _, is, rfl, rfl, ⟨s, o, xs, _, h1, k, r, rb, ek⟩, q _ F H (ext0 s) (.bl _)⟩
  · exact .inl (p_notIn x y F H a _ d Q s tx ty e q)
/-! ### x.get(k, d) -/
theorem pe_getN {i : Nat} {x : Str} {a b : Expr} {ta tb : TE} {px apos cpos : Pos} (hN : X.N[i]? = some x) (hv : Vis X.env.scope x) (hd : (x == ("__debug__" : Str)) = false) (hcd : (x == ("__classdict__" : Str)) = false) (ha : PE X a ta) (hb : PE X b tb) (m : M2 X (.Name x px) "get" apos a b cpos) (hu : X.A.units + 65 < cLine) :
    PE X (.Call (.Attribute (.Name x px) "get" apos) [a, b] [] cpos) (fun σ H Q => ∃ p, σ[i]? = some (some (.ref p)) ∧ (∃ o, H p = some (pinO p o) ∧ o.ExactDict) ∧ ta σ H fun y H1 => tb σ H1 fun z H2 => ∃ F b kvs is, y = .ref b ∧ DKey X.K F H2 p b kvs is ∧ (getK kvs is = none → Q z H2) ∧ ∀ d v, getK kvs is = some d → Rp X.K F v d → Q v H2) := by
  refine ⟨fun pins s σ H Q I ⟨p, ep, ⟨o, ho, hx⟩, h⟩ => ?_⟩
  refine wpAny_Call_method m.base m.few m.line PySem.F.plainAttrs_dict PySem.F.slot_dict_get PySem.F.type_dict_get (thn ((pe_var hN hv hd hcd).run pins s σ H (fun v H1 => v = .ref p ∧ H1 = H) I ⟨_, ep, rfl, rfl⟩) fun u s1 ⟨x, H1, I1, rx, ex, eH⟩ => ?_)
  subst ex eH
  obtain rfl : u = Value.ref p := rx
  refine ⟨⟨o, I1.pinD ho, hx.1⟩, fun a e => by cases e; exact ⟨o, I1.pinD ho, hx.2.1⟩, ?_⟩
  rw [m.trees]
  refine Calls.callWith_builtin rfl (Calls.evalArgs_plain (Calls.spliced_cons (thn (ha.run pins s1 σ H1 _ I1 h) fun iv s2 ⟨y, H2, I2, ry, q2⟩ =>
    Calls.spliced_cons (thn (hb.run pins s2 σ H2 _ I2 q2) fun fv s3 ⟨z, H3, I3, rz, F, b, kvs, is, ey, ⟨sub, o', xs, kd, hd', k, r, rk, ek⟩, q3, q4⟩ => Calls.spliced_nil ?_))))
  subst ey
  obtain rfl : iv = Value.ref b := ry
  have dd := dict_is I3 sub hd' k r
  refine call_meetsIn PySem.F.slot_dict_get dd.typeIs PySem.F.entry_dict_get (PySem.F.args_dict_get_3 _ _ _) (meetsH_dict_get_default (nestedKind X.prog X.w) p b k.ns fv) ⟨show X.A.units + 1 + 8 < cLine by omega, nkey is, _, key_is I3 sub rk ek, dd, ?_⟩
  cases e : getK kvs is with
  | none =>
    rw [atKey_none r e]
    exact ⟨z, H3, I3.tok _, rz, q3 e⟩
  | some d =>
    obtain ⟨b', u', v', g1, g2, g3⟩ := atKey_some r e
    rw [g1]
    exact ⟨v', H3, I3.tok _, g2, q4 d v' e g3⟩
theorem je_get {i : Nat} {x : Str} {a b : Expr} {f g : Den} {px apos cpos : Pos} (hN : X.N[i]? = some x) (hv : Vis X.env.scope x) (hd : (x == ("__debug__" : Str)) = false) (hcd : (x == ("__classdict__" : Str)) = false) (sa : isStar a = false) (sb : isStar b = false) (ha : JE X W a f) (hb : JE X W b g) (hline : (apos.endLine == cpos.line) = true) (hu : X.A.units + 65 < cLine) :
    JE X W (.Call (.Attribute (.Name x px) "get" apos) [a, b] [] cpos) (dGet i f g) := by
  have tr : starEach [a, b] X.env = [(false, eval a X.env), (false, eval b X.env)] := by rw [star_cons sa, star_cons sb]; rfl
  have m : M2 X (.Name x px) "get" apos a b cpos := ⟨rfl, by rw [tr]; rfl, hline, by rw [tr]; rfl⟩
  refine pe_mono (pe_getN hN hv hd hcd ha hb m hu) fun σ H Q ⟨B, F, α, rho, h, r, p⟩ => ?_
  unfold dGet at p
  cases e : look rho h i with
  | none => rw [e] at p; exact p.elim
  | some a0 =>
    rw [e] at p
    cases a0 with
    | dict kvs0 =>
      obtain ⟨v, ev, tv⟩ := r.look e
      obtain ⟨q, o, xs, rfl, hq, k, _⟩ := tv.dict r.sub
      refine ⟨q, ev, ⟨o, hq, k.ex⟩, B, F, α, rho, h, r, ?_⟩
      refine post_imp (post_bind p) fun kd F1 α1 H1 s1 ⟨h1, r1, p1⟩ y hy => ⟨B, F1, α1, rho, h1, r1, ?_⟩
      refine post_imp (post_bind p1) fun d F2 α2 H2 s2 ⟨h2, r2, p2⟩ z hz => ?_
      cases e1 : look rho h2 i with
      | none => rw [e1] at p2; exact p2.elim
      | some a1 =>
        rw [e1] at p2
        cases a1 with
        | dict kvs =>
          obtain ⟨v', ev', tv'⟩ := r2.look e1
          rw [ev] at ev'
          cases ev'
          obtain ⟨q', o', xs', eq, hq', k', rk'⟩ := tv'.dict r2.sub
          cases eq
          dsimp only at p2
          cases ek : keyOf kd with
          | none => rw [ek] at p2; exact p2.elim
          | some is =>
            rw [ek] at p2
            dsimp only at p2
            obtain ⟨b', rfl, rb⟩ := top_key (H := H2) (.dp (rp_mono s2 hy)) ek
            refine ⟨F2, b', kvs, is, rfl, ⟨r2.sub, o', xs', kd, hq', k', rk', rb, ek⟩, fun eg => ?_, fun d' v eg hv => ?_⟩
            · rw [eg] at p2
              exact post_ok r2 p2 _ hz
            · rw [eg] at p2
              exact post_ok r2 p2 _ hv
        | _ => exact p2.elim
    | _ => exact p.elim
/-! ### new dicts -/
theorem pin_ok {P : Program} {w : World} {H : Hp} {h : Heap} {a : Addr} {o : Obj} (e : h.get? a = some o) : ObjOk P w H h a (pinO a o) := ⟨e, ⟨o, e⟩, fun _ _ p k => k _ p⟩
theorem dok_new {p : Addr} (hb : (p == sysModules) = false) : DOk p { cls := .type "dict", data := .dict #[] } [] := ⟨hb, ⟨rfl, rfl, rfl⟩, ⟨#[], 0, rfl, fun _ => rfl⟩, List.nodup_nil, Nat.zero_le _⟩
theorem jd_new {pos : Pos} : JD X W (.Dict [] [] pos) kNew := by
  refine ⟨fun pins s σ H Q I ⟨B, F, α, rho, h, r, p⟩ => ?_⟩
  have hn := I.hok.fresh (Nat.le_refl s.heap.objs.size)
  refine wpAny_Dict_empty ⟨.ref s.heap.objs.size, _, I.laid (a := s.heap.objs.size) (o := pinO s.heap.objs.size { cls := .type "dict", data := .dict #[] }) (t' := s.toks) (fun _ _ q => Heap.get?_push_of_some _ q) (Nat.le_refl _) (pin_ok (Heap.get?_push_size _ rfl)), rfl, ?_⟩
  exact p F α _ same_refl (r.add hn) _ _ [] (r.freshU hn) upd_same (dok_new (beq_eq_false_iff_ne.mpr (Ne.symm (Nat.ne_of_lt I.big)))) .nil
theorem display_pairs {prog : Program} {w : World} {A : Around} {E : Value → Shared → Prop} {s : Shared} {env : Env} {k v : Expr} {pos : Pos} {Q : Value → Shared → Prop} (hu : A.units + 8 < cLine)
    (h : wpAny (model prog w) A (evalPairs (pairTrees [some k] [v] env pos)) (fun vs s1 => ∃ ps, CarriesH (nestedKind prog w) s1.heap vs ps ∧ s1.heap.DictOfH (nestedKind prog w) s.heap.objs.size [] ∧
      ∀ h' tk, h'.DictOfH (nestedKind prog w) s.heap.objs.size (storedAllH [] ps) → Heap.SameBut s.heap.objs.size s1.heap h' → Q (.ref s.heap.objs.size) { s1 with heap := h', toks := tk }) E
      { s with heap := s.heap.push { cls := .type "dict", data := .dict #[] } }) :
    wpAny (model prog w) A (eval (.Dict [some k] [v] pos) env) Q E s := by
  have hshape : (evalEachOpt [some k] env).zip ((evalEach [v] env).map fun v => do let x ← v; standAt pos; pure x) = (pairTrees [some k] [v] env pos).map fun p => (some p.1, p.2) := rfl
  rw [arm_eval_Dict, hshape, dictDisplay_pairs (pairTrees [some k] [v] env pos) (by intro z; cases z) (show (1 : Nat) < 17 by decide)]
  refine wpAny_bind (wpAny_standAt (wpAny_bind (wpAny_subDictH (knd := nestedKind prog w) (Q := fun d s' => wpAny (model prog w) A (pure (Value.ref d)) Q E s') hu (show (1 : Nat) ≤ 15 by decide) ?_)))
  refine wpAny_mono h (fun vs s1 h1 => ?_) fun _ _ e => e
  obtain ⟨ps, hc, hm, hq⟩ := h1
  exact ⟨ps, hc, hm, fun h' tk a b => wpAny_pure (hq h' tk a b)⟩
theorem jd_new1 {k v : Expr} {f g : Den} {pos : Pos} (hu : X.A.units + 65 < cLine) (hk : JE X W k f) (hv : JE X W v g) : JD X W (.Dict [some k] [v] pos) (kNew1 f g) := by
  refine ⟨fun pins s σ H Q I ⟨B, F, α, rho, h, r, p⟩ => ?_⟩
  have hn := I.hok.fresh (Nat.le_refl s.heap.objs.size)
  have fr := r.freshU (o := pinO s.heap.objs.size { cls := .type "dict", data := .dict #[] }) hn
  generalize hp0 : s.heap.objs.size = p0 at hn fr
  have I1 := I.laid (a := p0) (o := pinO p0 { cls := .type "dict", data := .dict #[] }) (h' := s.heap.push { cls := .type "dict", data := .dict #[] }) (t' := s.toks) (fun _ _ q => Heap.get?_push_of_some _ q) (Nat.le_of_eq hp0) (pin_ok (by rw [← hp0]; exact Heap.get?_push_size _ rfl))
  have r1 : Rel X.K (B.keep p0 (pinO p0 { cls := .type "dict", data := .dict #[] })) F α rho h σ (upd H p0 (pinO p0 { cls := .type "dict", data := .dict #[] })) := (r.add hn).keep fr upd_same
  have pk := post_keepB (o := pinO p0 { cls := .type "dict", data := .dict #[] }) fr.k (post_bind (show Post X W B σ F rho ((f rho h).bind _) _ from p))
  have nsy : (p0 == sysModules) = false := by rw [← hp0]; exact beq_eq_false_iff_ne.mpr (Ne.symm (Nat.ne_of_lt I.big))
  refine display_pairs (by omega) (pairTrees_cons_walk (thn (hk.run pins _ σ _ (fun y H1 => tE X W g σ H1 fun z H2 => ∃ F2 α2 h2 b kd is d, ∃ r2 : Rel X.K B F2 α2 rho h2 σ H2, y = .ref b ∧ Fresh B F2 α2 rho σ H2 p0 ∧ H2 p0 = some (pinO p0 { cls := .type "dict", data := .dict #[] }) ∧ Rp X.K F2 (.ref b) kd ∧ keyOf kd = some is ∧ Rp X.K F2 z d ∧ Post X W B σ F2 rho (.ok [(kd, d)] h2) (GDc X B rho σ Q)) I1 ⟨_, F, α, rho, h, r1, ?_⟩) fun u s1 ⟨y, H1, I2, ry, q1⟩ => thn (hv.run pins s1 σ H1 _ I2 q1) fun w2 s2 ⟨z, H2, I3, rz, F2, α2, h2, b, kd, is, d, r2, ey, f2, e2, rb, ek, hz, ps⟩ => pairTrees_nil_walk ?_))
  · refine post_imp pk fun kd F1 α1 H1 s1 ⟨f1, e1, h1, r1', p1⟩ y hy => ⟨_, F1, α1, rho, h1, r1'.keep f1 e1, ?_⟩
    refine post_imp (post_keepB fr.k (post_bind p1)) fun d F2 α2 H2 s2 ⟨f2, e2, h2, r2, p2⟩ z hz => ?_
    cases ek : keyOf kd with
    | none => rw [ek] at p2; exact p2.elim
    | some is =>
      rw [ek] at p2
      dsimp only at p2
      obtain ⟨b, rfl, rb⟩ := top_key (H := H2) (.dp (rp_mono s2 hy)) ek
      exact ⟨F2, α2, h2, b, kd, is, d, r2, rfl, f2, e2, rb, ek, hz, p2⟩
  · subst ey
    obtain rfl : u = Value.ref b := ry
    have ki := key_is I3 r2.sub rb ek
    rw [hp0]
    refine ⟨[(nkey is, b, w2)], ⟨rfl, rfl, ki, trivial⟩, ⟨_, #[], 0, I3.pinD e2, ⟨rfl, rfl, rfl⟩, rfl, rfl, fun _ hx => by simp at hx, List.nodup_nil⟩, fun h' tk hm hs' => ?_⟩
    have es : storedAllH ([] : List (NestedKey × Addr × Value)) [(nkey is, b, w2)] = [(is, b, w2)].map asH := rfl
    rw [es] at hm
    obtain ⟨o', es', ep', ho', hx', hod', he', _, _⟩ := hm
    have k' : DOk p0 o' [(is, b, w2)] := ⟨nsy, hx', ⟨es', ep', hod', fun w => by
      rw [he', List.map_map]
      refine List.map_congr_left fun x _ => ?_
      exact entN_world X.w w x⟩, by simp, by rw [sizeLine_eq]; simp⟩
    have I4 : Inv X pins σ (upd H2 p0 (pinO p0 o')) { s2 with heap := h', toks := tk } := d_write I3 (by rw [e2]; exact trivial) hs' ⟨o', ho'⟩ (pin_ok ho')
    exact ⟨.ref p0, _, I4, rfl, ps F2 α2 _ same_refl (r2.over f2) p0 o' _ f2.over upd_same k' (.cons ek rb rz hz .nil)⟩
/-! ### x[k] = d -/
theorem stored_of {is : List Int} {b : Addr} {kd : D} {u : Value} {v : V} {d : D} (hk : keyOf kd = some is) (rb : Rp K F (.ref b) kd) (rv : RelV v u) (hv : Rp K F v d) {xs : List DEnt} {kvs : List (D × D)} (r : RpKv K F xs kvs) (nd : (xs.map (·.1)).Nodup) :
    ∃ xs', storedH (xs.map asH) (nkey is) b u = xs'.map asH ∧ RpKv K F xs' (stoK kvs kd is d) ∧ (xs'.map (·.1)).Nodup ∧ xs'.length ≤ xs.length + 1 := by
  unfold stoK
  cases e : getK kvs is with
  | none =>
    refine ⟨xs ++ [(is, b, u)], ?_, ?_, ?_, by simp⟩
    · rw [storedH_new (atKey_none r e)]
      simp [asH]
    · clear e nd
      induction xs generalizing kvs with
      | nil => cases r; exact .cons hk rb rv hv .nil
      | cons x xs ih =>
        cases r with
        | cons h1 h2 h3 h4 r => exact .cons h1 h2 h3 h4 (ih r)
    · rw [List.map_append, List.nodup_append]
      refine ⟨nd, by simp, fun y hy z hz => ?_⟩
      simp at hz
      subst hz
      rintro rfl
      clear nd
      induction xs generalizing kvs with
      | nil => simp at hy
      | cons x xs ih =>
        cases r with
        | cons h1 h2 h3 h4 r =>
          unfold getK at e
          rw [h1] at e
          split at e
          · cases e
          · rename_i hne
            rw [List.map_cons, List.mem_cons] at hy
            rcases hy with hy | hy
            · exact hne (by rw [hy])
            · exact ih r hy e
  | some d0 =>
    obtain ⟨b0, u0, v0, g1, _⟩ := atKey_some r e
    refine ⟨xs.map fun x => if x.1 = is then (x.1, x.2.1, u) else x, ?_, ?_, ?_, by simp⟩
    · rw [storedH_old g1, List.map_map, List.map_map]
      congr 1
      funext x
      simp only [Function.comp]
      unfold putAt asH
      by_cases hx : x.1 = is
      · rw [if_pos (by rw [hx]), if_pos hx]
      · rw [if_neg (fun z => hx (nkey_inj z)), if_neg hx]
    · clear e g1 nd
      unfold setK
      induction xs generalizing kvs with
      | nil => cases r; exact .nil
      | cons x xs ih =>
        cases r with
        | cons h1 h2 h3 h4 r =>
          rw [List.map_cons, List.map_cons]
          dsimp only
          rw [h1]
          rename_i js b1 u1 kd1 d1 v1 kvs1
          by_cases hx : js = is
          · subst hx
            rw [if_pos rfl, if_pos rfl]
            exact .cons h1 h2 rv hv (ih r)
          · rw [if_neg hx, if_neg (fun z => hx (Option.some.inj z))]
            exact .cons h1 h2 h3 h4 (ih r)
    · rw [List.map_map]
      have : ((fun x : DEnt => x.1) ∘ fun x => if x.1 = is then (x.1, x.2.1, u) else x) = fun x => x.1 := by
        funext x
        simp only [Function.comp]
        split <;> rfl
      rw [this]
      exact nd
theorem js_putDD {i : Nat} {x : Str} {kx e : Expr} {f g : Den} {px tpos pos : Pos} (hN : X.N[i]? = some x) (hv : Vis X.env.scope x) (hd : (x == ("__debug__" : Str)) = false) (hcd : (x == ("__classdict__" : Str)) = false) (hk : JE X W kx f) (he : JE X W e g) (hs : swapsWith e (some (.Subscript (.Name x px) kx tpos)) pos.line X.env = pure false) (hu : X.A.units + 65 < cLine)
    {pins : List (Addr × Obj)} {s : Shared} {σ : L2.St} {H : Hp} {D : Ends} (I : Inv X pins σ H s) {B : Fx} {F : Hp} {α : List Addr} {rho : Ro} {h : Hh} (r : Rel X.K B F α rho h σ H) (nw : ∀ ds : List Ev.D, rho[i]? ≠ some (.own ds)) (p : PostS X W B D F (sPutD i f g ⟨rho, h⟩)) :
    wpAny (model X.prog X.w) X.A (exec (.Assign [.Subscript (.Name x px) kx tpos] e pos) X.env) (SP X pins D) X.xe s := by
  have he' := he.run pins s σ H (fun v H1 => ∃ q, σ[i]? = some (some (.ref q)) ∧ tE X W f σ H1 fun y H2 => ∃ F2 kvs kd is d o xs, Same F2 H2 ∧ H2 q = some (pinO q o) ∧ DOk q o xs ∧ RpKv X.K F2 xs kvs ∧ Rp X.K F2 y kd ∧ keyOf kd = some is ∧ Rp X.K F2 v d ∧ kvs.length < lim ∧ ∀ o' xs', DOk q o' xs' → RpKv X.K F2 xs' (stoK kvs kd is d) → D.nx σ (upd H2 q (pinO q o'))) I ⟨B, F, α, rho, h, r, post_imp (postS_of p) fun d F1 α1 H1 s1 ⟨h1, r1, p1⟩ v hvv => ?_⟩
  · refine wpAny_Assign_Subscript (thn he' fun rv s1 ⟨v, H1, I1, rvv, q, eq, z1⟩ => thn ((pe_var hN hv hd hcd).run pins s1 σ H1 (fun w H2 => w = .ref q ∧ H2 = H1) I1 ⟨_, eq, rfl, rfl⟩) fun u s2 ⟨w, H2, I2, rw', ew, eH⟩ => ?_) hs
    subst ew eH
    obtain rfl : u = Value.ref q := rw'
    refine thn (hk.run pins s2 σ H2 _ I2 z1) fun iv s3 ⟨y, H3, I3, ry, F2, kvs, kd, is, d, o, xs, sm, ho, k, rk, hy, ek, hvd, hl, ps⟩ => ?_
    obtain ⟨b, rfl, rb⟩ := top_key (H := H3) (.dp hy) ek
    obtain rfl : iv = Value.ref b := ry
    have dd := dict_is I3 sm ho k rk
    obtain ⟨xs', g1, g2, g3, g4⟩ := stored_of ek rb rvv hvd rk k.nd
    have hsz : (xs.map asH).length ≤ sizeLine := by rw [List.length_map]; exact k.le
    refine wpAny_setItem_heap (knd := nestedKind X.prog X.w) (show X.A.units + 1 + 8 < cLine by omega) (key_is I3 sm rb ek) dd (fun h' hm' hs' => ?_) hsz
    rw [g1] at hm'
    obtain ⟨o', es', ep', ho', hx', hod', he', _, _⟩ := hm'
    have k' : DOk q o' xs' := ⟨k.ns, hx', ⟨es', ep', hod', fun w => by
      rw [he', List.map_map]
      refine List.map_congr_left fun x _ => ?_
      exact entN_world X.w w x⟩, g3, Nat.le_trans g4 (by rw [rk.length]; exact Nat.le_trans hl lim_le)⟩
    have I4 : Inv X pins σ (upd H3 q (pinO q o')) { s3 with heap := h', toks := s3.toks + (nestedKind X.prog X.w).draws (nkey is) } := d_write I3 (by rw [ho]; exact trivial) hs' ⟨o', ho'⟩ (pin_ok ho')
    exact ⟨σ, _, I4, ps o' xs' k' g2⟩
  · cases w : rho[i]? with
    | none => rw [w] at p1; exact p1.elim
    | some sl =>
      rw [w] at p1
      cases sl with
      | ownd kvs =>
        obtain ⟨q, e1, _⟩ := r1.slot i _ w
        refine ⟨q, jn e1, B, F1, α1, rho, h1, r1, ?_⟩
        refine post_imp (postS_of p1) fun kd F2 α2 H2 s2 ⟨h2, r2, p2⟩ y hy => ?_
        cases ek : keyOf kd with
        | none => rw [ek] at p2; exact p2.elim
        | some is =>
          rw [ek] at p2
          dsimp only at p2
          split at p2
          · rename_i hl
            obtain ⟨q', e1', e0, na, hh1, o, xs, ho, k, rk⟩ := r2.slot i _ w
            rw [e1] at e1'
            cases e1'
            exact ⟨F2, kvs, kd, is, d, o, xs, r2.sub, ho, k, rk, hy, ek, rp_mono s2 hvv, hl, fun o' xs' k' g2 => p2 σ F2 α2 _ same_refl (r2.mutOwnD w (jn e1) k' g2)⟩
          · exact p2.elim
      | ref n =>
        obtain ⟨q, e1, ea⟩ := r1.slot i _ w
        refine ⟨q, jn e1, B, F1, α1, rho, h1, r1, ?_⟩
        refine post_imp (postS_of p1) fun kd F2 α2 H2 s2 ⟨h2, r2, p2⟩ y hy => ?_
        cases ek : keyOf kd with
        | none => rw [ek] at p2; exact p2.elim
        | some is =>
          rw [ek] at p2
          dsimp only at p2
          obtain ⟨q', e1', ea2⟩ := r2.slot i _ w
          rw [e1] at e1'
          cases e1'
          cases w3 : h2[n]? with
          | none => rw [w3] at p2; exact p2.elim
          | some ob =>
            rw [w3] at p2
            cases ob with
            | dic kvs =>
              dsimp only at p2
              split at p2
              · rename_i hl
                obtain ⟨hf, o, xs, ho, k, rk⟩ := r2.heap n q _ ea2 w3
                exact ⟨F2, kvs, kd, is, d, o, xs, r2.sub, ho, k, rk, hy, ek, rp_mono s2 hvv, hl, fun o' xs' k' g2 => p2 σ F2 α2 _ same_refl (r2.mutRefO ea2 w3 hf ⟨hf, o', xs', upd_same, k', g2⟩ (by rw [ho]; rfl) rfl)⟩
              · exact p2.elim
            | _ => exact p2.elim
      | own ds => exact (nw ds w).elim
      | _ => exact p1.elim
theorem RpAll.set {K : PySem.W.Frag} {F : Hp} {v : V} {d : D} (h : Rp K F v d) : ∀ {vs : List V} {ds : List D} (j : Nat), RpAll K F vs ds → RpAll K F (vs.set j v) (ds.set j d)
  | _, _, _, .nil => .nil
  | _, _, 0, .cons _ r => .cons h r
  | _, _, j + 1, .cons h' r => .cons h' (RpAll.set h j r)
theorem putL_ok {i : Nat} {x : Str} {kx e : Expr} {f g : Den} {px tpos pos : Pos} (hN : X.N[i]? = some x) (hv : Vis X.env.scope x) (hd : (x == ("__debug__" : Str)) = false) (hcd : (x == ("__classdict__" : Str)) = false) (hk : JE X W kx f) (he : JE X W e g) (hs : swapsWith e (some (.Subscript (.Name x px) kx tpos)) pos.line X.env = pure false)
    {pins : List (Addr × Obj)} {s : Shared} {σ : L2.St} {H : Hp} {D : Ends} (I : Inv X pins σ H s) {B : Fx} {F : Hp} {α : List Addr} {rho : Ro} {h : Hh} (r : Rel X.K B F α rho h σ H) {ds : List Ev.D} (w : rho[i]? = some (.own ds)) (p : PostS X W B D F (sPutD i f g ⟨rho, h⟩)) :
    tAsg (tE X W g) (gSub (tVar i) (tE X W f) rSetL) D σ H := by
  refine ⟨B, F, α, rho, h, r, post_imp (postS_of p) fun d F1 α1 H1 s1 ⟨h1, r1, p1⟩ v hvv => ?_⟩
  obtain ⟨q, vs, e1, _⟩ := r1.slot i _ w
  rw [w] at p1
  refine ⟨.ref q, jn e1, B, F1, α1, rho, h1, r1, post_imp (postS_of p1) fun kd F2 α2 H2 s2 ⟨h2, r2, p2⟩ y hy => ?_⟩
  cases kd with
  | int k =>
    cases hy
    dsimp only at p2
    cases ej : ixN ds.length k with
    | none => rw [ej] at p2; exact p2.elim
    | some j =>
      rw [ej] at p2
      obtain ⟨q', vs', e1', _, _, _, h2', h3'⟩ := r2.slot i _ w
      rw [e1] at e1'
      cases e1'
      refine ⟨q, vs', k, j, rfl, rfl, h2', by rw [h3'.length]; exact ej, ?_⟩
      exact p2 σ F2 α2 _ same_refl (r2.mutOwn w (jn e1) ⟨RpAll.set (rp_mono s2 hvv) j h3'.all, by rw [List.length_set]; exact h3'.le⟩)
  | _ => exact p2.elim
theorem js_putD {i : Nat} {x : Str} {kx e : Expr} {f g : Den} {px tpos pos : Pos} (hN : X.N[i]? = some x) (hv : Vis X.env.scope x) (hd : (x == ("__debug__" : Str)) = false) (hcd : (x == ("__classdict__" : Str)) = false) (hk : JE X W kx f) (he : JE X W e g) (hs : swapsWith e (some (.Subscript (.Name x px) kx tpos)) pos.line X.env = pure false) (hu : X.A.units + 65 < cLine)
    (hasg : ∀ v, assign (.Subscript (.Name x px) kx tpos) X.env v = (do
      let ov ← holding [v] (eval (.Name x px) X.env)
      let iv ← holding [v, ov] (eval kx X.env)
      standAt tpos
      holding [v, ov, iv] (setItem ov iv v)
      release [v, ov, iv] [])) :
    JS X W (.Assign [.Subscript (.Name x px) kx tpos] e pos) (sPutD i f g) := by
  refine ⟨fun pins s σ H D I ⟨B, F, α, rho, h, r, p⟩ => ?_⟩
  cases w0 : rho[i]? with
  | some sl0 =>
    cases sl0 with
    | own ds => exact (ps_asg he (pg_sub (pe_var hN hv hd hcd) hk set_list hasg) hs rfl rfl).run pins s σ H D I (putL_ok hN hv hd hcd hk he hs I r w0 p)
    | _ => exact js_putDD hN hv hd hcd hk he hs hu I r (fun ds z => by rw [w0] at z; cases z) p
  | none => exact js_putDD hN hv hd hcd hk he hs hu I r (fun ds z => by rw [w0] at z; cases z) p
end
end Ev
/-! # Sd: sorted, sum, min, max of lists; [::-1] of tuples; x.pop(e) -/
namespace PySem.W
open PySem PySem.Calls PyProof.Rows PySem.SeqAt
section
variable {prog : Program} {w : World} {A : Around} {s : Shared}
/-- a tuple's own __lt__, as sorting calls it -/
theorem ltTup {E : Value → Shared → Prop} {Q : Value → Shared → Prop} {l b : Addr} {items items2 : Array Value} {e r : Nat → Bool} (hl : s.heap.IsTuple l items) (hb : s.heap.IsTuple b items2)
    (he : ∀ j (h1 : j < items.size) (h2 : j < items2.size), EqAt A.in1 s items[j] items2[j] (e j)) (hr : ∀ j (h1 : j < items.size) (h2 : j < items2.size), e j = false → RcLt A.in1 s items[j] items2[j] (r j))
    (h : Q (.bool (firstLt e r (decide (items.size < items2.size)) (List.range (min items.size items2.size)))) s) : wpAny (model prog w) A (call (.builtin "tuple.__lt__") [.ref l, .ref b]) Q E s := by
  obtain ⟨⟨cls, dd, data, sl⟩, ho, hc, n, hd⟩ := id hl
  obtain ⟨⟨cls2, dd2, data2, sl2⟩, ho2, hc2, n2, hd2⟩ := id hb
  simp only at hc hd hc2 hd2
  subst hc hd hc2 hd2
  exact call_meets F.slot_tuple_lt ⟨_, ho, rfl⟩ F.entry_tuple_lt (F.args_tuple_lt_2 _ _) (tuple_ltAt l b items items2 n n2 dd dd2 sl sl2 e r) ⟨ho, ho2, he, hr, h⟩
theorem oneLt_tup {E : Value → Shared → Prop} {xs ys : List PyData} {a b : Value} {as bs : List Addr} {Q : Bool → Shared → Prop} (ra : Reads s.heap a (.tuple xs) as) (rb : Reads s.heap b (.tuple ys) bs) (h : alike (.tuple xs) (.tuple ys) = true)
    (hu : A.units + min (PyData.tuple xs).depth (PyData.tuple ys).depth < cLine) (hq : Q (dataLt (.tuple xs) (.tuple ys)) s) : wpAny (model prog w) A (oneLt' true a b) Q E s := by
  have hal : alikeAll xs ys = true := by simpa [alike] using h
  cases ra with
  | @tuple l o vs n _ as₁ h1 h2 h3 h4 =>
    cases rb with
    | @tuple l' o' vs' n' _ bs₁ k1 k2 k3 k4 =>
      have n1 : vs.size = xs.length := by simpa using ReadsAll.length _ _ _ h4
      have n2 : vs'.size = ys.length := by simpa using ReadsAll.length _ _ _ k4
      rw [dataLt_tuple, ← firstLt_toks xs ys hal, ← n1, ← n2] at hq
      rw [oneLt'_eq]
      simp only [if_true]
      refine wpAny_bind (wpAny_cRoomFor (room_here hu) ?_)
      refine wpAny_bind (wpAny_callSpecialIfBound?_slot (T := "tuple") ⟨_, h1, h2⟩ F.slot_tuple_lt (ltTup (e := pairEq xs ys) (r := fun j => dataLt (xs.getD j .none) (ys.getD j .none)) ⟨_, h1, h2, _, h3⟩ ⟨_, k1, k2, _, k3⟩ (fun j j1 j2 => ?_) (fun j j1 j2 hj => ?_) ?_))
      · have := eqAt_alikeAll xs ys A.in1 s vs.toList vs'.toList _ _ h4 k4 hal (room_in hu) j (by simpa using j1) (by simpa using j2)
        simpa using this
      · have := rcLt_alikeAll xs ys A.in1 s vs.toList vs'.toList _ _ h4 k4 hal (room_in hu) j (by simpa using j1) (by simpa using j2) hj
        simpa using this
      · exact wpAny_truthy_bool hq
/-- the first item of a tuple -/
def firstIn (h : Heap) : Value → Option Value
  | .ref a => match h.get? a with
    | some o => (match o.data with
      | .seq xs _ => xs[0]?
      | _ => none)
    | none => none
  | _ => none
theorem firsts_run {E : Value → Shared → Prop} {M : Model} : ∀ (vs : List Value) {Q : List (Option Value) → Shared → Prop}, (∀ v ∈ vs, ∃ a o xs n, v = .ref a ∧ s.heap.get? a = some o ∧ o.cls = .type "tuple" ∧ o.data = .seq xs n) → Q (vs.map (firstIn s.heap)) s → wpAny M A (vs.mapM firstOfTuple') Q E s
  | [], _, _, h => by rw [List.mapM_nil]; exact wpAny_pure h
  | v :: vs, Q, t, h => by
    obtain ⟨a, o, xs, n, rfl, ho, hc, hd⟩ := t v (List.mem_cons_self ..)
    rw [List.mapM_cons]
    refine wpAny_bind ?_
    rw [kas_first_eq]
    refine wpAny_bind (Looks.here (show Looks M s.heap (typeOf (.ref a)) o.cls from (Looks.ld ho).andThen .now) ?_)
    rw [hc, if_neg (by first | decide | simp)]
    refine wpAny_bind (listItems_at ho hd (wpAny_pure ?_))
    have e : firstIn s.heap (.ref a) = xs[0]? := by
      unfold firstIn
      dsimp only
      rw [ho]
      dsimp only
      rw [hd]
    refine wpAny_bind (firsts_run vs (Q := fun bs s' => wpAny M A (pure (xs[0]? :: bs)) Q E s') (fun v hv => t v (List.mem_cons_of_mem _ hv)) (wpAny_pure ?_))
    rw [← e]
    exact h
/-- tuples of alike data, the first one empty, can be sorted -/
theorem sortsAt_tup0 {vs : List Value} {ds : List PyData} (e : EachIs (fun v d => ∃ as, Reads s.heap v d as) vs (.tuple [] :: ds)) (hal : AllAlike (.tuple [] :: ds)) (hk : ∀ d ∈ PyData.tuple [] :: ds, ∃ xs, d = .tuple xs) (hu : ∀ d, d ∈ PyData.tuple [] :: ds → A.units + d.depth < cLine) : SortsAt prog w A s (dataKind s.heap (.tuple [] :: ds)) vs := by
  have room : ∀ {d d' : PyData}, d ∈ PyData.tuple [] :: ds → A.units + min d.depth d'.depth < cLine := fun {d d'} hd => Nat.lt_of_le_of_lt (Nat.add_le_add_left (Nat.min_le_left _ _) _) (hu d hd)
  have isT : ∀ v ∈ vs, ∃ a o xs n, v = .ref a ∧ s.heap.get? a = some o ∧ o.cls = .type "tuple" ∧ o.data = .seq xs n := fun v hv => by
    obtain ⟨d, hd, as, r⟩ := e.left v hv
    obtain ⟨xs, rfl⟩ := hk d hd
    cases r with
    | @tuple a o xs n _ _ ho hc hd hr => exact ⟨a, o, xs, n, rfl, ho, hc, hd⟩
  refine ⟨fun v hv => ?_, oneType', ?_, fun h2 E Q hq => ?_⟩
  · obtain ⟨d, hd, as, r⟩ := e.left v hv
    exact ⟨_, dataKind_some hal hd r⟩
  · intro E x y a b Q ha hb hq
    obtain ⟨d, as, hd, ra, rfl⟩ := dataKind_inv ha
    obtain ⟨d', as', hd', rb, rfl⟩ := dataKind_inv hb
    have hdd := hal d hd d' hd'
    have hrm := room (d' := d') hd
    obtain ⟨xs, rfl⟩ := hk d hd
    obtain ⟨ys, rfl⟩ := hk d' hd'
    rw [keyLt'_oneType]
    exact oneLt_tup ra rb hdd hrm hq
  · cases e with
    | @cons v0 _ vr _ r0 er =>
      obtain ⟨as0, r0⟩ := r0
      have f0 : firstIn s.heap v0 = none := by
        cases r0 with
        | @tuple a o xs n _ _ ho hc hd hr =>
          unfold firstIn
          dsimp only
          rw [ho]
          dsimp only
          rw [hd]
          have : xs.toList.length = 0 := by simpa using ReadsAll.length _ _ _ hr
          have : xs.size = 0 := by simpa using this
          simp [this]
      rw [kat_kind_eq, List.mapM_toArray, map_eq_pure_bind]
      refine wpAny_bind (wpAny_bind (firsts_run _ isT (wpAny_pure ?_)))
      rw [List.map_cons, f0]
      rw [if_neg (by simp), if_neg (by simp)]
      have hT : ∀ v ∈ v0 :: vr, Looks (model prog w) s.heap (typeOf v) (.type "tuple") := fun v hv => by
        obtain ⟨a, o, xs, n, rfl, ho, hc, hd⟩ := isT v hv
        exact hc ▸ (Looks.ld ho).andThen .now
      rw [oneTypeOnly'_eq, List.mapM_toArray, map_eq_pure_bind]
      refine wpAny_bind (wpAny_bind (wpAny_bind (kas_mapM (r := Value.type "tuple") _ (fun v hv Q' hq => (hT v hv).here hq) (wpAny_pure ?_))))
      have hall : ((List.map (fun _ => Value.type "tuple") (v0 :: vr)).toArray.all fun x => x == Value.type "tuple") = true := by
        simp only [List.all_toArray, List.all_map, List.all_eq_true]
        intro _ _
        exact beq_self_eq_true _
      have h0 : (List.map (fun _ => Value.type "tuple") (v0 :: vr)).toArray[0]? = some (Value.type "tuple") := by simp
      rw [h0]
      simp only [hall, if_true]
      exact wpAny_pure (wpAny_pure hq)
/-- sorted(xs) of such -/
theorem sorted_tup0 {E : Value → Shared → Prop} {β : Type} {vs : List Value} {bs : List β} {ds : List PyData} {enc : β → PyData} {R : Value → β → Prop} {l : Addr} {Q : Value → Shared → Prop} (hl : s.heap.IsList l vs.toArray) (hb : bs.map enc = .tuple [] :: ds) (e : EachIs R vs bs) (er : EachIs (fun v b => ∃ as, Reads s.heap v (enc b) as) vs bs) (hal : AllAlike (bs.map enc)) (hk : ∀ d ∈ bs.map enc, ∃ xs, d = .tuple xs) (hL : bs.length ≤ sizeLine)
    (hu : ∀ b, b ∈ bs → A.units + 2 + (enc b).depth < cLine) (h : ∀ out, out.length = bs.length → EachIs R out (bs.mergeSort (dataLe false enc)) → Q (.ref (s.heap.objs.size + 1)) { s with heap := sortedAll s.heap vs (List.toArray out) }) :
    wpAny (model prog w) A (call (.builtin "sorted") [.ref l]) Q E s := by
  have er' : EachIs (fun v b => ∃ as, Reads (sortingHeap (copyHeap s.heap vs) (s.heap.objs.size + 1) vs) v (enc b) as) vs bs := er.mono fun _ _ ⟨as, r⟩ => ⟨as, PyProof.Rows.Reads.keeps (fun _ _ => sorting_copy_old) r⟩
  refine sorted_vals (κ := dataKind (sortingHeap (copyHeap s.heap vs) (s.heap.objs.size + 1) vs) (bs.map enc)) hl ?_ (by rw [e.length]; exact hL) (h _ (by rw [sortVals_length false rfl]; exact e.length) (sortVals_data false e er' hal))
  have em := each_map (R := fun v d => ∃ as, Reads (sortingHeap (copyHeap s.heap vs) (s.heap.objs.size + 1) vs) v d as) enc er'
  have hu' := bound_map (A := A.in1.in1) (bs := bs) (enc := enc) hu
  rw [hb] at em hal hk hu' ⊢
  exact sortsAt_tup0 (s := { s with heap := sortingHeap (copyHeap s.heap vs) (s.heap.objs.size + 1) vs }) em hal hk hu'
end
end PySem.W
namespace Ev
open PySem PySem.Spec PyProof.Rows L2
section
variable {X : Cx} {W : WX} {K : PySem.W.Frag}
theorem all_alike {ds : List D} (h : allAlike ds = true) : PySem.W.AllAlike ds := fun d hd d' hd' => List.all_eq_true.mp (List.all_eq_true.mp h d hd) d' hd'
theorem depth_mem : ∀ {ds : List D} {d : D}, d ∈ ds → d.depth ≤ PyData.depthAll ds
  | [], _, h => by cases h
  | x :: r, d, h => by
    rw [PyData.depthAll]
    rcases List.mem_cons.mp h with rfl | h
    · omega
    · have := depth_mem h
      omega
theorem depth_list (ds : List D) : (PyData.list ds).depth = PyData.depthAll ds + 1 := by rw [PyData.depth]; try omega
/-- sorted(xs) -/
def rSortD (K : PySem.W.Frag) : List V → Hp → VK → Prop := fun vs H Q => ∃ (a : Addr) (xs : List V) (ds : List D), vs = [V.ref a] ∧ SqL K H a xs ∧ DpAll K H xs ds ∧ sortOk ds = true ∧
  ∀ p, H p = none → Q (.ref p) (upd H p (.lst (((xs.zip ds).mergeSort (PySem.W.dataLe false Prod.snd)).map Prod.fst)))
theorem dpAll_len {H : Hp} : ∀ {xs : List V} {ds : List D}, DpAll K H xs ds → xs.length = ds.length
  | _, _, .nil => rfl
  | _, _, .cons _ r => by rw [List.length_cons, List.length_cons, dpAll_len r]
theorem each_of {pins : List (Addr × Obj)} {σ : L2.St} {H : Hp} {s : Shared} (I : Inv X pins σ H s) : ∀ {xs : List V} {its : List Value} {ds : List D}, Vals xs its → DpAll X.K H xs ds → PySem.W.EachIs (fun u (b : V × D) => RelV b.1 u ∧ ∃ as, Reads s.heap u b.2 as) its (xs.zip ds)
  | _, _, _, .nil, .nil => .nil
  | _, _, _, .cons r rr, .cons d dd => .cons ⟨r, Dp.reads I _ _ _ d r⟩ (each_of I rr dd)
theorem vals_of : ∀ {out : List Value} {bs : List (V × D)}, PySem.W.EachIs (fun u (b : V × D) => RelV b.1 u) out bs → Vals (bs.map Prod.fst) out
  | _, _, .nil => .nil
  | _, _, .cons h t => .cons h (vals_of t)
theorem zip_snd {xs : List V} {ds : List D} (h : xs.length = ds.length) : (xs.zip ds).map Prod.snd = ds := List.map_snd_zip (Nat.le_of_eq h.symm)
theorem cr_sortD (hu : X.A.units + 66 < cLine) : CallR X (.builtin "sorted") (rSortD X.K) := by
  intro pins s σ H vs us Q I r h
  obtain ⟨a, xs, ds, rfl, hs, hx, ok, q⟩ := h
  obtain ⟨its, rv, hl, hz⟩ := I.list hs
  obtain ⟨u, rfl, ru⟩ := vals1 r
  obtain rfl : u = Value.ref a := ru
  have len := dpAll_len hx
  have ea := each_of I rv hx
  have zs := zip_snd len
  unfold sortOk at ok
  simp only [Bool.and_eq_true, Bool.or_eq_true] at ok
  obtain ⟨⟨ok1, ok2⟩, ok3⟩ := ok
  have dl := SeqAt.depth_of_shaped ok1
  rw [depth_list] at dl
  have bl : (xs.zip ds).length = xs.length := by rw [List.length_zip, len, Nat.min_self]
  have hroom : ∀ b, b ∈ xs.zip ds → X.A.units + 2 + (Prod.snd b).depth < cLine := fun b hb => by
    have hm : b.2 ∈ ds := by rw [← zs]; exact List.mem_map.mpr ⟨b, hb, rfl⟩
    have := depth_mem hm
    omega
  have hal : PySem.W.AllAlike ((xs.zip ds).map Prod.snd) := by rw [zs]; exact all_alike ok2
  have fin : ∀ out : List Value, out.length = (xs.zip ds).length → PySem.W.EachIs (fun u (b : V × D) => RelV b.1 u) out ((xs.zip ds).mergeSort (PySem.W.dataLe false Prod.snd)) → EP X pins σ Q (.ref (s.heap.objs.size + 1)) { s with heap := sortedAll s.heap its out.toArray } := fun out ho eo => by
    obtain ⟨c, hc⟩ := sortedAll_at s.heap its out.toArray
    refine ⟨.ref _, _, I.laid (t' := s.toks) (o := .lst (((xs.zip ds).mergeSort (PySem.W.dataLe false Prod.snd)).map Prod.fst)) (fun b o e => sortedAll_old e) (Nat.le_succ _) ⟨?_, out, c, vals_of eo, hc⟩, rfl, q _ (I.hok.fresh (Nat.le_succ _))⟩
    rw [List.length_map, List.length_mergeSort, bl]
    exact hz
  rcases ok3 with (k | k) | k
  · refine PySem.W.sorted_data (enc := Prod.snd) (R := fun u (b : V × D) => RelV b.1 u) hl.isList (ea.mono fun _ _ z => z.1) (ea.mono fun _ _ z => z.2) hal ?_ (by rw [bl]; exact hz) hroom fin
    rw [zs]
    refine .inl fun d hd => ?_
    have := List.all_eq_true.mp k d hd
    unfold tup1 at this
    split at this
    · exact ⟨_, _, rfl⟩
    · cases this
  · refine PySem.W.sorted_data (enc := Prod.snd) (R := fun u (b : V × D) => RelV b.1 u) hl.isList (ea.mono fun _ _ z => z.1) (ea.mono fun _ _ z => z.2) hal ?_ (by rw [bl]; exact hz) hroom fin
    rw [zs]
    refine .inr fun d hd => ?_
    have := List.all_eq_true.mp k d hd
    unfold noTup at this
    constructor
    · rintro rfl; cases this
    · rintro xs rfl; cases this
  · unfold tup0 at k
    split at k
    · rename_i r
      refine PySem.W.sorted_tup0 (enc := Prod.snd) (R := fun u (b : V × D) => RelV b.1 u) hl.isList zs (ea.mono fun _ _ z => z.1) (ea.mono fun _ _ z => z.2) hal ?_ (by rw [bl]; exact hz) hroom fin
      rw [zs]
      intro d hd
      rcases List.mem_cons.mp hd with rfl | hd
      · exact ⟨_, rfl⟩
      · have := List.all_eq_true.mp k d hd
        unfold isTup at this
        split at this
        · exact ⟨_, rfl⟩
        · cases this
    · cases k
theorem rpAll_zip {F : Hp} : ∀ {xs : List V} {ds : List D}, RpAll K F xs ds → ∀ b ∈ xs.zip ds, Rp K F b.1 b.2
  | _, _, .nil, b, h => by simp at h
  | _, _, .cons h r, b, hb => by
    rw [List.zip_cons_cons] at hb
    rcases List.mem_cons.mp hb with rfl | hb
    · exact h
    · exact rpAll_zip r b hb
theorem rpAll_unzip {F : Hp} : ∀ {bs : List (V × D)}, (∀ b ∈ bs, Rp K F b.1 b.2) → RpAll K F (bs.map Prod.fst) (bs.map Prod.snd)
  | [], _ => .nil
  | b :: bs, h => .cons (h b (List.mem_cons_self ..)) (rpAll_unzip fun c hc => h c (List.mem_cons_of_mem _ hc))
theorem sort_snd {xs : List V} {ds : List D} (h : xs.length = ds.length) : ((xs.zip ds).mergeSort (PySem.W.dataLe false Prod.snd)).map Prod.snd = ds.mergeSort (PySem.W.dataLe false id) := by
  have e := List.map_mergeSort (r := PySem.W.dataLe false Prod.snd) (s := PySem.W.dataLe false id) (f := Prod.snd) (l := xs.zip ds) (fun a _ b _ => rfl)
  rw [e, zip_snd h]
theorem jl_sorted {a : Expr} {o : Opd} {p pos : Pos} (hu : X.A.units + 66 < cLine) (hg : Gl X "sorted") (hm : X.mg "sorted" = none) (hv : bootBuiltins "sorted" = some (.builtin "sorted")) (hs : isStar a = false) (h : JO X W a o) : JL X W (.Call (.Name "sorted" p) [a] [] pos) (lSorted o) := by
  refine pe_mono (pe_callB (cr_sortD hu) hg hm hv (pa_cons h pa_nil (star_cons hs)) (by decide) (by decide) (star_cons hs) rfl) fun σ H Q ⟨B, F, α, rho, h, r0, q⟩ => ?_
  unfold tCB tCons tNil
  refine tO_mono (Ev.o1 r0 q) fun x H1 ⟨F1, α1, h1, a, s1, r1, tx, p1⟩ => ?_
  unfold lift1 kSorted at p1
  cases a with
  | list ds =>
    dsimp only at p1
    by_cases ok : sortOk ds = true
    · rw [if_pos ok, srtD_eq] at p1
      have sh : SeqAt.shaped (.list ds) = true := by
        unfold sortOk at ok
        simp only [Bool.and_eq_true] at ok
        exact ok.1.1
      obtain ⟨p, vs, rfl, h2, r2⟩ := tx.list r1.sub
      have cl := SeqAt.canLay_of_shaped sh
      rw [PyData.canLay0] at cl
      refine ⟨p, vs, ds, rfl, .inl h2, rpAll_dp r1.sub r2.all cl, ok, new_lst r1 p1 ⟨?_, ?_⟩⟩
      · have := rpAll_unzip (K := X.K) (F := F1) (bs := (vs.zip ds).mergeSort (PySem.W.dataLe false Prod.snd)) fun b hb => rpAll_zip r2.all b ((List.mergeSort_perm _ _).mem_iff.mp hb)
        rw [sort_snd r2.length] at this
        exact this
      · rw [List.length_mergeSort]
        exact r2.le
    · rw [if_neg ok] at p1
      exact p1.elim
  | _ => exact p1.elim
/-! ### sum, min, max -/
theorem intsOf_ok {F : Hp} : ∀ {ds : List D} {is : List Int} {vs : List V}, intsOf ds = some is → RpAll K F vs ds → vs = is.map V.int
  | [], is, _, e, .nil => by cases e; rfl
  | d :: ds, is, _, e, .cons h r => by
    unfold intsOf at e
    split at e
    · rename_i he; cases he
    · rename_i i r' he
      cases he
      cases w : intsOf ds with
      | none => rw [w] at e; cases e
      | some js =>
        rw [w] at e
        cases e
        cases h
        rw [intsOf_ok w r]
        rfl
    · cases e
theorem p_sum : PrimC1 K (rSum K) pSum := by
  intro x F H a d Q s tx e q
  unfold pSum at e
  split at e
  · cases w : intsOf _ with
    | none => rw [w] at e; cases e
    | some is =>
      rw [w] at e
      cases e
      obtain ⟨p, vs, rfl, h1, r1⟩ := tx.list s
      refine ⟨p, is, rfl, .inl ?_, q _ _ _ (ext0 s) (.int _)⟩
      rw [← intsOf_ok w r1.all]
      exact h1
  · cases e
theorem minD_mem : ∀ (xs : List D) (x : D), PySem.W.minD x xs ∈ x :: xs := by
  intro xs
  induction xs with
  | nil => intro x; exact List.mem_cons_self ..
  | cons y ys ih =>
    intro x
    unfold PySem.W.minD
    rw [List.foldl_cons]
    split
    · rcases List.mem_cons.mp (ih y) with h | h
      · unfold PySem.W.minD at h; rw [h]; simp
      · unfold PySem.W.minD at h; simp [h]
    · rcases List.mem_cons.mp (ih x) with h | h
      · unfold PySem.W.minD at h; rw [h]; simp
      · unfold PySem.W.minD at h; simp [h]
theorem maxD_mem : ∀ (xs : List D) (x : D), PySem.W.maxD x xs ∈ x :: xs := by
  intro xs
  induction xs with
  | nil => intro x; exact List.mem_cons_self ..
  | cons y ys ih =>
    intro x
    unfold PySem.W.maxD
    rw [List.foldl_cons]
    split
    · rcases List.mem_cons.mp (ih y) with h | h
      · unfold PySem.W.maxD at h; rw [h]; simp
      · unfold PySem.W.maxD at h; simp [h]
    · rcases List.mem_cons.mp (ih x) with h | h
      · unfold PySem.W.maxD at h; rw [h]; simp
      · unfold PySem.W.maxD at h; simp [h]
def rBest (K : PySem.W.Frag) (g : D → List D → D) : List V → Hp → VK → Prop := fun vs H Q => ∃ (a : Addr) (xs : List V) (d : D) (ds : List D), vs = [V.ref a] ∧ SqL K H a xs ∧ DpAll K H xs (d :: ds) ∧ bestOk (d :: ds) = true ∧
  ∀ (i : Nat) (v : V), xs[i]? = some v → (d :: ds)[i]? = some (g d ds) → Q v H
theorem best_ok {ds : List D} (h : bestOk ds = true) : PySem.W.AlikeAll ds ∧ SeqAt.shaped (.list ds) = true := by
  unfold bestOk at h
  simp only [Bool.and_eq_true] at h
  refine ⟨⟨fun x hx y hy => all_alike h.1.2 x hx y hy, fun x hx => ?_⟩, h.1.1⟩
  have := List.all_eq_true.mp h.2 x hx
  rintro rfl
  cases this
theorem cr_minD (hc : X.calm = true) (hu : X.A.units + 66 < cLine) : CallR X (.builtin "min") (rBest X.K PySem.W.minD) := by
  intro pins s σ H vs us Q I r h
  obtain ⟨a, xs, d, ds, rfl, hs, hx, ok, q⟩ := h
  obtain ⟨its, rv, hl, hz⟩ := I.list hs
  obtain ⟨u, rfl, ru⟩ := vals1 r
  obtain rfl : u = Value.ref a := ru
  obtain ⟨as, rd⟩ := Dp.readsAll I _ _ _ hx rv
  obtain ⟨al, sh⟩ := best_ok ok
  have dl := SeqAt.depth_of_shaped sh
  rw [depth_list] at dl
  refine PySem.W.min_list_data (I.ok.hd hc) hl.isList (by simpa using rd) al (by omega) fun i v h' tk bs e1 r1 kp => ?_
  obtain ⟨bs', r2, hi, hm, _⟩ := PySem.W.readsAll_atA (vs := its.toArray) (by simpa using rd) i v e1
  have r2' := PySem.W.reads_keeps kp r2
  have eq := PySem.W.alike_unique _ _ _ _ _ (al.1 _ hm _ (minD_mem ds d)) r2' r1
  have e1' : its[i]? = some v := by simpa using e1
  have hxi : i < xs.length := by rw [rv.length]; exact (List.getElem?_eq_some_iff.mp e1').1
  have gx := List.getElem?_eq_getElem hxi
  obtain ⟨u, eu, ru⟩ := rv.get gx
  rw [e1'] at eu
  cases eu
  refine ⟨xs[i], H, I.kept kp, ru, q i _ gx ?_⟩
  rw [← eq, List.getElem?_eq_getElem hi]
  simp [List.getD_eq_getElem?_getD, List.getElem?_eq_getElem hi]
theorem cr_maxD' (hc : X.calm = true) (hu : X.A.units + 66 < cLine) : CallR X (.builtin "max") (rBest X.K PySem.W.maxD) := by
  intro pins s σ H vs us Q I r h
  obtain ⟨a, xs, d, ds, rfl, hs, hx, ok, q⟩ := h
  obtain ⟨its, rv, hl, hz⟩ := I.list hs
  obtain ⟨u, rfl, ru⟩ := vals1 r
  obtain rfl : u = Value.ref a := ru
  obtain ⟨as, rd⟩ := Dp.readsAll I _ _ _ hx rv
  obtain ⟨al, sh⟩ := best_ok ok
  have dl := SeqAt.depth_of_shaped sh
  rw [depth_list] at dl
  refine PySem.W.max_list_data (I.ok.hd hc) hl.isList (by simpa using rd) al (by omega) fun i v h' tk bs e1 r1 kp => ?_
  obtain ⟨bs', r2, hi, hm, _⟩ := PySem.W.readsAll_atA (vs := its.toArray) (by simpa using rd) i v e1
  have r2' := PySem.W.reads_keeps kp r2
  have eq := PySem.W.alike_unique _ _ _ _ _ (al.1 _ hm _ (maxD_mem ds d)) r2' r1
  have e1' : its[i]? = some v := by simpa using e1
  have hxi : i < xs.length := by rw [rv.length]; exact (List.getElem?_eq_some_iff.mp e1').1
  have gx := List.getElem?_eq_getElem hxi
  obtain ⟨u, eu, ru⟩ := rv.get gx
  rw [e1'] at eu
  cases eu
  refine ⟨xs[i], H, I.kept kp, ru, q i _ gx ?_⟩
  rw [← eq, List.getElem?_eq_getElem hi]
  simp [List.getD_eq_getElem?_getD, List.getElem?_eq_getElem hi]
theorem p_best {g : D → List D → D} {d : D} {ds : List D} {x : V} {F H : Hp} {Q : VK} (s : Same F H) (tx : Top K F H x (.list (d :: ds))) (ok : bestOk (d :: ds) = true) (q : ∀ v F' H', Ext F H F' H' → Rp K F' v (g d ds) → Q v H') : rBest K g [x] H Q := by
  obtain ⟨p, vs, rfl, h1, r1⟩ := tx.list s
  have cl := SeqAt.canLay_of_shaped (best_ok ok).2
  rw [PyData.canLay0] at cl
  refine ⟨p, vs, d, ds, rfl, .inl h1, rpAll_dp s r1.all cl, ok, fun i v e1 e2 => ?_⟩
  obtain ⟨d', e3, rv⟩ := r1.all.getV e1
  rw [e2] at e3
  cases e3
  exact q _ _ _ (ext0 s) rv
theorem p_minL : PrimC1 K (rBest K PySem.W.minD) pMinL := by
  intro x F H a d Q s tx e q
  unfold pMinL at e
  split at e
  · split at e
    · rename_i ok
      cases e
      exact p_best s tx ok q
    · cases e
  · cases e
theorem p_maxL : PrimC1 K (rBest K PySem.W.maxD) pMaxL := by
  intro x F H a d Q s tx e q
  unfold pMaxL at e
  split at e
  · split at e
    · rename_i ok
      cases e
      exact p_best s tx ok q
    · cases e
  · cases e
/-! ### x.pop(e) -/
theorem RpAll.erase {F : Hp} : ∀ {vs : List V} {ds : List D} (j : Nat), RpAll K F vs ds → RpAll K F (vs.eraseIdx j) (ds.eraseIdx j)
  | _, _, _, .nil => by simp; exact .nil
  | _, _, 0, .cons _ r => by simpa using r
  | _, _, j + 1, .cons h r => by
    rw [List.eraseIdx_cons_succ, List.eraseIdx_cons_succ]
    exact .cons h (RpAll.erase j r)
theorem RpL.erase {F : Hp} {vs : List V} {ds : List D} (j : Nat) (r : RpL K F vs ds) : RpL K F (vs.eraseIdx j) (ds.eraseIdx j) := ⟨r.all.erase j, Nat.le_trans (List.length_eraseIdx_le ..) r.le⟩
theorem seqIndex_lt {i : Int} {n j : Nat} (h : seqIndex? i n = some j) : j < n := by
  unfold seqIndex? at h
  dsimp only at h
  repeat' split at h
  all_goals first | (cases h; done) | skip
  all_goals
    rename_i hc
    simp only [Bool.and_eq_true, decide_eq_true_eq] at hc
    cases h
    omega
theorem js_popAt {i : Nat} {x : Str} {a : Expr} {f : Den} {px apos cpos pos : Pos} (hN : X.N[i]? = some x) (hv : Vis X.env.scope x) (hd : (x == ("__debug__" : Str)) = false) (hcd : (x == ("__classdict__" : Str)) = false) (hs : isStar a = false) (ha : JE X W a f) (hline : (apos.endLine == cpos.line) = true) :
    JS X W (.Expr (.Call (.Attribute (.Name x px) "pop" apos) [a] [] cpos) pos) (sPopAt i f) := by
  have hfew : ((backTo cpos (starEach [a] X.env)).all (fun x => !x.1) && (backToKw cpos (keywordEach [] X.env)).all (fun x => x.1.isSome) && decide ([a].length + ([] : List Keyword).length + (if ([] : List Keyword).isEmpty then 0 else 1) < 30)) = true := by
    rw [star_cons hs]; rfl
  refine ps_mono (ps_expr (pe_bm PySem.F.plainAttrs_list PySem.F.slot_list_pop PySem.F.type_list_pop mt_popAt (pe_var hN hv hd hcd) (pa_cons ha pa_nil (star_cons hs)) rfl hfew hline (star_cons hs) rfl) rfl) fun E σ H ⟨B, F, α, rho, h, r, p⟩ => ?_
  unfold sPopAt at p
  dsimp only at p
  cases w : rho[i]? with
  | none => rw [w] at p; exact p.elim
  | some sl =>
    rw [w] at p
    have z := r.slot i sl w
    cases sl with
    | own ds =>
      obtain ⟨q, vs, e1, e0, na, h1, h2, h3⟩ := z
      refine ⟨.ref q, jn e1, .inl ⟨rfl, vs, .inl (.inl h2)⟩, B, F, α, rho, h, r, ?_⟩
      refine post_imp (postS_of p) fun d F1 α1 H1 s1 ⟨h1', r1, p1⟩ v hv => ?_
      obtain ⟨q', vs', e1', _, _, _, h2', h3'⟩ := r1.slot i _ w
      rw [e1] at e1'
      cases e1'
      cases d with
      | int k =>
        cases hv
        dsimp only at p1
        split at p1
        · rename_i hk
          cases e : seqIndex? k ds.length with
          | none => rw [e] at p1; exact p1.elim
          | some j =>
            rw [e] at p1
            have hj := seqIndex_lt e
            rw [← h3'.length] at e hj
            exact ⟨q, vs', k, j, vs'[j], rfl, rfl, h2', by omega, by omega, e, List.getElem?_eq_getElem hj, p1 σ F1 α1 _ same_refl (r1.mutOwn w (jn e1) (h3'.erase j))⟩
        · exact p1.elim
      | _ => exact p1.elim
    | _ => exact p.elim
end
end Ev
/-! ### t[::-1] -/
namespace HT
open PySem PyProof.Rows
open PySem.SeqAt
section
variable {prog : Program} {w : World} {A : Around} {E : Value → Shared → Prop} {s : Shared}
theorem sliceApplied_back {sl : Addr} {vl vu vs : Value} {n : Nat} {Q : Int × Int × Nat → Shared → Prop} (hs : s.heap.IsSliceOf sl vl vu vs) (pl : IsPart vl none) (pu : IsPart vu none) (ps : IsPart vs (some (-1)))
    (h : Q ((n : Int) - 1, -1, n) s) : wpAny (model prog w) A (Builtin.Slice.sliceApplied (.ref sl) (pure (n : Int))) Q E s := by
  obtain ⟨os, hos, hcs, hds⟩ := id hs
  unfold Builtin.Slice.sliceApplied Builtin.Slice.sliceFields
  refine wpAny_bind (wpAny_bind (wpAny_field hos hds (x := vl) rfl (wpAny_bind (wpAny_field hos hds (x := vu) rfl (wpAny_bind (wpAny_field hos hds (x := vs) rfl (wpAny_pure ?_)))))))
  refine wpAny_bind (slicePart_ ps ?_)
  show wpAny _ _ (if ((-1 : Int) == 0) = true then _ else _) _ _ s
  rw [if_neg (by decide)]
  refine wpAny_bind (slicePart_ pl (wpAny_bind (slicePart_ pu (wpAny_bind (wpAny_pure ?_)))))
  show wpAny _ _ (match Builtin.Slice.sliceAdjust none none (-1) (n : Int) with | (lo, hi) => pure (lo, (-1 : Int), Builtin.Slice.slicePlaces lo hi (-1))) _ _ s
  have e1 : Builtin.Slice.sliceAdjust none none (-1) (n : Int) = ((n : Int) - 1, -1) := by
    simp [Builtin.Slice.sliceAdjust]
  rw [e1]
  show wpAny _ _ (pure ((n : Int) - 1, (-1 : Int), Builtin.Slice.slicePlaces ((n : Int) - 1) (-1) (-1))) _ _ s
  have e2 : Builtin.Slice.slicePlaces ((n : Int) - 1) (-1) (-1) = n := by
    unfold Builtin.Slice.slicePlaces
    rw [if_neg (by decide)]
    by_cases hn : (n : Int) - 1 > -1
    · rw [if_pos hn]
      have : ((n : Int) - 1 - -1 - 1) / (- -1) + 1 = n := by
        rw [Int.neg_neg, Int.ediv_one]
        omega
      rw [this]
      omega
    · rw [if_neg hn]
      omega
  rw [e2]
  exact wpAny_pure h
theorem pick_back (xs : Array Value) : ((List.range xs.size).filterMap fun (m : Nat) => xs[(((xs.size : Nat) : Int) - 1 + (m : Int) * -1).toNat]?).toArray = xs.toList.reverse.toArray := by
  congr 1
  have key : ∀ l : List Nat, (∀ m ∈ l, m < xs.size) → (l.filterMap fun (m : Nat) => xs[(((xs.size : Nat) : Int) - 1 + (m : Int) * -1).toNat]?) = l.map fun m => xs.toList.getD (xs.size - 1 - m) .none := by
    intro l
    induction l with
    | nil => intro _; rfl
    | cons m l ih =>
      intro hm
      have hm0 := hm m (List.mem_cons_self ..)
      have e1 : (((xs.size : Nat) : Int) - 1 + (m : Int) * -1).toNat = xs.size - 1 - m := by omega
      have hl : xs.size - 1 - m < xs.size := by omega
      rw [List.filterMap_cons, e1, Array.getElem?_eq_getElem hl, List.map_cons, ih fun k hk => hm k (List.mem_cons_of_mem _ hk)]
      simp [hl]
  rw [key _ fun m hm => List.mem_range.mp hm]
  refine List.ext_getElem (by simp) fun i h1 h2 => ?_
  simp at h1 h2
  simp [List.getElem_reverse, h1]
  have hl : xs.size - 1 - i < xs.size := by omega
  simp [hl]
theorem getItem_tuple_back {t sl : Addr} {items : Array Value} {vl vu vs : Value} {Q : Value → Shared → Prop} (ht : IsTup s.heap t items) (hs : s.heap.IsSliceOf sl vl vu vs) (pl : IsPart vl none) (pu : IsPart vu none) (ps : IsPart vs (some (-1)))
    (h : Q (.ref s.heap.objs.size) { s with heap := s.heap.push { cls := .type "tuple", data := .seq items.toList.reverse.toArray } })
    (hsz : items.size ≤ sizeLine) : wpAny (model prog w) A (getItem (.ref t) (.ref sl)) Q E s := by
  have htake : sizeOk (.seq items.toList.reverse.toArray) := by
    show items.toList.reverse.toArray.size ≤ sizeLine
    simpa using hsz
  obtain ⟨os, hos, hcs, hds⟩ := id hs
  have hTs : s.TypeIs (.ref sl) "slice" := ⟨os, hos, hcs⟩
  unfold getItem
  try with_reducible refine wpAny_holding ?_
  first | refine wpAny_bind (wpAny_pure ?_) | skip
  refine wpAny_bind (wpAny_sequenceKey ht.typeIs (by decide) ?_)
  refine wpAny_bind (wpAny_callSpecial?_slot (name := Str.ofString "__getitem__") ht.typeIs PyProof.Rows.slot_tuple_getitem
    (wpAny_call_entry PyProof.Rows.slot_tuple_getitem ht.typeIs entry_tuple_getitem ?_ (args_tuple_getitem _ _)))
  show wpAny _ _ (Builtin.Tuple.tupleItemsOf (.ref t) >>= _) _ _ s
  refine wpAny_bind (tupleItemsOf_ ht ?_)
  refine wpAny_bind (wpAny_typeOf hTs ?_)
  rw [if_pos (by decide)]
  refine wpAny_bind (sliceApplied_back hs pl pu ps ?_)
  show wpAny _ _ (if ((((items.size : Nat) : Int) - 1) == 0 && (-1 : Int) == 1 && items.size == items.size) = true then _ else _) _ _ s
  rw [if_neg (by simp), pick_back]
  first
    | exact wpAny_bind (m := Builtin.Tuple.tupleExact _) (wpAny_newObj_type (wpAny_pure ⟨_, rfl, wpAny_pure h⟩) htake)
    | exact wpAny_bind (m := Builtin.Tuple.tupleExact _) (wpAny_newObj_type (wpAny_bind (wpAny_pure (wpAny_pure ⟨_, rfl, wpAny_pure h⟩))) htake)
    | exact wpAny_bind (wpAny_bind (m := Builtin.Tuple.tupleExact _) (wpAny_newObj_type (wpAny_pure (wpAny_pure ⟨_, rfl, wpAny_pure h⟩)) htake))
    | exact wpAny_bind (wpAny_bind (m := Builtin.Tuple.tupleExact _) (wpAny_newObj_type (wpAny_pure ⟨_, rfl, wpAny_pure h⟩) htake))
end
end HT
namespace Ev
open PySem PySem.Spec PyProof.Rows L2
section
variable {X : Cx} {W : WX} {K : PySem.W.Frag}
def revS (z : Str) : Str := ⟨z.cps.toList.reverse.toArray⟩
theorem slice_back (z : Str) (t tk : Tok) : sliceMade z t none none (some (-1, tk)) = .str (revS z) := by
  have c : ¬ (((((some ((-1 : Int), tk)).map (·.1)).getD 1 == 1) && ((slicePicked z none none (some (-1, tk))).length == z.length)) = true) := by
    have : ((((some ((-1 : Int), tk)).map (·.1)).getD 1 == 1)) = false := rfl
    rw [this]
    simp
  have e : Txt.sliceBy z none none (-1, tk) = revS z := by
    have h := PyProof.Rows.step_rev_list z tk
    have g : (List.range z.length).map (fun k => z.cps.getD (z.length - 1 - k) 0) = z.cps.toList.reverse := by
      obtain ⟨⟨l⟩⟩ := z
      show (List.range l.length).map (fun k => (⟨l⟩ : Array Nat).getD (l.length - 1 - k) 0) = l.reverse
      refine List.ext_getElem (by simp) fun k h1 h2 => ?_
      have hk : k < l.length := by simpa using h2
      simp only [List.getElem_map, List.getElem_range, List.getElem_reverse]
      simp [Array.getD, show l.length - 1 - k < l.length by omega]
    rw [g] at h
    exact Str.ext' (Array.toList_inj.mp (by rw [h]; rfl))
  unfold sliceMade
  rw [if_neg c, ← e]
  unfold Txt.sliceBy
  rw [if_neg c]
def tRevA (K : PySem.W.Frag) (te : TE) : TE := fun σ H Q => te σ H fun x H1 => (∃ z, x = .str z ∧ z.length ≤ sizeLine ∧ Q (.str (revS z)) H1) ∨ ∃ a xs, x = .ref a ∧ ((SqL K H1 a xs ∧ ∀ p, H1 p = none → Q (.ref p) (upd H1 p (.lst xs.reverse))) ∨ (SqT K H1 a xs ∧ ∀ p o, H1 p = none → o.dict = none → Q (.ref p) (upd H1 p (.frz o (.tup xs.reverse)))))
theorem pe_revA {e : Expr} {te : TE} {k : Nat} {p1 p2 p3 pos : Pos} (he : PE X e te) : PE X (.Subscript e (.Slice none none (some (.UnaryOp .USub (.Constant (.int 1) k p1) p2)) p3) pos) (tRevA X.K te) := by
  refine ⟨fun pins s σ H Q I h => ?_⟩
  refine Subscript_ (thn (he.run pins s σ H _ I h) fun v s1 ⟨x, H1, I1, r1, q1⟩ => ?_)
  have hst : PO X (some (.UnaryOp .USub (.Constant (.int 1) k p1) p2)) (tPart (tUn (rU fun i => .int (-i)) (tC (.int 1)))) := po_some (pe_un un_neg pe_int)
  refine wpAny_Slice (thn (po_none.run pins s1 σ H1 (fun o H2 => o = none ∧ H2 = H1) I1 ⟨rfl, rfl⟩) fun vl s2 ⟨l, H2, I2, pl, el, e2⟩ => ?_)
  subst el e2
  refine thn (po_none.run pins s2 σ H2 (fun o H3 => o = none ∧ H3 = H2) I2 ⟨rfl, rfl⟩) fun vu s3 ⟨u, H3, I3, pu, eu, e3⟩ => ?_
  subst eu e3
  refine thn (hst.run pins s3 σ H3 (fun o H4 => o = some (-1) ∧ H4 = H3) I3 ⟨1, rfl, -1, rfl, rfl, rfl⟩) fun vs s4 ⟨o, H4, I4, ps, eo, e4⟩ => ?_
  subst eo e4
  have I5 : Inv X pins σ H4 { s4 with heap := s4.heap.push { cls := .type "slice", data := .fields #[vl, vu, vs] } } := I4.kept (t' := s4.toks) fun b ob q => Heap.get?_push_of_some _ q
  show wpAny (model X.prog X.w) X.A (subscriptTail e (.Slice none none (some (.UnaryOp .USub (.Constant (.int 1) k p1) p2)) p3) v (.ref s4.heap.objs.size)) (EP X pins σ Q) X.xe { s4 with heap := s4.heap.push { cls := .type "slice", data := .fields #[vl, vu, vs] } }
  rcases q1 with ⟨z, ex, hz, q⟩ | ⟨a, xs, ex, hx⟩
  · subst ex
    obtain ⟨t, rfl⟩ := r1
    obtain ⟨l, rfl, e1⟩ := IsPart.raw pl
    obtain ⟨u, rfl, e2⟩ := IsPart.raw pu
    obtain ⟨sp, rfl, e3⟩ := IsPart.raw ps
    cases l with
    | some l => cases e1
    | none =>
      cases u with
      | some u => cases e2
      | none =>
        cases sp with
        | none => cases e3
        | some sp =>
          obtain ⟨i, tk⟩ := sp
          have e3 : i = -1 := Option.some.inj e3
          subst e3
          refine tail_any (ops := [.str z t, .ref s4.heap.objs.size]) (typeIs_str _ _ _) F.slot_str_getitem.lookup ?_ (by with_unfolding_all rfl)
          refine wpAny_getItem_str_slice (l := none) (u := none) (st := some (-1, tk)) ⟨_, Heap.get?_push_size _ rfl, rfl, rfl⟩ rfl ?_
          rw [slice_back]
          refine ⟨?_, .str _, _, I5.tok _, ⟨_, rfl⟩, q⟩
          show (z.cps.toList.reverse.toArray).size ≤ _
          rw [List.size_toArray, List.length_reverse, Array.length_toList]
          exact hz
  subst ex
  cases r1
  rcases hx with ⟨hx, q⟩ | ⟨hx, q⟩
  · obtain ⟨its, r, ht, hz⟩ := I5.list hx
    have hlen := r.length
    refine tail_any (ops := [.ref a, .ref s4.heap.objs.size]) ht.isList.typeIs (PySem.slot_list_getitem.lookup) ?_ (by with_unfolding_all rfl)
    refine wpAny_getItem_list_slice ht.isList (Heap.IsSliceOf.new _ vl vu vs) pl pu ps (by decide) ?_ (by rw [List.size_toArray]; omega)
    rw [PySem.W.krv_pick]
    refine ⟨.ref _, _, I5.laid (t' := s4.toks) (o := .lst xs.reverse) (fun b ob q => Heap.get?_push_of_some _ q) (Nat.le_refl _) ?_, rfl, q _ (I5.hok.fresh (Nat.le_refl _))⟩
    exact ⟨by rw [List.length_reverse]; exact hz, _, 0, r.reverse, Heap.get?_push_size _ rfl⟩
  · obtain ⟨its, r, ht, hz⟩ := I5.tuple hx
    have hlen := r.length
    refine tail_any (ops := [.ref a, .ref s4.heap.objs.size]) ht.typeIs (PyProof.Rows.slot_tuple_getitem.lookup) ?_ (by with_unfolding_all rfl)
    refine HT.getItem_tuple_back ht (Heap.IsSliceOf.new _ vl vu vs) pl pu ps ?_ (by rw [List.size_toArray]; omega)
    refine ⟨.ref _, _, I5.laid (t' := s4.toks) (o := .frz { cls := .type "tuple", data := .seq its.reverse.toArray } (.tup xs.reverse)) (fun b ob q => Heap.get?_push_of_some _ q) (Nat.le_refl _) ?_, rfl, q _ _ (I5.hok.fresh (Nat.le_refl _)) rfl⟩
    exact ⟨Heap.get?_push_size _ rfl, by rw [List.length_reverse]; exact hz, _, by simpa using r.reverse, ⟨_, Heap.get?_push_size _ rfl, rfl, 0, by simp⟩⟩
theorem je_rev {e : Expr} {o : Opd} {k : Nat} {p1 p2 p3 pos : Pos} (he : JO X W e o) : JE X W (.Subscript e (.Slice none none (some (.UnaryOp .USub (.Constant (.int 1) k p1) p2)) p3) pos) (op1 o (lift1 pRev)) := by
  refine pe_mono (pe_revA he) fun σ H Q ⟨B, F, α, rho, h, r, p⟩ => ?_
  unfold tRevA
  refine tO_mono (Ev.o1 r p) fun x H1 ⟨F1, α1, h1, a, s1, r1, tx, p1⟩ => ?_
  cases a with
  | list ds =>
    obtain ⟨q, vs, rfl, h2, r2⟩ := tx.list r1.sub
    exact .inr ⟨q, vs, rfl, .inl ⟨.inl h2, mk_lst r1.sub ⟨r2.all.rev, by rw [List.length_reverse]; exact r2.le⟩ fun v F' H' x hv => post_ext r1 p1 x hv⟩⟩
  | tuple ds =>
    obtain ⟨q, vs, rfl, h2, r2⟩ := tx.tuple r1.sub
    exact .inr ⟨q, vs, rfl, .inr ⟨h2, mk_tupF r1.sub ⟨r2.all.rev, by rw [List.length_reverse]; exact r2.le⟩ fun v F' H' x hv => post_ext r1 p1 x hv⟩⟩
  | str z =>
    cases tx.str
    unfold pRev lift1 at p1
    dsimp only at p1
    by_cases hz : z.length ≤ lim
    · rw [if_pos hz] at p1
      exact .inl ⟨z, rfl, Nat.le_trans hz lim_le, post_ok r1 p1 _ (.str _)⟩
    · rw [if_neg hz] at p1
      exact p1.elim
  | _ => exact p1.elim
end
end Ev
/-! # Sf: lists of lists that change -/
namespace Ev
open PySem PySem.Spec PyProof.Rows L2
section
variable {X : Cx} {W : WX} {B : Fx} {F F1 H : Hp} {rho : Ro} {h : Hh} {σ : L2.St} {α : List Addr}
def Fx.base (B : Fx) (r : List Addr) : Fx := { B with ab := r }
theorem Rel.based (r : Rel X.K B F α rho h σ H) : ∃ b t, α = B.al0 ++ b ∧ b = B.ab ++ t ∧ Rel X.K (B.base b) F α rho h σ H := by
  obtain ⟨b, e1, e2, t, e3⟩ := r.pre
  exact ⟨b, t, e1, e3, r.sub, r.new, r.fr, ⟨b, e1, e2, [], (List.append_nil _).symm⟩, r.a0, r.nd, r.len, r.slot, r.sep, r.kp, r.hl, r.heap, r.io, r.df, r.ii⟩
theorem Rel.unbase {b t : List Addr} (e : b = B.ab ++ t) (r : Rel X.K (B.base b) F α rho h σ H) : Rel X.K B F α rho h σ H ∧ ∃ u, α = B.al0 ++ b ++ u := by
  obtain ⟨b', e1, e2, t', e3⟩ := r.pre
  have e3' : b' = b ++ t' := e3
  have e1' : α = B.al0 ++ b' := e1
  refine ⟨⟨r.sub, r.new, r.fr, ⟨b', e1, e2, t ++ t', by rw [e3', e, List.append_assoc]⟩, r.a0, r.nd, r.len, r.slot, r.sep, r.kp, r.hl, r.heap, r.io, r.df, r.ii⟩, t', ?_⟩
  rw [e1', e3', List.append_assoc]
theorem Fresh.base {p : Addr} {b : List Addr} (f : Fresh B F α rho σ H p) : Fresh (B.base b) F α rho σ H p := ⟨f.h0, f.a, f.f, f.k, f.o, f.i⟩
theorem Fresh.unbase {p : Addr} {b : List Addr} (f : Fresh (B.base b) F α rho σ H p) : Fresh B F α rho σ H p := ⟨f.h0, f.a, f.f, f.k, f.o, f.i⟩
theorem Rel.setRefs {i : Nat} {ns : List Nat} {vs : List V} {p : Addr} (r : Rel X.K B F α rho h σ H) (f : Fresh B F α rho σ H p) (hp : H p = some (.lst vs)) (hv : Paired (RefIs B α) vs ns) (hl : ns.length ≤ sizeLine) : Rel X.K B F α (rho.set i (.refs ns)) h (σ.set i (some (.ref p))) H :=
  r.set ⟨p, vs, rfl, f.h0, f.a, f.f, hp, hv, hl⟩ (fun q _ e => by cases e; exact f.k) (fun q _ e j sj _ e1 o1 => by cases e; exact f.o j sj e1 o1) fun q _ e => by cases e; exact f.i
theorem js_refs0 {i : Nat} {x : Str} {pos pos' p2 : Pos} (hN : X.N.Nodup) (hi : X.N[i]? = some x) (hx : Loc X.env.scope x) (hf : X.fn x = true ∨ X.env.scope.names.lookup x = some .local) :
    JS X W (.Assign [.Name x pos'] (.List [] p2) pos) (sRefs0 i) := by
  refine ps_mono (ps_set hN hi hx (jl_disp (X := X) (W := W) (fs := []) (pos := p2) (Nat.zero_le _) ja_nil) rfl hf) fun E σ H ⟨B, F, α, rho, h, r, p⟩ => ⟨B, F, α, rho, h, r, ?_⟩
  intro F' α' H' s' r' q vs fr hq hv
  cases hv.all
  exact p _ F' α' H' s' (r'.setRefs fr hq .nil (Nat.zero_le _))
theorem paired_snoc {α β : Type} {R : α → β → Prop} {x : α} {y : β} (hz : R x y) : ∀ {xs : List α} {ys : List β}, Paired R xs ys → Paired R (xs ++ [x]) (ys ++ [y])
  | _, _, .nil => .cons hz .nil
  | _, _, .cons h t => .cons h (paired_snoc hz t)
theorem paired_get {α β : Type} {R : α → β → Prop} : ∀ {xs : List α} {ys : List β} {i : Nat} {y : β}, Paired R xs ys → ys[i]? = some y → ∃ x, xs[i]? = some x ∧ R x y
  | _, _, _, _, .nil, e => by simp at e
  | _, _, 0, _, .cons h _, e => by simp at e; subst e; exact ⟨_, rfl, h⟩
  | _, _, i + 1, y, .cons _ t, e => by
    obtain ⟨x, h1, h2⟩ := paired_get (i := i) (y := y) t (by simpa using e)
    exact ⟨x, by simpa using h1, h2⟩
theorem js_appR {i : Nat} {x : Str} {a : Expr} {l : DenL} {px apos cpos pos : Pos} (hN : X.N[i]? = some x) (hv : Vis X.env.scope x) (hd : (x == ("__debug__" : Str)) = false) (hcd : (x == ("__classdict__" : Str)) = false) (hs : isStar a = false) (ha : JL X W a l) (hline : (apos.endLine == cpos.line) = true) :
    JS X W (.Expr (.Call (.Attribute (.Name x px) "append" apos) [a] [] cpos) pos) (sAppR i l) := by
  have hfew : ((backTo cpos (starEach [a] X.env)).all (fun x => !x.1) && (backToKw cpos (keywordEach [] X.env)).all (fun x => x.1.isSome) && decide ([a].length + ([] : List Keyword).length + (if ([] : List Keyword).isEmpty then 0 else 1) < 30)) = true := by
    rw [star_cons hs]; rfl
  refine ps_mono (ps_expr (pe_bm PySem.F.plainAttrs_list PySem.F.slot_list_append PySem.F.type_list_append mt_append (pe_var hN hv hd hcd) (pa_cons ha pa_nil (star_cons hs)) rfl hfew hline (star_cons hs) rfl) rfl) fun E σ H ⟨B, F, α, rho, h, r, p⟩ => ?_
  unfold sAppR at p
  dsimp only at p
  cases w : rho[i]? with
  | none => rw [w] at p; exact p.elim
  | some sl =>
    rw [w] at p
    have z := r.slot i sl w
    cases sl with
    | refs ns =>
      obtain ⟨q, vs, e1, e0, na, h1, h2, h3⟩ := z
      refine ⟨.ref q, jn e1, .inl ⟨rfl, vs, .inl (.inl h2)⟩, B, F, α, rho, h, r, ?_⟩
      refine post_imp (postS_of p) fun ds F1 α1 H1 s1 ⟨h1', r1, p1⟩ pn vsn fr hn hvn => ?_
      obtain ⟨q', vs', e1', f0, fa, ff, h2', h3', h4'⟩ := r1.slot i _ w
      rw [e1] at e1'
      cases e1'
      split at p1
      · rename_i hl
        have hlen := Paired.length h3'
        refine ⟨q, vs', .ref pn, rfl, rfl, h2', by rw [hlen]; exact Nat.lt_of_lt_of_le hl lim_le, ?_⟩
        have rs := r1.share fr hn hvn
        obtain ⟨q2, vs2, g1, g0, ga, gf, g2, g3, g4⟩ := rs.slot i _ w
        rw [e1] at g1
        cases g1
        rw [h2'] at g2
        cases g2
        have ea : (α1 ++ [pn])[h1'.length]? = some pn := by
          rw [← r1.hl, List.getElem?_append_right (Nat.le_refl _)]
          simp
        have hq := rs.mutAny (o' := .lst (vs' ++ [.ref pn])) w trivial (sl' := .refs (ns ++ [h1'.length])) trivial (jn e1) g0 ga gf ⟨q, _, rfl, g0, ga, gf, upd_same, paired_snoc ⟨pn, rfl, ea, fr.h0⟩ g3, by rw [List.length_append]; exact Nat.le_trans hl lim_le⟩
        exact p1 σ F1 _ _ same_refl hq
      · exact p1.elim
    | _ => exact p.elim
theorem js_appIn {i : Nat} {x : Str} {a k : Expr} {f g : Den} {px apos cpos pos p2 : Pos} (hN : X.N[i]? = some x) (hv : Vis X.env.scope x) (hd : (x == ("__debug__" : Str)) = false) (hcd : (x == ("__classdict__" : Str)) = false) (hs : isStar a = false) (hk : JE X W k g) (hp : PlainIx k) (ha : JE X W a f) (hline : (apos.endLine == cpos.line) = true) :
    JS X W (.Expr (.Call (.Attribute (.Subscript (.Name x px) k p2) "append" apos) [a] [] cpos) pos) (sAppIn i g f) := by
  have hfew : ((backTo cpos (starEach [a] X.env)).all (fun x => !x.1) && (backToKw cpos (keywordEach [] X.env)).all (fun x => x.1.isSome) && decide ([a].length + ([] : List Keyword).length + (if ([] : List Keyword).isEmpty then 0 else 1) < 30)) = true := by
    rw [star_cons hs]; rfl
  refine ps_mono (ps_expr (pe_bm PySem.F.plainAttrs_list PySem.F.slot_list_append PySem.F.type_list_append mt_append (pe_ix ix_list (pe_var hN hv hd hcd) hk hp) (pa_cons ha pa_nil (star_cons hs)) rfl hfew hline (star_cons hs) rfl) rfl) fun E σ H ⟨B, F, α, rho, h, r, p⟩ => ?_
  unfold sAppIn at p
  dsimp only at p
  cases w : rho[i]? with
  | none => rw [w] at p; exact p.elim
  | some sl =>
    rw [w] at p
    have z := r.slot i sl w
    cases sl with
    | refs ns =>
      obtain ⟨q, vs, e1, e0, na, h1, h2, h3⟩ := z
      refine ⟨.ref q, jn e1, B, F, α, rho, h, r, ?_⟩
      refine post_imp (postS_of p) fun kd F1 α1 H1 s1 ⟨h1', r1, p1⟩ kv hkv => ?_
      cases kd with
      | int kk =>
        cases hkv
        obtain ⟨q', vs', e1', f0, fa, ff, h2', h3', h4'⟩ := r1.slot i _ w
        rw [e1] at e1'
        cases e1'
        dsimp only at p1
        cases ew : L2.atI ns kk with
        | none => rw [ew] at p1; exact p1.elim
        | some n =>
          rw [ew] at p1
          dsimp only at p1
          obtain ⟨v, ev, qn, rfl, ea, eh0⟩ : ∃ v, L2.atI vs' kk = some v ∧ RefIs B α1 v n := by
            unfold L2.atI at ew ⊢
            rw [Paired.length h3']
            cases wi : ixN ns.length kk with
            | none => rw [wi] at ew; cases ew
            | some m =>
              rw [wi] at ew
              exact paired_get h3' ew
          cases w2 : h1'[n]? with
          | none => rw [w2] at p1; exact p1.elim
          | some ob =>
            rw [w2] at p1
            cases ob with
            | lst ds0 =>
              obtain ⟨_, vs0, hq0, _⟩ := r1.heap n qn _ ea w2
              refine ⟨q, vs', kk, .ref qn, rfl, rfl, .inl (.inl h2'), ev, .inl ⟨rfl, vs0, .inl (.inl hq0)⟩, ?_⟩
              -- the place stays while e is asked
              obtain ⟨b, t, eb1, eb2, rb⟩ := r1.based
              refine ⟨B.base b, F1, α1, rho, h1', rb, ?_⟩
              have p1' : Post X W B σ F1 rho (f rho h1') fun d F2 α2 H2 => ∃ h2, Rel X.K B F2 α2 rho h2 σ H2 ∧ PostS X W B E F2 (match h2[n]? with
                | some (.lst ds) => if ds.length < lim then Fl.next ⟨rho, h2.set n (.lst (ds ++ [d]))⟩ else .bad
                | _ => .bad) := postS_of p1
              cases wf : f rho h1' with
              | bad => rw [wf] at p1'; exact p1'
              | exc c h3 =>
                rw [wf] at p1'
                exact fun cv F2 α2 H2 s2 r2 ec => p1' cv F2 α2 H2 s2 (r2.unbase eb2).1 ec
              | ok d h3 =>
                rw [wf] at p1'
                intro F2 α2 H2 s2 r2 v hv
                obtain ⟨r2', u, eu⟩ := r2.unbase eb2
                obtain ⟨h4, r4, p4⟩ := p1' F2 α2 H2 s2 r2'
                have ea2 : α2[n]? = some qn := by
                  rw [eu, ← eb1, List.getElem?_append_left (List.getElem?_eq_some_iff.mp ea).1]
                  exact ea
                cases w3 : h4[n]? with
                | none => rw [w3] at p4; exact p4.elim
                | some ob1 =>
                  rw [w3] at p4
                  cases ob1 with
                  | lst ds =>
                    dsimp only at p4
                    split at p4
                    · rename_i hl
                      obtain ⟨_, vsn, hqn, h3n⟩ := r4.heap n qn _ ea2 w3
                      refine ⟨qn, vsn, v, rfl, rfl, hqn, by rw [h3n.length]; exact Nat.lt_of_lt_of_le hl lim_le, ?_⟩
                      exact p4 σ F2 α2 _ same_refl (r4.mutRef ea2 w3 (h3n.snoc hl hv))
                    · exact p4.elim
                  | _ => exact p4.elim
            | _ => exact p1.elim
      | _ => exact p1.elim
    | _ => exact p.elim
/-! ### if x == [] -/
theorem refs_dp {ns : List Nat} {ds : List D} {vs : List V} (r : Rel X.K B F α rho h σ H) (hv : Paired (RefIs B α) vs ns) : refsD h ns = some ds → PyData.canLayAll0 ds = true → DpAll X.K H vs ds := by
  induction hv generalizing ds with
  | nil => intro e _; cases e; exact .nil
  | cons h1 t ih =>
    rename_i v n vs' ns'
    intro e c
    unfold refsD at e
    cases w : h[n]? with
    | none => rw [w] at e; cases e
    | some ob =>
      rw [w] at e
      cases ob with
      | lst es =>
        cases w2 : refsD h ns' with
        | none => rw [w2] at e; cases e
        | some r' =>
          rw [w2] at e
          cases e
          rw [PyData.canLayAll0, Bool.and_eq_true] at c
          obtain ⟨q, rfl, ea, _⟩ := h1
          obtain ⟨_, ws, hq, hr⟩ := r.heap n q _ ea w
          have c1 := c.1
          rw [PyData.canLay0] at c1
          exact .cons (.lst (.inl (.inl hq)) (rpAll_dp r.sub hr.all c1)) (ih w2 c.2)
      | _ => cases e
theorem refs_len {ns : List Nat} : ∀ {ds : List D}, refsD h ns = some ds → ds.length = ns.length := by
  induction ns with
  | nil => intro ds e; cases e; rfl
  | cons n ns ih =>
    intro ds e
    unfold refsD at e
    cases w : h[n]? with
    | none => rw [w] at e; cases e
    | some ob =>
      rw [w] at e
      cases ob with
      | lst es =>
        cases w2 : refsD h ns with
        | none => rw [w2] at e; cases e
        | some r' =>
          rw [w2] at e
          cases e
          rw [List.length_cons, List.length_cons, ih w2]
      | _ => cases e
theorem eqv_nil (ds : List D) : PyData.eqv (.list ds) (.list []) = ds.isEmpty := by
  cases ds with
  | nil => simp [PyData.eqv, PyData.eqvAll]
  | cons d ds => simp [PyData.eqv, PyData.eqvAll]
theorem js_ifNil {i : Nat} {x : Str} {a b : List Stmt} {f g : DenS} {px p1 p2 pos : Pos} (hu : X.A.units + 64 < cLine) (hN : X.N[i]? = some x) (hv : Vis X.env.scope x) (hd : (x == ("__debug__" : Str)) = false) (hcd : (x == ("__classdict__" : Str)) = false) (ha : JSs X W a f) (hb : JSs X W b g) :
    JS X W (.If (.Compare (.Name x px) [.Eq] [.List [] p1] p2) a b pos) (sIfNil i f g) := by
  refine ps_mono (ps_if (pt_cmpR (op_eqD hu) (pe_var hN hv hd hcd) (pe_lst (pos := p1) pa_nil) rfl) ha hb) fun E σ H ⟨B, F, α, rho, h, r, p⟩ => ?_
  unfold sIfNil at p
  dsimp only at p
  cases w : rho[i]? with
  | none => rw [w] at p; exact p.elim
  | some sl =>
    rw [w] at p
    have z := r.slot i sl w
    cases sl with
    | refs ns =>
      dsimp only at p
      obtain ⟨q, vs, e1, e0, na, h1, h2, h3⟩ := z
      cases wd : refsD h ns with
      | none => rw [wd] at p; exact p.elim
      | some ds =>
        rw [wd] at p
        dsimp only at p
        by_cases sh : SeqAt.shaped (.list ds) = true
        · rw [if_pos sh] at p
          refine ⟨.ref q, jn e1, Nat.zero_le _, fun pn hn => ?_⟩
          have ra := r.add (o := .lst []) hn
          obtain ⟨q2, vs2, g1, g0, ga, gf, g2, g3, g4⟩ := ra.slot i _ w
          rw [e1] at g1
          cases g1
          have cl := SeqAt.canLay_of_shaped sh
          rw [PyData.canLay0] at cl
          refine ⟨.list ds, .list [], .lst (.inl (.inl g2)) (refs_dp ra g3 wd cl), .lst (.inl (.inl upd_same)) .nil, sh, by decide, _, rfl, ?_⟩
          rw [eqv_nil]
          have ee : ds.isEmpty = ns.isEmpty := by
            have := refs_len wd
            cases ds <;> cases ns <;> simp at this ⊢
          rw [ee]
          show (if ns.isEmpty = true then tS X W f E σ (upd H pn (HO.lst [])) else tS X W g E σ (upd H pn (HO.lst [])))
          cases en : ns.isEmpty with
          | true =>
            rw [if_pos en] at p
            exact ⟨B, F, α, rho, h, ra, p⟩
          | false =>
            rw [if_neg (by rw [en]; decide)] at p
            exact ⟨B, F, α, rho, h, ra, p⟩
        · rw [if_neg sh] at p
          exact p.elim
    | _ => exact p.elim
/-! ### return x -/
theorem Rel.freezeA {n : Nat} {p : Addr} {vs : List V} (r : Rel X.K B F α rho h σ H) (ea : α[n]? = some p) (e0 : B.H0 p = none) (hf : F p = none) (hp : H p = some (.lst vs)) : Rel X.K B (upd F p (.lst vs)) α rho (h.set n .dead) σ H := by
  have m : Same F (upd F p (.lst vs)) := same_upd hf
  have pm : p ∈ α := List.mem_of_getElem? ea
  refine ⟨fun b u e => ?_, fun b u e => ?_, r.fr, r.pre, r.a0, r.nd, r.len, fun i sl e => ?_, r.sep, fun b u e => ?_, by rw [List.length_set]; exact r.hl, fun m' q u e1 e2 => ?_, ⟨r.io.nd, r.io.na, fun q hq => by rw [upd_ne (show q ≠ p from fun z => r.io.na q hq (z ▸ pm))]; exact r.io.f q hq, r.io.h⟩, r.df, r.ii⟩
  · by_cases hb : b = p
    · subst hb; rw [upd_same] at e; rw [hp]; exact e
    · rw [upd_ne hb] at e; exact r.sub b u e
  · by_cases hb : b = p
    · subst hb; exact .inr e0
    · rw [upd_ne hb] at e; exact r.new b u e
  · have q := r.slot i sl e
    cases sl with
    | no => trivial
    | val d => obtain ⟨v, e1, z⟩ := q; exact ⟨v, e1, rp_mono m z⟩
    | own ds =>
      obtain ⟨p', vs, e1, e0, na, h1, h2, h3⟩ := q
      exact ⟨p', vs, e1, e0, na, by rw [upd_ne (show p' ≠ p from fun z => na (z ▸ pm))]; exact h1, h2, h3.mono m⟩
    | ownd kvs =>
      obtain ⟨p', e1, e0, na, h1, ob, xs, h2, k, h3⟩ := q
      exact ⟨p', e1, e0, na, by rw [upd_ne (show p' ≠ p from fun z => na (z ▸ pm))]; exact h1, ob, xs, h2, k, rpKv_mono m h3⟩
    | ref n => exact q
    | exc _ => exact q
    | refs ns =>
      obtain ⟨p', vs, e1, e0, na, h1, h2, h3⟩ := q
      exact ⟨p', vs, e1, e0, na, by rw [upd_ne (show p' ≠ p from fun z => na (z ▸ pm))]; exact h1, h2, h3⟩
  · obtain ⟨h1, h2, h3, h4⟩ := r.kp b u e
    exact ⟨h1, by rw [upd_ne (show b ≠ p from fun z => h3 (z ▸ pm))]; exact h2, h3, h4⟩
  · by_cases hm : n = m'
    · subst hm
      rw [ea] at e1
      cases e1
      have hn : n < h.length := by rw [← r.hl]; exact (List.getElem?_eq_some_iff.mp ea).1
      rw [List.getElem?_set_self hn] at e2
      cases e2
      exact ⟨_, hp, rfl⟩
    · rw [List.getElem?_set_ne hm] at e2
      have nq : q ≠ p := fun w => hm (nodup_get r.nd ea (w ▸ e1))
      exact (r.heap m' q u e1 e2).keep m (fun z => by rw [upd_ne nq]; exact z) rfl fun _ _ => rfl
theorem Rel.giveR : ∀ {ns : List Nat} {vs : List V} {F : Hp} {h h' : Hh} {ds : List D}, Rel X.K B F α rho h σ H → Paired (RefIs B α) vs ns → Ev.giveR h ns = some (ds, h') → ∃ F', Same F F' ∧ Rel X.K B F' α rho h' σ H ∧ RpAll X.K F' vs ds
  | [], _, F, h, h', ds, r, .nil, e => by
    cases e
    exact ⟨F, same_refl, r, .nil⟩
  | n :: ns, _, F, h, h', ds, r, .cons hz t, e => by
    obtain ⟨q, rfl, ea, e0⟩ := hz
    unfold Ev.giveR at e
    cases w : h[n]? with
    | none => rw [w] at e; cases e
    | some ob =>
      rw [w] at e
      cases ob with
      | lst es =>
        dsimp only at e
        cases w2 : Ev.giveR (h.set n .dead) ns with
        | none => rw [w2] at e; cases e
        | some rr =>
          obtain ⟨rs, h2⟩ := rr
          rw [w2] at e
          cases e
          obtain ⟨hf, ws, hq, hr⟩ := r.heap n q _ ea w
          have r1 := r.freezeA ea e0 hf hq
          have m1 : Same F (upd F q (.lst ws)) := same_upd hf
          obtain ⟨F2, s2, r2, a2⟩ := Rel.giveR r1 t w2
          refine ⟨F2, m1.trans s2, r2, .cons (.lst (.inl (s2 _ _ upd_same)) (rpAll_mono (m1.trans s2) hr.all) hr.le) a2⟩
      | _ => cases e
theorem js_retR {i : Nat} {x : Str} {px pos : Pos} (hN : X.N[i]? = some x) (hv : Vis X.env.scope x) (hd : (x == ("__debug__" : Str)) = false) (hcd : (x == ("__classdict__" : Str)) = false) : JS X W (.Return (some (.Name x px)) pos) (sRetR i) := by
  refine ps_mono (ps_ret (pe_var hN hv hd hcd)) fun E σ H ⟨B, F, α, rho, h, r, p⟩ => ?_
  unfold sRetR at p
  dsimp only at p
  cases w : rho[i]? with
  | none => rw [w] at p; exact p.elim
  | some sl =>
    rw [w] at p
    have z := r.slot i sl w
    cases sl with
    | refs ns =>
      dsimp only at p
      obtain ⟨q, vs, e1, e0, na, h1, h2, h3, h4⟩ := z
      cases wg : giveR h ns with
      | none => rw [wg] at p; exact p.elim
      | some rr =>
        obtain ⟨ds, h'⟩ := rr
        rw [wg] at p
        refine ⟨.ref q, jn e1, ?_⟩
        obtain ⟨F1, s1, r1, a1⟩ := r.giveR h3 wg
        obtain ⟨q2, vs2, g1, g0, ga, gf, g2, g3, g4⟩ := r1.slot i _ w
        rw [e1] at g1
        cases g1
        rw [h2] at g2
        cases g2
        have hl : ds.length ≤ sizeLine := by rw [← a1.length, Paired.length h3]; exact h4
        have m : Same F1 (upd F1 q (.lst vs)) := same_upd gf
        have hv : Rp X.K (upd F1 q (.lst vs)) (.ref q) (.list ds) := .lst (.inl upd_same) (rpAll_mono m a1) hl
        obtain ⟨F2, s2, r2⟩ := r1.give w trivial (jn e1) g0 ga gf h2 hv
        have hv2 := (r2.slot i _ (by rw [List.getElem?_set_self (List.getElem?_eq_some_iff.mp w).1]))
        obtain ⟨v2, ev2, rv2⟩ := hv2
        rw [e1] at ev2
        cases ev2
        exact p (.ref q) _ σ F2 α H (s1.trans s2) r2 rv2
    | _ => exact p.elim
/-! ### x = [y for y in z if ..] -/
theorem pre_get {b t u : List Addr} {n : Nat} {q : Addr} (e : α = b ++ u) (h : b[n]? = some q) : α[n]? = some q := by
  rw [e, List.getElem?_append_left (List.getElem?_eq_some_iff.mp h).1]
  exact h
theorem t_pick {i j v : Nat} {vs : List Nat} {tt : DenT} {E : Ends} (hv : v ∈ vs) (z : tS X W (sPick i j v vs tt) E σ H) :
    tLc (tIx X (tVar j)) (gName v) (tT X W0 tt) (tVar v) vs σ H fun x H1 => gName i x σ H1 E.nx := by
  obtain ⟨B, F, α, rho, h, r, p⟩ := z
  unfold sPick at p
  dsimp only at p
  split at p
  · rename_i hp
    cases w : rho[j]? with
    | none => rw [w] at p; exact p.elim
    | some sl =>
      rw [w] at p
      have zz := r.slot j sl w
      cases sl with
      | refs ns =>
        dsimp only at p
        obtain ⟨q, vs0, e1, e0, na, h1, h2, h3, h4⟩ := zz
        have hlen := Paired.length h3
        refine ⟨.ref q, jn e1, .inl ⟨q, vs0, rfl, .inl (.inl h2), fun _ => ?_⟩⟩
        intro A hA
        obtain ⟨b, t, eb1, eb2, rb⟩ := r.based
        have fr := r.freshU (o := .lst []) hA
        have rb' : Rel X.K (B.base b) F α rho h σ (upd H A (.lst [])) := rb.add hA
        refine ⟨fun k m H' => k + m = ns.length ∧ ∃ F2 α2 h2 acc ws, Same F F2 ∧ Rel X.K ((B.base b).keep A (.lst ws)) F2 α2 rho h2 σ H' ∧ Paired (RefIs B α) ws acc ∧ ws.length ≤ k ∧ PostS X W B E F2 (ofR (loopP vs v tt rho (ns.drop k) acc h2) rho fun ns' h' => .next ⟨rho.set i (.refs ns'), h'⟩),
          ⟨ns.length, by omega, F, α, h, [], [], same_refl, rb'.keep fr.base upd_same, .nil, Nat.le_refl _, by rw [List.drop_zero]; exact p⟩, ?_⟩
        rintro k m H' ⟨hm, F2, α2, h2', acc, ws, s2, r2, rw2, lw, p2⟩
        obtain ⟨q2, vs2, g1, g0, ga, gf, g2, g3, g4⟩ := r2.slot j _ w
        rw [e1] at g1
        cases g1
        have hlen2 := Paired.length g3
        by_cases hi : k < ns.length
        · have gn := List.getElem?_eq_getElem hi
          obtain ⟨x, ex, qx, rfl, eax, e0x⟩ := paired_get g3 gn
          refine .inr ⟨⟨vs2, _, .inl (.inl g2), ex⟩, fun H3 => ∃ F3 α3 h3 acc ws, Same F F3 ∧ Rel X.K ((B.base b).keep A (.lst ws)) F3 α3 rho h3 σ H3 ∧ Paired (RefIs B α) ws acc ∧ ws.length ≤ k + 1 ∧ PostS X W B E F3 (ofR (loopP vs v tt rho (ns.drop (k + 1)) acc h3) rho fun ns' h' => .next ⟨rho.set i (.refs ns'), h'⟩), fun H3 ⟨F3, α3, h3, acc3, ws3, s3, r3, rw3, lw3, p3⟩ => ⟨m - 1, by omega, by omega, F3, α3, h3, acc3, ws3, s3, r3, rw3, lw3, p3⟩, fun x H3 y => ?_⟩
          obtain ⟨rfl, y2⟩ := y
          have ex2 := y2 _ (.inl (.inl g2))
          rw [ex] at ex2
          cases ex2
          have ed2 : ns.drop k = ns[k] :: ns.drop (k + 1) := List.drop_eq_getElem_cons hi
          rw [ed2] at p2
          unfold loopP at p2
          have rr : Rel X.K ((B.base b).keep A (.lst ws)) F2 α2 ((wipeR rho vs).set v (.ref ns[k])) h2' ((L2.wipe σ vs).set v (some (.ref qx))) H3 := (r2.wipe vs).set (sl := .ref ns[k]) ⟨qx, rfl, eax⟩ (fun _ o => o.elim) (fun _ o => o.elim) fun _ o => o.elim
          have of1 : Off vs rho ((wipeR rho vs).set v (.ref ns[k])) := (wipeR_off rho vs).trans ((Off.set (i := v)).sub (by simpa using hv))
          have of2 : Off vs σ ((L2.wipe σ vs).set v (some (.ref qx))) := (wipe_off σ vs).trans ((Off.set (i := v)).sub (by simpa using hv))
          refine ⟨wipe_eq of2, _, F2, α2, _, h2', rr, ?_⟩
          cases wt : tt ((wipeR rho vs).set v (.ref ns[k])) h2' with
          | bad => rw [wt] at p2; exact p2.elim
          | exc c h5 => rw [wt] at p2; exact p2.elim
          | ok bb h5 =>
            rw [wt] at p2
            intro F5 α5 H5 s5 r5
            have rbk := r2.back hp s5 of1 of2 r5
            cases bb with
            | false =>
              exact ⟨F5, α5, h5, acc, ws, s2.trans s5, rbk, rw2, by omega, postS_mono s5 p2⟩
            | true =>
              have hvl : v < (L2.wipe σ vs).length := by
                rw [(wipe_off σ vs).1, ← r.len]
                rcases plain_at hp hv with z | ⟨d, z⟩ <;> exact (List.getElem?_eq_some_iff.mp z).1
              refine ⟨.ref qx, List.getElem?_set_self hvl, ?_⟩
              obtain ⟨ru, fu, eu⟩ := rbk.unkeep (by exact fr.k)
              have en : RefIs B α (.ref qx) ns[k] := by
                obtain ⟨x0, ex0, q0, rfl, ea0, e00⟩ := paired_get h3 gn
                obtain ⟨_, u2, eu2⟩ := (r2.unkeep (by exact fr.k)).1.unbase eb2
                have := pre_get (t := t) (eu2.trans (by rw [← eb1])) ea0
                rw [eax] at this
                cases this
                exact ⟨qx, rfl, ea0, e00⟩
              refine ⟨ws, eu, Nat.lt_of_le_of_lt lw (Nat.lt_of_lt_of_le hi h4), F5, α5, h5, acc ++ [ns[k]], ws ++ [.ref qx], s2.trans s5, (ru.over fu).keep fu.over upd_same, paired_snoc en rw2, by rw [List.length_append]; simpa using lw, postS_mono s5 p2⟩
        · have e : k = ns.length := by omega
          subst e
          rw [List.drop_length] at p2
          obtain ⟨ru, fu, eu⟩ := r2.unkeep (by exact fr.k)
          obtain ⟨rB, u, eu2⟩ := ru.unbase eb2
          refine .inl ⟨⟨vs2, .inl (.inl g2), by omega⟩, ?_⟩
          have hvs : Paired (RefIs B α2) ws acc := L2.Paired.mapP rw2 fun x n ⟨q, w1, w2, w3⟩ => ⟨q, w1, pre_get (t := t) (eu2.trans (by rw [← eb1])) w2, w3⟩
          exact p2 _ F2 α2 H' same_refl (rB.setRefs fu.unbase eu hvs (by rw [← Paired.length rw2]; exact Nat.le_trans lw h4))
      | _ => exact p.elim
  · exact p.elim
/-! ### x = [k for k, y in enumerate(z) if ..] -/
theorem t_pickE {i j k v : Nat} {vs : List Nat} {tt : DenT} {E : Ends} (hk : k ∈ vs) (hv : v ∈ vs) (hkv : k ≠ v) (z : tS X W (sPickE i j k v vs tt) E σ H) :
    tLc (iEnumT X.K (tCons (tVar j) tNil)) (gTup X.K 2 (gNs [k, v])) (tT X W0 tt) (tVar k) vs σ H fun x H1 => gName i x σ H1 E.nx := by
  obtain ⟨B, F, α, rho, h, r, p⟩ := z
  unfold sPickE at p
  dsimp only at p
  split at p
  · rename_i hp
    cases w : rho[j]? with
    | none => rw [w] at p; exact p.elim
    | some sl =>
      rw [w] at p
      have zz := r.slot j sl w
      cases sl with
      | refs ns =>
        dsimp only at p
        obtain ⟨q, vs0, e1, e0, na, h1, h2, h3, h4⟩ := zz
        have hlen := Paired.length h3
        refine ⟨.ref q, jn e1, q, vs0, rfl, .inl ⟨.inl (.inl h2), ?_⟩⟩
        intro A hA
        have fr := r.freshU (o := .lst []) hA
        have r1' : Rel X.K B F α rho h σ (upd H A (.lst [])) := r.add hA
        refine ⟨fun c m H' => c + m = ns.length ∧ ∃ F2 α2 h2 acc ws, Same F F2 ∧ Rel X.K (B.keep A (.lst ws)) F2 α2 rho h2 σ H' ∧ RpAll X.K F2 ws acc ∧ ws.length ≤ c ∧ PostS X W B E F2 (ofR (loopE vs k v tt rho c (ns.drop c) acc h2) rho fun ds h' => .next ⟨rho.set i (.val (.list ds)), h'⟩),
          ⟨ns.length, by omega, F, α, h, [], [], same_refl, r1'.keep fr upd_same, .nil, Nat.le_refl _, by rw [List.drop_zero]; exact p⟩, ?_⟩
        rintro c m H' ⟨hm, F2, α2, h2', acc, ws, s2, r2, rw2, lw, p2⟩
        obtain ⟨q2, vs2, g1, g0, ga, gf, g2, g3, g4⟩ := r2.slot j _ w
        rw [e1] at g1
        cases g1
        have hlen2 := Paired.length g3
        by_cases hi : c < ns.length
        · have gn := List.getElem?_eq_getElem hi
          obtain ⟨x, ex, qx, rfl, eax, e0x⟩ := paired_get g3 gn
          refine .inr ⟨⟨vs2, _, .inl (.inl g2), ex⟩, fun H3 => ∃ F3 α3 h3 acc ws, Same F F3 ∧ Rel X.K (B.keep A (.lst ws)) F3 α3 rho h3 σ H3 ∧ RpAll X.K F3 ws acc ∧ ws.length ≤ c + 1 ∧ PostS X W B E F3 (ofR (loopE vs k v tt rho (c + 1) (ns.drop (c + 1)) acc h3) rho fun ds h' => .next ⟨rho.set i (.val (.list ds)), h'⟩), fun H3 ⟨F3, α3, h3, acc3, ws3, s3, r3, rw3, lw3, p3⟩ => ⟨m - 1, by omega, by omega, F3, α3, h3, acc3, ws3, s3, r3, rw3, lw3, p3⟩, fun x H3 y => ?_⟩
          obtain ⟨T, x', rfl, hT, rfl, y2⟩ := y
          have ex2 := y2 _ (.inl (.inl g2))
          rw [ex] at ex2
          cases ex2
          have ed2 : ns.drop c = ns[c] :: ns.drop (c + 1) := List.drop_eq_getElem_cons hi
          rw [ed2] at p2
          unfold loopE at p2
          have r3 : Rel X.K (B.keep A (.lst ws)) F2 α2 rho h2' σ (upd H' T (.tup [.int (c : Nat), .ref qx])) := r2.add hT
          have rk : Rel X.K (B.keep A (.lst ws)) F2 α2 ((wipeR rho vs).set k (.val (.int (c : Nat)))) h2' ((L2.wipe σ vs).set k (some (.int (c : Nat)))) (upd H' T (.tup [.int (c : Nat), .ref qx])) := (r3.wipe vs).setVal (.int _)
          have rr : Rel X.K (B.keep A (.lst ws)) F2 α2 (((wipeR rho vs).set k (.val (.int (c : Nat)))).set v (.ref ns[c])) h2' (((L2.wipe σ vs).set k (some (.int (c : Nat)))).set v (some (.ref qx))) (upd H' T (.tup [.int (c : Nat), .ref qx])) := rk.set (sl := .ref ns[c]) ⟨qx, rfl, eax⟩ (fun _ o => o.elim) (fun _ o => o.elim) fun _ o => o.elim
          have of1 : Off vs rho (((wipeR rho vs).set k (.val (.int (c : Nat)))).set v (.ref ns[c])) := ((wipeR_off rho vs).trans ((Off.set (i := k)).sub (by simpa using hk))).trans ((Off.set (i := v)).sub (by simpa using hv))
          have of2 : Off vs σ (((L2.wipe σ vs).set k (some (.int (c : Nat)))).set v (some (.ref qx))) := ((wipe_off σ vs).trans ((Off.set (i := k)).sub (by simpa using hk))).trans ((Off.set (i := v)).sub (by simpa using hv))
          refine ⟨T, [.int (c : Nat), .ref qx], rfl, .inl (.inl upd_same), rfl, gNs_run (is := [k, v]) rfl ?_⟩
          refine ⟨wipe_eq of2, _, F2, α2, _, h2', rr, ?_⟩
          cases wt : tt (((wipeR rho vs).set k (.val (.int (c : Nat)))).set v (.ref ns[c])) h2' with
          | bad => rw [wt] at p2; exact p2.elim
          | exc cc h5 => rw [wt] at p2; exact p2.elim
          | ok bb h5 =>
            rw [wt] at p2
            intro F5 α5 H5 s5 r5
            have rbk := r2.back hp s5 of1 of2 r5
            cases bb with
            | false =>
              exact ⟨F5, α5, h5, acc, ws, s2.trans s5, rbk, rpAll_mono s5 rw2, by omega, postS_mono s5 p2⟩
            | true =>
              have hkl : k < (L2.wipe σ vs).length := by
                rw [(wipe_off σ vs).1, ← r.len]
                rcases plain_at hp hk with z | ⟨d, z⟩ <;> exact (List.getElem?_eq_some_iff.mp z).1
              refine ⟨.int (c : Nat), by show (((L2.wipe σ vs).set k (some (.int (c : Nat)))).set v (some (.ref qx)))[k]? = _; rw [List.getElem?_set_ne (Ne.symm hkv), List.getElem?_set_self hkl], ?_⟩
              obtain ⟨ru, fu, eu⟩ := rbk.unkeep fr.k
              refine ⟨ws, eu, Nat.lt_of_le_of_lt lw (Nat.lt_of_lt_of_le hi h4), F5, α5, h5, acc ++ [.int (c : Nat)], ws ++ [.int (c : Nat)], s2.trans s5, (ru.over fu).keep fu.over upd_same, (rpAll_mono s5 rw2).append (.one (.int _)), by rw [List.length_append]; simpa using lw, postS_mono s5 p2⟩
        · have e : c = ns.length := by omega
          subst e
          rw [List.drop_length] at p2
          obtain ⟨ru, fu, eu⟩ := r2.unkeep fr.k
          refine .inl ⟨⟨vs2, .inl (.inl g2), by omega⟩, ?_⟩
          have m : Same F2 (upd F2 A (.lst ws)) := same_upd fu.f
          have rf := ru.freeze fu eu
          have hl : acc.length ≤ sizeLine := by rw [← rw2.length]; exact Nat.le_trans lw h4
          exact p2 _ _ α2 H' m (rf.setVal (.lst (.inl upd_same) (rpAll_mono m rw2) hl))
      | _ => exact p.elim
  · exact p.elim
end
end Ev
/-! # Xa: count, range with a step, defaults and keywords, list of a dict, items stored -/
namespace L2
open PySem PySem.Spec PyProof.Rows
section
variable {X : Cx}
def rCountD (K : PySem.W.Frag) : V → List V → Hp → VK → Prop := fun x xs H Q => ∃ (a : Addr) (y : V) (d : PyData) (ds : List PyData), x = V.ref a ∧ xs = [y] ∧ Dp K H (V.ref a) (.list ds) ∧ Dp K H y d ∧
  SeqAt.shaped (.list ds) = true ∧ SeqAt.shaped d = true ∧ Q (.int ((ds.countP fun z => PyData.eqv z d : Nat) : Int)) H
theorem mt_countD (hu : X.A.units + 65 < cLine) : MtR X "list.count" (rCountD X.K) := by
  intro pins s σ H x xs v us Q I rx rxs h
  obtain ⟨a, y, d, ds, rfl, rfl, hl, hy, sl, sd, q⟩ := h
  cases rx
  cases rxs with
  | cons ry rt =>
    rename_i uy ut
    cases rt
    obtain ⟨bs, r1⟩ := Dp.reads I d y uy hy ry
    have hxs : PyData.canLayAll0 ds = true := SeqAt.canLay_of_shaped sl
    have hroom : X.A.units + 1 + min (PyData.depthAll ds) d.depth < cLine := room_in_shaped sd hu
    cases hl with
    | lst hs ha =>
      obtain ⟨its, rv, ⟨⟨cls, dd, data, sls⟩, n, ho, hc, hdn, hdt⟩, hlen⟩ := I.list hs
      simp only at hc hdt
      subst hc hdt
      obtain ⟨as, h4⟩ := Dp.readsAll I ds _ its ha rv
      have hmap : its.map (SeqAt.readOf s.heap) = ds := SeqAt.readsAll_map ds its as hxs h4
      refine call_meets PySem.F.slot_list_count ⟨_, ho, rfl⟩ PySem.F.entry_list_count (PySem.F.args_list_count_2 _ _)
        (SeqAt.list_countAt a its.toArray n dd sls uy (fun u => PyData.eqv (SeqAt.readOf s.heap u) d)) ⟨ho, SeqAt.items_eqAt (vs := its.toArray) (show ReadsAll s.heap its.toArray.toList ds as from h4) r1 hxs (SeqAt.canLay_of_shaped sd) hroom, ?_⟩
      refine ⟨.int ((ds.countP fun z => PyData.eqv z d : Nat) : Int), H, I.tok _, ⟨s.toks, ?_⟩, q⟩
      have ec : its.toArray.toList.countP (fun u => PyData.eqv (SeqAt.readOf s.heap u) d) = ds.countP fun z => PyData.eqv z d := by
        rw [← hmap, List.countP_map]
        rfl
      show Value.int ((its.toArray.toList.countP (fun u => PyData.eqv (SeqAt.readOf s.heap u) d) : Nat) : Int) s.toks = _
      rw [ec]
end
/-! ### a call with keywords, what is raised at the caller's slots -/
section
variable {X : Cx} {CX : CXT} {k n : Nat} {f : Addr} {fd : FuncData} {ps ks : List Str} {sp : Sp} {E : St → XK} {x : Str} {p pos : Pos} {e : Expr} {es : List Expr} {kws : List Keyword} {t tk : TA} {g : List Value → List Value → List Value} {gV : List V → List V → List V}
def tCallNS (n m : Nat) (sp : Sp) (gV : List V → List V → List V) (E : St → XK) (t tk : TA) : TE := fun σ H Q => t σ H fun vs H1 => tk σ H1 fun zs H2 => vs.length = n ∧ zs.length = m ∧ sp (gV vs zs) H2 Q (E σ)
theorem run_fnNS {pins : List (Addr × Obj)} {σ : St} {H : Hp} {s : Shared} {Q : VK} {us ws : List Value} {vs zs : List V} (F : FnOk X.prog X.w X.K X.mg X.base CX k f fd ps sp) (hr : Room k X.A) (hb : KBn X.K fd ps n ks g gV) (hx : PassesAt CX X σ (E σ))
    (I : Inv X pins σ H s) (r : Vals vs us) (rz : Vals zs ws) (l1 : vs.length = n) (l2 : zs.length = ks.length) (h : sp (gV vs zs) H Q (E σ)) : wpAny (model X.prog X.w) X.A (call (.ref f) us (ks.zip ws)) (EP X pins σ Q) X.xe s := by
  have r2 := hb.rel r rz
  refine wpAny_call (codeAny_mono (F.run X.A X.stack s H ⟨us, ks.zip ws⟩ (g us ws) (gV vs zs) Q (E σ) hr I.env0 (hb.to s us ws I.kIn (r.length.symm.trans l1) (rz.length.symm.trans l2)) r2 h) fun r s' hq => ?_)
  cases r with
  | error e => exact hx pins H s e s' I hq
  | ok fl =>
    cases fl with
    | ret u => exact I.after hq
    | next => exact False.elim hq
    | brk => exact False.elim hq
    | cont => exact False.elim hq
theorem pe_callNS (F : FnOk X.prog X.w X.K X.mg X.base CX k f fd ps sp) (hr : Room k X.A) (hg : Gl X x) (hm : X.mg x = some (.ref f)) (hk : PySem.W.keepIn X.K (.ref f) = true) (hb : KBn X.K fd ps n ks g gV) (hx : ∀ σ, PassesAt CX X σ (E σ))
    (ha : PA X (e :: es) t) (hkw : PK X kws tk) (hall : (backToKw pos (keywordEach kws X.env)).all (·.1.isSome) = true) (hks : (backToKw pos (keywordEach kws X.env)).filterMap (·.1) = ks)
    (hdb : (x == ("__debug__" : Str)) = false) (he : starEach (e :: es) X.env = (false, eval e X.env) :: starEach es X.env)
    (hpl : ((backTo pos (starEach (e :: es) X.env)).any (·.1) || (backToKw pos (keywordEach kws X.env)).any (·.1.isNone)) = false) :
    PE X (.Call (.Name x p) (e :: es) kws pos) (tCallNS n ks.length sp gV E t tk) := by
  refine ⟨fun pins s σ H Q I h => ?_⟩
  refine wpAny_Call_Name_kw (ld_glob I hg hm ?_ hdb)
  refine PySem.W.callWith_KW (h₀ := X.base) I.ok.mod.kin hk hall (thn (ha.run pos pins s σ H _ I h) fun us s1 ⟨vs, H1, I1, r, q⟩ => ?_) hpl he
  refine thn (hkw.run pos pins s1 σ H1 _ I1 q) fun ws s2 ⟨zs, H2, I2, rz, l1, l2, q2⟩ => ⟨I2.kIn, ?_⟩
  rw [hks]
  exact run_fnNS F hr hb (hx σ) I2 r rz l1 l2 q2
end
end L2
namespace Ev
open PySem PySem.Spec PyProof.Rows L2
section
variable {X : Cx} {W : WX}
theorem je_count {i : Nat} {x : Str} {a : Expr} {o : Opd} {px apos cpos : Pos} (hu : X.A.units + 65 < cLine) (hN : X.N[i]? = some x) (hv : Vis X.env.scope x) (hd : (x == ("__debug__" : Str)) = false) (hcd : (x == ("__classdict__" : Str)) = false) (hs : isStar a = false) (ha : JO X W a o) (hline : (apos.endLine == cpos.line) = true) :
    JE X W (.Call (.Attribute (.Name x px) "count" apos) [a] [] cpos) (dCount i o) := by
  have hfew : ((backTo cpos (starEach [a] X.env)).all (fun x => !x.1) && (backToKw cpos (keywordEach [] X.env)).all (fun x => x.1.isSome) && decide ([a].length + ([] : List Keyword).length + (if ([] : List Keyword).isEmpty then 0 else 1) < 30)) = true := by
    rw [star_cons hs]; rfl
  refine pe_mono (pe_bm PySem.F.plainAttrs_list PySem.F.slot_list_count PySem.F.type_list_count (mt_countD hu) (pe_var hN hv hd hcd) (pa_cons ha pa_nil (star_cons hs)) rfl hfew hline (star_cons hs) rfl) fun σ H Q ⟨B, F, α, rho, h, r, p⟩ => ?_
  unfold dCount at p
  cases e : look rho h i with
  | none => rw [e] at p; exact p.elim
  | some a0 =>
    rw [e] at p
    cases a0 with
    | list ds0 =>
      obtain ⟨v, ev, tv⟩ := r.look e
      obtain ⟨q, vs, rfl, rd, _⟩ := tv.list r.sub
      refine ⟨.ref q, ev, .inl ⟨rfl, vs, .inl rd⟩, ?_⟩
      unfold tCons tNil
      refine tO_mono (Ev.o1 r p) fun y H1 ⟨F1, α1, h1, b, s1, r1, ty, p1⟩ => ?_
      cases e1 : look rho h1 i with
      | none => rw [e1] at p1; exact p1.elim
      | some a1 =>
        rw [e1] at p1
        cases a1 with
        | list ds =>
          obtain ⟨v', ev', tv'⟩ := r1.look e1
          rw [ev] at ev'
          cases ev'
          dsimp only at p1
          unfold kCount at p1
          split at p1
          · rename_i hl
            exact ⟨q, y, b, ds, rfl, rfl, tv'.dpH r1.sub hl.1, ty.dpH r1.sub hl.2, hl.1, hl.2, post_ok r1 p1 _ (.int _)⟩
          · exact p1.elim
        | _ => exact p1.elim
    | _ => exact p.elim
/-! ### range(a, b, -1) -/
theorem itF_rangeC {K : PySem.W.Frag} {F : Hp} {lo c : Int} {n : Nat} : ItF K F (Itc lo c n) ((List.range n).map fun (k : Nat) => (PyData.int (lo + (k : Nat) * c) : D)) := by
  refine ⟨fun i H s hi => by show i < n; simpa using hi, fun H s => by show n ≤ _; simp, fun i F1 H x H' s s1 hi y => ?_⟩
  obtain ⟨rfl, rfl⟩ := y
  have h2 : i < n := by simpa using hi
  exact ⟨F1, .int (lo + (i : Nat) * c), ext0 s1, by simp [h2], .int _⟩
theorem ji_range3 {a b c tg : Expr} {fs : List Den} {p pos : Pos} (hg : Gl X "range") (hm : X.mg "range" = none) (hs : ([a, b, c].all fun e => !isStar e) = true) (h : PA X [a, b, c] (tA X W fs)) : JI X W tg (.Call (.Name "range" p) [a, b, c] [] pos) (lRng3 fs) := by
  have h1 : isStar a = false := by
    simp only [List.all_cons, Bool.and_eq_true, Bool.not_eq_true'] at hs
    exact hs.1
  have h2 : ([b, c].all fun e => !isStar e) = true := by
    simp only [List.all_cons, Bool.and_eq_true] at hs ⊢
    exact hs.2
  refine pi_mono (pi_range3 hg hm h (star_cons h1) (star_none h2 pos)) fun σ H R ⟨B, F, α, rho, h, r, q⟩ => ?_
  refine ⟨B, F, α, rho, h, r, post_imp (post_bind q) fun ds F1 α1 H1 s1 ⟨h1, r1, p1⟩ vs hvs => ?_⟩
  unfold kRng3 at p1
  split at p1
  · rename_i r' e
    split at e
    · split at e
      · rename_i i j c' hl
        cases e
        obtain ⟨ec, ⟨a1, a2⟩, ⟨b1, b2⟩, l⟩ := hl
        cases hvs with
        | cons r1' hvs =>
          cases hvs with
          | cons r2' hvs =>
            cases hvs with
            | cons r3' hvs =>
              cases hvs
              cases r1'
              cases r2'
              cases r3'
              subst ec
              refine ⟨_, _, -1, _, rfl, .neg a1 a2 b1 b2, post_ok r1 p1 _ ?_ itF_rangeC⟩
              rw [List.length_map, List.length_range]
              exact Nat.le_trans l lim_le
      · cases e
    · cases e
  · exact p1.elim
/-! ### calls with a default, with a keyword -/
theorem aAll_app (as bs : List ADen) (rho : Ro) : ∀ h : Hh, aAll (as ++ bs) rho h = (aAll as rho h).bind fun xs h1 => (aAll bs rho h1).bind fun ys h2 => .ok (xs ++ ys) h2 := by
  induction as with
  | nil =>
    intro h
    show aAll bs rho h = (aAll bs rho h).bind fun ys h2 => .ok ys h2
    cases aAll bs rho h <;> rfl
  | cons a as ih =>
    intro h
    show (aRun a rho h).bind (fun d h1 => (aAll (as ++ bs) rho h1).bind fun ds h2 => .ok (d :: ds) h2) = ((aRun a rho h).bind fun d h1 => (aAll as rho h1).bind fun ds h2 => .ok (d :: ds) h2).bind _
    cases aRun a rho h with
    | ok d h1 =>
      show (aAll (as ++ bs) rho h1).bind _ = ((aAll as rho h1).bind _).bind _
      rw [ih]
      cases aAll as rho h1 with
      | ok ds h2 =>
        show ((aAll bs rho h2).bind _).bind _ = (aAll bs rho h2).bind _
        cases aAll bs rho h2 <;> rfl
      | _ => rfl
    | _ => rfl
theorem paired_app {α β : Type} {R : α → β → Prop} : ∀ {a : List α} {b : List β} {c : List α} {d : List β}, Paired R a b → Paired R c d → Paired R (a ++ c) (b ++ d)
  | _, _, _, _, .nil, h => h
  | _, _, _, _, .cons h t, h' => .cons h (paired_app t h')
/-- f(..), the last parameter's default filled in -/
theorem je_callD {k np : Nat} {f : Addr} {fd : FuncData} {ps : List Str} {m : FnDen} {x : Str} {as : List ADen} {p pos : Pos} {e : Expr} {es : List Expr} {v : V} {u : Value} {dd : D} (G : FnOk X.prog X.w X.K X.mg X.base (L2.CX X.prog X.w) k f fd ps (spOf X.K X.mg np m)) (har : ∀ args h, m args h ≠ .bad → args.length = np)
    (hr : Room k X.A) (tk : Takes X W) (hg : Gl X x) (hm : X.mg x = some (.ref f)) (hk : PySem.W.keepIn X.K (.ref f) = true) (hb : Binds X.K fd ps [u]) (hd : RelV v u) (hrp : ∀ F, Rp X.K F v dd) (hdb : (x == ("__debug__" : Str)) = false)
    (hs : ((e :: es).all fun e => !isStar e) = true) (ha : PA X (e :: es) (tAs X W as)) : JE X W (.Call (.Name x p) (e :: es) [] pos) (dCall m (as ++ [.exp (dC dd)])) := by
  have h1 : isStar e = false := by
    simp only [List.all_cons, Bool.and_eq_true, Bool.not_eq_true'] at hs
    exact hs.1
  have h2 : (es.all fun e => !isStar e) = true := by
    simp only [List.all_cons, Bool.and_eq_true] at hs
    exact hs.2
  refine pe_mono (pe_callSD G hr hg hm hk hb (.cons hd .nil) (fun σ => passAt tk σ) ha hdb (star_cons h1) (star_none h2 pos)) fun σ H Q ⟨B, F, α, rho, h, r, q⟩ => ?_
  unfold tCallSD
  have q : Post X W B σ F rho ((aAll (as ++ [.exp (dC dd)]) rho h).bind fun xs h1 => m xs h1) (GD X Q) := q
  rw [aAll_app] at q
  refine ⟨B, F, α, rho, h, r, post_imp (post_bind (post_assoc q)) fun args F1 α1 H1 s1 ⟨h1, r1, p1⟩ vs hvs => ?_⟩
  have p1 : Post X W B σ F1 rho (m (args ++ [.dat dd]) h1) (GD X Q) := p1
  have hvs' : Paired (ArgOk X.K F1 α1) (vs ++ [v]) (args ++ [.dat dd]) := paired_app hvs (.cons (hrp F1) .nil)
  have len : (vs ++ [v]).length = np := by
    rw [Paired.length hvs']
    refine har _ h1 fun z => ?_
    rw [z] at p1
    exact p1
  refine ⟨len, F1, α1, _, h1, r1.sub, r1.nd, r1.heapOk, hvs', ?_⟩
  cases w : m (args ++ [.dat dd]) h1 with
  | ok d h2 =>
    rw [w] at p1
    exact fun v F' H' x ho hv => p1 F' α1 H' x.f (r1.called x ho) v hv
  | exc c h2 =>
    rw [w] at p1
    exact fun cv F' H' x ho hc => p1 cv F' α1 H' x.f (r1.called x ho) hc
  | bad =>
    rw [w] at p1
    exact p1
theorem rp_args {K : PySem.W.Frag} {F : Hp} {α : List Addr} : ∀ {vs : List V} {ds : List D}, RpAll K F vs ds → Paired (ArgOk K F α) vs (ds.map Arg.dat)
  | _, _, .nil => .nil
  | _, _, .cons h t => .cons h (rp_args t)
/-- f(.., k = e) -/
theorem je_callK {k np n : Nat} {f : Addr} {fd : FuncData} {ps : List Str} {m : FnDen} {x kw : Str} {fs : List Den} {p pos kpos : Pos} {e ek : Expr} {es : List Expr} {fk : Den} (G : FnOk X.prog X.w X.K X.mg X.base (L2.CX X.prog X.w) k f fd ps (spOf X.K X.mg np m)) (har : ∀ args h, m args h ≠ .bad → args.length = np) (hnp : np = n + 1)
    (hr : Room k X.A) (tk : Takes X W) (hg : Gl X x) (hm : X.mg x = some (.ref f)) (hk : PySem.W.keepIn X.K (.ref f) = true) (hb : KBn X.K fd ps n [kw] (fun us ws => us ++ ws) (fun vs zs => vs ++ zs)) (hdb : (x == ("__debug__" : Str)) = false)
    (hs : ((e :: es).all fun e => !isStar e) = true) (ha : PA X (e :: es) (tA X W fs)) (hek : JE X W ek fk) : JE X W (.Call (.Name x p) (e :: es) [⟨some kw, ek, kpos⟩] pos) (dCallK m fs fk) := by
  have h1 : isStar e = false := by
    simp only [List.all_cons, Bool.and_eq_true, Bool.not_eq_true'] at hs
    exact hs.1
  refine pe_mono (pe_callNS G hr hg hm hk hb (fun σ => passAt tk σ) ha (pk_cons hek pk_nil) rfl rfl hdb (star_cons h1) (by rw [star_none hs pos]; rfl)) fun σ H Q ⟨B, F, α, rho, h, r, q⟩ => ?_
  unfold tCallNS
  refine ⟨B, F, α, rho, h, r, post_imp (post_bind q) fun ds F1 α1 H1 s1 ⟨h1, r1, p1⟩ vs hvs => ?_⟩
  refine ⟨B, F1, α1, rho, h1, r1, post_imp (post_bind p1) fun d F2 α2 H2 s2 ⟨h2, r2, p2⟩ v hv => ?_⟩
  have hvs' : Paired (ArgOk X.K F2 α2) (vs ++ [v]) (ds.map Arg.dat ++ [.dat d]) := paired_app (rp_args (rpAll_mono s2 hvs)) (.cons hv .nil)
  have len : (vs ++ [v]).length = np := by
    rw [Paired.length hvs']
    refine har _ h2 fun z => ?_
    rw [z] at p2
    exact p2
  have l1 : vs.length = n := by
    rw [List.length_append, List.length_singleton] at len
    omega
  refine ⟨l1, rfl, len, F2, α2, _, h2, r2.sub, r2.nd, r2.heapOk, hvs', ?_⟩
  cases w : m (ds.map Arg.dat ++ [.dat d]) h2 with
  | ok d h3 =>
    rw [w] at p2
    exact fun v F' H' x ho hv => p2 F' α2 H' x.f (r2.called x ho) v hv
  | exc c h3 =>
    rw [w] at p2
    exact fun cv F' H' x ho hc => p2 cv F' α2 H' x.f (r2.called x ho) hc
  | bad =>
    rw [w] at p2
    exact p2
/-! ### list(dict) -/
def rListN : List V → Hp → VK → Prop := fun xs H Q => ∃ (a : Addr) (o : Obj) (ys : List DEnt), xs = [.ref a] ∧ H a = some (pinO a o) ∧ DOk a o ys ∧ ∀ p, H p = none → Q (.ref p) (upd H p (.lst (ys.map fun y => V.ref y.2.1)))
theorem call_listN (hc : X.calm = true) : CallR X (.type "list") rListN := by
  intro pins s σ H xs us Q I r h
  obtain ⟨a, o, ys, e, hk, dk, q⟩ := h
  subst e
  obtain ⟨u, eu, rx⟩ := vals1 r
  subst eu
  obtain rfl : u = Value.ref a := rx
  obtain ⟨es, ep, hod, he⟩ := dk.es
  have hg := I.pinD hk
  have hsz : es.size = ys.length := by
    have := congrArg List.length (he X.w)
    rw [List.length_map] at this
    simpa using this
  refine PySem.W.kdl_call (kdl_raw dk.ns dk.ex hod) (I.ok.hd hc) hg (by rw [hsz]; exact dk.le) fun h' tk acc' c' hkeep hS hacc => ?_
  refine ⟨.ref s.heap.objs.size, upd H s.heap.objs.size (.lst (ys.map fun y => V.ref y.2.1)), I.laid hkeep (Nat.le_refl _) (show ObjOk X.prog X.w _ _ _ (.lst (ys.map fun y => V.ref y.2.1)) from ⟨?_, acc'.toList, c', ?_, ?_⟩), rfl, q _ (I.hok.fresh (Nat.le_refl _))⟩
  · rw [List.length_map]; exact dk.le
  · have el : acc'.toList.length = acc'.size := by simp
    refine vals_of_at (by rw [List.length_map, el, hacc.1, hsz]) fun j x w h1 h2 => ?_
    obtain ⟨en, hen, hw⟩ := hacc.2 j w (by rw [← Array.getElem?_toList]; exact h2)
    rw [List.getElem?_map] at h1
    cases hy : ys[j]? with
    | none => rw [hy] at h1; cases h1
    | some y =>
      rw [hy] at h1
      cases h1
      have e2 : es.toList[j]? = some (entN X.w y) := by rw [he X.w, List.getElem?_map, hy]; rfl
      rw [Array.getElem?_toList, hen] at e2
      cases e2
      exact hw
  · rw [Array.toArray_toList]; exact hS
theorem RpKv.keysL {K : PySem.W.Frag} {F : Hp} : ∀ {xs : List DEnt} {kvs : List (D × D)}, RpKv K F xs kvs → RpAll K F (xs.map fun y => V.ref y.2.1) (kvs.map (·.1))
  | _, _, .nil => .nil
  | _, _, .cons _ h _ _ t => .cons h (RpKv.keysL t)
theorem jl_list {o : Opd} {a : Expr} {p pos : Pos} (hc : X.calm = true) (hg : Gl X "list") (hm : X.mg "list" = none) (hv : bootBuiltins "list" = some (.type "list")) (hs : isStar a = false) (h : JO X W a o) : JL X W (.Call (.Name "list" p) [a] [] pos) (lList o) := by
  refine pe_mono (pe_callTy (CallR.or call_list_of (call_listN hc)) hg hm hv (pa_cons h pa_nil (star_cons hs)) (by decide) (by decide) (star_cons hs) rfl) fun σ H Q ⟨B, F, α, rho, h, r0, q⟩ => ?_
  unfold tCB tCons tNil
  refine tO_mono (Ev.o1 r0 q) fun x H1 ⟨F1, α1, h1, a, s1, r1, tx, p1⟩ => ?_
  cases a with
  | list ds =>
    obtain ⟨p, vs, rfl, h2, r2⟩ := tx.list r1.sub
    exact .inl ⟨p, vs, rfl, .inl (.inl h2), new_lst r1 p1 r2⟩
  | tuple ds =>
    obtain ⟨p, vs, rfl, h2, r2⟩ := tx.tuple r1.sub
    exact .inl ⟨p, vs, rfl, .inr h2, new_lst r1 p1 r2⟩
  | dict kvs =>
    obtain ⟨p, o, xs, rfl, h2, k, r2⟩ := tx.dict r1.sub
    exact .inr ⟨p, o, xs, rfl, h2, k, new_lst r1 p1 ⟨r2.keysL, by rw [List.length_map, ← r2.length]; exact k.le⟩⟩
  | _ => exact p1.elim
end
end Ev
/-! # a[k], b = e1, e2 -/
namespace Ev
open PySem PySem.Spec PyProof.Rows L2
def rSetN (K : PySem.W.Frag) : TSet := fun o i v H Q => ∃ (F : Hp) (q : Addr) (ob : Obj) (xs : List DEnt) (kvs : List (D × D)) (kd d : D) (is : List Int), Same F H ∧ o = .ref q ∧ H q = some (pinO q ob) ∧ DOk q ob xs ∧ RpKv K F xs kvs ∧ keyOf kd = some is ∧ Rp K F i kd ∧ Rp K F v d ∧ kvs.length < lim ∧
  ∀ ob' xs', DOk q ob' xs' → RpKv K F xs' (stoK kvs kd is d) → Q (upd H q (pinO q ob'))
section
variable {X : Cx} {W : WX}
theorem set_own (hu : X.A.units + 65 < cLine) : PSet X (rSetN X.K) := by
  intro pins s σ H o i v ov iv u Q I ro ri rv h
  obtain ⟨F, q, ob, xs, kvs, kd, d, is, sub, rfl, hq, k, rk, ek, hy, hvd, hl, hQ⟩ := h
  obtain ⟨b, rfl, rb⟩ := top_key (H := H) (.dp hy) ek
  obtain rfl : iv = Value.ref b := ri
  obtain rfl : ov = Value.ref q := ro
  have dd := dict_is I sub hq k rk
  obtain ⟨xs', g1, g2, g3, g4⟩ := stored_of ek rb rv hvd rk k.nd
  have hsz : (xs.map asH).length ≤ sizeLine := by rw [List.length_map]; exact k.le
  refine wpAny_setItem_heap (knd := nestedKind X.prog X.w) (show X.A.units + 1 + 8 < cLine by omega) (key_is I sub rb ek) dd (fun h' hm' hs' => ?_) hsz
  rw [g1] at hm'
  obtain ⟨o', es', ep', ho', hx', hod', he', _, _⟩ := hm'
  have k' : DOk q o' xs' := ⟨k.ns, hx', ⟨es', ep', hod', fun w => by
    rw [he', List.map_map]
    refine List.map_congr_left fun x _ => ?_
    exact entN_world X.w w x⟩, g3, Nat.le_trans g4 (by rw [rk.length]; exact Nat.le_trans hl lim_le)⟩
  have I4 : Inv X pins σ (upd H q (pinO q o')) { s with heap := h', toks := s.toks + (nestedKind X.prog X.w).draws (nkey is) } := d_write I (by rw [hq]; exact trivial) hs' ⟨o', ho'⟩ (pin_ok ho')
  exact ⟨_, I4, hQ o' xs' k' g2⟩
def gX (X : Cx) (W : WX) : List PTg → TGs
  | [] => gNil
  | .nm i :: ts => gCons (gName i) (gX X W ts)
  | .sub i f :: ts => gCons (gSub (tVar i) (tE X W f) (rSetN X.K)) (gX X W ts)
theorem gX_run {B : Fx} {Q : L2.St → Hp → Prop} : ∀ {ts : List PTg} {vs : List V} {ds : List D} {F H : Hp} {α : List Addr} {rho : Ro} {h : Hh} {σ : L2.St} {s' : S}, Rel X.K B F α rho h σ H → RpAll X.K F vs ds → stoX ts ds ⟨rho, h⟩ = some s' → (∀ σ' F' α' H', Same F F' → Rel X.K B F' α' s'.rho s'.h σ' H' → Q σ' H') → gX X W ts vs σ H Q
  | [], _, _, F, H, α, rho, h, σ, s', r, .nil, e, q => by
    cases e
    exact ⟨rfl, q σ F α H same_refl r⟩
  | [], _, _, _, _, _, _, _, _, _, _, .cons _ _, e, _ => by cases e
  | .nm i :: ts, _, _, _, _, _, _, _, _, _, _, .nil, e, _ => by cases e
  | .sub i f :: ts, _, _, _, _, _, _, _, _, _, _, .nil, e, _ => by cases e
  | .nm i :: ts, _, _, F, H, α, rho, h, σ, s', r, .cons (v := v) hv hvs, e, q => ⟨v, _, rfl, gX_run (r.setVal hv) hvs e q⟩
  | .sub i f :: ts, _, _, F, H, α, rho, h, σ, s', r, .cons (v := v) (d := d) hv hvs, e, q => by
    refine ⟨v, _, rfl, ?_⟩
    unfold stoX at e
    dsimp only at e
    cases w : rho[i]? with
    | none => rw [w] at e; cases e
    | some sl =>
      rw [w] at e
      cases sl with
      | ownd kvs =>
        dsimp only at e
        obtain ⟨p, e1, _⟩ := r.slot i _ w
        refine ⟨.ref p, jn e1, B, F, α, rho, h, r, ?_⟩
        cases wf : f rho h with
        | ok k h1 =>
          rw [wf] at e
          dsimp only at e
          intro F1 α1 H1 s1 r1 y hy
          cases ek : keyOf k with
          | none => rw [ek] at e; cases e
          | some is =>
            rw [ek] at e
            dsimp only at e
            split at e
            · rename_i hl
              obtain ⟨p', e1', e0, na, hf, ob, xs, ho, kk, rk⟩ := r1.slot i _ w
              rw [e1] at e1'
              cases e1'
              refine ⟨F1, p, ob, xs, kvs, k, d, is, r1.sub, rfl, ho, kk, rk, ek, hy, rp_mono s1 hv, hl, fun ob' xs' k' rk' => ?_⟩
              exact gX_run (r1.mutOwnD w (jn e1) k' rk') (rpAll_mono s1 hvs) e fun σ' F' α' H' s2 r2 => q σ' F' α' H' (s1.trans s2) r2
            · cases e
        | exc c h1 => rw [wf] at e; cases e
        | bad => rw [wf] at e; cases e
      | _ => cases e
theorem js_parX {es ts : List Expr} {tgs : List PTg} {fs : List Den} {k k2 : Nat} {pos tpos vpos : Pos} (hc : X.calm = true) (hl : fs.length ≤ 1000) (hts : ts.length = fs.length) (hst : (ts.all fun e => !isStar e) = true) (hg : PGs X ts (gX X W tgs)) (ha : PA X es (tA X W fs))
    (hs : swapsWithSole [.Tuple ts k tpos] (.Tuple es k2 vpos) pos.line X.env = pure false) (hw : swappedStores [.Tuple ts k tpos] (.Tuple es k2 vpos) X.env = pure none) :
    JS X W (.Assign [.Tuple ts k tpos] (.Tuple es k2 vpos) pos) (sParX tgs fs) := by
  refine ps_mono (ps_asg (pe_tup ha) (pg_tup (n := ts.length) hc hg each_len (each_none hst)) hs hw rfl) fun E σ H ⟨B, F, α, rho, h, r, p⟩ => ⟨B, F, α, rho, h, r, ?_⟩
  refine post_imp (post_len (postS_of p)) fun ds F1 α1 H1 s1 ⟨len, h1, r1, p1⟩ vs hvs => ?_
  cases w : stoX tgs ds ⟨rho, h1⟩ with
  | none => rw [w] at p1; exact p1.elim
  | some s' =>
    rw [w] at p1
    have lv : vs.length = fs.length := by rw [hvs.length, len]
    refine ⟨by rw [lv]; exact Nat.le_trans hl (by rw [sizeLine_eq]; decide), fun q hq => ⟨q, vs, rfl, .inl (.inl upd_same), by rw [lv, hts], ?_⟩⟩
    exact gX_run (r1.add (o := .tup vs) hq) hvs w fun σ' F' α' H' s2 r2 => p1 σ' F' α' H' s2 r2
end
end Ev
/-! # Xb: shared lists walked and popped -/
namespace Ev
open PySem PySem.Spec PyProof.Rows L2
section
variable {X : Cx} {W : WX} {B : Fx} {F F1 H : Hp} {rho : Ro} {h : Hh} {σ : L2.St} {α : List Addr}
theorem based_at {b t : List Addr} {n : Nat} {q : Addr} {α2 : List Addr} {rho2 : Ro} {h2 : Hh} {F2 H2 : Hp} {σ2 : L2.St} (eb1 : α = B.al0 ++ b) (eb2 : b = B.ab ++ t) (ea : α[n]? = some q) (r2 : Rel X.K (B.base b) F2 α2 rho2 h2 σ2 H2) : Rel X.K B F2 α2 rho2 h2 σ2 H2 ∧ α2[n]? = some q := by
  obtain ⟨r2', u, eu⟩ := r2.unbase eb2
  refine ⟨r2', ?_⟩
  rw [eu, ← eb1, List.getElem?_append_left (List.getElem?_eq_some_iff.mp ea).1]
  exact ea
theorem js_forRef {i : Nat} {x : Str} {t : Tgt} {tg : Expr} {body : List Stmt} {b : DenS} {pos px : Pos} (hp : PassesOwn (model X.prog X.w) X.A X.env X.xe) (hc : X.calm = true) (hN : X.N[i]? = some x) (hv : Vis X.env.scope x) (hd : (x == ("__debug__" : Str)) = false) (hcd : (x == ("__classdict__" : Str)) = false) (hg : JG X tg t) (hb : JSs X W body b) : JS X W (.For tg (.Name x px) body [] pos) (sForRef i t b) := by
  refine ps_mono (ps_for hp hc (pi_seq (pe_var hN hv hd hcd)) hg hb (fold_set (fun _ _ _ z => by cases z))) fun E σ H ⟨B, F, α, rho, h, r, p⟩ => ?_
  unfold sForRef at p
  dsimp only at p
  cases w : rho[i]? with
  | none => rw [w] at p; exact p.elim
  | some sl =>
    rw [w] at p
    have z := r.slot i sl w
    cases sl with
    | ref n =>
      obtain ⟨q, e1, ea⟩ := z
      dsimp only at p
      cases w2 : h[n]? with
      | none => rw [w2] at p; exact p.elim
      | some ob =>
        rw [w2] at p
        cases ob with
        | lst ds0 =>
          obtain ⟨_, vs0, hq0, _⟩ := r.heap n q _ ea w2
          obtain ⟨b0, t0, eb1, eb2, rb⟩ := r.based
          refine ⟨.ref q, jn e1, .inl ⟨q, vs0, rfl, .inl (.inl hq0), fun hl => ?_⟩⟩
          refine ⟨fun j m σ' H' => ∃ F2 α2 rho2 h2, Same F F2 ∧ Rel X.K (B.base b0) F2 α2 rho2 h2 σ' H' ∧ PostS X W B E F2 (loopRef n (stepOf t b) m j ⟨rho2, h2⟩), ⟨ds0.length, F, α, rho, h, same_refl, rb, p⟩, ?_⟩
          rintro j m σ' H' ⟨F2, α2, rho2, h2, s2, r2, p2⟩
          obtain ⟨r2', ea2⟩ := based_at eb1 eb2 ea r2
          cases m with
          | zero =>
            unfold loopRef at p2
            dsimp only at p2
            cases w3 : h2[n]? with
            | none => rw [w3] at p2; exact p2.elim
            | some ob1 =>
              rw [w3] at p2
              cases ob1 with
              | lst ds =>
                dsimp only at p2
                split at p2
                · rename_i hl3
                  obtain ⟨_, vs, hq, h3⟩ := r2.heap n q _ ea2 w3
                  exact .inl ⟨⟨vs, .inl (.inl hq), by rw [h3.length, hl3]; exact Nat.le_refl _⟩, p2 σ' F2 α2 H' same_refl r2'⟩
                · exact p2.elim
              | _ => exact p2.elim
          | succ m =>
            unfold loopRef at p2
            dsimp only at p2
            cases w3 : h2[n]? with
            | none => rw [w3] at p2; exact p2.elim
            | some ob1 =>
              rw [w3] at p2
              cases ob1 with
              | lst ds =>
                dsimp only at p2
                cases w4 : ds[j]? with
                | none => rw [w4] at p2; exact p2.elim
                | some d =>
                  rw [w4] at p2
                  dsimp only at p2
                  obtain ⟨_, vs, hq, h3⟩ := r2.heap n q _ ea2 w3
                  obtain ⟨v, ev, rv⟩ := h3.all.get w4
                  refine .inr ⟨⟨vs, v, .inl (.inl hq), ev⟩, fun σ3 H3 => ∃ F3 α3 rho3 h3, Same F F3 ∧ Rel X.K (B.base b0) F3 α3 rho3 h3 σ3 H3 ∧ PostS X W B E F3 (loopRef n (stepOf t b) m (j + 1) ⟨rho3, h3⟩), fun σ3 H3 z => ⟨m, Nat.lt_succ_self m, z⟩, fun y H3 hy => ?_⟩
                  obtain ⟨rfl, hy⟩ := hy
                  have ey := hy vs (.inl (.inl hq))
                  rw [ev] at ey
                  cases ey
                  cases w5 : t.put d rho2 with
                  | none =>
                    have z : stepOf t b d ⟨rho2, h2⟩ = .bad := by unfold stepOf; rw [w5]
                    rw [z] at p2
                    exact p2.elim
                  | some rho3 =>
                    have z : stepOf t b d ⟨rho2, h2⟩ = b ⟨rho3, h2⟩ := by unfold stepOf; rw [w5]
                    rw [z] at p2
                    refine ⟨B.base b0, F2, α2, rho2, h2, d, rho3, r2, rv, w5, fun σ4 _ r4 => ⟨B.base b0, F2, α2, rho3, h2, r4, ?_⟩⟩
                    cases wb : b ⟨rho3, h2⟩ with
                    | next s' => rw [wb] at p2; exact fun σ5 F5 α5 H5 s5 r5 => ⟨F5, α5, s'.rho, s'.h, s2.trans s5, r5, postS_mono s5 p2⟩
                    | cont s' => rw [wb] at p2; exact fun σ5 F5 α5 H5 s5 r5 => ⟨F5, α5, s'.rho, s'.h, s2.trans s5, r5, postS_mono s5 p2⟩
                    | ret d' h' => rw [wb] at p2; exact fun v' rho' σ5 F5 α5 H5 s5 r5 rp => p2 v' rho' σ5 F5 α5 H5 s5 (r5.unbase eb2).1 rp
                    | retR d' h' => rw [wb] at p2; exact fun v' rho' σ5 F5 α5 H5 s5 r5 rp => p2 v' rho' σ5 F5 α5 H5 s5 (r5.unbase eb2).1 rp
                    | exc c s' => rw [wb] at p2; exact fun cv σ5 F5 α5 H5 s5 r5 ec => p2 cv σ5 F5 α5 H5 s5 (r5.unbase eb2).1 ec
                    | bad => rw [wb] at p2; exact p2
              | _ => exact p2.elim
        | _ => exact p.elim
    | _ => exact p.elim
theorem t_compRef {vs : List Nat} {i : Nat} {t : Tgt} {tt : DenT} {el : Den} (hv : ∀ i ∈ t.slots, i ∈ vs) (σ : L2.St) (H : Hp) (Q : VK) (z : tL X W (lCompRef vs i t tt el) σ H Q) : tLc (tIx X (tVar i)) (gT X.K t) (tT X W0 tt) (tE X W0 el) vs σ H Q := by
  obtain ⟨B, F, α, rho, h, r, p⟩ := z
  unfold lCompRef at p
  split at p
  · rename_i hp
    cases w : rho[i]? with
    | none => rw [w] at p; exact p.elim
    | some sl =>
      rw [w] at p
      have z := r.slot i sl w
      cases sl with
      | ref n =>
        obtain ⟨q, e1, ea⟩ := z
        dsimp only at p
        cases w2 : h[n]? with
        | none => rw [w2] at p; exact p.elim
        | some ob =>
          rw [w2] at p
          cases ob with
          | lst ds0 =>
            dsimp only at p
            split at p
            · rename_i hlim
              obtain ⟨_, vs0, hq0, hv0⟩ := r.heap n q _ ea w2
              obtain ⟨b0, t0, eb1, eb2, rb⟩ := r.based
              refine ⟨.ref q, jn e1, .inl ⟨q, vs0, rfl, .inl (.inl hq0), fun hl => ?_⟩⟩
              intro A hA
              have fr := r.freshU (o := .lst []) hA
              have r1' : Rel X.K (B.base b0) F α rho h σ (upd H A (.lst [])) := rb.add hA
              have len0 : ds0.length < sizeLine := Nat.lt_of_lt_of_le hlim lim_le
              refine ⟨fun j m H' => j + m = ds0.length ∧ ∃ F2 α2 h2 acc ws, Same F F2 ∧ Rel X.K ((B.base b0).keep A (.lst ws)) F2 α2 rho h2 σ H' ∧ RpAll X.K F2 ws acc ∧ ws.length ≤ j ∧ Post X W B σ F2 rho (loopCR vs t tt el rho n m j acc h2) (GL X B rho σ Q),
                ⟨ds0.length, by omega, F, α, h, [], [], same_refl, r1'.keep fr.base upd_same, .nil, Nat.le_refl _, p⟩, ?_⟩
              rintro j m H' ⟨hm, F2, α2, h2, acc, ws, s2, r2, rw2, lw, p2⟩
              obtain ⟨r2u, fu2, eu2⟩ := r2.unkeep fr.base.k
              obtain ⟨r2', ea2⟩ := based_at eb1 eb2 ea r2u
              cases m with
              | zero =>
                unfold loopCR at p2
                cases w3 : h2[n]? with
                | none => rw [w3] at p2; exact p2.elim
                | some ob1 =>
                  rw [w3] at p2
                  cases ob1 with
                  | lst ds =>
                    dsimp only at p2
                    split at p2
                    · rename_i hl3
                      obtain ⟨_, vs1, hq, h3⟩ := r2u.heap n q _ ea2 w3
                      exact .inl ⟨⟨vs1, .inl (.inl hq), by rw [h3.length, hl3]; exact Nat.le_refl _⟩, p2 F2 α2 H' same_refl r2' A ws fu2.unbase eu2 ⟨rw2, by rw [← rw2.length]; omega⟩⟩
                    · exact p2.elim
                  | _ => exact p2.elim
              | succ m =>
                unfold loopCR at p2
                cases w3 : h2[n]? with
                | none => rw [w3] at p2; exact p2.elim
                | some ob1 =>
                  rw [w3] at p2
                  cases ob1 with
                  | lst ds =>
                    dsimp only at p2
                    cases w4 : ds[j]? with
                    | none => rw [w4] at p2; exact p2.elim
                    | some d =>
                      rw [w4] at p2
                      dsimp only at p2
                      obtain ⟨_, vs1, hq, h3⟩ := r2u.heap n q _ ea2 w3
                      obtain ⟨v, ev, rv⟩ := h3.all.get w4
                      refine .inr ⟨⟨vs1, v, .inl (.inl hq), ev⟩, fun H3 => ∃ F3 α3 h3 acc ws, Same F F3 ∧ Rel X.K ((B.base b0).keep A (.lst ws)) F3 α3 rho h3 σ H3 ∧ RpAll X.K F3 ws acc ∧ ws.length ≤ j + 1 ∧ Post X W B σ F3 rho (loopCR vs t tt el rho n m (j + 1) acc h3) (GL X B rho σ Q), fun H3 z => ⟨m, Nat.lt_succ_self m, by omega, z⟩, fun y H3 hy => ?_⟩
                      obtain ⟨rfl, hy⟩ := hy
                      have ey := hy vs1 (.inl (.inl hq))
                      rw [ev] at ey
                      cases ey
                      cases w5 : t.put d (wipeR rho vs) with
                      | none => rw [w5] at p2; exact p2.elim
                      | some rho' =>
                        rw [w5] at p2
                        have of1 : Off vs rho rho' := (wipeR_off rho vs).trans ((put_off w5).sub hv)
                        refine ⟨_, F2, α2, wipeR rho vs, h2, d, rho', r2.wipe vs, rv, w5, fun σ4 o4 r4 => ?_⟩
                        have of2 : Off vs σ σ4 := (wipe_off σ vs).trans (o4.sub hv)
                        refine ⟨wipe_eq of2, _, F2, α2, rho', h2, r4, ?_⟩
                        dsimp only at p2
                        cases wt : tt rho' h2 with
                        | bad => rw [wt] at p2; exact p2.elim
                        | exc c h5 => rw [wt] at p2; exact p2.elim
                        | ok b h5 =>
                          rw [wt] at p2
                          intro F5 α5 H5 s5 r5
                          cases b with
                          | false =>
                            rw [if_neg Bool.false_ne_true]
                            have rbk := r2.back hp s5 of1 of2 r5
                            exact ⟨F5, α5, h5, acc, ws, s2.trans s5, rbk, rpAll_mono s5 rw2, by omega, post_mono s5 p2⟩
                          | true =>
                            rw [if_pos rfl]
                            refine ⟨_, F5, α5, rho', h5, r5, ?_⟩
                            dsimp only at p2
                            cases we : el rho' h5 with
                            | bad => rw [we] at p2; exact p2.elim
                            | exc c h6 => rw [we] at p2; exact p2.elim
                            | ok y' h6 =>
                              rw [we] at p2
                              intro F6 α6 H6 s6 r6 v' hvv
                              have sm : Same F2 F6 := s5.trans s6
                              have rbk := r2.back hp sm of1 of2 r6
                              obtain ⟨ru, fu, eu⟩ := rbk.unkeep fr.base.k
                              refine ⟨ws, eu, by omega, F6, α6, h6, acc ++ [y'], ws ++ [v'], s2.trans sm, (ru.over fu).keep fu.over upd_same, (rpAll_mono sm rw2).append (.one hvv), by rw [List.length_append]; simpa using lw, post_mono sm p2⟩
                  | _ => exact p2.elim
            · exact p.elim
          | _ => exact p.elim
      | _ => exact p.elim
  · exact p.elim
theorem RpAll.dropLast {K : PySem.W.Frag} {F : Hp} : ∀ {vs : List V} {ds : List D}, RpAll K F vs ds → RpAll K F vs.dropLast ds.dropLast
  | _, _, .nil => .nil
  | _, _, .cons h .nil => .nil
  | _, _, .cons h (.cons h2 r) => by
    rw [List.dropLast_cons₂, List.dropLast_cons₂]
    exact .cons h (RpAll.dropLast (.cons h2 r))
theorem je_pop {i : Nat} {x : Str} {px apos cpos : Pos} (hN : X.N[i]? = some x) (hv : Vis X.env.scope x) (hd : (x == ("__debug__" : Str)) = false) (hcd : (x == ("__classdict__" : Str)) = false) (hline : (apos.endLine == cpos.line) = true) : JE X W (.Call (.Attribute (.Name x px) "pop" apos) [] [] cpos) (dPop i) := by
  refine pe_mono (pe_bm0 PySem.F.plainAttrs_list PySem.F.slot_list_pop PySem.F.type_list_pop mt_pop (pe_var hN hv hd hcd) rfl hline) fun σ H Q ⟨B, F, α, rho, h, r, p⟩ => ?_
  unfold dPop at p
  cases w : rho[i]? with
  | none => rw [w] at p; exact p.elim
  | some sl =>
    rw [w] at p
    have z := r.slot i sl w
    cases sl with
    | ref n =>
      obtain ⟨q, e1, ea⟩ := z
      dsimp only at p
      cases w2 : h[n]? with
      | none => rw [w2] at p; exact p.elim
      | some ob =>
        rw [w2] at p
        cases ob with
        | lst ds =>
          dsimp only at p
          obtain ⟨_, vs, hq, h3⟩ := r.heap n q _ ea w2
          cases w3 : ds[ds.length - 1]? with
          | none => rw [w3] at p; exact p.elim
          | some d =>
            rw [w3] at p
            obtain ⟨v, ev, rv⟩ := h3.all.get w3
            rw [← h3.length] at ev
            refine ⟨.ref q, jn e1, .inl ⟨rfl, vs, .inl (.inl hq)⟩, q, vs, v, rfl, rfl, hq, ev, ?_⟩
            exact p F α _ same_refl (r.mutRef ea w2 ⟨h3.all.dropLast, by rw [List.length_dropLast]; have := h3.le; omega⟩) v rv
        | _ => exact p.elim
    | _ => exact p.elim
theorem js_popAtR {i : Nat} {x : Str} {a : Expr} {f : Den} {px apos cpos pos : Pos} (hN : X.N[i]? = some x) (hv : Vis X.env.scope x) (hd : (x == ("__debug__" : Str)) = false) (hcd : (x == ("__classdict__" : Str)) = false) (hs : isStar a = false) (ha : JE X W a f) (hline : (apos.endLine == cpos.line) = true) :
    JS X W (.Expr (.Call (.Attribute (.Name x px) "pop" apos) [a] [] cpos) pos) (sPopAtR i f) := by
  have hfew : ((backTo cpos (starEach [a] X.env)).all (fun x => !x.1) && (backToKw cpos (keywordEach [] X.env)).all (fun x => x.1.isSome) && decide ([a].length + ([] : List Keyword).length + (if ([] : List Keyword).isEmpty then 0 else 1) < 30)) = true := by
    rw [star_cons hs]; rfl
  refine ps_mono (ps_expr (pe_bm PySem.F.plainAttrs_list PySem.F.slot_list_pop PySem.F.type_list_pop mt_popAt (pe_var hN hv hd hcd) (pa_cons ha pa_nil (star_cons hs)) rfl hfew hline (star_cons hs) rfl) rfl) fun E σ H ⟨B, F, α, rho, h, r, p⟩ => ?_
  unfold sPopAtR at p
  dsimp only at p
  cases w : rho[i]? with
  | none => rw [w] at p; exact p.elim
  | some sl =>
    rw [w] at p
    have z := r.slot i sl w
    cases sl with
    | ref n =>
      obtain ⟨q, e1, ea⟩ := z
      dsimp only at p
      cases w2 : h[n]? with
      | none => rw [w2] at p; exact p.elim
      | some ob =>
        rw [w2] at p
        cases ob with
        | lst ds0 =>
          obtain ⟨_, vs0, hq0, _⟩ := r.heap n q _ ea w2
          refine ⟨.ref q, jn e1, .inl ⟨rfl, vs0, .inl (.inl hq0)⟩, B, F, α, rho, h, r, ?_⟩
          refine post_imp (postS_of p) fun d F1 α1 H1 s1 ⟨h1', r1, p1⟩ v hv => ?_
          obtain ⟨q', e1', ea'⟩ := r1.slot i _ w
          rw [e1] at e1'
          cases e1'
          cases d with
          | int k =>
            cases hv
            dsimp only at p1
            split at p1
            · rename_i hk
              cases w3 : h1'[n]? with
              | none => rw [w3] at p1; exact p1.elim
              | some ob1 =>
                rw [w3] at p1
                cases ob1 with
                | lst ds =>
                  dsimp only at p1
                  cases e : seqIndex? k ds.length with
                  | none => rw [e] at p1; exact p1.elim
                  | some j =>
                    rw [e] at p1
                    obtain ⟨_, vs', hq, h3'⟩ := r1.heap n q _ ea' w3
                    have hj := seqIndex_lt e
                    rw [← h3'.length] at e hj
                    exact ⟨q, vs', k, j, vs'[j], rfl, rfl, hq, by omega, by omega, e, List.getElem?_eq_getElem hj, p1 σ F1 α1 _ same_refl (r1.mutRef ea' w3 (h3'.erase j))⟩
                | _ => exact p1.elim
            · exact p1.elim
          | _ => exact p1.elim
        | _ => exact p.elim
    | _ => exact p.elim
end
end Ev
/-! # Xc: shared dicts -/
namespace Ev
open PySem PySem.Spec PyProof.Rows L2
section
variable {X : Cx} {W : WX} {B : Fx} {F F1 H : Hp} {rho : Ro} {h : Hh} {σ : L2.St} {α : List Addr} {e : Expr} {es : List Expr}
theorem post_base {β : Type} {b t : List Addr} {x : R β} {G : β → Hp → List Addr → Hp → Prop} (eb : b = B.ab ++ t) (q : Post X W B σ F rho x G) : Post X W (B.base b) σ F rho x fun d F' α' H' => G d F' α' H' ∧ ∃ u, α' = B.al0 ++ b ++ u := by
  cases x with
  | ok d h' => exact fun F' α' H' s r => ⟨q F' α' H' s (r.unbase eb).1, (r.unbase eb).2⟩
  | exc c h' => exact fun cv F' α' H' s r ec => q cv F' α' H' s (r.unbase eb).1 ec
  | bad => exact q
theorem js_newd {l : DenD} {as : List ADen} (hs : isStar e = false) (h : JD X W e l) (hr : PA X es (tAs X W as)) : PA X (e :: es) (tAs X W (.newd l :: as)) := by
  refine pa_mono (pa_cons h hr (star_cons hs)) fun σ H Q ⟨B, F, α, rho, h, r, q⟩ => ⟨B, F, α, rho, h, r, ?_⟩
  have q : Post X W B σ F rho (((l rho h).bind fun kvs h' => R.ok (Arg.ref h'.length) (h' ++ [.dic kvs])).bind fun d h1 => (aAll as rho h1).bind fun ds h2 => .ok (d :: ds) h2) _ := q
  refine post_imp (post_bind (post_assoc q)) fun kvs F1 α1 H1 s1 ⟨h1, r1, p1⟩ p o xs fr hp k rp => ?_
  have rs := r1.shareN (ob := .dic kvs) fr ⟨fr.f, o, xs, hp, k, rp⟩ (by rw [hp]; rfl)
  obtain ⟨b, t, eb1, eb2, rb⟩ := rs.based
  have ea : (α1 ++ [p])[h1.length]? = some p := by
    rw [← r1.hl, List.getElem?_append_right (Nat.le_refl _)]
    simp
  refine ⟨B.base b, F1, α1 ++ [p], rho, _, rb, ?_⟩
  refine post_imp (post_base eb2 (post_bind p1)) fun ds F2 α2 H2 s2 ⟨⟨h2, r2, p2⟩, u, eu⟩ vs hvs => ?_
  refine post_ok r2 p2 (.ref p :: vs) (.cons ⟨p, rfl, ?_⟩ hvs)
  rw [eu, ← eb1, List.getElem?_append_left (List.getElem?_eq_some_iff.mp ea).1]
  exact ea
theorem Rel.setShareD {i : Nat} {kvs : List (D × D)} {o : Obj} {xs : List DEnt} {p : Addr} (r : Rel X.K B F α rho h σ H) (f : Fresh B F α rho σ H p) (hp : H p = some (pinO p o)) (k : DOk p o xs) (hv : RpKv X.K F xs kvs) : Rel X.K B F (α ++ [p]) (rho.set i (.ref h.length)) (h ++ [.dic kvs]) (σ.set i (some (.ref p))) H := by
  have r1 := r.shareN (ob := .dic kvs) f ⟨f.f, o, xs, hp, k, hv⟩ (by rw [hp]; rfl)
  refine r1.set ⟨p, rfl, ?_⟩ (fun _ o => o.elim) (fun _ o => o.elim) fun _ o => o.elim
  rw [← r.hl, List.getElem?_append_right (Nat.le_refl _)]
  simp
theorem js_shareD {i : Nat} {x : Str} {pos pos' : Pos} {l : DenD} (hN : X.N.Nodup) (hi : X.N[i]? = some x) (hx : Loc X.env.scope x) (he : JD X W e l) (hs : swapsWith e (some (.Name x pos')) pos.line X.env = pure false) (hf : X.fn x = true ∨ X.env.scope.names.lookup x = some .local) :
    JS X W (.Assign [.Name x pos'] e pos) (sShareD i l) := by
  refine ps_mono (ps_set hN hi hx he hs hf) fun E σ H ⟨B, F, α, rho, h, r, p⟩ => ⟨B, F, α, rho, h, r, ?_⟩
  exact post_imp (postS_of p) fun ds F1 α1 H1 s1 ⟨h1, r1, p1⟩ q ob xs fr hq hk hv => p1 _ F1 _ H1 same_refl (r1.setShareD fr hq hk hv)
end
end Ev
/-! # Xd: dict(pairs) -/
namespace Ev
open PySem PySem.Spec PyProof.Rows L2
section
variable {X : Cx} {W : WX} {K : PySem.W.Frag} {F H : Hp} {pins : List (Addr × Obj)} {σ : L2.St} {s : Shared}
/-- the pairs that dict() meets, as the model has them; stored one behind the other -/
theorem prs_of (I : Inv X pins σ H s) (sub : Same F H) : ∀ {vs : List V} {ds : List D} {its : List Value} {acc kvs : List (D × D)}, RpAll X.K F vs ds → goPairs ds acc = some kvs → Vals vs its →
    ∃ (Ts : List Addr) (es : List DEnt), its = Ts.map Value.ref ∧ Ts.length = es.length ∧ (∀ (j : Nat) (T : Addr) (x : DEnt), Ts[j]? = some T → es[j]? = some x → PairAt s.heap T (.ref x.2.1) x.2.2) ∧
      (∀ x ∈ es, (nestedKind X.prog X.w).is s.heap (nkey x.1) x.2.1) ∧ ∀ xs, RpKv X.K F xs acc → (xs.map (·.1)).Nodup → ∃ xs' : List DEnt, storedAllH (xs.map asH) (es.map asH) = xs'.map asH ∧ RpKv X.K F xs' kvs ∧ (xs'.map (·.1)).Nodup ∧ xs'.length ≤ xs.length + es.length
  | _, _, _, acc, kvs, .nil, e, .nil => by
    cases e
    exact ⟨[], [], rfl, rfl, fun j T x h => by simp at h, fun x h => by simp at h, fun xs r nd => ⟨xs, rfl, r, nd, Nat.le_refl _⟩⟩
  | _, _, _, acc, kvs, .cons h r, e, .cons rv rr => by
    unfold goPairs at e
    split at e
    · rename_i he; cases he
    · rename_i k d0 r0 _ he
      cases he
      split at e
      · rename_i is ek
        cases h with
        | @tup p _ _ h1 h2 h3 h4 =>
          cases h2 with
          | cons hk h2 =>
            cases h2 with
            | cons hd h2 =>
              cases h2
              obtain ⟨b, rfl, rb⟩ := top_key (H := H) (.dp hk) ek
              obtain rfl : _ = Value.ref _ := rv
              obtain ⟨its0, r0, ht, _⟩ := I.tuple (Same.seqT sub h1)
              cases r0 with
              | cons q1 r0 =>
                cases r0 with
                | cons q2 r0 =>
                  cases r0
                  rename_i u0 u
                  obtain rfl : u0 = Value.ref b := q1
                  obtain ⟨Ts, es, e1, e2, e3, e4, e5⟩ := prs_of I sub r e rr
                  refine ⟨p :: Ts, (is, b, u) :: es, by rw [e1]; rfl, by simp [e2], fun j T x z1 z2 => ?_, fun x hx => ?_, fun xs rx nd => ?_⟩
                  · cases j with
                    | zero =>
                      simp at z1 z2
                      subst z1 z2
                      exact .inl ht
                    | succ j => exact e3 j T x (by simpa using z1) (by simpa using z2)
                  · rcases List.mem_cons.mp hx with rfl | hx
                    · exact key_is I sub rb ek
                    · exact e4 x hx
                  · obtain ⟨xs1, g1, g2, g3, g4⟩ := stored_of ek rb q2 hd rx nd
                    obtain ⟨xs', k1, k2, k3, k4⟩ := e5 xs1 g2 g3
                    refine ⟨xs', ?_, k2, k3, by simp; omega⟩
                    rw [← k1, ← g1]
                    rfl
      · cases e
    · cases e
def rDictP (K : PySem.W.Frag) : List V → Hp → VK → Prop := fun xs H Q => ∃ (F : Hp) (a : Addr) (vs : List V) (ds : List D) (kvs : List (D × D)), xs = [.ref a] ∧ Same F H ∧ PlT F a vs ∧ RpAll K F vs ds ∧ goPairs ds [] = some kvs ∧
  ∀ p o ys, H p = none → DOk p o ys → RpKv K F ys kvs → Q (.ref p) (upd H p (pinO p o))
theorem cr_dictP (hc : X.calm = true) (hu : X.A.units + 66 < cLine) : CallR X (.type "dict") (rDictP X.K) := by
  intro pins s σ H xs us Q I r h
  obtain ⟨F, a, vs, ds, kvs, rfl, sub, ⟨o, ho, hdn⟩, ra, hg, q⟩ := h
  obtain ⟨u, rfl, rx⟩ := vals1 r
  cases rx
  obtain ⟨hget, hz, its, rv, ht⟩ := I.hok a _ (sub _ _ ho)
  obtain ⟨Ts, es, e1, e2, e3, e4, e5⟩ := prs_of I sub ra hg rv
  subst e1
  have hps : ∀ j k v, (es.map fun x => ((Value.ref x.2.1, x.2.2) : Value × Value))[j]? = some (k, v) → ∃ x : DEnt, es[j]? = some x ∧ k = Value.ref x.2.1 ∧ v = x.2.2 := fun j k v z => by
    rw [List.getElem?_map] at z
    cases w : es[j]? with
    | none => rw [w] at z; cases z
    | some x => rw [w] at z; cases z; exact ⟨x, w, rfl, rfl⟩
  have P := PairArg.tuple (prog := X.prog) (w := X.w) a (Ts.map Value.ref).toArray (fun j => Ts.getD j 0) (es.map fun x => ((Value.ref x.2.1, x.2.2) : Value × Value))
  have hlen := rv.length
  obtain ⟨o', ho', hc', n', hd'⟩ := ht
  rw [hget] at ho'
  cases ho'
  refine call_dict_pairsH (knd := nestedKind X.prog X.w) (ps := es.map asH) P (I.ok.hd hc) (show X.A.units + 1 + 1 + 8 < cLine by omega) ⟨⟨o, n', hget, hc', hdn, hd'⟩, by simp [e2], fun j k v z => ?_⟩ ⟨by simp, fun i key v z => ?_⟩ (fun h' hk x hx => ?_) (by simp; rw [← e2]; simp at hlen; omega) fun h' tk hm hk => ?_
  · obtain ⟨x, z1, rfl, rfl⟩ := hps j k v z
    have hj : j < Ts.length := by rw [e2]; exact (List.getElem?_eq_some_iff.mp z1).1
    have hT := List.getElem?_eq_getElem hj
    refine ⟨by simp [hT, hj], ?_⟩
    have := e3 j _ x hT z1
    simpa [hT, hj] using this
  · obtain ⟨x, z1, rfl, rfl⟩ := hps i key v z
    exact ⟨nkey x.1, x.2.1, by rw [List.getElem?_map, z1]; rfl, rfl⟩
  · obtain ⟨y, hy, rfl⟩ := List.mem_map.mp hx
    have := e4 y hy
    exact ⟨NestedIs.at (fun b ob vs n hb hc => hk b ob (Nat.ne_of_lt (Heap.lt_size hb)) (by simp) hb) _ _ this.1, this.2⟩
  · obtain ⟨ys, k1, k2, k3, k4⟩ := e5 [] .nil List.nodup_nil
    rw [show ([] : List DEnt).map asH = [] from rfl] at k1
    rw [k1] at hm
    obtain ⟨o2, es', ep', ho2, hx2, hod2, he2, _, _⟩ := hm
    have nsy : (s.heap.objs.size == sysModules) = false := beq_eq_false_iff_ne.mpr (Ne.symm (Nat.ne_of_lt I.big))
    have k' : DOk s.heap.objs.size o2 ys := ⟨nsy, hx2, ⟨es', ep', hod2, fun w => by
      rw [he2, List.map_map]
      exact List.map_congr_left fun x _ => entN_world X.w w x⟩, k3, by simp at k4 hlen; omega⟩
    have hn := I.hok.fresh (Nat.le_refl s.heap.objs.size)
    exact ⟨.ref s.heap.objs.size, _, I.laid (t' := tk) (o := pinO s.heap.objs.size o2) (fun b ob e => hk b ob (by simp) e) (Nat.le_refl _) (pin_ok ho2), rfl, q _ o2 ys hn k' k2⟩
theorem jd_pairs {e : Expr} {o : Opd} {p pos : Pos} (hc : X.calm = true) (hu : X.A.units + 66 < cLine) (hg : Gl X "dict") (hm : X.mg "dict" = none) (hs : isStar e = false) (h : JO X W e o) : JD X W (.Call (.Name "dict" p) [e] [] pos) (kDictP o) := by
  refine pe_mono (pe_callTy (cr_dictP hc hu) hg hm (by decide +kernel) (pa_cons h pa_nil (star_cons hs)) (by decide) (by decide) (star_cons hs) rfl) fun σ H Q ⟨B, F, α, rho, h, r0, q⟩ => ?_
  unfold tCB tCons tNil
  refine tO_mono (Ev.o1 r0 q) fun x H1 ⟨F1, α1, h1, a, s1, r1, tx, p1⟩ => ?_
  unfold lift1 kPairs at p1
  cases a with
  | tuple ds =>
    dsimp only at p1
    split at p1
    · rename_i kvs e
      split at e
      · rename_i hb
        cases tx with
        | dp hh =>
          cases hh with
          | tup k1 k2 k3 k4 =>
            obtain ⟨o, ho, hd⟩ := k4 hb
            refine ⟨F1, _, _, ds, kvs, rfl, r1.sub, ⟨o, ho, hd⟩, k2, e, fun p o ys hp hk hr => ?_⟩
            exact p1 F1 α1 _ same_refl (r1.add hp) p o ys (r1.freshU hp) upd_same hk hr
      · cases e
    · exact p1.elim
  | _ => exact p1.elim
end
end Ev
/-! # Xe: sorted(set(xs)) -/
namespace Ev
open PySem PySem.Spec PyProof.Rows L2
section
variable {P : Program} {w : World} {A : Around} {E : Value → Shared → Prop} {s : Shared}
theorem reads_ints {h : Heap} : ∀ {k : List Int} {vs : List Value}, IntsAre vs k → ReadsAll h vs (k.map PyData.int) []
  | _, _, .nil => .nil
  | _, _, .cons n t r => ReadsAll.cons (as := []) (bs := []) (.int ..) (reads_ints r)
theorem isT_reads {h : Heap} {k : List Int} {b : Addr} (x : L2.IsT P w h k b) : Reads h (.ref b) (tupI k) [] := by
  obtain ⟨o, items, n, ho, hc, hd, hi⟩ := x
  exact .tuple ho hc hd (reads_ints (L2.ints_of_items hi))
abbrev RefTo (v : Value) (b : Addr × List Int) : Prop := v = Value.ref b.1
abbrev encI (b : Addr × List Int) : D := tupI b.2
theorem each_refs : ∀ (L : List (Addr × List Int)), PySem.W.EachIs RefTo (L.map fun q => Value.ref q.1) L
  | [] => .nil
  | _ :: L => .cons rfl (each_refs L)
theorem each_out : ∀ {out : List Value} {L : List (Addr × List Int)}, PySem.W.EachIs RefTo out L → out = L.map fun q => Value.ref q.1
  | _, _, .nil => rfl
  | _, _, .cons h r => by rw [each_out r, h]; rfl
theorem each_reads {h : Heap} {a : Addr} : ∀ {L : List (Addr × List Int)}, (∀ q ∈ L, L2.IsT P w h q.2 q.1) → PySem.W.EachIs (fun v b => ∃ as, Reads h v (encI b) as ∧ a ∉ as) (L.map fun q => Value.ref q.1) L
  | [], _ => .nil
  | q :: L, H => .cons ⟨[], isT_reads (H q List.mem_cons_self), by simp⟩ (each_reads fun q hq => H q (List.mem_cons_of_mem _ hq))
theorem alike_tupI (a b : List Int) : PySem.W.alike (tupI a) (tupI b) = true := by
  unfold tupI
  rw [PySem.W.alike]
  have : ∀ a b : List Int, PySem.W.alikeAll (a.map PyData.int) (b.map PyData.int) = true := fun a => by
    induction a with
    | nil => intro b; simp [PySem.W.alikeAll]
    | cons x a ih =>
      intro b
      cases b with
      | nil => simp [PySem.W.alikeAll]
      | cons y b => simp [PySem.W.alikeAll, PySem.W.alike, ih b]
  exact this a b
theorem depth_tupI (k : List Int) : (tupI k).depth ≤ 2 := by
  unfold tupI
  rw [PyData.depth]
  have : PyData.depthAll (k.map PyData.int) ≤ 1 := by
    induction k with
    | nil => simp [PyData.depthAll]
    | cons x k ih =>
      rw [List.map_cons, PyData.depthAll]
      have : (PyData.int x).depth ≤ 1 := by simp [PyData.depth]
      omega
  omega
/-- values that are the rows' places, in some order -/
theorem refs_perm {h : Heap} {L : List (Addr × List Int)} (nd : (L.map (·.2)).Nodup) (ht : ∀ q ∈ L, L2.IsT P w h q.2 q.1) {vs : List Value} (pm : vs.Perm (L.map fun q => Value.ref q.1)) : ∃ L1 : List (Addr × List Int), vs = L1.map (fun q => Value.ref q.1) ∧ L1.Perm L := by
  have nL : L.Nodup := L2.nodup_of_map nd
  have inj : ∀ q ∈ L, ∀ r ∈ L, q.1 = r.1 → q = r := fun q hq r hr e => by
    have h1 := ht q hq
    rw [e] at h1
    exact Prod.ext e (h1.inj (ht r hr))
  induction vs generalizing L with
  | nil =>
    have : L = [] := by
      have := pm.length_eq
      simp at this
      exact List.length_eq_zero_iff.mp this.symm
    exact ⟨[], rfl, by rw [this]⟩
  | cons v vs ih =>
    obtain ⟨q, hq, rfl⟩ := List.mem_map.mp (pm.mem_iff.mp List.mem_cons_self)
    obtain ⟨pre, post, rfl⟩ := List.append_of_mem hq
    have p1 : (pre ++ q :: post).Perm (q :: (pre ++ post)) := List.perm_middle
    have p2 : vs.Perm ((pre ++ post).map fun q => Value.ref q.1) := (List.perm_cons _).mp (pm.trans (p1.map _))
    have nd2 : ((pre ++ post).map (·.2)).Nodup := by
      have := (p1.map (·.2)).nodup_iff.mp nd
      rw [List.map_cons, List.nodup_cons] at this
      exact this.2
    have sub : ∀ r ∈ pre ++ post, r ∈ pre ++ q :: post := fun r hr => p1.mem_iff.mpr (List.mem_cons_of_mem _ hr)
    obtain ⟨L1, e1, pL⟩ := ih nd2 (fun r hr => ht r (sub r hr)) p2 (L2.nodup_of_map nd2) fun q' hq' r hr => inj q' (sub q' hq') r (sub r hr)
    exact ⟨q :: L1, by rw [e1]; rfl, (pL.cons q).trans p1.symm⟩
theorem sorted_setD {a : Addr} {L : List (Addr × List Int)} {es : Array (Int × Value)} {ep : Nat} {t : SetTable} {Q : Value → Shared → Prop} (R : L2.SetTR P w s.heap a L es ep t) (hh : A.handled = none) (hne : ∀ p ∈ L, p.2 ≠ []) (hu : A.units + 8 < cLine)
    (hQ : ∀ s' p (out : List Value) (c : Nat) (L1 : List (Addr × List Int)), (∀ b o, s.heap.get? b = some o → s'.heap.get? b = some o) → s'.gens = s.gens → s'.os = s.os → s.heap.objs.size ≤ p → s'.heap.get? p = some (seqObj "list" out.toArray c) →
      L1.Perm L → out = (L1.mergeSort (PySem.W.dataLe false encI)).map (fun q => Value.ref q.1) → Q (.ref p) s') :
    wpAny (model P w) A (call (.builtin "sorted") [.ref a]) Q E s := by
  obtain ⟨o, ho, hex, hd⟩ := R.ob
  have hrows : es.toList.map (·.2) = L.map fun q => Value.ref q.1 := by rw [R.rows]; unfold L2.rowsOf; rw [List.map_map]; rfl
  have few := R.few
  have sz := R.size
  refine Calls.call_function_entry kind_sorted plain_sorted entry_sorted (args_sorted1 _) (show wpAny _ _ (Builtin.«sorted» _) _ _ _ from ?_)
  unfold Builtin.«sorted»
  refine wpAny_bind (m := checkCount "sorted" 1 1 _) (wpAny_pure (wpAny_bind (L2.collect_set (A := A.in1) hh ⟨o, ho, hex.1, hd⟩ R.fits (by unfold scanBound; omega) R.tab.ris R.led fun s1 vs k1 hz g1 o1 pm => ?_)))
  rw [hrows] at pm
  obtain ⟨L1, rfl, pL⟩ := refs_perm R.nd R.tup pm
  have l1 : L1.length < 64 := by rw [pL.length_eq]; exact few
  refine wpAny_bind (wpAny_newList ?_ (by rw [List.length_map, sizeLine_eq]; omega))
  have hoL : (s1.heap.push (seqObj "list" (L1.map fun q => Value.ref q.1).toArray 0)).get? s1.heap.objs.size = some (seqObj "list" (L1.map fun q => Value.ref q.1).toArray 0) := Heap.get?_push_size _ rfl
  have ht : ∀ q ∈ L1, L2.IsT P w (s1.heap.push (seqObj "list" (L1.map fun q => Value.ref q.1).toArray 0)) q.2 q.1 := fun q hq => L2.isT_keep (R.tup q (pL.mem_iff.mp hq)) fun b u e => Heap.get?_push_of_some _ (k1 b u e)
  refine wpAny_bind (wpAny_holding (PySem.W.list_sort_data (R := RefTo) (enc := encI) (bs := L1) (s := { s1 with heap := s1.heap.push (seqObj "list" (L1.map fun q => Value.ref q.1).toArray 0) }) hoL (each_refs L1) (each_reads ht) ?_ (.inl ?_) (by rw [sizeLine_eq]; omega) ?_ fun out ol eo => ?_))
  · intro d hd d' hd'
    obtain ⟨q, _, rfl⟩ := List.mem_map.mp hd
    obtain ⟨r, _, rfl⟩ := List.mem_map.mp hd'
    exact alike_tupI _ _
  · intro d hd
    obtain ⟨q, hq, rfl⟩ := List.mem_map.mp hd
    have := hne q (pL.mem_iff.mp hq)
    match hk : q.2 with
    | [] => exact absurd hk this
    | x :: r => exact ⟨.int x, r.map PyData.int, by unfold encI tupI; rw [hk]; rfl⟩
  · intro b _
    have := depth_tupI b.2
    show A.units + 1 + 1 + (tupI b.2).depth < cLine
    omega
  · obtain ⟨c, hc⟩ := sortedHeap_at (vs := L1.map fun q => Value.ref q.1) (out := out.toArray) hoL
    refine wpAny_pure ⟨_, rfl, hQ _ s1.heap.objs.size out c L1 (fun b u e => ?_) g1 o1 hz hc pL (each_out eo)⟩
    have q := k1 b u e
    have hlt := Heap.lt_size q
    rw [sortedHeap_old (Nat.ne_of_lt hlt) (by rw [size_push']; exact Nat.lt_succ_of_lt hlt)]
    exact Heap.get?_push_of_some _ q
end
section
variable {X : Cx} {W : WX} {K : PySem.W.Frag}
def rSortSet (K : PySem.W.Frag) (P : Program) (w : World) : List V → Hp → VK → Prop := fun vs H Q => ∃ (a : Addr) (L : List (Addr × List Int)), vs = [V.ref a] ∧ H a = some (L2.SetTO P w a L) ∧ (∀ p ∈ L, SqT K H p.1 (p.2.map V.int) ∧ p.2 ≠ []) ∧
  ∀ (L1 : List (Addr × List Int)) (p : Addr), L1.Perm L → (L.map (·.2)).Nodup → H p = none → Q (.ref p) (upd H p (.lst ((L1.mergeSort (PySem.W.dataLe false encI)).map fun q => V.ref q.1)))
theorem cr_sortSet (hc : X.calm = true) (hu : X.A.units + 66 < cLine) : CallR X (.builtin "sorted") (rSortSet X.K X.prog X.w) := by
  intro pins s σ H vs us Q I r h
  obtain ⟨a, L, rfl, ha, hk, q⟩ := h
  obtain ⟨es, ep, t, R⟩ := (show L2.SetT0 X.prog X.w s.heap a L from (I.hok a _ ha).1).full fun p hp => I.isT (hk p hp).1
  rw [Vals.ref1 r]
  refine sorted_setD R (I.ok.hd hc) (fun p hp => (hk p hp).2) (by omega) fun s' p out c L1 kp g o hp hg pm eo => ?_
  subst eo
  have ln : (L1.mergeSort (PySem.W.dataLe false encI)).length < 64 := by rw [List.length_mergeSort, pm.length_eq]; exact R.few
  have hn : H p = none := I.hok.fresh hp
  have ob : ObjOk X.prog X.w (upd H p (.lst ((L1.mergeSort (PySem.W.dataLe false encI)).map fun q => V.ref q.1))) s'.heap p (.lst ((L1.mergeSort (PySem.W.dataLe false encI)).map fun q => V.ref q.1)) := ⟨by rw [List.length_map, sizeLine_eq]; omega, _, c, vals_of_refs _, hg⟩
  obtain ⟨hp', gg, dd, tk, os⟩ := s'
  obtain ⟨hp0, gg0, dd0, tk0, os0⟩ := s
  have eg : gg = gg0 := g
  have eo : os = os0 := o
  subst eg eo
  exact ⟨.ref p, _, I.call (ch := []) (Un.laid kp hp hn) (I.hok.laid kp hp ob) I.bare (fun _ z => nomatch z), rfl, q L1 p pm R.nd hn⟩
theorem intsOf_map : ∀ {ds : List D} {is : List Int}, intsOf ds = some is → ds = is.map PyData.int
  | [], is, e => by cases e; rfl
  | d :: ds, is, e => by
    unfold intsOf at e
    split at e
    · rename_i he; cases he
    · rename_i i r he
      cases he
      cases w : intsOf ds with
      | none => rw [w] at e; cases e
      | some js =>
        rw [w] at e
        cases e
        rw [intsOf_map w]
        rfl
    · cases e
/-- the tuples of a list -/
theorem rows_of {F : Hp} : ∀ {vs : List V} {ds : List D} {ks : List (List Int)}, RpAll K F vs ds → keysT ds = some ks → ∃ L : List (Addr × List Int), vs = L.map (fun p => V.ref p.1) ∧ ks = L.map (·.2) ∧ ∀ p ∈ L, Rp K F (.ref p.1) (tupI p.2) ∧ SqT K F p.1 (p.2.map V.int)
  | _, _, ks, .nil, e => by cases e; exact ⟨[], rfl, rfl, fun p hp => by simp at hp⟩
  | _, _, ks, .cons (d := d) (ds := ds) h r, e => by
    unfold keysT at e
    cases w1 : keyT d with
    | none => rw [w1] at e; cases e
    | some k =>
      cases w2 : keysT ds with
      | none => rw [w1, w2] at e; cases e
      | some ks' =>
        rw [w1, w2] at e
        cases e
        obtain ⟨L, e1, e2, e3⟩ := rows_of r w2
        cases d with
        | tuple xs =>
          have ex := intsOf_map (ds := xs) w1
          cases h with
          | @tup b _ _ h1 h2 h3 h4 =>
            have hv := intsOf_ok (K := K) (F := F) w1 h2
            refine ⟨(b, k) :: L, by rw [e1]; rfl, by rw [e2]; rfl, fun p hp => ?_⟩
            rcases List.mem_cons.mp hp with rfl | hp
            · refine ⟨?_, by rw [← hv]; exact h1⟩
              show Rp K F (.ref b) (.tuple (k.map PyData.int))
              rw [← ex]
              exact .tup h1 h2 h3 h4
            · exact e3 p hp
        | _ => cases w1
theorem mem_ddI : ∀ (l' : List (List Int)) {ks : List (List Int)} {x : List Int}, ks = l'.reverse → ((ddI ks).Nodup ∧ (x ∈ ddI ks ↔ x ∈ ks))
  | [], ks, x, e => by subst e; exact ⟨List.nodup_nil, Iff.rfl⟩
  | k :: l', ks, x, e => by
    rw [List.reverse_cons] at e
    have ih := fun x => mem_ddI l' (x := x) rfl
    have es : ddI ks = addI (ddI l'.reverse) k := by rw [e]; unfold ddI; rw [List.foldl_append]; rfl
    rw [es]
    unfold addI
    by_cases hk : k ∈ ddI l'.reverse
    · rw [if_pos hk]
      refine ⟨(ih x).1, ?_⟩
      rw [(ih x).2, e, List.mem_append]
      constructor
      · exact .inl
      · rintro (z | z)
        · exact z
        · rw [List.mem_singleton.mp z]
          exact (ih k).2.mp hk
    · rw [if_neg hk]
      refine ⟨?_, ?_⟩
      · rw [List.nodup_append]
        refine ⟨(ih x).1, by simp, fun a ha b hb => ?_⟩
        rw [List.mem_singleton.mp hb]
        rintro rfl
        exact hk ha
      · rw [List.mem_append, (ih x).2, e, List.mem_append]
theorem tupI_lt (a b : List Int) : PySem.W.dataLt (tupI a) (tupI b) = decide (a < b) := by
  have := PySem.W.dataLt_ints a b
  unfold tupI
  rw [PySem.W.dataLt_tuple]
  exact this
theorem encI_le (p q : Addr × List Int) : PySem.W.dataLe false encI p q = !decide (q.2 < p.2) := by
  rw [← tupI_lt]
  rfl
/-- the rows of a set, sorted, are the plain ones -/
theorem sort_rows {L1 : List (Addr × List Int)} {ks : List (List Int)} (nd : (L1.map (·.2)).Nodup) (hm : ∀ k, k ∈ L1.map (·.2) ↔ k ∈ ks) : srtD ((ddI ks).map tupI) = (L1.mergeSort (PySem.W.dataLe false encI)).map encI := by
  have dd := fun x => mem_ddI ks.reverse (ks := ks) (x := x) (by simp)
  have pm := List.mergeSort_perm L1 (PySem.W.dataLe false encI)
  have p1 : (ddI ks).Perm (L1.map (·.2)) := (List.perm_ext_iff_of_nodup (dd []).1 nd).mpr fun x => by rw [(dd x).2, hm x]
  have p2 : ((ddI ks).map tupI).Perm ((L1.mergeSort (PySem.W.dataLe false encI)).map encI) := by
    have := (p1.trans ((pm.map (·.2)).symm)).map tupI
    rw [List.map_map] at this
    exact this
  refine sort_eq p2 ?_
  rw [List.pairwise_map]
  have T := PySem.W.sortLe_total (PyProof.Rows.listOrd PyProof.Rows.itemOrd) false fun b : Addr × List Int => PySem.W.keyToks (encI b)
  have sp : (L1.mergeSort (PySem.W.dataLe false encI)).Pairwise fun a b => PySem.W.dataLe false encI a b = true := List.pairwise_mergeSort (fun a b c h1 h2 => T.trans a b c h1 h2) (fun a b => by
    rcases T.total a b with q | q
    · exact Bool.or_eq_true _ _ |>.mpr (.inl q)
    · exact Bool.or_eq_true _ _ |>.mpr (.inr q)) L1
  have nd2 : (L1.mergeSort (PySem.W.dataLe false encI)).Pairwise fun a b => a.2 ≠ b.2 := by
    have := (pm.map (·.2)).nodup_iff.mpr nd
    exact List.pairwise_map.mp this
  refine (sp.and nd2).imp fun {a b} ⟨h1, h2⟩ => ?_
  rw [encI_le] at h1
  show PySem.W.dataLt (tupI a.2) (tupI b.2) = true
  rw [tupI_lt, decide_eq_true_eq]
  have h1 : ¬ b.2 < a.2 := by simpa using h1
  rcases Classical.em (a.2 < b.2) with z | z
  · exact z
  · exact absurd (List.le_antisymm (show a.2 ≤ b.2 from h1) (show b.2 ≤ a.2 from z)) h2
theorem jl_sortSet {a : Expr} {o : Opd} {p p2 pos pos2 : Pos} (hc : X.calm = true) (hu : X.A.units + 66 < cLine) (hg : Gl X "sorted") (hm : X.mg "sorted" = none) (hg2 : Gl X "set") (hm2 : X.mg "set" = none) (hs : isStar a = false) (h : JO X W a o) : JL X W (.Call (.Name "sorted" p) [.Call (.Name "set" p2) [a] [] pos2] [] pos) (lSortSet o) := by
  refine pe_mono (pe_callB (cr_sortSet hc hu) hg hm (by decide +kernel) (pa_cons (pe_callTy (cr_setOfT hc (by omega)) hg2 hm2 (by decide +kernel) (pa_cons h pa_nil (star_cons hs)) (by decide) (by decide) (star_cons hs) rfl) pa_nil (star_cons rfl)) (by decide) (by decide) (star_cons rfl) rfl) fun σ H Q ⟨B, F, α, rho, h, r0, q⟩ => ?_
  unfold tCB tCons tNil
  refine tO_mono (Ev.o1 r0 q) fun x H1 ⟨F1, α1, h1, a, s1, r1, tx, p1⟩ => ?_
  unfold lift1 kSortSet at p1
  cases a with
  | list ds =>
    dsimp only at p1
    cases wk : keysT ds with
    | none => rw [wk] at p1; exact p1.elim
    | some ks =>
      rw [wk] at p1
      dsimp only at p1
      split at p1
      · rename_i ds' e
        split at e
        · rename_i hl
          cases e
          obtain ⟨p, vs, rfl, h2, r2⟩ := tx.list r1.sub
          obtain ⟨L, e1, e2, e3⟩ := rows_of r2.all wk
          have len : L.length = ds.length := by
            have := r2.length
            rw [e1, List.length_map] at this
            exact this
          refine ⟨p, L, rfl, by rw [← e1]; exact .inl h2, fun q hq => Same.seqT r1.sub (e3 q hq).2, by omega, fun a LS ha hs1 hs2 => ?_⟩
          have rA := r1.add (o := SetTO X.prog X.w a LS) ha
          refine ⟨a, LS, rfl, upd_same, fun q hq => ⟨Same.seqT rA.sub (e3 q (hs1 q hq)).2, ?_⟩, fun L1 pp pm nd hp => ?_⟩
          · have := List.all_eq_true.mp hl.2 q.2 (by rw [e2]; exact List.mem_map.mpr ⟨q, hs1 q hq, rfl⟩)
            intro z
            rw [z] at this
            cases this
          · have nd1 : (L1.map (·.2)).Nodup := (pm.map (·.2)).nodup_iff.mpr nd
            have hm' : ∀ k, k ∈ L1.map (·.2) ↔ k ∈ ks := fun k => by
              rw [(pm.map (·.2)).mem_iff, e2]
              constructor
              · intro z
                obtain ⟨q, hq, rfl⟩ := List.mem_map.mp z
                exact List.mem_map.mpr ⟨q, hs1 q hq, rfl⟩
              · intro z
                obtain ⟨q, hq, rfl⟩ := List.mem_map.mp z
                exact hs2 q hq
            rw [sort_rows nd1 hm'] at p1
            refine new_lst rA p1 ⟨?_, ?_⟩ pp hp
            · have : ∀ l : List (Addr × List Int), (∀ q ∈ l, q ∈ L) → RpAll X.K F1 (l.map fun q => V.ref q.1) (l.map encI) := fun l => by
                induction l with
                | nil => intro _; exact .nil
                | cons q l ih => intro hq; exact .cons (e3 q (hq q List.mem_cons_self)).1 (ih fun r hr => hq r (List.mem_cons_of_mem _ hr))
              exact this _ fun q hq => hs1 q (pm.mem_iff.mp ((List.mergeSort_perm _ _).mem_iff.mp hq))
            · rw [List.length_map, List.length_mergeSort]
              have h3 : L1.length ≤ L.length := by
                rw [pm.length_eq]
                have n1 : (LS.map (·.2)).Nodup := nd
                have := List.Nodup.length_le_of_subset (l₁ := LS.map (·.2)) (l₂ := L.map (·.2)) n1 fun k hk => by
                  obtain ⟨q, hq, rfl⟩ := List.mem_map.mp hk
                  exact List.mem_map.mpr ⟨q, hs1 q hq, rfl⟩
                simpa using this
              rw [sizeLine_eq]
              omega
        · cases e
      · exact p1.elim
  | _ => exact p1.elim
/-! ### len -/
def rLenN (K : PySem.W.Frag) : List V → Hp → VK → Prop := fun xs H Q => ∃ (F : Hp) (p : Addr) (o : Obj) (ys : List DEnt) (kvs : List (D × D)), xs = [.ref p] ∧ Same F H ∧ H p = some (pinO p o) ∧ DOk p o ys ∧ RpKv K F ys kvs ∧ Q (.int kvs.length) H
theorem cr_lenN : CallR X (.builtin "len") (rLenN X.K) := by
  intro pins s σ H xs us Q I r h
  obtain ⟨F, p, o, ys, kvs, rfl, sub, hp, k, rk, q⟩ := h
  obtain ⟨u, rfl, rx⟩ := vals1 r
  cases rx
  have le := k.le
  rw [sizeLine_eq] at le
  have ln := rk.length
  refine call_len_dictH k.ns (dict_is I sub hp k rk) (by rw [List.length_map]; omega) ?_
  rw [List.length_map, ln]
  exact ⟨.int _, H, I.tok _, ⟨_, rfl⟩, q⟩
theorem p_len : PrimC1 K (fun xs H Q => ((∃ p ys, xs = [.ref p] ∧ (SqL K H p ys ∨ SqT K H p ys) ∧ Q (.int ys.length) H) ∨ ∃ z, xs = [.str z] ∧ z.length ≤ sizeLine ∧ Q (.int z.length) H) ∨ rLenN K xs H Q) pLen := by
  intro x F H a d Q s tx e q
  unfold pLen at e
  split at e
  · cases e
    obtain ⟨p, vs, rfl, h1, r1⟩ := tx.list s
    refine .inl (.inl ⟨p, vs, rfl, .inl (.inl h1), ?_⟩)
    rw [r1.length]
    exact q _ _ _ (ext0 s) (.int _)
  · cases e
    obtain ⟨p, vs, rfl, h1, r1⟩ := tx.tuple s
    refine .inl (.inl ⟨p, vs, rfl, .inr h1, ?_⟩)
    rw [r1.length]
    exact q _ _ _ (ext0 s) (.int _)
  · split at e
    · rename_i hl
      cases e
      cases tx.str
      exact .inl (.inr ⟨_, rfl, Nat.le_trans hl lim_le, q _ _ _ (ext0 s) (.int _)⟩)
    · cases e
  · cases e
    obtain ⟨p, o, ys, rfl, h1, k, r⟩ := tx.dict s
    exact .inr ⟨F, p, o, ys, _, rfl, s, h1, k, r, q _ _ _ (ext0 s) (.int _)⟩
  · cases e
end
end Ev
/-! # Xf: except suites; the def that tells which exception it is -/
namespace Ev
open PySem PySem.Spec PyProof.Rows L2
/-- a def called within a suite: what it promises may name the exception that is handled -/
structure FnP (P : Program) (w : World) (K : PySem.W.Frag) (mg : Str → Option Value) (base : Heap) (f : Addr) (fd : FuncData) (ps : List Str) (sp : Addr × Obj → List V → Hp → VK → Prop) : Prop where
  len : ∀ p vs H Q, sp p vs H Q → vs.length = ps.length
  run : ∀ (A : Around) (outer : List Env) (s : Shared) (H : Hp) (args : Args) (us : List Value) (vs : List V) (Q : VK) (p : Addr × Obj), L2H.RoomH 0 A → L2H.PinOk outer H s p → Env0 P w K mg base A outer s H → BindsTo s fd args (ps.zip us) → Vals vs us → sp p vs H Q →
    codeAny (model P w) A (.call (.ref f) args) (CR (L2.CX P w) outer P w H s Q fun _ _ _ => False) s
section
variable {P : Program} {w : World} {K : PySem.W.Frag} {mg : Str → Option Value} {base : Heap}
theorem fnP_of {x qual : Str} {params : Arguments} {body : List Stmt} {scope : Scope} {f : Addr} {fd : FuncData} {N ps : List Str} {sp : Addr × Obj → List V → Hp → VK → Prop} (F : FunD K x qual params body scope [] [] f fd) (S : FnScope N ps scope) (len : ∀ p vs H Q, sp p vs H Q → vs.length = ps.length)
    (hbody : ∀ (cdv : Value) (A : Around) (outer : List Env) (s : Shared) (H : Hp) (vs : List V) (Q : VK) (p : Addr × Obj), (A.deeper (envOfC qual scope s.heap.objs.size f cdv)).units + 100 < cLine → sp p vs H Q →
      ∃ t, PSs (L2H.cxH (L2.CX P w) P w K mg base N qual scope f cdv A outer s H (fun _ _ _ => False) p) body t ∧ t { nx := fun _ H' => Q .non H', rt := Q } (L2.start N vs) H) : FnP P w K mg base f fd ps sp := by
  obtain ⟨oc, od, dV, kV, doc, pm, an, cdv, ct, osl, rfl, lk, hcd, _, _⟩ := F.ex
  refine ⟨len, fun A outer s H args us vs Q p hr hpin e0 hb r h => ?_⟩
  have hl := len _ _ _ _ h
  have back : ∀ b o, base.get? b = some o → s.heap.get? b = some o := fun b o e => (e0.bs b o e).1
  have KX : K.In s.heap := e0.mod.kin.keeps back
  have nolim : s.heap.NoLimit := e0.mod.nolimit.keeps back
  have kinds : ∀ y ∈ ps.zip us, scope.names.lookup y.1 = some .local ∨ (scope.names.lookup y.1 = some .cell ∧ ((cellsFrom (s.heap.objs.size + 1) scope.names []).lookup y.1).isSome = true) := fun y hy => by
    rcases S.par y.1 (List.of_mem_zip (show (y.1, y.2) ∈ ps.zip us from hy)).1 with q | q
    · exact Or.inl q
    · exact Or.inr ⟨q, PySem.W.cellsFrom_some _ _ _ (Or.inl q)⟩
  refine codeAny_call_function hr.depth (KX _ _ lk) rfl S.co S.gen rfl (PySem.W.codeRec_of KX hcd) (hb _ _ _ _ (wpAny_newFunctionEnv_cells S.kind kinds fun env he s1 x => ?_))
  subst he
  obtain ⟨t, ht, hq⟩ := hbody cdv A outer s H vs Q p (by have := hr.un; show A.units + 3 + 100 < _; omega) h
  have I := L2H.inv_startH (CX := L2.CX P w) (E := fun _ _ _ => False) S hpin e0 hl r x
  refine ⟨nolim.keeps x.toInCall.keep, codeAny_func (wpAny_mono (ht.run [] s1 (L2.start N vs) H _ I hq) (fun fl s' hs => ?_) fun e s' hs => hs)⟩
  cases fl with
  | ret u => obtain ⟨v, σ', H', J, rv, q⟩ := hs; exact ⟨v, H', J.os, J.bare, J.base, J.hok, rv, q⟩
  | next => obtain ⟨σ', H', J, q⟩ := hs; exact ⟨V.non, H', J.os, J.bare, J.base, J.hok, rfl, q⟩
  | brk => obtain ⟨_, _, _, q⟩ := hs; exact False.elim q
  | cont => obtain ⟨_, _, _, q⟩ := hs; exact False.elim q
end
section
variable {X : Cx}
/-- its call, p being pinned -/
theorem pe_callP {f : Addr} {fd : FuncData} {ps : List Str} {sp : Addr × Obj → List V → Hp → VK → Prop} {x : Str} {q pos : Pos} {e : Expr} {t : TA} {p : Addr × Obj} (F : FnP X.prog X.w X.K X.mg X.base f fd ps sp) (hr : L2H.RoomH 0 X.A) (hp : p ∈ X.pn) (hg : Gl X x) (hm : X.mg x = some (.ref f)) (hk : PySem.W.keepIn X.K (.ref f) = true) (hb : Binds X.K fd ps [])
    (ha : PA X [e] t) (hdb : (x == ("__debug__" : Str)) = false) (he : starEach [e] X.env = [(false, eval e X.env)]) : PE X (.Call (.Name x q) [e] [] pos) (fun σ H Q => t σ H fun vs H1 => sp p vs H1 Q) := by
  refine ⟨fun pins s σ H Q I h => wpAny_Call_Name_kw (ld_glob I hg hm ?_ hdb)⟩
  refine PySem.W.callWith_K (h₀ := X.base) I.ok.mod.kin hk (thn (ha.run pos pins s σ H _ I h) fun us s1 ⟨vs, H1, I1, r, z⟩ => ⟨I1.kIn, ?_⟩) he rfl
  have b := hb s1 us I1.kIn (by rw [List.append_nil, ← r.length]; exact F.len _ _ _ _ z)
  rw [List.append_nil] at b
  obtain ⟨p1, p2, p3, p4, p5⟩ := I1.pin p (List.mem_append_left _ hp)
  refine wpAny_call (codeAny_mono (F.run X.A X.stack s1 H1 ⟨us, []⟩ us vs Q p hr ⟨p1, p2, fun hm => (List.mem_cons.mp (I1.stkSub p.1 hm)).elim p3 p4, p5⟩ I1.env0 b r z) fun r s' hq => ?_)
  cases r with
  | error e =>
    obtain ⟨_, _, _, _, _, _, _, _, _, _, _, _, ff⟩ := hq
    exact ff.elim
  | ok fl =>
    cases fl with
    | ret u => exact I1.after hq
    | next => exact False.elim hq
    | brk => exact False.elim hq
    | cont => exact False.elim hq
/-- isinstance(e, c), e pinned -/
def rIsP (K : PySem.W.Frag) (D a : Addr) : List V → Hp → VK → Prop := fun xs H Q => ∃ (c : V) (cv : Value) (b : Bool), xs = [.ref a, c] ∧ (∀ u, RelV c u → u = cv) ∧ PySem.W.kitOne K (.ref D) cv = some b ∧ Q (.bl b) H
theorem cr_isP {a D : Addr} {oe : Obj} (C : ExcC X.K D) (hz : Zc (.ref D) none oe) (hf : ∃ vs, oe.data = .fields vs) (hp : (a, oe) ∈ X.pn) : CallR X (.builtin "isinstance") (rIsP X.K D a) := by
  intro pins s σ H xs us Q I r h
  obtain ⟨c, cv, b, rfl, hcv, e, q⟩ := h
  obtain ⟨u1, u2, rfl, r1, r2⟩ : ∃ u1 u2, us = [u1, u2] ∧ RelV (.ref a) u1 ∧ RelV c u2 := by
    cases r with
    | cons r1 r => cases r with | cons r2 r => cases r; exact ⟨_, _, rfl, r1, r2⟩
  cases r1
  have ec := hcv _ r2
  subst ec
  have hget := (I.pin (a, oe) (List.mem_append_left _ hp)).1
  obtain ⟨vs, hv⟩ := hf
  have J : PySem.W.InstAt s.heap a oe D none := by
    obtain ⟨oc, od, oda, osl⟩ := oe
    obtain ⟨h1, h2⟩ := hz
    dsimp only at h1 h2 hv
    subst h1 h2 hv
    exact ⟨hget, rfl, rfl, trivial⟩
  exact PySem.W.kia_one (PySem.W.handS_kitx_exc C.hg C.hk C.hs C.hd C.ha C.hn C.ht C.hm) I.kIn J e (fun z => nomatch z) fun tk => ⟨.bl b, H, I.kept (t' := tk) fun _ _ z => z, rfl, q⟩
end
/-! ### the def itself -/
def isiP : Expr → Option Str
  | .Call (.Name f _) [.Name e _, .Name c _] [] _ => if decide (f = "isinstance") && decide (e = "e") then some c else none
  | _ => none
def isiPs : List Expr → Option (List Str)
  | [] => some []
  | e :: r => match isiP e, isiPs r with
    | some c, some cs => some (c :: cs)
    | _, _ => none
def whP : List Stmt → Option (List Str × List Str × List Str)
  | [.Assign [.Name o1 _] (.List es1 _) _, .Expr (.Call (.Attribute (.Name o2 _) m2 a2) [.List es2 _] [] c2) _, .Expr (.Call (.Attribute (.Name o3 _) m3 a3) [.List es3 _] [] c3) _,
     .If (.BoolOp .Or [.Compare (.Call (.Attribute (.Name o4 _) m4 a4) [.Constant (.bool true) _ _] [] c4) [.NotEq] [.Constant (.int 1) _ _] _, .UnaryOp .Not (.Call fv av kv pv) _] _) _ [] _,
     .Return (some (.Tuple [.Constant (.str rf) _ _, .Call (.Attribute (.Name o5 _) m5 a5) [.Constant (.bool true) _ _] [] c5] _ _)) _] =>
    if decide (o1 = "own") && decide (o2 = "own") && decide (o3 = "own") && decide (o4 = "own") && decide (o5 = "own") && decide (m2 = "extend") && decide (m3 = "extend") && decide (m4 = "count") && decide (m5 = "index") && decide (rf = "refused") && a2.endLine == c2.line && a3.endLine == c3.line && a4.endLine == c4.line && a5.endLine == c5.line then
      (match isiPs es1, isiPs es2, isiPs es3, isiP (.Call fv av kv pv) with
      | some n1, some n2, some n3, some v => if decide (v = "ValueError") then some (n1, n2, n3) else none
      | _, _, _, _ => none) else none
  | _ => none
section
variable {X : Cx} {a D : Addr} {oe : Obj}
/-- a name of a class, and whether the exception is of it -/
def WhC (X : Cx) (D : Addr) (c : Str) (b : Bool) : Prop := ∃ v cv, (∀ pos, PE X (.Name c pos) (tC v)) ∧ (∀ u, RelV v u → u = cv) ∧ PySem.W.kitOne X.K (.ref D) cv = some b
structure WhX (X : Cx) (a D : Addr) (oe : Obj) : Prop where
  C : ExcC X.K D
  z : Zc (.ref D) none oe
  f : ∃ vs, oe.data = .fields vs
  p : (a, oe) ∈ X.pn
  N : X.N = (["e", "own"] : List Str)
  v0 : Vis X.env.scope "e"
  v1 : Vis X.env.scope "own"
  l1 : Loc X.env.scope "own"
  fn : X.fn "own" = true ∨ X.env.scope.names.lookup ("own" : Str) = some .local
  u : X.A.units + 66 < cLine
  g : Gl X "isinstance"
  m : X.mg "isinstance" = none
def tAt {β : Type} (a : Addr) (x : β) : L2.St → Hp → (β → Hp → Prop) → Prop := fun σ H Q => σ[0]? = some (some (.ref a)) ∧ Q x H
theorem pe_is (o : WhX X a D oe) {e : Expr} {c : Str} {b : Bool} (h : isiP e = some c) (w : WhC X D c b) : PE X e (tAt a (.bl b)) ∧ isStar e = false ∧ ∀ whole, isTrue e X.env whole = (do let v ← whole; standAt e.pos; holding [v] (truthy v)) := by
  unfold isiP at h
  split at h
  · rename_i f _ e0 _ c0 _ _
    split at h
    · rename_i hc
      simp only [Bool.and_eq_true, decide_eq_true_eq] at hc
      obtain ⟨rfl, rfl⟩ := hc
      cases h
      obtain ⟨v, cv, h1, h2, h3⟩ := w
      refine ⟨pe_mono (pe_callB (cr_isP o.C o.z o.f o.p) o.g o.m (by decide +kernel) (pa_cons (pe_var (i := 0) (by rw [o.N]; rfl) o.v0 (by decide) (by decide)) (pa_cons (h1 _) pa_nil (star_cons rfl)) (star_cons rfl)) (by decide) (by decide) (star_cons rfl) rfl) fun σ H Q ⟨q1, q2⟩ => ?_, rfl, fun _ => rfl⟩
      exact ⟨_, q1, v, cv, b, rfl, h2, h3, q2⟩
    · cases h
  · cases h
theorem pa_is (o : WhX X a D oe) (g : Str → Bool) : ∀ {es : List Expr} {cs : List Str}, isiPs es = some cs → (∀ c ∈ cs, WhC X D c (g c)) → PA X es (tAt a (cs.map fun c => V.bl (g c)))
  | [], cs, h, _ => by
    cases h
    exact pa_mono pa_nil fun σ H Q q => q.2
  | e :: r, cs, h, w => by
    unfold isiPs at h
    split at h
    · rename_i c cs' h1 h2
      cases h
      obtain ⟨p1, p2, _⟩ := pe_is o h1 (w c List.mem_cons_self)
      refine pa_mono (pa_cons p1 (pa_is o g h2 fun c hc => w c (List.mem_cons_of_mem _ hc)) (star_cons p2)) fun σ H Q q => ⟨q.1, q.1, q.2⟩
    · cases h
theorem pss_bad {st : List Stmt} : PSs X st (fun _ _ _ => False) := ⟨fun _ _ _ _ _ _ h => h.elim⟩
/-- just one, the one numbered i -/
def whK (ds : List Ev.D) (i : Nat) : Bool := SeqAt.shaped (.list ds) && decide (ds.countP (fun z => PyData.eqv z (.bool true)) = 1) && decide (idxD ds (.bool true) 0 = some i)
theorem dpAll_bl {K : PySem.W.Frag} {H : Hp} (g : Str → Bool) : ∀ cs : List Str, DpAll K H (cs.map fun c => V.bl (g c)) (cs.map fun c => PyData.bool (g c))
  | [] => .nil
  | c :: cs => .cons (.bl _) (dpAll_bl g cs)
theorem same_over {H H1 : Hp} {p : Addr} {o : HO} (h : H p = none) (s : Same H H1) : Same H (upd H1 p o) := fun b x e => by
  rw [upd_ne (ne_of_none e h)]
  exact s b x e
theorem which_body (o : WhX X a D oe) {body : List Stmt} {n1 n2 n3 : List Str} (hb : whP body = some (n1, n2, n3)) {g : Str → Bool} (hw : ∀ c ∈ n1 ++ n2 ++ n3, WhC X D c (g c)) (hv : WhC X D "ValueError" true) {i : Nat} (hk : whK ((n1 ++ n2 ++ n3).map fun c => PyData.bool (g c)) i = true) (hsz : (n1 ++ n2 ++ n3).length ≤ 1000) :
    ∃ t, PSs X body t ∧ ∀ (E : Ends) (σ : L2.St) (H F : Hp), σ[0]? = some (some (.ref a)) → σ.length = 2 → Same F H → (∀ v F' H', Ext F H F' H' → Rp X.K F' v (refD i) → E.rt v H') → t E σ H := by
  unfold whP at hb
  split at hb
  · rename_i o1 _ es1 _ _ o2 _ m2 a2 es2 _ c2 _ o3 _ m3 a3 es3 _ c3 _ o4 _ m4 a4 _ _ c4 _ _ _ fv av kv pv _ _ ra _ rf _ _ o5 _ m5 a5 _ _ c5 _ _ _
    split at hb
    · rename_i hc
      simp only [Bool.and_eq_true, decide_eq_true_eq] at hc
      obtain ⟨⟨⟨⟨⟨⟨⟨⟨⟨⟨⟨⟨⟨rfl, rfl⟩, rfl⟩, rfl⟩, rfl⟩, rfl⟩, rfl⟩, rfl⟩, rfl⟩, rfl⟩, l2⟩, l3⟩, l4⟩, l5⟩ := hc
      split at hb
      · rename_i m1 m2 m3 v e1 e2 e3 e4
        split at hb
        · rename_i ev
          have ev := of_decide_eq_true ev
          subst ev
          cases hb
          have P1 := pa_is o g e1 fun c hc => hw c (by simp [hc])
          have P2 := pa_is o g e2 fun c hc => hw c (by simp [hc])
          have P3 := pa_is o g e3 fun c hc => hw c (by simp [hc])
          obtain ⟨P4, _, P4'⟩ := pe_is o e4 hv
          have hN : X.N[1]? = some ("own" : Str) := by rw [o.N]; rfl
          have nd : X.N.Nodup := by rw [o.N]; decide
          have own : ∀ pos, PE X (.Name "own" pos) (tVar 1) := fun pos => pe_var hN o.v1 (by decide) (by decide)
          have few : ∀ {e : Expr} {cp : Pos}, isStar e = false → ((backTo cp (starEach [e] X.env)).all (fun x => !x.1) && (backToKw cp (keywordEach [] X.env)).all (fun x => x.1.isSome) && decide ([e].length + ([] : List Keyword).length + (if ([] : List Keyword).isEmpty then 0 else 1) < 30)) = true := fun {e cp} hs => by rw [star_cons hs]; rfl
          have hu : X.A.units + 65 < cLine := by have := o.u; omega
          refine ⟨_, pss_cons (ps_set nd hN o.l1 (pe_lst P1) rfl o.fn) (pss_cons (ps_expr (pe_bm PySem.F.plainAttrs_list PySem.F.slot_list_extend PySem.F.type_list_extend mt_extendR (own _) (pa_cons (pe_lst P2) pa_nil (star_cons rfl)) rfl (few rfl) l2 (star_cons rfl) rfl) rfl) (pss_cons (ps_expr (pe_bm PySem.F.plainAttrs_list PySem.F.slot_list_extend PySem.F.type_list_extend mt_extendR (own _) (pa_cons (pe_lst P3) pa_nil (star_cons rfl)) rfl (few rfl) l3 (star_cons rfl) rfl) rfl)
            (pss_cons (ps_if (PW.pt (pw_or (pt_cmpR (op_neD (by omega)) (pe_bm PySem.F.plainAttrs_list PySem.F.slot_list_count PySem.F.type_list_count (mt_countD hu) (own _) (pa_cons pe_bl pa_nil (star_cons rfl)) rfl (few rfl) l4 (star_cons rfl) rfl) pe_int rfl) (pw_or1 (pt_not (pt_val P4 P4'))))) pss_bad pss_nil)
            (pss_one (ps_ret (pe_tup (pa_cons pe_str (pa_cons (pe_bm PySem.F.plainAttrs_list PySem.F.slot_list_index PySem.F.type_list_index (mt_indexD hu) (own _) (pa_cons pe_bl pa_nil (star_cons rfl)) rfl (few rfl) l5 (star_cons rfl) rfl) pa_nil (star_cons rfl)) (star_cons rfl)))))))), fun E σ H F h0 hlen sub hQ => ?_⟩
          unfold whK at hk
          simp only [Bool.and_eq_true, decide_eq_true_eq] at hk
          obtain ⟨⟨k1, k2⟩, k3⟩ := hk
          obtain ⟨m, z, m1, m2, m3, m4⟩ := idxD_some k3
          rw [Nat.zero_add] at m1
          subst m1
          have hsl := sizeLine_eq
          simp only [List.length_append] at hsz
          refine ⟨h0, by rw [List.length_map]; omega, fun p1 hp1 => ?_⟩
          have a1 : (σ.set 1 (some (.ref p1)))[1]? = some (some (V.ref p1)) := by rw [List.getElem?_set_self (by omega)]
          have a0 : (σ.set 1 (some (.ref p1)))[0]? = some (some (V.ref a)) := by rw [List.getElem?_set_ne (by decide)]; exact h0
          refine ⟨_, a1, .inl ⟨rfl, _, .inl (.inl upd_same)⟩, a0, by rw [List.length_map]; omega, fun p2 hp2 => ?_⟩
          have n12 : p1 ≠ p2 := fun e => by rw [← e, upd_same] at hp2; cases hp2
          refine ⟨p1, p2, _, _, rfl, rfl, by rw [upd_ne n12, upd_same], .inl upd_same, by simp only [List.length_map]; omega, ?_⟩
          refine ⟨_, a1, .inl ⟨rfl, _, .inl (.inl upd_same)⟩, a0, by rw [List.length_map]; omega, fun p3 hp3 => ?_⟩
          have n13 : p1 ≠ p3 := fun e => by rw [← e, upd_same] at hp3; cases hp3
          refine ⟨p1, p3, _, _, rfl, rfl, by rw [upd_ne n13, upd_same], .inl upd_same, by simp only [List.length_append, List.length_map]; omega, ?_⟩
          rw [← List.map_append, ← List.map_append]
          have sH : Same H (upd H p1 (.lst (n1.map fun c => V.bl (g c)))) := same_upd hp1
          have hp2' := not_none sH hp2
          have sH2 := same_over (o := .lst ((n1 ++ n2).map fun c => V.bl (g c))) hp1 (same_over (o := .lst (n2.map fun c => V.bl (g c))) hp2' sH)
          have hp3' : H p3 = none := by
            rw [List.map_append] at sH2
            exact not_none sH2 hp3
          have sH3 := same_over (o := .lst ((n1 ++ n2 ++ n3).map fun c => V.bl (g c))) hp1 (same_over (o := .lst (n3.map fun c => V.bl (g c))) hp3' sH2)
          generalize hHH : upd (upd (upd (upd (upd H p1 (HO.lst (List.map (fun c => V.bl (g c)) n1))) p2 (HO.lst (List.map (fun c => V.bl (g c)) n2))) p1 (HO.lst (List.map (fun c => V.bl (g c)) (n1 ++ n2)))) p3 (HO.lst (List.map (fun c => V.bl (g c)) n3))) p1 (HO.lst (List.map (fun c => V.bl (g c)) (n1 ++ n2 ++ n3))) = HH at *
          have own1 : HH p1 = some (.lst ((n1 ++ n2 ++ n3).map fun c => V.bl (g c))) := by rw [← hHH, upd_same]
          have dl : Dp X.K HH (.ref p1) (.list ((n1 ++ n2 ++ n3).map fun c => PyData.bool (g c))) := .lst (.inl (.inl own1)) (dpAll_bl g _)
          have sb : SeqAt.shaped (.bool true) = true := by decide +kernel
          have tl : tyV X.K "list" (.ref p1) HH := .inl ⟨rfl, _, .inl (.inl own1)⟩
          refine ⟨_, a1, tl, ⟨p1, _, .bool true, _, rfl, rfl, dl, .bl true, k1, sb, ?_⟩⟩
          rw [k2]
          refine ⟨.int 1, .int 1, .int 1, .int 1, by decide +kernel, by decide +kernel, _, rfl, ?_⟩
          have e0 : (!PyData.eqv (.int 1) (.int 1)) = false := by decide +kernel
          rw [e0]
          refine ⟨a0, true, rfl, ?_⟩
          refine ⟨_, a1, tl, ⟨p1, _, .bool true, _, i, z, rfl, rfl, dl, .bl true, k1, sb, m2, m3, m4, ?_⟩⟩
          refine ⟨by rw [hsl]; simp, mk_tup (K := X.K) (F := F) (ds := [.str "refused", .int (i : Int)]) (fun b x e => sH3 b x (sub b x e)) ⟨.cons (.str _) (.cons (.int _) .nil), by rw [hsl]; simp⟩ rfl fun v F' H' x r => hQ v F' H' ⟨x.f, fun b y e => x.h b y (sH3 b y e), x.sub, fun b y e => (x.new b y e).imp id (not_none sH3)⟩ r⟩
        · cases hb
      · cases hb
    · cases hb
  · cases hb
end
/-- the exceptions' classes, told apart -/
structure WhK (K : PySem.W.Frag) (mg : Str → Option Value) (cs : List Str) : Prop where
  c : ∀ y ∈ cs, ∃ D, mg y = some (.ref D) ∧ ExcC K D ∧ PySem.W.kitOne K (.ref D) (.type "ValueError") = some true
  k : ∀ y ∈ cs, ∀ z ∈ cs, ∀ D D', mg y = some (.ref D) → mg z = some (.ref D') → PySem.W.kitOne K (.ref D) (.ref D') = some (decide (y = z))
/-- what that def promises -/
def spWhich (K : PySem.W.Frag) (mg : Str → Option Value) (cs : List Str) (p : Addr × Obj) (vs : List V) (H : Hp) (Q : VK) : Prop :=
  vs = [.ref p.1] ∧ ∃ D y i F, Zc (.ref D) none p.2 ∧ (∃ fs, p.2.data = .fields fs) ∧ mg y = some (.ref D) ∧ ixS cs y 0 = some i ∧ Same F H ∧ ∀ v F' H', Ext F H F' H' → Rp K F' v (refD i) → Q v H'
theorem ixS_mem : ∀ {cs : List Str} {y : Str} {j i : Nat}, ixS cs y j = some i → y ∈ cs
  | [], _, _, _, h => by cases h
  | c :: cs, y, j, i, h => by
    unfold ixS at h
    split at h
    · rename_i e; subst e; exact List.mem_cons_self
    · exact List.mem_cons_of_mem _ (ixS_mem h)
structure WhS (cs : List Str) (body : List Stmt) (scope : Scope) : Prop where
  p : ∃ n1 n2 n3, whP body = some (n1, n2, n3) ∧ cs = n1 ++ n2 ++ n3
  v0 : Vis scope "e"
  v1 : Vis scope "own"
  l1 : scope.names.lookup ("own" : Str) = some .local
  g : ∀ x, x ∈ ("isinstance" : Str) :: "ValueError" :: cs → scope.names.lookup x = some .globalImplicit ∧ (x == ("__debug__" : Str)) = false
  k : ∀ y ∈ cs, ∀ i, ixS cs y 0 = some i → whK (cs.map fun c => PyData.bool (decide (y = c))) i = true
  n : cs.length ≤ 1000
section
variable {P : Program} {w : World} {K : PySem.W.Frag} {mg : Str → Option Value} {base : Heap}
theorem which_good {x : Str} {params : Arguments} {body : List Stmt} {scope : Scope} {f : Addr} {fd : FuncData} {cs : List Str} (F : FunD K x x params body scope [] [] f fd) (S : FnScope ["e", "own"] ["e"] scope) (T : WhS cs body scope) (hk : WhK K mg cs) (m1 : mg "isinstance" = none) (m2 : mg "ValueError" = none) :
    FnP P w K mg base f fd ["e"] (spWhich K mg cs) := by
  refine fnP_of F S (fun p vs H Q h => by rw [h.1]; rfl) fun cdv A outer s H vs Q p hu h => ?_
  obtain ⟨rfl, D, y, i, F0, z1, z2, z3, z4, z5, z6⟩ := h
  obtain ⟨n1, n2, n3, e1, e2⟩ := T.p
  have hy := ixS_mem z4
  obtain ⟨D', d1, d2, d3⟩ := hk.c y hy
  rw [z3] at d1
  cases d1
  have gl : ∀ x, x ∈ ("isinstance" : Str) :: "ValueError" :: cs → Gl (L2H.cxH (L2.CX P w) P w K mg base ["e", "own"] x scope f cdv A outer s H (fun _ _ _ => False) p) x := fun x hx => (T.g x hx).1
  have wc : ∀ c ∈ n1 ++ n2 ++ n3, WhC (L2H.cxH (L2.CX P w) P w K mg base ["e", "own"] x scope f cdv A outer s H (fun _ _ _ => False) p) D c (decide (y = c)) := fun c hc => by
    rw [← e2] at hc
    obtain ⟨D', d1, _⟩ := hk.c c hc
    obtain ⟨g1, g2⟩ := T.g c (List.mem_cons_of_mem _ (List.mem_cons_of_mem _ hc))
    exact ⟨.ref D', .ref D', fun pos => pe_glob g1 d1 rfl g2, fun u r => r, hk.k y hy c hc D D' z3 d1⟩
  have wv : WhC (L2H.cxH (L2.CX P w) P w K mg base ["e", "own"] x scope f cdv A outer s H (fun _ _ _ => False) p) D "ValueError" true := by
    obtain ⟨g1, g2⟩ := T.g "ValueError" (List.mem_cons_of_mem _ List.mem_cons_self)
    exact ⟨.ty "ValueError", .type "ValueError", fun pos => pe_bltn g1 m2 (by decide +kernel) rfl, fun u r => r, d3⟩
  obtain ⟨t, h1, h2⟩ := which_body (X := L2H.cxH (L2.CX P w) P w K mg base ["e", "own"] x scope f cdv A outer s H (fun _ _ _ => False) p) (a := p.1) (D := D) (oe := p.2)
    ⟨d2, z1, z2, List.mem_cons_self, rfl, T.v0, T.v1, .inl T.l1, .inr T.l1, by show (A.deeper _).units + 66 < _; omega, (T.g "isinstance" List.mem_cons_self).1, m1⟩ e1 wc wv (i := i) (by rw [← e2]; exact T.k y hy i z4) (by rw [← e2]; exact T.n)
  exact ⟨t, h1, h2 _ _ _ F0 rfl rfl z5 z6⟩
end
section
variable {X : Cx} {W : WX}
structure WhOk (X : Cx) (f : Str) (cs : List Str) : Prop where
  ex : ∃ a fd, X.mg f = some (.ref a) ∧ PySem.W.keepIn X.K (.ref a) = true ∧ Binds X.K fd ["e"] [] ∧ FnP X.prog X.w X.K X.mg X.base a fd ["e"] (spWhich X.K X.mg cs)
  cl : ∀ y ∈ cs, ∃ D, X.mg y = some (.ref D)
def CatOk (X : Cx) (x : Str) (cs : List Str) : Prop := ∃ c, X.mg x = some c ∧ ∀ y ∈ cs, ∀ cv, X.mg y = some cv → PySem.W.exmOne X.K cv c = some true
theorem js_tryC {x : Str} {cs : List Str} {body suite : List Stmt} {b₀ : Stmt} {np pos pos' : Pos} {b k : DenS} (hs : X.stack = X.env :: X.outer) (hf : X.env.frame = some X.env.locals) (hg : Gl X x) (hdb : (x == ("__debug__" : Str)) = false) (hc : CatOk X x cs) (tk : Takes X W)
    (hb : ∀ (W' : WX) (pn : List (Addr × Obj)) (xe : Value → Shared → Prop), Takes (X.tr pn xe) W' → PassesOwn (model X.prog X.w) X.A X.env xe → JSs (X.tr pn xe) W' body b) (hk : ∀ a pn, JSs (X.suite a pn) W (b₀ :: suite) k) :
    JS X W (.Try body [.ExceptHandler (some (.Name x np)) none (b₀ :: suite) pos'] [] [] pos) (sTryC cs b k) := by
  obtain ⟨c, c1, c2⟩ := hc
  refine ps_mono (ps_try_only (tb := fun W' => tS X W' b) (ts := fun _ _ _ => tS X W k) hs hf ⟨hg, hdb, .inl c1⟩ tk hb fun a oe cls d pn _ _ => hk a _) fun E σ H ⟨B, F, α, rho, h, r, p⟩ => ?_
  refine ⟨B, F, α, rho, h, r, ?_⟩
  unfold sTryC at p
  cases e : b ⟨rho, h⟩ with
  | next z => rw [e] at p; exact p
  | cont z => rw [e] at p; exact p
  | ret z y => rw [e] at p; exact p
  | retR z y => rw [e] at p; exact p
  | bad => rw [e] at p; exact p
  | exc y s' =>
    rw [e] at p
    intro cv σ' F' α' H' sm r' hm
    dsimp only at p
    split at p
    · rename_i hy
      exact ⟨true, c2 y hy cv hm, fun _ a na => ⟨B, F', α', s'.rho, s'.h, r', postS_mono sm p⟩, fun z => nomatch z⟩
    · exact p.elim
theorem js_tryW {x n f : Str} {cs : List Str} {body : List Stmt} {np pos pos' pr pf pe pc : Pos} {i : Nat} {b : DenS} (hs : X.stack = X.env :: X.outer) (hf : X.env.frame = some X.env.locals) (hN : X.N.Nodup) (hi : X.N[i]? = some n) (hln : X.env.kindOf n = some .local) (hnd : (n == ("__debug__" : Str)) = false) (hnc : (n == ("__classdict__" : Str)) = false)
    (hg : Gl X x) (hdb : (x == ("__debug__" : Str)) = false) (hgf : Gl X f) (hdf : (f == ("__debug__" : Str)) = false) (hr : L2H.RoomH 0 X.A) (hc : CatOk X x cs) (hw : WhOk X f cs) (tk : Takes X W)
    (hb : ∀ (W' : WX) (pn : List (Addr × Obj)) (xe : Value → Shared → Prop), Takes (X.tr pn xe) W' → PassesOwn (model X.prog X.w) X.A X.env xe → JSs (X.tr pn xe) W' body b) :
    JS X W (.Try body [.ExceptHandler (some (.Name x np)) (some n) [.Return (some (.Call (.Name f pf) [.Name n pe] [] pc)) pr] pos'] [] [] pos) (sTryW i cs b) := by
  obtain ⟨c, c1, c2⟩ := hc
  obtain ⟨⟨fa, fd, w1, w2, w3, w4⟩, w5⟩ := hw
  refine ps_mono (ps_try_as (tb := fun W' => tS X W' b) (ts := fun a cls d => fun E σ H => σ[i]? = some (some (.ref a)) ∧ d = none ∧ ∃ D y j F, cls = .ref D ∧ X.mg y = some (.ref D) ∧ ixS cs y 0 = some j ∧ Same F H ∧ ∀ v F' H', Ext F H F' H' → Rp X.K F' v (refD j) → E.rt v H') hs hf hN hi hln ⟨hg, hdb, .inl c1⟩ tk hb fun a oe cls d pn hz hd => ?_) fun E σ H ⟨B, F, α, rho, h, r, p⟩ => ?_
  · refine pss_mono (pss_one (ps_ret (pe_callP (X := X.suite a ((a, oe) :: pn)) (p := (a, oe)) w4 ⟨hr.dp, hr.un⟩ List.mem_cons_self hgf w1 w2 w3 (pa_cons (pe_var hi (.inl hln) hnd hnc) pa_nil (star_cons rfl)) hdf (star_cons rfl)))) fun E σ H ⟨q1, q2, D, y, j, F, q3, q4, q5, q6, q7⟩ => ?_
    subst q2 q3
    exact ⟨_, q1, rfl, D, y, j, F, hz, hd, q4, q5, q6, q7⟩
  refine ⟨B, F, α, rho, h, r, ?_⟩
  unfold sTryW at p
  cases e : b ⟨rho, h⟩ with
  | next z => rw [e] at p; exact p
  | cont z => rw [e] at p; exact p
  | ret z y => rw [e] at p; exact p
  | retR z y => rw [e] at p; exact p
  | bad => rw [e] at p; exact p
  | exc y s' =>
    rw [e] at p
    intro cv σ' F' α' H' sm r' hm
    dsimp only at p
    split at p
    · rename_i j hj
      split at p
      rotate_left
      · exact p.elim
      rename_i hil
      have hy := ixS_mem hj
      obtain ⟨D, hD⟩ := w5 y hy
      rw [hm] at hD
      cases hD
      refine ⟨true, c2 y hy _ hm, fun _ a na => ⟨?_, rfl, D, y, j, F', rfl, hm, hj, r'.sub, fun v F2 H2 x2 rp => p v s'.rho σ' F2 α' H2 (sm.trans x2.f) (r'.ext x2) rp⟩, fun z => nomatch z⟩
      rw [List.getElem?_set_self (by rw [← r'.len]; exact hil)]
    · exact p.elim
end
end Ev
/-! # Xg: functions out of a list -/
namespace L2
open PySem PySem.Spec PyProof.Rows
section
variable {X : Cx} {CX : CXT} {k : Nat} {E : St → XK} {p pos : Pos} {a b e : Expr} {es : List Expr} {tf : TE} {t : TA}
theorem arm_ix (a b : Expr) (p : Pos) (args : List Expr) (pos : Pos) (env : Env) : eval (.Call (.Subscript a b p) args [] pos) env = (do
    callWith pos (← eval (.Subscript a b p) env) [] (backTo pos (starEach args env)) (backToKw pos (keywordEach [] env))) := rfl
/-- the value is a def, kept, with that promise -/
structure DefQ (P : Program) (w : World) (K : PySem.W.Frag) (mg : Str → Option Value) (base : Heap) (CX : CXT) (k : Nat) (v : V) (dvs : List V) (sp : Sp) : Prop where
  ex : ∃ f fd ps ds, v = .ref f ∧ PySem.W.keepIn K (.ref f) = true ∧ Binds K fd ps ds ∧ Vals dvs ds ∧ FnOk P w K mg base CX k f fd ps sp
abbrev DefAt (X : Cx) (CX : CXT) (k : Nat) (v : V) (dvs : List V) (sp : Sp) : Prop := DefQ X.prog X.w X.K X.mg X.base CX k v dvs sp
theorem pe_callX (hf : PE X (.Subscript a b p) tf) (hr : Room k X.A) (hx : ∀ σ, PassesAt CX X σ (E σ)) (ha : PA X (e :: es) t) (he : starEach (e :: es) X.env = (false, eval e X.env) :: starEach es X.env) (hpl : (backTo pos (starEach es X.env)).any (·.1) = false) :
    PE X (.Call (.Subscript a b p) (e :: es) [] pos) (fun σ H Q => tf σ H fun v H1 => ∃ dvs sp, DefAt X CX k v dvs sp ∧ t σ H1 fun vs H2 => sp (vs ++ dvs) H2 Q (E σ)) := by
  refine ⟨fun pins s σ H Q I h => ?_⟩
  rw [arm_ix]
  refine wpAny_bind (thn (hf.run pins s σ H _ I h) fun u s1 ⟨v, H1, I1, r1, dvs, sp, d, ht⟩ => ?_)
  obtain ⟨f, fd, ps, ds, rfl, hk, hb, hd, F⟩ := d.ex
  cases r1
  refine PySem.W.callWith_K (h₀ := X.base) I.ok.mod.kin hk (thn (ha.run pos pins s1 σ H1 _ I1 ht) fun us s2 ⟨vs, H2, I2, r, q⟩ => ⟨I2.kIn, ?_⟩) he hpl
  exact run_fnSD F hr hb hd (hx σ) I2 r q
end
end L2
namespace Ev
open PySem PySem.Spec PyProof.Rows L2
section
variable {X : Cx} {W : WX} {k : Nat}
/-- a function of the text, as a value -/
structure FnQ (P : Program) (w : World) (K : PySem.W.Frag) (mg : Str → Option Value) (base : Heap) (k : Nat) (v : V) (m : FnDen) : Prop where
  ex : ∃ np dvs sp, DefQ P w K mg base (L2.CX P w) k v dvs sp ∧ (∀ vs H Q E, spOf K mg np m vs H Q E → sp (vs ++ dvs) H Q E) ∧ ∀ args h, m args h ≠ .bad → args.length = np
abbrev FnAt (X : Cx) (k : Nat) (v : V) (m : FnDen) : Prop := FnQ X.prog X.w X.K X.mg X.base k v m
theorem fnAt_of {f : Addr} {fd : FuncData} {ps : List Str} {np : Nat} {m : FnDen} (h2 : PySem.W.keepIn X.K (.ref f) = true) (h3 : Binds X.K fd ps []) (h4 : FnOk X.prog X.w X.K X.mg X.base (L2.CX X.prog X.w) k f fd ps (spOf X.K X.mg np m)) (h5 : ∀ args h, m args h ≠ .bad → args.length = np) : FnAt X k (.ref f) m :=
  ⟨np, [], _, ⟨f, fd, ps, [], rfl, h2, h3, .nil, h4⟩, fun vs H Q E q => by rw [List.append_nil]; exact q, h5⟩
theorem fnAt_ofD {f : Addr} {fd : FuncData} {ps : List Str} {np n : Nat} {m : FnDen} {v : V} {u : Value} {dd : D} (h2 : PySem.W.keepIn X.K (.ref f) = true) (h3 : Binds X.K fd ps [u]) (hd : RelV v u) (hrp : ∀ F, Rp X.K F v dd) (h4 : FnOk X.prog X.w X.K X.mg X.base (L2.CX X.prog X.w) k f fd ps (spOf X.K X.mg np m))
    (hn : np = n + 1) (h5 : ∀ args h, m args h ≠ .bad → args.length = np) : FnAt X k (.ref f) (mDef m dd) := by
  refine ⟨n, [v], _, ⟨f, fd, ps, [u], rfl, h2, h3, .cons hd .nil, h4⟩, fun vs H Q E q => ?_, fun args h z => ?_⟩
  · obtain ⟨l, F, α, args, h, q1, q2, q3, q4, q5⟩ := q
    exact ⟨by rw [List.length_append, l, hn]; rfl, F, α, args ++ [.dat dd], h, q1, q2, q3, paired_app q4 (.cons (show ArgOk X.K F α v (.dat dd) from hrp F) .nil), q5⟩
  · have := h5 _ h z
    rw [List.length_append, hn] at this
    simpa using this
theorem t_sel {vs : List V} {ms : List FnDen} {fi : Den} {as : List ADen} (tk : Takes X W) (hv : Paired (FnAt X k) vs ms) {B : Fx} {F H : Hp} {α : List Addr} {rho : Ro} {h : Hh} {σ : L2.St} {p : Addr} {Q : VK} (r : Rel X.K B F α rho h σ H) (hp : F p = some (.lst vs))
    (q : Post X W B σ F rho (dSel ms fi as rho h) (GD X Q)) : tE X W fi σ H fun y H2 => rIxL X.K (.ref p) y H2 fun v H1 => ∃ dvs sp, DefAt X (L2.CX X.prog X.w) k v dvs sp ∧ tAs X W as σ H1 fun vs H2 => sp (vs ++ dvs) H2 Q (fun cls d H' => W cls d σ H') := by
  refine ⟨B, F, α, rho, h, r, post_imp (post_bind q) fun d F1 α1 H1 s1 ⟨h1, r1, p1⟩ v hd => ?_⟩
  cases d with
  | int j =>
    cases hd
    dsimp only at p1
    split at p1
    · rename_i hj
      split at p1
      · rename_i m hm
        obtain ⟨v, hv1, hv2⟩ := paired_get hv hm
        obtain ⟨np, dvs, sp, D, hsp, har⟩ := hv2.ex
        have hjn : (j.toNat : Int) = j := Int.toNat_of_nonneg hj
        refine ⟨p, vs, j, v, rfl, rfl, .inl (.inl (r1.sub _ _ (s1 _ _ hp))), by rw [← hjn]; exact atI_nat hv1, dvs, sp, D, B, F1, α1, rho, h1, r1, ?_⟩
        refine post_imp (post_bind p1) fun args F2 α2 H2 s2 ⟨h2, r2, p2⟩ ws hws => hsp _ _ _ _ ?_
        have len : ws.length = np := by
          rw [Paired.length hws]
          refine har args h2 fun z => ?_
          rw [z] at p2
          exact p2
        refine ⟨len, F2, α2, args, h2, r2.sub, r2.nd, r2.heapOk, hws, ?_⟩
        cases w : m args h2 with
        | ok d h3 =>
          rw [w] at p2
          exact fun v F' H' x ho hv => p2 F' α2 H' x.f (r2.called x ho) v hv
        | exc c h3 =>
          rw [w] at p2
          exact fun cv F' H' x ho hc => p2 cv F' α2 H' x.f (r2.called x ho) hc
        | bad =>
          rw [w] at p2
          exact p2
      · exact p1.elim
    · exact p1.elim
  | _ => exact p1.elim
theorem je_sel {vs : List V} {ms : List FnDen} {fi : Den} {as : List ADen} {fes es : List Expr} {e ix : Expr} {p1 p2 pos : Pos} (hr : Room k X.A) (tk : Takes X W) (hl : PA X fes (fun _ H Q => Q vs H)) (hn : vs.length ≤ 1000) (hv : Paired (FnAt X k) vs ms) (hi : JE X W ix fi) (hpx : PlainIx ix)
    (hs : ((e :: es).all fun e => !isStar e) = true) (ha : PA X (e :: es) (tAs X W as)) : JE X W (.Call (.Subscript (.List fes p1) ix p2) (e :: es) [] pos) (dSel ms fi as) := by
  have h1 : isStar e = false := by
    simp only [List.all_cons, Bool.and_eq_true, Bool.not_eq_true'] at hs
    exact hs.1
  have h2 : (es.all fun e => !isStar e) = true := by
    simp only [List.all_cons, Bool.and_eq_true] at hs
    exact hs.2
  refine pe_mono (pe_callX (pe_ix ix_list (pe_lst hl) hi hpx) hr (fun σ => passAt tk σ) ha (star_cons h1) (star_none h2 pos)) fun σ H Q ⟨B, F, α, rho, h, r, q⟩ => ?_
  refine ⟨by rw [sizeLine_eq]; omega, fun p hp => ?_⟩
  have x := Ext.put (o := .lst vs) r.sub hp
  exact t_sel tk hv (r.ext x) upd_same (post_mono x.f q)
/-- x = [f, g, ..]; return x[e](..) -/
theorem js_sel {x : Str} {i : Nat} {vs : List V} {ms : List FnDen} {fi : Den} {as : List ADen} {fes es : List Expr} {e ix : Expr} {px px2 p1 p2 pos pa pr : Pos} (hr : Room k X.A) (tk : Takes X W) (hN : X.N.Nodup) (hi : X.N[i]? = some x) (hloc : Loc X.env.scope x) (hfn : X.fn x = true ∨ X.env.scope.names.lookup x = some .local) (hvis : Vis X.env.scope x) (hd : (x == ("__debug__" : Str)) = false) (hcd : (x == ("__classdict__" : Str)) = false)
    (hl : PA X fes (fun _ H Q => Q vs H)) (hn : vs.length ≤ 1000) (hv : Paired (FnAt X k) vs ms) (hix : JE X W ix fi) (hpx : PlainIx ix) (hs : ((e :: es).all fun e => !isStar e) = true) (ha : PA X (e :: es) (tAs X W as)) :
    JSs X W [.Assign [.Name x px] (.List fes p1) pa, .Return (some (.Call (.Subscript (.Name x px2) ix p2) (e :: es) [] pos)) pr] (sSel i (dSel ms fi as)) := by
  have h1 : isStar e = false := by
    simp only [List.all_cons, Bool.and_eq_true, Bool.not_eq_true'] at hs
    exact hs.1
  have h2 : (es.all fun e => !isStar e) = true := by
    simp only [List.all_cons, Bool.and_eq_true] at hs
    exact hs.2
  refine pss_mono (pss_cons (ps_set hN hi hloc (pe_lst hl) rfl hfn) (pss_one (ps_ret (pe_callX (pe_ix ix_list (pe_var hi hvis hd hcd) hix hpx) hr (fun σ => passAt tk σ) ha (star_cons h1) (star_none h2 pos))))) fun E σ H ⟨B, F, α, rho, h, r, q⟩ => ?_
  refine ⟨by rw [sizeLine_eq]; omega, fun p hp => ?_⟩
  have x := Ext.put (o := .lst vs) r.sub hp
  unfold sSel at q
  split at q
  · rename_i hil
    have r2 := (r.ext x).set (i := i) (sl := .no) (v := .ref p) trivial (fun _ z => z.elim) (fun _ z => z.elim) (fun _ z => z.elim)
    refine ⟨.ref p, by rw [List.getElem?_set_self (by rw [← r.len]; exact hil)], ?_⟩
    exact t_sel tk hv r2 upd_same (post_imp (postS_of (postS_mono x.f q)) fun d F1 α1 H1 s1 ⟨h1, r1, p1⟩ v hv => p1 v _ _ F1 α1 H1 same_refl r1 hv)
  · exact q.elim
end
end Ev
/-! # Xh: texts -/
namespace Ev
open PySem PySem.Spec PyProof.Rows L2
section
variable {X : Cx} {W : WX} {K : PySem.W.Frag}
theorem isSg_of {x : Str} {c : Nat} (h : isSg x = some c) : x = ⟨#[c]⟩ := by
  unfold isSg at h
  split at h
  · rename_i e
    cases h
    exact Str.ext' (Array.toList_inj.mp (by rw [e]))
  · cases h
theorem p_inT : Prim2 K (fun x y H Q => ((rInD K x y H Q ∨ rInT K x y H Q) ∨ rInN K x y H Q) ∨ rInS x y H Q) pIn := by
  intro x y F H a b d Q s tx ty e q
  unfold pIn at e
  split at e
  · rename_i z
    split at e
    · rename_i u
      cases w : isSg u with
      | none => rw [w] at e; cases e
      | some c =>
        rw [w] at e
        cases e
        cases tx.str
        cases ty.str
        have ez := isSg_of w
        subst ez
        exact .inr ⟨c, z, rfl, rfl, q _ _ _ (ext0 s) (.bl _)⟩
    · cases e
  · exact .inl (p_inN x y F H a _ d Q s tx ty e q)
theorem p_notInT : Prim2 K (fun x y H Q => ((rNotInD K x y H Q ∨ rNotInT K x y H Q) ∨ rNotInN K x y H Q) ∨ rNotInS x y H Q) pNotIn := by
  intro x y F H a b d Q s tx ty e q
  unfold pNotIn at e
  split at e
  · rename_i z
    split at e
    · rename_i u
      cases w : isSg u with
      | none => rw [w] at e; cases e
      | some c =>
        rw [w] at e
        cases e
        cases tx.str
        cases ty.str
        have ez := isSg_of w
        subst ez
        exact .inr ⟨c, z, rfl, rfl, q _ _ _ (ext0 s) (.bl _)⟩
    · cases e
  · exact .inl (p_notInN x y F H a _ d Q s tx ty e q)
/-- texts of a list -/
theorem strs_rp {F : Hp} : ∀ {vs : List V} {ds : List D} {ys : List Str}, RpAll K F vs ds → strsOf ds = some ys → vs = ys.map V.str
  | _, _, ys, .nil, h => by cases h; rfl
  | _, d :: ds, ys, .cons h r, e => by
    cases d with
    | str x =>
      unfold strsOf at e
      split at e
      · rename_i w
        cases e
        cases h
        rw [List.map_cons, strs_rp r w]
      · cases e
    | _ => cases e
theorem rp_strs {F : Hp} : ∀ ys : List Str, RpAll K F (ys.map V.str) (ys.map PyData.str)
  | [] => .nil
  | y :: ys => .cons (.str y) (rp_strs ys)
/-- x.split(b) -/
theorem jl_split {e : Expr} {o : Opd} {b : Str} {j : Nat} {p2 apos pos : Pos} (he : JO X W e o) (hbase : attributeBase e "split" X.env (eval e X.env) = eval e X.env) (hline : (apos.endLine == pos.line) = true) :
    JL X W (.Call (.Attribute e "split" apos) [.Constant (.str b) j p2] [] pos) (lSplit o b) := by
  refine pe_mono (pe_split he pe_str (star_cons rfl) hbase hline) fun σ H Q ⟨B, F, α, rho, h, r, p⟩ => ?_
  refine tO_mono (Ev.o1 r p) fun x H1 ⟨F1, α1, h1, a, s1, r1, tx, p1⟩ => ?_
  cases a with
  | str z =>
    unfold kSplit lift1 at p1
    dsimp only at p1
    by_cases hz : (b.length == 0) = false ∧ z.length + 2 ≤ lim ∧ (Txt.split z b).length ≤ lim
    · rw [if_pos hz] at p1
      cases tx.str
      exact ⟨⟨z, rfl⟩, z, b, rfl, rfl, hz.1, Nat.le_trans hz.2.1 lim_le, new_lst r1 p1 ⟨rp_strs _, by rw [List.length_map]; exact Nat.le_trans hz.2.2 lim_le⟩⟩
    · rw [if_neg hz] at p1
      exact p1.elim
  | _ => exact p1.elim
/-- a.join(..) -/
theorem je_join {e : Expr} {o : Opd} {a : Str} {j : Nat} {p2 apos pos : Pos} (he : JO X W e o) (hs : isStar e = false) (hline : (apos.endLine == pos.line) = true) :
    JE X W (.Call (.Attribute (.Constant (.str a) j p2) "join" apos) [e] [] pos) (op1 o (lift1 (pJoin a))) := by
  refine pe_mono (pe_join pe_str he (star_cons hs) rfl hline) fun σ H Q ⟨B, F, α, rho, h, r, p⟩ => ⟨⟨a, rfl⟩, ?_⟩
  refine tO_mono (Ev.o1 r p) fun x H1 ⟨F1, α1, h1, d, s1, r1, tx, p1⟩ => ?_
  cases d with
  | list ds =>
    unfold pJoin lift1 at p1
    dsimp only at p1
    cases w : strsOf ds with
    | none => rw [w] at p1; exact p1.elim
    | some ys =>
      rw [w] at p1
      dsimp only at p1
      by_cases hz : (ys.map (·.length)).sum + ys.length * a.length ≤ lim
      · rw [if_pos hz] at p1
        obtain ⟨q, vs, rfl, h2, r2⟩ := tx.list r1.sub
        have ev := strs_rp r2.all w
        subst ev
        exact ⟨a, q, ys, rfl, rfl, .inl (.inl h2), Nat.le_trans hz (by decide), post_ok r1 p1 _ (.str _)⟩
      · rw [if_neg hz] at p1
        exact p1.elim
  | _ => exact p1.elim
end
end Ev
/-! # Xi: zip, gathered -/
namespace ZC
open PySem RZ
open PySem.Sem (wp)
abbrev IsZipB (h : Heap) (z TI TO : Addr) (f0 : Value) (b : Bool) : Prop := h.get? z = some { cls := .type "zip", dict := none, data := .fields #[f0, .bool b, .bool false, .ref TI, .ref TO], slots := #[] }
/-- where items come from, one by one -/
structure Src (prog : Program) (w : World) (i l : Addr) (xs : Array Value) where
  st : Nat → Heap → Prop
  keep : ∀ {k : Nat} {h h' : Heap}, st k h → (∀ o, h.get? i = some o → h'.get? i = some o) → (∀ o, h.get? l = some o → h'.get? l = some o) → st k h'
  lt : ∀ {k : Nat} {h : Heap}, st k h → i < h.objs.size
  item : ∀ {A : Around} {E : Value → Shared → Prop} {s : Shared} {k : Nat} {x : Value} {Q : Value → Shared → Prop}, st k s.heap → xs[k]? = some x → (∀ h', st (k + 1) h' → Heap.SameBut i s.heap h' → Q x { s with heap := h' }) → wpAny (model prog w) A (Builtin.SmallTypes.nextOf (.ref i)) Q E s
  stop : ∀ {A : Around} {E : Value → Shared → Prop} {s : Shared} {k : Nat} {Q : Value → Shared → Prop}, A.handled = none → st k s.heap → xs[k]? = none → (∀ h' e, Heap.ExtBut i s.heap h' → (∃ o, h'.get? e = some o ∧ o.cls = .type "StopIteration") → E (.ref e) { s with heap := h' }) → wpAny (model prog w) A (Builtin.SmallTypes.nextOf (.ref i)) Q E s
def srcL (prog : Program) (w : World) {i l : Addr} (hne : l ≠ i) (xs : Array Value) : Src prog w i l xs where
  st := fun k h => h.IsListIter i l k ∧ h.IsList l xs
  keep := fun ⟨a, b⟩ p q => ⟨a.at p, b.at q⟩
  lt := fun ⟨⟨_, e, _⟩, _⟩ => Heap.lt_size e
  item := fun ⟨a, b⟩ hx q => wpAny_nextOf_list_item a b hx fun h' a' sb => q h' ⟨a', b.extBut sb.extBut hne⟩ sb
  stop := fun hh ⟨a, b⟩ hx q => wpAny_nextOf_list_end hh a b hx q
def srcT (prog : Program) (w : World) {i l : Addr} (hne : l ≠ i) (xs : Array Value) : Src prog w i l xs where
  st := fun k h => h.IsTupleIter i l k ∧ h.IsTuple l xs
  keep := fun ⟨a, b⟩ p q => ⟨a.at p, b.at q⟩
  lt := fun ⟨⟨_, e, _⟩, _⟩ => Heap.lt_size e
  item := fun ⟨a, b⟩ hx q => nextOf_tuple_item a b hx fun h' a' sb => q h' ⟨a', b.at fun o e => sb.extBut _ _ hne e⟩ sb
  stop := fun hh ⟨a, b⟩ hx q => nextOf_tuple_end hh a b hx q
section
variable {prog : Program} {w : World} {A : Around} {E : Value → Shared → Prop} {s : Shared} {z TI TO i1 i2 l1 l2 T : Addr} {xs ys : Array Value}
theorem busy {bb : Bool} {oT : Obj} {Q : Bool → Shared → Prop} (hz : IsZipB s.heap z TI TO (rawInt T) bb) (hT : s.heap.get? T = some oT) (hQ : ∀ h', IsZipB h' z TI TO (rawInt T) true → Heap.SameBut z s.heap h' → Q false { s with heap := h' }) :
    wpAny (model prog w) A (Builtin.SmallTypes.ownedTupleIsFree (.ref z)) Q E s := by
  unfold Builtin.SmallTypes.ownedTupleIsFree
  refine wpAny_bind (wpAny_field hz rfl (x := rawInt T) rfl ?_)
  have e : (Int.toNat (T : Int)) = T := Int.toNat_natCast T
  dsimp only [rawInt]
  rw [e]
  refine wpAny_bind (PySem.W.kdx_alive hT ?_)
  rw [if_neg (by simp)]
  refine wpAny_bind (wpAny_field hz rfl (x := .bool bb) rfl ?_)
  cases bb with
  | true =>
    rw [if_neg (by decide)]
    exact wpAny_pure (hQ s.heap hz ⟨rfl, fun _ _ => rfl⟩)
  | false =>
    rw [if_pos (by decide)]
    refine wpAny_bind (wpAny_setField_rec hz (by simp) fun h' hz' sb => wpAny_pure (hQ h' hz' sb))
theorem busy_item {k : Nat} {bb : Bool} {oT : Obj} {x y : Value} {Q : Value → Shared → Prop} (S1 : Src prog w i1 l1 xs) (S2 : Src prog w i2 l2 ys) (D : ZipApart z TI TO i1 i2 l1 l2) (hz : IsZipB s.heap z TI TO (rawInt T) bb) (hTI : IsPair s.heap TI (.ref i1) (.ref i2)) (hT : s.heap.get? T = some oT)
    (h1 : S1.st k s.heap) (h2 : S2.st k s.heap) (hx : xs[k]? = some x) (hy : ys[k]? = some y)
    (hQ : ∀ h', (∀ c o, c ≠ z → c ≠ i1 → c ≠ i2 → s.heap.get? c = some o → h'.get? c = some o) → IsZipB h' z TI TO (rawInt T) true → S1.st (k + 1) h' → S2.st (k + 1) h' → IsPair h' s.heap.objs.size x y → h'.objs.size = s.heap.objs.size + 1 → Q (.ref s.heap.objs.size) { s with heap := h' }) :
    wpAny (model prog w) A (Builtin.«zip.__next__» ⟨[.ref z], []⟩) (fun fin s' => ∃ v, fin = .done (.ret v) ∧ Q v s') E s := by
  show wpAny _ _ (field (.ref z) 2 >>= _) _ _ _
  refine wpAny_bind (wpAny_field (o := { cls := .type "zip", dict := none, data := .fields #[rawInt T, .bool bb, .bool false, .ref TI, .ref TO], slots := #[] }) (x := .bool false) hz rfl rfl ?_)
  show wpAny _ _ (field (.ref z) 3 >>= _) _ _ _
  refine wpAny_bind (wpAny_field (o := { cls := .type "zip", dict := none, data := .fields #[rawInt T, .bool bb, .bool false, .ref TI, .ref TO], slots := #[] }) (x := .ref TI) hz rfl rfl ?_)
  refine wpAny_bind (wpAny_seqItems (o := { cls := .type "tuple", data := .seq #[.ref i1, .ref i2] }) hTI rfl ?_)
  show wpAny _ _ (Builtin.SmallTypes.ownedTupleIsFree (.ref z) >>= _) _ _ _
  refine wpAny_bind (busy hz hT fun h₁ hz₁ sb₁ => ?_)
  rw [if_neg (by decide)]
  have a1 := S1.keep h1 (fun o e => sb₁.extBut _ _ D.i1z e) (fun o e => sb₁.extBut _ _ D.l1z e)
  have a2 := S2.keep h2 (fun o e => sb₁.extBut _ _ D.i2z e) (fun o e => sb₁.extBut _ _ D.l2z e)
  dsimp only
  simp only [List.forIn_toArray, List.forIn_cons, List.forIn_nil]
  refine wpAny_bind (wpAny_bind (wpAny_bind (wpAny_holding ?_)))
  show wpAny _ _ (Builtin.SmallTypes.nextOf (.ref i1) >>= _) _ _ _
  refine wpAny_bind (S1.item (s := { s with heap := h₁ }) a1 hx fun h₂ b1 sb₂ => wpAny_pure (wpAny_pure ?_))
  have b2 := S2.keep a2 (fun o e => sb₂.extBut _ _ D.i12.symm e) (fun o e => sb₂.extBut _ _ D.l2i1 e)
  refine wpAny_bind (wpAny_bind (wpAny_holding ?_))
  show wpAny _ _ (Builtin.SmallTypes.nextOf (.ref i2) >>= _) _ _ _
  refine wpAny_bind (S2.item (s := { s with heap := h₂ }) b2 hy fun h₃ c2 sb₃ => wpAny_pure (wpAny_pure (wpAny_pure ?_)))
  have c1 := S1.keep b1 (fun o e => sb₃.extBut _ _ D.i12 e) (fun o e => sb₃.extBut _ _ D.l1i2 e)
  have hz₃ : IsZipB h₃ z TI TO (rawInt T) true := sb₃.extBut _ _ D.i2z.symm (sb₂.extBut _ _ D.i1z.symm hz₁)
  have e3 : h₃.objs.size = s.heap.objs.size := by rw [sb₃.1, sb₂.1, sb₁.1]
  refine wpAny_bind (wpAny_newTuple ?_ (by show 2 ≤ sizeLine; decide))
  refine wpAny_pure ⟨_, rfl, ?_⟩
  dsimp only
  rw [e3]
  have g : (h₃.push { cls := .type "tuple", data := .seq #[x, y] }).get? s.heap.objs.size = some { cls := .type "tuple", data := .seq #[x, y] } := by rw [← e3]; exact Heap.get?_push_size _ rfl
  refine hQ _ (fun c o n1 n2 n3 e => Heap.get?_push_of_some _ (sb₃.extBut _ _ n3 (sb₂.extBut _ _ n2 (sb₁.extBut _ _ n1 e)))) (Heap.get?_push_of_some _ hz₃) (S1.keep c1 (fun o e => Heap.get?_push_of_some _ e) fun o e => Heap.get?_push_of_some _ e) (S2.keep c2 (fun o e => Heap.get?_push_of_some _ e) fun o e => Heap.get?_push_of_some _ e) g (by rw [Heap.size_push, e3])
theorem busy_end {k : Nat} {bb : Bool} {oT : Obj} {Q : Fin → Shared → Prop} (hh : A.handled = none) (S1 : Src prog w i1 l1 xs) (S2 : Src prog w i2 l2 ys) (D : ZipApart z TI TO i1 i2 l1 l2) (hz : IsZipB s.heap z TI TO (rawInt T) bb) (hTI : IsPair s.heap TI (.ref i1) (.ref i2)) (hT : s.heap.get? T = some oT)
    (h1 : S1.st k s.heap) (h2 : S2.st k s.heap) (he : xs[k]? = none ∨ ys[k]? = none)
    (hE : ∀ h' e, (∀ c o, c ≠ z → c ≠ i1 → c ≠ i2 → s.heap.get? c = some o → h'.get? c = some o) → (∃ o, h'.get? e = some o ∧ o.cls = .type "StopIteration") → E (.ref e) { s with heap := h' }) :
    wpAny (model prog w) A (Builtin.«zip.__next__» ⟨[.ref z], []⟩) Q E s := by
  show wpAny _ _ (field (.ref z) 2 >>= _) _ _ _
  refine wpAny_bind (wpAny_field (o := { cls := .type "zip", dict := none, data := .fields #[rawInt T, .bool bb, .bool false, .ref TI, .ref TO], slots := #[] }) (x := .bool false) hz rfl rfl ?_)
  show wpAny _ _ (field (.ref z) 3 >>= _) _ _ _
  refine wpAny_bind (wpAny_field (o := { cls := .type "zip", dict := none, data := .fields #[rawInt T, .bool bb, .bool false, .ref TI, .ref TO], slots := #[] }) (x := .ref TI) hz rfl rfl ?_)
  refine wpAny_bind (wpAny_seqItems (o := { cls := .type "tuple", data := .seq #[.ref i1, .ref i2] }) hTI rfl ?_)
  show wpAny _ _ (Builtin.SmallTypes.ownedTupleIsFree (.ref z) >>= _) _ _ _
  refine wpAny_bind (busy hz hT fun h₁ hz₁ sb₁ => ?_)
  rw [if_neg (by decide)]
  have a1 := S1.keep h1 (fun o e => sb₁.extBut _ _ D.i1z e) (fun o e => sb₁.extBut _ _ D.l1z e)
  have a2 := S2.keep h2 (fun o e => sb₁.extBut _ _ D.i2z e) (fun o e => sb₁.extBut _ _ D.l2z e)
  dsimp only
  simp only [List.forIn_toArray, List.forIn_cons, List.forIn_nil]
  refine wpAny_bind (wpAny_bind (wpAny_bind (wpAny_holding ?_)))
  show wpAny _ _ (Builtin.SmallTypes.nextOf (.ref i1) >>= _) _ _ _
  cases hx : xs[k]? with
  | none =>
    exact wpAny_bind (S1.stop (s := { s with heap := h₁ }) hh a1 hx fun h₂ e x2 ho => hE h₂ e (fun c o n1 n2 _ q => x2 _ _ n2 (sb₁.extBut _ _ n1 q)) ho)
  | some x =>
    have hy : ys[k]? = none := by
      rcases he with he | he
      · rw [hx] at he; cases he
      · exact he
    refine wpAny_bind (S1.item (s := { s with heap := h₁ }) a1 hx fun h₂ b1 sb₂ => wpAny_pure (wpAny_pure ?_))
    have b2 := S2.keep a2 (fun o e => sb₂.extBut _ _ D.i12.symm e) (fun o e => sb₂.extBut _ _ D.l2i1 e)
    refine wpAny_bind (wpAny_bind (wpAny_holding ?_))
    show wpAny _ _ (Builtin.SmallTypes.nextOf (.ref i2) >>= _) _ _ _
    exact wpAny_bind (S2.stop (s := { s with heap := h₂ }) hh b2 hy fun h₃ e x3 ho => hE h₃ e (fun c o n1 n2 n3 q => x3 _ _ n3 (sb₂.extBut _ _ n2 (sb₁.extBut _ _ n1 q))) ho)
/-- the first item, or none -/
structure Fr (prog : Program) (w : World) (S1 : Src prog w i1 l1 xs) (S2 : Src prog w i2 l2 ys) (z TI TO : Addr) : Prop where
  item : ∀ {A : Around} {E : Value → Shared → Prop} {s : Shared} {x y a b : Value} {Q : Option Value → Shared → Prop}, IsZip s.heap z TI TO .none → IsPair s.heap TI (.ref i1) (.ref i2) → IsPair s.heap TO a b → S1.st 0 s.heap → S2.st 0 s.heap → xs[0]? = some x → ys[0]? = some y →
    (∀ h', IsZipB h' z TI TO (rawInt s.heap.objs.size) false → S1.st 1 h' → S2.st 1 h' → IsPair h' s.heap.objs.size x y → h'.objs.size = s.heap.objs.size + 1 → (∀ c o, c ≠ z → c ≠ TO → c ≠ i1 → c ≠ i2 → s.heap.get? c = some o → h'.get? c = some o) → Q (some (.ref s.heap.objs.size)) { s with heap := h' }) → wpAny (model prog w) A (pyNext (.ref z)) Q E s
  stop : ∀ {A : Around} {E : Value → Shared → Prop} {s : Shared} {a b : Value} {Q : Option Value → Shared → Prop}, A.handled = none → IsZip s.heap z TI TO .none → IsPair s.heap TI (.ref i1) (.ref i2) → IsPair s.heap TO a b → S1.st 0 s.heap → S2.st 0 s.heap → xs[0]? = none ∨ ys[0]? = none →
    (∀ h', (∀ c o, c ≠ z → c ≠ TO → c ≠ i1 → c ≠ i2 → s.heap.get? c = some o → h'.get? c = some o) → Q none { s with heap := h' }) → wpAny (model prog w) A (pyNext (.ref z)) Q E s
theorem frL (D : ZipApart z TI TO i1 i2 l1 l2) : Fr prog w (srcL prog w D.l1i1 xs) (srcL prog w D.l2i2 ys) z TI TO where
  item := fun hz hTI hTO h1 h2 hx hy q => wpAny_pyNext_zip_item D hz hTI hTO h1.1 h2.1 h1.2 h2.2 hx hy fun h' a1 _ a3 a4 a5 a6 a7 => q h' a1 ⟨a3, h1.2.at fun o e => a7 _ o D.l1z D.l1TO D.l1i1 D.l1i2 e⟩ ⟨a4, h2.2.at fun o e => a7 _ o D.l2z D.l2TO D.l2i1 D.l2i2 e⟩ a5 a6 a7
  stop := fun hh hz hTI hTO h1 h2 he q => wpAny_pyNext_zip_end hh D hz hTI hTO h1.1 h2.1 h1.2 h2.2 he q
theorem frT (D : ZipApart z TI TO i1 i2 l1 l2) : Fr prog w (srcT prog w D.l1i1 xs) (srcT prog w D.l2i2 ys) z TI TO where
  item := fun hz hTI hTO h1 h2 hx hy q => pyNext_zipT_item D hz hTI hTO h1.1 h2.1 h1.2 h2.2 hx hy fun h' a1 _ a3 a4 a5 a6 a7 => q h' a1 ⟨a3, h1.2.at fun o e => a7 _ o D.l1z D.l1TO D.l1i1 D.l1i2 e⟩ ⟨a4, h2.2.at fun o e => a7 _ o D.l2z D.l2TO D.l2i1 D.l2i2 e⟩ a5 a6 a7
  stop := fun hh hz hTI hTO h1 h2 he q => pyNext_zipT_end hh D hz hTI hTO h1.1 h2.1 h1.2 h2.2 he q
/-- how the zip stands behind k items; lo: items lie above -/
structure Zst (S1 : Src prog w i1 l1 xs) (S2 : Src prog w i2 l2 ys) (z TI TO lo k : Nat) (h : Heap) : Prop where
  ti : IsPair h TI (.ref i1) (.ref i2)
  s1 : S1.st k h
  s2 : S2.st k h
  zz : (k = 0 ∧ IsZip h z TI TO .none ∧ ∃ a b, IsPair h TO a b) ∨ ∃ T bb oT, IsZipB h z TI TO (rawInt (T : Nat)) bb ∧ h.get? T = some oT ∧ lo < T
/-- addresses below a line -/
structure Lows (lo z TI TO i1 i2 l1 l2 : Addr) : Prop where
  z : z < lo
  TI : TI < lo
  TO : TO < lo
  i1 : i1 < lo
  i2 : i2 < lo
  l1 : l1 < lo
  l2 : l2 < lo
theorem Zst.keep {S1 : Src prog w i1 l1 xs} {S2 : Src prog w i2 l2 ys} {lo k : Nat} {h h' : Heap} (q : Zst S1 S2 z TI TO lo k h) (L : Lows lo z TI TO i1 i2 l1 l2) (hk : ∀ b o, b ≠ lo → h.get? b = some o → h'.get? b = some o) : Zst S1 S2 z TI TO lo k h' := by
  refine ⟨hk _ _ (Nat.ne_of_lt L.TI) q.ti, S1.keep q.s1 (fun o e => hk _ _ (Nat.ne_of_lt L.i1) e) (fun o e => hk _ _ (Nat.ne_of_lt L.l1) e), S2.keep q.s2 (fun o e => hk _ _ (Nat.ne_of_lt L.i2) e) (fun o e => hk _ _ (Nat.ne_of_lt L.l2) e), ?_⟩
  rcases q.zz with ⟨e, a, x, y, b⟩ | ⟨T, bb, oT, a, b, c⟩
  · exact .inl ⟨e, hk _ _ (Nat.ne_of_lt L.z) a, x, y, hk _ _ (Nat.ne_of_lt L.TO) b⟩
  · exact .inr ⟨T, bb, oT, hk _ _ (Nat.ne_of_lt L.z) a, hk _ _ (Nat.ne_of_gt c) b, c⟩
theorem nxt {S1 : Src prog w i1 l1 xs} {S2 : Src prog w i2 l2 ys} {lo k : Nat} {x y : Value} {Q : Option Value → Shared → Prop} (Fr0 : Fr prog w S1 S2 z TI TO) (D : ZipApart z TI TO i1 i2 l1 l2) (L : Lows lo z TI TO i1 i2 l1 l2) (hlo : lo < s.heap.objs.size) (q : Zst S1 S2 z TI TO lo k s.heap) (hx : xs[k]? = some x) (hy : ys[k]? = some y)
    (hQ : ∀ h', Zst S1 S2 z TI TO lo (k + 1) h' → IsPair h' s.heap.objs.size x y → (∀ c o, c ≠ z → c ≠ TO → c ≠ i1 → c ≠ i2 → s.heap.get? c = some o → h'.get? c = some o) → Q (some (.ref s.heap.objs.size)) { s with heap := h' }) : wpAny (model prog w) A (pyNext (.ref z)) Q E s := by
  rcases q.zz with ⟨rfl, hz, a, b, hTO⟩ | ⟨T, bb, oT, hz, hT, hl⟩
  · exact Fr0.item hz q.ti hTO q.s1 q.s2 hx hy fun h' a1 a2 a3 a4 a5 a6 => hQ h' ⟨a6 _ _ D.TIz D.TITO D.TIi1 D.TIi2 q.ti, a2, a3, .inr ⟨_, false, _, a1, a4, hlo⟩⟩ a4 a6
  · have ht : s.TypeIs (.ref z) "zip" := ⟨_, hz, rfl⟩
    unfold pyNext
    refine wpAny_bind (wpAny_attempt (wpAny_callSpecial?_slot (name := Str.ofString "__next__") ht F.slot_zip_next (wpAny_call_entry F.slot_zip_next ht F.entry_zip_next (busy_item S1 S2 D hz q.ti hT q.s1 q.s2 hx hy fun h' k1 k2 k3 k4 k5 k6 => wpAny_pure ?_) (F.args_zip_next_1 _))))
    refine hQ h' ⟨k1 _ _ D.TIz D.TIi1 D.TIi2 q.ti, k3, k4, .inr ⟨T, true, oT, k2, k1 _ _ ?_ ?_ ?_ hT, hl⟩⟩ k5 fun c o n1 _ n3 n4 e => k1 c o n1 n3 n4 e
    · exact Nat.ne_of_gt (Nat.lt_trans L.z hl)
    · exact Nat.ne_of_gt (Nat.lt_trans L.i1 hl)
    · exact Nat.ne_of_gt (Nat.lt_trans L.i2 hl)
theorem fin {S1 : Src prog w i1 l1 xs} {S2 : Src prog w i2 l2 ys} {lo k : Nat} {Q : Option Value → Shared → Prop} (hh : A.handled = none) (Fr0 : Fr prog w S1 S2 z TI TO) (D : ZipApart z TI TO i1 i2 l1 l2) (q : Zst S1 S2 z TI TO lo k s.heap) (he : xs[k]? = none ∨ ys[k]? = none)
    (hQ : ∀ h', (∀ c o, c ≠ z → c ≠ TO → c ≠ i1 → c ≠ i2 → s.heap.get? c = some o → h'.get? c = some o) → Q none { s with heap := h' }) : wpAny (model prog w) A (pyNext (.ref z)) Q E s := by
  rcases q.zz with ⟨rfl, hz, a, b, hTO⟩ | ⟨T, bb, oT, hz, hT, hl⟩
  · exact Fr0.stop hh hz q.ti hTO q.s1 q.s2 he hQ
  · have ht : s.TypeIs (.ref z) "zip" := ⟨_, hz, rfl⟩
    unfold pyNext
    refine wpAny_bind (wpAny_attempt (wpAny_callSpecial?_slot (name := Str.ofString "__next__") ht F.slot_zip_next (wpAny_call_entry F.slot_zip_next ht F.entry_zip_next (busy_end hh S1 S2 D hz q.ti hT q.s1 q.s2 he fun h' e k1 ho => ?_) (F.args_zip_next_1 _))))
    obtain ⟨o, ho, hc⟩ := ho
    refine wpAny_bind (wpAny_isInstance (T := "StopIteration") (b := true) ⟨o, ho, hc⟩ isSubtype_stop ?_)
    exact wpAny_pure (hQ h' fun c o n1 _ n3 n4 e => k1 c o n1 n3 n4 e)
/-- pairs that were made, above lo -/
structure MadeZ (xs ys : Array Value) (lo : Addr) (h : Heap) (as : List Addr) : Prop where
  rise : as.Pairwise (· < ·)
  above : ∀ a ∈ as, lo < a
  pr : ∀ (j : Nat) (a : Addr), as[j]? = some a → ∃ x y, xs[j]? = some x ∧ ys[j]? = some y ∧ IsPair h a x y
theorem MadeZ.mono {lo : Addr} {h h' : Heap} {as : List Addr} (g : MadeZ xs ys lo h as) (hk : ∀ b o, lo < b → h.get? b = some o → h'.get? b = some o) : MadeZ xs ys lo h' as :=
  ⟨g.rise, g.above, fun j a hj => by
    obtain ⟨x, y, e1, e2, e3⟩ := g.pr j a hj
    exact ⟨x, y, e1, e2, hk _ _ (g.above a (List.mem_of_getElem? hj)) e3⟩⟩
theorem MadeZ.snoc {lo n : Addr} {h : Heap} {as : List Addr} {x y : Value} (g : MadeZ xs ys lo h as) (hx : xs[as.length]? = some x) (hy : ys[as.length]? = some y) (hp : IsPair h n x y) (hlo : lo < n) (hup : ∀ a ∈ as, a < n) : MadeZ xs ys lo h (as ++ [n]) := by
  refine ⟨List.pairwise_append.mpr ⟨g.rise, List.pairwise_singleton _ _, fun a ha b hb => by rw [List.mem_singleton.mp hb]; exact hup a ha⟩, fun a ha => ?_, fun j a hj => ?_⟩
  · rcases List.mem_append.mp ha with ha | ha
    · exact g.above a ha
    · rw [List.mem_singleton.mp ha]; exact hlo
  · by_cases h1 : j < as.length
    · rw [List.getElem?_append_left h1] at hj
      exact g.pr j a hj
    · rw [List.getElem?_append_right (by omega)] at hj
      by_cases h2 : j - as.length = 0
      · rw [h2] at hj
        have e : n = a := by simpa using hj
        subst e
        have e2 : j = as.length := by omega
        subst e2
        exact ⟨x, y, hx, hy, hp⟩
      · rw [List.getElem?_eq_none (by rw [List.length_singleton]; omega)] at hj
        cases hj
def Kept (S z TO i1 i2 : Addr) (h h' : Heap) : Prop := ∀ b o, b ≠ S → b ≠ z → b ≠ TO → b ≠ i1 → b ≠ i2 → h.get? b = some o → h'.get? b = some o
theorem loopZ {S1 : Src prog w i1 l1 xs} {S2 : Src prog w i2 l2 ys} {S : Addr} {R : Result → Shared → Prop} (hh : A.handled = none) (Fr0 : Fr prog w S1 S2 z TI TO) (D : ZipApart z TI TO i1 i2 l1 l2) (L : Lows S z TI TO i1 i2 l1 l2) (hn : min xs.size ys.size ≤ sizeLine) (res : Value) {h₁ : Heap}
    (hR : ∀ h' tk acc c as, Kept S z TO i1 i2 h₁ h' → h'.get? S = some { cls := .type "list", dict := none, data := .seq acc c, slots := #[] } → as.length = min xs.size ys.size → MadeZ xs ys S h' as → acc.toList = as.map Value.ref → R (.ok (.ret res)) { s with heap := h', toks := tk }) :
    ∀ (k i : Nat) (h : Heap) (tk c : Nat) (acc : Array Value) (as : List Addr), min xs.size ys.size - i = k → i ≤ min xs.size ys.size → Zst S1 S2 z TI TO S i h → Kept S z TO i1 i2 h₁ h → h.get? S = some { cls := .type "list", dict := none, data := .seq acc c, slots := #[] } → acc.toList = as.map Value.ref → as.length = i → MadeZ xs ys S h as →
      codeAny (model prog w) A (.builtin "list.extend.loop" ⟨[.ref S, .ref z, res], []⟩) R { s with heap := h, toks := tk } := by
  intro k
  induction k with
  | zero =>
    intro i h tk c acc as hk hi hst hkp hS hacc hal hG
    refine codeAny_builtin F.entry_extend_loop (by
      rw [Around.under_plainId F.plain_extend_loop _]
      show wpAny _ A.in1 (pyNext (.ref z) >>= _) _ _ _
      refine wpAny_bind (fin (s := { s with heap := h, toks := tk }) (A := A.in1) hh Fr0 D hst ?_ fun h' he => ?_)
      · by_cases hq : xs.size ≤ i
        · exact .inl (Array.getElem?_eq_none hq)
        · exact .inr (Array.getElem?_eq_none (by omega))
      · have he' : ∀ b o, S < b → h.get? b = some o → h'.get? b = some o := fun b o hb e => he b o (Nat.ne_of_gt (Nat.lt_trans L.z hb)) (Nat.ne_of_gt (Nat.lt_trans L.TO hb)) (Nat.ne_of_gt (Nat.lt_trans L.i1 hb)) (Nat.ne_of_gt (Nat.lt_trans L.i2 hb)) e
        exact wpAny_pure (hR h' tk acc c as (fun b o n1 n2 n3 n4 n5 e => he b o n2 n3 n4 n5 (hkp b o n1 n2 n3 n4 n5 e)) (he S _ (Nat.ne_of_gt L.z) (Nat.ne_of_gt L.TO) (Nat.ne_of_gt L.i1) (Nat.ne_of_gt L.i2) hS) (by omega) (hG.mono he') hacc))
  | succ k ih =>
    intro i h tk c acc as hk hi hst hkp hS hacc hal hG
    have hlt : i < min xs.size ys.size := by omega
    have hx : xs[i]? = some (xs[i]'(by omega)) := Array.getElem?_eq_getElem _
    have hy : ys[i]? = some (ys[i]'(by omega)) := Array.getElem?_eq_getElem _
    have hsz : acc.size = i := by rw [← Array.length_toList, hacc, List.length_map, hal]
    have hSl : S < h.objs.size := Heap.lt_size hS
    refine codeAny_builtin F.entry_extend_loop (by
      rw [Around.under_plainId F.plain_extend_loop _]
      show wpAny _ A.in1 (pyNext (.ref z) >>= _) _ _ _
      refine wpAny_bind (nxt (s := { s with heap := h, toks := tk }) (A := A.in1) Fr0 D L hSl hst hx hy fun h' hst' hp hkq => ?_)
      dsimp only at hp hkq ⊢
      have hS' := hkq S _ (Nat.ne_of_gt L.z) (Nat.ne_of_gt L.TO) (Nat.ne_of_gt L.i1) (Nat.ne_of_gt L.i2) hS
      have up : ∀ b o, b ≠ S → h'.get? b = some o → (h'.update S (Obj.mapSeq (·.push (Value.ref h.objs.size)))).get? b = some o := fun b o hb e => (Heap.get?_update_other _ _ (Ne.symm hb)).trans e
      have hi' : ∀ b o, S < b → h.get? b = some o → h'.get? b = some o := fun b o hb e => hkq b o (Nat.ne_of_gt (Nat.lt_trans L.z hb)) (Nat.ne_of_gt (Nat.lt_trans L.TO hb)) (Nat.ne_of_gt (Nat.lt_trans L.i1 hb)) (Nat.ne_of_gt (Nat.lt_trans L.i2 hb)) e
      show wpAny _ A.in1 (updateSeq S (·.push (Value.ref h.objs.size)) >>= _) _ _ _
      refine wpAny_bind (wpAny_updateSeq hS' rfl (wpAny_pure ⟨plainId_quiet F.plain_extend_loop _, ih (i + 1) _ tk _ (acc.push (Value.ref h.objs.size)) (as ++ [h.objs.size]) (by omega) hlt (hst'.keep L up) (fun b o n1 n2 n3 n4 n5 e => up b o n1 (hkq b o n2 n3 n4 n5 (hkp b o n1 n2 n3 n4 n5 e))) (Heap.get?_update_self _ hS' rfl) (by rw [Array.toList_push, hacc, List.map_append]; rfl) (by rw [List.length_append, hal]; rfl) ?_⟩) (by rw [hsz]; omega) (by show (acc.push (Value.ref h.objs.size)).size ≤ sizeLine + 1; rw [Array.size_push, hsz]; omega))
      refine ((hG.mono hi').mono fun b o hb e => up b o (Nat.ne_of_gt hb) e).snoc (by rw [hal]; exact hx) (by rw [hal]; exact hy) (up _ _ (Nat.ne_of_gt hSl) hp) hSl fun a ha => ?_
      obtain ⟨j, hj⟩ := List.mem_iff_getElem?.mp ha
      obtain ⟨_, _, _, _, e⟩ := hG.pr j a hj
      exact Heap.lt_size e)
theorem zip_nolen : typeLookup (.type "zip") "__len__" = pure none := by rw [typeLookup_type, builtinLookup_eq_fast]; kernel_rfl
theorem zip_nohint : typeLookup (.type "zip") "__length_hint__" = pure none := by rw [typeLookup_type, builtinLookup_eq_fast]; kernel_rfl
theorem extZ {S1 : Src prog w i1 l1 xs} {S2 : Src prog w i2 l2 ys} {S : Addr} {R : Result → Shared → Prop} (hh : A.handled = none) (Fr0 : Fr prog w S1 S2 z TI TO) (D : ZipApart z TI TO i1 i2 l1 l2) (L : Lows S z TI TO i1 i2 l1 l2) (hn : min xs.size ys.size ≤ sizeLine) (res : Value) (c₀ : Nat)
    (hS : s.heap.get? S = some { cls := .type "list", data := .seq #[] c₀ }) (hz : IsZip s.heap z TI TO .none) (hTI : IsPair s.heap TI (.ref i1) (.ref i2)) (hTO : ∃ a b, IsPair s.heap TO a b) (h1 : S1.st 0 s.heap) (h2 : S2.st 0 s.heap)
    (hR : ∀ h' tk acc c as, Kept S z TO i1 i2 s.heap h' → h'.get? S = some { cls := .type "list", dict := none, data := .seq acc c, slots := #[] } → as.length = min xs.size ys.size → MadeZ xs ys S h' as → acc.toList = as.map Value.ref → R (.ok (.ret res)) { s with heap := h', toks := tk }) :
    wpAny (model prog w) A.in1 (Builtin.List.listExtendWith (.ref S) (.ref z) res) (fun fin s' => match fin with | .done f => R (.ok f) s' | .again c' => c'.quiet = true ∧ codeAny (model prog w) A c' R s') (fun e s' => R (.error e) s') s := by
  have hT : ∀ s' : Shared, IsZip s'.heap z TI TO .none → s'.TypeIs (.ref z) "zip" := fun _ e => ⟨_, e, rfl⟩
  have e1 : Builtin.List.listSameRef (.ref S) (.ref z) = false := by simp [Builtin.List.listSameRef, Nat.ne_of_gt L.z]
  unfold Builtin.List.listExtendWith
  refine wpAny_bind (wpAny_typeOf (hT s hz) ?_)
  rw [if_neg (by rw [e1]; decide)]
  refine wpAny_bind (wpAny_pyIter_zip hz (wpAny_bind (wpAny_holding ?_)))
  unfold Builtin.List.listLengthHint
  refine wpAny_bind (wpAny_specialOf (hT s hz) zip_nolen ?_)
  show wpAny _ A.in1 (specialOf (Value.ref z) (Str.ofString "__length_hint__") >>= _) _ _ _
  refine wpAny_bind (wpAny_specialOf (hT s hz) zip_nohint (wpAny_pure ?_))
  rw [if_pos (by rfl)]
  refine wpAny_bind (wpAny_rule (wpAny_bind ?_))
  show wpAny _ _ (updateSeq S (·.push .none) >>= fun _ => updateSeq S (·.pop)) _ _ _
  refine wpAny_bind (wpAny_updateSeq hS rfl ?_)
  have hS₂ := Heap.get?_update_self (Obj.mapSeq (·.push Value.none)) hS rfl
  refine wpAny_updateSeq (hz := by seq_fits) hS₂ rfl ?_
  have hS₃ := Heap.get?_update_self (Obj.mapSeq (·.pop)) hS₂ rfl
  have up : ∀ b o, b ≠ S → s.heap.get? b = some o → ((s.heap.update S (Obj.mapSeq (·.push Value.none))).update S (Obj.mapSeq (·.pop))).get? b = some o := fun b o hb e => (Heap.get?_update_other _ _ (Ne.symm hb)).trans ((Heap.get?_update_other _ _ (Ne.symm hb)).trans e)
  obtain ⟨a, b, hTO⟩ := hTO
  have Z0 : Zst S1 S2 z TI TO S 0 s.heap := ⟨hTI, h1, h2, .inl ⟨rfl, hz, a, b, hTO⟩⟩
  exact wpAny_pure ⟨plainId_quiet F.plain_extend_loop _, loopZ (h₁ := s.heap) hh Fr0 D L hn res hR _ 0 _ _ _ #[] [] rfl (Nat.zero_le _) (Z0.keep L up) (fun b o n1 _ _ _ _ e => up b o n1 e) hS₃ rfl rfl ⟨.nil, fun a ha => (by simp at ha), fun j a hj => by simp at hj⟩⟩
theorem collectZ {S1 : Src prog w i1 l1 xs} {S2 : Src prog w i2 l2 ys} {R : List Value → Shared → Prop} (hh : A.handled = none) (Fr0 : Fr prog w S1 S2 z TI TO) (D : ZipApart z TI TO i1 i2 l1 l2) (L : Lows s.heap.objs.size z TI TO i1 i2 l1 l2) (hn : min xs.size ys.size ≤ sizeLine)
    (hz : IsZip s.heap z TI TO .none) (hTI : IsPair s.heap TI (.ref i1) (.ref i2)) (hTO : ∃ a b, IsPair s.heap TO a b) (h1 : S1.st 0 s.heap) (h2 : S2.st 0 s.heap)
    (hR : ∀ (h' : Heap) (tk : Nat) (as : List Addr), (∀ b o, b ≠ z → b ≠ TO → b ≠ i1 → b ≠ i2 → s.heap.get? b = some o → h'.get? b = some o) → as.length = min xs.size ys.size → MadeZ xs ys s.heap.objs.size h' as → R (as.map Value.ref) { s with heap := h', toks := tk }) :
    wpAny (model prog w) A (collect (.ref z)) R E s := by
  have pu : ∀ b o, s.heap.get? b = some o → (s.heap.push { cls := .type "list", data := .seq ([] : List Value).toArray }).get? b = some o := fun b o e => Heap.get?_push_of_some _ e
  obtain ⟨ta, tb, hTO⟩ := hTO
  unfold collect
  refine wpAny_bind (wpAny_runValue (codeAny_builtin F.entry_proto_collect (by
    rw [Around.under_plainId F.plain_proto_collect _]
    show wpAny _ A.in1 (newList [] >>= fun l => again (.builtin "list.__iadd__" ⟨[l, .ref z], []⟩)) _ _ s
    refine wpAny_bind (wpAny_newObj_type (wpAny_pure ⟨plainId_quiet F.plain_list_iadd _, codeAny_builtin F.entry_list_iadd (by
      rw [Around.under_plainId F.plain_list_iadd _]
      show wpAny _ A.in1 (Builtin.List.listExtendWith (.ref s.heap.objs.size) (.ref z) (.ref s.heap.objs.size)) _ _ _
      refine wpAny_mono (extZ (S1 := S1) (S2 := S2) (A := A) (s := { s with heap := s.heap.push { cls := .type "list", data := .seq ([] : List Value).toArray } }) (S := s.heap.objs.size)
        (R := fun q s' => q = .ok (.ret (.ref s.heap.objs.size)) ∧ ∃ (h' : Heap) (tk : Nat) (acc : Array Value) (c : Nat) (as : List Addr), s' = { s with heap := h', toks := tk } ∧ (∀ b o, b ≠ z → b ≠ TO → b ≠ i1 → b ≠ i2 → s.heap.get? b = some o → h'.get? b = some o) ∧ h'.get? s.heap.objs.size = some { cls := .type "list", dict := none, data := .seq acc c, slots := #[] } ∧ as.length = min xs.size ys.size ∧ MadeZ xs ys s.heap.objs.size h' as ∧ acc.toList = as.map Value.ref)
        hh Fr0 D L hn _ 0 (Heap.get?_push_size _ rfl) (pu _ _ hz) (pu _ _ hTI) ⟨ta, tb, pu _ _ hTO⟩ (S1.keep h1 (fun o e => pu _ _ e) fun o e => pu _ _ e) (S2.keep h2 (fun o e => pu _ _ e) fun o e => pu _ _ e)
        fun h' tk acc c as hk hS hl hG hacc => ⟨rfl, h', tk, acc, c, as, rfl, fun b o n1 n2 n3 n4 e => hk b o (Nat.ne_of_lt (Heap.lt_size e)) n1 n2 n3 n4 (pu _ _ e), hS, hl, hG, hacc⟩) (fun f s' q => ?_) fun e s' q => absurd q.1 (by simp)
      cases f with
      | done f =>
        obtain ⟨e, h', tk, acc, c, as, rfl, hk, hS, hl, hG, hacc⟩ := q
        cases e
        show wpAny _ A (load s.heap.objs.size >>= _) _ _ _
        exact wpAny_bind (wpAny_load hS (wpAny_pure (by show R acc.toList _; rw [hacc]; exact hR h' tk as hk hl hG)))
      | again c₁ =>
        refine ⟨q.1, codeAny_mono q.2 fun r s₂ y => ?_⟩
        obtain ⟨rfl, h', tk, acc, c, as, rfl, hk, hS, hl, hG, hacc⟩ := y
        show wpAny _ A (load s.heap.objs.size >>= _) _ _ _
        exact wpAny_bind (wpAny_load hS (wpAny_pure (by show R acc.toList _; rw [hacc]; exact hR h' tk as hk hl hG))))⟩)))))
theorem tuple_newZ {S1 : Src prog w i1 l1 xs} {S2 : Src prog w i2 l2 ys} {Q₁ : Value → Shared → Prop} (hh : A.handled = none) (Fr0 : Fr prog w S1 S2 z TI TO) (D : ZipApart z TI TO i1 i2 l1 l2) (L : Lows s.heap.objs.size z TI TO i1 i2 l1 l2) (hn : min xs.size ys.size ≤ sizeLine)
    (hz : IsZip s.heap z TI TO .none) (hTI : IsPair s.heap TI (.ref i1) (.ref i2)) (hTO : ∃ a b, IsPair s.heap TO a b) (h1 : S1.st 0 s.heap) (h2 : S2.st 0 s.heap)
    (hR : ∀ (h' : Heap) (tk : Nat) (as : List Addr), (∀ b o, b ≠ z → b ≠ TO → b ≠ i1 → b ≠ i2 → s.heap.get? b = some o → h'.get? b = some o) → as.length = min xs.size ys.size → MadeZ xs ys s.heap.objs.size h' as → Q₁ (.ref h'.objs.size) { s with heap := h'.push { cls := .type "tuple", data := .seq (as.map Value.ref).toArray }, toks := tk }) :
    codeAny (model prog w) A (.call (.builtin "tuple.__new__") ⟨[.type "tuple", .ref z], []⟩) (wants Q₁ E) s := by
  refine codeAny_of_tree (by
    show wpAny _ A.in1 (do checkBuiltinCall "tuple.__new__" ⟨[.type "tuple", .ref z], []⟩; again (.builtin "tuple.__new__" ⟨[.type "tuple", .ref z], []⟩)) _ _ s
    refine wpAny_bind (wpAny_of_eq (F.newCall_tuple_1 _) (wpAny_pure ⟨plainId_quiet F.plain_tuple_new _, codeAny_builtin F.entry_tuple_new (by
      rw [Around.under_plainId F.plain_tuple_new _]
      have hsub := sub_tuple_self
      have hinit := init_tuple_lookup
      have hmh := madeHere_tuple
      have hZ : s.TypeIs (.ref z) "zip" := ⟨_, hz, rfl⟩
      have hh1 : A.in1.handled = none := hh
      wp_walk using wpAny_typeOf hZ, collectZ (A := A.in1) hh1 Fr0 D L hn hz hTI hTO h1 h2
      intro h' tk as hk hl hG
      show wpAny _ _ (Builtin.Tuple.tupleExact (as.map Value.ref).toArray >>= fun v => ret v) _ _ _
      unfold Builtin.Tuple.tupleExact
      exact wpAny_bind (wpAny_newObj_type (wpAny_pure (hR h' tk as hk hl hG)) (by show (as.map Value.ref).toArray.size ≤ sizeLine; rw [List.size_toArray, List.length_map, hl]; exact hn)))⟩)))
theorem call_tupleZ {S1 : Src prog w i1 l1 xs} {S2 : Src prog w i2 l2 ys} {Q : Value → Shared → Prop} (hh : A.handled = none) (Fr0 : Fr prog w S1 S2 z TI TO) (D : ZipApart z TI TO i1 i2 l1 l2) (L : Lows s.heap.objs.size z TI TO i1 i2 l1 l2) (hn : min xs.size ys.size ≤ sizeLine)
    (hz : IsZip s.heap z TI TO .none) (hTI : IsPair s.heap TI (.ref i1) (.ref i2)) (hTO : ∃ a b, IsPair s.heap TO a b) (h1 : S1.st 0 s.heap) (h2 : S2.st 0 s.heap)
    (hR : ∀ (h' : Heap) (tk : Nat) (as : List Addr), (∀ b o, b ≠ z → b ≠ TO → b ≠ i1 → b ≠ i2 → s.heap.get? b = some o → h'.get? b = some o) → as.length = min xs.size ys.size → MadeZ xs ys s.heap.objs.size h' as → Q (.ref h'.objs.size) { s with heap := h'.push { cls := .type "tuple", data := .seq (as.map Value.ref).toArray }, toks := tk }) :
    wpAny (model prog w) A (call (.type "tuple") [.ref z]) Q E s :=
  callType_codes (Q₁ := fun obj s₁ => s₁.TypeIs obj "tuple" ∧ Q obj s₁) F.called_tuple (F.typeCall_tuple_1 _) F.entry_object_init
    (tuple_newZ (A := A.in1) hh Fr0 D L hn hz hTI hTO h1 h2 fun h' tk as hk hl hG => ⟨⟨_, Heap.get?_push_size _ rfl, rfl⟩, hR h' tk as hk hl hG⟩) fun obj s₁ q => ⟨q.1, F.args_object_init_2 obj _, object_init_meets F.called_tuple.init.lookup F.called_tuple.made (by decide) prog w A.in1 _ s₁ ⟨q.1, rfl, q.2⟩⟩
theorem call_listZ {S1 : Src prog w i1 l1 xs} {S2 : Src prog w i2 l2 ys} {Q : Value → Shared → Prop} (hh : A.handled = none) (Fr0 : Fr prog w S1 S2 z TI TO) (D : ZipApart z TI TO i1 i2 l1 l2) (L : Lows s.heap.objs.size z TI TO i1 i2 l1 l2) (hn : min xs.size ys.size ≤ sizeLine)
    (hz : IsZip s.heap z TI TO .none) (hTI : IsPair s.heap TI (.ref i1) (.ref i2)) (hTO : ∃ a b, IsPair s.heap TO a b) (h1 : S1.st 0 s.heap) (h2 : S2.st 0 s.heap)
    (hR : ∀ (h' : Heap) (tk : Nat) (as : List Addr) (c : Nat), (∀ b o, b ≠ z → b ≠ TO → b ≠ i1 → b ≠ i2 → s.heap.get? b = some o → h'.get? b = some o) → as.length = min xs.size ys.size → MadeZ xs ys s.heap.objs.size h' as → h'.get? s.heap.objs.size = some { cls := .type "list", dict := none, data := .seq (as.map Value.ref).toArray c, slots := #[] } → Q (.ref s.heap.objs.size) { s with heap := h', toks := tk }) :
    wpAny (model prog w) A (call (.type "list") [.ref z]) Q E s := by
  refine callType_codes (Q₁ := fun obj s₁ => obj = .ref s.heap.objs.size ∧ s₁ = { s with heap := s.heap.push { cls := .type "list", data := .seq #[] } }) F.called_list (F.typeCall_list_1 _) F.entry_list_init (code_list_new _ ⟨rfl, rfl⟩) fun obj s₁ q => ?_
  obtain ⟨rfl, rfl⟩ := q
  have hS : (s.heap.push { cls := .type "list", data := .seq #[] }).get? s.heap.objs.size = some { cls := .type "list", data := .seq #[] } := Heap.get?_push_size _ rfl
  refine ⟨⟨_, hS, rfl⟩, F.args_list_init_2 _ _, ?_⟩
  show wpAny _ _ (do let old ← Builtin.List.listItems (.ref s.heap.objs.size); Builtin.List.listUpdate (.ref s.heap.objs.size) (fun _ => #[]); letGo old.toList.reverse; Builtin.List.listExtendWith (.ref s.heap.objs.size) (.ref z) .none) _ _ _
  unfold Builtin.List.listItems
  refine wpAny_bind (wpAny_bind (wpAny_seqItems hS rfl (wpAny_pure ?_)))
  show wpAny _ _ (updateSeq s.heap.objs.size (fun _ => #[]) >>= fun _ => letGo (#[] : Array Value).toList.reverse >>= fun _ => Builtin.List.listExtendWith (.ref s.heap.objs.size) (.ref z) .none) _ _ _
  refine wpAny_bind (wpAny_updateSeq hS rfl (wpAny_bind (wpAny_letGo ?_)))
  have hS₂ := Heap.get?_update_self (Obj.mapSeq (fun _ => (#[] : Array Value))) hS rfl
  have up : ∀ b o, s.heap.get? b = some o → ((s.heap.push { cls := .type "list", data := .seq #[] }).update s.heap.objs.size (Obj.mapSeq (fun _ => (#[] : Array Value)))).get? b = some o := fun b o e => (Heap.get?_update_other _ _ (Nat.ne_of_gt (Heap.lt_size e))).trans (Heap.get?_push_of_some _ e)
  obtain ⟨ta, tb, hTO⟩ := hTO
  refine extZ (S1 := S1) (S2 := S2) (A := A.in1) (S := s.heap.objs.size) hh Fr0 D L hn .none _ hS₂ (up _ _ hz) (up _ _ hTI) ⟨ta, tb, up _ _ hTO⟩ (S1.keep h1 (fun o e => up _ _ e) fun o e => up _ _ e) (S2.keep h2 (fun o e => up _ _ e) fun o e => up _ _ e) fun h' tk acc c as hk hS' hl hG hacc => ?_
  refine ⟨rfl, hR h' tk as c (fun b o n1 n2 n3 n4 e => hk b o (Nat.ne_of_lt (Heap.lt_size e)) n1 n2 n3 n4 (up _ _ e)) hl hG ?_⟩
  rw [hS', ← hacc]
end
end ZC
namespace Ev
open PySem PySem.Spec PyProof.Rows L2
/-- several new objects at once -/
theorem _root_.L2.Inv.many {X : Cx} {pins : List (Addr × Obj)} {σ : L2.St} {H H' : Hp} {s : Shared} {h' : Heap} {t' : Nat} (I : Inv X pins σ H s) (k : ∀ b u, s.heap.get? b = some u → h'.get? b = some u) (m : Same H H') (new : ∀ b o, H' b = some o → H b = some o ∨ (s.heap.objs.size ≤ b ∧ ObjOk X.prog X.w H' h' b o)) :
    Inv X pins σ H' { s with heap := h', toks := t' } := by
  refine I.un ⟨fun b o q _ _ _ => k b o q, fun b o q _ _ _ => ⟨o.slots, k b o q⟩, fun b o q n _ => ?_, fun b o q _ => ⟨o, k b o q⟩, fun b xs q => m _ _ q, fun b o u q => m _ _ q, fun b ps q => ⟨#[], by rw [m _ _ q]; simp⟩⟩ fun b o e => ?_
  · cases e : H' b with
    | none => rfl
    | some u =>
      rcases new b u e with z | z
      · rw [n] at z; cases z
      · exact absurd (Heap.lt_size q) (Nat.not_lt.mpr z.1)
  · rcases new b o e with z | z
    · exact (I.hok b o z).stay (fun c u _ q => k c u q) (fun c q => m _ _ q) fun c xs q => m _ _ q
    · exact z.2
def layZ : List Addr → List V → List V → Hp → Hp
  | a :: as, x :: xs, y :: ys, H => upd (layZ as xs ys H) a (.tup [x, y])
  | _, _, _, H => H
theorem layZ_off {H : Hp} {b : Addr} : ∀ {as : List Addr} {xs ys : List V}, b ∉ as → layZ as xs ys H b = H b
  | [], _, _, _ => rfl
  | a :: as, [], _, _ => rfl
  | a :: as, x :: xs, [], _ => rfl
  | a :: as, x :: xs, y :: ys, h => by
    rw [layZ, upd_ne (fun e => h (by simp [e]))]
    exact layZ_off fun e => h (by simp [e])
theorem layZ_at {H : Hp} : ∀ {as : List Addr} {xs ys : List V} {j : Nat} {a : Addr} {x y : V}, as.Pairwise (· < ·) → as[j]? = some a → xs[j]? = some x → ys[j]? = some y → layZ as xs ys H a = some (.tup [x, y])
  | [], _, _, _, _, _, _, _, h, _, _ => by simp at h
  | a :: as, [], _, _, _, _, _, _, _, h, _ => by simp at h
  | a :: as, x :: xs, [], _, _, _, _, _, _, _, h => by simp at h
  | a :: as, x :: xs, y :: ys, 0, b, x', y', _, h1, h2, h3 => by
    simp at h1 h2 h3
    subst h1 h2 h3
    rw [layZ, upd_same]
  | a :: as, x :: xs, y :: ys, j + 1, b, x', y', hp, h1, h2, h3 => by
    rw [List.pairwise_cons] at hp
    have hb : b ∈ as := List.mem_of_getElem? (by simpa using h1)
    rw [layZ, upd_ne (Nat.ne_of_gt (hp.1 b hb))]
    exact layZ_at hp.2 (by simpa using h1) (by simpa using h2) (by simpa using h3)
/-- the heap behind a gathered zip -/
structure ZNew (H1 : Hp) (xs ys : List V) (ps : List Addr) (p : Addr) (ob : HO) (H' : Hp) : Prop where
  same : Same H1 H'
  hp : H1 p = none
  hps : ∀ a ∈ ps, H1 a = none
  np : p ∉ ps
  top : H' p = some ob
  len : ps.length = min xs.length ys.length
  pr : ∀ (j : Nat) (a : Addr), ps[j]? = some a → ∃ x y, xs[j]? = some x ∧ ys[j]? = some y ∧ H' a = some (.tup [x, y])
  old : ∀ b o, H' b = some o → H1 b = some o ∨ b = p ∨ b ∈ ps
section
variable {X : Cx} {pins : List (Addr × Obj)} {σ : L2.St} {H1 : Hp}
theorem zip_lay {s : Shared} {h' : Heap} {t' p : Nat} {xs ys : List V} {its its2 : List Value} {as : List Addr} {ob : HO} (I : Inv X pins σ H1 s) (k : ∀ b u, s.heap.get? b = some u → h'.get? b = some u) (rv : Vals xs its) (rv2 : Vals ys its2) (lo : Addr) (hlo : s.heap.objs.size ≤ lo) (hl : as.length = min its.toArray.size its2.toArray.size) (G : ZC.MadeZ its.toArray its2.toArray lo h' as)
    (hp : s.heap.objs.size ≤ p) (np : p ∉ as) (hob : ∀ H', ObjOk X.prog X.w H' h' p ob) : ∃ H', Inv X pins σ H' { s with heap := h', toks := t' } ∧ ZNew H1 xs ys as p ob H' := by
  have l1 := rv.length
  have l2 := rv2.length
  have big : ∀ a ∈ as, s.heap.objs.size ≤ a := fun a ha => Nat.le_trans hlo (Nat.le_of_lt (G.above a ha))
  have fr : ∀ a ∈ as, H1 a = none := fun a ha => I.hok.fresh (big a ha)
  have at_ : ∀ (j : Nat) (a : Addr), as[j]? = some a → ∃ x y u v, xs[j]? = some x ∧ ys[j]? = some y ∧ RelV x u ∧ RelV y v ∧ h'.get? a = some { cls := .type "tuple", data := .seq #[u, v] } := fun j a hj => by
    obtain ⟨u, v, e1, e2, e3⟩ := G.pr j a hj
    have e1 : its[j]? = some u := by simpa using e1
    have e2 : its2[j]? = some v := by simpa using e2
    have j1 : j < xs.length := by rw [l1]; exact (List.getElem?_eq_some_iff.mp e1).1
    have j2 : j < ys.length := by rw [l2]; exact (List.getElem?_eq_some_iff.mp e2).1
    obtain ⟨u', h1, r1⟩ := rv.get (List.getElem?_eq_getElem j1)
    obtain ⟨v', h2, r2⟩ := rv2.get (List.getElem?_eq_getElem j2)
    rw [e1] at h1
    rw [e2] at h2
    cases h1
    cases h2
    exact ⟨_, _, u, v, List.getElem?_eq_getElem j1, List.getElem?_eq_getElem j2, r1, r2, e3⟩
  have off : ∀ b, b ≠ p → b ∉ as → upd (layZ as xs ys H1) p ob b = H1 b := fun b n1 n2 => by rw [upd_ne n1, layZ_off n2]
  have on : ∀ (j : Nat) (a : Addr) (x y : V), as[j]? = some a → xs[j]? = some x → ys[j]? = some y → upd (layZ as xs ys H1) p ob a = some (.tup [x, y]) := fun j a x y e e1 e2 => by
    have ne : a ≠ p := fun z => np (by rw [← z]; exact List.mem_of_getElem? e)
    rw [upd_ne ne]
    exact layZ_at G.rise e e1 e2
  have sm : Same H1 (upd (layZ as xs ys H1) p ob) := fun b o e => by
    rw [off b (fun z => by rw [z, I.hok.fresh hp] at e; cases e) (fun z => by rw [fr b z] at e; cases e)]
    exact e
  refine ⟨upd (layZ as xs ys H1) p ob, I.many k sm fun b o e => ?_, ⟨sm, I.hok.fresh hp, fr, np, upd_same, by rw [hl, List.size_toArray, List.size_toArray, l1, l2], fun j a hj => ?_, fun b o e => ?_⟩⟩
  · by_cases h1 : b = p
    · subst h1
      rw [upd_same] at e
      cases e
      exact .inr ⟨hp, hob _⟩
    · by_cases h2 : b ∈ as
      · obtain ⟨j, hj⟩ := List.mem_iff_getElem?.mp h2
        obtain ⟨x, y, u, v, e1, e2, r1, r2, e3⟩ := at_ j b hj
        rw [on j b x y hj e1 e2] at e
        cases e
        exact .inr ⟨big b h2, show 2 ≤ sizeLine by decide, [u, v], .cons r1 (.cons r2 .nil), ⟨_, e3, rfl, _, rfl⟩⟩
      · rw [off b h1 h2] at e
        exact .inl e
  · obtain ⟨x, y, u, v, e1, e2, _⟩ := at_ j a hj
    exact ⟨x, y, e1, e2, on j a x y hj e1 e2⟩
  · by_cases h1 : b = p
    · exact .inr (.inl h1)
    · by_cases h2 : b ∈ as
      · exact .inr (.inr h2)
      · rw [off b h1 h2] at e
        exact .inl e
theorem apart5 {n a b : Addr} (h1 : a < n) (h2 : b < n) : ZipApart (n + 4) (n + 2) (n + 3) n (n + 1) a b := PySem.W.ktu_apart n a b h1 h2
theorem lows5 {n a b : Addr} (h1 : a < n) (h2 : b < n) : ZC.Lows (n + 5) (n + 4) (n + 2) (n + 3) n (n + 1) a b := ⟨Nat.lt_succ_self _, Nat.add_lt_add_left (by decide) n, Nat.add_lt_add_left (by decide) n, Nat.lt_add_of_pos_right (by decide), Nat.add_lt_add_left (by decide) n, Nat.lt_of_lt_of_le h1 (Nat.le_add_right _ _), Nat.lt_of_lt_of_le h2 (Nat.le_add_right _ _)⟩
/-- tuple(zip(..)), list(zip(..)) -/
def tTZ (K : PySem.W.Frag) (ta : TA) : TE := fun σ H Q => ta σ H fun vs H1 => ∃ a b xs ys, vs = [.ref a, .ref b] ∧ ((SqL K H1 a xs ∧ SqL K H1 b ys) ∨ (SqT K H1 a xs ∧ SqT K H1 b ys)) ∧ ∀ p ps o H', o.dict = none → ZNew H1 xs ys ps p (.frz o (.tup (ps.map V.ref))) H' → Q (.ref p) H'
def tLZ (K : PySem.W.Frag) (ta : TA) : TE := fun σ H Q => ta σ H fun vs H1 => ∃ a b xs ys, vs = [.ref a, .ref b] ∧ ((SqL K H1 a xs ∧ SqL K H1 b ys) ∨ (SqT K H1 a xs ∧ SqT K H1 b ys)) ∧ ∀ p ps H', ZNew H1 xs ys ps p (.lst (ps.map V.ref)) H' → Q (.ref p) H'
theorem vals_refs : ∀ as : List Addr, Vals (as.map V.ref) (as.map Value.ref)
  | [] => .nil
  | a :: as => .cons rfl (vals_refs as)
/-- zip(a, b) as an argument: the record that it makes -/
def ZMade (prog : Program) (w : World) (s : Shared) (its its2 : List Value) (h' : Heap) : Prop := ∃ (a b : Addr) (S1 : ZC.Src prog w s.heap.objs.size a its.toArray) (S2 : ZC.Src prog w (s.heap.objs.size + 1) b its2.toArray),
  ZC.Fr prog w S1 S2 (s.heap.objs.size + 4) (s.heap.objs.size + 2) (s.heap.objs.size + 3) ∧ ZipApart (s.heap.objs.size + 4) (s.heap.objs.size + 2) (s.heap.objs.size + 3) s.heap.objs.size (s.heap.objs.size + 1) a b ∧ ZC.Lows (s.heap.objs.size + 5) (s.heap.objs.size + 4) (s.heap.objs.size + 2) (s.heap.objs.size + 3) s.heap.objs.size (s.heap.objs.size + 1) a b ∧
  IsZip h' (s.heap.objs.size + 4) (s.heap.objs.size + 2) (s.heap.objs.size + 3) .none ∧ PySem.IsPair h' (s.heap.objs.size + 2) (.ref s.heap.objs.size) (.ref (s.heap.objs.size + 1)) ∧ (∃ x y, PySem.IsPair h' (s.heap.objs.size + 3) x y) ∧ S1.st 0 h' ∧ S2.st 0 h'
theorem ev_zip {e e2 : Expr} {ta : TA} {p pos : Pos} {s : Shared} {H : Hp} {R : Value → Shared → Prop} (hg : Gl X "zip") (hm : X.mg "zip" = none) (ha : PA X [e, e2] ta) (hs1 : isStar e = false) (hs2 : isStar e2 = false)
    (I : Inv X pins σ H s) {C : List V → Hp → Prop} (h : ta σ H C) (hC : ∀ vs H1, C vs H1 → ∃ a b xs ys, vs = [.ref a, .ref b] ∧ ((SqL X.K H1 a xs ∧ SqL X.K H1 b ys) ∨ (SqT X.K H1 a xs ∧ SqT X.K H1 b ys)) ∧ ∀ (s1 : Shared) (its its2 : List Value) (h' : Heap), Inv X pins σ H1 s1 → Vals xs its → Vals ys its2 → xs.length ≤ sizeLine → (∀ c o, s1.heap.get? c = some o → h'.get? c = some o) → h'.objs.size = s1.heap.objs.size + 5 → ZMade X.prog X.w s1 its its2 h' → R (.ref (s1.heap.objs.size + 4)) { s1 with heap := h' }) :
    wpAny (model X.prog X.w) X.A (eval (.Call (.Name "zip" p) [e, e2] [] pos) X.env) R X.xe s := by
  refine Call_ (ld_blt I hg hm PyProof.Rows.boot_zip (PyProof.Rows.callWith_type1 (thn (ha.run pos pins s σ H _ I h) fun us s1 ⟨vs, H1, I1, r1, qC⟩ => ?_) (star_cons hs1) (star_none (by simp [hs2]) pos)))
  obtain ⟨a, b, xs, ys, ex, q1, q2⟩ := hC vs H1 qC
  subst ex
  cases r1 with
  | cons r rr =>
    cases rr with
    | cons r' rr =>
      cases rr
      cases r
      cases r'
      rcases q1 with ⟨hqx, hqy⟩ | ⟨hqx, hqy⟩
      · obtain ⟨its, rv, p1, z1⟩ := I1.list hqx
        obtain ⟨its2, rv2, p2, _⟩ := I1.list hqy
        refine call_zip_2 p1.isList p2.isList fun h' hz hTI hTO h1 h2 hsz hk => q2 s1 its its2 h' I1 rv rv2 z1 hk hsz ⟨a, b, _, _, ZC.frL (apart5 p1.lt p2.lt), apart5 p1.lt p2.lt, lows5 p1.lt p2.lt, hz, hTI, ⟨_, _, hTO⟩, ⟨h1, p1.isList.at fun o e => hk _ _ e⟩, ⟨h2, p2.isList.at fun o e => hk _ _ e⟩⟩
      · obtain ⟨its, rv, p1, z1⟩ := I1.tuple hqx
        obtain ⟨its2, rv2, p2, _⟩ := I1.tuple hqy
        obtain ⟨o1, ho1, _⟩ := id p1
        obtain ⟨o2, ho2, _⟩ := id p2
        have b1 := Heap.lt_size ho1
        have b2 := Heap.lt_size ho2
        have t1 : s1.heap.IsTuple a its.toArray := p1
        have t2 : s1.heap.IsTuple b its2.toArray := p2
        exact RZ.call_zipT t1 t2 fun h' hz hTI hTO h1 h2 hsz hk => q2 s1 its its2 h' I1 rv rv2 z1 hk hsz ⟨a, b, _, _, ZC.frT (apart5 b1 b2), apart5 b1 b2, lows5 b1 b2, hz, hTI, ⟨_, _, hTO⟩, ⟨h1, t1.at fun o e => hk _ _ e⟩, ⟨h2, t2.at fun o e => hk _ _ e⟩⟩
theorem zip_end {s1 : Shared} {h' h2 : Heap} (hk : ∀ c o, s1.heap.get? c = some o → h'.get? c = some o) (hk2 : ∀ b o, b ≠ s1.heap.objs.size + 4 → b ≠ s1.heap.objs.size + 3 → b ≠ s1.heap.objs.size → b ≠ s1.heap.objs.size + 1 → h'.get? b = some o → h2.get? b = some o) : ∀ c o, s1.heap.get? c = some o → h2.get? c = some o := fun c o e => by
  have l := Heap.lt_size e
  refine hk2 c o ?_ ?_ ?_ ?_ (hk c o e)
  · exact Nat.ne_of_lt (Nat.lt_of_lt_of_le l (Nat.le_add_right _ _))
  · exact Nat.ne_of_lt (Nat.lt_of_lt_of_le l (Nat.le_add_right _ _))
  · exact Nat.ne_of_lt l
  · exact Nat.ne_of_lt (Nat.lt_of_lt_of_le l (Nat.le_add_right _ _))
theorem min_le_line {its its2 : List Value} {xs : List V} (rv : Vals xs its) (z : xs.length ≤ sizeLine) : min its.toArray.size its2.toArray.size ≤ sizeLine := by
  rw [List.size_toArray, ← rv.length]
  exact Nat.le_trans (Nat.min_le_left _ _) z
theorem pe_tupZip {e e2 : Expr} {ta : TA} {p pos p2 pos2 : Pos} (hc : X.calm = true) (hg : Gl X "tuple") (hm : X.mg "tuple" = none) (hg2 : Gl X "zip") (hm2 : X.mg "zip" = none) (ha : PA X [e, e2] ta) (hs1 : isStar e = false) (hs2 : isStar e2 = false) :
    PE X (.Call (.Name "tuple" p) [.Call (.Name "zip" p2) [e, e2] [] pos2] [] pos) (tTZ X.K ta) := by
  refine ⟨fun pins s σ H Q I h => ?_⟩
  refine Call_ (ld_blt I hg hm boot_tuple (PyProof.Rows.callWith_type1 (args_cons (ev_zip (R := fun v s2 => wpAny (model X.prog X.w) X.A (spliced (backTo pos (starEach [] X.env))) (fun vs s₂ => wpAny (model X.prog X.w) X.A (call (.type "tuple") (v :: vs)) (EP X pins σ Q) X.xe s₂) X.xe s2) hg2 hm2 ha hs1 hs2 I h ?_) (star_cons rfl)) (star_cons rfl)))
  rintro vs H1 ⟨a, b, xs, ys, rfl, hq, q⟩
  refine ⟨a, b, xs, ys, rfl, hq, fun s1 its its2 h' I1 rv rv2 z hk hsz ⟨a', b', S1, S2, Fr0, D, L, hz, hTI, hTO, h1, h2⟩ => args_nil ?_⟩
  have hn := min_le_line (its2 := its2) rv z
  have hh : X.A.handled = none := I1.ok.hd hc
  refine ZC.call_tupleZ (s := { s1 with heap := h' }) hh Fr0 D (by show ZC.Lows h'.objs.size _ _ _ _ _ _ _; rw [hsz]; exact L) hn hz hTI hTO h1 h2 fun h2 tk as hk2 hl G => ?_
  have kk := zip_end hk hk2
  have lo : s1.heap.objs.size ≤ h'.objs.size := by rw [hsz]; exact Nat.le_add_right _ _
  have szl : s1.heap.objs.size ≤ h2.objs.size := Nat.le_trans (Nat.le_add_right _ 2) (Nat.le_of_lt (Heap.lt_size (hk2 (s1.heap.objs.size + 2) _ D.TIz D.TITO D.TIi1 D.TIi2 hTI)))
  have pu : ∀ b o, h2.get? b = some o → (h2.push { cls := .type "tuple", data := .seq (as.map Value.ref).toArray }).get? b = some o := fun b o e => Heap.get?_push_of_some _ e
  have top : (h2.push { cls := .type "tuple", data := .seq (as.map Value.ref).toArray }).get? h2.objs.size = some { cls := .type "tuple", data := .seq (as.map Value.ref).toArray } := Heap.get?_push_size _ rfl
  have np : h2.objs.size ∉ as := fun m => by
    obtain ⟨j, hj⟩ := List.mem_iff_getElem?.mp m
    obtain ⟨_, _, _, _, e⟩ := G.pr j _ hj
    exact Nat.lt_irrefl _ (Heap.lt_size e)
  obtain ⟨H', I', Z⟩ := zip_lay (t' := tk) (ob := .frz { cls := .type "tuple", data := .seq (as.map Value.ref).toArray } (.tup (as.map V.ref))) I1 (fun b u e => pu _ _ (kk b u e)) rv rv2 h'.objs.size lo hl (G.mono fun b o _ e => pu _ _ e) szl np fun H' => ⟨top, by rw [List.length_map, hl]; exact hn, as.map Value.ref, vals_refs as, ⟨_, top, rfl, _, rfl⟩⟩
  exact ⟨.ref h2.objs.size, H', I', rfl, q _ as _ H' rfl Z⟩
theorem pe_listZip {e e2 : Expr} {ta : TA} {p pos p2 pos2 : Pos} (hc : X.calm = true) (hg : Gl X "list") (hm : X.mg "list" = none) (hg2 : Gl X "zip") (hm2 : X.mg "zip" = none) (ha : PA X [e, e2] ta) (hs1 : isStar e = false) (hs2 : isStar e2 = false) :
    PE X (.Call (.Name "list" p) [.Call (.Name "zip" p2) [e, e2] [] pos2] [] pos) (tLZ X.K ta) := by
  refine ⟨fun pins s σ H Q I h => ?_⟩
  refine Call_ (ld_blt I hg hm boot_list (PyProof.Rows.callWith_type1 (args_cons (ev_zip (R := fun v s2 => wpAny (model X.prog X.w) X.A (spliced (backTo pos (starEach [] X.env))) (fun vs s₂ => wpAny (model X.prog X.w) X.A (call (.type "list") (v :: vs)) (EP X pins σ Q) X.xe s₂) X.xe s2) hg2 hm2 ha hs1 hs2 I h ?_) (star_cons rfl)) (star_cons rfl)))
  rintro vs H1 ⟨a, b, xs, ys, rfl, hq, q⟩
  refine ⟨a, b, xs, ys, rfl, hq, fun s1 its its2 h' I1 rv rv2 z hk hsz ⟨a', b', S1, S2, Fr0, D, L, hz, hTI, hTO, h1, h2⟩ => args_nil ?_⟩
  have hn := min_le_line (its2 := its2) rv z
  have hh : X.A.handled = none := I1.ok.hd hc
  refine ZC.call_listZ (s := { s1 with heap := h' }) hh Fr0 D (by show ZC.Lows h'.objs.size _ _ _ _ _ _ _; rw [hsz]; exact L) hn hz hTI hTO h1 h2 fun h2 tk as c hk2 hl G hS => ?_
  have kk := zip_end hk hk2
  have lo : s1.heap.objs.size ≤ h'.objs.size := by rw [hsz]; exact Nat.le_add_right _ _
  have np : h'.objs.size ∉ as := fun m => Nat.lt_irrefl _ (G.above _ m)
  obtain ⟨H', I', Z⟩ := zip_lay (t' := tk) (ob := .lst (as.map V.ref)) I1 kk rv rv2 h'.objs.size lo hl G lo np fun H' => ⟨by rw [List.length_map, hl]; exact hn, as.map Value.ref, c, vals_refs as, hS⟩
  exact ⟨.ref h'.objs.size, H', I', rfl, q _ as H' Z⟩
/-- pairs -/
theorem zip_rp {K : PySem.W.Frag} {F : Hp} {xs ys : List D} : ∀ {vs ws : List V} {ps : List Addr}, RpAll K F vs xs → RpAll K F ws ys → noBr xs = true → ps.length = min vs.length ws.length → (∀ (j : Nat) (a : Addr), ps[j]? = some a → ∃ x y, vs[j]? = some x ∧ ws[j]? = some y ∧ F a = some (.tup [x, y])) → RpAll K F (ps.map V.ref) (zipD xs ys) := by
  induction xs generalizing ys with
  | nil =>
    intro vs ws ps r1 r2 _ hl _
    cases r1
    simp at hl
    subst hl
    exact .nil
  | cons d xs ih =>
    intro vs ws ps r1 r2 nb hl hp
    cases r1 with
    | cons h1 r1 =>
      cases r2 with
      | nil =>
        simp at hl
        subst hl
        exact .nil
      | cons h2 r2 =>
        rename_i v vs d2 ys w ws
        cases ps with
        | nil => simp at hl
        | cons p ps =>
          obtain ⟨x, y, e1, e2, e3⟩ := hp 0 p rfl
          simp at e1 e2
          subst e1 e2
          have nb' : isBr d = false ∧ noBr xs = true := by
            unfold noBr at nb ⊢
            simpa using nb
          refine .cons (.tup (.inl (.inl e3)) (.cons h1 (.cons h2 .nil)) (by show 2 ≤ sizeLine; decide) fun z => ?_) (ih r1 r2 nb'.2 (by simp at hl; omega) fun j a hj => ?_)
          · have : isBr d = true := z
            rw [nb'.1] at this
            cases this
          · obtain ⟨x', y', e1, e2, e3⟩ := hp (j + 1) a (by simpa using hj)
            exact ⟨x', y', by simpa using e1, by simpa using e2, e3⟩
open scoped Classical in
/-- what is frozen behind a gathered zip -/
noncomputable def frzZ (F H' : Hp) (N : Addr → Prop) : Hp := fun b => if N b then H' b else F b
theorem ext_many {F H H' : Hp} {N : Addr → Prop} (s : Same F H) (m : Same H H') (hn : ∀ b, N b → H b = none) (old : ∀ b o, H' b = some o → N b → True) : Ext F H (frzZ F H' N) H' := by
  have fn : ∀ b, N b → F b = none := fun b hb => by
    cases e : F b with
    | none => rfl
    | some o => have := s b o e; rw [hn b hb] at this; cases this
  refine ⟨fun b o e => ?_, m, fun b o e => ?_, fun b o e => ?_⟩
  · unfold frzZ
    by_cases hb : N b
    · rw [fn b hb] at e; cases e
    · rw [if_neg hb]; exact e
  · unfold frzZ at e
    by_cases hb : N b
    · rw [if_pos hb] at e; exact e
    · rw [if_neg hb] at e; exact m _ _ (s _ _ e)
  · unfold frzZ at e
    by_cases hb : N b
    · exact .inr (hn b hb)
    · rw [if_neg hb] at e; exact .inl e
theorem frz_on {F H' : Hp} {N : Addr → Prop} {b : Addr} {o : HO} (hb : N b) (e : H' b = some o) : frzZ F H' N b = some o := by
  unfold frzZ
  rw [if_pos hb]
  exact e
theorem je_tupZip {W : WX} {e e2 : Expr} {f g : Den} {p pos p2 pos2 : Pos} (hc : X.calm = true) (hg : Gl X "tuple") (hm : X.mg "tuple" = none) (hg2 : Gl X "zip") (hm2 : X.mg "zip" = none) (hs : isStar e = false) (hs2 : isStar e2 = false) (h : JE X W e f) (h2 : JE X W e2 g) : JE X W (.Call (.Name "tuple" p) [.Call (.Name "zip" p2) [e, e2] [] pos2] [] pos) (dTupZip f g) := by
  refine pe_mono (pe_tupZip hc hg hm hg2 hm2 (pa_cons h (pa_cons h2 pa_nil (star_cons hs2)) (star_cons hs)) hs hs2) fun σ H Q ⟨B, F, α, rho, h, r, q⟩ => ?_
  unfold tTZ tCons tNil
  unfold dTupZip lZip at q
  refine ⟨B, F, α, rho, h, r, post_imp (post_bind (post_assoc q)) fun a F1 α1 H1 s1 ⟨h1, r1, p1⟩ v hv => ⟨B, F1, α1, rho, h1, r1, post_imp (post_bind (post_assoc p1)) fun b F2 α2 H2 s2 ⟨h2, r2, p2⟩ w hw => ?_⟩⟩
  have hv2 := rp_mono s2 hv
  unfold kZip at p2
  have fin : ∀ {vs ws : List V} {ds es : List D}, RpAll X.K F2 vs ds → RpAll X.K F2 ws es → ds.length ≤ sizeLine → noBr ds = true → Post X W B σ F2 rho (.ok (PyData.tuple (zipD ds es)) h2) (GD X Q) → ∀ (p : Addr) (ps : List Addr) (o : Obj) (H' : Hp), o.dict = none → ZNew H2 vs ws ps p (.frz o (.tup (ps.map V.ref))) H' → Q (.ref p) H' := fun {vs ws ds es} k2 l2 k3 nb p2 p ps o H' hd Z => by
    have E := ext_many (N := fun b => b = p ∨ b ∈ ps) r2.sub Z.same (fun b hb => hb.elim (fun z => by rw [z]; exact Z.hp) (Z.hps b)) fun _ _ _ _ => trivial
    have tp := frz_on (F := F2) (N := fun b => b = p ∨ b ∈ ps) (.inl rfl) Z.top
    refine post_ext r2 p2 E (.tup (.inl (.inr ⟨o, tp⟩)) (zip_rp (rpAll_mono E.f k2) (rpAll_mono E.f l2) nb Z.len fun j a hj => ?_) (Nat.le_trans zipD_le k3) fun _ => ⟨o, tp, hd⟩)
    obtain ⟨x, y, e1, e2, e3⟩ := Z.pr j a hj
    exact ⟨x, y, e1, e2, frz_on (.inr (List.mem_of_getElem? hj)) e3⟩
  cases hv2 with
  | lst k1 k2 k3 =>
    cases hw with
    | lst l1 l2 l3 =>
      dsimp only at p2
      split at p2
      · rename_i e
        split at e
        · rename_i nb
          cases e
          exact ⟨_, _, _, _, rfl, .inl ⟨.inl (Same.rd r2.sub k1), .inl (Same.rd r2.sub l1)⟩, fin k2 l2 k3 nb p2⟩
        · cases e
      · exact p2.elim
    | _ => exact p2.elim
  | tup k1 k2 k3 _ =>
    cases hw with
    | tup l1 l2 l3 _ =>
      dsimp only at p2
      split at p2
      · rename_i e
        split at e
        · rename_i nb
          cases e
          exact ⟨_, _, _, _, rfl, .inr ⟨Same.seqT r2.sub k1, Same.seqT r2.sub l1⟩, fin k2 l2 k3 nb p2⟩
        · cases e
      · exact p2.elim
    | _ => exact p2.elim
  | _ => exact p2.elim
theorem jl_listZip {W : WX} {e e2 : Expr} {f g : Den} {p pos p2 pos2 : Pos} (hc : X.calm = true) (hg : Gl X "list") (hm : X.mg "list" = none) (hg2 : Gl X "zip") (hm2 : X.mg "zip" = none) (hs : isStar e = false) (hs2 : isStar e2 = false) (h : JE X W e f) (h2 : JE X W e2 g) : JL X W (.Call (.Name "list" p) [.Call (.Name "zip" p2) [e, e2] [] pos2] [] pos) (lZip f g) := by
  refine pe_mono (pe_listZip hc hg hm hg2 hm2 (pa_cons h (pa_cons h2 pa_nil (star_cons hs2)) (star_cons hs)) hs hs2) fun σ H Q ⟨B, F, α, rho, h, r, q⟩ => ?_
  unfold tLZ tCons tNil
  unfold lZip at q
  refine ⟨B, F, α, rho, h, r, post_imp (post_bind q) fun a F1 α1 H1 s1 ⟨h1, r1, p1⟩ v hv => ⟨B, F1, α1, rho, h1, r1, post_imp (post_bind p1) fun b F2 α2 H2 s2 ⟨h2, r2, p2⟩ w hw => ?_⟩⟩
  have hv2 := rp_mono s2 hv
  unfold kZip at p2
  have fin : ∀ {vs ws : List V} {ds es : List D}, RpAll X.K F2 vs ds → RpAll X.K F2 ws es → ds.length ≤ sizeLine → noBr ds = true → Post X W B σ F2 rho (.ok (zipD ds es) h2) (GL X B rho σ Q) → ∀ (p : Addr) (ps : List Addr) (H' : Hp), ZNew H2 vs ws ps p (.lst (ps.map V.ref)) H' → Q (.ref p) H' := fun {vs ws ds es} k2 l2 k3 nb p2 p ps H' Z => by
    have E := ext_many (N := fun b => b ∈ ps) r2.sub Z.same (fun b hb => Z.hps b hb) fun _ _ _ _ => trivial
    have r3 := r2.ext E
    have f0 := r2.fresh Z.hp
    have f3 : Fresh B (frzZ F2 H' fun b => b ∈ ps) α2 rho σ H' p := ⟨f0.h0, f0.a, by unfold frzZ; rw [if_neg Z.np]; exact f0.f, f0.k, f0.o, by rw [r2.io.same (fun _ hq => r2.mem hq) E.h]; exact f0.i⟩
    refine p2 (frzZ F2 H' fun b => b ∈ ps) α2 H' E.f r3 p _ f3 Z.top ⟨zip_rp (rpAll_mono E.f k2) (rpAll_mono E.f l2) nb Z.len fun j a hj => ?_, Nat.le_trans zipD_le k3⟩
    obtain ⟨x, y, e1, e2, e3⟩ := Z.pr j a hj
    exact ⟨x, y, e1, e2, frz_on (List.mem_of_getElem? hj) e3⟩
  cases hv2 with
  | lst k1 k2 k3 =>
    cases hw with
    | lst l1 l2 l3 =>
      dsimp only at p2
      split at p2
      · rename_i e
        split at e
        · rename_i nb
          cases e
          exact ⟨_, _, _, _, rfl, .inl ⟨.inl (Same.rd r2.sub k1), .inl (Same.rd r2.sub l1)⟩, fin k2 l2 k3 nb p2⟩
        · cases e
      · exact p2.elim
    | _ => exact p2.elim
  | tup k1 k2 k3 _ =>
    cases hw with
    | tup l1 l2 l3 _ =>
      dsimp only at p2
      split at p2
      · rename_i e
        split at e
        · rename_i nb
          cases e
          exact ⟨_, _, _, _, rfl, .inr ⟨Same.seqT r2.sub k1, Same.seqT r2.sub l1⟩, fin k2 l2 k3 nb p2⟩
        · cases e
      · exact p2.elim
    | _ => exact p2.elim
  | _ => exact p2.elim
end
end Ev
namespace Ev
open PySem PySem.Spec PyProof.Rows L2
/-- a dict of the text by texts -/
def DctOk (K : PySem.W.Frag) (w : World) (mg : Str → Option Value) (x : Str) (kvs : List (Str × D)) : Prop := ∃ a, mg x = some (.ref a) ∧ ∀ k d, getS kvs k = some d → ∃ v, KDct K w a k v ∧ ∀ F, Rp K F v d
theorem je_dct {X : Cx} {W : WX} {x : Str} {kvs : List (Str × D)} {key : Expr} {g : Den} {p pos : Pos} (hg : Gl X x) (hd : (x == ("__debug__" : Str)) = false) (h : DctOk X.K X.w X.mg x kvs) (hk : JE X W key g) (hs : PlainIx key) : JE X W (.Subscript (.Name x p) key pos) (dDct kvs g) := by
  obtain ⟨a, hm, H⟩ := h
  refine pe_mono (pe_ix ix_kdict (pe_glob hg hm (v := .ref a) rfl hd) hk hs) fun σ H0 Q ⟨B, F, α, rho, h, r, q⟩ => ?_
  unfold dDct at q
  refine ⟨B, F, α, rho, h, r, post_imp (post_bind q) fun d F1 α1 H1 s1 ⟨h1, r1, p1⟩ v hv => ?_⟩
  cases hv with
  | str z =>
    dsimp only at p1
    cases e : getS kvs z with
    | none => rw [e] at p1; exact p1.elim
    | some d =>
      rw [e] at p1
      obtain ⟨v, kd, hr⟩ := H z d e
      exact ⟨a, z, v, rfl, rfl, kd, post_ok r1 p1 v (hr F1)⟩
  | _ => exact p1.elim
end Ev
/-! # Xj: classrooms -/
namespace Ev
open PySem PySem.Spec PyProof.Rows L2
theorem innA_cons {H : Hp} {p : Addr} {α : List Addr} : innA H (p :: α) = inn H p ++ innA H α := rfl
theorem innA_mem {H : Hp} {α : List Addr} {q : Addr} : q ∈ innA H α ↔ ∃ p ∈ α, q ∈ inn H p := List.mem_flatMap
theorem innA_nd {H : Hp} : ∀ {α : List Addr}, α.Nodup → ((innA H α).Nodup ↔ (∀ p ∈ α, (inn H p).Nodup) ∧ ∀ p ∈ α, ∀ p' ∈ α, p ≠ p' → ∀ q ∈ inn H p, q ∉ inn H p')
  | [], _ => by simp [innA]
  | a :: α, nd => by
    obtain ⟨na, nd'⟩ := List.nodup_cons.mp nd
    rw [innA_cons, List.nodup_append, innA_nd nd']
    constructor
    · rintro ⟨h1, ⟨h2, h3⟩, h4⟩
      have sep : ∀ p ∈ α, ∀ q ∈ inn H a, q ∉ inn H p := fun p hp q hq hq' => h4 q hq q (innA_mem.mpr ⟨p, hp, hq'⟩) rfl
      refine ⟨fun p hp => ?_, fun p hp p' hp' ne q hq hq' => ?_⟩
      · rcases List.mem_cons.mp hp with rfl | z
        · exact h1
        · exact h2 p z
      · rcases List.mem_cons.mp hp with rfl | z
        · rcases List.mem_cons.mp hp' with rfl | z'
          · exact ne rfl
          · exact sep p' z' q hq hq'
        · rcases List.mem_cons.mp hp' with rfl | z'
          · exact sep p z q hq' hq
          · exact h3 p z p' z' ne q hq hq'
    · rintro ⟨h1, h2⟩
      refine ⟨h1 a List.mem_cons_self, ⟨fun p hp => h1 p (List.mem_cons_of_mem _ hp), fun p hp p' hp' => h2 p (List.mem_cons_of_mem _ hp) p' (List.mem_cons_of_mem _ hp')⟩, fun q hq q' hq' e => ?_⟩
      obtain ⟨p, hp, hq'⟩ := innA_mem.mp hq'
      subst e
      exact h2 a List.mem_cons_self p (List.mem_cons_of_mem _ hp) (fun z => na (z ▸ hp)) q hq hq'
section
variable {X : Cx} {W : WX} {B : Fx} {F H H' : Hp} {rho : Ro} {h : Hh} {σ : L2.St} {α : List Addr}
/-- a classroom changes: its object, what belongs to it, what is new -/
theorem Rel.mutRoom {n : Nat} {q : Addr} {ob ob' : Ob} (r : Rel X.K B F α rho h σ H) (ea : α[n]? = some q) (eh : h[n]? = some ob) (hf : F q = none) (off : ∀ b o, H b = some o → b ≠ q → b ∉ inn H q → H' b = some o) (df : ∀ b o, H b = some o → ∃ o', H' b = some o')
    (nd : (inn H' q).Nodup) (src : ∀ b ∈ inn H' q, (b ∈ inn H q ∨ H b = none) ∧ b ≠ q ∧ ∃ o, H' b = some o) (hob : ObOk X.K F H' q ob') : Rel X.K B F α rho (h.set n ob') σ H' := by
  have pm : q ∈ α := List.mem_of_getElem? ea
  have ina : ∀ {b : Addr}, b ∈ inn H q → b ∈ innA H α := fun hb => mem_innA pm hb
  have nds := (innA_nd r.nd).mp r.io.nd
  have sep : ∀ {p b : Addr}, p ∈ α → p ≠ q → b ∈ inn H p → b ≠ q ∧ b ∉ inn H q := fun {p b} hp ne hb => ⟨fun z => r.io.na b (mem_innA hp hb) (z ▸ pm), fun z => nds.2 p hp q pm ne b hb z⟩
  have hp' : ∀ {p : Addr}, p ∈ α → p ≠ q → H' p = H p := fun {p} hp ne => by
    obtain ⟨o, e⟩ := r.mem hp
    rw [e]
    exact off p o e ne fun z => r.io.na p (ina z) hp
  have hin : ∀ {p b : Addr}, p ∈ α → p ≠ q → b ∈ inn H p → H' b = H b := fun {p b} hp ne hb => by
    obtain ⟨o, e⟩ := r.io.h b (mem_innA hp hb)
    rw [e]
    exact off b o e (sep hp ne hb).1 (sep hp ne hb).2
  have ie : ∀ {p : Addr}, p ∈ α → p ≠ q → inn H' p = inn H p := fun {p} hp ne => inn_congr (hp' hp ne) fun b hb => hin hp ne hb
  -- what belongs to classrooms now
  have mem : ∀ {b : Addr}, b ∈ innA H' α → b ∈ inn H' q ∨ ∃ p ∈ α, p ≠ q ∧ b ∈ inn H p := fun {b} hb => by
    obtain ⟨p, hp, hb⟩ := innA_mem.mp hb
    by_cases ne : p = q
    · subst ne; exact .inl hb
    · exact .inr ⟨p, hp, ne, by rw [← ie hp ne]; exact hb⟩
  have old : ∀ {b : Addr}, b ∈ innA H' α → b ∈ innA H α ∨ H b = none := fun {b} hb => by
    rcases mem hb with z | ⟨p, hp, _, z⟩
    · rcases (src b z).1 with w | w
      · exact .inl (ina w)
      · exact .inr w
    · exact .inl (mem_innA hp z)
  have fresh : ∀ {b : Addr}, H b = none → Fresh B F α rho σ H b := fun hb => r.fresh hb
  have own : ∀ {i : Nat} {sl : Slot} {p : Addr} {o : HO}, rho[i]? = some sl → IsOwn sl → σ[i]? = some (some (.ref p)) → p ∉ α → H p = some o → H' p = some o := fun {i sl p o} e ow es na ho =>
    off p o ho (fun z => na (z ▸ pm)) fun z => (r.ii p (ina z)).2.2 i sl e ow es
  refine ⟨fun b u e => ?_, r.new, fun b u e hb hi => ?_, r.pre, r.a0, r.nd, r.len, fun i sl e => ?_, r.sep, fun b u e => ?_, by rw [List.length_set]; exact r.hl, fun m p u e1 e2 => ?_, ⟨?_, fun b hb => ?_, fun b hb => ?_, fun b hb => ?_⟩, fun b u e => ?_, fun b hb => ?_⟩
  · refine off b u (r.sub b u e) (fun z => ?_) fun z => ?_
    · rw [z, hf] at e; cases e
    · rw [r.io.f b (ina z)] at e; cases e
  · refine off b u (r.fr b u e hb hi) (fun z => ?_) fun z => ?_
    · obtain ⟨t, et, ht, _⟩ := r.pre
      rw [et] at pm
      rcases List.mem_append.mp pm with w | w
      · exact hb (z ▸ w)
      · rw [z, ht _ w] at e; cases e
    · rcases (r.ii b (ina z)).2.1 with w | w
      · exact hi w
      · rw [w] at e; cases e
  · have z := r.slot i sl e
    cases sl with
    | own ds => obtain ⟨p2, vs2, f1, f0, fa, f2, f3, f4⟩ := z; exact ⟨p2, vs2, f1, f0, fa, f2, own e trivial (jn f1) fa f3, f4⟩
    | ownd kvs => obtain ⟨p2, f1, f0, fa, f2, ob, xs, f3, f4⟩ := z; exact ⟨p2, f1, f0, fa, f2, ob, xs, own e trivial (jn f1) fa f3, f4⟩
    | refs ns => obtain ⟨p2, vs2, f1, f0, fa, f2, f3, f4⟩ := z; exact ⟨p2, vs2, f1, f0, fa, f2, own e trivial (jn f1) fa f3, f4⟩
    | _ => exact z
  · obtain ⟨k1, k2, k3, k4⟩ := r.kp b u e
    exact ⟨off b u k1 (fun z => k3 (z ▸ pm)) (fun z => by rw [(r.ii b (ina z)).1] at e; cases e), k2, k3, k4⟩
  · by_cases hm : n = m
    · subst hm
      rw [ea] at e1
      cases e1
      rw [List.getElem?_set_self (List.getElem?_eq_some_iff.mp eh).1] at e2
      cases e2
      exact hob
    · rw [List.getElem?_set_ne hm] at e2
      have nq : p ≠ q := fun w => hm (nodup_get r.nd ea (w ▸ e1))
      have pm' : p ∈ α := List.mem_of_getElem? e1
      exact (r.heap m p u e1 e2).keep same_refl id (hp' pm' nq) fun b hb => hin pm' nq hb
  · refine (innA_nd r.nd).mpr ⟨fun p hp => ?_, fun p hp p' hp2 ne b hb hb' => ?_⟩
    · by_cases e : p = q
      · subst e; exact nd
      · rw [ie hp e]; exact nds.1 p hp
    · have key : ∀ {p : Addr}, p ∈ α → p ≠ q → b ∈ inn H p → b ∈ inn H' q → False := fun {p} hp e z w => by
        rcases (src b w).1 with y | y
        · exact (sep hp e z).2 y
        · obtain ⟨o, eo⟩ := r.io.h b (mem_innA hp z)
          rw [y] at eo; cases eo
      by_cases e : p = q
      · subst e
        rw [ie hp2 (Ne.symm ne)] at hb'
        exact key hp2 (Ne.symm ne) hb' hb
      · rw [ie hp e] at hb
        by_cases e' : p' = q
        · subst e'; exact key hp e hb hb'
        · rw [ie hp2 e'] at hb'
          exact nds.2 p hp p' hp2 ne b hb hb'
  · rcases old hb with z | z
    · exact r.io.na b z
    · exact (fresh z).a
  · rcases old hb with z | z
    · exact r.io.f b z
    · exact (fresh z).f
  · rcases mem hb with z | ⟨p, hp, ne, z⟩
    · exact (src b z).2.2
    · rw [hin hp ne z]; exact r.io.h b (mem_innA hp z)
  · obtain ⟨o', e'⟩ := r.df b u e
    exact df b o' e'
  · rcases old hb with z | z
    · exact r.ii b z
    · have f := fresh z
      exact ⟨f.k, .inr f.h0, f.o⟩
end
/-! ### what a classroom holds -/
structure RmK (K : PySem.W.Frag) : Prop where
  cls : Cls K (roomC K)
  school : NoAttr K (roomC K) "school"
  rows : NoAttr K (roomC K) "rows"
  past : NoAttr K (roomC K) "past"
  calls : NoAttr K (roomC K) "calls"
abbrev RmC (X : Cx) : Prop := RmK X.K
section
variable {X : Cx} {W : WX} {B : Fx} {F H H' : Hp} {rho : Ro} {h : Hh} {σ : L2.St} {α : List Addr} {x : Str} {i : Nat} {px pos apos cpos : Pos}
theorem Rel.roomAt {n : Nat} {s : D} {rows : List (Str × D)} {past : List (List (Str × D))} {calls : List D} (r : Rel X.K B F α rho h σ H) (e : Ev.roomAt rho h i = some (n, s, rows, past, calls)) : ∃ q, rho[i]? = some (.ref n) ∧ σ[i]? = some (some (.ref q)) ∧ α[n]? = some q ∧ h[n]? = some (.room s rows past calls) ∧ F q = none ∧ RoomOk X.K F H q s rows past calls := by
  unfold Ev.roomAt at e
  split at e
  · rename_i n' w
    split at e
    · rename_i s' r' p' c' w2
      cases e
      obtain ⟨q, e1, e2⟩ := r.slot i _ w
      obtain ⟨h1, h2⟩ := r.heap _ q _ e2 w2
      exact ⟨q, w, jn e1, e2, w2, h1, h2⟩
    · cases e
  · cases e
/-- x.f -/
theorem pe_attr {f : Str} (hN : X.N[i]? = some x) (hv : Vis X.env.scope x) (hd : (x == ("__debug__" : Str)) = false) (hcd : (x == ("__classdict__" : Str)) = false) : PE X (.Attribute (.Name x px) f pos) (tFld X.K (tVar i) f) := pe_fld (pe_var hN hv hd hcd) rfl
/-- x.school -/
theorem je_school (rc : RmC X) (hN : X.N[i]? = some x) (hv : Vis X.env.scope x) (hd : (x == ("__debug__" : Str)) = false) (hcd : (x == ("__classdict__" : Str)) = false) : JE X W (.Attribute (.Name x px) "school" pos) (dSchool i) := by
  refine pe_mono (pe_attr hN hv hd hcd) fun σ H Q ⟨B, F, α, rho, h, r, p⟩ => ?_
  unfold dSchool at p
  split at p
  · rename_i n s rows past calls e
    obtain ⟨q, _, e1, _, _, _, dx, sv, a, b, c, vs, ws, h1, h2, h3, _⟩ := r.roomAt e
    exact ⟨.ref q, e1, q, _, dx, _, sv, rfl, h1, rc.cls, rc.school, rfl, post_ok r p sv h3⟩
  · exact p.elim
theorem val_some {K : PySem.W.Frag} {k : Str} {d : D} : ∀ {kvs : List (Key × V)} {rows : List (Str × D)}, Paired (fun (x : Key × V) (r : Str × D) => x.1 = Sum.inr r.1 ∧ Rp K F x.2 r.2) kvs rows → getS rows k = some d → ∃ v, valV kvs (Sum.inr k) = some v ∧ Rp K F v d
  | _, _, .nil, e => by cases e
  | (k0, v0) :: kvs, (k1, d1) :: rows, .cons ⟨h1, h2⟩ t, e => by
    have h1 : k0 = Sum.inr k1 := h1
    unfold getS at e
    split at e
    · rename_i hk
      cases e
      exact ⟨v0, valV_pos (by rw [h1, hk]), h2⟩
    · rename_i hk
      rw [valV_neg (by rw [h1]; exact fun z => hk (Sum.inr.inj z))]
      exact val_some t e
theorem val_none {K : PySem.W.Frag} {k : Str} : ∀ {kvs : List (Key × V)} {rows : List (Str × D)}, Paired (fun (x : Key × V) (r : Str × D) => x.1 = Sum.inr r.1 ∧ Rp K F x.2 r.2) kvs rows → getS rows k = none → valV kvs (Sum.inr k) = none
  | _, _, .nil, e => rfl
  | (k0, v0) :: kvs, (k1, d1) :: rows, .cons ⟨h1, h2⟩ t, e => by
    have h1 : k0 = Sum.inr k1 := h1
    unfold getS at e
    split at e
    · cases e
    · rename_i hk
      rw [valV_neg (by rw [h1]; exact fun z => hk (Sum.inr.inj z))]
      exact val_none t e
theorem val_is {K : PySem.W.Frag} {k : Str} {kvs : List (Key × V)} {rows : List (Str × D)} (t : Paired (fun (x : Key × V) (r : Str × D) => x.1 = Sum.inr r.1 ∧ Rp K F x.2 r.2) kvs rows) : (valV kvs (Sum.inr k)).isSome = (getS rows k).isSome := by
  cases e : getS rows k with
  | none => rw [val_none t e]; rfl
  | some d => obtain ⟨v, e', _⟩ := val_some t e; rw [e']; rfl
theorem rowIn_key {f : Den} {b : Bool} (rc : RmC X) : ∀ σ H Q, tE X W (dRowIn b i f) σ H Q → tE X W f σ H fun y H1 => tFld X.K (tVar i) "rows" σ H1 fun z H2 => ∃ a o, z = .ref a ∧ DGet H2 a y o ∧ Q (.bl (o.isSome == b)) H2 := fun σ H Q ⟨B, F, α, rho, h, r, p⟩ => by
  refine ⟨B, F, α, rho, h, r, post_imp (post_bind p) fun d F1 α1 H1 s1 ⟨h1, r1, p1⟩ v hv => ?_⟩
  cases d with
  | str k =>
    cases hv
    split at p1
    · rename_i k' n s rows past calls ek e
      cases ek
      obtain ⟨q, _, e1, _, _, _, dx, sv, a, b', c, vs, ws, g1, g2, g3, ⟨kvs, g4, g5, _⟩, _⟩ := r1.roomAt e
      refine ⟨.ref q, e1, q, _, dx, _, .ref a, rfl, g1, rc.cls, rc.rows, rfl, a, _, rfl, DGet.k (k := Sum.inr k) g4, ?_⟩
      rw [val_is g5]
      exact post_ok r1 p1 _ (.bl _)
    · exact p1.elim
  | _ => exact p1.elim
theorem rowIn_in {f : Den} (rc : RmC X) (σ : L2.St) (H : Hp) (Q : VK) (q : tE X W (dRowIn true i f) σ H Q) : tDIn (tE X W f) (tFld X.K (tVar i) "rows") σ H Q := by
  unfold tDIn
  obtain ⟨B, F, α, rho, h, r, p⟩ := rowIn_key rc σ H Q q
  refine ⟨B, F, α, rho, h, r, post_imp p fun d F1 α1 H1 s1 z v hv => ?_⟩
  obtain ⟨v', e1, a, C, dx, fs, w, e2, e3, e4, e5, e6, a', o, e7, e8, e9⟩ := z v hv
  exact ⟨v', e1, a, C, dx, fs, w, e2, e3, e4, e5, e6, a', o, e7, e8, by simpa using e9⟩
theorem rowIn_no {f : Den} (rc : RmC X) (σ : L2.St) (H : Hp) (Q : VK) (q : tE X W (dRowIn false i f) σ H Q) : tDNotIn (tE X W f) (tFld X.K (tVar i) "rows") σ H Q := by
  unfold tDNotIn
  obtain ⟨B, F, α, rho, h, r, p⟩ := rowIn_key rc σ H Q q
  refine ⟨B, F, α, rho, h, r, post_imp p fun d F1 α1 H1 s1 z v hv => ?_⟩
  obtain ⟨v', e1, a, C, dx, fs, w, e2, e3, e4, e5, e6, a', o, e7, e8, e9⟩ := z v hv
  exact ⟨v', e1, a, C, dx, fs, w, e2, e3, e4, e5, e6, a', o, e7, e8, by simpa using e9⟩
/-- e in x.rows, e not in x.rows -/
theorem je_rowIn {a : Expr} {f : Den} (rc : RmC X) (hu : X.A.units + 1 < cLine) (hN : X.N[i]? = some x) (hv : Vis X.env.scope x) (hd : (x == ("__debug__" : Str)) = false) (hcd : (x == ("__classdict__" : Str)) = false) (ha : JE X W a f) :
    JE X W (.Compare a [.In] [.Attribute (.Name x px) "rows" apos] pos) (dRowIn true i f) := pe_mono (pe_cmp (pc_din hu ha (pe_attr hN hv hd hcd)) rfl) fun σ H Q q => rowIn_in rc σ H Q q
theorem jt_rowIn {a : Expr} {f : Den} (rc : RmC X) (hu : X.A.units + 1 < cLine) (hN : X.N[i]? = some x) (hv : Vis X.env.scope x) (hd : (x == ("__debug__" : Str)) = false) (hcd : (x == ("__classdict__" : Str)) = false) (ha : JE X W a f) :
    JT X W (.Compare a [.In] [.Attribute (.Name x px) "rows" apos] pos) (testOf (dRowIn true i f)) := jt_test (pt_cmp (pc_din hu ha (pe_attr hN hv hd hcd)) rfl) fun σ H Q q => rowIn_in rc σ H Q q
theorem je_rowNo {a : Expr} {f : Den} (rc : RmC X) (hu : X.A.units + 1 < cLine) (hN : X.N[i]? = some x) (hv : Vis X.env.scope x) (hd : (x == ("__debug__" : Str)) = false) (hcd : (x == ("__classdict__" : Str)) = false) (ha : JE X W a f) :
    JE X W (.Compare a [.NotIn] [.Attribute (.Name x px) "rows" apos] pos) (dRowIn false i f) := pe_mono (pe_cmp (pc_dnotin hu ha (pe_attr hN hv hd hcd)) rfl) fun σ H Q q => rowIn_no rc σ H Q q
theorem jt_rowNo {a : Expr} {f : Den} (rc : RmC X) (hu : X.A.units + 1 < cLine) (hN : X.N[i]? = some x) (hv : Vis X.env.scope x) (hd : (x == ("__debug__" : Str)) = false) (hcd : (x == ("__classdict__" : Str)) = false) (ha : JE X W a f) :
    JT X W (.Compare a [.NotIn] [.Attribute (.Name x px) "rows" apos] pos) (testOf (dRowIn false i f)) := jt_test (pt_cmp (pc_dnotin hu ha (pe_attr hN hv hd hcd)) rfl) fun σ H Q q => rowIn_no rc σ H Q q
theorem slot_val {j : Nat} {d : D} (r : Rel X.K B F α rho h σ H) (e : rho[j]? = some (.val d)) : ∃ v, σ[j]? = some (some v) ∧ Rp X.K F v d := by
  obtain ⟨v, e1, e2⟩ := r.slot j _ e
  exact ⟨v, jn e1, e2⟩
/-- x.rows[y] -/
theorem je_rowGet {y : Str} {j : Nat} {py : Pos} (rc : RmC X) (hu : X.A.units + 1 < cLine) (hN : X.N[i]? = some x) (hv : Vis X.env.scope x) (hd : (x == ("__debug__" : Str)) = false) (hcd : (x == ("__classdict__" : Str)) = false)
    (hN' : X.N[j]? = some y) (hv' : Vis X.env.scope y) (hd' : (y == ("__debug__" : Str)) = false) (hcd' : (y == ("__classdict__" : Str)) = false) :
    JE X W (.Subscript (.Attribute (.Name x px) "rows" apos) (.Name y py) pos) (dRowGet i j) := by
  refine pe_mono (pe_dget hu (pe_attr hN hv hd hcd) (pe_var hN' hv' hd' hcd') (fun _ _ => rfl)) fun σ H Q ⟨B, F, α, rho, h, r, p⟩ => ?_
  unfold dRowGet at p
  split at p
  · rename_i k n s rows past calls ek e
    obtain ⟨q, w1, e1, w2, _, _, dx, sv, a, b', c, vs, ws, g1, g2, g3, ⟨kvs, g4, g5, _⟩, _⟩ := r.roomAt e
    obtain ⟨v, ev, rv⟩ := slot_val r ek
    cases rv
    split at p
    · rename_i d ed
      obtain ⟨v, ev', rv⟩ := val_some g5 ed
      refine ⟨.ref q, e1, q, _, dx, _, .ref a, rfl, g1, rc.cls, rc.rows, rfl, _, ev, a, v, rfl, ?_, post_ok r p v rv⟩
      rw [← ev']
      exact DGet.k (k := Sum.inr k) g4
    · exact p.elim
  · exact p.elim
/-! ### what changes a classroom -/
theorem inn_room {q dx a b c : Addr} {C : Addr} {x0 : Str × V} {f1 f2 f3 : Str} (e : H q = some (.ins C dx [x0, (f1, .ref a), (f2, .ref b), (f3, .ref c)])) : inn H q = dx :: a :: b :: c :: pastA H b := by
  unfold inn
  rw [e]
  rfl
theorem pastA_refs {b : Addr} {qs : List Addr} (e : H b = some (.lst (qs.map V.ref))) : pastA H b = qs := by
  unfold pastA
  rw [e]
  have g : ∀ l : List Addr, (l.map V.ref).filterMap refA = l := fun l => by
    induction l with
    | nil => rfl
    | cons x r ih => rw [List.map_cons, List.filterMap_cons]; simp only [refA]; rw [ih]
  exact g qs
theorem refs_of {P : Addr → List (Str × D) → Prop} : ∀ {vs : List V} {past : List (List (Str × D))}, Paired (fun v r => ∃ q, v = V.ref q ∧ P q r) vs past → ∃ qs : List Addr, vs = qs.map V.ref ∧ Paired P qs past
  | _, _, .nil => ⟨[], rfl, .nil⟩
  | _, _, .cons ⟨q, e, z⟩ t => by
    obtain ⟨qs, e', t'⟩ := refs_of t
    exact ⟨q :: qs, by rw [e, e']; rfl, .cons z t'⟩
theorem of_refs {P : Addr → List (Str × D) → Prop} : ∀ {qs : List Addr} {past : List (List (Str × D))}, Paired P qs past → Paired (fun v r => ∃ q, v = V.ref q ∧ P q r) (qs.map V.ref) past
  | _, _, .nil => .nil
  | _, _, .cons z t => .cons ⟨_, rfl, z⟩ (of_refs t)
/-- a classroom, taken apart -/
structure RoomX (K : PySem.W.Frag) (F H : Hp) (q dx : Addr) (sv : V) (a b c : Addr) (qs : List Addr) (ws : List V) (s : D) (rows : List (Str × D)) (past : List (List (Str × D))) (calls : List D) : Prop where
  at_ : H q = some (.ins (roomC K) dx [("school", sv), ("rows", .ref a), ("past", .ref b), ("calls", .ref c)])
  own : H dx = some (.own q)
  hs : Rp K F sv s
  hr : SdOk K F H a rows
  hp : H b = some (.lst (qs.map V.ref))
  dicts : Paired (fun q' r => SdOk K F H q' r) qs past
  le : past.length ≤ sizeLine
  hc : H c = some (.lst ws)
  cs : RpL K F ws calls
  nd : (q :: dx :: a :: b :: c :: qs).Nodup
theorem RoomX.inn {K : PySem.W.Frag} {q dx : Addr} {sv : V} {a b c : Addr} {qs : List Addr} {ws : List V} {s : D} {rows : List (Str × D)} {past : List (List (Str × D))} {calls : List D} (x : RoomX K F H q dx sv a b c qs ws s rows past calls) : Ev.inn H q = dx :: a :: b :: c :: qs := by
  rw [inn_room x.at_, pastA_refs x.hp]
theorem RoomX.ok {K : PySem.W.Frag} {q dx : Addr} {sv : V} {a b c : Addr} {qs : List Addr} {ws : List V} {s : D} {rows : List (Str × D)} {past : List (List (Str × D))} {calls : List D} (x : RoomX K F H q dx sv a b c qs ws s rows past calls) : RoomOk K F H q s rows past calls :=
  ⟨dx, sv, a, b, c, _, ws, x.at_, x.own, x.hs, x.hr, x.hp, of_refs x.dicts, x.le, x.hc, x.cs⟩
theorem Rel.roomX {n : Nat} {s : D} {rows : List (Str × D)} {past : List (List (Str × D))} {calls : List D} (r : Rel X.K B F α rho h σ H) (e : Ev.roomAt rho h i = some (n, s, rows, past, calls)) : ∃ q dx sv a b c qs ws, rho[i]? = some (.ref n) ∧ σ[i]? = some (some (.ref q)) ∧ α[n]? = some q ∧ h[n]? = some (.room s rows past calls) ∧ F q = none ∧ RoomX X.K F H q dx sv a b c qs ws s rows past calls := by
  obtain ⟨q, w1, w2, w3, w4, w5, dx, sv, a, b, c, vs, ws, h1, h2, h3, h4, h5, h6, h7, h8, h9⟩ := r.roomAt e
  obtain ⟨qs, rfl, h6'⟩ := refs_of h6
  have ei : inn H q = dx :: a :: b :: c :: qs := by rw [inn_room h1, pastA_refs h5]
  have pm : q ∈ α := List.mem_of_getElem? w3
  refine ⟨q, dx, sv, a, b, c, qs, ws, w1, w2, w3, w4, w5, h1, h2, h3, h4, h5, h6', h7, h8, h9, ?_⟩
  rw [← ei, List.nodup_cons]
  exact ⟨fun z => r.io.na q (mem_innA pm z) pm, ((innA_nd r.nd).mp r.io.nd).1 q pm⟩
/-- the classroom behind a change -/
theorem Rel.putRoom {n : Nat} {q dx dx' : Addr} {sv sv' : V} {a b c a' b' c' : Addr} {qs qs' : List Addr} {ws ws' : List V} {s s' : D} {rows rows' : List (Str × D)} {past past' : List (List (Str × D))} {calls calls' : List D} (r : Rel X.K B F α rho h σ H) (ea : α[n]? = some q) (eh : h[n]? = some (.room s rows past calls)) (hf : F q = none)
    (x : RoomX X.K F H q dx sv a b c qs ws s rows past calls) (x' : RoomX X.K F H' q dx' sv' a' b' c' qs' ws' s' rows' past' calls') (off : ∀ b0 o, H b0 = some o → b0 ∉ q :: dx :: a :: b :: c :: qs → H' b0 = some o) (df : ∀ b o, H b = some o → ∃ o', H' b = some o')
    (src : ∀ b0 ∈ dx' :: a' :: b' :: c' :: qs', b0 ∈ dx :: a :: b :: c :: qs ∨ H b0 = none) : Rel X.K B F α rho (h.set n (.room s' rows' past' calls')) σ H' := by
  have nd := x'.nd
  rw [List.nodup_cons] at nd
  refine r.mutRoom ea eh hf (fun b0 o e ne ni => off b0 o e ?_) df (by rw [x'.inn]; exact nd.2) (fun b0 hb => ?_) ⟨hf, x'.ok⟩
  · rw [x.inn] at ni
    rw [List.mem_cons]
    exact fun z => z.elim ne ni
  · rw [x'.inn] at hb
    rw [x.inn]
    refine ⟨src b0 hb, fun z => nd.1 (z ▸ hb), ?_⟩
    have some_of : ∀ {q0 : Addr} {r0 : List (Str × D)}, SdOk X.K F H' q0 r0 → ∃ o, H' q0 = some o := fun ⟨_, e, _⟩ => ⟨_, e⟩
    rcases List.mem_cons.mp hb with rfl | hb
    · exact ⟨_, x'.own⟩
    rcases List.mem_cons.mp hb with rfl | hb
    · exact some_of x'.hr
    rcases List.mem_cons.mp hb with rfl | hb
    · exact ⟨_, x'.hp⟩
    rcases List.mem_cons.mp hb with rfl | hb
    · exact ⟨_, x'.hc⟩
    obtain ⟨k, hk⟩ := List.mem_iff_getElem?.mp hb
    have get : ∀ {qs : List Addr} {past : List (List (Str × D))} {k : Nat}, Paired (fun q' r => SdOk X.K F H' q' r) qs past → qs[k]? = some b0 → ∃ o, H' b0 = some o := fun {qs past k} t => by
      induction t generalizing k with
      | nil => intro e; simp at e
      | cons z _ ih =>
        intro e
        cases k with
        | zero => simp at e; subst e; exact some_of z
        | succ k => exact ih (by simpa using e)
    exact get x'.dicts hk
theorem nd_ne {l : List Addr} (nd : l.Nodup) {i j : Nat} {a b : Addr} (h1 : l[i]? = some a) (h2 : l[j]? = some b) (hij : i ≠ j) : a ≠ b := fun z => hij (nodup_get nd h1 (z ▸ h2))
/-- the dicts stay, another thing changes -/
theorem dicts_off {K : PySem.W.Frag} {H' : Hp} {qs : List Addr} {past : List (List (Str × D))} (e : ∀ q ∈ qs, H' q = H q) (t : Paired (fun q' r => SdOk K F H q' r) qs past) : Paired (fun q' r => SdOk K F H' q' r) qs past :=
  Paired.mapP (paired_mem t) fun q r ⟨m, z⟩ => z.keep same_refl (e q m)
/-- x.calls.append(y) -/
theorem js_callPush {y : Str} {j : Nat} {py epos : Pos} (rc : RmC X) (hN : X.N[i]? = some x) (hv : Vis X.env.scope x) (hd : (x == ("__debug__" : Str)) = false) (hcd : (x == ("__classdict__" : Str)) = false)
    (hN' : X.N[j]? = some y) (hv' : Vis X.env.scope y) (hd' : (y == ("__debug__" : Str)) = false) (hcd' : (y == ("__classdict__" : Str)) = false) (hline : (apos.endLine == cpos.line) = true) :
    JS X W (.Expr (.Call (.Attribute (.Attribute (.Name x px) "calls" epos) "append" apos) [.Name y py] [] cpos) pos) (sCallPush i j) := by
  refine ps_mono (ps_expr (pe_bm PySem.F.plainAttrs_list PySem.F.slot_list_append PySem.F.type_list_append mt_append (pe_attr hN hv hd hcd) (pa_cons (pe_var hN' hv' hd' hcd') pa_nil rfl) rfl rfl hline rfl rfl) rfl) fun E σ H ⟨B, F, α, rho, h, r, p⟩ => ?_
  unfold sCallPush at p
  dsimp only at p
  split at p
  · rename_i d n s rows past calls ed e
    split at p
    · rename_i hl
      obtain ⟨q, dx, sv, a, b, c, qs, ws, w1, w2, w3, w4, w5, xo⟩ := r.roomX e
      obtain ⟨v, ev, rv⟩ := slot_val r ed
      refine ⟨.ref q, w2, q, _, dx, _, .ref c, rfl, xo.at_, rc.cls, rc.calls, rfl, .inl ⟨rfl, ws, .inl (.inl xo.hc)⟩, v, ev, c, ws, v, rfl, rfl, xo.hc, by rw [xo.cs.length]; exact Nat.lt_of_lt_of_le hl lim_le, ?_⟩
      have nd := xo.nd
      refine p σ F α _ same_refl (r.putRoom w3 w4 w5 xo (H' := upd H c (.lst (ws ++ [v]))) (dx' := dx) (sv' := sv) (a' := a) (b' := b) (c' := c) (qs' := qs) (ws' := ws ++ [v]) ⟨?_, ?_, xo.hs, xo.hr.keep same_refl ?_, ?_, dicts_off (fun q' hq' => ?_) xo.dicts, xo.le, upd_same, xo.cs.snoc hl rv, xo.nd⟩ (fun b0 o e0 ni => ?_) (fun b0 o e0 => ?_) fun b0 hb => .inl hb)
      · rw [upd_ne (nd_ne nd (i := 0) (j := 4) rfl rfl (by decide))]; exact xo.at_
      · rw [upd_ne (nd_ne nd (i := 1) (j := 4) rfl rfl (by decide))]; exact xo.own
      · rw [upd_ne (nd_ne nd (i := 2) (j := 4) rfl rfl (by decide))]
      · rw [upd_ne (nd_ne nd (i := 3) (j := 4) rfl rfl (by decide))]; exact xo.hp
      · obtain ⟨k, hk⟩ := List.mem_iff_getElem?.mp hq'
        rw [upd_ne (nd_ne nd (i := k + 5) (j := 4) hk rfl (by omega))]
      · rw [upd_ne (fun z => ni (by subst z; simp))]; exact e0
      · by_cases z : b0 = c
        · subst z; exact ⟨_, upd_same⟩
        · rw [upd_ne z]; exact ⟨o, e0⟩
    · exact p.elim
  · exact p.elim
theorem any_is {K : PySem.W.Frag} {k : Str} : ∀ {kvs : List (Key × V)} {rows : List (Str × D)}, Paired (fun (x : Key × V) (r : Str × D) => x.1 = Sum.inr r.1 ∧ Rp K F x.2 r.2) kvs rows → (kvs.any fun kv => decide (kv.1 = Sum.inr k)) = (getS rows k).isSome := fun {kvs rows} t => by
  rw [valV_any, val_is t]
theorem put_pairs {K : PySem.W.Frag} {k : Str} {v : V} {d : D} (rv : Rp K F v d) {kvs : List (Key × V)} {rows : List (Str × D)} (t : Paired (fun (x : Key × V) (r : Str × D) => x.1 = Sum.inr r.1 ∧ Rp K F x.2 r.2) kvs rows) : Paired (fun (x : Key × V) (r : Str × D) => x.1 = Sum.inr r.1 ∧ Rp K F x.2 r.2) (putK kvs (Sum.inr k) v) (putS rows k d) := by
  unfold putK putS
  rw [any_is t]
  split
  · rename_i hh
    clear hh
    induction t with
    | nil => exact .nil
    | @cons x r xs rs h _ ih =>
      rw [List.map_cons, List.map_cons]
      refine .cons ?_ ih
      by_cases e : r.1 = k
      · rw [if_pos (by rw [h.1, e]), if_pos e]; exact ⟨h.1, rv⟩
      · rw [if_neg (by rw [h.1]; exact fun z => e (Sum.inr.inj z)), if_neg e]; exact h
  · exact paired_snoc ⟨rfl, rv⟩ t
theorem putS_le {rows : List (Str × D)} {k : Str} {d : D} : (putS rows k d).length ≤ rows.length + 1 := by
  unfold putS
  split
  · rw [List.length_map]; omega
  · rw [List.length_append]; simp
/-- x.rows[y] = z -/
theorem js_rowPut {y z : Str} {j k : Nat} {py pz spos epos : Pos} (rc : RmC X) (hu : X.A.units + 1 < cLine) (hN : X.N[i]? = some x) (hv : Vis X.env.scope x) (hd : (x == ("__debug__" : Str)) = false) (hcd : (x == ("__classdict__" : Str)) = false)
    (hN' : X.N[j]? = some y) (hv' : Vis X.env.scope y) (hd' : (y == ("__debug__" : Str)) = false) (hcd' : (y == ("__classdict__" : Str)) = false)
    (hN2 : X.N[k]? = some z) (hv2 : Vis X.env.scope z) (hd2 : (z == ("__debug__" : Str)) = false) (hcd2 : (z == ("__classdict__" : Str)) = false) :
    JS X W (.Assign [.Subscript (.Attribute (.Name x px) "rows" epos) (.Name y py) spos] (.Name z pz) pos) (sRowPut i j k) := by
  refine ps_mono (ps_dput hu (pe_attr hN hv hd hcd) (pe_var hN' hv' hd' hcd') (pe_var hN2 hv2 hd2 hcd2) rfl) fun E σ H ⟨B, F, α, rho, h, r, p⟩ => ?_
  unfold sRowPut at p
  dsimp only at p
  split at p
  · rename_i key d n s rows past calls ek ed e
    split at p
    · rename_i hl
      obtain ⟨q, dx, sv, a, b, c, qs, ws, w1, w2, w3, w4, w5, xo⟩ := r.roomX e
      obtain ⟨v, ev, rv⟩ := slot_val r ed
      obtain ⟨vk, evk, rk⟩ := slot_val r ek
      cases rk
      obtain ⟨kvs, g1, g2, g3⟩ := xo.hr
      refine ⟨v, ev, .ref q, w2, q, _, dx, _, .ref a, rfl, xo.at_, rc.cls, rc.rows, rfl, _, evk, a, _, rfl, DPut.k (k := Sum.inr key) g1 (by rw [Paired.length g2]; exact Nat.lt_of_lt_of_le hl lim_le), ?_⟩
      have nd := xo.nd
      refine p σ F α _ same_refl (r.putRoom w3 w4 w5 xo (H' := upd H a (.dK (putK kvs (Sum.inr key) v))) (dx' := dx) (sv' := sv) (a' := a) (b' := b) (c' := c) (qs' := qs) (ws' := ws) ⟨?_, ?_, xo.hs, ⟨_, upd_same, put_pairs rv g2, ?_⟩, ?_, dicts_off (fun q' hq' => ?_) xo.dicts, xo.le, ?_, xo.cs, xo.nd⟩ (fun b0 o e0 ni => ?_) (fun b0 o e0 => ?_) fun b0 hb => .inl hb)
      · rw [upd_ne (nd_ne nd (i := 0) (j := 2) rfl rfl (by decide))]; exact xo.at_
      · rw [upd_ne (nd_ne nd (i := 1) (j := 2) rfl rfl (by decide))]; exact xo.own
      · exact Nat.le_trans putS_le (Nat.le_trans hl lim_le)
      · rw [upd_ne (nd_ne nd (i := 3) (j := 2) rfl rfl (by decide))]; exact xo.hp
      · obtain ⟨k, hk⟩ := List.mem_iff_getElem?.mp hq'
        rw [upd_ne (nd_ne nd (i := k + 5) (j := 2) hk rfl (by omega))]
      · rw [upd_ne (nd_ne nd (i := 4) (j := 2) rfl rfl (by decide))]; exact xo.hc
      · rw [upd_ne (fun z => ni (by subst z; simp))]; exact e0
      · by_cases z : b0 = a
        · subst z; exact ⟨_, upd_same⟩
        · rw [upd_ne z]; exact ⟨o, e0⟩
    · exact p.elim
  · exact p.elim
/-- dict(x.rows) -/
def tDictR (K : PySem.W.Frag) (i : Nat) : TE := fun σ H Q => tFld K (tVar i) "rows" σ H fun v H1 => ∃ a kvs, v = .ref a ∧ Rd H1 a (.dK kvs) ∧ ∀ p, H1 p = none → Q (.ref p) (upd H1 p (.dK kvs))
theorem pe_dictR {epos dpos : Pos} (hg : Gl X "dict") (hm : X.mg "dict" = none) (hN : X.N[i]? = some x) (hv : Vis X.env.scope x) (hd : (x == ("__debug__" : Str)) = false) (hcd : (x == ("__classdict__" : Str)) = false) : PE X (.Call (.Name "dict" dpos) [.Attribute (.Name x px) "rows" epos] [] pos) (tDictR X.K i) := by
  refine pe_mono (pe_callTy call_dictD hg hm (by decide +kernel) (pa_cons (pe_attr hN hv hd hcd) pa_nil rfl) (by decide) (by decide) rfl rfl) fun σ H Q q => ?_
  unfold tDictR at q
  unfold tCB tCons tNil
  obtain ⟨v, e1, a, C, dx, fs, w, e2, e3, e4, e5, e6, a', kvs, e7, e8, e9⟩ := q
  exact ⟨v, e1, a, C, dx, fs, w, e2, e3, e4, e5, e6, a', kvs, by rw [e7], e8, e9⟩
/-- x.past.append(dict(x.rows)) -/
theorem js_pastPush {qx ppos epos dpos fpos : Pos} (rc : RmC X) (hg : Gl X "dict") (hm : X.mg "dict" = none) (hN : X.N[i]? = some x) (hv : Vis X.env.scope x) (hd : (x == ("__debug__" : Str)) = false) (hcd : (x == ("__classdict__" : Str)) = false) (hline : (apos.endLine == cpos.line) = true) :
    JS X W (.Expr (.Call (.Attribute (.Attribute (.Name x px) "past" ppos) "append" apos) [.Call (.Name "dict" dpos) [.Attribute (.Name x qx) "rows" epos] [] fpos] [] cpos) pos) (sPastPush i) := by
  refine ps_mono (ps_expr (pe_bm PySem.F.plainAttrs_list PySem.F.slot_list_append PySem.F.type_list_append mt_append (pe_attr hN hv hd hcd) (pa_cons (pe_dictR hg hm hN hv hd hcd) pa_nil rfl) rfl rfl hline rfl rfl) rfl) fun E σ H ⟨B, F, α, rho, h, r, p⟩ => ?_
  unfold sPastPush at p
  dsimp only at p
  split at p
  · rename_i n s rows past calls e
    split at p
    · rename_i hl
      obtain ⟨q, dx, sv, a, b, c, qs, ws, w1, w2, w3, w4, w5, xo⟩ := r.roomX e
      obtain ⟨kvs, g1, g2, g3⟩ := xo.hr
      refine ⟨.ref q, w2, q, _, dx, _, .ref b, rfl, xo.at_, rc.cls, rc.past, rfl, .inl ⟨rfl, qs.map V.ref, .inl (.inl xo.hp)⟩, .ref q, w2, q, _, dx, _, .ref a, rfl, xo.at_, rc.cls, rc.rows, rfl, a, kvs, rfl, .inl g1, fun p0 hp0 => ?_⟩
      have lq : qs.length = past.length := Paired.length xo.dicts
      have np : ∀ {z : Addr} {o : HO}, H z = some o → z ≠ p0 := fun e z => by rw [z, hp0] at e; cases e
      refine ⟨b, qs.map V.ref, .ref p0, rfl, rfl, by rw [upd_ne (np xo.hp)]; exact xo.hp, by rw [List.length_map, lq]; exact Nat.lt_of_lt_of_le hl lim_le, ?_⟩
      have nd := xo.nd
      have dk : ∀ q' ∈ qs, ∃ o, H q' = some o := fun q' hq' => r.io.h q' (mem_innA (List.mem_of_getElem? w3) (by rw [xo.inn]; simp [hq']))
      have nd' : (q :: dx :: a :: b :: c :: (qs ++ [p0])).Nodup := by
        have z : (q :: dx :: a :: b :: c :: (qs ++ [p0])) = (q :: dx :: a :: b :: c :: qs) ++ [p0] := by simp
        rw [z, List.nodup_append]
        refine ⟨nd, by simp, fun y hy y' hy' ey => ?_⟩
        simp only [List.mem_singleton] at hy'
        subst hy' ey
        have : ∃ o, H y = some o := by
          simp only [List.mem_cons] at hy
          rcases hy with rfl | rfl | rfl | rfl | rfl | hy
          · exact ⟨_, xo.at_⟩
          · exact ⟨_, xo.own⟩
          · exact ⟨_, g1⟩
          · exact ⟨_, xo.hp⟩
          · exact ⟨_, xo.hc⟩
          · exact dk y hy
        obtain ⟨o, eo⟩ := this
        exact np eo rfl
      refine p σ F α _ same_refl (r.putRoom w3 w4 w5 xo (H' := upd (upd H p0 (.dK kvs)) b (.lst (qs.map V.ref ++ [.ref p0]))) (dx' := dx) (sv' := sv) (a' := a) (b' := b) (c' := c) (qs' := qs ++ [p0]) (ws' := ws) ⟨?_, ?_, xo.hs, xo.hr.keep same_refl ?_, ?_, paired_snoc ?_ (dicts_off (fun q' hq' => ?_) xo.dicts), ?_, ?_, xo.cs, nd'⟩ (fun b0 o e0 ni => ?_) (fun b0 o e0 => ?_) fun b0 hb => ?_)
      · rw [upd_ne (nd_ne nd (i := 0) (j := 3) rfl rfl (by decide)), upd_ne (np xo.at_)]; exact xo.at_
      · rw [upd_ne (nd_ne nd (i := 1) (j := 3) rfl rfl (by decide)), upd_ne (np xo.own)]; exact xo.own
      · rw [upd_ne (nd_ne nd (i := 2) (j := 3) rfl rfl (by decide)), upd_ne (np g1)]
      · rw [upd_same, List.map_append]; rfl
      · refine ⟨kvs, ?_, g2, g3⟩
        rw [upd_ne (Ne.symm (np xo.hp)), upd_same]
      · obtain ⟨k, hk⟩ := List.mem_iff_getElem?.mp hq'
        obtain ⟨o, eo⟩ := dk q' hq'
        rw [upd_ne (nd_ne nd (i := k + 5) (j := 3) hk rfl (by omega)), upd_ne (np eo)]
      · rw [List.length_append]; exact Nat.le_trans hl lim_le
      · rw [upd_ne (nd_ne nd (i := 4) (j := 3) rfl rfl (by decide)), upd_ne (np xo.hc)]; exact xo.hc
      · rw [upd_ne (fun z => ni (by subst z; simp)), upd_ne (np e0)]; exact e0
      · by_cases z : b0 = b
        · subst z; exact ⟨_, upd_same⟩
        · rw [upd_ne z, upd_ne (np e0)]; exact ⟨o, e0⟩
      · have z : (dx :: a :: b :: c :: (qs ++ [p0])) = (dx :: a :: b :: c :: qs) ++ [p0] := by simp
        rw [z] at hb
        rcases List.mem_append.mp hb with y | y
        · exact .inl y
        · simp only [List.mem_singleton] at y
          exact .inr (y ▸ hp0)
    · exact p.elim
  · exact p.elim
/-- a list == [] -/
def rEqNil : R2 := fun x y H Q => ∃ a b vs, x = .ref a ∧ y = .ref b ∧ H a = some (.lst vs) ∧ H b = some (.lst []) ∧ Q (.bl vs.isEmpty) H
theorem op_eqNil (hu : X.A.units < cLine) : OpR X (compareOp .Eq) rEqNil := by
  rintro pins s σ H x y v u Q I rx ry ⟨a, b, vs, rfl, rfl, ha, hb, q⟩
  cases rx
  cases ry
  obtain ⟨_, us, n, ru, h1⟩ := (show ObjOk X.prog X.w H s.heap a (.lst vs) from I.hok a _ ha)
  obtain ⟨_, us2, n2, ru2, h2⟩ := (show ObjOk X.prog X.w H s.heap b (.lst []) from I.hok b _ hb)
  cases ru2
  cases ru with
  | nil => exact SeqAt.eq_listAt (e := fun _ => true) ⟨_, h1, rfl, _, rfl⟩ ⟨_, h2, rfl, _, rfl⟩ rfl hu (fun j z => by simp at z) ⟨.bl true, H, I, rfl, q⟩
  | cons _ _ => exact SeqAt.eq_list_lengthsAt ⟨_, h1, rfl, _, rfl⟩ ⟨_, h2, rfl, _, rfl⟩ (by simp) hu ⟨.bl false, H, I, rfl, q⟩
theorem pastNil_key (rc : RmC X) (σ : L2.St) (H : Hp) (Q : VK) (q : tE X W (dPastNil i) σ H Q) : tOp rEqNil (tFld X.K (tVar i) "past") (tLst tNil) σ H Q := by
  obtain ⟨B, F, α, rho, h, r, p⟩ := q
  unfold dPastNil at p
  split at p
  · rename_i n s rows past calls e
    obtain ⟨q, dx, sv, a, b, c, qs, ws, w1, w2, w3, w4, w5, xo⟩ := r.roomX e
    refine ⟨.ref q, w2, q, _, dx, _, .ref b, rfl, xo.at_, rc.cls, rc.past, rfl, Nat.zero_le _, fun p0 hp0 => ?_⟩
    have np : b ≠ p0 := fun z => by rw [← z, xo.hp] at hp0; cases hp0
    refine ⟨b, p0, qs.map V.ref, rfl, rfl, by rw [upd_ne np]; exact xo.hp, upd_same, ?_⟩
    have eq : (qs.map V.ref).isEmpty = past.isEmpty := by
      have lq : qs.length = past.length := Paired.length xo.dicts
      cases qs <;> cases past <;> simp at lq ⊢
    rw [eq]
    exact p F α _ same_refl (r.add hp0) _ (.bl _)
  · exact p.elim
/-- x.past == [] -/
theorem je_pastNil {ppos lpos : Pos} (rc : RmC X) (hu : X.A.units < cLine) (hN : X.N[i]? = some x) (hv : Vis X.env.scope x) (hd : (x == ("__debug__" : Str)) = false) (hcd : (x == ("__classdict__" : Str)) = false) :
    JE X W (.Compare (.Attribute (.Name x px) "past" ppos) [.Eq] [.List [] lpos] pos) (dPastNil i) := pe_mono (pe_cmpR (op_eqNil hu) (pe_attr hN hv hd hcd) (pe_lst pa_nil) rfl) fun σ H Q q => pastNil_key rc σ H Q q
theorem jt_pastNil {ppos lpos : Pos} (rc : RmC X) (hu : X.A.units < cLine) (hN : X.N[i]? = some x) (hv : Vis X.env.scope x) (hd : (x == ("__debug__" : Str)) = false) (hcd : (x == ("__classdict__" : Str)) = false) :
    JT X W (.Compare (.Attribute (.Name x px) "past" ppos) [.Eq] [.List [] lpos] pos) (testOf (dPastNil i)) := jt_test (pt_cmpR (op_eqNil hu) (pe_attr hN hv hd hcd) (pe_lst pa_nil) rfl) fun σ H Q q => pastNil_key rc σ H Q q
theorem last_split {A : Type} {l : List A} {x : A} (e : l[l.length - 1]? = some x) : l = l.dropLast ++ [x] := by
  rcases List.eq_nil_or_concat l with rfl | ⟨l', y, rfl⟩
  · simp at e
  · rw [List.concat_eq_append] at *
    simp at e
    subst e
    simp
theorem paired_split {A C : Type} {P : A → C → Prop} {x : A} {y : C} : ∀ {xs : List A} {ys : List C}, Paired P (xs ++ [x]) (ys ++ [y]) → Paired P xs ys ∧ P x y
  | [], [], .cons h _ => ⟨.nil, h⟩
  | [], _ :: ys, .cons _ t => by
    have := Paired.length t
    simp at this
  | _ :: xs, [], .cons _ t => by
    have := Paired.length t
    simp at this
  | _ :: xs, _ :: ys, .cons h t => by
    obtain ⟨t1, t2⟩ := paired_split t
    exact ⟨.cons h t1, t2⟩
theorem paired_last {A C : Type} {P : A → C → Prop} {xs : List A} {ys : List C} {y : C} (t : Paired P xs (ys ++ [y])) : ∃ xs' x, xs = xs' ++ [x] := by
  rcases List.eq_nil_or_concat xs with rfl | ⟨l', x, rfl⟩
  · have := Paired.length t
    simp at this
  · exact ⟨l', x, by rw [List.concat_eq_append]⟩
/-- x.rows = x.past.pop() -/
theorem js_rowsPop {qx ppos epos : Pos} (rc : RmC X) (hN : X.N[i]? = some x) (hv : Vis X.env.scope x) (hd : (x == ("__debug__" : Str)) = false) (hcd : (x == ("__classdict__" : Str)) = false) (hline : (apos.endLine == cpos.line) = true) :
    JS X W (.Assign [.Attribute (.Name x px) "rows" epos] (.Call (.Attribute (.Attribute (.Name x qx) "past" ppos) "pop" apos) [] [] cpos) pos) (sRowsPop i) := by
  refine ps_mono (ps_fld (pe_var hN hv hd hcd) (pe_bm0 PySem.F.plainAttrs_list PySem.F.slot_list_pop PySem.F.type_list_pop mt_pop (pe_attr hN hv hd hcd) rfl hline) rfl) fun E σ H ⟨B, F, α, rho, h, r, p⟩ => ?_
  unfold sRowsPop at p
  dsimp only at p
  split at p
  · rename_i n s rows past calls e
    split at p
    · rename_i r0 el
      obtain ⟨q, dx, sv, a, b, c, qs, ws, w1, w2, w3, w4, w5, xo⟩ := r.roomX e
      have ep := last_split el
      generalize hp' : past.dropLast = past' at ep p
      subst ep
      obtain ⟨qs', q0, rfl⟩ := paired_last xo.dicts
      obtain ⟨t1, t2⟩ := paired_split xo.dicts
      have nd := xo.nd
      have e0 : ((qs' ++ [q0]).map V.ref)[((qs' ++ [q0]).map V.ref).length - 1]? = some (.ref q0) := by simp
      have ed : ((qs' ++ [q0]).map V.ref).dropLast = qs'.map V.ref := by simp
      refine ⟨.ref q, w2, q, _, dx, _, .ref b, rfl, xo.at_, rc.cls, rc.past, rfl, .inl ⟨rfl, _, .inl (.inl xo.hp)⟩, b, _, .ref q0, rfl, rfl, xo.hp, e0, .ref q, w2, q, _, dx, _, rfl, by rw [upd_ne (nd_ne nd (i := 0) (j := 3) rfl rfl (by decide))]; exact xo.at_, rc.cls, rc.rows, by simp, ?_⟩
      rw [ed]
      have n5 : ∀ {y : Addr}, y ∈ qs' ++ [q0] → y ≠ b ∧ y ≠ q := fun {y} hy => by
        obtain ⟨k, hk⟩ := List.mem_iff_getElem?.mp hy
        exact ⟨nd_ne nd (i := k + 5) (j := 3) hk rfl (by omega), nd_ne nd (i := k + 5) (j := 0) hk rfl (by omega)⟩
      have ef : putF ("rows" : Str) (.ref q0) ([("school", sv), ("rows", .ref a), ("past", .ref b), ("calls", .ref c)] : List (Str × V)) = ([("school", sv), ("rows", .ref q0), ("past", .ref b), ("calls", .ref c)] : List (Str × V)) := by
        unfold putF
        rw [if_neg (by decide)]
        unfold putF
        rw [if_pos rfl]
      rw [ef]
      have nd' : (q :: dx :: q0 :: b :: c :: qs').Nodup := by
        simp only [List.nodup_cons, List.nodup_append, List.mem_cons, List.mem_append, List.mem_singleton, List.not_mem_nil, not_or, or_false] at nd ⊢
        grind
      have le' : past'.length ≤ sizeLine := by have := xo.le; rw [List.length_append] at this; omega
      refine p σ F α _ same_refl (r.putRoom w3 w4 w5 xo (H' := upd (upd H b (.lst (qs'.map V.ref))) q (.ins (roomC X.K) dx [("school", sv), ("rows", .ref q0), ("past", .ref b), ("calls", .ref c)])) (dx' := dx) (sv' := sv) (a' := q0) (b' := b) (c' := c) (qs' := qs') (ws' := ws) ⟨upd_same, ?_, xo.hs, t2.keep same_refl ?_, ?_, dicts_off (fun q' hq' => ?_) t1, le', ?_, xo.cs, nd'⟩ (fun b0 o e0 ni => ?_) (fun b0 o e0 => ?_) fun b0 hb => .inl ?_)
      · rw [upd_ne (nd_ne nd (i := 1) (j := 0) rfl rfl (by decide)), upd_ne (nd_ne nd (i := 1) (j := 3) rfl rfl (by decide))]; exact xo.own
      · have := n5 (y := q0) (by simp)
        rw [upd_ne this.2, upd_ne this.1]
      · rw [upd_ne (nd_ne nd (i := 3) (j := 0) rfl rfl (by decide)), upd_same]
      · have := n5 (y := q') (by simp [hq'])
        rw [upd_ne this.2, upd_ne this.1]
      · rw [upd_ne (nd_ne nd (i := 4) (j := 0) rfl rfl (by decide)), upd_ne (nd_ne nd (i := 4) (j := 3) rfl rfl (by decide))]; exact xo.hc
      · rw [upd_ne (fun z => ni (by subst z; simp)), upd_ne (fun z => ni (by subst z; simp))]; exact e0
      · by_cases z : b0 = q
        · subst z; exact ⟨_, upd_same⟩
        · rw [upd_ne z]
          by_cases z' : b0 = b
          · subst z'; exact ⟨_, upd_same⟩
          · rw [upd_ne z']; exact ⟨o, e0⟩
      · simp only [List.mem_cons, List.mem_append, List.mem_singleton] at hb ⊢
        grind
    · exact p.elim
  · exact p.elim
end
end Ev
/-! # Xk: classrooms: the rest of what a classroom's own defs do -/
namespace Ev
open PySem PySem.Spec PyProof.Rows L2
theorem rpAll_split {K : PySem.W.Frag} {F : Hp} {v : V} {d : D} : ∀ {vs : List V} {ds : List D}, RpAll K F (vs ++ [v]) (ds ++ [d]) → RpAll K F vs ds ∧ Rp K F v d
  | [], [], .cons h _ => ⟨.nil, h⟩
  | [], _ :: ds, .cons _ t => by
    have := t.length
    simp at this
  | _ :: vs, [], .cons _ t => by
    have := t.length
    simp at this
  | _ :: vs, _ :: ds, .cons h t => by
    obtain ⟨t1, t2⟩ := rpAll_split t
    exact ⟨.cons h t1, t2⟩
theorem rpAll_last {K : PySem.W.Frag} {F : Hp} {vs : List V} {ds : List D} {d : D} (t : RpAll K F vs (ds ++ [d])) : ∃ vs' v, vs = vs' ++ [v] := by
  rcases List.eq_nil_or_concat vs with rfl | ⟨l', x, rfl⟩
  · have := t.length
    simp at this
  · exact ⟨l', x, by rw [List.concat_eq_append]⟩
theorem getS_mem {k : Str} {d : D} : ∀ {l : List (Str × D)}, getS l k = some d → (k, d) ∈ l
  | [], e => by cases e
  | (k0, d0) :: l, e => by
    unfold getS at e
    split at e
    · rename_i hk
      cases e
      subst hk
      exact List.mem_cons_self
    · exact List.mem_cons_of_mem _ (getS_mem e)
section
variable {X : Cx} {W : WX} {B : Fx} {F H H' : Hp} {rho : Ro} {h : Hh} {σ : L2.St} {α : List Addr} {x : Str} {i : Nat} {px pos apos cpos : Pos}
/-- x.calls.pop() -/
theorem je_callPop {ppos : Pos} (rc : RmC X) (hN : X.N[i]? = some x) (hv : Vis X.env.scope x) (hd : (x == ("__debug__" : Str)) = false) (hcd : (x == ("__classdict__" : Str)) = false) (hline : (apos.endLine == cpos.line) = true) :
    JE X W (.Call (.Attribute (.Attribute (.Name x px) "calls" ppos) "pop" apos) [] [] cpos) (dCallPop i) := by
  refine pe_mono (pe_bm0 PySem.F.plainAttrs_list PySem.F.slot_list_pop PySem.F.type_list_pop mt_pop (pe_attr hN hv hd hcd) rfl hline) fun σ H Q ⟨B, F, α, rho, h, r, p⟩ => ?_
  unfold dCallPop at p
  split at p
  · rename_i n s rows past calls e
    split at p
    · rename_i d0 el
      obtain ⟨q, dx, sv, a, b, c, qs, ws, w1, w2, w3, w4, w5, xo⟩ := r.roomX e
      have ep := last_split el
      generalize calls.dropLast = calls' at ep p
      subst ep
      have cs := xo.cs
      obtain ⟨ws', v0, rfl⟩ := rpAll_last cs.all
      obtain ⟨t1, t2⟩ := rpAll_split cs.all
      have le := cs.le
      rw [List.length_append] at le
      have nd := xo.nd
      have e0 : (ws' ++ [v0])[(ws' ++ [v0]).length - 1]? = some v0 := by simp
      have ed : (ws' ++ [v0]).dropLast = ws' := by simp
      refine ⟨.ref q, w2, q, _, dx, _, .ref c, rfl, xo.at_, rc.cls, rc.calls, rfl, .inl ⟨rfl, _, .inl (.inl xo.hc)⟩, c, _, v0, rfl, rfl, xo.hc, e0, ?_⟩
      rw [ed]
      refine p F α _ same_refl (r.putRoom w3 w4 w5 xo (H' := upd H c (.lst ws')) (dx' := dx) (sv' := sv) (a' := a) (b' := b) (c' := c) (qs' := qs) (ws' := ws') ⟨?_, ?_, xo.hs, xo.hr.keep same_refl ?_, ?_, dicts_off (fun q' hq' => ?_) xo.dicts, xo.le, upd_same, ⟨t1, by omega⟩, xo.nd⟩ (fun b0 o e0 ni => ?_) (fun b0 o e0 => ?_) fun b0 hb => .inl hb) _ t2
      · rw [upd_ne (nd_ne nd (i := 0) (j := 4) rfl rfl (by decide))]; exact xo.at_
      · rw [upd_ne (nd_ne nd (i := 1) (j := 4) rfl rfl (by decide))]; exact xo.own
      · rw [upd_ne (nd_ne nd (i := 2) (j := 4) rfl rfl (by decide))]
      · rw [upd_ne (nd_ne nd (i := 3) (j := 4) rfl rfl (by decide))]; exact xo.hp
      · obtain ⟨k, hk⟩ := List.mem_iff_getElem?.mp hq'
        rw [upd_ne (nd_ne nd (i := k + 5) (j := 4) hk rfl (by omega))]
      · rw [upd_ne (fun z => ni (by subst z; simp))]; exact e0
      · by_cases z : b0 = c
        · subst z; exact ⟨_, upd_same⟩
        · rw [upd_ne z]; exact ⟨o, e0⟩
    · exact p.elim
  · exact p.elim
/-- y.rows = dict(x.rows) -/
theorem js_rowsCopy {y : Str} {j : Nat} {py epos qpos dpos fpos : Pos} (rc : RmC X) (hg : Gl X "dict") (hm : X.mg "dict" = none) (hN : X.N[i]? = some x) (hv : Vis X.env.scope x) (hd : (x == ("__debug__" : Str)) = false) (hcd : (x == ("__classdict__" : Str)) = false)
    (hN' : X.N[j]? = some y) (hv' : Vis X.env.scope y) (hd' : (y == ("__debug__" : Str)) = false) (hcd' : (y == ("__classdict__" : Str)) = false) :
    JS X W (.Assign [.Attribute (.Name y py) "rows" epos] (.Call (.Name "dict" dpos) [.Attribute (.Name x px) "rows" qpos] [] fpos) pos) (sRowsCopy j i) := by
  refine ps_mono (ps_fld (pe_var hN' hv' hd' hcd') (pe_dictR hg hm hN hv hd hcd) rfl) fun E σ H ⟨B, F, α, rho, h, r, p⟩ => ?_
  unfold sRowsCopy at p
  dsimp only at p
  split at p
  · rename_i n0 s0 rows p0 c0 n s rows2 past calls e1 e2
    obtain ⟨q1, dx1, sv1, a1, b1, c1, qs1, ws1, v1, v2, v3, v4, v5, xo1⟩ := r.roomX e1
    obtain ⟨q, dx, sv, a, b, c, qs, ws, w1, w2, w3, w4, w5, xo⟩ := r.roomX e2
    obtain ⟨kvs, g1, g2, g3⟩ := xo1.hr
    refine ⟨.ref q1, v2, q1, _, dx1, _, .ref a1, rfl, xo1.at_, rc.cls, rc.rows, rfl, a1, kvs, rfl, .inl g1, fun p0 hp0 => ?_⟩
    have np : ∀ {z : Addr} {o : HO}, H z = some o → z ≠ p0 := fun e z => by rw [z, hp0] at e; cases e
    have ef : putF ("rows" : Str) (.ref p0) ([("school", sv), ("rows", .ref a), ("past", .ref b), ("calls", .ref c)] : List (Str × V)) = ([("school", sv), ("rows", .ref p0), ("past", .ref b), ("calls", .ref c)] : List (Str × V)) := by
      unfold putF
      rw [if_neg (by decide)]
      unfold putF
      rw [if_pos rfl]
    refine ⟨.ref q, w2, q, _, dx, _, rfl, by rw [upd_ne (np xo.at_)]; exact xo.at_, rc.cls, rc.rows, by simp, ?_⟩
    rw [ef]
    have nd := xo.nd
    have dk : ∀ q' ∈ qs, ∃ o, H q' = some o := fun q' hq' => r.io.h q' (mem_innA (List.mem_of_getElem? w3) (by rw [xo.inn]; simp [hq']))
    have dn : p0 ∉ qs := fun hq' => by obtain ⟨o, e⟩ := dk p0 hq'; exact np e rfl
    have nd' : (q :: dx :: p0 :: b :: c :: qs).Nodup := by
      have n1 := np xo.at_
      have n2 := np xo.own
      have n3 := np xo.hp
      have n4 := np xo.hc
      simp only [List.nodup_cons, List.mem_cons, not_or] at nd ⊢
      grind
    refine p σ F α _ same_refl (r.putRoom w3 w4 w5 xo (H' := upd (upd H p0 (.dK kvs)) q (.ins (roomC X.K) dx [("school", sv), ("rows", .ref p0), ("past", .ref b), ("calls", .ref c)])) (dx' := dx) (sv' := sv) (a' := p0) (b' := b) (c' := c) (qs' := qs) (ws' := ws) ⟨upd_same, ?_, xo.hs, ⟨kvs, ?_, g2, g3⟩, ?_, dicts_off (fun q' hq' => ?_) xo.dicts, xo.le, ?_, xo.cs, nd'⟩ (fun b0 o e0 ni => ?_) (fun b0 o e0 => ?_) fun b0 hb => ?_)
    · rw [upd_ne (nd_ne nd (i := 1) (j := 0) rfl rfl (by decide)), upd_ne (np xo.own)]; exact xo.own
    · rw [upd_ne (Ne.symm (np xo.at_)), upd_same]
    · rw [upd_ne (nd_ne nd (i := 3) (j := 0) rfl rfl (by decide)), upd_ne (np xo.hp)]; exact xo.hp
    · obtain ⟨k, hk⟩ := List.mem_iff_getElem?.mp hq'
      obtain ⟨o, eo⟩ := dk q' hq'
      rw [upd_ne (nd_ne nd (i := k + 5) (j := 0) hk rfl (by omega)), upd_ne (np eo)]
    · rw [upd_ne (nd_ne nd (i := 4) (j := 0) rfl rfl (by decide)), upd_ne (np xo.hc)]; exact xo.hc
    · rw [upd_ne (fun z => ni (by subst z; simp)), upd_ne (np e0)]; exact e0
    · by_cases z : b0 = q
      · subst z; exact ⟨_, upd_same⟩
      · rw [upd_ne z, upd_ne (np e0)]; exact ⟨o, e0⟩
    · simp only [List.mem_cons] at hb ⊢
      rcases hb with hb | hb | hb
      · exact .inl (.inl hb)
      · exact .inr (hb ▸ hp0)
      · exact .inl (.inr (.inr hb))
  · exact p.elim
theorem call_lenDk : CallR X (.builtin "len") (fun xs H Q => ∃ a kvs, xs = [V.ref a] ∧ H a = some (.dK kvs) ∧ Q (.int (kvs.length : Nat)) H) := by
  intro pins s σ H xs us Q I r h
  obtain ⟨a, kvs, rfl, ha, q⟩ := h
  obtain ⟨u, rfl, ru⟩ := vals1 r
  cases ru
  exact d_len I (.inl ha) fun t s' I' => ⟨.int (kvs.length : Nat), H, I', ⟨t, rfl⟩, q⟩
/-- len(x.rows) -/
theorem je_rowsLen {epos lpos : Pos} (rc : RmC X) (hg : Gl X "len") (hm : X.mg "len" = none) (hN : X.N[i]? = some x) (hv : Vis X.env.scope x) (hd : (x == ("__debug__" : Str)) = false) (hcd : (x == ("__classdict__" : Str)) = false) :
    JE X W (.Call (.Name "len" lpos) [.Attribute (.Name x px) "rows" epos] [] pos) (dRowsLen i) := by
  refine pe_mono (pe_callB call_lenDk hg hm (by decide +kernel) (pa_cons (pe_attr hN hv hd hcd) pa_nil rfl) (by decide) (by decide) rfl rfl) fun σ H Q ⟨B, F, α, rho, h, r, p⟩ => ?_
  unfold dRowsLen at p
  split at p
  · rename_i n s rows past calls e
    obtain ⟨q, dx, sv, a, b, c, qs, ws, w1, w2, w3, w4, w5, xo⟩ := r.roomX e
    obtain ⟨kvs, g1, g2, g3⟩ := xo.hr
    unfold tCB tCons tNil
    refine ⟨.ref q, w2, q, _, dx, _, .ref a, rfl, xo.at_, rc.cls, rc.rows, rfl, a, kvs, rfl, g1, ?_⟩
    rw [Paired.length g2]
    exact post_ok r p _ (.int _)
  · exact p.elim
theorem keys_rp {K : PySem.W.Frag} : ∀ {kvs : List (Key × V)} {rows : List (Str × D)}, Paired (fun (x : Key × V) (r : Str × D) => x.1 = Sum.inr r.1 ∧ Rp K F x.2 r.2) kvs rows → RpAll K F (kvs.map fun kv => kV kv.1) (rows.map fun q => .str q.1)
  | _, _, .nil => .nil
  | _, _, .cons h t => by
    rw [List.map_cons, List.map_cons, h.1]
    exact .cons (.str _) (keys_rp t)
/-- list(x.rows) -/
theorem jl_rowsKeys {epos lpos : Pos} (rc : RmC X) (hc : X.calm = true) (hg : Gl X "list") (hm : X.mg "list" = none) (hN : X.N[i]? = some x) (hv : Vis X.env.scope x) (hd : (x == ("__debug__" : Str)) = false) (hcd : (x == ("__classdict__" : Str)) = false) :
    JL X W (.Call (.Name "list" lpos) [.Attribute (.Name x px) "rows" epos] [] pos) (lRowsKeys i) := by
  refine pe_mono (pe_callTy (call_listD hc) hg hm (by decide +kernel) (pa_cons (pe_attr hN hv hd hcd) pa_nil rfl) (by decide) (by decide) rfl rfl) fun σ H Q ⟨B, F, α, rho, h, r, p⟩ => ?_
  unfold lRowsKeys at p
  split at p
  · rename_i n s rows past calls e
    obtain ⟨q, dx, sv, a, b, c, qs, ws, w1, w2, w3, w4, w5, xo⟩ := r.roomX e
    obtain ⟨kvs, g1, g2, g3⟩ := xo.hr
    unfold tCB tCons tNil
    exact ⟨.ref q, w2, q, _, dx, _, .ref a, rfl, xo.at_, rc.cls, rc.rows, rfl, a, kvs, rfl, .inl g1, new_lst r p ⟨keys_rp g2, by rw [List.length_map]; exact g3⟩⟩
  · exact p.elim
/-- what isinstance asks of the class -/
structure RmJ (K : PySem.W.Frag) (mg : Str → Option Value) : Prop where
  mg : mg "Room" = some (.ref (roomC K))
  ha : PySem.W.findIn K (.ref (roomC K)) "__class__" = some (some (.builtin "object.__class__"))
  hn : PySem.W.specialIn K (.builtin "object.__class__") "__get__" = some (some (.builtin "getset_descriptor.__get__"))
  htk : PySem.W.takesIn K (.builtin "object.__class__") = some true
  hm : PySem.W.mroIn K (roomC K) (.type "object") = some true
  own : PySem.W.kitOne K (.ref (roomC K)) (.ref (roomC K)) = some true
  no : ∀ d n, tyName d = some n → PySem.W.kitOne K (.type n) (.ref (roomC K)) = some false
  nf : ∀ d n, tyName d = some n → PySem.W.notFirst K (roomC K) (.type n) = true
abbrev RmI (X : Cx) : Prop := RmJ X.K X.mg
/-- isinstance(x, Room) -/
theorem je_isRoom {ipos rpos : Pos} (rc : RmC X) (ri : RmI X) (hg : Gl X "isinstance") (hm : X.mg "isinstance" = none) (hgr : Gl X "Room") (hN : X.N[i]? = some x) (hv : Vis X.env.scope x) (hd : (x == ("__debug__" : Str)) = false) (hcd : (x == ("__classdict__" : Str)) = false) :
    JE X W (.Call (.Name "isinstance" ipos) [.Name x px, .Name "Room" rpos] [] pos) (dIsRoom i) := by
  have hT : PE X (.Name "Room" rpos) (tC (.ref (roomC X.K))) := pe_glob (v := .ref (roomC X.K)) hgr ri.mg rfl (by decide)
  refine pe_mono (pe_callB call_isi hg hm (by decide +kernel) (pa_cons (pe_var hN hv hd hcd) (pa_cons hT pa_nil rfl) rfl) (by decide) (by decide) rfl rfl) fun σ H Q ⟨B, F, α, rho, h, r, p⟩ => ?_
  unfold dIsRoom at p
  split at p
  · rename_i n w
    split at p
    · rename_i q0 e
      obtain ⟨n, s, rows, past, calls⟩ := q0
      obtain ⟨q, dx, sv, a, b, c, qs, ws, w1, w2, w3, w4, w5, xo⟩ := r.roomX e
      unfold tCB tCons tNil
      exact ⟨.ref q, w2, _, _, _, _, _, rfl, .own _, .base (.ins xo.at_ rc.cls ri.ha ri.hn ri.htk ri.hm), ri.own, post_ok r p _ (.bl _)⟩
    · exact p.elim
  · rename_i d w
    split at p
    · rename_i n e
      obtain ⟨v, e1, e2⟩ := slot_val r w
      unfold tCB tCons tNil
      exact ⟨v, e1, _, _, _, _, _, rfl, .own _, Top.ty r.sub (.dp e2) e, ri.no _ _ e, post_ok r p _ (.bl _)⟩
    · exact p.elim
  · exact p.elim
theorem inn_blank {q dx C : Addr} (e : H q = some (.ins C dx [])) : inn H q = [dx] := by
  unfold inn
  rw [e]
  rfl
/-- the classroom that __init__ makes -/
theorem Rel.initRoom {n : Nat} {q dx a b c : Addr} {sv : V} {s : D} (r : Rel X.K B F α rho h σ H) (ea : α[n]? = some q) (eh : h[n]? = some .blank) (rs : Rp X.K F sv s) (e : H q = some (.ins (roomC X.K) dx [])) (eo : H dx = some (.own q)) (na : H a = none) (nb : H b = none) (nc : H c = none) (hab : a ≠ b) (hac : a ≠ c) (hbc : b ≠ c)
    (hq : H' q = some (.ins (roomC X.K) dx [("school", sv), ("rows", .ref a), ("past", .ref b), ("calls", .ref c)])) (ha : H' a = some (.dK [])) (hb : H' b = some (.lst [])) (hc : H' c = some (.lst [])) (off : ∀ b0 o, H b0 = some o → b0 ≠ q → H' b0 = some o) : Rel X.K B F α rho (h.set n (.room s [] [] [])) σ H' := by
  have hf : F q = none := by have := r.heap n q _ ea eh; exact this.1
  have np : ∀ {z y : Addr} {o : HO}, H z = some o → H y = none → z ≠ y := fun e e' z => by rw [z, e'] at e; cases e
  have dq : dx ≠ q := fun z => by rw [z, e] at eo; cases eo
  have x : RoomX X.K F H' q dx sv a b c [] [] s [] [] [] := by
    refine ⟨hq, off _ _ eo dq, rs, ⟨[], ha, .nil, Nat.zero_le _⟩, hb, .nil, Nat.zero_le _, hc, ⟨.nil, Nat.zero_le _⟩, ?_⟩
    have n1 := np e na
    have n2 := np e nb
    have n3 := np e nc
    have m1 := np eo na
    have m2 := np eo nb
    have m3 := np eo nc
    simp only [List.nodup_cons, List.mem_cons, not_or, List.not_mem_nil, not_false_eq_true, List.nodup_nil, and_true]
    exact ⟨⟨Ne.symm dq, n1, n2, n3⟩, ⟨m1, m2, m3⟩, ⟨hab, hac⟩, hbc⟩
  have nd := x.nd
  rw [List.nodup_cons] at nd
  refine r.mutRoom ea eh hf (fun b0 o e0 ne _ => off b0 o e0 ne) (fun b0 o e0 => ?_) (by rw [x.inn]; exact nd.2) (fun b0 hb0 => ?_) ⟨hf, x.ok⟩
  · by_cases z : b0 = q
    · subst z; exact ⟨_, hq⟩
    · exact ⟨o, off b0 o e0 z⟩
  · rw [x.inn] at hb0
    rw [inn_blank e]
    refine ⟨?_, fun z => nd.1 (z ▸ hb0), ?_⟩
    · simp only [List.mem_cons, List.not_mem_nil, or_false] at hb0 ⊢
      rcases hb0 with rfl | rfl | rfl | rfl
      · exact .inl rfl
      · exact .inr na
      · exact .inr nb
      · exact .inr nc
    · simp only [List.mem_cons, List.not_mem_nil, or_false] at hb0
      rcases hb0 with rfl | rfl | rfl | rfl
      · exact ⟨_, x.own⟩
      · exact ⟨_, ha⟩
      · exact ⟨_, hb⟩
      · exact ⟨_, hc⟩
theorem putF_off {f g : Str} {y v : V} {fs : List (Str × V)} (h : g ≠ f) : putF f y ((g, v) :: fs) = (g, v) :: putF f y fs := by
  rw [putF]
  rw [if_neg (by first | exact h | exact fun z => h z.symm | simpa using h)]
theorem putF1 {v a : V} : putF ("rows" : Str) a ([("school", v)] : List (Str × V)) = ([("school", v), ("rows", a)] : List (Str × V)) := by rw [putF_off (by decide)]; rfl
theorem putF2 {v a b : V} : putF ("past" : Str) b ([("school", v), ("rows", a)] : List (Str × V)) = ([("school", v), ("rows", a), ("past", b)] : List (Str × V)) := by rw [putF_off (by decide), putF_off (by decide)]; rfl
theorem putF3 {v a b c : V} : putF ("calls" : Str) c ([("school", v), ("rows", a), ("past", b)] : List (Str × V)) = ([("school", v), ("rows", a), ("past", b), ("calls", c)] : List (Str × V)) := by rw [putF_off (by decide), putF_off (by decide), putF_off (by decide)]; rfl
/-- x.school = y; x.rows = {}; x.past = []; x.calls = [] -/
theorem js_init {y : Str} {j : Nat} {rest : List Stmt} {b : DenS} {py x1 x2 x3 x4 e1 e2 e3 e4 v2 v3 v4 p1 p2 p3 p4 : Pos} (rc : RmC X) (hN : X.N[i]? = some x) (hv : Vis X.env.scope x) (hd : (x == ("__debug__" : Str)) = false) (hcd : (x == ("__classdict__" : Str)) = false)
    (hN' : X.N[j]? = some y) (hv' : Vis X.env.scope y) (hd' : (y == ("__debug__" : Str)) = false) (hcd' : (y == ("__classdict__" : Str)) = false) (hb : JSs X W rest b) :
    JSs X W (.Assign [.Attribute (.Name x x1) "school" e1] (.Name y py) p1 :: .Assign [.Attribute (.Name x x2) "rows" e2] (.Dict [] [] v2) p2 :: .Assign [.Attribute (.Name x x3) "past" e3] (.List [] v3) p3 :: .Assign [.Attribute (.Name x x4) "calls" e4] (.List [] v4) p4 :: rest) (sSeq (sInit i j) b) := by
  have ps := fun p => pe_var (X := X) (pos := p) hN hv hd hcd
  refine pss_mono (pss_cons (ps_fld (ps x1) (pe_var hN' hv' hd' hcd') rfl) (pss_cons (ps_fld (ps x2) pe_dnewK rfl) (pss_cons (ps_fld (ps x3) (pe_lst pa_nil) rfl) (pss_cons (ps_fld (ps x4) (pe_lst pa_nil) rfl) hb)))) fun E σ H ⟨B, F, α, rho, h, r, p⟩ => ?_
  unfold sSeq sInit at p
  dsimp only at p
  split at p
  · rename_i d n ej ei
    split at p
    · rename_i eh
      have p : PostS X W B E F (b ⟨rho, h.set n (.room d [] [] [])⟩) := p
      obtain ⟨v, ev, rv⟩ := slot_val r ej
      obtain ⟨q, f1, f2⟩ := r.slot i _ ei
      have f1 := jn f1
      obtain ⟨hf, dx, g1, g2⟩ := r.heap n q _ f2 eh
      have np : ∀ {z y : Addr} {o : HO} {G : Hp}, G z = some o → G y = none → z ≠ y := fun e e' z => by rw [z, e'] at e; cases e
      have dq : dx ≠ q := fun z => by rw [z, g1] at g2; cases g2
      unfold tSeq sFld
      refine ⟨v, ev, .ref q, f1, q, _, dx, _, rfl, g1, rc.cls, rc.school, by simp, ?_⟩
      refine fun a na => ⟨.ref q, f1, q, _, dx, _, rfl, by rw [upd_ne (fun z => by rw [← z, upd_same] at na; cases na), upd_same], rc.cls, rc.rows, by show 1 < 1000; decide, ?_⟩
      have qa : q ≠ a := fun z => by rw [← z, upd_same] at na; cases na
      have na' : H a = none := by rw [upd_ne (Ne.symm qa)] at na; exact na
      refine ⟨by simp, fun b0 nb => ⟨.ref q, f1, q, _, dx, _, rfl, by rw [upd_ne (fun z => by rw [← z, upd_same] at nb; cases nb), upd_same], rc.cls, rc.past, by show (putF _ _ [(_, v)]).length < 1000; rw [putF1]; show 2 < 1000; decide, ?_⟩⟩
      have qb : q ≠ b0 := fun z => by rw [← z, upd_same] at nb; cases nb
      rw [upd_ne (Ne.symm qb)] at nb
      have ab : a ≠ b0 := fun z => by rw [← z, upd_same] at nb; cases nb
      have nb' : H b0 = none := by rw [upd_ne (Ne.symm ab), upd_ne (Ne.symm qb)] at nb; exact nb
      refine ⟨by simp, fun c nc => ⟨.ref q, f1, q, _, dx, _, rfl, by rw [upd_ne (fun z => by rw [← z, upd_same] at nc; cases nc), upd_same], rc.cls, rc.calls, by show (putF _ _ (putF _ _ [(_, v)])).length < 1000; rw [putF1, putF2]; show 3 < 1000; decide, ?_⟩⟩
      have qc : q ≠ c := fun z => by rw [← z, upd_same] at nc; cases nc
      rw [upd_ne (Ne.symm qc)] at nc
      have bc : b0 ≠ c := fun z => by rw [← z, upd_same] at nc; cases nc
      rw [upd_ne (Ne.symm bc), upd_ne (Ne.symm qc)] at nc
      have ac : a ≠ c := fun z => by rw [← z, upd_same] at nc; cases nc
      have nc' : H c = none := by rw [upd_ne (Ne.symm ac), upd_ne (Ne.symm qc)] at nc; exact nc
      refine ⟨B, F, α, rho, _, ?_, p⟩
      refine r.initRoom f2 eh rv g1 g2 na' nb' nc' ab ac bc ?_ ?_ ?_ ?_ fun z o ez hz => ?_
      · rw [upd_same]; show some (HO.ins _ _ (putF _ _ (putF _ _ (putF _ _ [(_, v)])))) = _; rw [putF1, putF2, putF3]
      · rw [upd_ne (Ne.symm qa), upd_ne ac, upd_ne (Ne.symm qa), upd_ne ab, upd_ne (Ne.symm qa), upd_same]
      · rw [upd_ne (Ne.symm qb), upd_ne bc, upd_ne (Ne.symm qb), upd_same]
      · rw [upd_ne (Ne.symm qc), upd_same]
      · rw [upd_ne hz, upd_ne (np ez nc'), upd_ne hz, upd_ne (np ez nb'), upd_ne hz, upd_ne (np ez na'), upd_ne hz]; exact ez
    · exact p.elim
  · exact p.elim
theorem hits_rows {pins : List (Addr × Obj)} {s : Shared} {A : Around} (I : Inv X pins σ H s) (sub : Same F H) (hu : A.in1.units + 64 < cLine) {ls : List (Key × V)} {vb : List (Key × Value)} {rows2 : List (Str × D)} (rb : KV ls vb) (t2 : Paired (fun (x : Key × V) (r : Str × D) => x.1 = Sum.inr r.1 ∧ Rp X.K F x.2 r.2) ls rows2) (s2 : rowsSh rows2 = true) :
    ∀ {ks : List (Key × V)} {va : List (Key × Value)} {rows : List (Str × D)}, KV ks va → Paired (fun (x : Key × V) (r : Str × D) => x.1 = Sum.inr r.1 ∧ Rp X.K F x.2 r.2) ks rows → rowsSh rows = true → PySem.W.KeqHits A.in1 s vb va (rows.all fun q => match getS rows2 q.1 with
      | some d => PyData.eqv q.2 d
      | none => false)
  | _, _, _, .nil, .nil, _ => .nil
  | (k0, v0) :: ks, (k1, u1) :: va, (k2, d2) :: rows, .cons h ra, .cons g t, s1 => by
    obtain ⟨e1, r1⟩ := h
    obtain ⟨e2, p2⟩ := g
    dsimp only at e1 e2 r1 p2
    subst e1 e2
    unfold rowsSh at s1
    rw [List.all_cons, Bool.and_eq_true] at s1
    have ih := hits_rows I sub hu rb t2 s2 ra t s1.2
    rw [List.all_cons]
    cases e : getS rows2 k2 with
    | none =>
      have n := val_none t2 e
      have z := rb.val (Sum.inr k2)
      rw [n] at z
      dsimp only
      rw [Bool.false_and]
      exact .miss (RelO.none_of z)
    | some d' =>
      obtain ⟨v', ev, rv⟩ := val_some t2 e
      have z := rb.val (Sum.inr k2)
      rw [ev] at z
      obtain ⟨y, ey, ry⟩ := z.some_of
      have sd : SeqAt.shaped d' = true := by
        have m : (k2, d') ∈ rows2 := getS_mem e
        exact List.all_eq_true.mp s2 _ m
      obtain ⟨as, q1⟩ := Dp.reads I d2 v0 u1 (rp_dp sub p2 (SeqAt.canLay_of_shaped s1.1)) r1
      obtain ⟨bs, q2⟩ := Dp.reads I d' v' y (rp_dp sub rv (SeqAt.canLay_of_shaped sd)) ry
      dsimp only
      exact .hit ey (PySem.W.keq_at q1 q2 s1.1 sd hu) ih
/-- x.rows == y.rows -/
def rEqRows (K : PySem.W.Frag) : R2 := fun x y H Q => ∃ F a b rows rows2, Same F H ∧ x = .ref a ∧ y = .ref b ∧ SdOk K F H a rows ∧ SdOk K F H b rows2 ∧ rowsSh rows = true ∧ rowsSh rows2 = true ∧ Q (.bl (rowsEq rows rows2)) H
theorem op_eqRows (hu : X.A.units + 65 < cLine) : OpR X (compareOp .Eq) (rEqRows X.K) := by
  intro pins s σ H x y v u Q I rx ry h
  obtain ⟨F, a, b, rows, rows2, sub, rfl, rfl, ⟨ks, ea, t1, _⟩, ⟨ls, eb, t2, _⟩, s1, s2, q⟩ := h
  obtain rfl : v = Value.ref a := rx
  obtain rfl : u = Value.ref b := ry
  obtain ⟨_, ya, va, ra, da⟩ := (show ObjOk X.prog X.w H s.heap a (.dK ks) from I.hok a _ ea)
  obtain ⟨_, yb, vb, rb, db⟩ := (show ObjOk X.prog X.w H s.heap b (.dK ls) from I.hok b _ eb)
  have l1 : va.length = rows.length := by rw [← ra.length, Paired.length t1]
  have l2 : vb.length = rows2.length := by rw [← rb.length, Paired.length t2]
  refine PySem.W.keq_eq (knd := mixKind X.prog X.w) ya yb da db (by omega) (fun _ => hits_rows I sub (by show X.A.units + 1 + 64 < cLine; omega) rb t2 s2 ra t1 s1) (fin_bl I q ?_)
  rw [l1, l2]
  rfl
/-- x.rows == y.rows -/
theorem je_rowsEq {y : Str} {j : Nat} {py e1 e2 : Pos} (rc : RmC X) (hu : X.A.units + 65 < cLine) (hN : X.N[i]? = some x) (hv : Vis X.env.scope x) (hd : (x == ("__debug__" : Str)) = false) (hcd : (x == ("__classdict__" : Str)) = false)
    (hN' : X.N[j]? = some y) (hv' : Vis X.env.scope y) (hd' : (y == ("__debug__" : Str)) = false) (hcd' : (y == ("__classdict__" : Str)) = false) :
    JE X W (.Compare (.Attribute (.Name x px) "rows" e1) [.Eq] [.Attribute (.Name y py) "rows" e2] pos) (dRowsEq i j) := by
  refine pe_mono (pe_cmpR (op_eqRows hu) (pe_attr hN hv hd hcd) (pe_attr hN' hv' hd' hcd') rfl) fun σ H Q ⟨B, F, α, rho, h, r, p⟩ => ?_
  unfold dRowsEq at p
  split at p
  · rename_i n1 s1 r1 p1 c1 n2 s2 r2 p2 c2 w1 w2
    split at p
    · rename_i hs
      rw [Bool.and_eq_true] at hs
      obtain ⟨q, dx, sv, a, b, c, qs, ws, f1, f2, f3, f4, f5, xo⟩ := r.roomX w1
      obtain ⟨q2, dx2, sv2, a2, b2, c2, qs2, ws2, g1, g2, g3, g4, g5, xo2⟩ := r.roomX w2
      exact ⟨.ref q, f2, q, _, dx, _, .ref a, rfl, xo.at_, rc.cls, rc.rows, rfl, .ref q2, g2, q2, _, dx2, _, .ref a2, rfl, xo2.at_, rc.cls, rc.rows, rfl, F, a, a2, _, _, r.sub, rfl, rfl, xo.hr, xo2.hr, hs.1, hs.2, post_ok r p _ (.bl _)⟩
    · exact p.elim
  · exact p.elim
end
end Ev
/-! # Xl: methods, new classrooms, own ==, len, str -/
namespace L2
open PySem PySem.Spec PyProof.Rows
section
variable {X : Cx} {CX : CXT} {k n : Nat} {E : St → XK} {p pos apos : Pos} {C f : Addr} {m : Str} {o e : Expr} {es : List Expr} {ta : TE} {t tk : TA} {dvs : List V} {sp : Sp} {kws : List Keyword}
abbrev MArm (X : Cx) (o : Expr) (m : Str) (apos : Pos) (es : List Expr) (kws : List Keyword) (pos : Pos) (pl : Sem Bool) : Prop := eval (.Call (.Attribute o m apos) es kws pos) X.env = (do
      let ov ← eval o X.env
      standAt apos.atName
      let (f, first) ← holding [ov] (getMethod ov m pl)
      callWith pos f first (backTo pos (starEach es X.env)) (backToKw pos (keywordEach kws X.env)))
theorem marm {o : Expr} {m : Str} {apos pos : Pos} {es : List Expr} {kws : List Keyword} {X : Cx} (hbase : attributeBase o m X.env (eval o X.env) = eval o X.env) (hform : methodCallForm (es.length + kws.length) (backTo pos (starEach es X.env)) (backToKw pos (keywordEach kws X.env)) = true) (hline : (apos.endLine == pos.line) = true) :
    MArm X o m apos es kws pos (do return (← importBound o X.env).getD true) := by
  unfold MArm
  rw [arm_eval_Call, hbase]
  have hpos : methodCallPos true o X.env apos pos = pure pos := by unfold methodCallPos; simp [hline]
  refine bind_congr fun ov => bind_congr fun _ => ?_
  unfold methodCall calleeOf
  rw [hform, if_pos rfl]
  refine bind_congr fun q => ?_
  obtain ⟨f, first⟩ := q
  dsimp only
  rw [hpos]
  rfl
theorem form_ok {es : List Expr} {kws : List Keyword} {env : Env} {pos : Pos} (h1 : (backTo pos (starEach es env)).any (·.1) = false) (h2 : (backToKw pos (keywordEach kws env)).all (·.1.isSome) = true) (hl : es.length + kws.length < 29) : methodCallForm (es.length + kws.length) (backTo pos (starEach es env)) (backToKw pos (keywordEach kws env)) = true := by
  unfold methodCallForm
  rw [h2]
  have h3 : (backTo pos (starEach es env)).all (fun x => !x.1) = true := by
    rw [List.all_eq_true]
    intro x hx
    have := List.any_eq_false.mp h1 x hx
    simpa using this
  rw [h3]
  simp only [Bool.true_and, decide_eq_true_eq]
  split <;> omega
/-- o.m(e, ..), what is raised at the caller's slots -/
theorem pe_methX {pl : Sem Bool} (he : PE X o ta) (c : Cls X.K C) (hm : Meth X.K C m f) (d : DefAt X CX k (.ref f) dvs sp) (hr : Room k X.A) (hx : ∀ σ, PassesAt CX X σ (E σ)) (ha : PA X (e :: es) t)
    (hst : starEach (e :: es) X.env = (false, eval e X.env) :: starEach es X.env) (hpl : (backTo pos (starEach es X.env)).any (·.1) = false) (ht : MArm X o m apos (e :: es) [] pos pl) :
    PE X (.Call (.Attribute o m apos) (e :: es) [] pos) (fun σ H Q => ta σ H fun x H1 => ∃ a dx fs, x = .ref a ∧ H1 a = some (.ins C dx fs) ∧ fs.lookup m = none ∧ t σ H1 fun vs H2 => sp (x :: (vs ++ dvs)) H2 Q (E σ)) := by
  refine ⟨fun pins s σ H Q I h => ?_⟩
  refine PySem.W.methodCall_KW (pl := pl) (thn (he.run pins s σ H _ I h) fun u s1 ⟨x, H1, I1, rx, a, dx, fs, ex, ea, l, q⟩ => ?_) ht
  subst ex
  obtain rfl : u = Value.ref a := rx
  refine getmeth_ok I1 ea c hm l ?_
  obtain ⟨f', fd, ps, ds, ef, hk, hb, hd, F⟩ := d.ex
  cases ef
  refine PySem.W.callWith_K (first := [.ref a]) (h₀ := X.base) I.ok.mod.kin hm.kp (thn (ha.run pos pins s1 σ H1 _ I1 q) fun us s2 ⟨vs, H2, I2, r, q2⟩ => ⟨I2.kIn, ?_⟩) hst hpl
  exact run_fnSD (us := .ref a :: us) (vs := .ref a :: vs) F hr hb hd (hx σ) I2 (.cons rfl r) q2
theorem pe_methX0 {pl : Sem Bool} (he : PE X o ta) (c : Cls X.K C) (hm : Meth X.K C m f) (d : DefAt X CX k (.ref f) dvs sp) (hr : Room k X.A) (hx : ∀ σ, PassesAt CX X σ (E σ)) (ht : MArm X o m apos [] [] pos pl) :
    PE X (.Call (.Attribute o m apos) [] [] pos) (fun σ H Q => ta σ H fun x H1 => ∃ a dx fs, x = .ref a ∧ H1 a = some (.ins C dx fs) ∧ fs.lookup m = none ∧ sp (x :: dvs) H1 Q (E σ)) := by
  refine ⟨fun pins s σ H Q I h => ?_⟩
  refine PySem.W.methodCall_KW (pl := pl) (thn (he.run pins s σ H _ I h) fun u s1 ⟨x, H1, I1, rx, a, dx, fs, ex, ea, l, q⟩ => ?_) ht
  subst ex
  obtain rfl : u = Value.ref a := rx
  refine getmeth_ok I1 ea c hm l ?_
  obtain ⟨f', fd, ps, ds, ef, hk, hb, hd, F⟩ := d.ex
  cases ef
  exact PySem.W.callWith_K0 (first := [.ref a]) I1.kIn hm.kp (run_fnSD (us := [.ref a]) (vs := [.ref a]) F hr hb hd (hx σ) I1 (.cons rfl .nil) q)
/-- o.m(e, .., k = v) -/
theorem pe_methK {pl : Sem Bool} {fd : FuncData} {ps ks : List Str} {g : List Value → List Value → List Value} {gV : List V → List V → List V} (he : PE X o ta) (c : Cls X.K C) (hm : Meth X.K C m f) (F : FnOk X.prog X.w X.K X.mg X.base CX k f fd ps sp) (hr : Room k X.A) (hb : KBn X.K fd ps n ks g gV) (hx : ∀ σ, PassesAt CX X σ (E σ))
    (ha : PA X (e :: es) t) (hkw : PK X kws tk) (hall : (backToKw pos (keywordEach kws X.env)).all (·.1.isSome) = true) (hks : (backToKw pos (keywordEach kws X.env)).filterMap (·.1) = ks)
    (hst : starEach (e :: es) X.env = (false, eval e X.env) :: starEach es X.env) (hpl : ((backTo pos (starEach (e :: es) X.env)).any (·.1) || (backToKw pos (keywordEach kws X.env)).any (·.1.isNone)) = false) (ht : MArm X o m apos (e :: es) kws pos pl) :
    PE X (.Call (.Attribute o m apos) (e :: es) kws pos) (fun σ H Q => ta σ H fun x H1 => ∃ a dx fs, x = .ref a ∧ H1 a = some (.ins C dx fs) ∧ fs.lookup m = none ∧ t σ H1 fun vs H2 => tk σ H2 fun zs H3 => (x :: vs).length = n ∧ zs.length = ks.length ∧ sp (gV (x :: vs) zs) H3 Q (E σ)) := by
  refine ⟨fun pins s σ H Q I h => ?_⟩
  refine PySem.W.methodCall_KW (pl := pl) (thn (he.run pins s σ H _ I h) fun u s1 ⟨x, H1, I1, rx, a, dx, fs, ex, ea, l, q⟩ => ?_) ht
  subst ex
  obtain rfl : u = Value.ref a := rx
  refine getmeth_ok I1 ea c hm l ?_
  refine PySem.W.callWith_KW (first := [.ref a]) (h₀ := X.base) I.ok.mod.kin hm.kp hall (thn (ha.run pos pins s1 σ H1 _ I1 q) fun us s2 ⟨vs, H2, I2, r, q2⟩ => ?_) hpl hst
  refine thn (hkw.run pos pins s2 σ H2 _ I2 q2) fun ws s3 ⟨zs, H3, I3, rz, l1, l2, q3⟩ => ⟨I3.kIn, ?_⟩
  rw [hks]
  exact run_fnNS (us := .ref a :: us) (vs := .ref a :: vs) F hr hb (hx σ) I3 (.cons rfl r) rz l1 l2 q3
/-- C(e, ..), what is raised at the caller's slots -/
theorem run_makeS {fd : FuncData} {ps : List Str} {pins : List (Addr × Obj)} {σ : St} {H : Hp} {s : Shared} {Q : VK} {us : List Value} {vs : List V} (M : Mk X.K C f) (F : FnOk X.prog X.w X.K X.mg X.base CX k f fd ps sp) (hr : Room (k + 1) X.A) (hb : Binds X.K fd ps [])
    (hx : PassesAt CX X σ (E σ)) (I : Inv X pins σ H s) (r : Vals vs us)
    (h : ∀ x dx, H x = none → H dx = none → dx ≠ x → sp (.ref x :: vs) (upd (upd H dx (.own x)) x (.ins C dx [])) (fun v H2 => v = .non ∧ Q (.ref x) H2) (E σ)) :
    wpAny (model X.prog X.w) X.A (call (.ref C) us) (EP X pins σ Q) X.xe s := by
  have hq := h (s.heap.objs.size + 1) s.heap.objs.size (I.hok.fresh (Nat.le_succ _)) (I.hok.fresh (Nat.le_refl _)) (Nat.ne_of_lt (Nat.lt_succ_self _))
  have I2 := Inv.made (C := C) I
  have r2 : Vals (V.ref (s.heap.objs.size + 1) :: vs) (Value.ref (s.heap.objs.size + 1) :: us) := .cons rfl r
  have hl : (Value.ref (s.heap.objs.size + 1) :: us).length = ps.length := by
    have e := r2.length
    rw [F.len _ _ _ _ hq] at e
    exact e.symm
  have b := hb _ (Value.ref (s.heap.objs.size + 1) :: us) I2.kIn (by rw [List.append_nil]; exact hl)
  rw [List.append_nil] at b
  refine wpAny_call (make_map (f := f) I.kIn M.makes M.init (beq_iff_eq.mp M.fn) (codeAny_mono (F.run _ X.stack _ _ ⟨Value.ref (s.heap.objs.size + 1) :: us, []⟩ (Value.ref (s.heap.objs.size + 1) :: us) _ _ (E σ) (hr.make C us [])
    (I2.env0.make C us []) b r2 hq) fun r s' hq' => ?_))
  cases r with
  | error e => exact hx pins _ _ e s' I2 hq'
  | ok fl =>
    cases fl with
    | ret u =>
      obtain ⟨v, H', I3, rv, ev, q3⟩ := I2.after hq'
      subst ev
      exact ⟨rv, ⟨V.ref (s.heap.objs.size + 1), H', I3, rfl, q3⟩⟩
    | next => exact False.elim hq'
    | brk => exact False.elim hq'
    | cont => exact False.elim hq'
theorem pe_makeS {fd : FuncData} {ps : List Str} {x : Str} (M : Mk X.K C f) (F : FnOk X.prog X.w X.K X.mg X.base CX k f fd ps sp) (hr : Room (k + 1) X.A) (hg : Gl X x) (hm : X.mg x = some (.ref C)) (hb : Binds X.K fd ps []) (hx : ∀ σ, PassesAt CX X σ (E σ))
    (ha : PA X (e :: es) t) (hdb : (x == ("__debug__" : Str)) = false) (he : starEach (e :: es) X.env = (false, eval e X.env) :: starEach es X.env) (hpl : (backTo pos (starEach es X.env)).any (·.1) = false) :
    PE X (.Call (.Name x p) (e :: es) [] pos) (fun σ H Q => t σ H fun vs H1 => ∀ x dx, H1 x = none → H1 dx = none → dx ≠ x → sp (.ref x :: vs) (upd (upd H1 dx (.own x)) x (.ins C dx [])) (fun v H2 => v = .non ∧ Q (.ref x) H2) (E σ)) := by
  refine ⟨fun pins s σ H Q I h => ?_⟩
  refine wpAny_Call_Name_kw (ld_glob I hg hm ?_ hdb)
  refine PySem.W.callWith_K (h₀ := X.base) I.ok.mod.kin M.kp (thn (ha.run pos pins s σ H _ I h) fun us s1 ⟨vs, H1, I1, r, q⟩ => ⟨I1.kIn, ?_⟩) he hpl
  exact run_makeS M F hr hb (hx σ) I1 r q
/-- the def runs, one call deeper or not -/
theorem run_at {fd : FuncData} {ps : List Str} {A : Around} {pins : List (Addr × Obj)} {σ : St} {H : Hp} {s : Shared} {Q : VK} {us : List Value} {vs : List V} (F : FnOk X.prog X.w X.K X.mg X.base CX k f fd ps sp) (hr : Room k A) (e0 : Env0 X.prog X.w X.K X.mg X.base A X.stack s H) (hb : Binds X.K fd ps [])
    (hx : PassesAt CX X σ (E σ)) (I : Inv X pins σ H s) (r : Vals vs us) (h : sp vs H Q (E σ)) : wpAny (model X.prog X.w) A (call (.ref f) us) (EP X pins σ Q) X.xe s := by
  have hl : us.length = ps.length := by rw [← r.length]; exact F.len _ _ _ _ h
  have b := hb s us I.kIn (by rw [List.append_nil]; exact hl)
  rw [List.append_nil] at b
  refine wpAny_call (codeAny_mono (F.run A X.stack s H ⟨us, []⟩ us vs Q (E σ) hr e0 b r h) fun r s' hq => ?_)
  cases r with
  | error e => exact hx pins H s e s' I hq
  | ok fl =>
    cases fl with
    | ret u => exact I.after hq
    | next => exact False.elim hq
    | brk => exact False.elim hq
    | cont => exact False.elim hq
/-- a def of the class, by a name of Python's own -/
structure OwnQ (P : Program) (w : World) (K : PySem.W.Frag) (mg : Str → Option Value) (base : Heap) (CX : CXT) (k : Nat) (C : Addr) (m : Str) (sp : Sp) : Prop where
  ex : ∃ f fd ps, PySem.W.findIn K (.ref C) m = some (some (.ref f)) ∧ PySem.W.isFn K (.ref f) = true ∧ Binds K fd ps [] ∧ FnOk P w K mg base CX k f fd ps sp
abbrev OwnDef (X : Cx) (CX : CXT) (k : Nat) (C : Addr) (m : Str) (sp : Sp) : Prop := OwnQ X.prog X.w X.K X.mg X.base CX k C m sp
/-- x == y by the class's own def -/
theorem op_own {σ0 : St} (d : OwnDef X CX k C "__eq__" sp) (hr : Room k X.A) (hx : ∀ σ, PassesAt CX X σ (E σ)) {pins : List (Addr × Obj)} {s : Shared} {H : Hp} {x y : V} {v u : Value} {Q : VK} (I : Inv X pins σ0 H s) (rx : RelV x v) (ry : RelV y u)
    (h : ∃ a dx fs t, x = .ref a ∧ H a = some (.ins C dx fs) ∧ TyX X.K H y t ∧ PySem.W.notFirst X.K C t = true ∧ sp [x, y] H (fun z H' => ∃ b, z = .bl b ∧ Q (.bl b) H') (E σ0)) : wpAny (model X.prog X.w) X.A (compareOp .Eq v u) (EP X pins σ0 Q) X.xe s := by
  obtain ⟨a, dx, fs, t, rfl, ea, ty, nf, hs⟩ := h
  obtain rfl : v = Value.ref a := rx
  obtain ⟨mA, J, _⟩ := ins_get I.hok ea
  obtain ⟨od, J, _⟩ := J.look
  obtain ⟨m, hF⟩ := I.fr
  obtain ⟨P, kx, hp, _⟩ := kit_of I ry ty
  obtain ⟨f, fd, ps, d1, d2, d3, F⟩ := d.ex
  show wpAny (model X.prog X.w) X.A (richCompare .Eq (.ref a) u) (EP X pins σ0 Q) X.xe s
  refine PySem.W.cmp_K (op := .Eq) (tb := t) hr.units0 hF I.ok.mod.kin J (kx.ty _ _ I.kIn hp) nf d1 d2 ?_
  refine wpAny_mono (run_at F hr I.env0 d3 (hx σ0) I (.cons (show RelV (.ref a) (Value.ref a) from rfl) (.cons ry .nil)) hs) (fun r s' hq => ?_) fun _ _ z => z
  obtain ⟨z, H', I', rz, b, ez, q⟩ := hq
  subst ez
  cases rz
  exact ⟨.bl b, H', I', rfl, q⟩
/-- len(x) by the class's own def -/
theorem call_lenOwn (d : OwnDef X CX k C "__len__" sp) (hr : Room (k + 1) X.A) {σ0 : St} (hx : ∀ σ, PassesAt CX X σ (E σ)) {pins : List (Addr × Obj)} {s : Shared} {H : Hp} {a dx : Addr} {fs : List (Str × V)} {Q : VK} (I : Inv X pins σ0 H s) (ea : H a = some (.ins C dx fs))
    (h : sp [.ref a] H (fun z H' => ∃ b : Int, z = .int b ∧ (0 ≤ b ∧ b < 2 ^ 63) ∧ Q (.int b) H') (E σ0)) : wpAny (model X.prog X.w) X.A (call (.builtin "len") [.ref a]) (EP X pins σ0 Q) X.xe s := by
  obtain ⟨mA, J, _⟩ := ins_get I.hok ea
  obtain ⟨od, J, _⟩ := J.look
  obtain ⟨m, hF⟩ := I.fr
  obtain ⟨f, fd, ps, d1, d2, d3, F⟩ := d.ex
  refine PySem.W.len_K hF I.ok.mod.kin J d1 d2 ?_
  refine wpAny_mono (run_at (A := X.A.in1) F hr.in1 I.env0.in1 d3 (hx σ0) I (.cons (show RelV (.ref a) (Value.ref a) from rfl) .nil) h) (fun r s' hq => ?_) fun _ _ z => z
  obtain ⟨z, H', I', rz, b, ez, hb, q⟩ := hq
  subst ez
  obtain ⟨tk, rfl⟩ := rz
  exact ⟨hb, .int b, H', I'.tok _, ⟨_, rfl⟩, q⟩
/-- str(x) by the class's own def -/
theorem call_strOwn (d : OwnDef X CX k C "__str__" sp) (hr : Room (k + 2) X.A) {σ0 : St} (hx : ∀ σ, PassesAt CX X σ (E σ)) {pins : List (Addr × Obj)} {s : Shared} {H : Hp} {a dx : Addr} {fs : List (Str × V)} {Q : VK} (I : Inv X pins σ0 H s) (ea : H a = some (.ins C dx fs))
    (h : sp [.ref a] H (fun z H' => ∃ b : Str, z = .str b ∧ Q (.str b) H') (E σ0)) : wpAny (model X.prog X.w) X.A (call (.type "str") [.ref a]) (EP X pins σ0 Q) X.xe s := by
  obtain ⟨mA, J, _⟩ := ins_get I.hok ea
  obtain ⟨od, J, _⟩ := J.look
  obtain ⟨f, fd, ps, d1, d2, d3, F⟩ := d.ex
  refine PySem.W.kso_call (hr.in1.in1.units0) I.kIn J d1 d2 ?_
  refine wpAny_mono (run_at (A := X.A.in1.in1) F hr.in1.in1 I.env0.in1.in1 d3 (hx σ0) I (.cons (show RelV (.ref a) (Value.ref a) from rfl) .nil) h) (fun r s' hq => ?_) fun _ _ z => z
  obtain ⟨z, H', I', rz, b, ez, q⟩ := hq
  subst ez
  obtain ⟨tk, rfl⟩ := rz
  exact ⟨.str b, H', I', ⟨_, rfl⟩, q⟩
end
end L2
/-! # Xm: the same by plain meanings -/
namespace Ev
open PySem PySem.Spec PyProof.Rows L2
section
variable {X : Cx} {W : WX} {B : Fx} {F F1 F' H H1 H' : Hp} {rho : Ro} {h h1 h' : Hh} {σ : L2.St} {α α1 : List Addr} {x : Str} {i k : Nat} {px pos apos cpos : Pos} {e : Expr} {es : List Expr}
theorem ObOk.f {K : PySem.W.Frag} {p : Addr} {o : Ob} (hl : obLive o = true) (q : ObOk K F H p o) : F p = none := by
  cases o with
  | dead => cases hl
  | _ => exact q.1
/-- what a callee is promised -/
theorem sp_of {np : Nat} {m : FnDen} {vs : List V} {args : List Arg} {Q : VK} (r1 : Rel X.K B F1 α1 rho h1 σ H1) (hvs : Paired (ArgOk X.K F1 α1) vs args) (har : ∀ args h, m args h ≠ .bad → args.length = np) (p1 : Post X W B σ F1 rho (m args h1) (GD X Q)) :
    spOf X.K X.mg np m vs H1 Q (fun cls d H' => W cls d σ H') := by
  have len : vs.length = np := by
    rw [Paired.length hvs]
    refine har args h1 fun z => ?_
    rw [z] at p1
    exact p1
  refine ⟨len, F1, α1, args, h1, r1.sub, r1.nd, r1.heapOk, hvs, ?_⟩
  cases w : m args h1 with
  | ok d h2 =>
    rw [w] at p1
    exact fun v F' H' x ho hv => p1 F' α1 H' x.f (r1.called x ho) v hv
  | exc c h2 =>
    rw [w] at p1
    exact fun cv F' H' x ho hc => p1 cv F' α1 H' x.f (r1.called x ho) hc
  | bad =>
    rw [w] at p1
    exact p1
/-! ### defs that give a thing of their own -/
def spOfO (K : PySem.W.Frag) (mg : Str → Option Value) (np : Nat) (m : FnDenO) : Sp := fun vs H Q E => vs.length = np ∧ ∃ F α args h, Same F H ∧ α.Nodup ∧ HeapOk K F α h H ∧ Paired (ArgOk K F α) vs args ∧ match m args h with
  | .ok o h' => ∀ q F' H', FnPost F H α F' H' → HeapOk K F' (α ++ [q]) (h' ++ [o]) H' → F' q = none → H q = none → (∀ b ∈ innA H' (α ++ [q]), b ∈ innA H α ∨ H b = none) → Q (.ref q) H'
  | .exc c h' => ∀ cv F' H', FnPost F H α F' H' → HeapOk K F' α h' H' → mg c = some cv → E cv none H'
  | .bad => False
theorem HeapOk.cut {K : PySem.W.Frag} {q : Addr} {o : Ob} (ho : HeapOk K F' (α ++ [q]) (h' ++ [o]) H') : HeapOk K F' α h' H' := by
  have hl : α.length = h'.length := by
    have := ho.1.1
    rw [List.length_append, List.length_append] at this
    simpa using this
  have up : ∀ {b : Addr}, b ∈ innA H' α → b ∈ innA H' (α ++ [q]) := fun {b} hb => by rw [innA_app]; exact List.mem_append_left _ hb
  have nd := ho.2.nd
  rw [innA_app, List.nodup_append] at nd
  refine ⟨⟨hl, fun n p u e1 e2 => ho.1.2 n p u ?_ ?_⟩, ⟨nd.1, fun b hb hm => ho.2.na b (up hb) (List.mem_append_left _ hm), fun b hb => ho.2.f b (up hb), fun b hb => ho.2.h b (up hb)⟩⟩
  · rw [List.getElem?_append_left (List.getElem?_eq_some_iff.mp e1).1]; exact e1
  · rw [List.getElem?_append_left (List.getElem?_eq_some_iff.mp e2).1]; exact e2
theorem Rel.calledO {q : Addr} {o : Ob} (r : Rel X.K B F α rho h σ H) (x : FnPost F H α F' H') (ho : HeapOk X.K F' (α ++ [q]) (h' ++ [o]) H') (fq : F' q = none) (hq : H q = none) (hi : ∀ b ∈ innA H' (α ++ [q]), b ∈ innA H α ∨ H b = none) :
    Rel X.K B F' (α ++ [q]) rho (h' ++ [o]) σ H' := by
  have r1 := r.called x ho.cut
  have f := r.fresh hq
  have ei : innA H' (α ++ [q]) = innA H' α ++ inn H' q := by rw [innA_app]; simp [innA]
  have mq : ∀ {b : Addr}, b ∈ inn H' q → b ∈ innA H' (α ++ [q]) := fun {b} hb => by rw [ei]; exact List.mem_append_right _ hb
  have nd := ho.2.nd
  rw [ei, List.nodup_append] at nd
  have hl := ho.cut.1.1
  have f' : Fresh B F' α rho σ H' q := ⟨f.h0, f.a, fq, f.k, f.o, fun z => ho.2.na q (by rw [ei]; exact List.mem_append_left _ z) (List.mem_append_right _ (List.mem_singleton.mpr rfl))⟩
  refine r1.shareG f' (ho.1.2 α.length q o (by rw [List.getElem?_append_right (Nat.le_refl _)]; simp) (by rw [hl, List.getElem?_append_right (Nat.le_refl _)]; simp)) nd.2.1 fun b hb => ?_
  refine ⟨⟨fun z => nd.2.2 b z b hb rfl, fun z => ho.2.na b (mq hb) (List.mem_append_left _ z), ho.2.f b (mq hb), fun z => ho.2.na b (mq hb) (z ▸ List.mem_append_right _ (List.mem_singleton.mpr rfl)), ho.2.h b (mq hb)⟩, ?_⟩
  rcases hi b (mq hb) with z | z
  · exact r.ii b z
  · have g := r.fresh z
    exact ⟨g.k, .inr g.h0, g.o⟩
def GO (Q : VK) : Nat → Hp → List Addr → Hp → Prop := fun n _ α' H' => ∀ q, α'[n]? = some q → Q (.ref q) H'
def tOb (X : Cx) (W : WX) (f : DenO) : TE := fun σ H Q => Run X W f σ H (GO Q)
abbrev JOb (X : Cx) (W : WX) (e : Expr) (f : DenO) : Prop := PE X e (tOb X W f)
/-- what a callee that gives a thing is promised -/
theorem sp_ofO {np : Nat} {m : FnDenO} {vs : List V} {args : List Arg} {Q : VK} (r1 : Rel X.K B F1 α1 rho h1 σ H1) (hvs : Paired (ArgOk X.K F1 α1) vs args) (har : ∀ args h, m args h ≠ .bad → args.length = np) (p1 : Post X W B σ F1 rho ((m args h1).bind fun o h2 => .ok h2.length (h2 ++ [o])) (GO Q)) :
    spOfO X.K X.mg np m vs H1 Q (fun cls d H' => W cls d σ H') := by
  have len : vs.length = np := by
    rw [Paired.length hvs]
    refine har args h1 fun z => ?_
    rw [z] at p1
    exact p1
  refine ⟨len, F1, α1, args, h1, r1.sub, r1.nd, r1.heapOk, hvs, ?_⟩
  cases w : m args h1 with
  | ok o h2 =>
    rw [w] at p1
    intro q F' H' x ho fq hq hi
    have hl := ho.cut.1.1
    exact p1 F' (α1 ++ [q]) H' x.f (r1.calledO x ho fq hq hi) q (by rw [← hl, List.getElem?_append_right (Nat.le_refl _)]; simp)
  | exc c h2 =>
    rw [w] at p1
    exact fun cv F' H' x ho hc => p1 cv F' α1 H' x.f (r1.called x ho) hc
  | bad =>
    rw [w] at p1
    exact p1
theorem runFnO_ar {np nn : Nat} {b : DenS} : ∀ args h, runFnO np nn b args h ≠ .bad → args.length = np := fun args h z => by
  unfold runFnO at z
  by_cases e : args.length = np
  · exact e
  · rw [if_neg e] at z; exact absurd rfl z
theorem fn_okO {P : Program} {w : World} {K : PySem.W.Frag} {mg : Str → Option Value} {base : Heap} {x qual : Str} {params : Arguments} {body : List Stmt} {scope : Scope} {f : Addr} {fd : FuncData} {N ps : List Str} {k : Nat} {b : DenS} {kws : List (Str × V)}
    (F : FunD K x qual params body scope [] kws f fd) (S : FnScope N ps scope) (hps : ps.length ≤ N.length)
    (hb : ∀ (cdv : Value) (A : Around) (outer : List Env) (s : Shared) (H : Hp) (E : XK), Room k (A.deeper (envOfC qual scope s.heap.objs.size f cdv)) →
      JSs (cxOf (L2.CX P w) P w K mg base N qual scope f cdv A outer s H E) (fun cls d _ H => E cls d H) body b) :
    FnOk P w K mg base (L2.CX P w) (k + 1) f fd ps (spOfO K mg ps.length (runFnO ps.length N.length b)) := by
  refine F.ok S (fun vs H Q E h => h.1) (fun cdv A outer s H vs Q E hr h => ⟨tS (cxOf (L2.CX P w) P w K mg base N qual scope f cdv A outer s H E) (fun cls d _ H => E cls d H) b, hb cdv A outer s H E hr, ?_⟩)
  obtain ⟨len, F0, α, args, h0, sub, nd, ho, ha, m⟩ := h
  have la : args.length = ps.length := by rw [← Paired.length ha]; exact len
  refine ⟨fxS F0 H α, F0, α, _, h0, fn_rel (N := N) len sub nd ho ha, ?_⟩
  unfold runFnO at m
  rw [if_pos la] at m
  cases wb : b ⟨args.map slotOf ++ List.replicate (N.length - ps.length) .no, h0⟩ with
  | next s' => rw [wb] at m; exact m.elim
  | cont s' => rw [wb] at m; exact m.elim
  | ret d h' => rw [wb] at m; exact m.elim
  | exc c s' =>
    rw [wb] at m
    exact fun cv σ' F' α' H' s1 r1 e => m cv F' H' (fn_post s1 r1) (fn_heap ho.1.1 r1) e
  | bad => rw [wb] at m; exact m.elim
  | retR n h' =>
    rw [wb] at m
    dsimp only at m
    by_cases hn : h0.length ≤ n
    rotate_left
    · rw [if_neg hn] at m; exact m.elim
    rw [if_pos hn] at m
    cases eo : h'[n]? with
    | none => rw [eo] at m; exact m.elim
    | some o =>
      rw [eo] at m
      dsimp only at m
      by_cases hl : obLive o = true
      rotate_left
      · rw [if_neg hl] at m; exact m.elim
      rw [if_pos hl] at m
      intro v rho' σ' F' α' H' s1 r1 ⟨q, ev, eq⟩
      subst ev
      obtain ⟨t, et, ht, _⟩ := r1.pre
      have et : α' = α ++ t := et
      have hob := r1.heap n q o eq eo
      have hc := fn_heap ho.1.1 r1
      have eq' := eq
      rw [et, List.getElem?_append_right (by rw [ho.1.1]; exact hn)] at eq'
      have qt : q ∈ t := List.mem_of_getElem? eq'
      have hq : H q = none := ht q qt
      have sub' : ∀ p ∈ α ++ [q], p ∈ α' := fun p hp => by
        rw [et]
        rcases List.mem_append.mp hp with z | z
        · exact List.mem_append_left _ z
        · exact List.mem_append_right _ (List.mem_singleton.mp z ▸ qt)
      have up : ∀ {b : Addr}, b ∈ innA H' (α ++ [q]) → b ∈ innA H' α' := fun {b} hb => by
        obtain ⟨p, hp, hb⟩ := innA_mem.mp hb
        exact innA_mem.mpr ⟨p, sub' p hp, hb⟩
      have qa : q ∉ α := fun z => by
        obtain ⟨n', hn'⟩ := List.mem_iff_getElem?.mp z
        obtain ⟨u, eu⟩ := r1.a0 q z
        rw [show (fxS F0 H α).H0 q = H q from rfl, hq] at eu
        cases eu
      have nd2 : (α ++ [q]).Nodup := by
        rw [List.nodup_append]
        refine ⟨nd, by simp, fun a ha' b hb => ?_⟩
        rw [List.mem_singleton.mp hb]
        exact fun z => qa (z ▸ ha')
      have nds := (innA_nd r1.nd).mp r1.io.nd
      have hlt : (h'.take h0.length).length = h0.length := by rw [← hc.1.1]; exact ho.1.1
      refine m q F' H' (fn_post s1 r1) ⟨⟨?_, fun n' p u e1 e2 => ?_⟩, ⟨(innA_nd nd2).mpr ⟨fun p hp => nds.1 p (sub' p hp), fun p hp p' hp' => nds.2 p (sub' p hp) p' (sub' p' hp')⟩, fun b hb hm => r1.io.na b (up hb) (sub' b hm), fun b hb => r1.io.f b (up hb), fun b hb => r1.io.h b (up hb)⟩⟩ (hob.f hl) hq fun b hb => (r1.ii b (up hb)).2.1
      · rw [List.length_append, List.length_append, hlt, ho.1.1]; rfl
      · by_cases hn' : n' < α.length
        · rw [List.getElem?_append_left hn'] at e1
          rw [List.getElem?_append_left (by rw [hlt, ← ho.1.1]; exact hn')] at e2
          exact hc.1.2 n' p u e1 e2
        · have hn2 : n' = α.length := by
            have := (List.getElem?_eq_some_iff.mp e1).1
            rw [List.length_append] at this
            simp at this
            omega
          subst hn2
          rw [List.getElem?_append_right (Nat.le_refl _)] at e1
          rw [List.getElem?_append_right (by rw [hlt, ho.1.1]; exact Nat.le_refl _)] at e2
          rw [hlt, ho.1.1] at e2
          simp at e1 e2
          subst e1 e2
          exact hob
end
end Ev
/-! # Xn: the rules for methods and new classrooms -/
namespace Ev
open PySem PySem.Spec PyProof.Rows L2
section
variable (P : Program) (w : World) (K : PySem.W.Frag) (mg : Str → Option Value) (base : Heap)
/-- a method, as its meaning -/
structure MtQ (k : Nat) (m : Str) (md : FnDen) : Prop where
  ex : ∃ f, Meth K (roomC K) m f ∧ FnQ P w K mg base k (.ref f) md
structure MtKQ (k : Nat) (m : Str) (q : Nat × FnDen × Str × D) : Prop where
  ex : ∃ f fd ps n, Meth K (roomC K) m f ∧ KBn K fd ps n [q.2.2.1] (fun us ws => us ++ ws) (fun vs zs => vs ++ zs) ∧ q.1 = n + 1 ∧ FnOk P w K mg base (L2.CX P w) k f fd ps (spOf K mg q.1 q.2.1)
  ar : ∀ args h, q.2.1 args h ≠ .bad → args.length = q.1
/-- a method that gives a classroom -/
structure MtOQ (k : Nat) (m : Str) (md : FnDenO) : Prop where
  ex : ∃ f np sp, Meth K (roomC K) m f ∧ DefQ P w K mg base (L2.CX P w) k (.ref f) [] sp ∧ (∀ vs H Q E, spOfO K mg np md vs H Q E → sp vs H Q E) ∧ ∀ args h, md args h ≠ .bad → args.length = np
/-- __init__ -/
structure MkQ (k : Nat) (md : FnDen) : Prop where
  ex : ∃ f fd ps np j, Mk K (roomC K) f ∧ Binds K fd ps [] ∧ j + 1 ≤ k ∧ FnOk P w K mg base (L2.CX P w) j f fd ps (spOf K mg np md) ∧ ∀ args h, md args h ≠ .bad → args.length = np
/-- a def of Python's own name: d levels of room more -/
structure OwQ (k d : Nat) (m : Str) (md : FnDen) : Prop where
  ex : ∃ j np, j + d ≤ k ∧ OwnQ P w K mg base (L2.CX P w) j (roomC K) m (spOf K mg np md) ∧ ∀ args h, md args h ≠ .bad → args.length = np
end
abbrev MtAt (X : Cx) (k : Nat) (m : Str) (md : FnDen) : Prop := MtQ X.prog X.w X.K X.mg X.base k m md
abbrev MtKAt (X : Cx) (k : Nat) (m : Str) (q : Nat × FnDen × Str × D) : Prop := MtKQ X.prog X.w X.K X.mg X.base k m q
abbrev MtOAt (X : Cx) (k : Nat) (m : Str) (md : FnDenO) : Prop := MtOQ X.prog X.w X.K X.mg X.base k m md
abbrev MkAt (X : Cx) (k : Nat) (md : FnDen) : Prop := MkQ X.prog X.w X.K X.mg X.base k md
abbrev OwAt (X : Cx) (k d : Nat) (m : Str) (md : FnDen) : Prop := OwQ X.prog X.w X.K X.mg X.base k d m md
theorem OwQ.less {P : Program} {w : World} {K : PySem.W.Frag} {mg : Str → Option Value} {base : Heap} {k d d' : Nat} {m : Str} {md : FnDen} (h : OwQ P w K mg base k d m md) (hd : d' ≤ d) : OwQ P w K mg base k d' m md := by
  obtain ⟨j, np, hj, a, b⟩ := h.ex
  exact ⟨j, np, by omega, a, b⟩
def mOk (m : Str) : Bool := !decide (m = "school") && !decide (m = "rows") && !decide (m = "past") && !decide (m = "calls")
theorem mOk_no {m : Str} {a b c d : V} (h : mOk m = true) : ([("school", a), ("rows", b), ("past", c), ("calls", d)] : List (Str × V)).lookup m = none := by
  unfold mOk at h
  simp only [Bool.and_eq_true, Bool.not_eq_true', decide_eq_false_iff_not] at h
  obtain ⟨⟨⟨h1, h2⟩, h3⟩, h4⟩ := h
  simp only [List.lookup_cons, List.lookup_nil]
  rw [show (m == Str.ofString "school") = false from by simpa using h1, show (m == Str.ofString "rows") = false from by simpa using h2, show (m == Str.ofString "past") = false from by simpa using h3, show (m == Str.ofString "calls") = false from by simpa using h4]
section
variable {X : Cx} {W : WX} {B : Fx} {F F1 F' H H1 H' : Hp} {rho : Ro} {h h1 h' : Hh} {σ : L2.St} {α α1 : List Addr} {x m : Str} {i k : Nat} {px p pos apos cpos : Pos} {a b e : Expr} {es : List Expr}
theorem stars_split (hs : ((e :: es).all fun e => !isStar e) = true) : isStar e = false ∧ (es.all fun e => !isStar e) = true := by
  simp only [List.all_cons, Bool.and_eq_true, Bool.not_eq_true'] at hs
  exact hs
/-- the receiver, seen again -/
theorem ref_again {n : Nat} {q : Addr} (r1 : Rel X.K B F1 α1 rho h1 σ H1) (w : rho[i]? = some (.ref n)) (e : σ[i]? = some (some (.ref q))) : α1[n]? = some q := by
  obtain ⟨pb, e3, e4⟩ := r1.slot i _ w
  rw [jn e3] at e
  cases e
  exact e4
/-- x.m(e, ..) -/
theorem je_meth {md : FnDen} {as : List ADen} (rc : RmC X) (mt : MtAt X k m md) (hr : Room k X.A) (tk : Takes X W) (hN : X.N[i]? = some x) (hv : Vis X.env.scope x) (hd : (x == ("__debug__" : Str)) = false) (hcd : (x == ("__classdict__" : Str)) = false) (hm : mOk m = true)
    (hline : (apos.endLine == pos.line) = true) (hlen : (e :: es).length + ([] : List Keyword).length < 29) (hs : ((e :: es).all fun e => !isStar e) = true) (ha : PA X (e :: es) (tAs X W as)) : JE X W (.Call (.Attribute (.Name x px) m apos) (e :: es) [] pos) (dMeth md i as) := by
  obtain ⟨f, hmt, np, dvs, sp, D, hsp, har⟩ := (show ∃ f, Meth X.K (roomC X.K) m f ∧ ∃ np dvs sp, DefAt X (L2.CX X.prog X.w) k (.ref f) dvs sp ∧ (∀ vs H Q E, spOf X.K X.mg np md vs H Q E → sp (vs ++ dvs) H Q E) ∧ ∀ args h, md args h ≠ .bad → args.length = np from by
    obtain ⟨f, a, b⟩ := mt.ex; exact ⟨f, a, b.ex⟩)
  obtain ⟨s1, s2⟩ := stars_split hs
  refine pe_mono (pe_methX (pe_var hN hv hd hcd) rc.cls hmt D hr (fun σ => passAt tk σ) ha (star_cons s1) (star_none s2 pos) (marm rfl (form_ok (star_none hs pos) rfl hlen) hline)) fun σ H Q ⟨B, F, α, rho, h, r, q⟩ => ?_
  unfold dMeth at q
  split at q
  · rename_i n t w
    obtain ⟨s, rows, past, calls⟩ := t
    obtain ⟨q0, dx, sv, a, b, c, qs, ws, w1, w2, w3, w4, w5, xo⟩ := r.roomX w
    refine ⟨.ref q0, w2, q0, dx, _, rfl, xo.at_, mOk_no hm, B, F, α, rho, h, r, post_imp (post_bind q) fun args F1 α1 H1 s1 ⟨h1, r1, p1⟩ vs hvs => ?_⟩
    exact hsp (.ref q0 :: vs) _ _ _ (sp_of (args := .ref n :: args) r1 (.cons ⟨q0, rfl, ref_again r1 w1 w2⟩ hvs) har p1)
  · exact q.elim
theorem je_meth0 {md : FnDen} (rc : RmC X) (mt : MtAt X k m md) (hr : Room k X.A) (tk : Takes X W) (hN : X.N[i]? = some x) (hv : Vis X.env.scope x) (hd : (x == ("__debug__" : Str)) = false) (hcd : (x == ("__classdict__" : Str)) = false) (hm : mOk m = true) (hline : (apos.endLine == pos.line) = true) :
    JE X W (.Call (.Attribute (.Name x px) m apos) [] [] pos) (dMeth md i []) := by
  obtain ⟨f, hmt, np, dvs, sp, D, hsp, har⟩ := (show ∃ f, Meth X.K (roomC X.K) m f ∧ ∃ np dvs sp, DefAt X (L2.CX X.prog X.w) k (.ref f) dvs sp ∧ (∀ vs H Q E, spOf X.K X.mg np md vs H Q E → sp (vs ++ dvs) H Q E) ∧ ∀ args h, md args h ≠ .bad → args.length = np from by
    obtain ⟨f, a, b⟩ := mt.ex; exact ⟨f, a, b.ex⟩)
  refine pe_mono (pe_methX0 (pe_var hN hv hd hcd) rc.cls hmt D hr (fun σ => passAt tk σ) (marm rfl rfl hline)) fun σ H Q ⟨B, F, α, rho, h, r, q⟩ => ?_
  unfold dMeth at q
  split at q
  · rename_i n t w
    obtain ⟨s, rows, past, calls⟩ := t
    obtain ⟨q0, dx, sv, a, b, c, qs, ws, w1, w2, w3, w4, w5, xo⟩ := r.roomX w
    have q : Post X W B σ F rho (md [.ref n] h) (GD X Q) := q
    exact ⟨.ref q0, w2, q0, dx, _, rfl, xo.at_, mOk_no hm, hsp [.ref q0] _ _ _ (sp_of (args := [.ref n]) r (.cons ⟨q0, rfl, w3⟩ .nil) har q)⟩
  · exact q.elim
/-- x.m(e, .., k = v) -/
theorem je_methK {q : Nat × FnDen × Str × D} {fs : List Den} {fk : Den} {ek : Expr} {kpos : Pos} (rc : RmC X) (mt : MtKAt X k m q) (hr : Room k X.A) (tk : Takes X W) (hN : X.N[i]? = some x) (hv : Vis X.env.scope x) (hd : (x == ("__debug__" : Str)) = false) (hcd : (x == ("__classdict__" : Str)) = false) (hm : mOk m = true)
    (hline : (apos.endLine == pos.line) = true) (hlen : (e :: es).length + ([⟨some q.2.2.1, ek, kpos⟩] : List Keyword).length < 29) (hs : ((e :: es).all fun e => !isStar e) = true) (ha : PA X (e :: es) (tA X W fs)) (hek : JE X W ek fk) : JE X W (.Call (.Attribute (.Name x px) m apos) (e :: es) [⟨some q.2.2.1, ek, kpos⟩] pos) (dMethK q.2.1 i fs fk) := by
  obtain ⟨f, fd, ps, nn, hmt, hb, hnp, F⟩ := mt.ex
  obtain ⟨s1, s2⟩ := stars_split hs
  refine pe_mono (pe_methK (pe_var hN hv hd hcd) rc.cls hmt F hr hb (fun σ => passAt tk σ) ha (pk_cons hek pk_nil) rfl rfl (star_cons s1) (by rw [star_none hs pos]; rfl) (marm rfl (form_ok (star_none hs pos) rfl hlen) hline)) fun σ H Q ⟨B, F, α, rho, h, r, p⟩ => ?_
  unfold dMethK at p
  split at p
  · rename_i n t w
    obtain ⟨s, rows, past, calls⟩ := t
    obtain ⟨q0, dx, sv, a, b, c, qs, ws, w1, w2, w3, w4, w5, xo⟩ := r.roomX w
    refine ⟨.ref q0, w2, q0, dx, _, rfl, xo.at_, mOk_no hm, B, F, α, rho, h, r, post_imp (post_bind p) fun ds F1 α1 H1 s1 ⟨h1, r1, p1⟩ vs hvs => ?_⟩
    refine ⟨B, F1, α1, rho, h1, r1, post_imp (post_bind p1) fun d F2 α2 H2 s2 ⟨h2, r2, p2⟩ v hv => ?_⟩
    have hvs' : Paired (ArgOk X.K F2 α2) (.ref q0 :: (vs ++ [v])) (.ref n :: (ds.map Arg.dat ++ [.dat d])) := .cons ⟨q0, rfl, ref_again r2 w1 w2⟩ (paired_app (rp_args (rpAll_mono s2 hvs)) (.cons hv .nil))
    have z := sp_of r2 hvs' mt.ar p2
    have l1 := z.1
    rw [hnp, List.length_cons, List.length_append, List.length_singleton] at l1
    exact ⟨by rw [List.length_cons]; omega, rfl, z⟩
  · exact p.elim
/-- x.m(), a classroom -/
theorem jo_meth0 {md : FnDenO} (rc : RmC X) (mt : MtOAt X k m md) (hr : Room k X.A) (tk : Takes X W) (hN : X.N[i]? = some x) (hv : Vis X.env.scope x) (hd : (x == ("__debug__" : Str)) = false) (hcd : (x == ("__classdict__" : Str)) = false) (hm : mOk m = true) (hline : (apos.endLine == pos.line) = true) :
    JOb X W (.Call (.Attribute (.Name x px) m apos) [] [] pos) (oMeth md i) := by
  obtain ⟨f, np, sp, hmt, D, hsp, har⟩ := mt.ex
  refine pe_mono (pe_methX0 (pe_var hN hv hd hcd) rc.cls hmt D hr (fun σ => passAt tk σ) (marm rfl rfl hline)) fun σ H Q ⟨B, F, α, rho, h, r, q⟩ => ?_
  unfold oMeth at q
  split at q
  · rename_i n t w
    obtain ⟨s, rows, past, calls⟩ := t
    obtain ⟨q0, dx, sv, a, b, c, qs, ws, w1, w2, w3, w4, w5, xo⟩ := r.roomX w
    exact ⟨.ref q0, w2, q0, dx, _, rfl, xo.at_, mOk_no hm, hsp [.ref q0] _ _ _ (sp_ofO (args := [.ref n]) r (.cons ⟨q0, rfl, w3⟩ .nil) har q)⟩
  · exact q.elim
/-- Room(e, ..) -/
theorem jo_make {md : FnDen} {fs : List Den} (mk : MkAt X k md) (hr : Room k X.A) (tk : Takes X W) (hg : Gl X "Room") (hm : X.mg "Room" = some (.ref (roomC X.K))) (hs : ((e :: es).all fun e => !isStar e) = true) (ha : PA X (e :: es) (tA X W fs)) :
    JOb X W (.Call (.Name "Room" p) (e :: es) [] pos) (oMake md fs) := by
  obtain ⟨f, fd, ps, np, j, M, hb, hj, G, har⟩ := mk.ex
  obtain ⟨s1, s2⟩ := stars_split hs
  refine pe_mono (pe_makeS M G (hr.mono hj) hg hm hb (fun σ => passAt tk σ) ha (by decide) (star_cons s1) (star_none s2 pos)) fun σ H Q ⟨B, F, α, rho, h, r, q⟩ => ?_
  refine ⟨B, F, α, rho, h, r, post_imp (post_bind q) fun ds F1 α1 H1 s1 ⟨h1, r1, p1⟩ vs hvs x dx hx hdx ne => ?_⟩
  have hx' : upd H1 dx (.own x) x = none := by rw [upd_ne (Ne.symm ne)]; exact hx
  have r2 : Rel X.K B F1 α1 rho h1 σ (upd H1 dx (.own x)) := r1.add hdx
  have r3 : Rel X.K B F1 α1 rho h1 σ (upd (upd H1 dx (.own x)) x (.ins (roomC X.K) dx [])) := r2.add hx'
  have fx : Fresh B F1 α1 rho σ (upd (upd H1 dx (.own x)) x (.ins (roomC X.K) dx [])) x := r2.freshU hx'
  have fd' : Fresh B F1 α1 rho σ (upd (upd H1 dx (.own x)) x (.ins (roomC X.K) dx [])) dx := (r1.freshU (o := .own x) hdx).up (r2.innU hx')
  have hq : upd (upd H1 dx (.own x)) x (.ins (roomC X.K) dx []) x = some (.ins (roomC X.K) dx []) := upd_same
  have hdq : upd (upd H1 dx (.own x)) x (.ins (roomC X.K) dx []) dx = some (.own x) := by rw [upd_ne ne, upd_same]
  have rs := r3.shareO (ob := .blank) fx ⟨fx.f, dx, hq, hdq⟩ (by rw [inn_blank hq]; simp) (fun y hy => by
    rw [inn_blank hq, List.mem_singleton] at hy
    subst hy
    exact ⟨fd', ne, _, hdq⟩)
  obtain ⟨b, t, eb1, eb2, rb⟩ := rs.based
  have ea : (α1 ++ [x])[h1.length]? = some x := by
    rw [← r1.hl, List.getElem?_append_right (Nat.le_refl _)]
    simp
  have hvs' : Paired (ArgOk X.K F1 (α1 ++ [x])) (.ref x :: vs) (.ref h1.length :: ds.map Arg.dat) := .cons ⟨x, rfl, ea⟩ (rp_args hvs)
  refine sp_of rb hvs' har (post_imp (post_base eb2 (post_bind p1)) fun d F2 α2 H2 s2 ⟨⟨h2, r2, p2⟩, u, eu⟩ v hv => ?_)
  cases d with
  | none =>
    cases hv
    refine ⟨rfl, post_ok r2 p2 x ?_⟩
    rw [eu, ← eb1, List.getElem?_append_left (List.getElem?_eq_some_iff.mp ea).1]
    exact ea
  | _ => exact p2.elim
theorem je_makeX {md : FnDen} {fs : List Den} (ho : JOb X W e (oMake md fs)) : JE X W e (dMakeX md fs) := by
  refine pe_mono ho fun σ H Q ⟨B, F, α, rho, h, r, p⟩ => ?_
  exact ⟨B, F, α, rho, h, r, post_imp (post_bind p) fun n F1 α1 H1 s1 ⟨h1, r1, p1⟩ => p1.elim⟩
/-! ### a thing as an argument, stored -/
def tAr (X : Cx) (W : WX) (a : ADen) : TE := fun σ H Q => Run X W (aRun a) σ H fun u F' α' H' => ∀ v, ArgOk X.K F' α' v u → Q v H'
abbrev JAr (X : Cx) (W : WX) (e : Expr) (a : ADen) : Prop := PE X e (tAr X W a)
theorem ar_exp {f : Den} (he : JE X W e f) : JAr X W e (.exp f) := by
  refine pe_mono he fun σ H Q ⟨B, F, α, rho, h, r, q⟩ => ⟨B, F, α, rho, h, r, ?_⟩
  exact post_imp (post_bind q) fun d F1 α1 H1 s1 ⟨h1, r1, p1⟩ v hv => post_ok r1 p1 v hv
theorem ar_obj {f : DenO} (he : JOb X W e f) : JAr X W e (.obj f) := by
  refine pe_mono he fun σ H Q ⟨B, F, α, rho, h, r, q⟩ => ⟨B, F, α, rho, h, r, ?_⟩
  exact post_imp (post_bind q) fun n F1 α1 H1 s1 ⟨h1, r1, p1⟩ y hy => post_ok r1 p1 (.ref y) ⟨y, rfl, hy⟩
theorem ar_var (hN : X.N[i]? = some x) (hv : Vis X.env.scope x) (hd : (x == ("__debug__" : Str)) = false) (hcd : (x == ("__classdict__" : Str)) = false) : JAr X W (.Name x px) (.var i) := by
  refine pe_mono (pe_var hN hv hd hcd) fun σ H Q ⟨B, F, α, rho, h, r, q⟩ => ?_
  have q : Post X W B σ F rho (match rho[i]? with
    | some (.val d) => R.ok (Arg.dat d) h
    | some (.ref n) => .ok (.ref n) h
    | some (.exc c) => .ok (.exc c) h
    | _ => .bad) _ := q
  cases w : rho[i]? with
  | none => rw [w] at q; exact q.elim
  | some sl =>
    rw [w] at q
    have z := r.slot i sl w
    cases sl with
    | val d =>
      obtain ⟨v, e1, e2⟩ := z
      exact ⟨v, jn e1, post_ok r q v e2⟩
    | ref n =>
      obtain ⟨pa, e1, e2⟩ := z
      exact ⟨_, jn e1, post_ok r q (.ref pa) ⟨pa, rfl, e2⟩⟩
    | exc c => exact z.elim
    | _ => exact q.elim
theorem argOk_ext {K : PySem.W.Frag} {v : V} {u : Arg} {t : List Addr} (s : Same F F') (q : ArgOk K F α v u) : ArgOk K F' (α ++ t) v u := by
  cases u with
  | dat d => exact rp_mono s q
  | ref n =>
    obtain ⟨p, e1, e2⟩ := q
    exact ⟨p, e1, by rw [List.getElem?_append_left (List.getElem?_eq_some_iff.mp e2).1]; exact e2⟩
  | exc c => exact q
/-- x = a thing -/
theorem js_asgO {pos' : Pos} {f : DenO} (hN : X.N.Nodup) (hi : X.N[i]? = some x) (hx : Loc X.env.scope x) (he : JOb X W e f) (hs : swapsWith e (some (.Name x pos')) pos.line X.env = pure false) (hf : X.fn x = true ∨ X.env.scope.names.lookup x = some .local) :
    JS X W (.Assign [.Name x pos'] e pos) (sAsgO i f) := by
  refine ps_mono (ps_set hN hi hx he hs hf) fun E σ H ⟨B, F, α, rho, h, r, p⟩ => ⟨B, F, α, rho, h, r, ?_⟩
  exact post_imp (postS_of p) fun n F1 α1 H1 s1 ⟨h1, r1, p1⟩ q hq => p1 _ F1 α1 H1 same_refl (r1.set (sl := .ref n) ⟨q, rfl, hq⟩ (fun _ o => o.elim) (fun _ o => o.elim) fun _ o => o.elim)
theorem jp_obj {f : DenO} {cs : List PCo} (hs : isStar e = false) (he : JOb X W e f) (hr : PA X es (tP X W cs)) : PA X (e :: es) (tP X W (.obj f :: cs)) := by
  refine pa_mono (pa_cons he hr (star_cons hs)) fun σ H Q ⟨B, F, α, rho, h, r, q⟩ => ⟨B, F, α, rho, h, r, ?_⟩
  refine post_imp (post_bind q) fun n F1 α1 H1 s1 ⟨h1, r1, p1⟩ y hy => ?_
  obtain ⟨b, t, eb1, eb2, rb⟩ := r1.based
  refine ⟨B.base b, F1, α1, rho, h1, rb, ?_⟩
  refine post_imp (post_base eb2 (post_bind p1)) fun ds F2 α2 H2 s2 ⟨⟨h2, r2, p2⟩, t2, eu⟩ vs hvs => ?_
  have g : ∀ {pvs : List PV} {us : List V} {av : List Addr}, PVsOk X.K (B.base b) F2 α2 rho σ H2 av us pvs → PVsOk X.K B F2 α2 rho σ H2 av us pvs := fun z => PVsOk.imp (av' := []) z (fun q _ f => ⟨f.unbase, by simp⟩) (fun _ _ e => e) fun q hq => .inl hq
  refine post_ok r2 p2 (.ref y :: vs) ⟨⟨y, rfl, ?_⟩, g hvs⟩
  rw [eu, ← eb1, List.getElem?_append_left (List.getElem?_eq_some_iff.mp hy).1]
  exact hy
/-- return x -/
theorem js_retO (hN : X.N[i]? = some x) (hv : Vis X.env.scope x) (hd : (x == ("__debug__" : Str)) = false) (hcd : (x == ("__classdict__" : Str)) = false) : JS X W (.Return (some (.Name x px)) pos) (sRetO i) := by
  refine ps_mono (ps_ret (pe_var hN hv hd hcd)) fun E σ H ⟨B, F, α, rho, h, r, p⟩ => ?_
  unfold sRetO at p
  dsimp only at p
  split at p
  · rename_i n w
    obtain ⟨q, e1, e2⟩ := r.slot i _ w
    exact ⟨.ref q, jn e1, p (.ref q) rho σ F α H same_refl r ⟨q, rfl, e2⟩⟩
  · exact p.elim
end
end Ev
/-! # Xo: len(x), str(x), x == y of classrooms -/
namespace L2
open PySem PySem.Spec PyProof.Rows
section
variable {X : Cx} {CX : CXT} {k : Nat} {E : St → XK} {p pos : Pos} {C : Addr} {o a b : Expr} {to ta tb : TE} {sp : Sp}
def one1 (P : V → Hp → Prop) : List V → Hp → Prop := fun xs H1 => match xs with
  | [x] => P x H1
  | _ => False
theorem one1_of {P : V → Hp → Prop} {vs : List V} {H : Hp} (h : one1 P vs H) : ∃ x, vs = [x] ∧ P x H := by
  match vs, h with
  | [x], h => exact ⟨x, rfl, h⟩
theorem pe_lenO (d : OwnDef X CX k C "__len__" sp) (hr : Room (k + 1) X.A) (hx : ∀ σ, PassesAt CX X σ (E σ)) (hg : Gl X "len") (hm : X.mg "len" = none) (ho : PE X o to) (hs : starEach [o] X.env = [(false, eval o X.env)]) :
    PE X (.Call (.Name "len" p) [o] [] pos) (fun σ H Q => to σ H fun x H1 => ∃ a dx fs, x = .ref a ∧ H1 a = some (.ins C dx fs) ∧ sp [.ref a] H1 (fun z H' => ∃ b : Int, z = .int b ∧ (0 ≤ b ∧ b < 2 ^ 63) ∧ Q (.int b) H') (E σ)) := by
  refine ⟨fun pins s σ H Q I h => ?_⟩
  refine wpAny_Call_Name_kw (ld_blt I hg hm (show bootBuiltins "len" = some (.builtin "len") by decide +kernel) ?_ (by decide) (by decide))
  refine PyProof.Rows.callWith_builtin1 ?_ hs rfl
  refine thn ((pa_cons ho pa_nil hs).run pos pins s σ H (one1 fun x H1 => ∃ a dx fs, x = .ref a ∧ H1 a = some (.ins C dx fs) ∧ sp [.ref a] H1 (fun z H' => ∃ b : Int, z = .int b ∧ (0 ≤ b ∧ b < 2 ^ 63) ∧ Q (.int b) H') (E σ)) I h) fun us s1 ⟨vs, H1, I1, r1, hh⟩ => ?_
  obtain ⟨x, rfl, a, dx, fs, rfl, hi, q⟩ := one1_of hh
  obtain ⟨u, rfl, ru⟩ := vals1 r1
  obtain rfl : u = Value.ref a := ru
  exact call_lenOwn d hr hx I1 hi q
theorem pe_strO (d : OwnDef X CX k C "__str__" sp) (hr : Room (k + 2) X.A) (hx : ∀ σ, PassesAt CX X σ (E σ)) (hg : Gl X "str") (hm : X.mg "str" = none) (ho : PE X o to) (hs : starEach [o] X.env = [(false, eval o X.env)]) :
    PE X (.Call (.Name "str" p) [o] [] pos) (fun σ H Q => to σ H fun x H1 => ∃ a dx fs, x = .ref a ∧ H1 a = some (.ins C dx fs) ∧ sp [.ref a] H1 (fun z H' => ∃ b : Str, z = .str b ∧ Q (.str b) H') (E σ)) := by
  refine ⟨fun pins s σ H Q I h => ?_⟩
  refine wpAny_Call_Name_kw (ld_blt I hg hm (show bootBuiltins "str" = some (.type "str") by decide +kernel) ?_ (by decide) (by decide))
  refine PyProof.Rows.callWith_type1 ?_ hs rfl
  refine thn ((pa_cons ho pa_nil hs).run pos pins s σ H (one1 fun x H1 => ∃ a dx fs, x = .ref a ∧ H1 a = some (.ins C dx fs) ∧ sp [.ref a] H1 (fun z H' => ∃ b : Str, z = .str b ∧ Q (.str b) H') (E σ)) I h) fun us s1 ⟨vs, H1, I1, r1, hh⟩ => ?_
  obtain ⟨x, rfl, a, dx, fs, rfl, hi, q⟩ := one1_of hh
  obtain ⟨u, rfl, ru⟩ := vals1 r1
  obtain rfl : u = Value.ref a := ru
  exact call_strOwn d hr hx I1 hi q
theorem pe_eqO (d : OwnDef X CX k C "__eq__" sp) (hr : Room k X.A) (hx : ∀ σ, PassesAt CX X σ (E σ)) (ha : PE X a ta) (hb : PE X b tb) (hm : behindInMarks .Eq b = false) :
    PE X (.Compare a [.Eq] [b] pos) (fun σ H Q => ta σ H fun x H1 => tb σ H1 fun y H2 => ∃ a dx fs t, x = .ref a ∧ H2 a = some (.ins C dx fs) ∧ TyX X.K H2 y t ∧ PySem.W.notFirst X.K C t = true ∧ sp [x, y] H2 (fun z H' => ∃ b, z = .bl b ∧ Q (.bl b) H') (E σ)) := by
  refine ⟨fun pins s σ H Q I h => ?_⟩
  exact wpAny_Compare1 (binT ha hb I h fun v u s2 x y H2 I2 rx ry q => op_own d hr hx I2 rx ry q) hm
end
end L2
namespace Ev
open PySem PySem.Spec PyProof.Rows L2
section
variable {X : Cx} {W : WX} {B : Fx} {F F1 F' H H1 H' : Hp} {rho : Ro} {h h1 h' : Hh} {σ : L2.St} {α α1 : List Addr} {x m : Str} {i k : Nat} {px p pos apos cpos : Pos} {a b e : Expr} {es : List Expr}
theorem je_lenO {md : FnDen} (ow : OwAt X k 1 "__len__" md) (hr : Room k X.A) (tk : Takes X W) (hg : Gl X "len") (hm : X.mg "len" = none) (hN : X.N[i]? = some x) (hv : Vis X.env.scope x) (hd : (x == ("__debug__" : Str)) = false) (hcd : (x == ("__classdict__" : Str)) = false) :
    JE X W (.Call (.Name "len" p) [.Name x px] [] pos) (dLenO md i) := by
  obtain ⟨j, np, hj, od, har⟩ := ow.ex
  refine pe_mono (pe_lenO od (hr.mono hj) (fun σ => passAt tk σ) hg hm (pe_var hN hv hd hcd) rfl) fun σ H Q ⟨B, F, α, rho, h, r, q⟩ => ?_
  unfold dLenO at q
  split at q
  · rename_i n t w
    obtain ⟨s, rows, past, calls⟩ := t
    obtain ⟨q0, dx, sv, a, b, c, qs, ws, w1, w2, w3, w4, w5, xo⟩ := r.roomX w
    refine ⟨.ref q0, w2, q0, dx, _, rfl, xo.at_, sp_of (args := [.ref n]) r (.cons ⟨q0, rfl, w3⟩ .nil) har (post_imp (post_bind q) fun d F1 α1 H1 s1 ⟨h1, r1, p1⟩ v hv => ?_)⟩
    cases d with
    | int z =>
      cases hv
      dsimp only at p1
      split at p1
      · rename_i hz
        exact ⟨z, rfl, ⟨hz.1, Int.lt_trans hz.2 (by decide)⟩, post_ok r1 p1 _ (.int z)⟩
      · exact p1.elim
    | _ => exact p1.elim
  · exact q.elim
theorem je_strO {md : FnDen} (ow : OwAt X k 2 "__str__" md) (hr : Room k X.A) (tk : Takes X W) (hg : Gl X "str") (hm : X.mg "str" = none) (hN : X.N[i]? = some x) (hv : Vis X.env.scope x) (hd : (x == ("__debug__" : Str)) = false) (hcd : (x == ("__classdict__" : Str)) = false) :
    JE X W (.Call (.Name "str" p) [.Name x px] [] pos) (dStrO md i) := by
  obtain ⟨j, np, hj, od, har⟩ := ow.ex
  refine pe_mono (pe_strO od (hr.mono hj) (fun σ => passAt tk σ) hg hm (pe_var hN hv hd hcd) rfl) fun σ H Q ⟨B, F, α, rho, h, r, q⟩ => ?_
  unfold dStrO at q
  split at q
  · rename_i n t w
    obtain ⟨s, rows, past, calls⟩ := t
    obtain ⟨q0, dx, sv, a, b, c, qs, ws, w1, w2, w3, w4, w5, xo⟩ := r.roomX w
    refine ⟨.ref q0, w2, q0, dx, _, rfl, xo.at_, sp_of (args := [.ref n]) r (.cons ⟨q0, rfl, w3⟩ .nil) har (post_imp (post_bind q) fun d F1 α1 H1 s1 ⟨h1, r1, p1⟩ v hv => ?_)⟩
    cases d with
    | str z => cases hv; exact ⟨z, rfl, post_ok r1 p1 _ (.str z)⟩
    | _ => exact p1.elim
  · exact q.elim
theorem rm_ins {v : V} {u : Arg} (r : Rel X.K B F α rho h σ H) (ha : ArgOk X.K F α v u) (hi : isRm h u = true) : ∃ q dx fs, v = .ref q ∧ H q = some (.ins (roomC X.K) dx fs) := by
  unfold isRm at hi
  split at hi
  · rename_i n
    split at hi
    · rename_i s rows past calls eh
      obtain ⟨q, rfl, e⟩ := ha
      obtain ⟨_, dx, sv, a, b, c, vs, ws, h1, _⟩ := r.heap n q _ e eh
      exact ⟨q, dx, _, rfl, h1⟩
    · cases hi
  · cases hi
theorem je_eqO {md : FnDen} {u v : ADen} (rc : RmC X) (ri : RmI X) (ow : OwAt X k 0 "__eq__" md) (hr : Room k X.A) (tk : Takes X W) (ha : JAr X W a u) (hb : JAr X W b v) (hm : behindInMarks .Eq b = false) : JE X W (.Compare a [.Eq] [b] pos) (dEqO md u v) := by
  obtain ⟨j, np, hj, od, har⟩ := ow.ex
  refine pe_mono (pe_eqO od (hr.mono hj) (fun σ => passAt tk σ) ha hb hm) fun σ H Q ⟨B, F, α, rho, h, r, q⟩ => ?_
  refine ⟨B, F, α, rho, h, r, post_imp (post_bind q) fun ua F1 α1 H1 s1 ⟨h1, r1, p1⟩ x hx => ?_⟩
  obtain ⟨bb, t, eb1, eb2, rb⟩ := r1.based
  refine ⟨B.base bb, F1, α1, rho, h1, rb, post_imp (post_base eb2 (post_bind p1)) fun va F2 α2 H2 s2 ⟨⟨h2, r2, p2⟩, t2, eu⟩ y hy => ?_⟩
  have hx' : ArgOk X.K F2 α2 x ua := by rw [eu, ← eb1]; exact argOk_ext s2 hx
  by_cases hc : isRm h2 ua = true ∧ (isRm h2 va = true ∨ isTy va = true)
  · rw [if_pos hc] at p2
    obtain ⟨q0, dx, fs, rfl, hi⟩ := rm_ins r2 hx' hc.1
    have hs : spOf X.K X.mg np md [.ref q0, y] H2 (fun z H' => ∃ b, z = .bl b ∧ Q (.bl b) H') (fun cls d H' => W cls d σ H') := by
      refine sp_of (args := [ua, va]) r2 (.cons hx' (.cons hy .nil)) har (post_imp (post_bind p2) fun d F3 α3 H3 s3 ⟨h3, r3, p3⟩ z hz => ?_)
      cases d with
      | bool c => cases hz; exact ⟨c, rfl, post_ok r3 p3 _ (.bl c)⟩
      | _ => exact p3.elim
    rcases hc.2 with g | g
    · obtain ⟨q1, dx1, fs1, rfl, hi1⟩ := rm_ins r2 hy g
      exact ⟨q0, dx, fs, .ref (roomC X.K), rfl, hi, .base (.ins hi1 rc.cls ri.ha ri.hn ri.htk ri.hm), by simp [PySem.W.notFirst], hs⟩
    · cases va with
      | dat d =>
        have g : (tyName d).isSome = true := g
        cases ht : tyName d with
        | none => rw [ht] at g; cases g
        | some n => exact ⟨q0, dx, fs, .type n, rfl, hi, Top.ty r2.sub (.dp hy) ht, ri.nf d n ht, hs⟩
      | ref _ => cases g
      | exc _ => cases g
  · rw [if_neg hc] at p2
    exact p2.elim
end
end Ev
namespace Ev
open PySem PySem.Spec PyProof.Rows L2
theorem ji_range2 {X : Cx} {W : WX} {a b tg : Expr} {f g : Den} {p pos : Pos} (hg : Gl X "range") (hm : X.mg "range" = none) (hs : isStar a = false) (hs2 : isStar b = false) (h : JE X W a f) (h2 : JE X W b g) : JI X W tg (.Call (.Name "range" p) [a, b] [] pos) (lRange2 (.exp f) (.exp g)) := by
  refine pi_mono (pi_range2 hg hm (pa_cons (jo_exp h) (pa_cons (jo_exp h2) pa_nil (star_cons hs2)) (star_cons hs)) (by rw [star_cons hs, star_cons hs2]; rfl) (by rw [star_cons hs2]; rfl)) fun σ H R ⟨B, F, α, rho, h, r, q⟩ => ?_
  unfold iRng2 tCons tNil
  refine tO_mono (o := .exp f) (Ev.o2 (o1 := .exp f) (o2 := .exp g) r q) fun x H1 z => tO_mono (o := .exp g) z fun y H2 ⟨F2, α2, h2, a, b, s2, r2, tx, ty, p2⟩ => ?_
  unfold lift2 kRange2 at p2
  split at p2
  · rename_i ds e
    split at e
    · split at e
      · rename_i i j hl
        cases e
        cases tx.int
        cases ty.int
        obtain ⟨l1, l2, l3, l4, l5⟩ := hl
        refine ⟨_, _, rfl, ⟨l1, l2, l3, l4⟩, post_ok r2 p2 _ ?_ itF_range⟩
        rw [List.length_map, List.length_range]
        have e1 := lim_le
        omega
      · cases e
    · cases e
  · exact p2.elim
end Ev
/-! # Ev14: from the text to its plain meaning -/
namespace Ev
open PySem
structure Ct where
  N : List Str
  sc : Scope
  fnb : Str → Bool
  fns : List (Str × (Nat × FnDen))
  /-- defs whose last parameter is a keyword with a default -/
  fnk : List (Str × (Nat × FnDen × Str × D))
  cs : List (Str × D)
  ex : List Str
  bl : List Str
  mu : List Str
  shr : List Str
  rf : List Str
  /-- what is given away ahead of an assignment to a name -/
  fz : List (Str × Str)
  /-- the def that tells exceptions apart, and their classes -/
  wh : Option (Str × List Str)
  /-- which of them a clause takes -/
  cat : List (Str × List Str)
  /-- dicts of the text by texts -/
  dcs : List (Str × List (Str × D)) := []
  /-- whether the text has the class of classrooms; the names that hold one; its defs -/
  room : Bool := false
  rms : List Str := []
  ini : Option FnDen := none
  mts : List (Str × FnDen) := []
  mtk : List (Str × (Nat × FnDen × Str × D)) := []
  mto : List (Str × FnDenO) := []
  own : List (Str × FnDen) := []
def ixOf : List Str → Str → Option Nat
  | [], _ => none
  | y :: r, x => if y = x then some 0 else (ixOf r x).map (· + 1)
def visB (sc : Scope) (x : Str) : Bool := match sc.names.lookup x with
  | some .local => true
  | some .cell => true
  | some .free => true
  | _ => false
def locB (sc : Scope) (x : Str) : Bool := match sc.names.lookup x with
  | some .local => true
  | some .cell => true
  | _ => false
def isLoc (sc : Scope) (x : Str) : Bool := match sc.names.lookup x with
  | some .local => true
  | _ => false
def glB (sc : Scope) (x : Str) : Bool := match sc.names.lookup x with
  | some .globalImplicit => true
  | _ => false
def nameOk (x : Str) : Bool := !(x == ("__debug__" : Str)) && !(x == ("__classdict__" : Str)) && !decide (x = "__name__")
/-- the place of a name of the def's own -/
def Ct.slot (C : Ct) (x : Str) : Option Nat := if visB C.sc x && nameOk x then ixOf C.N x else none
def Ct.put (C : Ct) (x : Str) : Option Nat := if locB C.sc x && nameOk x && (C.fnb x || isLoc C.sc x) then ixOf C.N x else none
/-- a built-in by its name -/
def Ct.blt (C : Ct) (x : Str) : Bool := glB C.sc x && nameOk x && decide (x ∈ C.bl)
def relSc (scope sc : Scope) : Scope := L2.relS scope sc
def ownOf (N : List Str) (scope : Scope) : List (Str × Nat) := scope.names.filterMap fun y => match y.2 with
  | .local => (ixOf N y.1).map fun i => (y.1, i)
  | .cell => (ixOf N y.1).map fun i => (y.1, i)
  | _ => none
def Ct.blk (C : Ct) (scope : Scope) : Ct := { C with sc := relSc scope C.sc, fnb := fun x => scope.names.lookup x == some .cell }
def plainIxB : Expr → Bool
  | .Slice .. => false
  | .Starred .. => false
  | _ => true
def dConst : Const → Option Den
  | .int i => some (dC (.int i))
  | .str x => some (dC (.str x))
  | .bool b => some (dC (.bool b))
  | .none => some (dC .none)
  | _ => none
def binP : Operator → Option (D → D → Option D)
  | .Add => some pAdd
  | .Sub => some pSub
  | .Mult => some pMul
  | .FloorDiv => some pFdiv
  | .Mod => some pMod
  | .Pow => some pPow
  | _ => none
def cmpP : CmpOp → Option (D → D → Option D)
  | .Lt => some pLt
  | .LtE => some pLe
  | .Gt => some pGt
  | .GtE => some pGe
  | .Eq => some pEq
  | .NotEq => some pNe
  | .Is => some pIs
  | .IsNot => some pIsNot
  | .In => some pIn
  | .NotIn => some pNotIn
def isSet : Expr → Bool
  | .Set .. => true
  | _ => false
def intCmp : CmpOp → Bool
  | .Lt => true
  | .LtE => true
  | .Gt => true
  | .GtE => true
  | _ => false
def andAll : List Den → Option Den
  | [] => none
  | [f] => some f
  | f :: r => (andAll r).map fun g => dAnd f g
def orAll : List Den → Option Den
  | [] => none
  | [f] => some f
  | f :: r => (orAll r).map fun g => dOr f g
def andAllT : List DenT → Option DenT
  | [] => none
  | [f] => some f
  | f :: r => (andAllT r).map fun g => tAndD f g
def orAllT : List DenT → Option DenT
  | [] => none
  | [f] => some f
  | f :: r => (orAllT r).map fun g => tOrD f g
def noStars (es : List Expr) : Bool := es.all fun e => !L2isStar e
where L2isStar : Expr → Bool
  | .Starred _ _ => true
  | _ => false
/-- built-in functions of one operand -/
def prim1 (x : Str) : Option (D → Option D) := if x = "len" then some pLen else if x = "all" then some pAll else if x = "any" then some pAny else if x = "int" then some pInt else if x = "tuple" then some pTuple else if x = "sum" then some pSum else if x = "min" then some pMinL else if x = "max" then some pMaxL else if x = "str" then some pStr else none
def prim2 (x : Str) : Option (D → D → Option D) := if x = "min" then some pMin2 else if x = "max" then some pMax2 else none
def tyOfName (x : Str) : Option String := if x = "int" then some "int" else if x = "bool" then some "bool" else if x = "str" then some "str" else if x = "tuple" then some "tuple" else if x = "list" then some "list" else none
/-- text keys of a written dict -/
def keysOf : List (Option Expr) → Option (List Str)
  | [] => some []
  | some (.Constant (.str x) _ _) :: r => (keysOf r).map fun ks => x :: ks
  | _ :: _ => none
/-- a name of a shared list -/
def shrName (C : Ct) : Expr → Option Nat
  | .Name x _ => if decide (x ∈ C.shr) then C.slot x else none
  | _ => none
/-- functions by their names -/
def dFn (C : Ct) : List Expr → Option (List FnDen)
  | [] => some []
  | .Name x _ :: r => if glB C.sc x && nameOk x then (match C.fns.lookup x, dFn C r with
    | some m, some ms => some (m.2 :: ms)
    | none, some ms => (match C.fnk.lookup x with
      | some q => some (mDef q.2.1 q.2.2.2 :: ms)
      | none => none)
    | _, none => none) else none
  | _ => none
/-! classrooms: which expressions are theirs -/
def Ct.rm (C : Ct) (x : Str) : Option Nat := if C.room && decide (x ∈ C.rms) then C.slot x else none
def Ct.gr (C : Ct) : Bool := C.room && glB C.sc "Room"
def isAt (C : Ct) (f : Str) : Expr → Bool
  | .Attribute (.Name x _) g _ => (C.rm x).isSome && decide (g = f)
  | _ => false
def isRmE (C : Ct) : Expr → Bool
  | .Name x _ => (C.rm x).isSome
  | .Call (.Name f _) _ [] _ => C.room && decide (f = "Room")
  | _ => false
def rmCmp (C : Ct) (a : Expr) : CmpOp → Expr → Bool
  | .In, b => isAt C "rows" b
  | .NotIn, b => isAt C "rows" b
  | .Eq, b => isAt C "past" a || (isAt C "rows" a && isAt C "rows" b) || isRmE C a
  | _, _ => false
def rmC (C : Ct) : Expr → Bool
  | .Attribute (.Name x _) _ _ => (C.rm x).isSome
  | .Subscript (.Attribute (.Name x _) f _) (.Name _ _) _ => (C.rm x).isSome && decide (f = "rows")
  | .Compare a [op] [b] _ => rmCmp C a op b
  | .Call (.Name f _) as [] _ => (C.room && decide (f = "Room")) || (match as with
    | [.Name x _] => (C.rm x).isSome && (decide (f = "len") || decide (f = "str"))
    | [.Attribute (.Name x _) g _] => (C.rm x).isSome && decide (f = "len") && decide (g = "rows")
    | [.Name x _, .Name r _] => (C.rm x).isSome && decide (f = "isinstance") && decide (r = "Room")
    | _ => false)
  | .Call (.Attribute (.Name x _) _ _) _ _ _ => (C.rm x).isSome
  | .Call (.Attribute (.Attribute (.Name x _) _ _) _ _) [] [] _ => (C.rm x).isSome
  | .Call (.Attribute (.Call (.Name f _) [.Name x _] [] _) _ _) _ [] _ => (C.rm x).isSome && decide (f = "str")
  | _ => false
def isCmp : Expr → Bool
  | .Compare _ _ _ _ => true
  | _ => false
/-- zip(a, b) -/
def zipOf : Expr → Option (Expr × Expr)
  | .Call (.Name z _) [a, b] [] _ => if z = "zip" then some (a, b) else none
  | _ => none
/-- a dict of the text -/
def dctOf (C : Ct) : Expr → Option (List (Str × D))
  | .Name x _ => (match C.slot x with
    | some _ => none
    | none => if glB C.sc x && nameOk x then C.dcs.lookup x else none)
  | _ => none
mutual
/-- what a classroom tells -/
def rmE : Nat → Ct → Expr → Option Den
  | 0, _, _ => none
  | n + 1, C, e => match e with
    | .Attribute (.Name x _) f _ => if f = "school" then (C.rm x).map dSchool else none
    | .Subscript (.Attribute (.Name x _) f _) (.Name y _) _ => if f = "rows" then (match C.rm x, C.slot y with
      | some i, some j => some (dRowGet i j)
      | _, _ => none) else none
    | .Compare a [.In] [.Attribute (.Name x _) f _] _ => if f = "rows" then (match dE n C a, C.rm x with
      | some g, some i => some (dRowIn true i g)
      | _, _ => none) else none
    | .Compare a [.NotIn] [.Attribute (.Name x _) f _] _ => if f = "rows" then (match dE n C a, C.rm x with
      | some g, some i => some (dRowIn false i g)
      | _, _ => none) else none
    | .Compare (.Attribute (.Name x _) f _) [.Eq] [.List [] _] _ => if f = "past" then (C.rm x).map dPastNil else none
    | .Compare (.Attribute (.Name x _) f _) [.Eq] [.Attribute (.Name y _) g _] _ => if f = "rows" && g = "rows" then (match C.rm x, C.rm y with
      | some i, some j => some (dRowsEq i j)
      | _, _ => none) else none
    | .Compare a [.Eq] [b] _ => (match C.own.lookup ("__eq__" : Str), rmA n C a, rmA n C b with
      | some m, some u, some v => if isSet b || !C.room then none else some (dEqO m u v)
      | _, _, _ => none)
    | .Call (.Name f _) as [] _ => if f = "Room" then (if C.gr && noStars as && !as.isEmpty then (match C.ini, dEs n C as with
        | some m, some fs => some (dMakeX m fs)
        | _, _ => none) else none)
      else (match as with
        | [.Name x _] => if f = "len" && C.blt f then (match C.own.lookup ("__len__" : Str), C.rm x with
            | some m, some i => some (dLenO m i)
            | _, _ => none)
          else if f = "str" && C.blt f then (match C.own.lookup ("__str__" : Str), C.rm x with
            | some m, some i => some (dStrO m i)
            | _, _ => none) else none
        | [.Attribute (.Name x _) g _] => if f = "len" && C.blt f && g = "rows" then (C.rm x).map dRowsLen else none
        | [.Name x _, .Name r _] => if f = "isinstance" && C.blt f && C.gr && r = "Room" then (C.rm x).map dIsRoom else none
        | _ => none)
    | .Call (.Attribute (.Name x _) m apos) [] [] cpos => if mOk m && apos.endLine == cpos.line then (match C.mts.lookup m, C.rm x with
        | some md, some i => some (dMeth md i [])
        | _, _ => none) else none
    | .Call (.Attribute (.Name x _) m apos) (a :: as) [] cpos => if mOk m && apos.endLine == cpos.line && decide (as.length < 20) && noStars (a :: as) then (match C.mts.lookup m, C.rm x, dAs n C (a :: as) with
        | some md, some i, some ds => some (dMeth md i ds)
        | _, _, _ => none) else none
    | .Call (.Attribute (.Name x _) m apos) (a :: as) [⟨some kw, ek, _⟩] cpos => if mOk m && apos.endLine == cpos.line && decide (as.length < 20) && noStars (a :: as) then (match C.mtk.lookup m, C.rm x, dEs n C (a :: as), dE n C ek with
        | some q, some i, some fs, some fk => if kw = q.2.2.1 then some (dMethK q.2.1 i fs fk) else none
        | _, _, _, _ => none) else none
    | .Call (.Attribute (.Attribute (.Name x _) f _) m apos) [] [] cpos => if f = "calls" && m = "pop" && apos.endLine == cpos.line then (C.rm x).map dCallPop else none
    | .Call (.Attribute (.Call (.Name f _) [.Name x _] [] _) m apos) [.Constant (.str b) _ _] [] cpos => if f = "str" && C.blt f && m = "split" && apos.endLine == cpos.line then (match C.own.lookup ("__str__" : Str), C.rm x with
        | some md, some i => some (ofL (lSplit (.exp (dStrO md i)) b))
        | _, _ => none) else none
    | _ => none
/-- as an argument, a classroom or data -/
def rmA : Nat → Ct → Expr → Option ADen
  | 0, _, _ => none
  | n + 1, C, e => match e with
    | .Name x _ => (match C.slot x with
      | some i => some (.var i)
      | none => (dE n C e).map .exp)
    | _ => (match rmO n C e with
      | some f => some (.obj f)
      | none => (dE n C e).map .exp)
/-- a new classroom -/
def rmO : Nat → Ct → Expr → Option DenO
  | 0, _, _ => none
  | n + 1, C, e => match e with
    | .Call (.Name f _) (a :: as) [] _ => if f = "Room" && C.gr && noStars (a :: as) then (match C.ini, dEs n C (a :: as) with
      | some m, some fs => some (oMake m fs)
      | _, _ => none) else none
    | .Call (.Attribute (.Name x _) m apos) [] [] cpos => if mOk m && apos.endLine == cpos.line then (match C.mto.lookup m, C.rm x with
        | some md, some i => some (oMeth md i)
        | _, _ => none) else none
    | _ => none
/-- as a test -/
def rmT : Nat → Ct → Expr → Option DenT
  | 0, _, _ => none
  | n + 1, C, e => match e with
    | .Compare a [.In] [.Attribute (.Name x _) f _] _ => if f = "rows" then (match dE n C a, C.rm x with
      | some g, some i => some (testOf (dRowIn true i g))
      | _, _ => none) else none
    | .Compare a [.NotIn] [.Attribute (.Name x _) f _] _ => if f = "rows" then (match dE n C a, C.rm x with
      | some g, some i => some (testOf (dRowIn false i g))
      | _, _ => none) else none
    | .Compare (.Attribute (.Name x _) f _) [.Eq] [.List [] _] _ => if f = "past" then (C.rm x).map fun i => testOf (dPastNil i) else none
    | _ => none
def dE : Nat → Ct → Expr → Option Den
  | 0, _, _ => none
  | n + 1, C, e => if rmC C e = true then rmE n C e else match e with
    | .Name x _ => (match C.slot x with
      | some i => some (dVar i)
      | none => if glB C.sc x && nameOk x then (C.cs.lookup x).map dC else none)
    | .Constant c _ _ => dConst c
    | .BinOp a op b _ => (match dO n C a, dO n C b, binP op with
      | some o1, some o2, some p => some (op2 o1 o2 (lift2 p))
      | _, _, _ => none)
    | .UnaryOp .Not a _ => (dE n C a).map dNot
    | .UnaryOp .USub a _ => (dO n C a).map fun o => op1 o (lift1 pNeg)
    | .BoolOp .And vs _ => (dEs n C vs).bind andAll
    | .BoolOp .Or vs _ => (dEs n C vs).bind orAll
    | .Compare a [op] [b] _ => (match dO n C a, dO n C b, cmpP op with
      | some o1, some o2, some p => if isSet b then none else some (op2 o1 o2 (lift2 p))
      | _, _, _ => none)
    | .Compare a [op, op'] [b, c] _ => (match dO n C a, dO n C b, dO n C c, cmpP op, cmpP op' with
      | some o1, some o2, some o3, some p, some p' => if intCmp op && intCmp op' then some (dChain p p' o1 o2 o3) else none
      | _, _, _, _, _ => none)
    | .IfExp c a b _ => (match dT n C c, dE n C a, dE n C b with
      | some t, some f, some g => some (dIf t f g)
      | _, _, _ => none)
    | .Tuple es _ _ => (match dEs n C es with
      | some fs => if fs.length ≤ 1000 then some (dTup fs) else none
      | none => none)
    | .List es p => (dL n C (.List es p)).map ofL
    | .ListComp a gs sc p => (dL n C (.ListComp a gs sc p)).map ofL
    | .Subscript (.Dict ks vs _) key _ => (match keysOf ks, dEs n C vs, dE n C key with
      | some xs, some fs, some g => if plainIxB key && decide (ks.length = vs.length) && decide (1 ≤ ks.length) && decide (ks.length ≤ 15) && decide (xs.length = fs.length) then some (dPick xs fs g) else none
      | _, _, _ => none)
    | .Subscript a (.Slice lo hi none _) _ => (match dO n C a, dP n C lo, dP n C hi with
      | some o, some l, some u => some (dCut o l u)
      | _, _, _ => none)
    | .Subscript a (.Slice none none (some (.UnaryOp .USub (.Constant (.int 1) _ _) _)) _) _ => (dO n C a).map fun o => op1 o (lift1 pRev)
    | .Subscript a b _ => (match dctOf C a with
      | some kvs => if plainIxB b then (dE n C b).map fun g => dDct kvs g else none
      | none => (match dO n C a, dO n C b with
      | some o1, some o2 => if plainIxB b then some (op2 o1 o2 (lift2 pIx)) else none
      | _, _ => none))
    | .Call (.Name f pf) as [] pc => (match C.fns.lookup f with
      | some m => if glB C.sc f && nameOk f && noStars as && !as.isEmpty then (dAs n C as).map fun ds => dCall m.2 ds else none
      | none => (match C.fnk.lookup f with
      | some q => if glB C.sc f && nameOk f && noStars as && !as.isEmpty then (dAs n C as).map fun ds => dCall q.2.1 (ds ++ [.exp (dC q.2.2.2)]) else none
      | none => if C.blt f then (match as with
        | [a] => (match (if f = "tuple" then zipOf a else none) with
          | some q => if C.blt "zip" && noStars [q.1, q.2] then (match dE n C q.1, dE n C q.2 with
            | some g, some k => some (dTupZip g k)
            | _, _ => none) else none
          | none => match prim1 f with
          | some p => if noStars [a] then (dO n C a).map fun o => op1 o (lift1 p) else none
          | none => if f = "dict" then (if noStars [a] then (dO n C a).map fun o => ofD (kDictP o) else none) else (dL n C (.Call (.Name f pf) [a] [] pc)).map ofL)
        | [a, b] => (match prim2 f with
          | some p => if noStars [a, b] then (match dO n C a, dO n C b with
            | some o1, some o2 => some (op2 o1 o2 (lift2 p))
            | _, _ => none) else none
          | none => (match b with
            | .Name y _ => if f = "isinstance" && C.blt y && noStars [a] then (match tyOfName y with
              | some T => (dO n C a).map fun o => op1 o (lift1 (pIsi T))
              | none => none) else none
            | _ => none))
        | _ => none) else none))
    | .Call (.Name f _) as [⟨some kw, ek, _⟩] _ => (match C.fnk.lookup f with
      | some q => if glB C.sc f && nameOk f && noStars as && !as.isEmpty && decide (kw = q.2.2.1) then (match dEs n C as, dE n C ek with
        | some fs, some g => some (dCallK q.2.1 fs g)
        | _, _ => none) else none
      | none => none)
    | .Call (.Attribute (.Constant (.str a) _ _) meth apos) [e] [] cpos => if meth = "join" && apos.endLine == cpos.line && noStars [e] then (dO n C e).map fun o => op1 o (lift1 (pJoin a)) else none
    | .Call (.Subscript (.List fes _) ix _) as [] _ => if noStars as && !as.isEmpty && plainIxB ix then (match dFn C fes, dE n C ix, dAs n C as with
      | some ms, some fi, some ds => if ms.length ≤ 1000 then some (dSel ms fi ds) else none
      | _, _, _ => none) else none
    | .Call (.Attribute (.Name x _) meth apos) [] [] cpos => if meth = "pop" && apos.endLine == cpos.line && decide (x ∈ C.shr) then (match C.slot x with
        | some i => some (dPop i)
        | none => none) else none
    | .Call (.Attribute (.Name x px) meth apos) [a] [] cpos => if meth = "index" && apos.endLine == cpos.line && noStars [a] then (match C.slot x, dO n C a with
        | some i, some o => some (dIndex i o)
        | _, _ => none) else if meth = "count" && apos.endLine == cpos.line && noStars [a] then (match C.slot x, dO n C a with
        | some i, some o => some (dCount i o)
        | _, _ => none) else if meth = "split" then (dL n C (.Call (.Attribute (.Name x px) meth apos) [a] [] cpos)).map ofL else none
    | .Call (.Attribute (.Name x _) meth apos) [a, b] [] cpos => if meth = "get" && apos.endLine == cpos.line && noStars [a, b] then (match C.slot x, dE n C a, dE n C b with
        | some i, some f, some g => some (dGet i f g)
        | _, _, _ => none) else none
    | .Dict [] [] _ => some (ofD kNew)
    | .Dict [some k] [v] _ => (match dE n C k, dE n C v with
      | some f, some g => some (ofD (kNew1 f g))
      | _, _ => none)
    | _ => none
def dO : Nat → Ct → Expr → Option Opd
  | 0, _, _ => none
  | n + 1, C, e => match e with
    | .Name x _ => (match C.slot x with
      | some i => some (.var i)
      | none => (dE n C e).map .exp)
    | _ => (dE n C e).map .exp
def dP : Nat → Ct → Option Expr → Option (Option Den)
  | 0, _, _ => none
  | _ + 1, _, none => some none
  | n + 1, C, some e => (dE n C e).map some
def dT : Nat → Ct → Expr → Option DenT
  | 0, _, _ => none
  | n + 1, C, e => match e with
    | .UnaryOp .Not a _ => (dT n C a).map tNotD
    | .BoolOp .And vs _ => (dTs n C vs).bind andAllT
    | .BoolOp .Or vs _ => (dTs n C vs).bind orAllT
    | .IfExp .. => none
    | _ => if rmC C e && isCmp e then rmT n C e else (dE n C e).map testOf
def dTs : Nat → Ct → List Expr → Option (List DenT)
  | 0, _, _ => none
  | _ + 1, _, [] => some []
  | n + 1, C, e :: es => (match dT n C e, dTs n C es with
    | some f, some fs => some (f :: fs)
    | _, _ => none)
def dEs : Nat → Ct → List Expr → Option (List Den)
  | 0, _, _ => none
  | _ + 1, _, [] => some []
  | n + 1, C, e :: es => if noStars [e] then (match dE n C e, dEs n C es with
    | some f, some fs => some (f :: fs)
    | _, _ => none) else none
def dAs : Nat → Ct → List Expr → Option (List ADen)
  | 0, _, _ => none
  | _ + 1, _, [] => some []
  | n + 1, C, e :: es => if noStars [e] then (match (match e with
      | .Name x _ => (match C.slot x with
        | some i => some (ADen.var i)
        | none => (dE n C e).map .exp)
      | .Dict [] [] _ => some (.newd kNew)
      | _ => (dE n C e).map .exp), dAs n C es with
    | some f, some fs => some (f :: fs)
    | _, _ => none) else none
/-- expressions that make a new list -/
def dL : Nat → Ct → Expr → Option DenL
  | 0, _, _ => none
  | n + 1, C, e => match e with
    | .List es _ => (match dEs n C es with
      | some fs => if fs.length ≤ 1000 then some (dAll fs) else none
      | none => none)
    | .BinOp a .Add b _ => (match dO n C a, dO n C b with
      | some o1, some o2 => some (lCat o1 o2)
      | _, _ => none)
    | .Subscript a (.Slice lo hi none _) _ => (match dO n C a, dP n C lo, dP n C hi with
      | some o, some l, some u => some (lCut o l u)
      | _, _, _ => none)
    | .Subscript a (.Slice none none (some (.UnaryOp .USub (.Constant (.int 1) _ _) _)) _) _ => (dO n C a).map lRev
    | .Call (.Name f _) [a] [] _ => if f = "list" && C.blt f && noStars [a] then (match a with
      | .Call (.Name g _) [b] [] _ => if g = "range" && C.blt g && noStars [b] then (dO n C b).map lRange else (dO n C a).map lList
      | .Call (.Name g _) [b, c] [] _ => if g = "zip" && C.blt g && noStars [b, c] then (match dE n C b, dE n C c with
        | some f1, some f2 => some (lZip f1 f2)
        | _, _ => none) else (dO n C a).map lList
      | .Attribute (.Name x _) g _ => if g = "rows" then (C.rm x).map lRowsKeys else none
      | _ => (dO n C a).map lList) else if f = "sorted" && C.blt f && noStars [a] then (match a with
      | .Call (.Name g _) [b] [] _ => if g = "set" && C.blt g && noStars [b] then (dO n C b).map lSortSet else (dO n C a).map lSorted
      | _ => (dO n C a).map lSorted) else none
    | .Call (.Attribute (.Name x px) meth apos) [.Constant (.str b) _ _] [] cpos => if meth = "split" && apos.endLine == cpos.line then (dO n C (.Name x px)).map fun o => lSplit o b else none
    | .ListComp el [⟨tg, it, ifs, 0⟩] scope _ => if isSet it then none else (match shrName C it with
      | some i => (match dG n (C.blk scope) tg, dE n (C.blk scope) el, (match ifs with
        | [] => some tYesD
        | [c] => dT n (C.blk scope) c
        | _ => none) with
        | some t, some f, some tt => if L2.blkC C.N C.sc scope (ownOf C.N scope) && t.slots.all (fun i => decide (i ∈ (ownOf C.N scope).map (·.2))) then some (lCompRef ((ownOf C.N scope).map (·.2)) i t tt f) else none
        | _, _, _ => none)
      | none => (match dIC n C tg it, dG n (C.blk scope) tg, dE n (C.blk scope) el, (match ifs with
        | [] => some tYesD
        | [c] => dT n (C.blk scope) c
        | _ => none) with
        | some l, some t, some f, some tt => if L2.blkC C.N C.sc scope (ownOf C.N scope) && t.slots.all (fun i => decide (i ∈ (ownOf C.N scope).map (·.2))) then some (lComp ((ownOf C.N scope).map (·.2)) l t tt f) else none
        | _, _, _, _ => none))
    | .ListComp el [⟨tg, it, ifs, 0⟩, ⟨tg1, it1, ifs1, 0⟩] scope _ => if isSet it || isSet it1 then none else (match dIC n C tg it, dG n (C.blk scope) tg, (match ifs with
        | [] => some tYesD
        | [c] => dT n (C.blk scope) c
        | _ => none), dIC n (C.blk scope) tg1 it1, dG n (C.blk scope) tg1, (match ifs1 with
        | [] => some tYesD
        | [c] => dT n (C.blk scope) c
        | _ => none), dE n (C.blk scope) el with
      | some l, some t, some tt, some l1, some t1, some tt1, some f => if L2.blkC C.N C.sc scope (ownOf C.N scope) && t.slots.all (fun i => decide (i ∈ (ownOf C.N scope).map (·.2))) && t1.slots.all (fun i => decide (i ∈ (ownOf C.N scope).map (·.2))) then some (lComp2 ((ownOf C.N scope).map (·.2)) l t tt l1 t1.slots t1 tt1 f) else none
      | _, _, _, _, _, _, _ => none)
    | _ => none
/-- what a for walks; what a comprehension walks -/
def dI : Nat → Ct → Expr → Expr → Option DenL
  | 0, _, _, _ => none
  | n + 1, C, tg, e => match e with
    | .Call (.Name f _) as [] _ => if C.blt f && f = "range" then (match as with
      | [a] => if noStars [a] then (dO n C a).map lRange else none
      | [a, b] => if noStars [a, b] then (match dE n C a, dE n C b with
        | some f1, some f2 => some (lRange2 (.exp f1) (.exp f2))
        | _, _ => none) else none
      | [a, b, c] => if noStars [a, b, c] then (dEs n C [a, b, c]).map lRng3 else none
      | _ => none) else if C.blt f && f = "zip" then (match tg, as with
      | .Tuple .., [a, b] => if noStars [a, b] then (match dE n C a, dE n C b with
        | some g, some h => some (lZip g h)
        | _, _ => none) else none
      | .Tuple .., [a, b, c] => if noStars [a, b, c] then (match dE n C a, dE n C b, dE n C c with
        | some g, some h, some k => some (lZip3 g h k)
        | _, _, _ => none) else none
      | _, _ => none) else if C.blt f && f = "enumerate" then (match tg, as with
      | .Tuple .., [a] => if noStars [a] then (dE n C a).map lEnum else none
      | _, _ => none) else (dE n C e).map lOf
    | _ => (dE n C e).map lOf
def dIC : Nat → Ct → Expr → Expr → Option DenL
  | 0, _, _, _ => none
  | n + 1, C, tg, e => match e with
    | .Name x _ => (match C.slot x with
      | some i => some (lVar i)
      | none => dI n C tg e)
    | _ => dI n C tg e
def dG : Nat → Ct → Expr → Option Tgt
  | 0, _, _ => none
  | n + 1, C, e => match e with
    | .Name x _ => (C.put x).map .name
    | .Tuple es _ _ => if noStars es then (match dGs n C es with
      | some ts => if ts.length = es.length then some (.tup ts) else none
      | none => none) else none
    | _ => none
def dGs : Nat → Ct → List Expr → Option (List Tgt)
  | 0, _, _ => none
  | _ + 1, _, [] => some []
  | n + 1, C, e :: es => (match dG n C e, dGs n C es with
    | some t, some ts => some (t :: ts)
    | _, _ => none)
end
end Ev
/-! # Ev15: the plain meaning of an expression is its meaning -/
namespace Ev
open PySem PySem.Spec PyProof.Rows L2
/-- a def that keeps its promise -/
structure FnIs (X : Cx) (k : Nat) (x : Str) (np : Nat) (m : FnDen) : Prop where
  ex : ∃ f fd ps, X.mg x = some (.ref f) ∧ PySem.W.keepIn X.K (.ref f) = true ∧ Binds X.K fd ps [] ∧ FnOk X.prog X.w X.K X.mg X.base (L2.CX X.prog X.w) k f fd ps (spOf X.K X.mg np m)
  ar : ∀ args h, m args h ≠ .bad → args.length = np
/-- .. whose last parameter is a keyword with a default -/
structure FnIsK (X : Cx) (k : Nat) (x : Str) (q : Nat × FnDen × Str × D) : Prop where
  ex : ∃ f fd ps v u n, X.mg x = some (.ref f) ∧ PySem.W.keepIn X.K (.ref f) = true ∧ Binds X.K fd ps [u] ∧ RelV v u ∧ (∀ F, Rp X.K F v q.2.2.2) ∧ KBn X.K fd ps n [q.2.2.1] (fun us ws => us ++ ws) (fun vs zs => vs ++ zs) ∧ q.1 = n + 1 ∧ FnOk X.prog X.w X.K X.mg X.base (L2.CX X.prog X.w) k f fd ps (spOf X.K X.mg q.1 q.2.1)
  ar : ∀ args h, q.2.1 args h ≠ .bad → args.length = q.1
structure XOk (C : Ct) (X : Cx) (k : Nat) : Prop where
  N : X.N = C.N
  nd : C.N.Nodup
  sc : X.env.scope = C.sc
  fn : X.fn = C.fnb
  calm : X.calm = true
  room : Room k X.A
  fns : ∀ x m, C.fns.lookup x = some m → FnIs X k x m.1 m.2
  fnk : ∀ x q, C.fnk.lookup x = some q → FnIsK X k x q
  cs : ∀ x d, C.cs.lookup x = some d → ∃ v u, X.mg x = some u ∧ RelV v u ∧ ∀ F, Rp X.K F v d
  ex : ∀ x, x ∈ C.ex → ∃ A, ExcOk X x A
  bl : ∀ x, x ∈ C.bl → X.mg x = none
  wh : ∀ q, C.wh = some q → WhOk X q.1 q.2
  cat : ∀ x cs, C.cat.lookup x = some cs → CatOk X x cs
  dcs : ∀ x kvs, C.dcs.lookup x = some kvs → DctOk X.K X.w X.mg x kvs
  rm : C.room = true → RmC X ∧ RmI X
  ini : ∀ m, C.ini = some m → MkAt X k m
  mts : ∀ x m, C.mts.lookup x = some m → MtAt X k x m
  mtk : ∀ x q, C.mtk.lookup x = some q → MtKAt X k x q
  mto : ∀ x m, C.mto.lookup x = some m → MtOAt X k x m
  own : ∀ x m, C.own.lookup x = some m → OwAt X k 2 x m
section
variable {X : Cx} {W : WX} {C : Ct} {k : Nat}
theorem ixOf_get : ∀ {N : List Str} {x : Str} {i : Nat}, ixOf N x = some i → N[i]? = some x
  | [], x, i, e => by cases e
  | y :: r, x, i, e => by
    unfold ixOf at e
    by_cases h : y = x
    · rw [if_pos h] at e
      cases e
      rw [h]
      rfl
    · rw [if_neg h] at e
      cases w : ixOf r x with
      | none => rw [w] at e; cases e
      | some j =>
        rw [w] at e
        cases e
        simpa using ixOf_get w
theorem vis_of {sc : Scope} {x : Str} (h : visB sc x = true) : Vis sc x := by
  unfold visB at h
  split at h
  · exact .inl (by assumption)
  · exact .inr (.inl (by assumption))
  · exact .inr (.inr (by assumption))
  · cases h
theorem loc_of {sc : Scope} {x : Str} (h : locB sc x = true) : Loc sc x := by
  unfold locB at h
  split at h
  · exact .inl (by assumption)
  · exact .inr (by assumption)
  · cases h
theorem nameOk_of {x : Str} (h : nameOk x = true) : (x == ("__debug__" : Str)) = false ∧ (x == ("__classdict__" : Str)) = false ∧ x ≠ "__name__" := by
  unfold nameOk at h
  simp only [Bool.and_eq_true, Bool.not_eq_true', decide_eq_false_iff_not] at h
  exact ⟨h.1.1, h.1.2, h.2⟩
theorem XOk.slot (o : XOk C X k) {x : Str} {i : Nat} (e : C.slot x = some i) : X.N[i]? = some x ∧ Vis X.env.scope x ∧ (x == ("__debug__" : Str)) = false ∧ (x == ("__classdict__" : Str)) = false := by
  unfold Ct.slot at e
  split at e
  · rename_i h
    simp only [Bool.and_eq_true] at h
    have n := nameOk_of h.2
    exact ⟨by rw [o.N]; exact ixOf_get e, by rw [o.sc]; exact vis_of h.1, n.1, n.2.1⟩
  · cases e
theorem XOk.put (o : XOk C X k) {x : Str} {i : Nat} (e : C.put x = some i) : X.N.Nodup ∧ X.N[i]? = some x ∧ Loc X.env.scope x ∧ (X.fn x = true ∨ X.env.scope.names.lookup x = some .local) := by
  unfold Ct.put at e
  split at e
  · rename_i h
    simp only [Bool.and_eq_true, Bool.or_eq_true] at h
    refine ⟨by rw [o.N]; exact o.nd, by rw [o.N]; exact ixOf_get e, by rw [o.sc]; exact loc_of h.1.1, ?_⟩
    rw [o.fn, o.sc]
    rcases h.2 with z | z
    · exact .inl z
    · unfold isLoc at z
      split at z
      · exact .inr (by assumption)
      · cases z
  · cases e
theorem XOk.rmS (o : XOk C X k) {x : Str} {i : Nat} (e : C.rm x = some i) : RmC X ∧ RmI X ∧ X.N[i]? = some x ∧ Vis X.env.scope x ∧ (x == ("__debug__" : Str)) = false ∧ (x == ("__classdict__" : Str)) = false := by
  unfold Ct.rm at e
  split at e
  · rename_i h
    rw [Bool.and_eq_true] at h
    obtain ⟨a, b⟩ := o.rm h.1
    exact ⟨a, b, o.slot e⟩
  · cases e
theorem XOk.gl (o : XOk C X k) {x : Str} (h : glB C.sc x = true) : Gl X x := by
  unfold glB at h
  unfold Gl Env.kindOf
  rw [o.sc]
  split at h
  · assumption
  · cases h
theorem XOk.blt (o : XOk C X k) {x : Str} (h : C.blt x = true) : Gl X x ∧ X.mg x = none ∧ x ≠ "__name__" ∧ (x == ("__debug__" : Str)) = false := by
  unfold Ct.blt at h
  simp only [Bool.and_eq_true, decide_eq_true_eq] at h
  have n := nameOk_of h.1.2
  exact ⟨o.gl h.1.1, o.bl x h.2, n.2.2, n.1⟩
theorem star_is {e : Expr} (h : noStars [e] = true) : isStar e = false := by
  cases e <;> first | rfl | cases h
theorem stars_are {es : List Expr} (h : noStars es = true) : (es.all fun e => !isStar e) = true := by
  unfold noStars at h
  rw [List.all_eq_true] at h ⊢
  intro e he
  have := h e he
  cases e <;> first | rfl | cases this
/-! ### parts -/
theorem je_const {c : Const} {f : Den} {j : Nat} {pos : Pos} (e : dConst c = some f) : JE X W (.Constant c j pos) f := by
  unfold dConst at e
  split at e <;> cases e
  · exact je_c pe_int fun F => .int _
  · exact je_c pe_str fun F => .str _
  · exact je_c pe_bl fun F => .bl _
  · exact je_c pe_non fun F => .non
theorem je_binP {a b : Expr} {op : Operator} {o1 o2 : Opd} {p : D → D → Option D} {pos : Pos} (e : binP op = some p) (ha : JO X W a o1) (hb : JO X W b o2) : JE X W (.BinOp a op b pos) (op2 o1 o2 (lift2 p)) := by
  unfold binP at e
  split at e <;> cases e
  · exact je_bin (OpR.or op_add (OpR.or op_add_str (OpR.or op_catA op_catR))) p_add ha hb
  · exact je_bin op_sub p_sub ha hb
  · exact je_bin (OpR.or op_mul (OpR.or op_repR op_repT)) p_mul ha hb
  · exact je_bin op_fdivN p_fdiv ha hb
  · exact je_bin op_modN p_mod ha hb
  · exact je_bin op_pow p_pow ha hb
theorem cmp_rule (o : XOk C X k) {op : CmpOp} {p : D → D → Option D} (e : cmpP op = some p) : ∃ r, OpR X (compareOp op) r ∧ Prim2 X.K r p := by
  have hu := o.room.units
  have hu5 : X.A.units + 65 < cLine := by have := o.room.un; omega
  unfold cmpP at e
  cases op <;> cases e
  · exact ⟨_, op_eqD hu, p_eq⟩
  · exact ⟨_, op_neD hu, p_ne⟩
  · exact ⟨_, op_lt, p_lt⟩
  · exact ⟨_, op_le, p_le⟩
  · exact ⟨_, op_gt, p_gt⟩
  · exact ⟨_, op_ge, p_ge⟩
  · exact ⟨_, OpR.or op_isN op_isBl, p_is⟩
  · exact ⟨_, OpR.or op_notN op_notBl, p_isNot⟩
  · exact ⟨_, OpR.or (OpR.or (OpR.or (op_inD hu5) (op_inT hu5)) (op_inN hu5)) op_inS, p_inT⟩
  · exact ⟨_, OpR.or (OpR.or (OpR.or (op_notInD hu5) (op_notInT hu5)) (op_notInN hu5)) op_notInS, p_notInT⟩
theorem mark_none {op : CmpOp} {b : Expr} (h : isSet b = false) : behindInMarks op b = false := by
  cases b <;> first | rfl | cases h
theorem mark_none2 {op op' : CmpOp} {b c : Expr} (h : intCmp op' = true) : lastMarks [op, op'] [b, c] = false := by
  show behindInMarks op' c = false
  cases op' <;> first | exact nomark c | cases h
theorem plain_ix {b : Expr} (h : plainIxB b = true) : PlainIx b := fun o i => by
  cases b <;> first | rfl | cases h
end
end Ev
/-! # Ev16: the plain meaning of an expression is its meaning (the induction) -/
namespace Ev
open PySem PySem.Spec PyProof.Rows L2
structure Snd (n : Nat) : Prop where
  e : ∀ {C : Ct} {X : Cx} {k : Nat} {W : WX} {e : Expr} {f : Den}, XOk C X k → Takes X W → dE n C e = some f → JE X W e f
  o : ∀ {C : Ct} {X : Cx} {k : Nat} {W : WX} {e : Expr} {f : Opd}, XOk C X k → Takes X W → dO n C e = some f → JO X W e f
  p : ∀ {C : Ct} {X : Cx} {k : Nat} {W : WX} {e : Option Expr} {f : Option Den}, XOk C X k → Takes X W → dP n C e = some f → JP X W e f
  t : ∀ {C : Ct} {X : Cx} {k : Nat} {W : WX} {e : Expr} {f : DenT}, XOk C X k → Takes X W → dT n C e = some f → JT X W e f
  ts : ∀ {C : Ct} {X : Cx} {k : Nat} {W : WX} {es : List Expr} {fs : List DenT}, XOk C X k → Takes X W → dTs n C es = some fs → Paired (JT X W) es fs
  es : ∀ {C : Ct} {X : Cx} {k : Nat} {W : WX} {es : List Expr} {fs : List Den}, XOk C X k → Takes X W → dEs n C es = some fs → Paired (fun e f => isStar e = false ∧ JE X W e f) es fs
  as : ∀ {C : Ct} {X : Cx} {k : Nat} {W : WX} {es : List Expr} {fs : List ADen}, XOk C X k → Takes X W → dAs n C es = some fs → PA X es (tAs X W fs)
  l : ∀ {C : Ct} {X : Cx} {k : Nat} {W : WX} {e : Expr} {f : DenL}, XOk C X k → Takes X W → dL n C e = some f → JL X W e f
  re : ∀ {C : Ct} {X : Cx} {k : Nat} {W : WX} {e : Expr} {f : Den}, XOk C X k → Takes X W → rmE n C e = some f → JE X W e f
  ra : ∀ {C : Ct} {X : Cx} {k : Nat} {W : WX} {e : Expr} {f : ADen}, XOk C X k → Takes X W → rmA n C e = some f → JAr X W e f
  ro : ∀ {C : Ct} {X : Cx} {k : Nat} {W : WX} {e : Expr} {f : DenO}, XOk C X k → Takes X W → rmO n C e = some f → JOb X W e f
  rt : ∀ {C : Ct} {X : Cx} {k : Nat} {W : WX} {e : Expr} {f : DenT}, XOk C X k → Takes X W → rmT n C e = some f → JT X W e f
  i : ∀ {C : Ct} {X : Cx} {k : Nat} {W : WX} {tg e : Expr} {f : DenL}, XOk C X k → Takes X W → dI n C tg e = some f → JI X W tg e f
  ic : ∀ {C : Ct} {X : Cx} {k : Nat} {W : WX} {tg e : Expr} {f : DenL}, XOk C X k → Takes X W → dIC n C tg e = some f → JIC X W tg e f
  g : ∀ {C : Ct} {X : Cx} {k : Nat} {e : Expr} {f : Tgt}, XOk C X k → dG n C e = some f → JG X e f
  gs : ∀ {C : Ct} {X : Cx} {k : Nat} {es : List Expr} {fs : List Tgt}, XOk C X k → dGs n C es = some fs → Paired (JG X) es fs
section
variable {X : Cx} {W : WX} {C : Ct} {k : Nat}
theorem pa_of : ∀ {es : List Expr} {fs : List Den}, Paired (fun e f => isStar e = false ∧ JE X W e f) es fs → PA X es (tA X W fs)
  | _, _, .nil => ja_nil
  | _, _, .cons h t => ja_cons h.1 h.2 (pa_of t)
theorem and_of {pos : Pos} : ∀ {es : List Expr} {fs : List Den}, Paired (fun e f => isStar e = false ∧ JE X W e f) es fs → ∀ {g : Den}, andAll fs = some g → JE X W (.BoolOp .And es pos) g
  | _, _, .nil, g, e => by cases e
  | _, _, .cons h .nil, g, e => by cases e; exact je_one h.2
  | _, _, .cons h (.cons h2 t), g, e => by
    unfold andAll at e
    cases w : andAll (_ :: _) with
    | none => rw [w] at e; cases e
    | some g2 =>
      rw [w] at e
      cases e
      exact je_and h.2 (and_of (.cons h2 t) w)
theorem or_of {pos : Pos} : ∀ {es : List Expr} {fs : List Den}, Paired (fun e f => isStar e = false ∧ JE X W e f) es fs → ∀ {g : Den}, orAll fs = some g → JE X W (.BoolOp .Or es pos) g
  | _, _, .nil, g, e => by cases e
  | _, _, .cons h .nil, g, e => by cases e; exact je_one h.2
  | _, _, .cons h (.cons h2 t), g, e => by
    unfold orAll at e
    cases w : orAll (_ :: _) with
    | none => rw [w] at e; cases e
    | some g2 =>
      rw [w] at e
      cases e
      exact je_or h.2 (or_of (.cons h2 t) w)
theorem andT_of {pos : Pos} : ∀ {es : List Expr} {fs : List DenT}, Paired (JT X W) es fs → ∀ {g : DenT}, andAllT fs = some g → JW X W (.BoolOp .And es pos) g
  | _, _, .nil, g, e => by cases e
  | _, _, .cons h .nil, g, e => by cases e; exact jw_and1 h
  | _, _, .cons h (.cons h2 t), g, e => by
    unfold andAllT at e
    cases w : andAllT (_ :: _) with
    | none => rw [w] at e; cases e
    | some g2 =>
      rw [w] at e
      cases e
      exact jw_and h (andT_of (.cons h2 t) w)
theorem orT_of {pos : Pos} : ∀ {es : List Expr} {fs : List DenT}, Paired (JT X W) es fs → ∀ {g : DenT}, orAllT fs = some g → JW X W (.BoolOp .Or es pos) g
  | _, _, .nil, g, e => by cases e
  | _, _, .cons h .nil, g, e => by cases e; exact jw_or1 h
  | _, _, .cons h (.cons h2 t), g, e => by
    unfold orAllT at e
    cases w : orAllT (_ :: _) with
    | none => rw [w] at e; cases e
    | some g2 =>
      rw [w] at e
      cases e
      exact jw_or h (orT_of (.cons h2 t) w)
theorem gs_of : ∀ {es : List Expr} {fs : List Tgt}, (es.all fun e => !isStar e) = true → Paired (JG X) es fs → JGs X es fs
  | _, _, _, .nil => jgs_nil
  | _, _, hs, .cons h t => by
    simp only [List.all_cons, Bool.and_eq_true, Bool.not_eq_true'] at hs
    exact jgs_cons hs.1 h (gs_of hs.2 t)
theorem pps_of {dpos : Pos} : ∀ {ks : List (Option Expr)} {xs : List Str} {vs : List Expr} {fs : List Den}, keysOf ks = some xs → Paired (fun e f => isStar e = false ∧ JE X W e f) vs fs → ks.length = vs.length → PPs X dpos ks vs (trsOf X W xs fs) ∧ ks.all (·.isSome) = true ∧ xs.length = ks.length
  | [], xs, _, _, e, .nil, _ => by cases e; exact ⟨pps_nil, rfl, rfl⟩
  | [], xs, _, _, e, .cons _ _, hl => by simp at hl
  | _ :: _, _, _, _, _, .nil, hl => by simp at hl
  | k0 :: ks, xs, _, _, e, .cons h t, hl => by
    unfold keysOf at e
    split at e
    · rename_i heq
      cases heq
    · rename_i x j p r heq
      cases heq
      cases w : keysOf ks with
      | none => rw [w] at e; cases e
      | some ys =>
        rw [w] at e
        cases e
        obtain ⟨h1, h2, h3⟩ := pps_of (dpos := dpos) w t (by simpa using hl)
        exact ⟨pps_cons pe_str h.2 h1, by simpa using h2, by rw [List.length_cons, List.length_cons, h3]⟩
    · cases e
theorem prim1_rule (o : XOk C X k) {f : Str} {p : D → Option D} (e : prim1 f = some p) : ∃ v r, bootBuiltins f = some v ∧ ((∃ id, v = .builtin id) ∨ ∃ T, v = .type T) ∧ CallR X v r ∧ PrimC1 X.K r p := by
  unfold prim1 at e
  split at e
  · rename_i h; cases e; subst h
    exact ⟨.builtin "len", _, by decide +kernel, .inl ⟨_, rfl⟩, CallR.or (CallR.or call_len_seq call_len_str) cr_lenN, p_len⟩
  · split at e
    · rename_i h; cases e; subst h
      exact ⟨.builtin "all", _, by decide +kernel, .inl ⟨_, rfl⟩, cr_all o.calm, p_all⟩
    · split at e
      · rename_i h; cases e; subst h
        exact ⟨.builtin "any", _, by decide +kernel, .inl ⟨_, rfl⟩, cr_any o.calm, p_any⟩
      · split at e
        · rename_i h; cases e; subst h
          exact ⟨.type "int", _, by decide +kernel, .inr ⟨_, rfl⟩, CallR.or call_int1 call_int_str, p_int⟩
        · split at e
          · rename_i h; cases e; subst h
            exact ⟨.type "tuple", _, by decide +kernel, .inr ⟨_, rfl⟩, cr_tupF, p_tuple⟩
          · have hu : X.A.units + 66 < cLine := by have := o.room.un; omega
            split at e
            · rename_i h; cases e; subst h
              exact ⟨.builtin "sum", _, by decide +kernel, .inl ⟨_, rfl⟩, cr_sum o.calm, p_sum⟩
            · split at e
              · rename_i h; cases e; subst h
                exact ⟨.builtin "min", _, by decide +kernel, .inl ⟨_, rfl⟩, cr_minD o.calm hu, p_minL⟩
              · split at e
                · rename_i h; cases e; subst h
                  exact ⟨.builtin "max", _, by decide +kernel, .inl ⟨_, rfl⟩, cr_maxD' o.calm hu, p_maxL⟩
                · split at e
                  · rename_i h; cases e; subst h
                    exact ⟨.type "str", _, by decide +kernel, .inr ⟨_, rfl⟩, CallR.or call_str_int SkE.call_str_str, p_str⟩
                  · cases e
theorem prim2_rule (o : XOk C X k) {f : Str} {p : D → D → Option D} (e : prim2 f = some p) : ∃ v r, bootBuiltins f = some v ∧ ((∃ id, v = .builtin id) ∨ ∃ T, v = .type T) ∧ CallR X v r ∧ Prim2 X.K (fun x y H Q => r [x, y] H Q) p := by
  unfold prim2 at e
  split at e
  · rename_i h; cases e; subst h
    exact ⟨.builtin "min", _, by decide +kernel, .inl ⟨_, rfl⟩, call_min2 o.calm, p_min2⟩
  · split at e
    · rename_i h; cases e; subst h
      exact ⟨.builtin "max", _, by decide +kernel, .inl ⟨_, rfl⟩, call_max2 o.calm, p_max2⟩
    · cases e
theorem ty_rule {y : Str} {T : String} (e : tyOfName y = some T) : bootBuiltins y = some (.type T) := by
  unfold tyOfName at e
  split at e
  · rename_i h; cases e; subst h; decide +kernel
  · split at e
    · rename_i h; cases e; subst h; decide +kernel
    · split at e
      · rename_i h; cases e; subst h; decide +kernel
      · split at e
        · rename_i h; cases e; subst h; decide +kernel
        · split at e
          · rename_i h; cases e; subst h; decide +kernel
          · cases e
/-- a comprehension's block -/
theorem XOk.blk (o : XOk C X k) (scope : Scope) (s : Shared) (H : Hp) (A : Addr) (cl : List (Str × Addr)) (fp : List Addr) : XOk (C.blk scope) (X.blk s H scope (compEnvC scope cl A X.env) fp) k where
  N := o.N
  nd := o.nd
  sc := by
    show relS scope X.env.scope = relSc scope C.sc
    rw [o.sc]
    rfl
  fn := rfl
  calm := o.calm
  room := o.room
  fns := fun x m e => by
    obtain ⟨⟨f, fd, ps, h1, h2, h3, h4⟩, h5⟩ := o.fns x m e
    exact ⟨⟨f, fd, ps, h1, h2, h3, h4⟩, h5⟩
  fnk := fun x q e => by
    obtain ⟨⟨f, fd, ps, v, u, n, h1, h2, h3, h4, h5, h6, h7, h8⟩, h9⟩ := o.fnk x q e
    exact ⟨⟨f, fd, ps, v, u, n, h1, h2, h3, h4, h5, h6, h7, h8⟩, h9⟩
  cs := o.cs
  ex := fun x h => by
    obtain ⟨A, q⟩ := o.ex x h
    exact ⟨A, q.g, q.ex, q.kp, q.sub, q.ty⟩
  bl := o.bl
  wh := fun q e => ⟨(o.wh q e).ex, (o.wh q e).cl⟩
  cat := fun x cs e => o.cat x cs e
  dcs := o.dcs
  rm := o.rm
  ini := o.ini
  mts := o.mts
  mtk := o.mtk
  mto := o.mto
  own := o.own
theorem dFn_ok (o : XOk C X k) : ∀ {fes : List Expr} {ms : List FnDen}, dFn C fes = some ms → ∃ vs, PA X fes (fun _ H Q => Q vs H) ∧ Paired (FnAt X k) vs ms
  | [], ms, h => by
    cases h
    exact ⟨[], pa_mono pa_nil fun σ H Q q => q, .nil⟩
  | e :: r, ms, h => by
    unfold dFn at h
    split at h
    · rename_i heq; cases heq
    · rename_i x p r' heq
      cases heq
      split at h
      · rename_i hc
        simp only [Bool.and_eq_true] at hc
        have nx := nameOk_of hc.2
        split at h
        · rename_i m ms' w1 w2
          cases h
          obtain ⟨⟨f, fd, ps, h1, h2, h3, h4⟩, h5⟩ := o.fns x m w1
          obtain ⟨vs, p1, p2⟩ := dFn_ok o w2
          exact ⟨.ref f :: vs, pa_mono (pa_cons (pe_glob (v := .ref f) (o.gl hc.1) h1 rfl nx.1) p1 (star_cons rfl)) fun σ H Q q => q, .cons (fnAt_of h2 h3 h4 h5) p2⟩
        · rename_i ms' w1 w2
          split at h
          · rename_i q w3
            cases h
            obtain ⟨⟨f, fd, ps, v, u, n, h1, h2, h3, h4, h5, h6, h7, h8⟩, h9⟩ := o.fnk x q w3
            obtain ⟨vs, p1, p2⟩ := dFn_ok o w2
            exact ⟨.ref f :: vs, pa_mono (pa_cons (pe_glob (v := .ref f) (o.gl hc.1) h1 rfl nx.1) p1 (star_cons rfl)) fun σ H Q q => q, .cons (fnAt_ofD h2 h3 h4 h5 h8 h7 h9) p2⟩
          · cases h
        · cases h
      · cases h
    · cases h
theorem takes0' {X : Cx} : Takes X W0 := fun u s' ⟨_, _, _, _, _, _, _, _, _, _, _, _, _, _, _, _, w⟩ => w.elim
end
end Ev
/-! # Ev17: the induction's step -/
namespace Ev
open PySem PySem.Spec PyProof.Rows L2
section
variable {X : Cx} {W : WX} {C : Ct} {k n : Nat}
theorem ob {α β : Type} {x : Option α} {f : α → β} {y : β} (h : x.map f = some y) : ∃ a, x = some a ∧ f a = y := by
  cases x with
  | none => cases h
  | some a => cases h; exact ⟨a, rfl, rfl⟩
theorem dct_ok (o : XOk C X k) {a : Expr} {kvs : List (Str × D)} (h : dctOf C a = some kvs) : ∃ x px, a = .Name x px ∧ Gl X x ∧ (x == ("__debug__" : Str)) = false ∧ DctOk X.K X.w X.mg x kvs := by
  unfold dctOf at h
  split at h
  · rename_i x px
    split at h
    · cases h
    · split at h
      · rename_i g
        simp only [Bool.and_eq_true] at g
        exact ⟨x, px, rfl, o.gl g.1, (nameOk_of g.2).1, o.dcs _ _ h⟩
      · cases h
  · cases h
theorem zip_ok {f : Str} {a : Expr} {q : Expr × Expr} (h : (if f = "tuple" then zipOf a else none) = some q) : f = "tuple" ∧ ∃ p pos, a = .Call (.Name "zip" p) [q.1, q.2] [] pos := by
  split at h
  · rename_i hf
    refine ⟨hf, ?_⟩
    unfold zipOf at h
    split at h
    · rename_i z p a1 b1 pos
      split at h
      · rename_i hz
        cases h
        subst hz
        exact ⟨p, pos, rfl⟩
      · cases h
    · cases h
  · cases h
theorem stars2 {a b : Expr} (h : noStars [a, b] = true) : isStar a = false ∧ isStar b = false := by
  have := stars_are h
  simp only [List.all_cons, List.all_nil, Bool.and_true, Bool.and_eq_true, Bool.not_eq_true'] at this
  exact this
theorem gr_ok (o : XOk C X k) (h : C.gr = true) : Gl X "Room" ∧ RmC X ∧ RmI X := by
  unfold Ct.gr at h
  rw [Bool.and_eq_true] at h
  obtain ⟨a, b⟩ := o.rm h.1
  exact ⟨o.gl h.2, a, b⟩
theorem snd_re (S : Snd n) {e : Expr} {f : Den} (o : XOk C X k) (tk : Takes X W) (h : rmE (n + 1) C e = some f) : JE X W e f := by
  have hu : X.A.units + 66 < cLine := by have := o.room.un; omega
  unfold rmE at h
  split at h
  · split at h
    · rename_i hf
      subst hf
      obtain ⟨i, e1, e2⟩ := ob h
      subst e2
      obtain ⟨rc, ri, h1, h2, h3, h4⟩ := o.rmS e1
      exact je_school rc h1 h2 h3 h4
    · cases h
  · split at h
    · rename_i hf
      subst hf
      split at h
      · rename_i i j w1 w2
        cases h
        obtain ⟨rc, ri, h1, h2, h3, h4⟩ := o.rmS w1
        obtain ⟨g1, g2, g3, g4⟩ := o.slot w2
        exact je_rowGet rc (by omega) h1 h2 h3 h4 g1 g2 g3 g4
      · cases h
    · cases h
  · split at h
    · rename_i hf
      subst hf
      split at h
      · rename_i g i w1 w2
        cases h
        obtain ⟨rc, ri, h1, h2, h3, h4⟩ := o.rmS w2
        exact je_rowIn rc (by omega) h1 h2 h3 h4 (S.e o tk w1)
      · cases h
    · cases h
  · split at h
    · rename_i hf
      subst hf
      split at h
      · rename_i g i w1 w2
        cases h
        obtain ⟨rc, ri, h1, h2, h3, h4⟩ := o.rmS w2
        exact je_rowNo rc (by omega) h1 h2 h3 h4 (S.e o tk w1)
      · cases h
    · cases h
  · split at h
    · rename_i hf
      subst hf
      obtain ⟨i, e1, e2⟩ := ob h
      subst e2
      obtain ⟨rc, ri, h1, h2, h3, h4⟩ := o.rmS e1
      exact je_pastNil rc (by omega) h1 h2 h3 h4
    · cases h
  · split at h
    · rename_i hf
      simp only [Bool.and_eq_true, decide_eq_true_eq] at hf
      obtain ⟨hf1, hf2⟩ := hf
      subst hf1 hf2
      split at h
      · rename_i i j w1 w2
        cases h
        obtain ⟨rc, ri, h1, h2, h3, h4⟩ := o.rmS w1
        obtain ⟨_, _, g1, g2, g3, g4⟩ := o.rmS w2
        exact je_rowsEq rc (by omega) h1 h2 h3 h4 g1 g2 g3 g4
      · cases h
    · cases h
  · split at h
    · rename_i m u v w1 w2 w3
      split at h
      · cases h
      · rename_i hs
        cases h
        have ow := o.own _ _ w1
        simp only [Bool.or_eq_true, Bool.not_eq_true', not_or, Bool.not_eq_true, Bool.not_eq_false] at hs
        have hroom := o.rm hs.2
        exact je_eqO hroom.1 hroom.2 (ow.less (by omega)) o.room tk (S.ra o tk w2) (S.ra o tk w3) (mark_none hs.1)
    · cases h
  · -- calls
    rename_i f pf as pc
    split at h
    · rename_i hf
      subst hf
      split at h
      · rename_i hg
        simp only [Bool.and_eq_true] at hg
        split at h
        · rename_i m fs w1 w2
          cases h
          obtain ⟨g, rc, ri⟩ := gr_ok o hg.1.1
          cases as with
          | nil => exact absurd hg.2 (by decide)
          | cons a as => exact je_makeX (jo_make (o.ini _ w1) o.room tk g ri.mg (stars_are hg.1.2) (pa_of (S.es o tk w2)))
        · cases h
      · cases h
    · split at h
      · split at h
        · rename_i hf
          simp only [Bool.and_eq_true, decide_eq_true_eq] at hf
          obtain ⟨b1, b2, b3, b4⟩ := o.blt hf.2
          have hn := hf.1
          subst hn
          split at h
          · rename_i m i w1 w2
            cases h
            obtain ⟨rc, ri, h1, h2, h3, h4⟩ := o.rmS w2
            exact je_lenO ((o.own _ _ w1).less (by omega)) o.room tk b1 b2 h1 h2 h3 h4
          · cases h
        · split at h
          · rename_i hf
            simp only [Bool.and_eq_true, decide_eq_true_eq] at hf
            obtain ⟨b1, b2, b3, b4⟩ := o.blt hf.2
            have hn := hf.1
            subst hn
            split at h
            · rename_i m i w1 w2
              cases h
              obtain ⟨rc, ri, h1, h2, h3, h4⟩ := o.rmS w2
              exact je_strO (o.own _ _ w1) o.room tk b1 b2 h1 h2 h3 h4
            · cases h
          · cases h
      · split at h
        · rename_i hf
          simp only [Bool.and_eq_true, decide_eq_true_eq] at hf
          obtain ⟨b1, b2, b3, b4⟩ := o.blt hf.1.2
          have hn := hf.1.1
          have hg := hf.2
          subst hn hg
          obtain ⟨i, e1, e2⟩ := ob h
          subst e2
          obtain ⟨rc, ri, h1, h2, h3, h4⟩ := o.rmS e1
          exact je_rowsLen rc b1 b2 h1 h2 h3 h4
        · cases h
      · split at h
        · rename_i hf
          simp only [Bool.and_eq_true, decide_eq_true_eq] at hf
          obtain ⟨b1, b2, b3, b4⟩ := o.blt hf.1.1.2
          have hn := hf.1.1.1
          have hr := hf.2
          subst hn hr
          obtain ⟨i, e1, e2⟩ := ob h
          subst e2
          obtain ⟨rc, ri, h1, h2, h3, h4⟩ := o.rmS e1
          exact je_isRoom rc ri b1 b2 (gr_ok o hf.1.2).1 h1 h2 h3 h4
        · cases h
      · cases h
  · split at h
    · rename_i hf
      simp only [Bool.and_eq_true] at hf
      split at h
      · rename_i md i w1 w2
        cases h
        obtain ⟨rc, ri, h1, h2, h3, h4⟩ := o.rmS w2
        exact je_meth0 rc (o.mts _ _ w1) o.room tk h1 h2 h3 h4 hf.1 hf.2
      · cases h
    · cases h
  · split at h
    · rename_i hf
      simp only [Bool.and_eq_true, decide_eq_true_eq] at hf
      split at h
      · rename_i md i ds w1 w2 w3
        cases h
        obtain ⟨rc, ri, h1, h2, h3, h4⟩ := o.rmS w2
        exact je_meth rc (o.mts _ _ w1) o.room tk h1 h2 h3 h4 hf.1.1.1 hf.1.1.2 (by have := hf.1.2; simp only [List.length_cons, List.length_nil]; omega) (stars_are hf.2) (S.as o tk w3)
      · cases h
    · cases h
  · split at h
    · rename_i hf
      simp only [Bool.and_eq_true, decide_eq_true_eq] at hf
      split at h
      · rename_i q i fs fk w1 w2 w3 w4
        split at h
        · rename_i hk
          cases h
          subst hk
          obtain ⟨rc, ri, h1, h2, h3, h4⟩ := o.rmS w2
          exact je_methK rc (o.mtk _ _ w1) o.room tk h1 h2 h3 h4 hf.1.1.1 hf.1.1.2 (by have := hf.1.2; simp only [List.length_cons, List.length_nil]; omega) (stars_are hf.2) (pa_of (S.es o tk w3)) (S.e o tk w4)
        · cases h
      · cases h
    · cases h
  · split at h
    · rename_i hf
      simp only [Bool.and_eq_true, decide_eq_true_eq] at hf
      have hn := hf.1.1
      have hm := hf.1.2
      subst hn hm
      obtain ⟨i, e1, e2⟩ := ob h
      subst e2
      obtain ⟨rc, ri, h1, h2, h3, h4⟩ := o.rmS e1
      exact je_callPop rc h1 h2 h3 h4 hf.2
    · cases h
  · split at h
    · rename_i hf
      simp only [Bool.and_eq_true, decide_eq_true_eq] at hf
      obtain ⟨b1, b2, b3, b4⟩ := o.blt hf.1.1.2
      have hn := hf.1.1.1
      have hm := hf.1.2
      subst hn hm
      split at h
      · rename_i md i w1 w2
        cases h
        obtain ⟨rc, ri, h1, h2, h3, h4⟩ := o.rmS w2
        exact je_ofL (jl_split (jo_exp (je_strO (o.own _ _ w1) o.room tk b1 b2 h1 h2 h3 h4)) rfl hf.2)
      · cases h
    · cases h
  · cases h
theorem snd_ra (S : Snd n) {e : Expr} {f : ADen} (o : XOk C X k) (tk : Takes X W) (h : rmA (n + 1) C e = some f) : JAr X W e f := by
  unfold rmA at h
  split at h
  · split at h
    · rename_i i w
      cases h
      obtain ⟨h1, h2, h3, h4⟩ := o.slot w
      exact ar_var h1 h2 h3 h4
    · obtain ⟨g, e1, e2⟩ := ob h
      subst e2
      exact ar_exp (S.e o tk e1)
  · split at h
    · rename_i g w
      cases h
      exact ar_obj (S.ro o tk w)
    · obtain ⟨g, e1, e2⟩ := ob h
      subst e2
      exact ar_exp (S.e o tk e1)
theorem snd_ro (S : Snd n) {e : Expr} {f : DenO} (o : XOk C X k) (tk : Takes X W) (h : rmO (n + 1) C e = some f) : JOb X W e f := by
  unfold rmO at h
  split at h
  · split at h
    · rename_i hf
      simp only [Bool.and_eq_true, decide_eq_true_eq] at hf
      have hn := hf.1.1
      subst hn
      split at h
      · rename_i m fs w1 w2
        cases h
        obtain ⟨g, rc, ri⟩ := gr_ok o hf.1.2
        exact jo_make (o.ini _ w1) o.room tk g ri.mg (stars_are hf.2) (pa_of (S.es o tk w2))
      · cases h
    · cases h
  · split at h
    · rename_i hf
      simp only [Bool.and_eq_true] at hf
      split at h
      · rename_i md i w1 w2
        cases h
        obtain ⟨rc, ri, h1, h2, h3, h4⟩ := o.rmS w2
        exact jo_meth0 rc (o.mto _ _ w1) o.room tk h1 h2 h3 h4 hf.1 hf.2
      · cases h
    · cases h
  · cases h
theorem snd_rt (S : Snd n) {e : Expr} {f : DenT} (o : XOk C X k) (tk : Takes X W) (h : rmT (n + 1) C e = some f) : JT X W e f := by
  have hu : X.A.units + 66 < cLine := by have := o.room.un; omega
  unfold rmT at h
  split at h
  · split at h
    · rename_i hf
      subst hf
      split at h
      · rename_i g i w1 w2
        cases h
        obtain ⟨rc, ri, h1, h2, h3, h4⟩ := o.rmS w2
        exact jt_rowIn rc (by omega) h1 h2 h3 h4 (S.e o tk w1)
      · cases h
    · cases h
  · split at h
    · rename_i hf
      subst hf
      split at h
      · rename_i g i w1 w2
        cases h
        obtain ⟨rc, ri, h1, h2, h3, h4⟩ := o.rmS w2
        exact jt_rowNo rc (by omega) h1 h2 h3 h4 (S.e o tk w1)
      · cases h
    · cases h
  · split at h
    · rename_i hf
      subst hf
      obtain ⟨i, e1, e2⟩ := ob h
      subst e2
      obtain ⟨rc, ri, h1, h2, h3, h4⟩ := o.rmS e1
      exact jt_pastNil rc (by omega) h1 h2 h3 h4
    · cases h
  · cases h
theorem snd_e (S : Snd n) {e : Expr} {f : Den} (o : XOk C X k) (tk : Takes X W) (h : dE (n + 1) C e = some f) : JE X W e f := by
  unfold dE at h
  split at h
  · exact S.re o tk h
  rename_i hrm
  clear hrm
  split at h
  · -- a name
    split at h
    · rename_i i w
      cases h
      obtain ⟨h1, h2, h3, h4⟩ := o.slot w
      exact je_var h1 h2 h3 h4
    · split at h
      · rename_i g
        simp only [Bool.and_eq_true] at g
        obtain ⟨d, e1, e2⟩ := ob h
        subst e2
        obtain ⟨v, u, h1, h2, h3⟩ := o.cs _ _ e1
        exact je_c (pe_glob (o.gl g.1) h1 h2 (nameOk_of g.2).1) h3
      · cases h
  · exact je_const h
  · split at h
    · rename_i o1 o2 p w1 w2 w3
      cases h
      exact je_binP w3 (S.o o tk w1) (S.o o tk w2)
    · cases h
  · obtain ⟨g, e1, e2⟩ := ob h
    subst e2
    exact je_not (S.e o tk e1)
  · obtain ⟨g, e1, e2⟩ := ob h
    subst e2
    exact je_neg (S.o o tk e1)
  · cases w : dEs n C _ with
    | none => rw [w] at h; cases h
    | some fs => rw [w] at h; exact and_of (S.es o tk w) h
  · cases w : dEs n C _ with
    | none => rw [w] at h; cases h
    | some fs => rw [w] at h; exact or_of (S.es o tk w) h
  · split at h
    · rename_i o1 o2 p w1 w2 w3
      split at h
      · cases h
      · rename_i hs
        cases h
        obtain ⟨r, h1, h2⟩ := cmp_rule o w3
        exact je_cmp h1 h2 (S.o o tk w1) (S.o o tk w2) (mark_none (by simpa using hs))
    · cases h
  · split at h
    · rename_i o1 o2 o3 p p' w1 w2 w3 w4 w5
      split at h
      · rename_i hi
        simp only [Bool.and_eq_true] at hi
        cases h
        obtain ⟨r, h1, h2⟩ := cmp_rule o w4
        obtain ⟨r', h3, h4⟩ := cmp_rule o w5
        exact je_chain h1 h2 h3 h4 (S.o o tk w1) (S.o o tk w2) (S.o o tk w3) (mark_none2 hi.2)
      · cases h
    · cases h
  · split at h
    · rename_i t g1 g2 w1 w2 w3
      cases h
      exact je_if (S.t o tk w1) (S.e o tk w2) (S.e o tk w3)
    · cases h
  · split at h
    · rename_i fs w
      split at h
      · rename_i hl
        cases h
        exact je_tup (Nat.le_trans hl (by decide)) (pa_of (S.es o tk w))
      · cases h
    · cases h
  · obtain ⟨g, e1, e2⟩ := ob h
    subst e2
    exact je_ofL (S.l o tk e1)
  · obtain ⟨g, e1, e2⟩ := ob h
    subst e2
    exact je_ofL (S.l o tk e1)
  · split at h
    · rename_i xs fs g w1 w2 w3
      split at h
      · rename_i hc
        simp only [Bool.and_eq_true, decide_eq_true_eq] at hc
        cases h
        obtain ⟨h1, h2, h3⟩ := pps_of w1 (S.es o tk w2) hc.1.1.1.2
        refine je_pick (by have := o.room.un; omega) h1 h2 hc.1.1.1.2 ?_ hc.1.2 h3 hc.2 (S.e o tk w3) (plain_ix hc.1.1.1.1)
        intro z
        have := hc.1.1.2
        rw [z] at this
        simp at this
      · cases h
    · cases h
  · split at h
    · rename_i o1 l u w1 w2 w3
      cases h
      exact je_cut (S.o o tk w1) (S.p o tk w2) (S.p o tk w3)
    · cases h
  · obtain ⟨g, e1, e2⟩ := ob h
    subst e2
    exact je_rev (S.o o tk e1)
  · split at h
    · rename_i kvs wd
      split at h
      · rename_i hp
        obtain ⟨g, e1, e2⟩ := ob h
        subst e2
        obtain ⟨x, px, rfl, hg, hd, hk⟩ := dct_ok o wd
        exact je_dct hg hd hk (S.e o tk e1) (plain_ix hp)
      · cases h
    split at h
    · rename_i o1 o2 w1 w2
      split at h
      · rename_i hp
        cases h
        exact je_ix (IxR.or (IxR.or ix_list ix_tup) (ix_dict (by have := o.room.un; omega))) p_ixN (S.o o tk w1) (S.o o tk w2) (plain_ix hp)
      · cases h
    · cases h
  · -- calls
    rename_i fname pf as pc
    split at h
    · rename_i m w
      split at h
      · rename_i hc
        simp only [Bool.and_eq_true] at hc
        obtain ⟨ds, e1, e2⟩ := ob h
        subst e2
        obtain ⟨⟨fa, fd, ps, h1, h2, h3, h4⟩, h5⟩ := o.fns _ _ w
        cases as with
        | nil => exact absurd hc.2 (by decide)
        | cons a as => exact je_call h4 h5 o.room tk (o.gl hc.1.1.1) h1 h2 h3 (nameOk_of hc.1.1.2).1 (stars_are hc.1.2) (S.as o tk e1)
      · cases h
    · split at h
      · rename_i q wq
        split at h
        · rename_i hc
          simp only [Bool.and_eq_true] at hc
          obtain ⟨ds, e1, e2⟩ := ob h
          subst e2
          obtain ⟨⟨fa, fd, ps, v, u, n', h1, h2, h3, h4, h5, h6, h7, h8⟩, h9⟩ := o.fnk _ _ wq
          cases as with
          | nil => exact absurd hc.2 (by decide)
          | cons a as => exact je_callD h8 h9 o.room tk (o.gl hc.1.1.1) h1 h2 h3 h4 h5 (nameOk_of hc.1.1.2).1 (stars_are hc.1.2) (S.as o tk e1)
        · cases h
      split at h
      · rename_i hb
        obtain ⟨b1, b2, b3, b4⟩ := o.blt hb
        split at h
        · split at h
          · rename_i q wq
            split at h
            · rename_i hz
              simp only [Bool.and_eq_true] at hz
              split at h
              · rename_i g k w1 w2
                cases h
                obtain ⟨hf, pz, posz, rfl⟩ := zip_ok wq
                subst hf
                obtain ⟨z1, z2, z3, z4⟩ := o.blt hz.1
                have hs' := stars2 hz.2
                exact je_tupZip o.calm b1 b2 z1 z2 hs'.1 hs'.2 (S.e o tk w1) (S.e o tk w2)
              · cases h
            · cases h
          split at h
          · rename_i p w
            split at h
            · rename_i hs
              obtain ⟨o1, e1, e2⟩ := ob h
              subst e2
              obtain ⟨v, r, c1, c2, c3, c4⟩ := prim1_rule o w
              exact pe_mono (pe_blt c3 c2 b1 b2 c1 b3 b4 (stars_are hs) (ja1 (star_is hs) (S.o o tk e1))) fun σ H Q q => t_call1 c4 σ H Q q
            · cases h
          · split at h
            · rename_i hf
              subst hf
              split at h
              · rename_i hs
                obtain ⟨o1, e1, e2⟩ := ob h
                subst e2
                exact je_ofD (jd_pairs o.calm (by have := o.room.un; omega) b1 b2 (star_is hs) (S.o o tk e1))
              · cases h
            · obtain ⟨g, e1, e2⟩ := ob h
              subst e2
              exact je_ofL (S.l o tk e1)
        · split at h
          · rename_i p w
            split at h
            · rename_i hs
              split at h
              · rename_i o1 o2 w1 w2
                cases h
                obtain ⟨v, r, c1, c2, c3, c4⟩ := prim2_rule o w
                have hs' := stars_are hs
                simp only [List.all_cons, List.all_nil, Bool.and_true, Bool.and_eq_true, Bool.not_eq_true'] at hs'
                exact pe_mono (pe_blt c3 c2 b1 b2 c1 b3 b4 (stars_are hs) (ja2 hs'.1 hs'.2 (S.o o tk w1) (S.o o tk w2))) fun σ H Q q => t_call2 c4 σ H Q q
              · cases h
            · cases h
          · split at h
            · split at h
              · rename_i hc
                simp only [Bool.and_eq_true, decide_eq_true_eq] at hc
                split at h
                · rename_i T w
                  obtain ⟨o1, e1, e2⟩ := ob h
                  subst e2
                  obtain ⟨d1, d2, d3, d4⟩ := o.blt hc.1.2
                  have hn := hc.1.1
                  subst hn
                  exact je_isi b1 b2 (by decide +kernel) d1 d2 (ty_rule w) d3 d4 (star_is hc.2) (S.o o tk e1)
                · cases h
              · cases h
            · cases h
        · cases h
      · cases h
  · -- a keyword
    rename_i fname _ as kw ek _ _
    split at h
    · rename_i q wq
      split at h
      · rename_i hc
        simp only [Bool.and_eq_true, decide_eq_true_eq] at hc
        split at h
        · rename_i fs g w1 w2
          cases h
          obtain ⟨⟨fa, fd, ps, v, u, n', h1, h2, h3, h4, h5, h6, h7, h8⟩, h9⟩ := o.fnk _ _ wq
          have hkw := hc.2
          subst hkw
          cases as with
          | nil => exact absurd hc.1.2 (by decide)
          | cons a as => exact je_callK h8 h9 h7 o.room tk (o.gl hc.1.1.1.1) h1 h2 h6 (nameOk_of hc.1.1.1.2).1 (stars_are hc.1.1.2) (pa_of (S.es o tk w1)) (S.e o tk w2)
        · cases h
      · cases h
    · cases h
  · -- a.join(..)
    split at h
    · rename_i hc
      simp only [Bool.and_eq_true, decide_eq_true_eq] at hc
      have hm := hc.1.1
      subst hm
      obtain ⟨o1, e1, e2⟩ := ob h
      subst e2
      exact je_join (S.o o tk e1) (star_is hc.2) hc.1.2
    · cases h
  · -- a function out of a list
    rename_i fes pa ix pb as pc
    split at h
    · rename_i hc
      simp only [Bool.and_eq_true] at hc
      split at h
      · rename_i ms fi ds w1 w2 w3
        split at h
        · rename_i hn
          cases h
          obtain ⟨vs, p1, p2⟩ := dFn_ok o w1
          cases as with
          | nil => exact absurd hc.1.2 (by decide)
          | cons a as => exact je_sel o.room tk p1 (by rw [Paired.length p2]; exact hn) p2 (S.e o tk w2) (plain_ix hc.2) (stars_are hc.1.1) (S.as o tk w3)
        · cases h
      · cases h
    · cases h
  · split at h
    · rename_i hc
      simp only [Bool.and_eq_true, decide_eq_true_eq] at hc
      have hm := hc.1.1
      subst hm
      split at h
      · rename_i i w1
        cases h
        obtain ⟨h1, h2, h3, h4⟩ := o.slot w1
        exact je_pop h1 h2 h3 h4 hc.1.2
      · cases h
    · cases h
  · split at h
    · rename_i hc
      simp only [Bool.and_eq_true, decide_eq_true_eq] at hc
      have hm := hc.1.1
      subst hm
      split at h
      · rename_i i o1 w1 w2
        cases h
        obtain ⟨h1, h2, h3, h4⟩ := o.slot w1
        exact je_index (by have := o.room.un; omega) h1 h2 h3 h4 (star_is hc.2) (S.o o tk w2) hc.1.2
      · cases h
    · split at h
      · rename_i hc
        simp only [Bool.and_eq_true, decide_eq_true_eq] at hc
        have hm := hc.1.1
        subst hm
        split at h
        · rename_i i o1 w1 w2
          cases h
          obtain ⟨h1, h2, h3, h4⟩ := o.slot w1
          exact je_count (by have := o.room.un; omega) h1 h2 h3 h4 (star_is hc.2) (S.o o tk w2) hc.1.2
        · cases h
      · split at h
        · obtain ⟨l, e1, e2⟩ := ob h
          subst e2
          exact je_ofL (S.l o tk e1)
        · cases h
  · split at h
    · rename_i hc
      simp only [Bool.and_eq_true, decide_eq_true_eq] at hc
      have hm := hc.1.1
      subst hm
      split at h
      · rename_i i f1 g1 w1 w2 w3
        cases h
        obtain ⟨h1, h2, h3, h4⟩ := o.slot w1
        have hs' := stars_are hc.2
        simp only [List.all_cons, List.all_nil, Bool.and_true, Bool.and_eq_true, Bool.not_eq_true'] at hs'
        exact je_get h1 h2 h3 h4 hs'.1 hs'.2 (S.e o tk w2) (S.e o tk w3) hc.1.2 (by have := o.room.un; omega)
      · cases h
    · cases h
  · cases h
    exact je_ofD jd_new
  · split at h
    · rename_i f1 g1 w1 w2
      cases h
      exact je_ofD (jd_new1 (by have := o.room.un; omega) (S.e o tk w1) (S.e o tk w2))
    · cases h
  · cases h
end
end Ev
/-! # Ev18: the induction -/
namespace Ev
open PySem PySem.Spec PyProof.Rows L2
section
variable {X : Cx} {W : WX} {C : Ct} {k n : Nat}
theorem snd_o (S : Snd n) {e : Expr} {f : Opd} (o : XOk C X k) (tk : Takes X W) (h : dO (n + 1) C e = some f) : JO X W e f := by
  unfold dO at h
  split at h
  · split at h
    · rename_i i w
      cases h
      obtain ⟨h1, h2, h3, h4⟩ := o.slot w
      exact jo_var h1 h2 h3 h4
    · obtain ⟨g, e1, e2⟩ := ob h
      subst e2
      exact S.e o tk e1
  · obtain ⟨g, e1, e2⟩ := ob h
    subst e2
    exact S.e o tk e1
theorem snd_p (S : Snd n) {e : Option Expr} {f : Option Den} (o : XOk C X k) (tk : Takes X W) (h : dP (n + 1) C e = some f) : JP X W e f := by
  cases e with
  | none => unfold dP at h; cases h; exact jp_none
  | some e =>
    unfold dP at h
    obtain ⟨g, e1, e2⟩ := ob h
    subst e2
    exact jp_some (S.e o tk e1)
theorem snd_cmpT (S : Snd n) {a : Expr} {ops : List CmpOp} {cs : List Expr} {pos : Pos} {f : Den} (o : XOk C X k) (tk : Takes X W) (hr : rmC C (.Compare a ops cs pos) = false) (h : dE n C (.Compare a ops cs pos) = some f) (S' : ∀ {m : Nat}, m < n → Snd m) : JT X W (.Compare a ops cs pos) (testOf f) := by
  cases n with
  | zero => unfold dE at h; cases h
  | succ n =>
    have S1 := S' (Nat.lt_succ_self n)
    unfold dE at h
    rw [if_neg (by rw [hr]; exact Bool.false_ne_true)] at h
    clear hr
    split at h <;> try (rename_i heq; cases heq)
    all_goals try cases h
    · split at h
      · rename_i o1 o2 p w1 w2 w3
        split at h
        · cases h
        · rename_i hs
          cases h
          obtain ⟨r, h1, h2⟩ := cmp_rule o w3
          exact jt_cmp h1 h2 (S1.o o tk w1) (S1.o o tk w2) (mark_none (by simpa using hs))
      · cases h
    · split at h
      · rename_i o1 o2 o3 p p' w1 w2 w3 w4 w5
        split at h
        · rename_i hi
          simp only [Bool.and_eq_true] at hi
          cases h
          obtain ⟨r, h1, h2⟩ := cmp_rule o w4
          obtain ⟨r', h3, h4⟩ := cmp_rule o w5
          exact jt_chain h1 h2 h3 h4 (S1.o o tk w1) (S1.o o tk w2) (S1.o o tk w3) (mark_none2 hi.2)
        · cases h
      · cases h
theorem snd_t (S : Snd n) (S' : ∀ {m : Nat}, m < n → Snd m) {e : Expr} {f : DenT} (o : XOk C X k) (tk : Takes X W) (h : dT (n + 1) C e = some f) : JT X W e f := by
  unfold dT at h
  split at h
  · obtain ⟨g, e1, e2⟩ := ob h
    subst e2
    exact jt_not (S.t o tk e1)
  · cases w : dTs n C _ with
    | none => rw [w] at h; cases h
    | some fs => rw [w] at h; exact (andT_of (S.ts o tk w) h).pt
  · cases w : dTs n C _ with
    | none => rw [w] at h; cases h
    | some fs => rw [w] at h; exact (orT_of (S.ts o tk w) h).pt
  · cases h
  · rename_i h1 h2 h3 h4
    split at h
    · exact S.rt o tk h
    rename_i hrm
    obtain ⟨g, e1, e2⟩ := ob h
    subst e2
    cases e with
    | Compare a ops cs p => exact snd_cmpT S o tk (by simpa [isCmp] using hrm) e1 S'
    | UnaryOp op a p =>
      cases op with
      | Not => exact absurd rfl (h1 _ _)
      | _ => exact jt_of (S.e o tk e1) fun _ => rfl
    | BoolOp op vs p =>
      cases op with
      | And => exact absurd rfl (h2 _ _)
      | Or => exact absurd rfl (h3 _ _)
    | IfExp c a b p => exact absurd rfl (h4 _ _ _ _)
    | _ => exact jt_of (S.e o tk e1) fun _ => rfl
theorem snd_ts (S : Snd n) {es : List Expr} {fs : List DenT} (o : XOk C X k) (tk : Takes X W) (h : dTs (n + 1) C es = some fs) : Paired (JT X W) es fs := by
  cases es with
  | nil => unfold dTs at h; cases h; exact .nil
  | cons e es =>
    unfold dTs at h
    split at h
    · rename_i g gs w1 w2
      cases h
      exact .cons (S.t o tk w1) (S.ts o tk w2)
    · cases h
theorem snd_es (S : Snd n) {es : List Expr} {fs : List Den} (o : XOk C X k) (tk : Takes X W) (h : dEs (n + 1) C es = some fs) : Paired (fun e f => isStar e = false ∧ JE X W e f) es fs := by
  cases es with
  | nil => unfold dEs at h; cases h; exact .nil
  | cons e es =>
    unfold dEs at h
    split at h
    · rename_i hs
      split at h
      · rename_i g gs w1 w2
        cases h
        exact .cons ⟨star_is hs, S.e o tk w1⟩ (S.es o tk w2)
      · cases h
    · cases h
theorem snd_as (S : Snd n) {es : List Expr} {fs : List ADen} (o : XOk C X k) (tk : Takes X W) (h : dAs (n + 1) C es = some fs) : PA X es (tAs X W fs) := by
  cases es with
  | nil => unfold dAs at h; cases h; exact js_nil
  | cons e es =>
    unfold dAs at h
    split at h
    · rename_i hs
      split at h
      · rename_i g gs w1 w2
        cases h
        split at w1
        · split at w1
          · rename_i i w
            cases w1
            obtain ⟨h1, h2, h3, h4⟩ := o.slot w
            exact js_var h1 h2 h3 h4 (S.as o tk w2)
          · obtain ⟨g, e1, e2⟩ := ob w1
            subst e2
            exact js_exp (star_is hs) (S.e o tk e1) (S.as o tk w2)
        · cases w1
          exact js_newd (star_is hs) jd_new (S.as o tk w2)
        · obtain ⟨g, e1, e2⟩ := ob w1
          subst e2
          exact js_exp (star_is hs) (S.e o tk e1) (S.as o tk w2)
      · cases h
    · cases h
/-- a comprehension as a value: its parts -/
theorem lc_parts (S : Snd n) {tg it el : Expr} {ifs : List Expr} {scope : Scope} {l : DenL} {t : Tgt} {f : Den} {tt : DenT} (o : XOk C X k) (tk : Takes X W) (w1 : dIC n C tg it = some l) (w2 : dG n (C.blk scope) tg = some t) (w3 : dE n (C.blk scope) el = some f)
    (w4 : (match ifs with
      | [] => some tYesD
      | [c] => dT n (C.blk scope) c
      | _ => none) = some tt) :
    PI X tg it (tIC X W l) ∧ (∀ (s : Shared) (H : Hp) (A : Addr) (cl : List (Str × Addr)) (fp : List Addr), PG (X.blk s H scope (compEnvC scope cl A X.env) fp) tg (gT X.K t)) ∧
    (∀ (s : Shared) (H : Hp) (A : Addr) (cl : List (Str × Addr)) (fp : List Addr), PTs (X.blk s H scope (compEnvC scope cl A X.env) fp) ifs (tT X W0 tt)) ∧
    (∀ (s : Shared) (H : Hp) (A : Addr) (cl : List (Str × Addr)) (fp : List Addr), PE (X.blk s H scope (compEnvC scope cl A X.env) fp) el (tE X W0 f)) := by
  refine ⟨S.ic o tk w1, fun s H A cl fp => S.g (o.blk scope s H A cl fp) w2, fun s H A cl fp => ?_, fun s H A cl fp => S.e (o.blk scope s H A cl fp) takes0' w3⟩
  split at w4
  · cases w4
    refine ⟨fun pins s σ H Q I q => pts_nil.run pins s σ H Q I ?_⟩
    obtain ⟨B, F, α, rho, h, r, p⟩ := q
    exact post_ok r p
  · exact pts_one (S.t (o.blk scope s H A cl fp) takes0' w4)
  · cases w4
theorem lc_partsR (S : Snd n) {tg el : Expr} {ifs : List Expr} {scope : Scope} {t : Tgt} {f : Den} {tt : DenT} (o : XOk C X k) (w2 : dG n (C.blk scope) tg = some t) (w3 : dE n (C.blk scope) el = some f)
    (w4 : (match ifs with
      | [] => some tYesD
      | [c] => dT n (C.blk scope) c
      | _ => none) = some tt) :
    (∀ (s : Shared) (H : Hp) (A : Addr) (cl : List (Str × Addr)) (fp : List Addr), PG (X.blk s H scope (compEnvC scope cl A X.env) fp) tg (gT X.K t)) ∧
    (∀ (s : Shared) (H : Hp) (A : Addr) (cl : List (Str × Addr)) (fp : List Addr), PTs (X.blk s H scope (compEnvC scope cl A X.env) fp) ifs (tT X W0 tt)) ∧
    (∀ (s : Shared) (H : Hp) (A : Addr) (cl : List (Str × Addr)) (fp : List Addr), PE (X.blk s H scope (compEnvC scope cl A X.env) fp) el (tE X W0 f)) := by
  refine ⟨fun s H A cl fp => S.g (o.blk scope s H A cl fp) w2, fun s H A cl fp => ?_, fun s H A cl fp => S.e (o.blk scope s H A cl fp) takes0' w3⟩
  split at w4
  · cases w4
    refine ⟨fun pins s σ H Q I q => pts_nil.run pins s σ H Q I ?_⟩
    obtain ⟨B, F, α, rho, h, r, p⟩ := q
    exact post_ok r p
  · exact pts_one (S.t (o.blk scope s H A cl fp) takes0' w4)
  · cases w4
theorem shr_ok {e : Expr} {i : Nat} (o : XOk C X k) (h : shrName C e = some i) : ∃ x px, e = .Name x px ∧ X.N[i]? = some x ∧ Vis X.env.scope x ∧ (x == ("__debug__" : Str)) = false ∧ (x == ("__classdict__" : Str)) = false := by
  unfold shrName at h
  split at h
  · rename_i x px
    split at h
    · obtain ⟨h1, h2, h3, h4⟩ := o.slot h
      exact ⟨x, px, rfl, h1, h2, h3, h4⟩
    · cases h
  · cases h
theorem lc_parts1 (S : Snd n) {tg it : Expr} {ifs : List Expr} {scope : Scope} {l : DenL} {t : Tgt} {tt : DenT} (o : XOk C X k) (w1 : dIC n (C.blk scope) tg it = some l) (w2 : dG n (C.blk scope) tg = some t)
    (w4 : (match ifs with
      | [] => some tYesD
      | [c] => dT n (C.blk scope) c
      | _ => none) = some tt) :
    (∀ (s : Shared) (H : Hp) (A : Addr) (cl : List (Str × Addr)) (fp : List Addr), PI (X.blk s H scope (compEnvC scope cl A X.env) fp) tg it (tIC X W0 l)) ∧ (∀ (s : Shared) (H : Hp) (A : Addr) (cl : List (Str × Addr)) (fp : List Addr), PG (X.blk s H scope (compEnvC scope cl A X.env) fp) tg (gT X.K t)) ∧
    (∀ (s : Shared) (H : Hp) (A : Addr) (cl : List (Str × Addr)) (fp : List Addr), PTs (X.blk s H scope (compEnvC scope cl A X.env) fp) ifs (tT X W0 tt)) := by
  refine ⟨fun s H A cl fp => S.ic (o.blk scope s H A cl fp) takes0' w1, fun s H A cl fp => S.g (o.blk scope s H A cl fp) w2, fun s H A cl fp => ?_⟩
  split at w4
  · cases w4
    refine ⟨fun pins s σ H Q I q => pts_nil.run pins s σ H Q I ?_⟩
    obtain ⟨B, F, α, rho, h, r, p⟩ := q
    exact post_ok r p
  · exact pts_one (S.t (o.blk scope s H A cl fp) takes0' w4)
  · cases w4
theorem blk_ok {scope : Scope} (o : XOk C X k) (h : L2.blkC C.N C.sc scope (ownOf C.N scope) = true) : BlkOk X.N X.env.scope scope (ownOf C.N scope) := by
  rw [o.N, o.sc]
  exact blkOk_by h
theorem fold_set' {e : Expr} (h : isSet e = false) (env : Env) : ∀ x, foldedSetIterable e env x = pure x := by
  intro x
  cases e <;> first | rfl | cases h
theorem snd_l (S : Snd n) {e : Expr} {f : DenL} (o : XOk C X k) (tk : Takes X W) (h : dL (n + 1) C e = some f) : JL X W e f := by
  unfold dL at h
  split at h
  · split at h
    · rename_i fs w
      split at h
      · rename_i hl
        cases h
        exact jl_disp (Nat.le_trans hl (by decide)) (pa_of (S.es o tk w))
      · cases h
    · cases h
  · split at h
    · rename_i o1 o2 w1 w2
      cases h
      exact jl_cat (S.o o tk w1) (S.o o tk w2)
    · cases h
  · split at h
    · rename_i o1 l u w1 w2 w3
      cases h
      exact jl_cut (S.o o tk w1) (S.p o tk w2) (S.p o tk w3)
    · cases h
  · obtain ⟨g, e1, e2⟩ := ob h
    subst e2
    exact jl_rev (S.o o tk e1)
  · split at h
    · rename_i hc
      simp only [Bool.and_eq_true, decide_eq_true_eq] at hc
      obtain ⟨b1, b2, b3, b4⟩ := o.blt hc.1.2
      have hn := hc.1.1
      subst hn
      split at h
      · split at h
        · rename_i hc2
          simp only [Bool.and_eq_true, decide_eq_true_eq] at hc2
          obtain ⟨g, e1, e2⟩ := ob h
          subst e2
          obtain ⟨c1, c2, c3, c4⟩ := o.blt hc2.1.2
          have hn := hc2.1.1
          subst hn
          exact jl_listRg o.calm b1 b2 c1 c2 (star_is hc2.2) (S.o o tk e1)
        · obtain ⟨g, e1, e2⟩ := ob h
          subst e2
          exact jl_list o.calm b1 b2 (by decide +kernel) (star_is hc.2) (S.o o tk e1)
      · split at h
        · rename_i hc2
          simp only [Bool.and_eq_true, decide_eq_true_eq] at hc2
          split at h
          · rename_i f1 f2 w1 w2
            cases h
            obtain ⟨c1, c2, c3, c4⟩ := o.blt hc2.1.2
            have hn := hc2.1.1
            subst hn
            have hs' := stars2 hc2.2
            exact jl_listZip o.calm b1 b2 c1 c2 hs'.1 hs'.2 (S.e o tk w1) (S.e o tk w2)
          · cases h
        · obtain ⟨g, e1, e2⟩ := ob h
          subst e2
          exact jl_list o.calm b1 b2 (by decide +kernel) (star_is hc.2) (S.o o tk e1)
      · split at h
        · rename_i hg
          subst hg
          obtain ⟨i, e1, e2⟩ := ob h
          subst e2
          obtain ⟨rc, ri, h1, h2, h3, h4⟩ := o.rmS e1
          exact jl_rowsKeys rc o.calm b1 b2 h1 h2 h3 h4
        · cases h
      · obtain ⟨g, e1, e2⟩ := ob h
        subst e2
        exact jl_list o.calm b1 b2 (by decide +kernel) (star_is hc.2) (S.o o tk e1)
    · split at h
      · rename_i hc
        simp only [Bool.and_eq_true, decide_eq_true_eq] at hc
        obtain ⟨b1, b2, b3, b4⟩ := o.blt hc.1.2
        have hn := hc.1.1
        subst hn
        split at h
        · split at h
          · rename_i hc2
            simp only [Bool.and_eq_true, decide_eq_true_eq] at hc2
            obtain ⟨d1, d2, d3, d4⟩ := o.blt hc2.1.2
            have hn := hc2.1.1
            subst hn
            obtain ⟨g, e1, e2⟩ := ob h
            subst e2
            exact jl_sortSet o.calm (by have := o.room.un; omega) b1 b2 d1 d2 (star_is hc2.2) (S.o o tk e1)
          · obtain ⟨g, e1, e2⟩ := ob h
            subst e2
            exact jl_sorted (by have := o.room.un; omega) b1 b2 (by decide +kernel) (star_is hc.2) (S.o o tk e1)
        · obtain ⟨g, e1, e2⟩ := ob h
          subst e2
          exact jl_sorted (by have := o.room.un; omega) b1 b2 (by decide +kernel) (star_is hc.2) (S.o o tk e1)
      · cases h
  · split at h
    · rename_i hc
      simp only [Bool.and_eq_true, decide_eq_true_eq] at hc
      have hm := hc.1
      subst hm
      obtain ⟨g, e1, e2⟩ := ob h
      subst e2
      exact jl_split (S.o o tk e1) rfl hc.2
    · cases h
  · split at h
    · cases h
    · rename_i hset
      split at h
      · rename_i i wn
        obtain ⟨x, px, rfl, h1, h2, h3, h4⟩ := shr_ok o wn
        split at h
        · rename_i t f' tt w2 w3 w4
          split at h
          · rename_i hc
            simp only [Bool.and_eq_true, List.all_eq_true, decide_eq_true_eq] at hc
            cases h
            obtain ⟨p2, p3, p4⟩ := lc_partsR S o w2 w3 w4
            exact pe_mono (pe_lc o.calm (by rw [o.N]; exact o.nd) (pi_seq (pe_var h1 h2 h3 h4)) (blk_ok o hc.1) p2 p3 p4 (fold_set' (by simpa using hset) _)) fun σ H Q q => t_compRef hc.2 σ H Q q
          · cases h
        · cases h
      · split at h
        · rename_i l t f' tt w1 w2 w3 w4
          split at h
          · rename_i hc
            simp only [Bool.and_eq_true, List.all_eq_true, decide_eq_true_eq] at hc
            cases h
            obtain ⟨p1, p2, p3, p4⟩ := lc_parts S o tk w1 w2 w3 w4
            exact pe_mono (pe_lc o.calm (by rw [o.N]; exact o.nd) p1 (blk_ok o hc.1) p2 p3 p4 (fold_set' (by simpa using hset) _)) fun σ H Q q => t_comp hc.2 σ H Q q
          · cases h
        · cases h
  · split at h
    · cases h
    · rename_i hset
      split at h
      · rename_i l t tt l1 t1 tt1 f' w1 w2 w3 w4 w5 w6 w7
        split at h
        · rename_i hc
          simp only [Bool.and_eq_true, List.all_eq_true, decide_eq_true_eq] at hc
          cases h
          obtain ⟨p1, p2, p3, p4⟩ := lc_parts S o tk w1 w2 w7 w3
          obtain ⟨q1, q2, q3⟩ := lc_parts1 S o w4 w5 w6
          obtain ⟨z1, z2⟩ : isSet _ = false ∧ isSet _ = false := by simpa using hset
          exact pe_mono (pe_lc2 o.calm (by rw [o.N]; exact o.nd) p1 (blk_ok o hc.1.1) hc.2 p2 p3 q1 q2 q3 p4 (fold_set' z1 _) (fun env => fold_set' z2 env)) fun σ H Q q => t_comp2 hc.1.2 (fun i hi => hi) hc.2 σ H Q q
        · cases h
      · cases h
  · cases h
theorem snd_i (S : Snd n) {tg e : Expr} {f : DenL} (o : XOk C X k) (tk : Takes X W) (h : dI (n + 1) C tg e = some f) : JI X W tg e f := by
  unfold dI at h
  split at h
  · split at h
    · rename_i hc
      simp only [Bool.and_eq_true, decide_eq_true_eq] at hc
      obtain ⟨b1, b2, b3, b4⟩ := o.blt hc.1
      have hn := hc.2
      subst hn
      split at h
      · split at h
        · rename_i hs
          obtain ⟨g, e1, e2⟩ := ob h
          subst e2
          exact ji_range b1 b2 (star_is hs) (S.o o tk e1)
        · cases h
      · split at h
        · rename_i hs
          split at h
          · rename_i f1 f2 w1 w2
            cases h
            have hs' := stars2 hs
            exact ji_range2 b1 b2 hs'.1 hs'.2 (S.e o tk w1) (S.e o tk w2)
          · cases h
        · cases h
      · split at h
        · rename_i hs
          obtain ⟨g, e1, e2⟩ := ob h
          subst e2
          exact ji_range3 b1 b2 (stars_are hs) (pa_of (S.es o tk e1))
        · cases h
      · cases h
    · split at h
      · rename_i hc
        simp only [Bool.and_eq_true, decide_eq_true_eq] at hc
        obtain ⟨b1, b2, b3, b4⟩ := o.blt hc.1
        have hn := hc.2
        subst hn
        split at h
        · split at h
          · rename_i hs
            split at h
            · rename_i g1 g2 w1 w2
              cases h
              have hs' := stars_are hs
              simp only [List.all_cons, List.all_nil, Bool.and_true, Bool.and_eq_true, Bool.not_eq_true'] at hs'
              exact ji_zip b1 b2 hs'.1 hs'.2 (S.e o tk w1) (S.e o tk w2)
            · cases h
          · cases h
        · split at h
          · rename_i hs
            split at h
            · rename_i g1 g2 g3 w1 w2 w3
              cases h
              have hs' := stars_are hs
              simp only [List.all_cons, List.all_nil, Bool.and_true, Bool.and_eq_true, Bool.not_eq_true'] at hs'
              exact ji_zip3 b1 b2 hs'.1 hs'.2.1 hs'.2.2 (S.e o tk w1) (S.e o tk w2) (S.e o tk w3)
            · cases h
          · cases h
        · cases h
      · split at h
        · rename_i hc
          simp only [Bool.and_eq_true, decide_eq_true_eq] at hc
          obtain ⟨b1, b2, b3, b4⟩ := o.blt hc.1
          have hn := hc.2
          subst hn
          split at h
          · split at h
            · rename_i hs
              obtain ⟨g, e1, e2⟩ := ob h
              subst e2
              exact ji_enum b1 b2 (star_is hs) (S.e o tk e1)
            · cases h
          · cases h
        · obtain ⟨g, e1, e2⟩ := ob h
          subst e2
          exact ji_of (S.e o tk e1)
  · obtain ⟨g, e1, e2⟩ := ob h
    subst e2
    exact ji_of (S.e o tk e1)
theorem snd_ic (S : Snd n) {tg e : Expr} {f : DenL} (o : XOk C X k) (tk : Takes X W) (h : dIC (n + 1) C tg e = some f) : JIC X W tg e f := by
  unfold dIC at h
  split at h
  · split at h
    · rename_i i w
      cases h
      obtain ⟨h1, h2, h3, h4⟩ := o.slot w
      exact jic_var h1 h2 h3 h4
    · exact jic_of (S.i o tk h)
  · exact jic_of (S.i o tk h)
theorem snd_g (S : Snd n) {e : Expr} {f : Tgt} (o : XOk C X k) (h : dG (n + 1) C e = some f) : JG X e f := by
  unfold dG at h
  split at h
  · obtain ⟨i, e1, e2⟩ := ob h
    subst e2
    obtain ⟨h1, h2, h3, h4⟩ := o.put e1
    exact jg_name h1 h2 h3 h4
  · split at h
    · rename_i hs
      split at h
      · rename_i ts w
        split at h
        · rename_i hl
          cases h
          exact jg_tup o.calm (stars_are hs) hl.symm (gs_of (stars_are hs) (S.gs o w))
        · cases h
      · cases h
    · cases h
  · cases h
theorem snd_gs (S : Snd n) {es : List Expr} {fs : List Tgt} (o : XOk C X k) (h : dGs (n + 1) C es = some fs) : Paired (JG X) es fs := by
  cases es with
  | nil => unfold dGs at h; cases h; exact .nil
  | cons e es =>
    unfold dGs at h
    split at h
    · rename_i g gs w1 w2
      cases h
      exact .cons (S.g o w1) (S.gs o w2)
    · cases h
theorem snd_step (S : Snd n) (S' : ∀ {m : Nat}, m < n → Snd m) : Snd (n + 1) where
  e := fun o tk h => snd_e S o tk h
  o := fun o tk h => snd_o S o tk h
  p := fun o tk h => snd_p S o tk h
  t := fun o tk h => snd_t S S' o tk h
  ts := fun o tk h => snd_ts S o tk h
  es := fun o tk h => snd_es S o tk h
  as := fun o tk h => snd_as S o tk h
  l := fun o tk h => snd_l S o tk h
  re := fun o tk h => snd_re S o tk h
  ra := fun o tk h => snd_ra S o tk h
  ro := fun o tk h => snd_ro S o tk h
  rt := fun o tk h => snd_rt S o tk h
  i := fun o tk h => snd_i S o tk h
  ic := fun o tk h => snd_ic S o tk h
  g := fun o h => snd_g S o h
  gs := fun o h => snd_gs S o h
theorem snd_zero : Snd 0 where
  e := fun o tk h => by unfold dE at h; cases h
  o := fun o tk h => by unfold dO at h; cases h
  p := fun o tk h => by unfold dP at h; cases h
  t := fun o tk h => by unfold dT at h; cases h
  ts := fun o tk h => by unfold dTs at h; cases h
  es := fun o tk h => by unfold dEs at h; cases h
  as := fun o tk h => by unfold dAs at h; cases h
  l := fun o tk h => by unfold dL at h; cases h
  re := fun o tk h => by unfold rmE at h; cases h
  ra := fun o tk h => by unfold rmA at h; cases h
  ro := fun o tk h => by unfold rmO at h; cases h
  rt := fun o tk h => by unfold rmT at h; cases h
  i := fun o tk h => by unfold dI at h; cases h
  ic := fun o tk h => by unfold dIC at h; cases h
  g := fun o h => by unfold dG at h; cases h
  gs := fun o h => by unfold dGs at h; cases h
theorem snd_all : ∀ n m : Nat, m ≤ n → Snd m
  | 0, m, h => by
    have : m = 0 := by omega
    subst this
    exact snd_zero
  | n + 1, m, h => by
    by_cases hm : m ≤ n
    · exact snd_all n m hm
    · have : m = n + 1 := by omega
      subst this
      exact snd_step (snd_all n n (Nat.le_refl n)) fun {m} hm => snd_all n m (Nat.le_of_lt hm)
theorem snd (n : Nat) : Snd n := snd_all n n (Nat.le_refl n)
end
end Ev
/-! # Ev19: statements, from the text -/
namespace Ev
open PySem
def bkOf (sc : Scope) : ScopeKind := if sc.kind.isAnnotationScope then .function else sc.kind
/-- whether a comprehension's value is stored within its frame -/
def swB (value : Expr) (x : Str) (py : Pos) (sc : Scope) : Bool := match (match value with
    | .ListComp _ _ s _ => some s
    | .SetComp _ _ s _ => some s
    | .DictComp _ _ _ s _ => some s
    | _ => none) with
  | some scope => bkOf sc == .function && sc.names.lookup x == some .local && py.line == value.pos.line && !(scope.names.any fun (n, k) => n == x && (k == .local || k == .cell))
  | none => false
def nmOf (sc : Scope) (line : Nat) : Expr → Option Str
  | .Name id pos => if sc.names.lookup id == some .local && pos.line == line then some id else none
  | _ => none
def starB : Expr → Bool
  | .Starred .. => true
  | _ => false
/-- the names that are stored from the right, if so; none: not served -/
def swS (ts vs : List Expr) (sc : Scope) : Option (Option (List Str)) :=
  if !(ts.length == 2 || ts.length == 3) || vs.length != ts.length || bkOf sc != .function then some none
  else if vs.any starB then some none
  else if ((ts.filterMap (nmOf sc ((ts.head?.map (·.pos.line)).getD 0))).length != ts.length || (ts.filterMap (nmOf sc ((ts.head?.map (·.pos.line)).getD 0))).eraseDups.length != (ts.filterMap (nmOf sc ((ts.head?.map (·.pos.line)).getD 0))).length) then some none
  else if vs.all (foldedForSure 8) then some none
  else if vs.all (constantsAlone 8) then none
  else some (some (ts.filterMap (nmOf sc ((ts.head?.map (·.pos.line)).getD 0))))
/-! names that are given away -/
def borrows (f : Str) : Bool := (["len", "all", "any", "int", "tuple", "min", "max", "list", "isinstance", "sum", "sorted", "set", "str"] : List Str).contains f
mutual
def vnE : Nat → Expr → List Str
  | 0, _ => []
  | n + 1, e => match e with
    | .Name x _ => [x]
    | .BinOp a _ b _ => vnO n a ++ vnO n b
    | .UnaryOp _ a _ => vnO n a
    | .BoolOp _ vs _ => vnEs n vs
    | .Compare a _ cs _ => vnO n a ++ vnOs n cs
    | .IfExp c a b _ => vnE n c ++ vnE n a ++ vnE n b
    | .Tuple es _ _ => vnEs n es
    | .List es _ => vnEs n es
    | .Subscript a b _ => vnO n a ++ vnO n b
    | .Slice lo hi st _ => vnP n lo ++ vnP n hi ++ vnP n st
    | .Dict _ vs _ => vnEs n vs
    | .Call (.Name f _) as _ _ => if borrows f then vnOs n as else vnEs n as
    | .Call (.Attribute o _ _) as _ _ => vnO n o ++ vnEs n as
    | .ListComp el gs _ _ => vnE n el ++ vnG n gs
    | _ => []
def vnO : Nat → Expr → List Str
  | 0, _ => []
  | n + 1, e => match e with
    | .Name _ _ => []
    | _ => vnE n e
def vnEs : Nat → List Expr → List Str
  | 0, _ => []
  | _ + 1, [] => []
  | n + 1, e :: es => vnE n e ++ vnEs n es
def vnOs : Nat → List Expr → List Str
  | 0, _ => []
  | _ + 1, [] => []
  | n + 1, e :: es => vnO n e ++ vnOs n es
def vnP : Nat → Option Expr → List Str
  | 0, _ => []
  | _ + 1, none => []
  | n + 1, some e => vnE n e
def vnG : Nat → List Comprehension → List Str
  | 0, _ => []
  | _ + 1, [] => []
  | n + 1, ⟨_, it, ifs, _⟩ :: r => vnO n it ++ vnEs n ifs ++ vnG n r
end
def frzOf (C : Ct) (xs : List Str) : List Nat := ((xs.filter fun x => decide (x ∈ C.mu)).filterMap C.slot).eraseDups
def vnA (C : Ct) (x : Str) (n : Nat) (e : Expr) : List Str := vnE n e ++ (C.fz.filter fun q => decide (q.1 = x)).map (·.2)
def withF (is : List Nat) (m : DenS) : DenS := match is with
  | [] => m
  | _ => sSeq (sFrz is) m
/-- expressions that make a new dict -/
def dD (n : Nat) (C : Ct) : Expr → Option DenD
  | .Dict [] [] _ => some kNew
  | .Dict [some k] [v] _ => (match dE n C k, dE n C v with
    | some f, some g => some (kNew1 f g)
    | _, _ => none)
  | _ => none
def dPar (n : Nat) (C : Ct) : List Expr → List Expr → Option (List Nat × List PCo)
  | [], [] => some ([], [])
  | .Name x _ :: ts, e :: es => (match C.put x, dPar n C ts es with
    | some i, some (is, cs) => if noStars [e] then (if C.room && decide (x ∈ C.rms) then (rmO n C e).map fun f => (i :: is, .obj f :: cs) else if decide (x ∈ C.shr) then (dL n C e).map fun l => (i :: is, .shr l :: cs) else if decide (x ∈ C.mu) then (match dL n C e with
        | some l => some (i :: is, .own l :: cs)
        | none => (match dD n C e with
          | some l => some (i :: is, .dic l :: cs)
          | none => (dE n C e).map fun f => (i :: is, .val f :: cs))) else (dE n C e).map fun f => (i :: is, .val f :: cs)) else none
    | _, _ => none)
  | _, _ => none
/-- targets, some of them items of dicts -/
def dTg (n : Nat) (C : Ct) : List Expr → Option (List PTg)
  | [] => some []
  | .Name x _ :: ts => if decide (x ∈ C.mu) || decide (x ∈ C.shr) || decide (x ∈ C.rf) then none else (match C.put x, dTg n C ts with
    | some i, some r => some (.nm i :: r)
    | _, _ => none)
  | .Subscript (.Name x _) kx _ :: ts => if plainIxB kx then (match C.slot x, dE n C kx, dTg n C ts with
    | some i, some f, some r => some (.sub i f :: r)
    | _, _, _ => none) else none
  | _ :: _ => none
def vnTg (n : Nat) : List Expr → List Str
  | [] => []
  | .Subscript _ kx _ :: ts => vnE n kx ++ vnTg n ts
  | _ :: ts => vnTg n ts
/-! lists of lists that change -/
def rfName (C : Ct) : Expr → Option Nat
  | .Name x _ => if decide (x ∈ C.rf) then C.slot x else none
  | _ => none
def rfNil (C : Ct) : Expr → Option Nat
  | .Compare (.Name x _) [.Eq] [.List [] _] _ => if decide (x ∈ C.rf) then C.slot x else none
  | _ => none
/-- x = [], x = [y for y in z if c] -/
def dRf (n : Nat) (C : Ct) (x : Str) (px : Pos) (i : Nat) : Expr → Option DenS
  | .List [] _ => some (sRefs0 i)
  | .ListComp (.Name y py) [⟨.Name y' py', .Name z pz, [c], 0⟩] scope p => if decide (z ∈ C.rf) && swB (.ListComp (.Name y py) [⟨.Name y' py', .Name z pz, [c], 0⟩] scope p) x px C.sc && L2.blkC C.N C.sc scope (ownOf C.N scope) then (match C.slot z, (C.blk scope).slot y, (C.blk scope).put y', dT n (C.blk scope) c with
    | some j, some v, some v', some tt => if decide (v = v') && decide (v ∈ (ownOf C.N scope).map (·.2)) then some (withF (frzOf C (vnE n c)) (sPick i j v ((ownOf C.N scope).map (·.2)) tt)) else none
    | _, _, _, _ => none) else none
  | _ => none
/-- x = [k for k, y in enumerate(z) if c] -/
def dRfE (n : Nat) (C : Ct) (x : Str) (px : Pos) (i : Nat) : Expr → Option DenS
  | .ListComp (.Name k pk) [⟨.Tuple [.Name k' pk', .Name y py] tk tp, .Call (.Name f pf) [.Name z pz] [] pc, [c], 0⟩] scope p => if decide (z ∈ C.rf) && decide (f = "enumerate") && C.blt f && swB (.ListComp (.Name k pk) [⟨.Tuple [.Name k' pk', .Name y py] tk tp, .Call (.Name f pf) [.Name z pz] [] pc, [c], 0⟩] scope p) x px C.sc && L2.blkC C.N C.sc scope (ownOf C.N scope) then (match C.slot z, (C.blk scope).slot k, (C.blk scope).put k', (C.blk scope).put y, dT n (C.blk scope) c with
    | some j, some kk, some k2, some v, some tt => if decide (kk = k2) && decide (kk ≠ v) && decide (kk ∈ (ownOf C.N scope).map (·.2)) && decide (v ∈ (ownOf C.N scope).map (·.2)) then some (withF (frzOf C (vnE n c)) (sPickE i j kk v ((ownOf C.N scope).map (·.2)) tt)) else none
    | _, _, _, _, _ => none) else none
  | _ => none
/-- a suite of one statement -/
def dSu : Stmt → Option DenS
  | .Return (some (.Constant c _ _)) _ => (dConst c).map sRet
  | .Pass _ => some sNop
  | _ => none
/-- x = [f, g, ..], then return x[e](..) -/
def dSel2 (n : Nat) (C : Ct) : Stmt → List Stmt → Option DenS
  | .Assign [.Name x _] (.List fes _) _, [.Return (some (.Call (.Subscript (.Name y _) ix _) as [] _)) _] => if decide (x = y) && noStars as && !as.isEmpty && plainIxB ix then (match C.put x, C.slot x, dFn C fes, dE n C ix, dAs n C as with
    | some i, some _, some ms, some fi, some ds => if ms.length ≤ 1000 then some (sSel i (dSel ms fi ds)) else none
    | _, _, _, _, _ => none) else none
  | _, _ => none
/-! what changes a classroom -/
def rmS (n : Nat) (C : Ct) : Stmt → Option DenS
  | .Expr (.Call (.Attribute (.Attribute (.Name x _) f _) m apos) [.Call (.Name d _) [.Attribute (.Name y _) g _] [] _] [] cpos) _ => if f = "past" && m = "append" && apos.endLine == cpos.line && d = "dict" && C.blt d && g = "rows" && decide (x = y) then (C.rm x).map sPastPush else none
  | .Expr (.Call (.Attribute (.Attribute (.Name x _) f _) m apos) [.Name y _] [] cpos) _ => if f = "calls" && m = "append" && apos.endLine == cpos.line then (match C.rm x, C.slot y with
      | some i, some j => some (sCallPush i j)
      | _, _ => none) else none
  | .Expr (.Call (.Attribute (.Name x px) m apos) as kws cpos) _ => if (C.rm x).isSome then (dE n C (.Call (.Attribute (.Name x px) m apos) as kws cpos)).map fun g => withF (frzOf C (vnE n (.Call (.Attribute (.Name x px) m apos) as kws cpos))) (sExpr g) else none
  | .Assign [.Subscript (.Attribute (.Name x _) f _) (.Name y _) _] (.Name z _) _ => if f = "rows" then (match C.rm x, C.slot y, C.slot z with
      | some i, some j, some k => some (sRowPut i j k)
      | _, _, _ => none) else none
  | .Assign [.Attribute (.Name x _) f _] (.Call (.Attribute (.Attribute (.Name y _) g _) m apos) [] [] cpos) _ => if f = "rows" && g = "past" && m = "pop" && apos.endLine == cpos.line && decide (x = y) then (C.rm x).map sRowsPop else none
  | .Assign [.Attribute (.Name y _) f _] (.Call (.Name d _) [.Attribute (.Name x _) g _] [] _) _ => if f = "rows" && d = "dict" && C.blt d && g = "rows" then (match C.rm y, C.rm x with
      | some j, some i => some (sRowsCopy j i)
      | _, _ => none) else none
  | .Assign [.Name x px] (.Call fe as kws cp) _ => if C.room && decide (x ∈ C.rms) then (match C.put x, rmO n C (.Call fe as kws cp) with
      | some i, some f => some (withF (frzOf C (vnE n (.Call fe as kws cp))) (sAsgO i f))
      | _, _ => none) else none
  | .Return (some (.Name x _)) _ => (C.rm x).map sRetO
  | _ => none
/-- what __init__ stores -/
def rmInit (C : Ct) : Stmt → List Stmt → Option (DenS × List Stmt)
  | .Assign [.Attribute (.Name x1 _) f1 _] (.Name y _) _, .Assign [.Attribute (.Name x2 _) f2 _] (.Dict [] [] _) _ :: .Assign [.Attribute (.Name x3 _) f3 _] (.List [] _) _ :: .Assign [.Attribute (.Name x4 _) f4 _] (.List [] _) _ :: rest => if f1 = "school" && f2 = "rows" && f3 = "past" && f4 = "calls" && decide (x1 = x2) && decide (x1 = x3) && decide (x1 = x4) then (match C.rm x1, C.slot y with
      | some i, some j => some (sInit i j, rest)
      | _, _ => none) else none
  | _, _ => none
mutual
def dS : Nat → Ct → Stmt → Option DenS
  | 0, _, _ => none
  | n + 1, C, st => match rmS n C st with
   | some m => some m
   | none => match st with
    | .Return (some e) _ => (match rfName C e with
      | some i => some (sRetR i)
      | none => (dE n C e).map fun f => withF (frzOf C (vnE n e)) (sRet f))
    | .If c a b _ => (match rfNil C c with
      | some i => (match dSs n C a, dSs n C b with
        | some f, some g => some (sIfNil i f g)
        | _, _ => none)
      | none => (match dT n C c, dSs n C a, dSs n C b with
        | some t, some f, some g => some (withF (frzOf C (vnE n c)) (sIf t f g))
        | _, _, _ => none))
    | .Expr (.Call (.Attribute (.Name x px) meth apos) [a] [] cpos) p => if meth = "append" && apos.endLine == cpos.line && noStars [a] then (if decide (x ∈ C.rf) then (match C.slot x, dL n C a with
        | some i, some l => some (withF (frzOf C (vnE n a)) (sAppR i l))
        | _, _ => none) else (match C.slot x, dE n C a with
        | some i, some f => some (withF (frzOf C (vnE n a)) (sAppend i f))
        | _, _ => none))
      else if meth = "extend" && apos.endLine == cpos.line && noStars [a] then (match C.slot x, dO n C a with
        | some i, some o => some (withF (frzOf C (vnO n a)) (sExtend i o))
        | _, _ => none)
      else if meth = "pop" && apos.endLine == cpos.line && noStars [a] then (match C.slot x, dE n C a with
        | some i, some f => some (withF (frzOf C (vnE n a)) (if decide (x ∈ C.shr) then sPopAtR i f else sPopAt i f))
        | _, _ => none) else none
    | .Expr (.Call (.Attribute (.Subscript (.Name x px) k p2) meth apos) [a] [] cpos) _ => if meth = "append" && apos.endLine == cpos.line && noStars [a] && plainIxB k && decide (x ∈ C.rf) then (match C.slot x, dE n C k, dE n C a with
        | some i, some g, some f => some (withF (frzOf C (vnE n a ++ vnE n k)) (sAppIn i g f))
        | _, _, _ => none) else none
    | .Expr (.Call (.Name f pf) as [] pc) _ => (dE n C (.Call (.Name f pf) as [] pc)).map fun g => withF (frzOf C (vnE n (.Call (.Name f pf) as [] pc))) (sExpr g)
    | .Assign [.Name x px] e p => (match C.put x with
      | some i => if decide (x ∈ C.rf) then dRf n C x px i e else (match dRfE n C x px i e with
        | some m => some m
        | none => if swB e x px C.sc then (dL n C e).map (fun l => withF (frzOf C (vnA C x n e)) (if decide (x ∈ C.shr) then sShare i l else if decide (x ∈ C.mu) then sOwn i l else sAsg (.name i) (ofL l))) else if decide (x ∈ C.shr) then (match dD n C e with
          | some l => some (withF (frzOf C (vnA C x n e)) (sShareD i l))
          | none => (dL n C e).map fun l => withF (frzOf C (vnA C x n e)) (sShare i l)) else if decide (x ∈ C.mu) then (match dL n C e with
          | some l => some (withF (frzOf C (vnA C x n e)) (sOwn i l))
          | none => (match dD n C e with
            | some l => some (withF (frzOf C (vnA C x n e)) (sOwnD i l))
            | none => (dE n C e).map fun f => withF (frzOf C (vnA C x n e)) (sAsg (.name i) f))) else (dE n C e).map fun f => withF (frzOf C (vnA C x n e)) (sAsg (.name i) f))
      | none => none)
    | .Assign [.Tuple ts k tp] (.Tuple es k2 vp) p => if noStars ts && noStars es then (match swS ts es C.sc, dPar n C ts es with
      | some none, some (is, cs) => if is.length ≤ 1000 then some (withF (frzOf C (vnE n (.Tuple es k2 vp))) (sPar is cs)) else none
      | some (some xs), some (is, cs) => (match ts, is, xs with
        | [.Name x _, .Name y _], [i, j], [x', y'] => if decide (x = x') && decide (y = y') && decide (i ≠ j) && isLoc C.sc x && isLoc C.sc y then some (withF (frzOf C (vnE n (.Tuple es k2 vp))) (sPar [i, j] cs)) else none
        | [.Name x _, .Name y _, .Name z _], [i, j, l], [x', y', z'] => if decide (x = x') && decide (y = y') && decide (z = z') && decide (i ≠ j) && decide (i ≠ l) && decide (j ≠ l) && isLoc C.sc x && isLoc C.sc y && isLoc C.sc z then some (withF (frzOf C (vnE n (.Tuple es k2 vp))) (sPar [i, j, l] cs)) else none
        | _, _, _ => none)
      | some none, none => (match dTg n C ts, dEs n C es with
        | some tgs, some fs => if decide (ts.length = fs.length) && decide (fs.length ≤ 1000) then some (withF (frzOf C (vnE n (.Tuple es k2 vp) ++ vnTg n ts)) (sParX tgs fs)) else none
        | _, _ => none)
      | _, _ => none) else none
    | .Assign [.Tuple ts k tp] e p => (match e with
      | .SetComp .. => none
      | .DictComp .. => none
      | _ => (match dG n C (.Tuple ts k tp), dE n C e with
        | some t, some f => some (withF (frzOf C (vnE n e)) (sAsg t f))
        | _, _ => none))
    | .Assign [.Subscript (.Name x _) kx _] e _ => if plainIxB kx then (match C.slot x, dE n C kx, dE n C e with
      | some i, some f, some g => some (withF (frzOf C (vnE n e ++ vnE n kx)) (sPutD i f g))
      | _, _, _ => none) else none
    | .For tg it body [] _ => if isSet it then none else (match shrName C it with
      | some i => (match dG n C tg, dSs n C body with
        | some t, some b => some (sForRef i t b)
        | _, _ => none)
      | none => (match dI n C tg it, dG n C tg, dSs n C body with
        | some l, some t, some b => some (withF (frzOf C (vnE n it)) (sFor l t b))
        | _, _, _ => none))
    | .While c body [] _ => (match dT n C c, dSs n C body with
      | some t, some b => some (withF (frzOf C (vnE n c)) (sWhile t b whileN))
      | _, _ => none)
    | .Raise (some (.Call (.Name c _) [.Constant (.str _) _ _] [] _)) none _ => if glB C.sc c && nameOk c && decide (c ∈ C.ex) then some (sRaise c) else none
    | .Try body [.ExceptHandler (some (.Name x _)) (some y) [.Return (some (.Call (.Name f _) [.Name y' _] [] _)) _] _] [] [] _ => (match C.wh, C.cat.lookup x, C.slot y, dSs n C body with
      | some q, some cs, some i, some b => if decide (f = q.1) && decide (cs = q.2) && decide (y = y') && glB C.sc x && nameOk x && glB C.sc f && nameOk f && isLoc C.sc y then some (sTryW i cs b) else none
      | _, _, _, _ => none)
    | .Try body [.ExceptHandler (some (.Name x _)) none [st] _] [] [] _ => (match C.cat.lookup x, dSu st, dSs n C body with
      | some cs, some g, some b => if glB C.sc x && nameOk x then some (sTryC cs b g) else none
      | _, _, _ => none)
    | .Pass _ => some sNop
    | .Continue _ => some sCont
    | _ => none
def dSs : Nat → Ct → List Stmt → Option DenS
  | 0, _, _ => none
  | _ + 1, _, [] => some sNop
  | n + 1, C, st :: r => match rmInit C st r with
   | some q => (dSs n C q.2).map fun b => sSeq q.1 b
   | none => (match r with
    | [] => (match dS n C st with
      | some a => some a
      | none => some sBad)
    | _ => (match dSel2 n C st r with
      | some m => some m
      | none => (match dS n C st, dSs n C r with
        | some a, some b => some (sSeq a b)
        | none, some b => some (sSeq sBad b)
        | _, none => none)))
end
end Ev
/-! # Ev20: the plain meaning of statements is their meaning -/
namespace Ev
open PySem PySem.Spec PyProof.Rows L2
structure XOkS (C : Ct) (X : Cx) (k : Nat) : Prop where
  x : XOk C X k
  kind : C.sc.kind = .function
  pass : PassesOwn (model X.prog X.w) X.A X.env X.xe
  stk : X.stack = X.env :: X.outer
  frm : X.env.frame = some X.env.locals
theorem XOkS.tr {C : Ct} {X : Cx} {k : Nat} {pn : List (Addr × Obj)} {xe : Value → Shared → Prop} (o : XOkS C X k) (hp : PassesOwn (model X.prog X.w) X.A X.env xe) : XOkS C (X.tr pn xe) k where
  x := ⟨o.x.N, o.x.nd, o.x.sc, o.x.fn, o.x.calm, o.x.room, fun x m e => ⟨(o.x.fns x m e).1, (o.x.fns x m e).2⟩, fun x q e => ⟨(o.x.fnk x q e).1, (o.x.fnk x q e).2⟩, o.x.cs, fun x h => by
    obtain ⟨A, q⟩ := o.x.ex x h
    exact ⟨A, q.g, q.ex, q.kp, q.sub, q.ty⟩, o.x.bl, fun q e => ⟨(o.x.wh q e).ex, (o.x.wh q e).cl⟩, fun x cs e => o.x.cat x cs e, o.x.dcs, o.x.rm, o.x.ini, o.x.mts, o.x.mtk, o.x.mto, o.x.own⟩
  kind := o.kind
  pass := hp
  stk := o.stk
  frm := o.frm
theorem su_ok {X : Cx} {W : WX} {st : Stmt} {m : DenS} (h : dSu st = some m) : JSs X W [st] m := by
  unfold dSu at h
  split at h
  · cases e : dConst _ with
    | none => rw [e] at h; cases h
    | some f =>
      rw [e] at h
      cases h
      exact js_one (js_ret (je_const e))
  · cases h; exact js_one js_pass
  · cases h
section
variable {X : Cx} {W : WX} {C : Ct} {k n : Nat}
theorem js_withF {st : Stmt} {is : List Nat} {m : DenS} (h : JS X W st m) : JS X W st (withF is m) := by
  cases is with
  | nil => exact h
  | cons i is => exact js_frz h
theorem XOkS.bk (o : XOkS C X k) : X.env.blockKind = bkOf C.sc := by
  unfold Env.blockKind bkOf
  rw [o.x.sc]
theorem sw_eq (o : XOkS C X k) {e : Expr} {x : Str} {px : Pos} {l : Nat} : swapsWith e (some (.Name x px)) l X.env = pure (swB e x px C.sc) := by
  have hb := o.bk
  have hs := o.x.sc
  unfold swB
  unfold swapsWith
  cases e with
  | ListComp a b c d =>
    simp only
    unfold Env.kindOf
    rw [hb, hs]
  | SetComp a b c d =>
    simp only
    unfold Env.kindOf
    rw [hb, hs]
  | DictComp a b c d f =>
    simp only
    unfold Env.kindOf
    rw [hb, hs]
  | _ => rfl
/-- a store of a new list -/
theorem js_own' {st : Stmt} {i : Nat} {l : DenL} (h : PS X st (tAsg (tL X W l) (gName i))) : JS X W st (sOwn i l) := by
  refine ps_mono h fun E σ H ⟨B, F, α, rho, h, r, p⟩ => ⟨B, F, α, rho, h, r, ?_⟩
  exact post_imp (postS_of p) fun ds F1 α1 H1 s1 ⟨h1, r1, p1⟩ q vs fr hq hv => p1 _ F1 α1 H1 same_refl (r1.setOwn fr hq hv)
theorem js_share' {st : Stmt} {i : Nat} {l : DenL} (h : PS X st (tAsg (tL X W l) (gName i))) : JS X W st (sShare i l) := by
  refine ps_mono h fun E σ H ⟨B, F, α, rho, h, r, p⟩ => ⟨B, F, α, rho, h, r, ?_⟩
  exact post_imp (postS_of p) fun ds F1 α1 H1 s1 ⟨h1, r1, p1⟩ q vs fr hq hv => p1 _ F1 (α1 ++ [q]) H1 same_refl (r1.setShare fr hq hv)
theorem js_asgL' {st : Stmt} {i : Nat} {l : DenL} (h : PS X st (tAsg (tL X W l) (gName i))) : JS X W st (sAsg (.name i) (ofL l)) := by
  refine ps_mono h fun E σ H ⟨B, F, α, rho, h, r, p⟩ => ⟨B, F, α, rho, h, r, ?_⟩
  refine post_imp (post_bind' (postS_of p)) fun ds F1 α1 H1 s1 ⟨h1, r1, p1⟩ q vs fr hq hv => ?_
  have m : Same F1 (upd F1 q (.lst vs)) := same_upd fr.f
  have rf := r1.freeze fr hq
  obtain ⟨h2, r2, p2⟩ := p1 _ _ _ m rf
  exact p2 _ _ _ H1 same_refl (r2.setVal (.lst (.inl upd_same) (rpAll_mono m hv.all) hv.le))
theorem sws_ok (o : XOkS C X k) {ts vs : List Expr} {k1 k2 : Nat} {p1 p2 : Pos} {r : Option (List Str)} (h : swS ts vs C.sc = some r) : swappedStores [.Tuple ts k1 p1] (.Tuple vs k2 p2) X.env = pure r := by
  have hb := o.bk
  have hs := o.x.sc
  have hA : ∀ f : Expr → Bool, (∀ e, f e = starB e) → vs.any f = vs.any starB := fun f h => by rw [funext h]
  have hB : ∀ g : Expr → Option Str, (∀ e, g e = nmOf C.sc ((ts.head?.map (·.pos.line)).getD 0) e) → ts.filterMap g = ts.filterMap (nmOf C.sc ((ts.head?.map (·.pos.line)).getD 0)) := fun g h => by rw [funext h]
  unfold swS at h
  unfold swappedStores
  dsimp only
  rw [hA _ (fun e => by cases e <;> rfl), hB _ (fun e => by cases e <;> first | rfl | (unfold nmOf Env.kindOf; rw [hs])), hb]
  split at h
  · rename_i c
    cases h
    rw [if_pos c]
  · rename_i c
    rw [if_neg c]
    split at h
    · rename_i c2
      cases h
      simp [c2]
    · rename_i c2
      split at h
      · rename_i c3
        cases h
        simp [c2, c3]
      · rename_i c3
        split at h
        · rename_i c4
          cases h
          simp [c2, c3, c4]
        · rename_i c4
          split at h
          · cases h
          · rename_i c5
            cases h
            simp [c2, c3, c4, c5]
theorem asg_sub {x : Str} {px tpos : Pos} {kx : Expr} {env : Env} (h : plainIxB kx = true) : ∀ v, assign (.Subscript (.Name x px) kx tpos) env v = (do
      let ov ← holding [v] (eval (.Name x px) env)
      let iv ← holding [v, ov] (eval kx env)
      standAt tpos
      holding [v, ov, iv] (setItem ov iv v)
      release [v, ov, iv] []) := by
  intro v
  cases kx <;> first | rfl | cases h
theorem sw_sub (e a b : Expr) (p : Pos) (l : Nat) (env : Env) : swapsWith e (some (.Subscript a b p)) l env = pure false := by
  unfold swapsWith
  cases e <;> rfl
theorem js_ownD {i : Nat} {x : Str} {e : Expr} {pos pos' : Pos} {l : DenD} (hN : X.N.Nodup) (hi : X.N[i]? = some x) (hx : Loc X.env.scope x) (he : JD X W e l) (hs : swapsWith e (some (.Name x pos')) pos.line X.env = pure false) (hf : X.fn x = true ∨ X.env.scope.names.lookup x = some .local) :
    JS X W (.Assign [.Name x pos'] e pos) (sOwnD i l) := by
  refine ps_mono (ps_set hN hi hx he hs hf) fun E σ H ⟨B, F, α, rho, h, r, p⟩ => ⟨B, F, α, rho, h, r, ?_⟩
  exact post_imp (postS_of p) fun ds F1 α1 H1 s1 ⟨h1, r1, p1⟩ q ob xs fr hq hk hv => p1 _ F1 α1 H1 same_refl (r1.setOwnD fr hq hk hv)
theorem dd_ok {e : Expr} {l : DenD} (o : XOk C X k) (tk : Takes X W) (h : dD n C e = some l) : JD X W e l := by
  unfold dD at h
  split at h
  · cases h; exact jd_new
  · split at h
    · rename_i f g w1 w2
      cases h
      exact jd_new1 (by have := o.room.un; omega) ((snd n).e o tk w1) ((snd n).e o tk w2)
    · cases h
  · cases h
theorem par_ok (o : XOkS C X k) (tk : Takes X W) : ∀ {ts es : List Expr} {is : List Nat} {cs : List PCo}, dPar n C ts es = some (is, cs) → PA X es (tP X W cs) ∧ PGs X ts (gNs is) ∧ ts.length = is.length
  | [], [], is, cs, h => by
    unfold dPar at h
    cases h
    exact ⟨jp_nil, pgs_nil, rfl⟩
  | [], _ :: _, is, cs, h => by unfold dPar at h; cases h
  | t :: ts, [], is, cs, h => by
    unfold dPar at h
    cases t <;> cases h
  | t :: ts, e :: es, is, cs, h => by
    unfold dPar at h
    split at h
    · rename_i w0 _; cases w0
    · rename_i x px ts' e' es' w0 w00
      cases w0
      cases w00
      split at h
      · rename_i i is' cs' w1 w2
        obtain ⟨h1, h2, h3⟩ := par_ok o tk w2
        obtain ⟨q1, q2, q3, q4⟩ := o.x.put w1
        have hg : PGs X (.Name x px :: ts) (gNs (i :: is')) := pgs_cons (pg_name q1 q2 q3 q4) h2 (by rw [each_cons rfl]; rfl)
        split at h
        · rename_i hs
          have hst := star_is hs
          split at h
          · obtain ⟨l, e1, e2⟩ := ob h
            cases e2
            exact ⟨jp_obj hst ((snd n).ro o.x tk e1) h1, hg, by rw [List.length_cons, List.length_cons, h3]⟩
          split at h
          · obtain ⟨l, e1, e2⟩ := ob h
            cases e2
            exact ⟨jp_shr hst ((snd n).l o.x tk e1) h1, hg, by rw [List.length_cons, List.length_cons, h3]⟩
          · split at h
            · split at h
              · rename_i l e1
                cases h
                exact ⟨jp_own hst ((snd n).l o.x tk e1) h1, hg, by rw [List.length_cons, List.length_cons, h3]⟩
              · split at h
                · rename_i l e1
                  cases h
                  exact ⟨jp_dic hst (dd_ok o.x tk e1) h1, hg, by rw [List.length_cons, List.length_cons, h3]⟩
                · obtain ⟨l, e1, e2⟩ := ob h
                  cases e2
                  exact ⟨jp_val hst ((snd n).e o.x tk e1) h1, hg, by rw [List.length_cons, List.length_cons, h3]⟩
            · obtain ⟨l, e1, e2⟩ := ob h
              cases e2
              exact ⟨jp_val hst ((snd n).e o.x tk e1) h1, hg, by rw [List.length_cons, List.length_cons, h3]⟩
        · cases h
      · cases h
    · cases h
theorem par_put {x : Str} {px : Pos} {ts es : List Expr} {e : Expr} {i : Nat} {is : List Nat} {cs : List PCo} (h : dPar n C (.Name x px :: ts) (e :: es) = some (i :: is, cs)) : C.put x = some i ∧ ∃ cs', dPar n C ts es = some (is, cs') := by
  unfold dPar at h
  split at h
  · rename_i i' is' cs' w1 w2
    split at h
    · split at h
      · obtain ⟨l, e1, e2⟩ := ob h
        cases e2
        exact ⟨w1, _, w2⟩
      split at h
      · obtain ⟨l, e1, e2⟩ := ob h
        cases e2
        exact ⟨w1, _, w2⟩
      · split at h
        · split at h
          · cases h
            exact ⟨w1, _, w2⟩
          · split at h
            · cases h
              exact ⟨w1, _, w2⟩
            · obtain ⟨l, e1, e2⟩ := ob h
              cases e2
              exact ⟨w1, _, w2⟩
        · obtain ⟨l, e1, e2⟩ := ob h
          cases e2
          exact ⟨w1, _, w2⟩
    · cases h
  · cases h
theorem isLoc_of {x : Str} (o : XOkS C X k) (h : isLoc C.sc x = true) : X.env.scope.names.lookup x = some .local := by
  rw [o.x.sc]
  unfold isLoc at h
  split at h
  · assumption
  · cases h
theorem tup_sole {ts : List Expr} {e : Expr} {k1 : Nat} {p1 : Pos} {l : Nat} (env : Env) : swapsWithSole [.Tuple ts k1 p1] e l env = pure false := by
  show swapsWith e (some (.Tuple ts k1 p1)) l env = pure false
  unfold swapsWith
  cases e <;> rfl
end
end Ev
/-! # Ev21: statements, the induction -/
namespace Ev
open PySem PySem.Spec PyProof.Rows L2
structure SndS (n : Nat) : Prop where
  s : ∀ {C : Ct} {X : Cx} {k : Nat} {W : WX} {st : Stmt} {m : DenS}, XOkS C X k → Takes X W → dS n C st = some m → JS X W st m
  ss : ∀ {C : Ct} {X : Cx} {k : Nat} {W : WX} {st : List Stmt} {m : DenS}, XOkS C X k → Takes X W → dSs n C st = some m → JSs X W st m
section
variable {X : Cx} {W : WX} {C : Ct} {k n : Nat}
/-- y = [..], stored within the comprehension's frame -/
theorem lc_set {e : Expr} {x : Str} {px p : Pos} {i : Nat} {l : DenL} (o : XOkS C X k) (tk : Takes X W) (hN : X.N.Nodup) (hi : X.N[i]? = some x) (hsw : swB e x px C.sc = true) (h : dL n C e = some l) : PS X (.Assign [.Name x px] e p) (tAsg (tL X W l) (gName i)) := by
  have hloc : X.env.scope.names.lookup x = some .local := by
    rw [o.x.sc]
    unfold swB at hsw
    split at hsw
    · simp only [Bool.and_eq_true, beq_iff_eq] at hsw
      exact hsw.1.1.2
    · cases hsw
  have hs : swapsWith e (some (.Name x px)) p.line X.env = pure true := by rw [sw_eq o, hsw]
  cases n with
  | zero => unfold dL at h; cases h
  | succ n =>
    unfold dL at h
    split at h <;> try (cases hsw; done)
    · split at h
      · cases h
      · rename_i hset
        split at h
        · rename_i i' wn
          obtain ⟨x', px', rfl, g1, g2, g3, g4⟩ := shr_ok o.x wn
          split at h
          · rename_i t f' tt w2 w3 w4
            split at h
            · rename_i hc
              simp only [Bool.and_eq_true, List.all_eq_true, decide_eq_true_eq] at hc
              cases h
              obtain ⟨p2, p3, p4⟩ := lc_partsR (snd n) o.x w2 w3 w4
              exact ps_mono (ps_setLc o.x.calm hN hi hloc hs (pi_seq (pe_var g1 g2 g3 g4)) (blk_ok o.x hc.1) p2 p3 p4 (fold_set' (by simpa using hset) _)) fun E σ H q => t_compRef hc.2 σ H _ q
            · cases h
          · cases h
        · split at h
          · rename_i l t f' tt w1 w2 w3 w4
            split at h
            · rename_i hc
              simp only [Bool.and_eq_true, List.all_eq_true, decide_eq_true_eq] at hc
              cases h
              obtain ⟨p1, p2, p3, p4⟩ := lc_parts (snd n) o.x tk w1 w2 w3 w4
              exact ps_mono (ps_setLc o.x.calm hN hi hloc hs p1 (blk_ok o.x hc.1) p2 p3 p4 (fold_set' (by simpa using hset) _)) fun E σ H q => t_comp hc.2 σ H _ q
            · cases h
          · cases h
    · split at h
      · cases h
      · rename_i hset
        split at h
        · rename_i l t tt l1 t1 tt1 f' w1 w2 w3 w4 w5 w6 w7
          split at h
          · rename_i hc
            simp only [Bool.and_eq_true, List.all_eq_true, decide_eq_true_eq] at hc
            cases h
            obtain ⟨p1, p2, p3, p4⟩ := lc_parts (snd n) o.x tk w1 w2 w7 w3
            obtain ⟨q1, q2, q3⟩ := lc_parts1 (snd n) o.x w4 w5 w6
            obtain ⟨z1, z2⟩ : isSet _ = false ∧ isSet _ = false := by simpa using hset
            exact ps_mono (ps_setLc2 o.x.calm hN hi hloc hs p1 (blk_ok o.x hc.1.1) hc.2 p2 p3 q1 q2 q3 p4 (fold_set' z1 _) (fun env => fold_set' z2 env)) fun E σ H q => t_comp2 hc.1.2 (fun i hi => hi) hc.2 σ H _ q
          · cases h
        · cases h
    · cases h
theorem par2_ok {x y : Str} {px py pt pt2 pos : Pos} {es : List Expr} {kt k2 : Nat} {i j : Nat} {cs : List PCo} (o : XOkS C X k) (tk : Takes X W) (w2 : dPar n C [.Name x px, .Name y py] es = some ([i, j], cs)) (w1 : swS [.Name x px, .Name y py] es C.sc = some (some [x, y])) (hij : i ≠ j) (l1 : isLoc C.sc x = true) (l2 : isLoc C.sc y = true) :
    JS X W (.Assign [.Tuple [.Name x px, .Name y py] kt pt] (.Tuple es k2 pt2) pos) (sPar [i, j] cs) := by
  obtain ⟨h1, h2, h3⟩ := par_ok o tk w2
  match es, w2, w1, h1 with
  | [a, b], w2, w1, h1 =>
    obtain ⟨q1, cs1, w3⟩ := par_put w2
    obtain ⟨q2, cs2, w4⟩ := par_put w3
    obtain ⟨a1, a2, a3, a4⟩ := o.x.put q1
    obtain ⟨b1, b2, b3, b4⟩ := o.x.put q2
    exact js_par2 o.x.calm a1 a2 b2 hij (isLoc_of o l1) (isLoc_of o l2) h1 (sws_ok o w1) (tup_sole _)
  | [], w2, _, _ => unfold dPar at w2; cases w2
  | [a], w2, _, _ =>
    obtain ⟨q1, cs1, w3⟩ := par_put w2
    unfold dPar at w3; cases w3
  | a :: b :: c :: r, w2, _, _ =>
    obtain ⟨q1, cs1, w3⟩ := par_put w2
    obtain ⟨q2, cs2, w4⟩ := par_put w3
    unfold dPar at w4; cases w4
theorem par3_ok {x y z : Str} {px py pz pt pt2 pos : Pos} {es : List Expr} {kt k2 : Nat} {i j l : Nat} {cs : List PCo} (o : XOkS C X k) (tk : Takes X W) (w2 : dPar n C [.Name x px, .Name y py, .Name z pz] es = some ([i, j, l], cs)) (w1 : swS [.Name x px, .Name y py, .Name z pz] es C.sc = some (some [x, y, z])) (hij : i ≠ j) (hil : i ≠ l) (hjl : j ≠ l) (l1 : isLoc C.sc x = true) (l2 : isLoc C.sc y = true) (l3 : isLoc C.sc z = true) :
    JS X W (.Assign [.Tuple [.Name x px, .Name y py, .Name z pz] kt pt] (.Tuple es k2 pt2) pos) (sPar [i, j, l] cs) := by
  obtain ⟨h1, h2, h3⟩ := par_ok o tk w2
  match es, w2, w1, h1 with
  | [a, b, c], w2, w1, h1 =>
    obtain ⟨q1, cs1, w3⟩ := par_put w2
    obtain ⟨q2, cs2, w4⟩ := par_put w3
    obtain ⟨q3, cs3, w5⟩ := par_put w4
    obtain ⟨a1, a2, a3, a4⟩ := o.x.put q1
    obtain ⟨b1, b2, b3, b4⟩ := o.x.put q2
    obtain ⟨c1, c2, c3, c4⟩ := o.x.put q3
    exact js_par3 o.x.calm a1 a2 b2 c2 hij hil hjl (isLoc_of o l1) (isLoc_of o l2) (isLoc_of o l3) h1 (sws_ok o w1) (tup_sole _)
  | [], w2, _, _ => unfold dPar at w2; cases w2
  | [a], w2, _, _ =>
    obtain ⟨q1, cs1, w3⟩ := par_put w2
    unfold dPar at w3; cases w3
  | [a, b], w2, _, _ =>
    obtain ⟨q1, cs1, w3⟩ := par_put w2
    obtain ⟨q2, cs2, w4⟩ := par_put w3
    unfold dPar at w4; cases w4
  | a :: b :: c :: d :: r, w2, _, _ =>
    obtain ⟨q1, cs1, w3⟩ := par_put w2
    obtain ⟨q2, cs2, w4⟩ := par_put w3
    obtain ⟨q3, cs3, w5⟩ := par_put w4
    unfold dPar at w5; cases w5
theorem tup_ok {ts : List Expr} {e : Expr} {k1 : Nat} {tp p : Pos} {t : Tgt} {f : Den} (o : XOkS C X k) (tk : Takes X W) (w1 : dG n C (.Tuple ts k1 tp) = some t) (w2 : dE n C e = some f) (n0 : ∀ es k2 vp, e = .Tuple es k2 vp → False) (n2 : ∀ a b c d, e = .SetComp a b c d → False) (n3 : ∀ a b c d g, e = .DictComp a b c d g → False) :
    JS X W (.Assign [.Tuple ts k1 tp] e p) (sAsg t f) := by
  have hg := (snd n).g o.x w1
  have ht : ∃ us, t = .tup us := by
    cases n with
    | zero => unfold dG at w1; cases w1
    | succ n =>
      unfold dG at w1
      dsimp only at w1
      split at w1
      · split at w1
        · split at w1
          · cases w1; exact ⟨_, rfl⟩
          · cases w1
        · cases w1
      · cases w1
  obtain ⟨us, rfl⟩ := ht
  refine js_asgT hg ((snd n).e o.x tk w2) (tup_sole _) ?_
  · unfold swappedStores
    cases e <;> first | rfl | exact (n0 _ _ _ rfl).elim
theorem rf_ret {e : Expr} {i : Nat} {pos : Pos} (o : XOkS C X k) (h : rfName C e = some i) : JS X W (.Return (some e) pos) (sRetR i) := by
  unfold rfName at h
  split at h
  · split at h
    · obtain ⟨h1, h2, h3, h4⟩ := o.x.slot h
      exact js_retR h1 h2 h3 h4
    · cases h
  · cases h
theorem rf_nil {c : Expr} {i : Nat} {a b : List Stmt} {f g : DenS} {pos : Pos} (o : XOkS C X k) (h : rfNil C c = some i) (ha : JSs X W a f) (hb : JSs X W b g) : JS X W (.If c a b pos) (sIfNil i f g) := by
  unfold rfNil at h
  split at h
  · split at h
    · obtain ⟨h1, h2, h3, h4⟩ := o.x.slot h
      exact js_ifNil o.x.room.units h1 h2 h3 h4 ha hb
    · cases h
  · cases h
theorem rf_asg {x : Str} {px p : Pos} {e : Expr} {i : Nat} {m : DenS} (o : XOkS C X k) (tk : Takes X W) (w : C.put x = some i) (q1 : X.N.Nodup) (q2 : X.N[i]? = some x) (q3 : Loc X.env.scope x) (q4 : X.fn x = true ∨ X.env.scope.names.lookup x = some .local) (h : dRf n C x px i e = some m) : JS X W (.Assign [.Name x px] e p) m := by
  unfold dRf at h
  split at h
  · cases h
    exact js_refs0 q1 q2 q3 q4
  · rename_i y py y' py' z pz c scope p'
    split at h
    · rename_i hc
      simp only [Bool.and_eq_true, decide_eq_true_eq] at hc
      split at h
      · rename_i j v v' tt w1 w2 w3 w4
        split at h
        · rename_i hd
          simp only [Bool.and_eq_true, decide_eq_true_eq] at hd
          obtain ⟨rfl, hm⟩ := hd
          cases h
          refine js_withF ?_
          have hloc : X.env.scope.names.lookup x = some .local := by
            have hsw := hc.1.2
            rw [o.x.sc]
            unfold swB at hsw
            simp only [Bool.and_eq_true, beq_iff_eq] at hsw
            exact hsw.1.1.2
          have hs : swapsWith (.ListComp (.Name y py) [⟨.Name y' py', .Name z pz, [c], 0⟩] scope p') (some (.Name x px)) p.line X.env = pure true := by rw [sw_eq o, hc.1.2]
          obtain ⟨z1, z2, z3, z4⟩ := o.x.slot w1
          refine ps_mono (ps_setLc o.x.calm q1 q2 hloc hs (pi_seq (pe_var z1 z2 z3 z4)) (blk_ok o.x hc.2) (fun s H A cl fp => ?_) (fun s H A cl fp => pts_one ((snd n).t (o.x.blk scope s H A cl fp) takes0' w4)) (fun s H A cl fp => ?_) (fold_set' rfl _)) fun E σ H q => t_pick hm q
          · obtain ⟨a1, a2, a3, a4⟩ := (o.x.blk scope s H A cl fp).put w3
            exact pg_name a1 a2 a3 a4
          · obtain ⟨a1, a2, a3, a4⟩ := (o.x.blk scope s H A cl fp).slot w2
            exact pe_var a1 a2 a3 a4
        · cases h
      · cases h
    · cases h
  · cases h
theorem rf_enum {x : Str} {px p : Pos} {e : Expr} {i : Nat} {m : DenS} (o : XOkS C X k) (tk : Takes X W) (w : C.put x = some i) (q1 : X.N.Nodup) (q2 : X.N[i]? = some x) (h : dRfE n C x px i e = some m) : JS X W (.Assign [.Name x px] e p) m := by
  unfold dRfE at h
  split at h
  · rename_i kn pk k' pk' y py tk' tp f pf z pz pc c scope p'
    split at h
    · rename_i hc
      simp only [Bool.and_eq_true, decide_eq_true_eq] at hc
      split at h
      · rename_i j kk k2 v tt w1 w2 w3 w4 w5
        split at h
        · rename_i hd
          simp only [Bool.and_eq_true, decide_eq_true_eq] at hd
          obtain ⟨⟨⟨rfl, hne⟩, hm1⟩, hm2⟩ := hd
          cases h
          refine js_withF ?_
          have hloc : X.env.scope.names.lookup x = some .local := by
            have hsw := hc.1.2
            rw [o.x.sc]
            unfold swB at hsw
            simp only [Bool.and_eq_true, beq_iff_eq] at hsw
            exact hsw.1.1.2
          have hs : swapsWith (.ListComp (.Name kn pk) [⟨.Tuple [.Name k' pk', .Name y py] tk' tp, .Call (.Name f pf) [.Name z pz] [] pc, [c], 0⟩] scope p') (some (.Name x px)) p.line X.env = pure true := by rw [sw_eq o, hc.1.2]
          obtain ⟨z1, z2, z3, z4⟩ := o.x.slot w1
          obtain ⟨b1, b2, b3, b4⟩ := o.x.blt hc.1.1.2
          have hn := hc.1.1.1.2
          subst hn
          refine ps_mono (ps_setLc o.x.calm q1 q2 hloc hs (pi_enumT b1 b2 (pa_cons (pe_var z1 z2 z3 z4) pa_nil (star_cons rfl)) (star_cons rfl)) (blk_ok o.x hc.2) (fun s H A cl fp => ?_) (fun s H A cl fp => pts_one ((snd n).t (o.x.blk scope s H A cl fp) takes0' w5)) (fun s H A cl fp => ?_) (fold_set' rfl _)) fun E σ H q => t_pickE hm1 hm2 hne q
          · obtain ⟨a1, a2, a3, a4⟩ := (o.x.blk scope s H A cl fp).put w3
            obtain ⟨c1, c2, c3, c4⟩ := (o.x.blk scope s H A cl fp).put w4
            exact pg_tup (n := 2) o.x.calm (pgs_cons (pg_name a1 a2 a3 a4) (pgs_cons (pg_name c1 c2 c3 c4) pgs_nil (by rw [each_cons rfl]; rfl)) (by rw [each_cons rfl]; rfl)) each_len (each_none rfl)
          · obtain ⟨a1, a2, a3, a4⟩ := (o.x.blk scope s H A cl fp).slot w2
            exact pe_var a1 a2 a3 a4
        · cases h
      · cases h
    · cases h
  · cases h
theorem each_star {e : Expr} {es : List Expr} {env : Env} (h : isStar e = false) : (assignEach (e :: es) env).map (·.2) = assign e env :: (assignEach es env).map (·.2) := by
  rw [each_cons h]
  rfl
theorem tgs_ok : ∀ {ts : List Expr} {tgs : List PTg}, XOkS C X k → Takes X W → dTg n C ts = some tgs → PGs X ts (gX X W tgs)
  | [], _, o, tk, h => by cases h; exact pgs_nil
  | t :: ts, tgs, o, tk, h => by
    unfold dTg at h
    split at h
    · rename_i heq; cases heq
    · rename_i x px ts' heq
      cases heq
      split at h
      · cases h
      · split at h
        · rename_i i r w1 w2
          cases h
          obtain ⟨a1, a2, a3, a4⟩ := o.x.put w1
          exact pgs_cons (pg_name a1 a2 a3 a4) (tgs_ok o tk w2) (each_star rfl)
        · cases h
    · rename_i x px kx p ts' heq
      cases heq
      split at h
      · rename_i hpx
        split at h
        · rename_i i f r w1 w2 w3
          cases h
          obtain ⟨h1, h2, h3, h4⟩ := o.x.slot w1
          exact pgs_cons (pg_sub (pe_var h1 h2 h3 h4) ((snd n).e o.x tk w2) (set_own (by have := o.x.room.un; omega)) (asg_sub hpx)) (tgs_ok o tk w3) (each_star rfl)
        · cases h
      · cases h
    · cases h
theorem rmS_ok {st : Stmt} {m : DenS} (o : XOkS C X k) (tk : Takes X W) (h : rmS n C st = some m) : JS X W st m := by
  have hu : X.A.units + 66 < cLine := by have := o.x.room.un; omega
  unfold rmS at h
  split at h
  · split at h
    · rename_i hf
      simp only [Bool.and_eq_true, decide_eq_true_eq] at hf
      obtain ⟨⟨⟨⟨⟨⟨f1, f2⟩, f3⟩, f4⟩, f5⟩, f6⟩, f7⟩ := hf
      obtain ⟨b1, b2, b3, b4⟩ := o.x.blt f5
      subst f1 f2 f4 f6 f7
      obtain ⟨i, e1, e2⟩ := ob h
      subst e2
      obtain ⟨rc, ri, h1, h2, h3, h4⟩ := o.x.rmS e1
      exact js_pastPush rc b1 b2 h1 h2 h3 h4 f3
    · cases h
  · split at h
    · rename_i hf
      simp only [Bool.and_eq_true, decide_eq_true_eq] at hf
      obtain ⟨⟨f1, f2⟩, f3⟩ := hf
      subst f1 f2
      split at h
      · rename_i i j w1 w2
        cases h
        obtain ⟨rc, ri, h1, h2, h3, h4⟩ := o.x.rmS w1
        obtain ⟨g1, g2, g3, g4⟩ := o.x.slot w2
        exact js_callPush rc h1 h2 h3 h4 g1 g2 g3 g4 f3
      · cases h
    · cases h
  · split at h
    · obtain ⟨g, e1, e2⟩ := ob h
      subst e2
      exact js_withF (js_expr ((snd n).e o.x tk e1) rfl)
    · cases h
  · split at h
    · rename_i hf
      subst hf
      split at h
      · rename_i i j l w1 w2 w3
        cases h
        obtain ⟨rc, ri, h1, h2, h3, h4⟩ := o.x.rmS w1
        obtain ⟨g1, g2, g3, g4⟩ := o.x.slot w2
        obtain ⟨k1, k2, k3, k4⟩ := o.x.slot w3
        exact js_rowPut rc (by omega) h1 h2 h3 h4 g1 g2 g3 g4 k1 k2 k3 k4
      · cases h
    · cases h
  · split at h
    · rename_i hf
      simp only [Bool.and_eq_true, decide_eq_true_eq] at hf
      obtain ⟨⟨⟨⟨f1, f2⟩, f3⟩, f4⟩, f5⟩ := hf
      subst f1 f2 f3 f5
      obtain ⟨i, e1, e2⟩ := ob h
      subst e2
      obtain ⟨rc, ri, h1, h2, h3, h4⟩ := o.x.rmS e1
      exact js_rowsPop rc h1 h2 h3 h4 f4
    · cases h
  · split at h
    · rename_i hf
      simp only [Bool.and_eq_true, decide_eq_true_eq] at hf
      obtain ⟨⟨⟨f1, f2⟩, f3⟩, f4⟩ := hf
      obtain ⟨b1, b2, b3, b4⟩ := o.x.blt f3
      subst f1 f2 f4
      split at h
      · rename_i j i w1 w2
        cases h
        obtain ⟨rc, ri, h1, h2, h3, h4⟩ := o.x.rmS w2
        obtain ⟨_, _, g1, g2, g3, g4⟩ := o.x.rmS w1
        exact js_rowsCopy rc b1 b2 h1 h2 h3 h4 g1 g2 g3 g4
      · cases h
    · cases h
  · split at h
    · split at h
      · rename_i i f w1 w2
        cases h
        obtain ⟨a1, a2, a3, a4⟩ := o.x.put w1
        exact js_withF (js_asgO a1 a2 a3 ((snd n).ro o.x tk w2) (by rw [sw_eq o]; rfl) a4)
      · cases h
    · cases h
  · obtain ⟨i, e1, e2⟩ := ob h
    subst e2
    obtain ⟨rc, ri, h1, h2, h3, h4⟩ := o.x.rmS e1
    exact js_retO h1 h2 h3 h4
  · cases h
theorem rmInit_ok {st : Stmt} {r : List Stmt} {q : DenS × List Stmt} {b : DenS} (o : XOkS C X k) (h : rmInit C st r = some q) (hb : JSs X W q.2 b) : JSs X W (st :: r) (sSeq q.1 b) := by
  unfold rmInit at h
  split at h
  · split at h
    · rename_i hf
      simp only [Bool.and_eq_true, decide_eq_true_eq] at hf
      obtain ⟨⟨⟨⟨⟨⟨f1, f2⟩, f3⟩, f4⟩, f5⟩, f6⟩, f7⟩ := hf
      subst f1 f2 f3 f4 f5 f6 f7
      split at h
      · rename_i i j w1 w2
        cases h
        obtain ⟨rc, ri, h1, h2, h3, h4⟩ := o.x.rmS w1
        obtain ⟨g1, g2, g3, g4⟩ := o.x.slot w2
        exact js_init rc h1 h2 h3 h4 g1 g2 g3 g4 hb
      · cases h
    · cases h
  · cases h
theorem snds_s (S : SndS n) {st : Stmt} {m : DenS} (o : XOkS C X k) (tk : Takes X W) (h : dS (n + 1) C st = some m) : JS X W st m := by
  unfold dS at h
  split at h
  · rename_i m' hm
    cases h
    exact rmS_ok o tk hm
  rename_i hm
  clear hm
  split at h
  · split at h
    · rename_i i w
      cases h
      exact rf_ret o w
    · obtain ⟨f, e1, e2⟩ := ob h
      subst e2
      exact js_withF (js_ret ((snd n).e o.x tk e1))
  · split at h
    · rename_i i w
      split at h
      · rename_i f g w2 w3
        cases h
        exact rf_nil o w (S.ss o tk w2) (S.ss o tk w3)
      · cases h
    · split at h
      · rename_i t f g w1 w2 w3
        cases h
        exact js_withF (js_if ((snd n).t o.x tk w1) (S.ss o tk w2) (S.ss o tk w3))
      · cases h
  · split at h
    · rename_i hc
      simp only [Bool.and_eq_true, decide_eq_true_eq] at hc
      have hn := hc.1.1
      subst hn
      split at h
      · split at h
        · rename_i i f w1 w2
          cases h
          obtain ⟨h1, h2, h3, h4⟩ := o.x.slot w1
          exact js_withF (js_appR h1 h2 h3 h4 (star_is hc.2) ((snd n).l o.x tk w2) hc.1.2)
        · cases h
      · split at h
        · rename_i i f w1 w2
          cases h
          obtain ⟨h1, h2, h3, h4⟩ := o.x.slot w1
          exact js_withF (js_append h1 h2 h3 h4 (star_is hc.2) ((snd n).e o.x tk w2) hc.1.2)
        · cases h
    · split at h
      · rename_i hc
        simp only [Bool.and_eq_true, decide_eq_true_eq] at hc
        have hn := hc.1.1
        subst hn
        split at h
        · rename_i i f w1 w2
          cases h
          obtain ⟨h1, h2, h3, h4⟩ := o.x.slot w1
          exact js_withF (js_extend h1 h2 h3 h4 (star_is hc.2) ((snd n).o o.x tk w2) hc.1.2)
        · cases h
      · split at h
        · rename_i hc
          simp only [Bool.and_eq_true, decide_eq_true_eq] at hc
          have hn := hc.1.1
          subst hn
          split at h
          · rename_i i f w1 w2
            cases h
            obtain ⟨h1, h2, h3, h4⟩ := o.x.slot w1
            refine js_withF ?_
            split
            · exact js_popAtR h1 h2 h3 h4 (star_is hc.2) ((snd n).e o.x tk w2) hc.1.2
            · exact js_popAt h1 h2 h3 h4 (star_is hc.2) ((snd n).e o.x tk w2) hc.1.2
          · cases h
        · cases h
  · split at h
    · rename_i hc
      simp only [Bool.and_eq_true, decide_eq_true_eq] at hc
      have hn := hc.1.1.1.1
      subst hn
      split at h
      · rename_i i g f w1 w2 w3
        cases h
        obtain ⟨h1, h2, h3, h4⟩ := o.x.slot w1
        exact js_withF (js_appIn h1 h2 h3 h4 (star_is hc.1.1.2) ((snd n).e o.x tk w2) (plain_ix hc.1.2) ((snd n).e o.x tk w3) hc.1.1.1.2)
      · cases h
    · cases h
  · obtain ⟨f, e1, e2⟩ := ob h
    subst e2
    exact js_withF (js_expr ((snd n).e o.x tk e1) rfl)
  · split at h
    · rename_i i w
      obtain ⟨q1, q2, q3, q4⟩ := o.x.put w
      split at h
      · exact rf_asg o tk w q1 q2 q3 q4 h
      · split at h
        · rename_i m we
          cases h
          exact rf_enum o tk w q1 q2 we
        · split at h
          · rename_i hsw
            obtain ⟨l, e1, e2⟩ := ob h
            subst e2
            refine js_withF ?_
            split
            · exact js_share' (lc_set o tk q1 q2 hsw e1)
            · split
              · exact js_own' (lc_set o tk q1 q2 hsw e1)
              · exact js_asgL' (lc_set o tk q1 q2 hsw e1)
          · rename_i hsw
            have hs : ∀ l, swapsWith _ (some (.Name _ _)) l X.env = pure false := fun l => (sw_eq (l := l) o).trans (congrArg pure (by simpa using hsw))
            split at h
            · split at h
              · rename_i l e1
                cases h
                exact js_withF (js_shareD q1 q2 q3 (dd_ok o.x tk e1) (hs _) q4)
              · obtain ⟨l, e1, e2⟩ := ob h
                subst e2
                exact js_withF (js_share q1 q2 q3 ((snd n).l o.x tk e1) (hs _) q4)
            · split at h
              · split at h
                · rename_i l e1
                  cases h
                  exact js_withF (js_own q1 q2 q3 ((snd n).l o.x tk e1) (hs _) q4)
                · split at h
                  · rename_i l e1
                    cases h
                    exact js_withF (js_ownD q1 q2 q3 (dd_ok o.x tk e1) (hs _) q4)
                  · obtain ⟨f, e1, e2⟩ := ob h
                    subst e2
                    exact js_withF (js_asg q1 q2 q3 ((snd n).e o.x tk e1) (hs _) q4)
              · obtain ⟨f, e1, e2⟩ := ob h
                subst e2
                exact js_withF (js_asg q1 q2 q3 ((snd n).e o.x tk e1) (hs _) q4)
    · cases h
  · split at h
    · rename_i hc
      simp only [Bool.and_eq_true] at hc
      split at h
      · rename_i is cs w1 w2
        split at h
        · rename_i hl
          cases h
          obtain ⟨h1, h2, h3⟩ := par_ok o tk w2
          exact js_withF (js_parT o.x.calm (Nat.le_trans hl (by decide)) h3 (stars_are hc.1) h2 h1 (tup_sole _) (sws_ok o w1))
        · cases h
      · rename_i xs is cs w1 w2
        split at h
        · split at h
          · rename_i hd
            simp only [Bool.and_eq_true, decide_eq_true_eq] at hd
            obtain ⟨⟨⟨⟨hx, hy⟩, hij⟩, l1⟩, l2⟩ := hd
            subst hx hy
            cases h
            exact js_withF (par2_ok o tk w2 w1 hij l1 l2)
          · cases h
        · split at h
          · rename_i hd
            simp only [Bool.and_eq_true, decide_eq_true_eq] at hd
            obtain ⟨⟨⟨⟨⟨⟨⟨⟨hx, hy⟩, hz⟩, hij⟩, hil⟩, hjl⟩, l1⟩, l2⟩, l3⟩ := hd
            subst hx hy hz
            cases h
            exact js_withF (par3_ok o tk w2 w1 hij hil hjl l1 l2 l3)
          · cases h
        · cases h
      · rename_i w1 w2
        split at h
        · rename_i tgs fs w3 w4
          split at h
          · rename_i hd
            simp only [Bool.and_eq_true, decide_eq_true_eq] at hd
            cases h
            exact js_withF (js_parX o.x.calm hd.2 hd.1 (stars_are hc.1) (tgs_ok o tk w3) (pa_of ((snd n).es o.x tk w4)) (tup_sole _) (sws_ok o w1))
          · cases h
        · cases h
      · cases h
    · cases h
  · split at h
    · cases h
    · cases h
    · rename_i n2 n3
      split at h
      · rename_i t f w1 w2
        cases h
        exact js_withF (tup_ok o tk w1 w2 (by assumption) n2 n3)
      · cases h
  · split at h
    · rename_i hpx
      split at h
      · rename_i i f g w1 w2 w3
        cases h
        obtain ⟨h1, h2, h3, h4⟩ := o.x.slot w1
        exact js_withF (js_putD h1 h2 h3 h4 ((snd n).e o.x tk w2) ((snd n).e o.x tk w3) (sw_sub _ _ _ _ _ _) (by have := o.x.room.un; omega) (asg_sub hpx))
      · cases h
    · cases h
  · split at h
    · cases h
    · rename_i hset
      split at h
      · rename_i i wn
        obtain ⟨x, px, rfl, h1, h2, h3, h4⟩ := shr_ok o.x wn
        split at h
        · rename_i t b w2 w3
          cases h
          exact js_forRef o.pass o.x.calm h1 h2 h3 h4 ((snd n).g o.x w2) (S.ss o tk w3)
        · cases h
      · split at h
        · rename_i l t b w1 w2 w3
          cases h
          refine js_withF (js_for o.pass o.x.calm (fun es k p z => ?_) ((snd n).i o.x tk w1) ((snd n).g o.x w2) (S.ss o tk w3))
          subst z
          exact hset rfl
        · cases h
  · split at h
    · rename_i t b w1 w2
      cases h
      exact js_withF (js_while o.pass ((snd n).t o.x tk w1) (S.ss o tk w2))
    · cases h
  · split at h
    · rename_i hc
      simp only [Bool.and_eq_true, decide_eq_true_eq] at hc
      cases h
      obtain ⟨A, q⟩ := o.x.ex _ hc.2
      exact js_raise o.x.calm tk (o.x.gl hc.1.1) (nameOk_of hc.1.2).1 q
    · cases h
  · split at h
    · rename_i q cs i b w1 w2 w3 w4
      split at h
      · rename_i hc
        simp only [Bool.and_eq_true, decide_eq_true_eq] at hc
        obtain ⟨⟨⟨⟨⟨⟨⟨rfl, rfl⟩, rfl⟩, g1⟩, g2⟩, g3⟩, g4⟩, g5⟩ := hc
        cases h
        obtain ⟨a1, a2, a3, a4⟩ := o.x.slot w3
        have hl : X.env.kindOf _ = some .local := isLoc_of o g5
        exact js_tryW o.stk o.frm (by rw [o.x.N]; exact o.x.nd) a1 hl a3 a4 (o.x.gl g1) (nameOk_of g2).1 (o.x.gl g3) (nameOk_of g4).1 ⟨by have := o.x.room.dp; omega, by have := o.x.room.un; omega⟩ (o.x.cat _ _ w2) (o.x.wh _ w1) tk fun W' pn xe t' p' => S.ss (o.tr p') t' w4
      · cases h
    · cases h
  · split at h
    · rename_i cs g b w1 w2 w3
      split at h
      · rename_i hc
        simp only [Bool.and_eq_true] at hc
        cases h
        exact js_tryC o.stk o.frm (o.x.gl hc.1) (nameOk_of hc.2).1 (o.x.cat _ _ w1) tk (fun W' pn xe t' p' => S.ss (o.tr p') t' w3) fun a pn => su_ok w2
      · cases h
    · cases h
  · cases h; exact js_pass
  · cases h; exact js_continue
  · cases h
theorem sel_ok {st : Stmt} {r : List Stmt} {m : DenS} (o : XOkS C X k) (tk : Takes X W) (h : dSel2 n C st r = some m) : JSs X W (st :: r) m := by
  unfold dSel2 at h
  split at h
  · rename_i x p1 fes p2 p3 y p4 ix p5 as p6 p7
    split at h
    · rename_i hc
      simp only [Bool.and_eq_true, decide_eq_true_eq] at hc
      obtain ⟨⟨⟨rfl, g1⟩, g2⟩, g3⟩ := hc
      split at h
      · rename_i i j ms fi ds w1 w2 w3 w4 w5
        split at h
        · rename_i hn
          cases h
          obtain ⟨a1, a2, a3, a4⟩ := o.x.put w1
          obtain ⟨_, b2, b3, b4⟩ := o.x.slot w2
          obtain ⟨vs, q1, q2⟩ := dFn_ok o.x w3
          cases as with
          | nil => exact absurd g2 (by decide)
          | cons a as => exact js_sel o.x.room tk a1 a2 a3 a4 b2 b3 b4 q1 (by rw [Paired.length q2]; exact hn) q2 ((snd n).e o.x tk w4) (plain_ix g3) (stars_are g1) ((snd n).as o.x tk w5)
        · cases h
      · cases h
    · cases h
  · cases h
theorem js_bad {st : Stmt} : JS X W st sBad := ⟨fun pins s σ H D I ⟨_, _, _, _, _, _, p⟩ => p.elim⟩
theorem snds_ss (S : SndS n) {st : List Stmt} {m : DenS} (o : XOkS C X k) (tk : Takes X W) (h : dSs (n + 1) C st = some m) : JSs X W st m := by
  cases st with
  | nil => unfold dSs at h; cases h; exact js_nil'
  | cons st r =>
    unfold dSs at h
    split at h
    · rename_i q hq
      obtain ⟨b, e1, e2⟩ := ob h
      subst e2
      exact rmInit_ok o hq (S.ss o tk e1)
    rename_i hq
    clear hq
    split at h
    · split at h
      · rename_i a w1
        cases h
        exact js_one (S.s o tk w1)
      · cases h
        exact js_one js_bad
    · split at h
      · rename_i m' w0
        cases h
        exact sel_ok o tk w0
      · split at h
        · rename_i a b w1 w2
          cases h
          exact js_cons (S.s o tk w1) (S.ss o tk w2)
        · rename_i b w1 w2
          cases h
          exact js_cons js_bad (S.ss o tk w2)
        · cases h
theorem snds : ∀ n : Nat, SndS n
  | 0 => ⟨fun o tk h => (by unfold dS at h; cases h), fun o tk h => (by unfold dSs at h; cases h)⟩
  | n + 1 => ⟨fun o tk h => snds_s (snds n) o tk h, fun o tk h => snds_ss (snds n) o tk h⟩
end
end Ev
/-! # Ev22: the defs of a text, one after the other -/
namespace Ev
open PySem PySem.Spec PyProof.Rows L2
/-- fuel: how often it may call itself (0: it does not); kw: its last parameter is a keyword with a default -/
structure Df where
  x : Str
  params : Arguments
  body : List Stmt
  scope : Scope
  N : List Str
  ps : List Str
  mu : List Str
  shr : List Str
  rf : List Str := []
  fz : List (Str × Str) := []
  kw : Option (Str × Int) := none
  fuel : Nat := 0
  br : FnDen → DenS
  /-- a def of the class of classrooms: its qualified name; the names that hold classrooms; 1: __init__, 2: it gives a classroom -/
  at_ : Option Str := none
  rms : List Str := []
  kd : Nat := 0
/-- what the text's top gives besides its defs: constants, exceptions, built-ins -/
structure WhD where
  x : Str
  params : Arguments
  body : List Stmt
  scope : Scope
  cs : List Str
structure Tp where
  cs : List (Str × D)
  ex : List Str
  bl : List Str
  wh : Option WhD := none
  cat : List (Str × List Str) := []
  /-- how deep the module's objects are looked at -/
  dep : Nat := 2
  /-- dicts of the text by texts -/
  dcs : List (Str × List (Str × D)) := []
  room : Bool := false
/-- what the class's defs mean -/
structure Mts where
  ini : Option FnDen := none
  mts : List (Str × FnDen) := []
  mtk : List (Str × (Nat × FnDen × Str × D)) := []
  mto : List (Str × FnDenO) := []
  own : List (Str × FnDen) := []
abbrev Fns := List (Str × (Nat × FnDen))
abbrev FnsK := List (Str × (Nat × FnDen × Str × D))
def Df.m (d : Df) : FnDen := match d.fuel with
  | 0 => runFn d.ps.length d.N.length (d.br badFn)
  | n + 1 => recM d.ps.length d.N.length d.br (n + 1)
def Df.self (d : Df) (m : FnDen) : Fns := match d.fuel with
  | 0 => []
  | _ + 1 => [(d.x, (d.ps.length, m))]
def Df.qn (d : Df) : Str := match d.at_ with
  | none => d.x
  | some q => q
def Df.mO (d : Df) : FnDenO := runFnO d.ps.length d.N.length (d.br badFn)
def Df.lv (d : Df) : Nat := match d.at_ with
  | none => d.fuel + 1
  | some _ => d.fuel + 3
def Df.ct (T : Tp) (prev : Fns) (pk : FnsK) (M : Mts) (d : Df) : Ct := { N := d.N, sc := d.scope, fnb := fun _ => true, fns := prev, fnk := pk, cs := T.cs, ex := T.ex, bl := T.bl, mu := d.mu, shr := d.shr, rf := d.rf, fz := d.fz, wh := T.wh.map fun q => (q.x, q.cs), cat := T.cat, dcs := T.dcs, room := T.room, rms := d.rms, ini := M.ini, mts := M.mts, mtk := M.mtk, mto := M.mto, own := M.own }
def Df.kwV (d : Df) : List (Str × V) := match d.kw with
  | none => []
  | some q => [(q.1, .int q.2)]
def Df.BindOk (d : Df) : Prop := match d.kw with
  | none => ∀ (kV doc pm : Value) (an : Option Addr) (cdv ct : Value) (us : List Value), us.length = d.ps.length → bindArgs (PySem.W.fnOf d.x d.qn d.params d.body d.scope .none kV doc pm an cdv ct) ⟨us, []⟩ = pure (d.ps.zip us)
  | some q => ∃ n, d.ps.length = n + 1 ∧ d.fuel = 0 ∧ (∀ (D : Addr) (doc pm : Value) (an : Option Addr) (cdv ct : Value) (us ks : List Value), us.length = n → ks.length = 1 → KwChain D ([q.1].zip ks) (bindArgs (PySem.W.fnOf d.x d.qn d.params d.body d.scope .none (.ref D) doc pm an cdv ct) ⟨us, []⟩) (d.ps.zip (us ++ ks))) ∧
      ∀ (kV doc pm : Value) (an : Option Addr) (cdv ct : Value) (us ws : List Value), us.length = n → ws.length = 1 → bindArgs (PySem.W.fnOf d.x d.qn d.params d.body d.scope .none kV doc pm an cdv ct) ⟨us, [q.1].zip ws⟩ = pure (d.ps.zip (us ++ ws))
def Df.MOk (d : Df) : Prop := match d.at_ with
  | none => d.kd = 0
  | some _ => d.fuel = 0 ∧ (d.kd ≠ 0 → d.kw = none) ∧ (d.kd = 1 → d.x = "__init__")
structure Df.Ok (T : Tp) (prev : Fns) (pk : FnsK) (M : Mts) (d : Df) : Prop where
  den : ∀ m, dSs 60 (d.ct T (d.self m ++ prev) pk M) d.body = some (d.br m)
  sc : FnScope d.N d.ps d.scope
  bind : d.BindOk
  mok : d.MOk
def Df.addF (d : Df) (prev : Fns) : Fns := match d.at_ with
  | some _ => prev
  | none => match d.kw with
    | none => (d.x, (d.ps.length, d.m)) :: prev
    | some _ => prev
def Df.addK (d : Df) (pk : FnsK) : FnsK := match d.at_ with
  | some _ => pk
  | none => match d.kw with
    | none => pk
    | some q => (d.x, (d.ps.length, d.m, q.1, .int q.2)) :: pk
def Df.addM (d : Df) (M : Mts) : Mts := match d.at_ with
  | none => M
  | some _ => match d.kd with
    | 1 => { M with ini := some d.m }
    | 2 => { M with mto := (d.x, d.mO) :: M.mto }
    | _ => match d.kw with
      | some q => { M with mtk := (d.x, (d.ps.length, d.m, q.1, .int q.2)) :: M.mtk, mts := (d.x, mDef d.m (.int q.2)) :: M.mts }
      | none => { M with mts := (d.x, d.m) :: M.mts, own := (d.x, d.m) :: M.own }
def OkAll (T : Tp) : Fns → FnsK → Mts → List Df → Prop
  | _, _, _, [] => True
  | prev, pk, M, d :: r => d.Ok T prev pk M ∧ OkAll T (d.addF prev) (d.addK pk) (d.addM M) r
def lvs : List Df → Nat
  | [] => 0
  | d :: r => d.lv + lvs r
structure WdK (K : PySem.W.Frag) (mg : Str → Option Value) (T : Tp) : Prop where
  cs : ∀ x d, T.cs.lookup x = some d → ∃ v u, mg x = some u ∧ RelV v u ∧ ∀ F, Rp K F v d
  ex : ∀ x, x ∈ T.ex → ∃ C, mg x = some (.ref C) ∧ PySem.W.excIn K C He.veBase "ValueError.__new__" = true ∧ PySem.W.keepIn K (.ref C) = true ∧ PySem.W.subIn K (.ref C) (.type "BaseException") = some true ∧ PySem.W.typeIn K (.ref C) = some (.type "type")
  bl : ∀ x, x ∈ T.bl → mg x = none
  cat : ∀ x cs, T.cat.lookup x = some cs → ∃ c, mg x = some c ∧ ∀ y ∈ cs, ∀ cv, mg y = some cv → PySem.W.exmOne K cv c = some true
  whk : ∀ d, T.wh = some d → WhK K mg d.cs ∧ mg "isinstance" = none ∧ mg "ValueError" = none
  rm : T.room = true → RmK K ∧ RmJ K mg
structure Wd (P : Program) (w : World) (K : PySem.W.Frag) (mg : Str → Option Value) (base : Heap) (T : Tp) : Prop where
  k : WdK K mg T
  d : ∀ x kvs, T.dcs.lookup x = some kvs → DctOk K w mg x kvs
  g : ∀ d, T.wh = some d → ∃ a fd, mg d.x = some (.ref a) ∧ PySem.W.keepIn K (.ref a) = true ∧ Binds K fd ["e"] [] ∧ FnP P w K mg base a fd ["e"] (spWhich K mg d.cs)
section
variable {P : Program} {w : World} {K : PySem.W.Frag} {mg : Str → Option Value} {base : Heap} {T : Tp}
def FnGood (P : Program) (w : World) (K : PySem.W.Frag) (mg : Str → Option Value) (base : Heap) (L : Nat) (x : Str) (np : Nat) (m : FnDen) : Prop :=
  (∃ f fd ps, mg x = some (.ref f) ∧ PySem.W.keepIn K (.ref f) = true ∧ Binds K fd ps [] ∧ FnOk P w K mg base (L2.CX P w) L f fd ps (spOf K mg np m)) ∧ ∀ args h, m args h ≠ .bad → args.length = np
theorem FnGood.mono {L L' : Nat} {x : Str} {np : Nat} {m : FnDen} (h : FnGood P w K mg base L x np m) (hl : L ≤ L') : FnGood P w K mg base L' x np m := by
  obtain ⟨⟨f, fd, ps, h1, h2, h3, h4⟩, h5⟩ := h
  exact ⟨⟨f, fd, ps, h1, h2, h3, h4.mono hl⟩, h5⟩
def FnGoodK (P : Program) (w : World) (K : PySem.W.Frag) (mg : Str → Option Value) (base : Heap) (L : Nat) (x : Str) (q : Nat × FnDen × Str × D) : Prop :=
  (∃ f fd ps v u n, mg x = some (.ref f) ∧ PySem.W.keepIn K (.ref f) = true ∧ Binds K fd ps [u] ∧ RelV v u ∧ (∀ F, Rp K F v q.2.2.2) ∧ KBn K fd ps n [q.2.2.1] (fun us ws => us ++ ws) (fun vs zs => vs ++ zs) ∧ q.1 = n + 1 ∧ FnOk P w K mg base (L2.CX P w) L f fd ps (spOf K mg q.1 q.2.1)) ∧ ∀ args h, q.2.1 args h ≠ .bad → args.length = q.1
theorem FnGoodK.mono {L L' : Nat} {x : Str} {q : Nat × FnDen × Str × D} (h : FnGoodK P w K mg base L x q) (hl : L ≤ L') : FnGoodK P w K mg base L' x q := by
  obtain ⟨⟨f, fd, ps, v, u, n, h1, h2, h3, h4, h5, h6, h7, h8⟩, h9⟩ := h
  exact ⟨⟨f, fd, ps, v, u, n, h1, h2, h3, h4, h5, h6, h7, h8.mono hl⟩, h9⟩
theorem FnQ.mono {L L' : Nat} {v : V} {m : FnDen} (h : FnQ P w K mg base L v m) (hl : L ≤ L') : FnQ P w K mg base L' v m := by
  obtain ⟨np, dvs, sp, ⟨f, fd, ps, ds, e, h1, h2, h3, h4⟩, h5, h6⟩ := h.ex
  exact ⟨np, dvs, sp, ⟨f, fd, ps, ds, e, h1, h2, h3, h4.mono hl⟩, h5, h6⟩
theorem MtQ.mono {L L' : Nat} {x : Str} {m : FnDen} (h : MtQ P w K mg base L x m) (hl : L ≤ L') : MtQ P w K mg base L' x m := by
  obtain ⟨f, h1, h2⟩ := h.ex
  exact ⟨f, h1, h2.mono hl⟩
theorem MtKQ.mono {L L' : Nat} {x : Str} {q : Nat × FnDen × Str × D} (h : MtKQ P w K mg base L x q) (hl : L ≤ L') : MtKQ P w K mg base L' x q := by
  obtain ⟨f, fd, ps, n, h1, h2, h3, h4⟩ := h.ex
  exact ⟨⟨f, fd, ps, n, h1, h2, h3, h4.mono hl⟩, h.ar⟩
theorem MtOQ.mono {L L' : Nat} {x : Str} {m : FnDenO} (h : MtOQ P w K mg base L x m) (hl : L ≤ L') : MtOQ P w K mg base L' x m := by
  obtain ⟨f, np, sp, h1, ⟨f', fd, ps, ds, e, g1, g2, g3, g4⟩, h3, h4⟩ := h.ex
  exact ⟨f, np, sp, h1, ⟨f', fd, ps, ds, e, g1, g2, g3, g4.mono hl⟩, h3, h4⟩
theorem MkQ.mono {L L' : Nat} {m : FnDen} (h : MkQ P w K mg base L m) (hl : L ≤ L') : MkQ P w K mg base L' m := by
  obtain ⟨f, fd, ps, np, j, h1, h2, h3, h4⟩ := h.ex
  exact ⟨f, fd, ps, np, j, h1, h2, by omega, h4⟩
theorem OwQ.mono {L L' d : Nat} {x : Str} {m : FnDen} (h : OwQ P w K mg base L d x m) (hl : L ≤ L') : OwQ P w K mg base L' d x m := by
  obtain ⟨j, np, h1, h2⟩ := h.ex
  exact ⟨j, np, by omega, h2⟩
structure PrevM (P : Program) (w : World) (K : PySem.W.Frag) (mg : Str → Option Value) (base : Heap) (L : Nat) (M : Mts) : Prop where
  ini : ∀ m, M.ini = some m → MkQ P w K mg base L m
  mts : ∀ x m, M.mts.lookup x = some m → MtQ P w K mg base L x m
  mtk : ∀ x q, M.mtk.lookup x = some q → MtKQ P w K mg base L x q
  mto : ∀ x m, M.mto.lookup x = some m → MtOQ P w K mg base L x m
  own : ∀ x m, M.own.lookup x = some m → OwQ P w K mg base L 2 x m
theorem PrevM.mono {L L' : Nat} {M : Mts} (h : PrevM P w K mg base L M) (hl : L ≤ L') : PrevM P w K mg base L' M := ⟨fun m e => (h.ini m e).mono hl, fun x m e => (h.mts x m e).mono hl, fun x m e => (h.mtk x m e).mono hl, fun x m e => (h.mto x m e).mono hl, fun x m e => (h.own x m e).mono hl⟩
structure Prev (P : Program) (w : World) (K : PySem.W.Frag) (mg : Str → Option Value) (base : Heap) (L : Nat) (prev : Fns) (pk : FnsK) (M : Mts) : Prop where
  f : ∀ x m, prev.lookup x = some m → FnGood P w K mg base L x m.1 m.2
  k : ∀ x q, pk.lookup x = some q → FnGoodK P w K mg base L x q
  m : PrevM P w K mg base L M
theorem Prev.mono {L L' : Nat} {prev : Fns} {pk : FnsK} {M : Mts} (h : Prev P w K mg base L prev pk M) (hl : L ≤ L') : Prev P w K mg base L' prev pk M := ⟨fun x m e => (h.f x m e).mono hl, fun x q e => (h.k x q e).mono hl, h.m.mono hl⟩
theorem body_js {prev : Fns} {pk : FnsK} {M : Mts} {d : Df} {L : Nat} {f : Addr} {b : DenS} (W : Wd P w K mg base T) (hp : Prev P w K mg base L prev pk M) (sc : FnScope d.N d.ps d.scope) (den : dSs 60 (d.ct T prev pk M) d.body = some b)
    (cdv : Value) (A : Around) (outer : List Env) (s : Shared) (H : Hp) (E : XK) (hr : Room L (A.deeper (envOfC d.qn d.scope s.heap.objs.size f cdv))) :
    JSs (cxOf (L2.CX P w) P w K mg base d.N d.qn d.scope f cdv A outer s H E) (fun cls d _ H => E cls d H) d.body b := by
  refine (snds 60).ss (C := d.ct T prev pk M) (k := L) ⟨⟨rfl, sc.nd, rfl, rfl, rfl, hr, fun x m e => ?_, fun x q e => ?_, W.k.cs, fun x hx => ?_, W.k.bl, fun q e => ?_, W.k.cat, W.d, W.k.rm, hp.m.ini, hp.m.mts, hp.m.mtk, hp.m.mto, hp.m.own⟩, sc.kind, passes_of rfl, rfl, rfl⟩ (takes_of rfl rfl rfl rfl) den
  · obtain ⟨⟨f', fd', ps', h1, h2, h3, h4⟩, h5⟩ := hp.f x m e
    exact ⟨⟨f', fd', ps', h1, h2, h3, h4⟩, h5⟩
  · obtain ⟨⟨f', fd', ps', v, u, n, h1, h2, h3, h4, h5, h6, h7, h8⟩, h9⟩ := hp.k x q e
    exact ⟨⟨f', fd', ps', v, u, n, h1, h2, h3, h4, h5, h6, h7, h8⟩, h9⟩
  · obtain ⟨C, h1, h2, h3, h4, h5⟩ := W.k.ex x hx
    exact ⟨C, h1, h2, h3, h4, h5⟩
  · cases ew : T.wh with
    | none =>
      have e : T.wh.map (fun q => (q.x, q.cs)) = some q := e
      rw [ew] at e
      cases e
    | some d' =>
      have e : T.wh.map (fun q => (q.x, q.cs)) = some q := e
      rw [ew] at e
      cases e
      obtain ⟨a, fd', g1, g2, g3, g4⟩ := W.g d' ew
      exact ⟨⟨a, fd', g1, g2, g3, g4⟩, fun y hy => (by obtain ⟨D, d1, _⟩ := (W.k.whk d' ew).1.c y hy; exact ⟨D, d1⟩)⟩
theorem ps_le {d : Df} (sc : FnScope d.N d.ps d.scope) : d.ps.length ≤ d.N.length := by
  have := congrArg List.length sc.pre
  rw [List.length_take] at this
  omega
theorem body_good {prev : Fns} {pk : FnsK} {M : Mts} {d : Df} {L : Nat} {f : Addr} {fd : FuncData} {b : DenS} (W : Wd P w K mg base T) (hp : Prev P w K mg base L prev pk M) (F : FunD K d.x d.qn d.params d.body d.scope [] d.kwV f fd) (sc : FnScope d.N d.ps d.scope) (den : dSs 60 (d.ct T prev pk M) d.body = some b) :
    FnOk P w K mg base (L2.CX P w) (L + 1) f fd d.ps (spOf K mg d.ps.length (runFn d.ps.length d.N.length b)) :=
  fn_ok F sc (ps_le sc) fun cdv A outer s H E hr => body_js W hp sc den cdv A outer s H E hr
theorem body_goodO {prev : Fns} {pk : FnsK} {M : Mts} {d : Df} {L : Nat} {f : Addr} {fd : FuncData} {b : DenS} (W : Wd P w K mg base T) (hp : Prev P w K mg base L prev pk M) (F : FunD K d.x d.qn d.params d.body d.scope [] d.kwV f fd) (sc : FnScope d.N d.ps d.scope) (den : dSs 60 (d.ct T prev pk M) d.body = some b) :
    FnOk P w K mg base (L2.CX P w) (L + 1) f fd d.ps (spOfO K mg d.ps.length (runFnO d.ps.length d.N.length b)) :=
  fn_okO F sc (ps_le sc) fun cdv A outer s H E hr => body_js W hp sc den cdv A outer s H E hr
theorem bad_good {L np : Nat} {f : Addr} {fd : FuncData} {ps : List Str} : FnOk P w K mg base (L2.CX P w) L f fd ps (spOf K mg np badFn) := by
  have no : ∀ vs H Q E, ¬ spOf K mg np badFn vs H Q E := fun vs H Q E h => by
    obtain ⟨_, F, α, args, h0, _, _, _, _, m⟩ := h
    exact m
  exact ⟨fun vs H Q E h => (no vs H Q E h).elim, fun A outer s H args us vs Q E _ _ _ _ h => (no vs H Q E h).elim⟩
theorem rec_good {prev : Fns} {pk : FnsK} {M : Mts} {d : Df} {L : Nat} {f : Addr} {fd : FuncData} (W : Wd P w K mg base T) (hp : Prev P w K mg base L prev pk M) (hm : mg d.x = some (.ref f)) (F : FunD K d.x d.qn d.params d.body d.scope [] d.kwV f fd) (sc : FnScope d.N d.ps d.scope) (bd : Binds K fd d.ps [])
    (den : ∀ m, dSs 60 (d.ct T ([(d.x, (d.ps.length, m))] ++ prev) pk M) d.body = some (d.br m)) : ∀ n, FnOk P w K mg base (L2.CX P w) (L + n) f fd d.ps (spOf K mg d.ps.length (recM d.ps.length d.N.length d.br n))
  | 0 => bad_good
  | n + 1 => by
    have ih := rec_good W hp hm F sc bd den n
    have hle : L ≤ L + n := by omega
    refine body_good (L := L + n) (prev := [(d.x, (d.ps.length, recM d.ps.length d.N.length d.br n))] ++ prev) W ⟨fun x m e => ?_, fun x q e => (hp.k x q e).mono hle, hp.m.mono hle⟩ F sc (den _)
    have e : List.lookup x ((d.x, (d.ps.length, recM d.ps.length d.N.length d.br n)) :: prev) = some m := e
    rw [List.lookup_cons] at e
    split at e
    · rename_i hx
      have hx : x = d.x := by simpa using hx
      cases e
      refine ⟨⟨f, fd, d.ps, by rw [hx]; exact hm, F.kp, bd, ih⟩, ?_⟩
      cases n with
      | zero => intro args h z; exact (z rfl).elim
      | succ n => exact runFn_ar
    · exact (hp.f x m e).mono hle
theorem kw_bind {d : Df} {q : Str × Int} {f : Addr} {fd : FuncData} (hk : d.kw = some q) (F : FunD K d.x d.qn d.params d.body d.scope [] d.kwV f fd) (hb : d.BindOk) : ∃ u n, Binds K fd d.ps [u] ∧ RelV (.int q.2) u ∧ KBn K fd d.ps n [q.1] (fun us ws => us ++ ws) (fun vs zs => vs ++ zs) ∧ d.ps.length = n + 1 := by
  unfold Df.BindOk at hb
  rw [hk] at hb
  obtain ⟨n, h1, _, h2, h3⟩ := hb
  have ev : d.kwV = [(q.1, .int q.2)] := by unfold Df.kwV; rw [hk]
  rw [ev] at F
  obtain ⟨ds, r, b⟩ := F.binds0 (ps := d.ps) n (by simp) (by simp [h1]) (fun D doc pm an cdv ct us ks l1 l2 => h2 D doc pm an cdv ct us ks l1 (by simpa using l2))
  cases r with
  | cons r1 r2 =>
    cases r2
    refine ⟨_, n, b, r1, ⟨fun s us ws X l1 l2 => ?_, fun a b => a.append b⟩, h1⟩
    obtain ⟨oc, od, dV, kV, doc, pm, an, cdv, ct, osl, rfl, lk, hcd, hD, hK⟩ := F.ex
    rcases hD with ⟨_, rfl⟩ | ⟨e, _⟩
    · exact .of_eq (h3 kV doc pm an cdv ct us ws l1 (by simpa using l2))
    · exact absurd rfl e
/-- where a def stands -/
def Df.In (K : PySem.W.Frag) (mg : Str → Option Value) (d : Df) (f : Addr) : Prop := match d.at_ with
  | none => mg d.x = some (.ref f)
  | some _ => PySem.W.findIn K (.ref (roomC K)) d.x = some (some (.ref f)) ∧ PySem.W.isFn K (.ref f) = true ∧ (d.x = "__init__" → Mk K (roomC K) f)
theorem def_ok {prev : Fns} {pk : FnsK} {M : Mts} {d : Df} {L : Nat} {f : Addr} {fd : FuncData} (W : Wd P w K mg base T) (hp : Prev P w K mg base L prev pk M) (hm : d.In K mg f) (F : FunD K d.x d.qn d.params d.body d.scope [] d.kwV f fd) (o : d.Ok T prev pk M) :
    FnOk P w K mg base (L2.CX P w) (L + (d.fuel + 1)) f fd d.ps (spOf K mg d.ps.length d.m) ∧ ∀ args h, d.m args h ≠ .bad → args.length = d.ps.length := by
  have den := o.den
  unfold Df.self at den
  unfold Df.m
  cases hf : d.fuel with
  | zero =>
    rw [hf] at den
    exact ⟨body_good (prev := prev) W hp F o.sc (den badFn), runFn_ar⟩
  | succ n =>
    rw [hf] at den
    refine ⟨?_, runFn_ar⟩
    have mk := o.mok
    unfold Df.MOk at mk
    cases ha : d.at_ with
    | some q => rw [ha] at mk; rw [hf] at mk; exact absurd mk.1 (by omega)
    | none =>
      unfold Df.In at hm
      rw [ha] at hm
      have bd := o.bind
      unfold Df.BindOk at bd
      cases hk : d.kw with
      | none =>
        rw [hk] at bd
        have ev : d.kwV = [] := by unfold Df.kwV; rw [hk]
        have F' := F
        rw [ev] at F'
        exact (rec_good W hp hm F o.sc (F'.bindsN bd) den (n + 1)).mono (by omega)
      | some q =>
        rw [hk] at bd
        obtain ⟨_, _, z, _⟩ := bd
        rw [hf] at z
        cases z
theorem def_okO {prev : Fns} {pk : FnsK} {M : Mts} {d : Df} {L : Nat} {f : Addr} {fd : FuncData} (W : Wd P w K mg base T) (hp : Prev P w K mg base L prev pk M) (F : FunD K d.x d.qn d.params d.body d.scope [] d.kwV f fd) (o : d.Ok T prev pk M) (hf : d.fuel = 0) :
    FnOk P w K mg base (L2.CX P w) (L + 1) f fd d.ps (spOfO K mg d.ps.length d.mO) := by
  have den := o.den
  unfold Df.self at den
  rw [hf] at den
  exact body_goodO (prev := prev) W hp F o.sc (den badFn)
/-- one def more -/
theorem Prev.add {prev : Fns} {pk : FnsK} {M : Mts} {d0 : Df} {L : Nat} (W : Wd P w K mg base T) (hp : Prev P w K mg base L prev pk M) (h0 : ∃ f fd, d0.In K mg f ∧ FunD K d0.x d0.qn d0.params d0.body d0.scope [] d0.kwV f fd) (ok1 : d0.Ok T prev pk M) : Prev P w K mg base (L + d0.lv) (d0.addF prev) (d0.addK pk) (d0.addM M) := by
  obtain ⟨f0, fd0, h1, F0⟩ := h0
  obtain ⟨g1, g2⟩ := def_ok W hp h1 F0 ok1
  have mk := ok1.mok
  unfold Df.MOk at mk
  unfold Df.In at h1
  unfold Df.lv Df.addF Df.addK Df.addM
  cases ha : d0.at_ with
  | none =>
    rw [ha] at h1
    dsimp only at h1 ⊢
    have hp' := hp.mono (L' := L + (d0.fuel + 1)) (by omega)
    cases hk : d0.kw with
    | none =>
      have bd := ok1.bind
      unfold Df.BindOk at bd
      rw [hk] at bd
      have ev : d0.kwV = [] := by unfold Df.kwV; rw [hk]
      have F0' := F0
      rw [ev] at F0'
      refine ⟨fun x m e => ?_, hp'.k, hp'.m⟩
      dsimp only at e
      rw [List.lookup_cons] at e
      split at e
      · rename_i hx
        have hx : x = d0.x := by simpa using hx
        cases e
        exact ⟨⟨f0, fd0, d0.ps, by rw [hx]; exact h1, F0.kp, F0'.bindsN bd, g1⟩, g2⟩
      · exact hp'.f x m e
    | some q0 =>
      obtain ⟨u, n, b1, b2, b3, b4⟩ := kw_bind hk F0 ok1.bind
      refine ⟨hp'.f, fun x q e => ?_, hp'.m⟩
      dsimp only at e
      rw [List.lookup_cons] at e
      split at e
      · rename_i hx
        have hx : x = d0.x := by simpa using hx
        cases e
        exact ⟨⟨f0, fd0, d0.ps, _, u, n, by rw [hx]; exact h1, F0.kp, b1, b2, fun _ => .int _, b3, b4, g1⟩, g2⟩
      · exact hp'.k x q e
  | some qn =>
    rw [ha] at h1 mk
    dsimp only at h1 mk ⊢
    obtain ⟨m1, m2, m3⟩ := h1
    obtain ⟨hf, hkw, hin⟩ := mk
    have hp' := hp.mono (L' := L + (d0.fuel + 3)) (by omega)
    have M0 : Meth K (roomC K) d0.x f0 := ⟨m1, m2, F0.kp⟩
    have g1' : FnOk P w K mg base (L2.CX P w) (L + (d0.fuel + 3)) f0 fd0 d0.ps (spOf K mg d0.ps.length d0.m) := g1.mono (by omega)
    have bz : d0.kw = none → Binds K fd0 d0.ps [] := fun hk => by
      have bd := ok1.bind
      unfold Df.BindOk at bd
      rw [hk] at bd
      have ev : d0.kwV = [] := by unfold Df.kwV; rw [hk]
      have F0' := F0
      rw [ev] at F0'
      exact F0'.bindsN bd
    have plain : PrevM P w K mg base (L + (d0.fuel + 3)) (match d0.kw with
      | some q => { M with mtk := (d0.x, (d0.ps.length, d0.m, q.1, .int q.2)) :: M.mtk, mts := (d0.x, mDef d0.m (.int q.2)) :: M.mts }
      | none => { M with mts := (d0.x, d0.m) :: M.mts, own := (d0.x, d0.m) :: M.own }) := by
      cases hk : d0.kw with
      | some q0 =>
        obtain ⟨u, n, b1, b2, b3, b4⟩ := kw_bind hk F0 ok1.bind
        refine ⟨hp'.m.ini, fun x m e => ?_, fun x q e => ?_, hp'.m.mto, hp'.m.own⟩
        · dsimp only at e
          rw [List.lookup_cons] at e
          split at e
          · rename_i hx
            have hx : x = d0.x := by simpa using hx
            cases e
            subst hx
            refine ⟨f0, M0, n, [.int q0.2], _, ⟨f0, fd0, d0.ps, [u], rfl, F0.kp, b1, .cons b2 .nil, g1'⟩, fun vs H Q E z => ?_, fun args h z => ?_⟩
            · obtain ⟨l, F, α, args, h, q1, q2, q3, q4, q5⟩ := z
              exact ⟨by rw [List.length_append, l, b4]; rfl, F, α, args ++ [.dat (.int q0.2)], h, q1, q2, q3, paired_app q4 (.cons (show ArgOk K F α _ (.dat (.int q0.2)) from .int _) .nil), q5⟩
            · have := g2 _ h z
              rw [List.length_append, b4] at this
              simpa using this
          · exact hp'.m.mts x m e
        · dsimp only at e
          rw [List.lookup_cons] at e
          split at e
          · rename_i hx
            have hx : x = d0.x := by simpa using hx
            cases e
            subst hx
            exact ⟨⟨f0, fd0, d0.ps, n, M0, b3, b4, g1'⟩, g2⟩
          · exact hp'.m.mtk x q e
      | none =>
        refine ⟨hp'.m.ini, fun x m e => ?_, hp'.m.mtk, hp'.m.mto, fun x m e => ?_⟩
        · dsimp only at e
          rw [List.lookup_cons] at e
          split at e
          · rename_i hx
            have hx : x = d0.x := by simpa using hx
            cases e
            subst hx
            exact ⟨f0, M0, d0.ps.length, [], _, ⟨f0, fd0, d0.ps, [], rfl, F0.kp, bz hk, .nil, g1'⟩, fun vs H Q E z => by rw [List.append_nil]; exact z, g2⟩
          · exact hp'.m.mts x m e
        · dsimp only at e
          rw [List.lookup_cons] at e
          split at e
          · rename_i hx
            have hx : x = d0.x := by simpa using hx
            cases e
            subst hx
            exact ⟨L + (d0.fuel + 1), _, by omega, ⟨f0, fd0, d0.ps, m1, m2, bz hk, g1⟩, g2⟩
          · exact hp'.m.own x m e
    refine ⟨hp'.f, hp'.k, ?_⟩
    split
    · rename_i h1k
      refine ⟨fun m e => ?_, hp'.m.mts, hp'.m.mtk, hp'.m.mto, hp'.m.own⟩
      cases e
      exact ⟨f0, fd0, d0.ps, _, L + (d0.fuel + 1), m3 (hin h1k), bz (hkw (by omega)), by omega, g1, g2⟩
    · rename_i h2k
      refine ⟨hp'.m.ini, hp'.m.mts, hp'.m.mtk, fun x m e => ?_, hp'.m.own⟩
      dsimp only at e
      rw [List.lookup_cons] at e
      split at e
      · rename_i hx
        have hx : x = d0.x := by simpa using hx
        cases e
        subst hx
        exact ⟨f0, d0.ps.length, _, M0, ⟨f0, fd0, d0.ps, [], rfl, F0.kp, bz (hkw (by omega)), .nil, (def_okO W hp F0 ok1 hf).mono (by omega)⟩, fun vs H Q E z => z, runFnO_ar⟩
      · exact hp'.m.mto x m e
    · exact plain
theorem chain (W : Wd P w K mg base T) : ∀ {ds : List Df} {prev : Fns} {pk : FnsK} {M : Mts} {L : Nat}, Prev P w K mg base L prev pk M → (∀ d ∈ ds, ∃ f fd, d.In K mg f ∧ FunD K d.x d.qn d.params d.body d.scope [] d.kwV f fd) → OkAll T prev pk M ds →
    ∀ d ∈ ds, ∀ f fd, d.In K mg f → FunD K d.x d.qn d.params d.body d.scope [] d.kwV f fd → FnOk P w K mg base (L2.CX P w) (L + lvs ds) f fd d.ps (spOf K mg d.ps.length d.m)
  | [], _, _, _, _, _, _, _, d, hd, _, _, _, _ => by simp at hd
  | d0 :: ds, prev, pk, M, L, hp, hf, ok, d, hd, f, fd, hm, F => by
    obtain ⟨ok1, ok2⟩ := ok
    have hl : d0.fuel + 1 ≤ d0.lv := by unfold Df.lv; split <;> omega
    rcases List.mem_cons.mp hd with rfl | hd
    · exact (def_ok W hp hm F ok1).1.mono (by rw [lvs]; omega)
    · have := chain W (ds := ds) (hp.add W (hf d0 List.mem_cons_self) ok1) (fun d hd => hf d (List.mem_cons_of_mem _ hd)) ok2 d hd f fd hm F
      rw [lvs, ← Nat.add_assoc]
      exact this
end
/-- no list is one of the module's own objects -/
def noList (K : PySem.W.Frag) : Bool := K.all fun q => match q.2.cls with
  | .type c => !decide (c = "list")
  | _ => true
theorem lookup_mem {a : Addr} {o : Obj} : ∀ {l : List (Addr × Obj)}, l.lookup a = some o → (a, o) ∈ l
  | [], h => by cases h
  | (b, u) :: r, h => by
    rw [List.lookup_cons] at h
    split at h
    · rename_i hx
      cases h
      have hx : a = b := by simpa using hx
      subst hx
      exact List.mem_cons_self
    · exact List.mem_cons_of_mem _ (lookup_mem h)
theorem rd_of {K : PySem.W.Frag} {H : Hp} {a : Addr} {xs : List V} (n : noList K = true) (h : SqL K H a xs) : Rd H a (.lst xs) := by
  rcases h with h | ⟨o, its, m, hk, hc, _⟩
  · exact h
  · have z := List.all_eq_true.mp n _ (lookup_mem hk)
    rw [hc] at z
    simp at z
/-- the law's own promise, from its plain meaning -/
theorem law_sp {K : PySem.W.Frag} {mg : Str → Option Value} {m : FnDen} {H : Hp} {a : Addr} {ns : List Int} (hl : ns.length ≤ 63) (hS : Rd H a (.lst (ns.map V.int))) (hm : ∃ h', m [.dat (.list (ns.map PyData.int))] [] = .ok (.bool true) h') :
    spOf K mg 1 m [.ref a] H (fun v _ => v = .bl true) fun _ _ _ => False := by
  obtain ⟨h', hm⟩ := hm
  have ra : ∀ l : List Int, RpAll K H (l.map V.int) (l.map PyData.int) := fun l => by
    induction l with
    | nil => exact .nil
    | cons x r ih => exact .cons (.int x) ih
  refine ⟨rfl, H, [], [.dat (.list (ns.map PyData.int))], [], same_refl, by simp, ⟨⟨rfl, fun n p o e => by simp at e⟩, ⟨List.nodup_nil, fun _ h => (nomatch h), fun _ h => (nomatch h), fun _ h => (nomatch h)⟩⟩, .cons (.lst hS (ra ns) ?_) .nil, ?_⟩
  · rw [List.length_map]
    exact Nat.le_trans hl (by rw [sizeLine_eq]; decide)
  · rw [hm]
    intro v F' H' _ _ hv
    cases hv
    rfl
end Ev
/-! # Ev23: the head and the end -/
namespace L2
open PySem PySem.Spec PyProof.Rows
theorem walk_ofW {l : PySem.W.OpenLaw} {n k : Nat} {q : Program} {loose : List Str} {XP : (Str → Option Value) → Heap → Prop} {YP : World → Heap → Prop} {d : DefRec} {CX : World → CXT} {x : Str}
    (hn : l.most = some n) (hn2 : n ≤ sizeLine) (hdf : d.params.defaults = []) (hr : Room k callerA)
    (F : ∀ (w : World) (mg : Str → Option Value) (fa : Addr) (h : Heap), YP w h → h.Ns mainGlobals mg → mg d.name = some (.ref fa) →
      ∃ (K : PySem.W.Frag) (fd : FuncData) (sp : Sp), K.In h ∧ (∀ (s : Shared) (u : Value), BindsTo s fd ⟨[u], []⟩ [(x, u)]) ∧
        (∀ (H : Hp) (a : Addr) (ns : List Int), ns.length ≤ n → Only H → SqL K H a (ns.map V.int) → sp [.ref a] H (fun v _ => v = .bl true) fun _ _ _ => False) ∧
        ∀ base : Heap, K.In base → base.Ns mainGlobals mg → FnOk l.prog w K mg base (CX w) k fa fd [x] sp)
    (hCX : ∀ (w : World) (H : Hp) (s : Shared) (e : Value) (s' : Shared), CX w [] H s (fun _ _ _ => False) e s' → False) :
    PySem.W.WalkO q loose XP YP l.row.toRowW d [] (fun f vs => PySem.call f vs) := by
  refine Att.attach_call hn hdf fun w s₀ s₁ mg mb fa o pm cd doc a vs ns G Y ho hd hcd hmg hobj hints hlen hg => ?_
  obtain ⟨K, fd, sp, KX, hb, hsp, hF⟩ := F w mg fa _ Y G.T.g hmg
  exact law_call KX G.T.g G.T.b G.T.builtins G.T.nolimit hg hobj hints (Nat.le_trans hlen hn2) hr hF hb (fun H hO hS => hsp H a ns hlen hO hS) fun H e s' => hCX w H s₁ e s'
end L2
namespace Ev
open PySem PySem.Spec PyProof.Rows L2
def dvOf : D → Option He.Dv
  | .none => some .non
  | .bool b => some (.bl b)
  | .int i => some (.int i)
  | .str x => some (.str x)
  | _ => none
def dvsOf : List D → Option (List He.Dv)
  | [] => some []
  | d :: r => (match dvOf d, dvsOf r with
    | some v, some vs => some (v :: vs)
    | _, _ => none)
def constB (K : PySem.W.Frag) (x : Str) : D → Bool
  | .int i => (He.Fa.int x i).ok K
  | .str z => (He.Fa.str x z).ok K
  | .tuple ds => (match dvsOf ds with
    | some vs => (He.Fa.glo x).ok K && (He.tupB K x vs && decide (ds.length ≤ 1000))
    | none => false)
  | _ => false
theorem dv_rp {K : PySem.W.Frag} {F : Hp} {d : D} {v : He.Dv} (e : dvOf d = some v) : Rp K F (v.v K) d := by
  cases d <;> simp [dvOf] at e <;> subst e
  · exact .non
  · exact .bl _
  · exact .int _
  · exact .str _
theorem dvs_nobr : ∀ {ds : List D} {vs : List He.Dv}, dvsOf ds = some vs → brn ds = false
  | [], _, _ => rfl
  | d :: r, vs, e => by
    unfold dvsOf at e
    split at e
    · rename_i v vs' e1 e2
      cases d <;> first | rfl | (simp [dvOf] at e1)
    · cases e
theorem dvs_rp {K : PySem.W.Frag} {F : Hp} : ∀ {ds : List D} {vs : List He.Dv}, dvsOf ds = some vs → RpAll K F (vs.map (He.Dv.v K)) ds
  | [], _, e => by cases e; exact .nil
  | d :: r, vs, e => by
    unfold dvsOf at e
    split at e
    · rename_i v vs' e1 e2
      cases e
      exact .cons (dv_rp e1) (dvs_rp e2)
    · cases e
section
variable {K : PySem.W.Frag} {h : Heap} {mg : Str → Option Value}
theorem const_ok (X : K.In h) (G : h.Ns mainGlobals mg) {x : Str} {d : D} (c : constB K x d = true) : ∃ v u, mg x = some u ∧ RelV v u ∧ ∀ F, Rp K F v d := by
  unfold constB at c
  split at c
  · obtain ⟨t, e⟩ := He.int_ok X G c
    exact ⟨.int _, _, e, ⟨t, rfl⟩, fun _ => .int _⟩
  · obtain ⟨t, e⟩ := He.str_ok X G c
    exact ⟨.str _, _, e, ⟨t, rfl⟩, fun _ => .str _⟩
  · split at c
    · rename_i vs e
      obtain ⟨c1, c2⟩ := He.ba c
      obtain ⟨c3, c4⟩ := He.ba c2
      have c4 := of_decide_eq_true c4
      exact ⟨.ref (He.ga K x), _, He.glo_ok X G c1, rfl, fun F => .tup (He.tupB_ok c3 F) (dvs_rp e) (Nat.le_trans c4 (by rw [sizeLine_eq]; decide)) (fun z => by rw [dvs_nobr e] at z; cases z)⟩
    · cases c
  · cases c
def isBt : Option (Option Value) → String → Bool
  | some (some (.builtin x)), y => decide (x = y)
  | _, _ => false
theorem isBt_of {o : Option (Option Value)} {y : String} (h : isBt o y = true) : o = some (some (.builtin y)) := by
  unfold isBt at h
  split at h
  · rw [of_decide_eq_true h]
  · cases h
def isNn : Option (Option Value) → Bool
  | some none => true
  | _ => false
theorem isNn_of {o : Option (Option Value)} (h : isNn o = true) : o = some none := by
  unfold isNn at h
  split at h
  · rfl
  · cases h
def excCB (K : PySem.W.Frag) (D : Addr) : Bool := isBt (PySem.W.findIn K (.ref D) "__getattribute__") "BaseException.__getattribute__" && (isNn (PySem.W.findIn K (.ref D) "__getattr__") && (decide (PySem.W.subIn K (.ref D) (.type "BaseException") = some true) && (PySem.W.hasDictIn K D &&
  (isBt (PySem.W.findIn K (.ref D) "__class__") "object.__class__" && (isBt (PySem.W.specialIn K (.builtin "object.__class__") "__get__") "getset_descriptor.__get__" && (decide (PySem.W.takesIn K (.builtin "object.__class__") = some true) && decide (PySem.W.mroIn K D (.type "object") = some true)))))))
theorem excC_of {K : PySem.W.Frag} {D : Addr} (h : excCB K D = true) : ExcC K D := by
  obtain ⟨h1, h⟩ := He.ba h
  obtain ⟨h2, h⟩ := He.ba h
  obtain ⟨h3, h⟩ := He.ba h
  obtain ⟨h4, h⟩ := He.ba h
  obtain ⟨h5, h⟩ := He.ba h
  obtain ⟨h6, h⟩ := He.ba h
  obtain ⟨h7, h8⟩ := He.ba h
  exact ⟨isBt_of h1, isNn_of h2, of_decide_eq_true h3, h4, isBt_of h5, isBt_of h6, of_decide_eq_true h7, of_decide_eq_true h8⟩
def catB (T : Tp) (K : PySem.W.Frag) : Bool := T.cat.all fun q => (He.Fa.glo q.1).ok K && q.2.all fun y => (He.Fa.glo y).ok K && (He.Fa.exm y q.1 true).ok K
def whkB (T : Tp) (K : PySem.W.Frag) : Bool := match T.wh with
  | none => true
  | some d => (He.Fa.free "isinstance").ok K && ((He.Fa.free "ValueError").ok K && ((He.Fa.glo d.x).ok K && d.cs.all fun y => (He.Fa.glo y).ok K && (excCB K (He.ga K y) && (decide (PySem.W.kitOne K (.ref (He.ga K y)) (.type "ValueError") = some true) && d.cs.all fun z => decide (PySem.W.kitOne K (.ref (He.ga K y)) (.ref (He.ga K z)) = some (decide (y = z)))))))
theorem catB_of {K : PySem.W.Frag} {h : Heap} {mg : Str → Option Value} {T : Tp} (X : K.In h) (G : h.Ns mainGlobals mg) (c : catB T K = true) {x : Str} {cs : List Str} (e : T.cat.lookup x = some cs) : ∃ c, mg x = some c ∧ ∀ y ∈ cs, ∀ cv, mg y = some cv → PySem.W.exmOne K cv c = some true := by
  have m : ∀ {l : List (Str × List Str)}, l.lookup x = some cs → (x, cs) ∈ l := fun {l} => by
    induction l with
    | nil => intro e; cases e
    | cons p r ih =>
      intro e
      rw [List.lookup_cons] at e
      split at e
      · rename_i hx
        cases e
        have hx : x = p.1 := by simpa using hx
        rw [hx]
        exact List.mem_cons_self
      · exact List.mem_cons_of_mem _ (ih e)
  obtain ⟨c1, c2⟩ := He.ba (List.all_eq_true.mp c _ (m e))
  refine ⟨_, He.glo_ok X G c1, fun y hy cv hcv => ?_⟩
  obtain ⟨d1, d2⟩ := He.ba (List.all_eq_true.mp c2 y hy)
  rw [He.glo_ok X G d1] at hcv
  cases hcv
  exact He.exm_ok d2
theorem whkB_of {K : PySem.W.Frag} {h : Heap} {mg : Str → Option Value} {T : Tp} (X : K.In h) (G : h.Ns mainGlobals mg) (c : whkB T K = true) {d : WhD} (e : T.wh = some d) : WhK K mg d.cs ∧ mg "isinstance" = none ∧ mg "ValueError" = none ∧ mg d.x = some (.ref (He.ga K d.x)) := by
  unfold whkB at c
  rw [e] at c
  obtain ⟨c1, c⟩ := He.ba c
  obtain ⟨c2, c⟩ := He.ba c
  obtain ⟨c3, c⟩ := He.ba c
  have at_ : ∀ y ∈ d.cs, (He.Fa.glo y).ok K = true ∧ excCB K (He.ga K y) = true ∧ PySem.W.kitOne K (.ref (He.ga K y)) (.type "ValueError") = some true ∧ ∀ z ∈ d.cs, PySem.W.kitOne K (.ref (He.ga K y)) (.ref (He.ga K z)) = some (decide (y = z)) := fun y hy => by
    obtain ⟨d1, q⟩ := He.ba (List.all_eq_true.mp c y hy)
    obtain ⟨d2, q⟩ := He.ba q
    obtain ⟨d3, d4⟩ := He.ba q
    exact ⟨d1, d2, of_decide_eq_true d3, fun z hz => of_decide_eq_true (List.all_eq_true.mp d4 z hz)⟩
  refine ⟨⟨fun y hy => ?_, fun y hy z hz D D' h1 h2 => ?_⟩, He.free_ok X G c1, He.free_ok X G c2, He.glo_ok X G c3⟩
  · obtain ⟨d1, d2, d3, _⟩ := at_ y hy
    exact ⟨_, He.glo_ok X G d1, excC_of d2, d3⟩
  · obtain ⟨d1, _, _, d4⟩ := at_ y hy
    obtain ⟨e1, _⟩ := at_ z hz
    rw [He.glo_ok X G d1] at h1
    rw [He.glo_ok X G e1] at h2
    cases h1
    cases h2
    exact d4 z hz
def exB0 (T : Tp) (xs : List Str) (K : PySem.W.Frag) : Bool := noList K && (T.cs.all (fun q => constB K q.1 q.2) && (T.ex.all (fun x => (He.Fa.glo x).ok K && (He.Fa.exc x).ok K) && (T.bl.all (fun x => (He.Fa.free x).ok K) && xs.all (fun x => (He.Fa.glo x).ok K))))
def kvDv : List (Str × D) → Option (List (Str × He.Dv))
  | [] => some []
  | (k, d) :: r => match dvOf d, kvDv r with
    | some v, some vs => some ((k, v) :: vs)
    | _, _ => none
def dcB (K : PySem.W.Frag) (q : Str × List (Str × D)) : Bool := (He.Fa.glo q.1).ok K && (match kvDv q.2 with
  | some kvs => He.valsB K (He.ga K q.1) kvs
  | none => false)
def tabsOf (T : Tp) : List He.Tab := T.dcs.map fun q => (fun K => He.ga K q.1, q.2.map (·.1))
/-- the class of classrooms -/
def tyNames : List String := ["NoneType", "bool", "int", "str", "list", "tuple"]
def rmB (K : PySem.W.Frag) : Bool := (He.Fa.glo "Room").ok K && ((He.Fa.cls "Room").ok K && ((He.Fa.noat "Room" "school").ok K && ((He.Fa.noat "Room" "rows").ok K && ((He.Fa.noat "Room" "past").ok K && ((He.Fa.noat "Room" "calls").ok K && ((He.Fa.mkr "Room").ok K &&
  (He.eqO (PySem.W.findIn K (.ref (roomC K)) "__class__") (some (some (.builtin "object.__class__"))) && (He.eqO (PySem.W.specialIn K (.builtin "object.__class__") "__get__") (some (some (.builtin "getset_descriptor.__get__"))) && (decide (PySem.W.takesIn K (.builtin "object.__class__") = some true) && (decide (PySem.W.mroIn K (roomC K) (.type "object") = some true) &&
  (decide (PySem.W.kitOne K (.ref (roomC K)) (.ref (roomC K)) = some true) && tyNames.all fun n => decide (PySem.W.kitOne K (.type n) (.ref (roomC K)) = some false) && PySem.W.notFirst K (roomC K) (.type n))))))))))))
def roomB (T : Tp) (ms : List Str) (K : PySem.W.Frag) : Bool := match T.room with
  | false => ms.isEmpty
  | true => rmB K && ms.all fun m => (He.Fa.meth "Room" m).ok K
theorem tyName_mem {d : D} {n : String} (h : tyName d = some n) : n ∈ tyNames := by
  cases d <;> simp [tyName] at h <;> subst h <;> decide
theorem rmB_of {K : PySem.W.Frag} {h : Heap} {mg : Str → Option Value} (X : K.In h) (G : h.Ns mainGlobals mg) (c : rmB K = true) : RmK K ∧ RmJ K mg ∧ Mk K (roomC K) (He.ma K (roomC K) "__init__") := by
  obtain ⟨c1, c⟩ := He.ba c
  obtain ⟨c2, c⟩ := He.ba c
  obtain ⟨c3, c⟩ := He.ba c
  obtain ⟨c4, c⟩ := He.ba c
  obtain ⟨c5, c⟩ := He.ba c
  obtain ⟨c6, c⟩ := He.ba c
  obtain ⟨c7, c⟩ := He.ba c
  obtain ⟨c8, c⟩ := He.ba c
  obtain ⟨c9, c⟩ := He.ba c
  obtain ⟨c10, c⟩ := He.ba c
  obtain ⟨c11, c⟩ := He.ba c
  obtain ⟨c12, c13⟩ := He.ba c
  exact ⟨⟨He.cls_ok c2, He.noat_ok c3, He.noat_ok c4, He.noat_ok c5, He.noat_ok c6⟩, ⟨He.glo_ok X G c1, He.eqO_ok c8, He.eqO_ok c9, of_decide_eq_true c10, of_decide_eq_true c11, of_decide_eq_true c12, fun d n e => of_decide_eq_true (He.ba (List.all_eq_true.mp c13 n (tyName_mem e))).1, fun d n e => (He.ba (List.all_eq_true.mp c13 n (tyName_mem e))).2⟩, He.mkr_ok c7⟩
theorem roomB_of {T : Tp} {ms : List Str} {K : PySem.W.Frag} {h : Heap} {mg : Str → Option Value} (X : K.In h) (G : h.Ns mainGlobals mg) (c : roomB T ms K = true) : (T.room = true → RmK K ∧ RmJ K mg) ∧ ∀ m ∈ ms, Meth K (roomC K) m (He.ma K (roomC K) m) ∧ (m = "__init__" → Mk K (roomC K) (He.ma K (roomC K) m)) := by
  unfold roomB at c
  cases e : T.room with
  | false =>
    rw [e] at c
    have c : ms.isEmpty = true := c
    refine ⟨fun z => (by cases z), fun m hm => ?_⟩
    rw [List.isEmpty_iff.mp c] at hm
    cases hm
  | true =>
    rw [e] at c
    obtain ⟨c1, c2⟩ := He.ba c
    obtain ⟨r1, r2, r3⟩ := rmB_of X G c1
    exact ⟨fun _ => ⟨r1, r2⟩, fun m hm => ⟨He.meth_ok (List.all_eq_true.mp c2 m hm), fun z => by rw [z]; exact r3⟩⟩
def exB (T : Tp) (xs ms : List Str) (K : PySem.W.Frag) : Bool := roomB T ms K && (T.dcs.all (dcB K) && (catB T K && (whkB T K && exB0 T xs K)))
theorem kv_at : ∀ {kvs : List (Str × D)} {vs : List (Str × He.Dv)} {k : Str} {d : D}, kvDv kvs = some vs → getS kvs k = some d → ∃ v, (k, v) ∈ vs ∧ dvOf d = some v
  | [], _, _, _, _, e => by cases e
  | (k0, d0) :: r, vs, k, d, h, e => by
    unfold kvDv at h
    split at h
    · rename_i v vs' e1 e2
      cases h
      unfold getS at e
      split at e
      · rename_i hk
        cases e
        subst hk
        exact ⟨v, List.mem_cons_self, e1⟩
      · obtain ⟨v', m, z⟩ := kv_at e2 e
        exact ⟨v', List.mem_cons_of_mem _ m, z⟩
    · cases h
theorem look_mem {β : Type} {x : Str} {d : β} : ∀ {l : List (Str × β)}, l.lookup x = some d → (x, d) ∈ l
  | [], e => by cases e
  | p :: r, e => by
    rw [List.lookup_cons] at e
    split at e
    · rename_i hx
      cases e
      have hx : x = p.1 := by simpa using hx
      rw [hx]
      exact List.mem_cons_self
    · exact List.mem_cons_of_mem _ (look_mem e)
theorem dcs_ok {w : World} {T : Tp} {fa : List He.Fa} {fn : List He.DefD} (X : K.In h) (G : h.Ns mainGlobals mg) (c : T.dcs.all (dcB K) = true) (t : He.SaysT fa fn (tabsOf T) w K) {x : Str} {kvs : List (Str × D)} (e : T.dcs.lookup x = some kvs) : DctOk K w mg x kvs := by
  have m := look_mem e
  obtain ⟨c1, c2⟩ := He.ba (List.all_eq_true.mp c _ m)
  obtain ⟨i, hi⟩ := List.mem_iff_getElem?.mp m
  obtain ⟨es, n, kd⟩ := t.tab i (t := (fun K => He.ga K x, kvs.map (·.1))) (by unfold tabsOf; rw [List.getElem?_map, hi]; rfl)
  refine ⟨He.ga K x, He.glo_ok X G c1, fun k d hk => ?_⟩
  split at c2
  · rename_i vs hv
    obtain ⟨v, hm, hd⟩ := kv_at hv hk
    obtain ⟨u, h1, h2⟩ := He.valsB_ok c2 hm
    exact ⟨v.v K, ⟨es, n, u, kd.at_, kd.lit, h1, h2⟩, fun F => dv_rp hd⟩
  · cases c2
theorem wd_of {T : Tp} {xs ms : List Str} (X : K.In h) (G : h.Ns mainGlobals mg) (c : exB T xs ms K = true) : WdK K mg T ∧ noList K = true ∧ ∀ x ∈ xs, mg x = some (.ref (He.ga K x)) := by
  obtain ⟨cr, c⟩ := He.ba c
  obtain ⟨_, c⟩ := He.ba c
  obtain ⟨k1, c⟩ := He.ba c
  obtain ⟨k2, c⟩ := He.ba c
  obtain ⟨c0, c⟩ := He.ba c
  obtain ⟨c1, c⟩ := He.ba c
  obtain ⟨c2, c⟩ := He.ba c
  obtain ⟨c3, c4⟩ := He.ba c
  refine ⟨⟨fun x d e => const_ok X G ?_, fun x hx => ?_, fun x hx => He.free_ok X G (List.all_eq_true.mp c3 x hx), fun x cs e => catB_of X G k1 e, fun d e => (by obtain ⟨w1, w2, w3, _⟩ := whkB_of X G k2 e; exact ⟨w1, w2, w3⟩), (roomB_of X G cr).1⟩, c0, fun x hx => He.glo_ok X G (List.all_eq_true.mp c4 x hx)⟩
  · have m : ∀ {l : List (Str × D)}, l.lookup x = some d → (x, d) ∈ l := fun {l} => by
      induction l with
      | nil => intro e; cases e
      | cons p r ih =>
        intro e
        rw [List.lookup_cons] at e
        split at e
        · rename_i hx
          cases e
          have hx : x = p.1 := by simpa using hx
          rw [hx]
          exact List.mem_cons_self
        · exact List.mem_cons_of_mem _ (ih e)
    exact List.all_eq_true.mp c1 _ (m e)
  · obtain ⟨d1, d2⟩ := He.ba (List.all_eq_true.mp c2 x hx)
    obtain ⟨e1, e2, e3, e4⟩ := He.exc_ok d2
    exact ⟨_, He.glo_ok X G d1, e1, e2, e3, e4⟩
end
def Df.wo (d : Df) : Str × Option Str := match d.at_ with
  | none => (d.x, none)
  | some _ => ("Room", some d.x)
def Df.he (d : Df) : He.DefD := ⟨d.wo, d.x, d.qn, d.params, d.body, d.scope, [], match d.kw with
  | none => []
  | some q => [(q.1, .int q.2)]⟩
def Df.gl (d : Df) : Option Str := match d.at_ with
  | none => some d.x
  | some _ => none
def Df.me (d : Df) : Option Str := match d.at_ with
  | none => none
  | some _ => some d.x
theorem he_kws (K : PySem.W.Frag) (d : Df) : He.DefD.kws K d.he = d.kwV := by
  unfold He.DefD.kws Df.he Df.kwV
  cases d.kw <;> rfl
def whHe : Option WhD → List He.DefD
  | none => []
  | some d => [⟨(d.x, none), d.x, d.x, d.params, d.body, d.scope, [], []⟩]
def whX : Option WhD → List Str
  | none => []
  | some d => [d.x]
abbrev heOf (T : Tp) (ds : List Df) : List He.DefD := whHe T.wh ++ ds.map Df.he
abbrev xsOf (T : Tp) (ds : List Df) : List Str := whX T.wh ++ ds.filterMap Df.gl
abbrev msOf (ds : List Df) : List Str := ds.filterMap Df.me
/-- the addresses: two steps from the globals; with classrooms, two more from the class alone -/
def lvlA (g : Addr → Option Obj) (as : List Addr) : List Addr := as.flatMap fun a => match g a with
  | some o => He.refsD o
  | none => []
def asR (T : Tp) (g : Addr → Option Obj) : List Addr := match T.room with
  | false => He.asD g 2
  | true => He.asD g 2 ++ (lvlA g (lvlA g [He.ga (He.frG g [mainGlobals]) "Room"]) ++ lvlA g (lvlA g (lvlA g [He.ga (He.frG g [mainGlobals]) "Room"])))
structure SaysY (fn : List He.DefD) (ts : List He.Tab) (ex : PySem.W.Frag → Bool) (w : World) (K : PySem.W.Frag) : Prop where
  t : He.SaysT [] fn ts w K
  more : ex K = true
def obsY (T : Tp) (fn : List He.DefD) (ts : List He.Tab) (ex : PySem.W.Frag → Bool) (g : Addr → Option Obj) : He.AlX := (He.obsT [] fn ts (He.frG g (asR T g)), ex (He.frG g (asR T g)))
theorem saysY_of {T : Tp} {fn : List He.DefD} {ts : List He.Tab} {ex : PySem.W.Frag → Bool} {w : World} {g : Addr → Option Obj} (e : obsY T fn ts ex g = He.valX fn ts w) : SaysY fn ts ex w (He.frG g (asR T g)) := ⟨congrArg (fun z : He.AlX => z.1) e, congrArg (fun z : He.AlX => z.2) e⟩
def hookY (T : Tp) (fn : List He.DefD) (ts : List He.Tab) (ex : PySem.W.Frag → Bool) : PySem.W.Hook where
  α := He.AlX
  obs := fun s => obsY T fn ts ex s.heap.get?
  val := fun w => He.valX fn ts w
  says := fun w h => ∃ K : PySem.W.Frag, K.In h ∧ SaysY fn ts ex w K
  of := fun _ _ e => ⟨_, He.frG_in, saysY_of e⟩
  keeps := fun _ _ _ ⟨K, hK, c⟩ k => ⟨K, PySem.W.Frag.In.keeps hK k, c⟩
theorem obsY_eq {T : Tp} {fn : List He.DefD} {ts : List He.Tab} {ex : PySem.W.Frag → Bool} {g : Addr → Option Obj} {s : Shared} (h : ∀ a, g a = s.heap.get? a) : obsY T fn ts ex g = (hookY T fn ts ex).obs s := by
  have e : g = s.heap.get? := funext h
  rw [e] <;> rfl
abbrev hkOf (T : Tp) (ds : List Df) : PySem.W.Hook := hookY T (heOf T ds) (tabsOf T) (exB T (xsOf T ds) (msOf ds))
/-- that def, as a text -/
structure WhT (d : WhD) : Prop where
  s : WhS d.cs d.body d.scope
  n : FnScope ["e", "own"] ["e"] d.scope
  b : ∀ (kV doc pm : Value) (an : Option Addr) (cdv ct : Value) (us : List Value), us.length = 1 → bindArgs (PySem.W.fnOf d.x d.x d.params d.body d.scope .none kV doc pm an cdv ct) ⟨us, []⟩ = pure ((["e"] : List Str).zip us)
def whSB (cs : List Str) (body : List Stmt) (scope : Scope) : Bool := (match whP body with
  | some (n1, n2, n3) => decide (cs = n1 ++ n2 ++ n3)
  | none => false) && (visB scope "e" && (visB scope "own" && (isLoc scope "own" && ((("isinstance" : Str) :: "ValueError" :: cs).all (fun x => glB scope x && nameOk x) && (cs.all (fun y => match ixS cs y 0 with
    | some i => whK (cs.map fun c => PyData.bool (decide (y = c))) i
    | none => true) && decide (cs.length ≤ 1000))))))
theorem whS_of {cs : List Str} {body : List Stmt} {scope : Scope} (h : whSB cs body scope = true) : WhS cs body scope := by
  obtain ⟨h1, h⟩ := He.ba h
  obtain ⟨h2, h⟩ := He.ba h
  obtain ⟨h3, h⟩ := He.ba h
  obtain ⟨h4, h⟩ := He.ba h
  obtain ⟨h5, h⟩ := He.ba h
  obtain ⟨h6, h7⟩ := He.ba h
  refine ⟨?_, vis_of h2, vis_of h3, ?_, fun x hx => ?_, fun y hy i hi => ?_, of_decide_eq_true h7⟩
  · split at h1
    · rename_i n1 n2 n3 e
      exact ⟨n1, n2, n3, e, of_decide_eq_true h1⟩
    · cases h1
  · unfold isLoc at h4
    split at h4
    · assumption
    · cases h4
  · obtain ⟨g1, g2⟩ := He.ba (List.all_eq_true.mp h5 x hx)
    refine ⟨?_, (nameOk_of g2).1⟩
    unfold glB at g1
    split at g1
    · assumption
    · cases g1
  · have z := List.all_eq_true.mp h6 y hy
    rw [hi] at z
    exact z
theorem end_of {P : Program} {T : Tp} {ds : List Df} {dl : Df} {w : World} {mg : Str → Option Value} {fa : Addr} {h : Heap} {k n : Nat} (hk : k = 0 + lvs ds) (hn : n ≤ 63) (hwh : ∀ d, T.wh = some d → WhT d) (ok : OkAll T [] [] {} ds) (hl : dl ∈ ds) (hat : dl.at_ = none) (hx : dl.x = "law") (hps : dl.ps = (["script"] : List Str))
    (hb : ∀ (kV doc pm : Value) (an : Option Addr) (cdv ct : Value) (us : List Value), us.length = dl.ps.length → bindArgs (PySem.W.fnOf dl.x dl.qn dl.params dl.body dl.scope .none kV doc pm an cdv ct) ⟨us, []⟩ = pure (dl.ps.zip us))
    (hm : ∀ ns : List Int, ns.length ≤ n → ∃ h', dl.m [.dat (.list (ns.map PyData.int))] [] = .ok (.bool true) h')
    (Y : (hkOf T ds).says w h) (G : h.Ns mainGlobals mg) (hmg : mg "law" = some (.ref fa)) :
    ∃ (K : PySem.W.Frag) (fd : FuncData) (sp : Sp), K.In h ∧ (∀ (s : Shared) (u : Value), BindsTo s fd ⟨[u], []⟩ [("script", u)]) ∧
        (∀ (H : Hp) (a : Addr) (ns : List Int), ns.length ≤ n → Only H → SqL K H a (ns.map V.int) → sp [.ref a] H (fun v _ => v = .bl true) fun _ _ _ => False) ∧
        ∀ base : Heap, K.In base → base.Ns mainGlobals mg → FnOk P w K mg base (L2.CX P w) k fa fd ["script"] sp := by
  obtain ⟨K, KX, c⟩ := Y
  obtain ⟨wd, nl, gl⟩ := wd_of KX G c.more
  have cm : (roomB T (msOf ds) K && (T.dcs.all (dcB K) && (catB T K && (whkB T K && exB0 T (xsOf T ds) K)))) = true := c.more
  obtain ⟨cr, cm2⟩ := He.ba cm
  obtain ⟨cd, _⟩ := He.ba cm2
  have wg : ∀ base, Wd P w K mg base T := fun base => ⟨wd, fun x kvs e => dcs_ok KX G cd c.t e, fun d e => by
    have hm := He.SaysD.defs (He.SaysT.d c.t) (d := ⟨(d.x, none), d.x, d.x, d.params, d.body, d.scope, [], []⟩) (List.mem_append_left _ (by rw [e]; exact List.mem_cons_self))
    obtain ⟨fd, F⟩ := hm
    have hg := gl d.x (List.mem_append_left _ (by rw [e]; exact List.mem_cons_self))
    obtain ⟨t1, t2, t3⟩ := hwh d e
    obtain ⟨w1, w2, w3⟩ := wd.whk d e
    exact ⟨_, fd, hg, F.kp, F.bindsN t3, which_good F t2 t1 w1 w2 w3⟩⟩
  have fs : ∀ d ∈ ds, ∃ f fd, d.In K mg f ∧ FunD K d.x d.qn d.params d.body d.scope [] d.kwV f fd := fun d hd => by
    obtain ⟨fd, F⟩ := He.SaysD.defs (He.SaysT.d c.t) (d := d.he) (List.mem_append_right _ (List.mem_map.mpr ⟨d, hd, rfl⟩))
    rw [he_kws] at F
    refine ⟨_, fd, ?_, F⟩
    unfold Df.In
    cases ha : d.at_ with
    | none =>
      have hw : d.he.at_ = (d.x, none) := by show d.wo = _; unfold Df.wo; rw [ha]
      rw [hw]
      exact gl d.x (List.mem_append_right _ (List.mem_filterMap.mpr ⟨d, hd, by unfold Df.gl; rw [ha]⟩))
    | some q =>
      have hw : d.he.at_ = (("Room" : Str), some d.x) := by show d.wo = _; unfold Df.wo; rw [ha]
      rw [hw]
      obtain ⟨m1, m2⟩ := (roomB_of KX G cr).2 d.x (List.mem_filterMap.mpr ⟨d, hd, by unfold Df.me; rw [ha]⟩)
      exact ⟨m1.at_, m1.fn, m2⟩
  obtain ⟨f, fd, hf, F⟩ := fs dl hl
  have hf' : mg dl.x = some (.ref f) := by
    have z := hf
    unfold Df.In at z
    rw [hat] at z
    exact z
  have e : (some (.ref fa) : Option Value) = some (.ref f) := by
    rw [← hmg, ← hf', hx]
  cases e
  have b := FunD.bindsA (ps := dl.ps) F hb
  refine ⟨K, fd, spOf K mg 1 dl.m, KX, fun s u => ?_, fun H a ns hle hO hS => law_sp (Nat.le_trans hle hn) (rd_of nl hS) (hm ns hle), fun base _ _ => ?_⟩
  · have z := b s [u] (by rw [hps]; rfl)
    rw [hps] at z
    exact z
  · have z := chain (P := P) (w := w) (base := base) (wg base) (prev := []) (pk := []) (M := {}) (L := 0) ⟨fun x m e => (by cases e), fun x q e => (by cases e), ⟨fun m e => (by cases e), fun x m e => (by cases e), fun x m e => (by cases e), fun x m e => (by cases e), fun x m e => (by cases e)⟩⟩ fs ok dl hl fa fd hf F
    rw [hps] at z
    rw [hk]
    exact z
/-- a class's statements -/
def clsBody : Stmt → List Stmt
  | .ClassDef _ _ _ body .. => body
  | _ => []
theorem no_cx {P : Program} (w : World) (H : Hp) (s : Shared) (e : Value) (s' : Shared) (z : L2.CX P w [] H s (fun _ _ _ => False) e s') : False := by
  obtain ⟨_, _, _, _, _, _, _, _, _, _, _, _, f⟩ := z
  exact f
end Ev
namespace Lb
open Ev PySem
def c_FACTORS : D := (.tuple [(.int 2), (.int 6)])
def c_TERMS : D := (.tuple [(.str "upper"), (.str "lower"), (.str "memory")])
def c_WORDS : D := (.tuple [(.str "plus"), (.str "minus"), (.str "most"), (.str "least")])
def c_TESTS : D := (.tuple [(.str "less"), (.str "same"), (.str "more")])
def c_SLIPS : D := (.int 4)
def c_LONG : D := (.int 40)
/-- is_whole(thing, low, high): 0 thing 1 low 2 high -/
def b_is_whole : DenS := (sRet (dAnd (op1 (.var 0) (lift1 (pIsi "int"))) (dAnd (dNot (op1 (.var 0) (lift1 (pIsi "bool")))) (dChain pLe pLe (.var 1) (.var 0) (.var 2)))))
def m_is_whole : FnDen := runFn 3 3 b_is_whole
/-- is_task(thing, base): 0 thing 1 base -/
def b_is_task : DenS := (sSeq (sIf (tOrD (tNotD (testOf (op1 (.var 0) (lift1 (pIsi "tuple"))))) (tOrD (testOf (op2 (.var 0) (.exp (dTup [])) (lift2 pEq))) (tNotD (testOf (op1 (.exp (op2 (.var 0) (.exp (dC (.int 0))) (lift2 pIx))) (lift1 (pIsi "str"))))))) (sRet (dC (.bool false))) sNop)
  (sSeq (sIf (tAndD (testOf (op2 (.exp (op2 (.var 0) (.exp (dC (.int 0))) (lift2 pIx))) (.exp (dC (.str "times"))) (lift2 pEq))) (testOf (op2 (.exp (op1 (.var 0) (lift1 pLen))) (.exp (dC (.int 2))) (lift2 pEq)))) (sRet (dCall m_is_whole [(.exp (op2 (.var 0) (.exp (dC (.int 1))) (lift2 pIx))), (.exp (op2 (.exp (dC c_FACTORS)) (.exp (dC (.int 0))) (lift2 pIx))), (.exp (op2 (.exp (op2 (.exp (dC c_FACTORS)) (.exp (dC (.int 1))) (lift2 pIx))) (.exp (op2 (.var 1) (.exp (dC (.int 1))) (lift2 pSub))) (lift2 pMin2)))])) sNop)
  (sRet (op2 (.var 0) (.exp (dTup [(dTup [(dC (.str "add"))]), (dTup [(dC (.str "take"))])])) (lift2 pIn)))))
def m_is_task : FnDen := runFn 2 2 b_is_task
/-- are_ends(thing, base, many): 0 thing 1 base 2 many 3 own 4 one -/
def b_are_ends : DenS := (sSeq (sIf (tOrD (tNotD (testOf (op1 (.var 0) (lift1 (pIsi "tuple"))))) (testOf (op2 (.exp (op1 (.var 0) (lift1 pLen))) (.var 2) (lift2 pNe)))) (sRet (dC (.bool false))) sNop)
  (sSeq (sFor (lOf (dVar 0)) (.name 3) (sIf (tOrD (tNotD (testOf (op1 (.var 3) (lift1 (pIsi "tuple"))))) (tOrD (testOf (op2 (.exp (op1 (.var 3) (lift1 pLen))) (.exp (dC (.int 2))) (lift2 pGt))) (tNotD (testOf (op1 (.exp (ofL (lComp [4] (lVar 3) (.name 4) tYesD (dCall m_is_whole [(.var 4), (.exp (dC (.int 0))), (.exp (op2 (.var 1) (.exp (dC (.int 1))) (lift2 pSub)))])))) (lift1 pAll)))))) (sRet (dC (.bool false))) sNop))
  (sRet (dC (.bool true)))))
def m_are_ends : FnDen := runFn 3 5 b_are_ends
/-- is_among(thing, words): 0 thing 1 words -/
def b_is_among : DenS := (sRet (dAnd (op1 (.var 0) (lift1 (pIsi "str"))) (op2 (.var 0) (.var 1) (lift2 pIn))))
def m_is_among : FnDen := runFn 2 2 b_is_among
/-- is_term(thing): 0 thing -/
def b_is_term : DenS := (sRet (dOr (dCall m_is_among [(.var 0), (.exp (dC c_TERMS))]) (dCall m_is_whole [(.var 0), (.exp (dC (.int 0))), (.exp (dC (.int 9)))])))
def m_is_term : FnDen := runFn 1 1 b_is_term
/-- is_amount(thing): 0 thing -/
def b_is_amount : DenS := (sSeq (sIf (tNotD (testOf (op1 (.var 0) (lift1 (pIsi "tuple"))))) (sRet (dCall m_is_term [(.var 0)])) sNop)
  (sRet (dAnd (op2 (.exp (op1 (.var 0) (lift1 pLen))) (.exp (dC (.int 3))) (lift2 pEq)) (dAnd (dCall m_is_among [(.exp (op2 (.var 0) (.exp (dC (.int 0))) (lift2 pIx))), (.exp (dC c_WORDS))]) (dAnd (dCall m_is_term [(.exp (op2 (.var 0) (.exp (dC (.int 1))) (lift2 pIx)))]) (dCall m_is_term [(.exp (op2 (.var 0) (.exp (dC (.int 2))) (lift2 pIx)))]))))))
def m_is_amount : FnDen := runFn 1 1 b_is_amount
/-- is_test(thing): 0 thing -/
def b_is_test : DenS := (sSeq (sIf (tOrD (tNotD (testOf (op1 (.var 0) (lift1 (pIsi "tuple"))))) (testOf (op2 (.exp (op1 (.var 0) (lift1 pLen))) (.exp (dC (.int 3))) (lift2 pNe)))) (sRet (dC (.bool false))) sNop)
  (sRet (dAnd (dCall m_is_term [(.exp (op2 (.var 0) (.exp (dC (.int 0))) (lift2 pIx)))]) (dAnd (dCall m_is_among [(.exp (op2 (.var 0) (.exp (dC (.int 1))) (lift2 pIx))), (.exp (dC c_TESTS))]) (dCall m_is_term [(.exp (op2 (.var 0) (.exp (dC (.int 2))) (lift2 pIx)))])))))
def m_is_test : FnDen := runFn 1 1 b_is_test
/-- is_rule(thing): 0 thing 1 one -/
def b_is_rule : DenS := (sSeq (sIf (tOrD (tNotD (testOf (op1 (.var 0) (lift1 (pIsi "tuple"))))) (tOrD (testOf (op2 (.exp (op1 (.var 0) (lift1 pLen))) (.exp (dC (.int 3))) (lift2 pNe))) (tOrD (tNotD (testOf (op1 (.exp (op2 (.var 0) (.exp (dC (.int 0))) (lift2 pIx))) (lift1 (pIsi "tuple"))))) (testOf (op2 (.exp (op1 (.exp (op2 (.var 0) (.exp (dC (.int 0))) (lift2 pIx))) (lift1 pLen))) (.exp (dC (.int 3))) (lift2 pGt)))))) (sRet (dC (.bool false))) sNop)
  (sRet (dAnd (op1 (.exp (ofL (lComp [1] (lOf (op2 (.var 0) (.exp (dC (.int 0))) (lift2 pIx))) (.name 1) tYesD (dCall m_is_test [(.var 1)])))) (lift1 pAll)) (dAnd (dCall m_is_amount [(.exp (op2 (.var 0) (.exp (dC (.int 1))) (lift2 pIx)))]) (dCall m_is_amount [(.exp (op2 (.var 0) (.exp (dC (.int 2))) (lift2 pIx)))])))))
def m_is_rule : FnDen := runFn 1 2 b_is_rule
/-- is_slip(thing, base, many): 0 thing 1 base 2 many 3 one -/
def b_is_slip : DenS := (sSeq (sIf (tOrD (tNotD (testOf (op1 (.var 0) (lift1 (pIsi "tuple"))))) (tOrD (testOf (op2 (.exp (op1 (.var 0) (lift1 pLen))) (.exp (dC (.int 2))) (lift2 pNe))) (tOrD (tNotD (testOf (op1 (.exp (op2 (.var 0) (.exp (dC (.int 0))) (lift2 pIx))) (lift1 (pIsi "tuple"))))) (testOf (op2 (.exp (op1 (.exp (op2 (.var 0) (.exp (dC (.int 0))) (lift2 pIx))) (lift1 pLen))) (.exp (dC (.int 3))) (lift2 pGt)))))) (sRet (dC (.bool false))) sNop)
  (sRet (dAnd (op1 (.exp (ofL (lComp [3] (lOf (op2 (.var 0) (.exp (dC (.int 0))) (lift2 pIx))) (.name 3) tYesD (dCall m_is_rule [(.var 3)])))) (lift1 pAll)) (dOr (op2 (.exp (op2 (.var 0) (.exp (dC (.int 1))) (lift2 pIx))) (.exp (dC .none)) (lift2 pIs)) (dCall m_are_ends [(.exp (op2 (.var 0) (.exp (dC (.int 1))) (lift2 pIx))), (.var 1), (.var 2)])))))
def m_is_slip : FnDen := runFn 3 4 b_is_slip
/-- memories_of(task): 0 task -/
def b_memories_of : DenS := (sRet (dIf (testOf (op2 (.exp (op2 (.var 0) (.exp (dC (.int 0))) (lift2 pIx))) (.exp (dC (.str "times"))) (lift2 pEq))) (op2 (.var 0) (.exp (dC (.int 1))) (lift2 pIx)) (dC (.int 2))))
def m_memories_of : FnDen := runFn 1 1 b_memories_of
/-- good_school(thing): 0 thing 1 one -/
def b_good_school : DenS := (sSeq (sIf (tOrD (tNotD (testOf (op1 (.var 0) (lift1 (pIsi "tuple"))))) (tOrD (testOf (op2 (.exp (op1 (.var 0) (lift1 pLen))) (.exp (dC (.int 3))) (lift2 pNe))) (tNotD (testOf (dCall m_is_whole [(.exp (op2 (.var 0) (.exp (dC (.int 0))) (lift2 pIx))), (.exp (dC (.int 2))), (.exp (dC (.int 10)))]))))) (sRet (dC (.bool false))) sNop)
  (sSeq (sIf (tOrD (tNotD (testOf (dCall m_is_task [(.exp (op2 (.var 0) (.exp (dC (.int 1))) (lift2 pIx))), (.exp (op2 (.var 0) (.exp (dC (.int 0))) (lift2 pIx)))]))) (tOrD (tNotD (testOf (op1 (.exp (op2 (.var 0) (.exp (dC (.int 2))) (lift2 pIx))) (lift1 (pIsi "tuple"))))) (testOf (op2 (.exp (op1 (.exp (op2 (.var 0) (.exp (dC (.int 2))) (lift2 pIx))) (lift1 pLen))) (.exp (dC c_SLIPS)) (lift2 pGt))))) (sRet (dC (.bool false))) sNop)
  (sRet (op1 (.exp (ofL (lComp [1] (lOf (op2 (.var 0) (.exp (dC (.int 2))) (lift2 pIx))) (.name 1) tYesD (dCall m_is_slip [(.var 1), (.exp (op2 (.var 0) (.exp (dC (.int 0))) (lift2 pIx))), (.exp (dCall m_memories_of [(.exp (op2 (.var 0) (.exp (dC (.int 1))) (lift2 pIx)))]))])))) (lift1 pAll)))))
def m_good_school : FnDen := runFn 1 2 b_good_school
/-- need_school(school): 0 school -/
def b_need_school : DenS := (sIf (tNotD (testOf (dCall m_good_school [(.var 0)]))) (sRaise "NoSchool") sNop)
def m_need_school : FnDen := runFn 1 1 b_need_school
/-- is_column(school, thing): 0 school 1 thing 2 base 3 task 4 slips 5 one -/
def b_is_column : DenS := (sSeq (sAsg (.tup [(.name 2), (.name 3), (.name 4)]) (dVar 0))
  (sSeq (sIf (tOrD (tNotD (testOf (op1 (.var 1) (lift1 (pIsi "tuple"))))) (tOrD (testOf (op2 (.exp (op1 (.var 1) (lift1 pLen))) (.exp (dC (.int 2))) (lift2 pNe))) (tNotD (testOf (op1 (.exp (ofL (lComp [5] (lVar 1) (.name 5) tYesD (dCall m_is_whole [(.var 5), (.exp (dC (.int 0))), (.exp (op2 (.var 2) (.exp (dC (.int 1))) (lift2 pSub)))])))) (lift1 pAll)))))) (sRet (dC (.bool false))) sNop)
  (sRet (dOr (op2 (.exp (op2 (.var 3) (.exp (dC (.int 0))) (lift2 pIx))) (.exp (dC (.str "times"))) (lift2 pNe)) (op2 (.exp (op2 (.var 1) (.exp (dC (.int 1))) (lift2 pIx))) (.exp (op2 (.var 3) (.exp (dC (.int 1))) (lift2 pIx))) (lift2 pEq))))))
def m_is_column : FnDen := runFn 2 6 b_is_column
/-- good_sum(school, thing): 0 school 1 thing 2 one -/
def b_good_sum : DenS := (sRet (dAnd (op1 (.var 1) (lift1 (pIsi "tuple"))) (dAnd (dChain pLe pLe (.exp (dC (.int 1))) (.exp (op1 (.var 1) (lift1 pLen))) (.exp (dC c_LONG))) (op1 (.exp (ofL (lComp [2] (lVar 1) (.name 2) tYesD (dCall m_is_column [(.var 0), (.var 2)])))) (lift1 pAll)))))
def m_good_sum : FnDen := runFn 2 3 b_good_sum
/-- right_step(school, memory, column): 0 school 1 memory 2 column 3 base 4 task 5 slips 6 total -/
def b_right_step : DenS := (sSeq (sAsg (.tup [(.name 3), (.name 4), (.name 5)]) (dVar 0))
  (sSeq (sIf (testOf (op2 (.exp (op2 (.var 4) (.exp (dC (.int 0))) (lift2 pIx))) (.exp (dC (.str "take"))) (lift2 pEq))) (sSeq (sAsg (.name 6) (op2 (.exp (op2 (.exp (op2 (.var 2) (.exp (dC (.int 0))) (lift2 pIx))) (.exp (op2 (.var 2) (.exp (dC (.int 1))) (lift2 pIx))) (lift2 pSub))) (.var 1) (lift2 pSub)))
  (sRet (dTup [(op2 (.var 6) (.var 3) (lift2 pMod)), (op1 (.exp (op2 (.var 6) (.exp (dC (.int 0))) (lift2 pLt))) (lift1 pInt))]))) sNop)
  (sSeq (sAsg (.name 6) (dIf (testOf (op2 (.exp (op2 (.var 4) (.exp (dC (.int 0))) (lift2 pIx))) (.exp (dC (.str "times"))) (lift2 pEq))) (op2 (.exp (op2 (.var 2) (.exp (dC (.int 0))) (lift2 pIx))) (.exp (op2 (.var 4) (.exp (dC (.int 1))) (lift2 pIx))) (lift2 pMul)) (op2 (.exp (op2 (.var 2) (.exp (dC (.int 0))) (lift2 pIx))) (.exp (op2 (.var 2) (.exp (dC (.int 1))) (lift2 pIx))) (lift2 pAdd))))
  (sRet (dTup [(op2 (.exp (op2 (.var 6) (.var 1) (lift2 pAdd))) (.var 3) (lift2 pMod)), (op2 (.exp (op2 (.var 6) (.var 1) (lift2 pAdd))) (.var 3) (lift2 pFdiv))])))))
def m_right_step : FnDen := runFn 3 7 b_right_step
/-- worth_of(term, column, memory): 0 term 1 column 2 memory -/
def b_worth_of : DenS := (sSeq (sIf (testOf (op2 (.var 0) (.exp (dC (.str "upper"))) (lift2 pEq))) (sRet (op2 (.var 1) (.exp (dC (.int 0))) (lift2 pIx))) sNop)
  (sSeq (sIf (testOf (op2 (.var 0) (.exp (dC (.str "lower"))) (lift2 pEq))) (sRet (op2 (.var 1) (.exp (dC (.int 1))) (lift2 pIx))) sNop)
  (sRet (dIf (testOf (op2 (.var 0) (.exp (dC (.str "memory"))) (lift2 pEq))) (dVar 2) (dVar 0)))))
def m_worth_of : FnDen := runFn 3 3 b_worth_of
/-- holds(test, column, memory): 0 test 1 column 2 memory 3 a 4 b -/
def b_holds : DenS := (sSeq (sPar [3, 4] [.val (dCall m_worth_of [(.exp (op2 (.var 0) (.exp (dC (.int 0))) (lift2 pIx))), (.var 1), (.var 2)]), .val (dCall m_worth_of [(.exp (op2 (.var 0) (.exp (dC (.int 2))) (lift2 pIx))), (.var 1), (.var 2)])])
  (sRet (dPick ["less", "same", "more"] [(op2 (.var 3) (.var 4) (lift2 pLt)), (op2 (.var 3) (.var 4) (lift2 pEq)), (op2 (.var 3) (.var 4) (lift2 pGt))] (op2 (.var 0) (.exp (dC (.int 1))) (lift2 pIx)))))
def m_holds : FnDen := runFn 3 5 b_holds
/-- amount_of(amount, column, memory): 0 amount 1 column 2 memory 3 a 4 b -/
def b_amount_of : DenS := (sSeq (sIf (tNotD (testOf (op1 (.var 0) (lift1 (pIsi "tuple"))))) (sRet (dCall m_worth_of [(.var 0), (.var 1), (.var 2)])) sNop)
  (sSeq (sPar [3, 4] [.val (dCall m_worth_of [(.exp (op2 (.var 0) (.exp (dC (.int 1))) (lift2 pIx))), (.var 1), (.var 2)]), .val (dCall m_worth_of [(.exp (op2 (.var 0) (.exp (dC (.int 2))) (lift2 pIx))), (.var 1), (.var 2)])])
  (sSeq (sIf (testOf (op2 (.exp (op2 (.var 0) (.exp (dC (.int 0))) (lift2 pIx))) (.exp (dTup [(dC (.str "plus")), (dC (.str "minus"))])) (lift2 pIn))) (sRet (dIf (testOf (op2 (.exp (op2 (.var 0) (.exp (dC (.int 0))) (lift2 pIx))) (.exp (dC (.str "plus"))) (lift2 pEq))) (op2 (.var 3) (.var 4) (lift2 pAdd)) (op2 (.var 3) (.var 4) (lift2 pSub)))) sNop)
  (sRet (dIf (testOf (op2 (.exp (op2 (.var 0) (.exp (dC (.int 0))) (lift2 pIx))) (.exp (dC (.str "most"))) (lift2 pEq))) (op2 (.var 3) (.var 4) (lift2 pMax2)) (op2 (.var 3) (.var 4) (lift2 pMin2)))))))
def m_amount_of : FnDen := runFn 3 5 b_amount_of
/-- step_of(school, pupil, memory, column): 0 school 1 pupil 2 memory 3 column 4 number 5 tests 6 figure 7 later 8 test 9 written -/
def b_step_of : DenS := (sSeq (sFor (lOf (dVar 1)) (.name 4) (sFor (lOf (op2 (.exp (op2 (.exp (op2 (.var 0) (.exp (dC (.int 2))) (lift2 pIx))) (.var 4) (lift2 pIx))) (.exp (dC (.int 0))) (lift2 pIx))) (.tup [(.name 5), (.name 6), (.name 7)]) (sIf (testOf (op1 (.exp (ofL (lComp [8] (lVar 5) (.name 8) tYesD (dCall m_holds [(.var 8), (.var 3), (.var 2)])))) (lift1 pAll))) (sSeq (sAsg (.name 9) (op2 (.exp (dCall m_amount_of [(.var 6), (.var 3), (.var 2)])) (.exp (op2 (.var 0) (.exp (dC (.int 0))) (lift2 pIx))) (lift2 pMod)))
  (sRet (dTup [(dVar 9), (op2 (.exp (dCall m_amount_of [(.var 7), (.var 3), (.var 2)])) (.exp (dCall m_memories_of [(.exp (op2 (.var 0) (.exp (dC (.int 1))) (lift2 pIx)))])) (lift2 pMod))]))) sNop)))
  (sRet (dCall m_right_step [(.var 0), (.var 2), (.var 3)])))
def m_step_of : FnDen := runFn 4 10 b_step_of
/-- right_ends(school): 0 school 1 every 2 memory -/
def b_right_ends : DenS := (sSeq (sAsg (.name 1) (ofL (lRange (.exp (dCall m_memories_of [(.exp (op2 (.var 0) (.exp (dC (.int 1))) (lift2 pIx)))])))))
  (sRet (op1 (.exp (ofL (lComp [2] (lVar 1) (.name 2) tYesD (dIf (tOrD (testOf (op2 (.var 2) (.exp (dC (.int 0))) (lift2 pEq))) (testOf (op2 (.exp (op2 (.exp (op2 (.var 0) (.exp (dC (.int 1))) (lift2 pIx))) (.exp (dC (.int 0))) (lift2 pIx))) (.exp (dC (.str "take"))) (lift2 pEq)))) (dTup []) (dTup [(dVar 2)]))))) (lift1 pTuple))))
def m_right_ends : FnDen := runFn 1 3 b_right_ends
/-- ends_of(school, pupil): 0 school 1 pupil 2 number -/
def b_ends_of : DenS := (sSeq (sFor (lOf (dVar 1)) (.name 2) (sIf (testOf (op2 (.exp (op2 (.exp (op2 (.exp (op2 (.var 0) (.exp (dC (.int 2))) (lift2 pIx))) (.var 2) (lift2 pIx))) (.exp (dC (.int 1))) (lift2 pIx))) (.exp (dC .none)) (lift2 pIsNot))) (sRet (op2 (.exp (op2 (.exp (op2 (.var 0) (.exp (dC (.int 2))) (lift2 pIx))) (.var 2) (lift2 pIx))) (.exp (dC (.int 1))) (lift2 pIx))) sNop))
  (sRet (dCall m_right_ends [(.var 0)])))
def m_ends_of : FnDen := runFn 2 3 b_ends_of
/-- answer_of(school, pupil, thing): 0 school 1 pupil 2 thing 3 memory 4 made 5 column 6 figure -/
def b_answer_of : DenS := (sSeq (sPar [3, 4] [.val (dC (.int 0)), .own (dAll [])])
  (sSeq (sFor (lOf (dVar 2)) (.name 5) (sSeq (sAsg (.tup [(.name 6), (.name 3)]) (dCall m_step_of [(.var 0), (.var 1), (.var 3), (.var 5)]))
  (sAppend 4 (dVar 6))))
  (sRet (op2 (.var 4) (.exp (ofL (lList (.exp (op2 (.exp (dCall m_ends_of [(.var 0), (.var 1)])) (.var 3) (lift2 pIx)))))) (lift2 pAdd)))))
def m_answer_of : FnDen := runFn 3 7 b_answer_of
/-- _law_same_truth(got, due): 0 got 1 due -/
def b__law_same_truth : DenS := (sRet (dAnd (op1 (.var 0) (lift1 (pIsi "bool"))) (op2 (.var 0) (.var 1) (lift2 pEq))))
def m__law_same_truth : FnDen := runFn 2 2 b__law_same_truth
/-- is_end(school, memory): 0 school 1 memory -/
def b_is_end : DenS := (sRet (dOr (op2 (.exp (op2 (.exp (op2 (.var 0) (.exp (dC (.int 1))) (lift2 pIx))) (.exp (dC (.int 0))) (lift2 pIx))) (.exp (dC (.str "take"))) (lift2 pNe)) (op2 (.var 1) (.exp (dC (.int 0))) (lift2 pEq))))
def m_is_end : FnDen := runFn 2 2 b_is_end
/-- is_fair_sum(school, thing): 0 school 1 thing 2 memory 3 column -/
def b_is_fair_sum : DenS := (sSeq (sAsg (.name 2) (dC (.int 0)))
  (sSeq (sFor (lOf (dVar 1)) (.name 3) (sAsg (.name 2) (op2 (.exp (dCall m_right_step [(.var 0), (.var 2), (.var 3)])) (.exp (dC (.int 1))) (lift2 pIx))))
  (sRet (dCall m_is_end [(.var 0), (.var 2)]))))
def m_is_fair_sum : FnDen := runFn 2 4 b_is_fair_sum
/-- good_fair(school, thing): 0 school 1 thing -/
def b_good_fair : DenS := (sRet (dAnd (dCall m_good_sum [(.var 0), (.var 1)]) (dCall m_is_fair_sum [(.var 0), (.var 1)])))
def m_good_fair : FnDen := runFn 2 2 b_good_fair
/-- good_pupil(school, thing): 0 school 1 thing 2 one 3 other -/
def b_good_pupil : DenS := (sSeq (sIf (tOrD (tNotD (testOf (op1 (.var 1) (lift1 (pIsi "tuple"))))) (tNotD (testOf (op1 (.exp (ofL (lComp [2] (lVar 1) (.name 2) tYesD (dCall m_is_whole [(.var 2), (.exp (dC (.int 0))), (.exp (op2 (.exp (op1 (.exp (op2 (.var 0) (.exp (dC (.int 2))) (lift2 pIx))) (lift1 pLen))) (.exp (dC (.int 1))) (lift2 pSub)))])))) (lift1 pAll))))) (sRet (dC (.bool false))) sNop)
  (sRet (op1 (.exp (ofL (lComp [2, 3] (lZip (dVar 1) (dCut (.var 1) (some (dC (.int 1))) none)) (.tup [(.name 2), (.name 3)]) tYesD (op2 (.var 2) (.var 3) (lift2 pLt))))) (lift1 pAll))))
def m_good_pupil : FnDen := runFn 2 4 b_good_pupil
end Lb
namespace Lb
open Ev PySem
/-- columns_of(school): 0 school 1 base 2 task 3 slips 4 lowers 5 upper 6 lower -/
def b_columns_of : DenS := (sSeq (sAsg (.tup [(.name 1), (.name 2), (.name 3)]) (dVar 0))
  (sSeq (sAsg (.name 4) (dIf (testOf (op2 (.exp (op2 (.var 2) (.exp (dC (.int 0))) (lift2 pIx))) (.exp (dC (.str "times"))) (lift2 pEq))) (ofL (dAll [(op2 (.var 2) (.exp (dC (.int 1))) (lift2 pIx))])) (ofL (lRange (.var 1)))))
  (sRet (ofL (lComp2 [5, 6] (lRange (.var 1)) (.name 5) tYesD (lVar 4) [6] (.name 6) tYesD (dTup [(dVar 5), (dVar 6)]))))))
def m_columns_of : FnDen := runFn 1 7 b_columns_of
/-- way_of(school, pupil): 0 school 1 pupil 2 table 3 memory 4 column -/
def b_way_of : DenS := (sSeq (sOwn 2 (dAll []))
  (sSeq (sFor (lRange (.exp (dCall m_memories_of [(.exp (op2 (.var 0) (.exp (dC (.int 1))) (lift2 pIx)))]))) (.name 3) (sAppend 2 (op1 (.exp (ofL (lComp [4] (lOf (dCall m_columns_of [(.var 0)])) (.name 4) tYesD (dCall m_step_of [(.var 0), (.var 1), (.var 3), (.var 4)])))) (lift1 pTuple))))
  (sRet (dTup [(op1 (.var 2) (lift1 pTuple)), (dCall m_ends_of [(.var 0), (.var 1)])]))))
def m_way_of : FnDen := runFn 2 5 b_way_of
end Lb

namespace Lb
open Ev PySem
/-- pupils_of(school): 0 school 1 made 2 number 3 one -/
def b_pupils_of : DenS := (sSeq (sOwn 1 (dAll [(dTup [])]))
  (sSeq (sFor (lRange (.exp (op1 (.exp (op2 (.var 0) (.exp (dC (.int 2))) (lift2 pIx))) (lift1 pLen)))) (.name 2) (sExtend 1 (.exp (ofL (lComp [3] (lVar 1) (.name 3) tYesD (op2 (.var 3) (.exp (dTup [(dVar 2)])) (lift2 pAdd)))))))
  (sRet (ofL (lSorted (.var 1))))))
def m_pupils_of : FnDen := runFn 1 4 b_pupils_of
/-- Room.__init__(self, school): 0 self 1 school -/
def b_Room___init__ : DenS := (sSeq (sExpr (dCall m_need_school [(.var 1)]))
  (sSeq (sInit 0 1)
  sNop))
def m_Room___init__ : FnDen := runFn 2 2 b_Room___init__
/-- unlike_at(one, other): 0 one 1 other 2 a 3 b -/
def b_unlike_at : DenS := (sRet (op1 (.exp (ofL (lComp [2, 3] (lZip (dVar 0) (dVar 1)) (.tup [(.name 2), (.name 3)]) (testOf (op2 (.var 2) (.var 3) (lift2 pNe))) (dC (.int 1))))) (lift1 pLen)))
def m_unlike_at : FnDen := runFn 2 4 b_unlike_at
/-- table_of(school, firsts, sheet): 0 school 1 firsts 2 sheet 3 one 4 pupil -/
def b_table_of : DenS := (sRet (ofL (lComp [4] (lVar 1) (.name 4) tYesD (ofL (lComp [3] (lVar 2) (.name 3) tYesD (dCall m_answer_of [(.var 0), (.var 4), (.var 3)]))))))
def m_table_of : FnDen := runFn 3 5 b_table_of
/-- later_states(ways, state): 0 ways 1 state 2 one 3 other 4 right 5 unlike 6 made 7 first 8 second 9 third -/
def b_later_states : DenS := (sSeq (sAsg (.tup [(.name 2), (.name 3), (.name 4), (.name 5)]) (dVar 1))
  (sSeq (sOwn 6 (dAll []))
  (sSeq (sFor (lZip3 (op2 (.exp (op2 (.exp (op2 (.var 0) (.exp (dC (.int 0))) (lift2 pIx))) (.exp (dC (.int 0))) (lift2 pIx))) (.var 2) (lift2 pIx)) (op2 (.exp (op2 (.exp (op2 (.var 0) (.exp (dC (.int 1))) (lift2 pIx))) (.exp (dC (.int 0))) (lift2 pIx))) (.var 3) (lift2 pIx)) (op2 (.exp (op2 (.exp (op2 (.var 0) (.exp (dC (.int 2))) (lift2 pIx))) (.exp (dC (.int 0))) (lift2 pIx))) (.var 4) (lift2 pIx))) (.tup [(.name 7), (.name 8), (.name 9)]) (sAppend 6 (dTup [(op2 (.var 7) (.exp (dC (.int 1))) (lift2 pIx)), (op2 (.var 8) (.exp (dC (.int 1))) (lift2 pIx)), (op2 (.var 9) (.exp (dC (.int 1))) (lift2 pIx)), (dOr (dVar 5) (op2 (.exp (op2 (.var 7) (.exp (dC (.int 0))) (lift2 pIx))) (.exp (op2 (.var 8) (.exp (dC (.int 0))) (lift2 pIx))) (lift2 pNe)))])))
  (sSeq (sFrz [6]) (sRet (dVar 6))))))
def m_later_states : FnDen := runFn 2 10 b_later_states
/-- parts(school, ways, state): 0 school 1 ways 2 state 3 one 4 other 5 right 6 unlike -/
def b_parts : DenS := (sSeq (sAsg (.tup [(.name 3), (.name 4), (.name 5), (.name 6)]) (dVar 2))
  (sRet (dAnd (dCall m_is_end [(.var 0), (.var 5)]) (dOr (dVar 6) (op2 (.exp (op2 (.exp (op2 (.exp (op2 (.var 1) (.exp (dC (.int 0))) (lift2 pIx))) (.exp (dC (.int 1))) (lift2 pIx))) (.var 3) (lift2 pIx))) (.exp (op2 (.exp (op2 (.exp (op2 (.var 1) (.exp (dC (.int 1))) (lift2 pIx))) (.exp (dC (.int 1))) (lift2 pIx))) (.var 4) (lift2 pIx))) (lift2 pNe))))))
def m_parts : FnDen := runFn 3 7 b_parts
/-- parted_of(school, one, other): 0 school 1 one 2 other 3 ways 4 every 5 pupil 6 seen 7 level 8 later 9 row 10 state 11 column 12 after 13 found -/
def b_parted_of : DenS := (sSeq (sPar [3, 4] [.val (ofL (lComp [5] (lOf (dTup [(dVar 1), (dVar 2), (dTup [])])) (.name 5) tYesD (dCall m_way_of [(.var 0), (.var 5)]))), .val (dCall m_columns_of [(.var 0)])])
  (sSeq (sPar [6, 7] [.dic kNew, .val (ofL (dAll [(dTup [(dTup []), (dTup [(dC (.int 0)), (dC (.int 0)), (dC (.int 0)), (dC (.bool false))])])]))])
  (sSeq (sWhile (testOf (op2 (.var 7) (.exp (ofL (dAll []))) (lift2 pNe))) (sSeq (sOwn 8 (dAll []))
  (sSeq (sFor (lOf (dVar 7)) (.tup [(.name 9), (.name 10)]) (sFor (lZip (dVar 4) (dCall m_later_states [(.var 3), (.var 10)])) (.tup [(.name 11), (.name 12)]) (sIf (testOf (op2 (.var 12) (.var 6) (lift2 pNotIn))) (sSeq (sPutD 6 (dVar 12) (dC (.bool true)))
  (sAppend 8 (dTup [(op2 (.var 9) (.exp (dTup [(dVar 11)])) (lift2 pAdd)), (dVar 12)]))) sNop)))
  (sSeq (sAsg (.name 13) (ofL (lComp [9, 10] (lVar 8) (.tup [(.name 9), (.name 10)]) (testOf (dCall m_parts [(.var 0), (.var 3), (.var 10)])) (dVar 9))))
  (sSeq (sIf (testOf (op2 (.var 13) (.exp (ofL (dAll []))) (lift2 pNe))) (sRet (op2 (.var 13) (.exp (dC (.int 0))) (lift2 pIx))) sNop)
  (sSeq (sFrz [8]) (sAsg (.name 7) (dVar 8))))))) whileN)
  (sRet (dC .none)))))
def m_parted_of : FnDen := runFn 3 14 b_parted_of
/-- classes_of(school): 0 school 1 made 2 pupil 3 own 4 lot -/
def b_classes_of : DenS := (sSeq (sRefs0 1)
  (sSeq (sFor (lOf (dCall m_pupils_of [(.var 0)])) (.name 2) (sSeq (sPick 3 1 4 [4] (testOf (op2 (.exp (dCall m_parted_of [(.var 0), (.exp (op2 (.var 4) (.exp (dC (.int 0))) (lift2 pIx))), (.var 2)])) (.exp (dC .none)) (lift2 pIs))))
  (sIfNil 3 (sAppR 1 (dAll [(dVar 2)])) (sAppIn 3 (dC (.int 0)) (dVar 2)))))
  (sRetR 1)))
def m_classes_of : FnDen := runFn 1 5 b_classes_of
/-- firsts_of(school): 0 school 1 lot -/
def b_firsts_of : DenS := (sRet (ofL (lComp [1] (lOf (dCall m_classes_of [(.var 0)])) (.name 1) tYesD (op2 (.var 1) (.exp (dC (.int 0))) (lift2 pIx)))))
def m_firsts_of : FnDen := runFn 1 2 b_firsts_of
/-- going(rows, answers, careless): 0 rows 1 answers 2 careless 3 number 4 row -/
def b_going : DenS := (sRet (ofL (lComp [3, 4] (lEnum (dVar 0)) (.tup [(.name 3), (.name 4)]) (testOf (op2 (.exp (dCall m_unlike_at [(.var 4), (.var 1)])) (.var 2) (lift2 pLe))) (dVar 3))))
def m_going : FnDen := runFn 3 5 b_going
end Lb

namespace Lb
open Ev PySem
end Lb

namespace Lb
open Ev PySem
end Lb

namespace Lb
open Ev PySem
end Lb

namespace Lb
open Ev PySem
end Lb

namespace Lb
open Ev PySem
end Lb

namespace Lb
open Ev PySem
end Lb

namespace Lb
open Ev PySem
end Lb

namespace Lb
open Ev PySem
end Lb

namespace Lb
open Ev PySem
end Lb

namespace Lb
open Ev PySem
end Lb

namespace Lb
open Ev PySem
end Lb

namespace Lb
open Ev PySem
end Lb

namespace Lb
open Ev PySem
end Lb

namespace Lb
open Ev PySem
end Lb

namespace Lb
open Ev PySem
end Lb

namespace Lb
open Ev PySem
end Lb

namespace Lb
open Ev PySem
def c_LETTERS : D := (.str "abcdefghijklmnopqrstuvwxyz")
/-- Room.row_of(self, name): 0 self 1 name -/
def b_Room_row_of : DenS := (sSeq (sIf (tOrD (tNotD (testOf (op1 (.var 1) (lift1 (pIsi "str"))))) (testOf (dRowIn false 0 (dVar 1)))) (sRaise "NoName") sNop)
  (sRet (dRowGet 0 1)))
def m_Room_row_of : FnDen := runFn 2 2 b_Room_row_of
/-- Room.told(self, name, careless): 0 self 1 name 2 careless 3 kept 4 rows 5 thing 6 answer -/
def b_Room_told : DenS := (sSeq (sAsg (.name 3) (op2 (.exp (dMeth m_Room_row_of 0 [(.var 1)])) (.exp (dC (.int 2))) (lift2 pIx)))
  (sSeq (sIf (tNotD (testOf (dCall m_is_whole [(.var 2), (.exp (dC (.int 0))), (.exp (dC (.int 200)))]))) (sRaise "NoCount") sNop)
  (sSeq (sAsg (.name 4) (dCall m_table_of [(.exp (dSchool 0)), (.exp (dCall m_firsts_of [(.exp (dSchool 0))])), (.exp (ofL (lComp [5, 6] (lVar 3) (.tup [(.name 5), (.name 6)]) tYesD (dVar 5))))]))
  (sRet (dCall m_going [(.var 4), (.exp (ofL (lComp [5, 6] (lVar 3) (.tup [(.name 5), (.name 6)]) tYesD (ofL (lList (.var 6)))))), (.var 2)])))))
def m_Room_told : FnDen := runFn 3 7 b_Room_told
/-- Room.slips(self, name): 0 self 1 name -/
def b_Room_slips : DenS := (sRet (op2 (.exp (dMeth m_Room_row_of 0 [(.var 1)])) (.exp (dC (.int 0))) (lift2 pIx)))
def m_Room_slips : FnDen := runFn 2 2 b_Room_slips
/-- Room.turn(self, call, name, row): 0 self 1 call 2 name 3 row -/
def b_Room_turn : DenS := (sSeq (sPastPush 0)
  (sSeq (sCallPush 0 1)
  (sRowPut 0 2 3)))
def m_Room_turn : FnDen := runFn 4 4 b_Room_turn
/-- is_name(thing): 0 thing 1 sign -/
def b_is_name : DenS := (sRet (dAnd (op1 (.var 0) (lift1 (pIsi "str"))) (dAnd (dChain pLe pLe (.exp (dC (.int 1))) (.exp (op1 (.var 0) (lift1 pLen))) (.exp (dC (.int 6)))) (op1 (.exp (ofL (lComp [1] (lVar 0) (.name 1) tYesD (op2 (.var 1) (.exp (dC c_LETTERS)) (lift2 pIn))))) (lift1 pAll)))))
def m_is_name : FnDen := runFn 1 2 b_is_name
/-- Room.enrol(self, name, pupil): 0 self 1 name 2 pupil -/
def b_Room_enrol : DenS := (sSeq (sIf (tOrD (tNotD (testOf (dCall m_is_name [(.var 1)]))) (testOf (dRowIn true 0 (dVar 1)))) (sRaise "NoName") sNop)
  (sSeq (sIf (tNotD (testOf (dCall m_good_pupil [(.exp (dSchool 0)), (.var 2)]))) (sRaise "NoPupil") sNop)
  (sExpr (dMeth m_Room_turn 0 [(.exp (dC (.str "enrol"))), (.var 1), (.exp (dTup [(dVar 2), (dC (.bool false)), (dTup [])]))]))))
def m_Room_enrol : FnDen := runFn 3 3 b_Room_enrol
/-- Room.answers(self, name): 0 self 1 name -/
def b_Room_answers : DenS := (sRet (ofL (lList (.exp (op2 (.exp (dMeth m_Room_row_of 0 [(.var 1)])) (.exp (dC (.int 2))) (lift2 pIx))))))
def m_Room_answers : FnDen := runFn 2 2 b_Room_answers
/-- Room.__len__(self): 0 self -/
def b_Room___len__ : DenS := (sRet (dRowsLen 0))
def m_Room___len__ : FnDen := runFn 1 1 b_Room___len__
/-- Room.__str__(self): 0 self -/
def b_Room___str__ : DenS := (sRet (op1 (.exp (ofL (lSorted (.exp (ofL (lRowsKeys 0)))))) (lift1 (pJoin " "))))
def m_Room___str__ : FnDen := runFn 1 1 b_Room___str__
/-- Room.ask(self, name, thing): 0 self 1 name 2 thing 3 pupil 4 loose 5 kept 6 made -/
def b_Room_ask : DenS := (sSeq (sAsg (.tup [(.name 3), (.name 4), (.name 5)]) (dMeth m_Room_row_of 0 [(.var 1)]))
  (sSeq (sIf (tNotD (testOf (dCall m_good_fair [(.exp (dSchool 0)), (.var 2)]))) (sRaise "NoSum") sNop)
  (sSeq (sAsg (.name 6) (dCall m_answer_of [(.exp (dSchool 0)), (.var 3), (.var 2)]))
  (sSeq (sIf (tAndD (testOf (dVar 4)) (testOf (op2 (.var 6) (.exp (ofL (dAll []))) (lift2 pNe)))) (sAsg (.name 6) (op2 (.exp (ofL (dAll [(op2 (.exp (op2 (.exp (op2 (.var 6) (.exp (dC (.int 0))) (lift2 pIx))) (.exp (dC (.int 1))) (lift2 pAdd))) (.exp (op2 (.exp (dSchool 0)) (.exp (dC (.int 0))) (lift2 pIx))) (lift2 pMod))]))) (.exp (dCut (.var 6) (some (dC (.int 1))) none)) (lift2 pAdd))) sNop)
  (sSeq (sExpr (dMeth m_Room_turn 0 [(.exp (dC (.str "ask"))), (.var 1), (.exp (dTup [(dVar 3), (dC (.bool false)), (op2 (.var 5) (.exp (dTup [(dTup [(dVar 2), (op1 (.var 6) (lift1 pTuple))])])) (lift2 pAdd))]))]))
  (sRet (dVar 6)))))))
def m_Room_ask : FnDen := runFn 3 7 b_Room_ask
/-- Room.careless(self, name): 0 self 1 name 2 pupil 3 loose 4 kept -/
def b_Room_careless : DenS := (sSeq (sAsg (.tup [(.name 2), (.name 3), (.name 4)]) (dMeth m_Room_row_of 0 [(.var 1)]))
  (sExpr (dMeth m_Room_turn 0 [(.exp (dC (.str "careless"))), (.var 1), (.exp (dTup [(dVar 2), (dC (.bool true)), (dVar 4)]))])))
def m_Room_careless : FnDen := runFn 2 5 b_Room_careless
/-- Room.cure(self, name, slip): 0 self 1 name 2 slip 3 pupil 4 loose 5 kept 6 one -/
def b_Room_cure : DenS := (sSeq (sAsg (.tup [(.name 3), (.name 4), (.name 5)]) (dMeth m_Room_row_of 0 [(.var 1)]))
  (sSeq (sIf (tOrD (tNotD (testOf (dCall m_is_whole [(.var 2), (.exp (dC (.int 0))), (.exp (op1 (.exp (op2 (.exp (dSchool 0)) (.exp (dC (.int 2))) (lift2 pIx))) (lift1 pLen)))]))) (testOf (op2 (.var 2) (.var 3) (lift2 pNotIn)))) (sRaise "NoSlip") sNop)
  (sExpr (dMeth m_Room_turn 0 [(.exp (dC (.str "cure"))), (.var 1), (.exp (dTup [(op1 (.exp (ofL (lComp [6] (lVar 3) (.name 6) (testOf (op2 (.var 6) (.var 2) (lift2 pNe))) (dVar 6)))) (lift1 pTuple)), (dVar 4), (dTup [])]))]))))
def m_Room_cure : FnDen := runFn 3 7 b_Room_cure
end Lb

namespace Lb
open Ev PySem
/-- Room.__eq__(self, other): 0 self 1 other -/
def b_Room___eq__ : DenS := (sRet (dAnd (dIsRoom 1) (dAnd (op2 (.exp (dSchool 0)) (.exp (dSchool 1)) (lift2 pEq)) (dRowsEq 0 1))))
def m_Room___eq__ : FnDen := runFn 2 2 b_Room___eq__
/-- Room.back(self): 0 self -/
def b_Room_back : DenS := (sSeq (sIf (testOf (dPastNil 0)) (sRaise "Nothing") sNop)
  (sSeq (sRowsPop 0)
  (sRet (dCallPop 0))))
def m_Room_back : FnDen := runFn 1 1 b_Room_back
end Lb

namespace Lb
open Ev PySem
/-- _law_alike_so(school, slip, room): 0 school 1 slip 2 room 3 other 4 third -/
def b__law_alike_so : DenS := (sSeq (sAsgO 3 (oMake m_Room___init__ [(dVar 0)]))
  (sSeq (sExpr (dMeth m_Room_enrol 3 [(.exp (dC (.str "ann"))), (.exp (dTup [(dC (.int 1))]))]))
  (sSeq (sIf (tOrD (tNotD (testOf (dCall m__law_same_truth [(.exp (dEqO m_Room___eq__ (.var 2) (.var 3))), (.exp (dC (.bool true)))]))) (tNotD (testOf (dCall m__law_same_truth [(.exp (dEqO m_Room___eq__ (.var 2) (.exp (dStrO m_Room___str__ 2)))), (.exp (dC (.bool false)))])))) (sRet (dC (.bool false))) sNop)
  (sSeq (sExpr (dMeth m_Room_careless 3 [(.exp (dC (.str "ann")))]))
  (sSeq (sIf (tOrD (tNotD (testOf (dCall m__law_same_truth [(.exp (dEqO m_Room___eq__ (.var 2) (.var 3))), (.exp (dC (.bool false)))]))) (testOf (op2 (.exp (dMeth m_Room_ask 3 [(.exp (dC (.str "ann"))), (.exp (dTup [(dTup [(dC (.int 5)), (dC (.int 3))])]))])) (.exp (ofL (dAll [(dC (.int 1))]))) (lift2 pNe)))) (sRet (dC (.bool false))) sNop)
  (sSeq (sExpr (dMeth m_Room_enrol 3 [(.exp (dC (.str "zzzzzz"))), (.exp (dTup []))]))
  (sSeq (sExpr (dMeth m_Room_enrol 3 [(.exp (dC (.str "z"))), (.exp (dTup [(dC (.int 0)), (dC (.int 1))]))]))
  (sSeq (sIf (testOf (op2 (.exp (dStrO m_Room___str__ 3)) (.exp (dC (.str "ann z zzzzzz"))) (lift2 pNe))) (sRet (dC (.bool false))) sNop)
  (sSeq (sAsgO 4 (oMake m_Room___init__ [(dTup [(dC (.int 10)), (dTup [(dC (.str "take"))]), (dTup [(dVar 1)])])]))
  (sRet (dAnd (dCall m__law_same_truth [(.exp (dEqO m_Room___eq__ (.obj (oMake m_Room___init__ [(dVar 0)])) (.var 4))), (.exp (dC (.bool false)))]) (dAnd (op2 (.exp (dMeth m_Room_back 2 [])) (.exp (dC (.str "enrol"))) (lift2 pEq)) (op2 (.exp (dLenO m_Room___len__ 2)) (.exp (dC (.int 0))) (lift2 pEq))))))))))))))
def m__law_alike_so : FnDen := runFn 3 5 b__law_alike_so
/-- _law_ask(what, room, one, two): 0 what 1 room 2 one 3 two 4 e -/
def b__law_ask_k22 : DenS := (sTryW 4 ["NoSchool", "NoPupil", "NoSum", "NoSheet", "NoAnswers", "NoCount", "NoText", "NoName", "NoSlip", "Nothing"] (sSeq (sIf (testOf (op2 (.var 0) (.exp (dC (.int 3))) (lift2 pLt))) (sRet (dIf (testOf (op2 (.var 0) (.exp (dC (.int 0))) (lift2 pEq))) (dMeth m_Room_enrol 1 [(.var 2), (.var 3)]) (dIf (testOf (op2 (.var 0) (.exp (dC (.int 1))) (lift2 pEq))) (dMeth m_Room_ask 1 [(.var 2), (.var 3)]) (dMeth m_Room_cure 1 [(.var 2), (.var 3)])))) sNop)
  (sSeq (sIf (testOf (op2 (.var 0) (.exp (dC (.int 6))) (lift2 pLt))) (sRet (dIf (testOf (op2 (.var 0) (.exp (dC (.int 3))) (lift2 pEq))) (dMeth m_Room_careless 1 [(.var 2)]) (dIf (testOf (op2 (.var 0) (.exp (dC (.int 4))) (lift2 pEq))) (dMeth m_Room_slips 1 [(.var 2)]) (dMeth m_Room_answers 1 [(.var 2)])))) sNop)
  (sRet (dIf (testOf (op2 (.var 0) (.exp (dC (.int 6))) (lift2 pEq))) (dMethK m_Room_told 1 [(dVar 2)] (dVar 3)) (dMeth m_Room_back 1 []))))))
def m__law_ask_k22 : FnDen := runFn 4 5 b__law_ask_k22
/-- law(script): 0 script 1 town 2 slip 3 school 4 room 5 bad 6 what -/
def b_law_k22_L1 : DenS := (sIf (testOf (op2 (.exp (ofL (lComp [6] (lRange (.exp (dC (.int 7)))) (.name 6) tYesD (dCall m__law_ask_k22 [(.var 6), (.var 4), (.var 5), (.exp (dC .none))])))) (.exp (op2 (.exp (ofL (dAll [(dTup [(dC (.str "refused")), (dC (.int 7))])]))) (.exp (dC (.int 7))) (lift2 pMul))) (lift2 pNe))) (sRet (dC (.bool false))) sNop)
def b_law_k22_L2 : DenS := (sIf (testOf (op2 (.exp (dCall m__law_ask_k22 [(.exp (dC (.int 0))), (.var 4), (.exp (dC (.str "ann"))), (.var 5)])) (.exp (dTup [(dC (.str "refused")), (dC (.int 1))])) (lift2 pNe))) (sRet (dC (.bool false))) sNop)
def b_law_k22_L3 : DenS := (sIf (testOf (op2 (.exp (dCall m__law_ask_k22 [(.exp (dC (.int 1))), (.var 4), (.exp (dC (.str "ann"))), (.var 5)])) (.exp (dTup [(dC (.str "refused")), (dC (.int 2))])) (lift2 pNe))) (sRet (dC (.bool false))) sNop)
def b_law_k22_L4 : DenS := (sIf (testOf (op2 (.exp (dCall m__law_ask_k22 [(.exp (dC (.int 2))), (.var 4), (.exp (dC (.str "ann"))), (.var 5)])) (.exp (dTup [(dC (.str "refused")), (dC (.int 8))])) (lift2 pNe))) (sRet (dC (.bool false))) sNop)
def b_law_k22_L5 : DenS := (sIf (testOf (op2 (.exp (dCall m__law_ask_k22 [(.exp (dC (.int 6))), (.var 4), (.exp (dC (.str "ann"))), (.var 5)])) (.exp (dTup [(dC (.str "refused")), (dC (.int 5))])) (lift2 pNe))) (sRet (dC (.bool false))) sNop)
def b_law_k22 : DenS := (sSeq (sShare 1 (dAll []))
  (sSeq (sAsg (.name 2) (dTup [(dTup [(dTup [(dTup []), (dC (.int 0)), (dC (.int 0))])]), (dC .none)]))
  (sSeq (sAsg (.name 3) (dTup [(dC (.int 10)), (dTup [(dC (.str "take"))]), (dTup [(dVar 2), (dVar 2)])]))
  (sSeq (sAsgO 4 (oMake m_Room___init__ [(dVar 3)]))
  (sSeq (sIf (testOf (op2 (.exp (dCall m__law_ask_k22 [(.exp (dC (.int 7))), (.var 4), (.exp (dC .none)), (.exp (dC .none))])) (.exp (dTup [(dC (.str "refused")), (dC (.int 9))])) (lift2 pNe))) (sRet (dC (.bool false))) sNop)
  (sSeq (sFor (lOf (ofL (dAll [(dC .none), (dC (.int 5)), (dC (.str "")), (dC (.str "A")), (dC (.str "toolong")), (ofL (dAll [(dC (.str "ann"))])), (dC (.str "a b")), (dC (.bool true))]))) (.name 5) b_law_k22_L1)
  (sSeq (sFor (lOf (ofL (dAll [(dC .none), (ofL (dAll [(dC (.int 0))])), (dTup [(dC (.int 2))]), (dTup [(dC (.int 0)), (dC (.int 0))]), (dTup [(dC (.int 1)), (dC (.int 0))]), (dTup [(dC (.bool true))])]))) (.name 5) b_law_k22_L2)
  (sSeq (sIf (tOrD (testOf (op2 (.exp (ofL (lComp [6] (lRange2 (.exp (dC (.int 1))) (.exp (dC (.int 7)))) (.name 6) tYesD (dCall m__law_ask_k22 [(.var 6), (.var 4), (.exp (dC (.str "ann"))), (.exp (dC .none))])))) (.exp (op2 (.exp (ofL (dAll [(dTup [(dC (.str "refused")), (dC (.int 7))])]))) (.exp (dC (.int 6))) (lift2 pMul))) (lift2 pNe))) (testOf (op2 (.exp (dLenO m_Room___len__ 4)) (.exp (dC (.int 0))) (lift2 pNe)))) (sRet (dC (.bool false))) sNop)
  (sSeq (sExpr (dMeth m_Room_enrol 4 [(.exp (dC (.str "ann"))), (.exp (dTup [(dC (.int 1))]))]))
  (sSeq (sIf (testOf (op2 (.exp (dCall m__law_ask_k22 [(.exp (dC (.int 0))), (.var 4), (.exp (dC (.str "ann"))), (.exp (dTup [(dC (.int 1))]))])) (.exp (dTup [(dC (.str "refused")), (dC (.int 7))])) (lift2 pNe))) (sRet (dC (.bool false))) sNop)
  (sSeq (sFor (lOf (ofL (dAll [(dC .none), (dTup []), (dTup [(dTup [(dC (.int 3)), (dC (.int 5))])]), (ofL (dAll [(dTup [(dC (.int 5)), (dC (.int 3))])])), (dTup [(dTup [(dC (.int 5)), (dC (.int 10))])]), (op2 (.exp (dTup [(dTup [(dC (.int 5)), (dC (.int 3))])])) (.exp (dC (.int 41))) (lift2 pMul))]))) (.name 5) b_law_k22_L3)
  (sSeq (sFor (lOf (ofL (dAll [(dC .none), (dC (.int 0)), (dC (.int 2)), (op1 (.exp (dC (.int 1))) (lift1 pNeg)), (dC (.str "1")), (dC (.bool true))]))) (.name 5) b_law_k22_L4)
  (sSeq (sFor (lOf (ofL (dAll [(dC .none), (op1 (.exp (dC (.int 1))) (lift1 pNeg)), (dC (.int 201)), (dC (.str "1")), (dC (.bool true))]))) (.name 5) b_law_k22_L5)
  (sSeq (sIf (tOrD (testOf (op2 (.exp (dMeth m_Room_answers 4 [(.exp (dC (.str "ann")))])) (.exp (ofL (dAll []))) (lift2 pNe))) (tOrD (testOf (op2 (.exp (dMeth m_Room_slips 4 [(.exp (dC (.str "ann")))])) (.exp (dTup [(dC (.int 1))])) (lift2 pNe))) (testOf (op2 (.exp (dStrO m_Room___str__ 4)) (.exp (dC (.str "ann"))) (lift2 pNe))))) (sRet (dC (.bool false))) sNop)
  (sRet (dCall m__law_alike_so [(.var 3), (.var 2), (.var 4)]))))))))))))))))
def m_law_k22 : FnDen := runFn 1 7 b_law_k22
end Lb

namespace Lb
open Ev PySem
end Lb

namespace Lb
open Ev PySem
end Lb

namespace Lb
open Ev PySem
end Lb

namespace Lb
open Ev PySem
end Lb

namespace Lb
open Ev PySem
end Lb
namespace K22
open Ev PySem PySem.Spec PyProof.Rows L2
def top (i : Nat) : Stmt := PySem.Challenge.pw_slipsheets_k22_rooms_refused.main.body.getD i (.Pass ⟨0, 0, 0, 0⟩)
def meth (j : Nat) : Stmt := (clsBody (top 64)).getD j (.Pass ⟨0, 0, 0, 0⟩)
def wd : WhD := { x := "_law_which", params := defArgs (top 67), body := defBody (top 67), scope := defScope (top 67), cs := ["NoSchool", "NoPupil", "NoSum", "NoSheet", "NoAnswers", "NoCount", "NoText", "NoName", "NoSlip", "Nothing"] }
def T : Tp := { cs := [("LETTERS", Lb.c_LETTERS), ("FACTORS", Lb.c_FACTORS), ("TERMS", Lb.c_TERMS), ("WORDS", Lb.c_WORDS), ("TESTS", Lb.c_TESTS), ("SLIPS", Lb.c_SLIPS), ("LONG", Lb.c_LONG), ("MOST", (.int 200))], ex := ["NoName", "NoPupil", "NoSchool", "NoSum", "Nothing", "NoCount", "NoSlip"], bl := ["dict", "isinstance", "int", "bool", "tuple", "all", "len", "zip", "str", "min", "list", "sorted", "max", "range", "enumerate"], wh := some wd, cat := [("SlipError", ["NoSchool", "NoPupil", "NoSum", "NoSheet", "NoAnswers", "NoCount", "NoText", "NoName", "NoSlip", "Nothing"])], dcs := [], room := true }
theorem hwh : ∀ d, T.wh = some d → WhT d := fun d e => by cases e; exact ⟨whS_of (by kernel_rfl), ⟨by kernel_rfl, by kernel_rfl, by kernel_rfl, by decide +kernel, by kernel_rfl, by decide +kernel, by decide +kernel⟩, fun _ _ _ _ _ _ us hl => match us, hl with | [_], _ => rfl⟩
def d_Room_turn : Df := { x := "turn", params := defArgs (meth 1), body := defBody (meth 1), scope := defScope (meth 1), N := ["self", "call", "name", "row"], ps := ["self", "call", "name", "row"], mu := [], shr := [], rf := [], fz := [], kw := none, fuel := 0, br := fun _ => Lb.b_Room_turn, at_ := some "Room.turn", kd := 0, rms := ["self"] }
def d_is_whole : Df := { x := "is_whole", params := defArgs (top 20), body := defBody (top 20), scope := defScope (top 20), N := ["thing", "low", "high"], ps := ["thing", "low", "high"], mu := [], shr := [], rf := [], fz := [], kw := none, fuel := 0, br := fun _ => Lb.b_is_whole }
def d_good_pupil : Df := { x := "good_pupil", params := defArgs (top 40), body := defBody (top 40), scope := defScope (top 40), N := ["school", "thing", "one", "other"], ps := ["school", "thing"], mu := [], shr := [], rf := [], fz := [], kw := none, fuel := 0, br := fun _ => Lb.b_good_pupil }
def d_is_name : Df := { x := "is_name", params := defArgs (top 63), body := defBody (top 63), scope := defScope (top 63), N := ["thing", "sign"], ps := ["thing"], mu := [], shr := [], rf := [], fz := [], kw := none, fuel := 0, br := fun _ => Lb.b_is_name }
def d_Room_enrol : Df := { x := "enrol", params := defArgs (meth 3), body := defBody (meth 3), scope := defScope (meth 3), N := ["self", "name", "pupil"], ps := ["self", "name", "pupil"], mu := [], shr := [], rf := [], fz := [], kw := none, fuel := 0, br := fun _ => Lb.b_Room_enrol, at_ := some "Room.enrol", kd := 0, rms := ["self"] }
def d_is_task : Df := { x := "is_task", params := defArgs (top 28), body := defBody (top 28), scope := defScope (top 28), N := ["thing", "base"], ps := ["thing", "base"], mu := [], shr := [], rf := [], fz := [], kw := none, fuel := 0, br := fun _ => Lb.b_is_task }
def d_are_ends : Df := { x := "are_ends", params := defArgs (top 26), body := defBody (top 26), scope := defScope (top 26), N := ["thing", "base", "many", "own", "one"], ps := ["thing", "base", "many"], mu := [], shr := [], rf := [], fz := [], kw := none, fuel := 0, br := fun _ => Lb.b_are_ends }
def d_is_among : Df := { x := "is_among", params := defArgs (top 21), body := defBody (top 21), scope := defScope (top 21), N := ["thing", "words"], ps := ["thing", "words"], mu := [], shr := [], rf := [], fz := [], kw := none, fuel := 0, br := fun _ => Lb.b_is_among }
def d_is_term : Df := { x := "is_term", params := defArgs (top 22), body := defBody (top 22), scope := defScope (top 22), N := ["thing"], ps := ["thing"], mu := [], shr := [], rf := [], fz := [], kw := none, fuel := 0, br := fun _ => Lb.b_is_term }
def d_is_amount : Df := { x := "is_amount", params := defArgs (top 23), body := defBody (top 23), scope := defScope (top 23), N := ["thing"], ps := ["thing"], mu := [], shr := [], rf := [], fz := [], kw := none, fuel := 0, br := fun _ => Lb.b_is_amount }
def d_is_test : Df := { x := "is_test", params := defArgs (top 24), body := defBody (top 24), scope := defScope (top 24), N := ["thing"], ps := ["thing"], mu := [], shr := [], rf := [], fz := [], kw := none, fuel := 0, br := fun _ => Lb.b_is_test }
def d_is_rule : Df := { x := "is_rule", params := defArgs (top 25), body := defBody (top 25), scope := defScope (top 25), N := ["thing", "one"], ps := ["thing"], mu := [], shr := [], rf := [], fz := [], kw := none, fuel := 0, br := fun _ => Lb.b_is_rule }
def d_is_slip : Df := { x := "is_slip", params := defArgs (top 27), body := defBody (top 27), scope := defScope (top 27), N := ["thing", "base", "many", "one"], ps := ["thing", "base", "many"], mu := [], shr := [], rf := [], fz := [], kw := none, fuel := 0, br := fun _ => Lb.b_is_slip }
def d_memories_of : Df := { x := "memories_of", params := defArgs (top 29), body := defBody (top 29), scope := defScope (top 29), N := ["task"], ps := ["task"], mu := [], shr := [], rf := [], fz := [], kw := none, fuel := 0, br := fun _ => Lb.b_memories_of }
def d_good_school : Df := { x := "good_school", params := defArgs (top 30), body := defBody (top 30), scope := defScope (top 30), N := ["thing", "one"], ps := ["thing"], mu := [], shr := [], rf := [], fz := [], kw := none, fuel := 0, br := fun _ => Lb.b_good_school }
def d_need_school : Df := { x := "need_school", params := defArgs (top 31), body := defBody (top 31), scope := defScope (top 31), N := ["school"], ps := ["school"], mu := [], shr := [], rf := [], fz := [], kw := none, fuel := 0, br := fun _ => Lb.b_need_school }
def d_Room___init__ : Df := { x := "__init__", params := defArgs (meth 0), body := defBody (meth 0), scope := defScope (meth 0), N := ["self", "school"], ps := ["self", "school"], mu := [], shr := [], rf := [], fz := [], kw := none, fuel := 0, br := fun _ => Lb.b_Room___init__, at_ := some "Room.__init__", kd := 1, rms := ["self"] }
def d_Room___len__ : Df := { x := "__len__", params := defArgs (meth 13), body := defBody (meth 13), scope := defScope (meth 13), N := ["self"], ps := ["self"], mu := [], shr := [], rf := [], fz := [], kw := none, fuel := 0, br := fun _ => Lb.b_Room___len__, at_ := some "Room.__len__", kd := 0, rms := ["self"] }
def d_Room_row_of : Df := { x := "row_of", params := defArgs (meth 2), body := defBody (meth 2), scope := defScope (meth 2), N := ["self", "name"], ps := ["self", "name"], mu := [], shr := [], rf := [], fz := [], kw := none, fuel := 0, br := fun _ => Lb.b_Room_row_of, at_ := some "Room.row_of", kd := 0, rms := ["self"] }
def d_Room_answers : Df := { x := "answers", params := defArgs (meth 8), body := defBody (meth 8), scope := defScope (meth 8), N := ["self", "name"], ps := ["self", "name"], mu := [], shr := [], rf := [], fz := [], kw := none, fuel := 0, br := fun _ => Lb.b_Room_answers, at_ := some "Room.answers", kd := 0, rms := ["self"] }
def d_Room_slips : Df := { x := "slips", params := defArgs (meth 7), body := defBody (meth 7), scope := defScope (meth 7), N := ["self", "name"], ps := ["self", "name"], mu := [], shr := [], rf := [], fz := [], kw := none, fuel := 0, br := fun _ => Lb.b_Room_slips, at_ := some "Room.slips", kd := 0, rms := ["self"] }
def d_Room___str__ : Df := { x := "__str__", params := defArgs (meth 14), body := defBody (meth 14), scope := defScope (meth 14), N := ["self"], ps := ["self"], mu := [], shr := [], rf := [], fz := [], kw := none, fuel := 0, br := fun _ => Lb.b_Room___str__, at_ := some "Room.__str__", kd := 0, rms := ["self"] }
def d_Room_careless : Df := { x := "careless", params := defArgs (meth 5), body := defBody (meth 5), scope := defScope (meth 5), N := ["self", "name", "pupil", "loose", "kept"], ps := ["self", "name"], mu := [], shr := [], rf := [], fz := [], kw := none, fuel := 0, br := fun _ => Lb.b_Room_careless, at_ := some "Room.careless", kd := 0, rms := ["self"] }
def d_right_step : Df := { x := "right_step", params := defArgs (top 34), body := defBody (top 34), scope := defScope (top 34), N := ["school", "memory", "column", "base", "task", "slips", "total"], ps := ["school", "memory", "column"], mu := [], shr := [], rf := [], fz := [], kw := none, fuel := 0, br := fun _ => Lb.b_right_step }
def d_worth_of : Df := { x := "worth_of", params := defArgs (top 42), body := defBody (top 42), scope := defScope (top 42), N := ["term", "column", "memory"], ps := ["term", "column", "memory"], mu := [], shr := [], rf := [], fz := [], kw := none, fuel := 0, br := fun _ => Lb.b_worth_of }
def d_holds : Df := { x := "holds", params := defArgs (top 44), body := defBody (top 44), scope := defScope (top 44), N := ["test", "column", "memory", "a", "b"], ps := ["test", "column", "memory"], mu := [], shr := [], rf := [], fz := [], kw := none, fuel := 0, br := fun _ => Lb.b_holds }
def d_amount_of : Df := { x := "amount_of", params := defArgs (top 43), body := defBody (top 43), scope := defScope (top 43), N := ["amount", "column", "memory", "a", "b"], ps := ["amount", "column", "memory"], mu := [], shr := [], rf := [], fz := [], kw := none, fuel := 0, br := fun _ => Lb.b_amount_of }
def d_step_of : Df := { x := "step_of", params := defArgs (top 45), body := defBody (top 45), scope := defScope (top 45), N := ["school", "pupil", "memory", "column", "number", "tests", "figure", "later", "test", "written"], ps := ["school", "pupil", "memory", "column"], mu := [], shr := [], rf := [], fz := [], kw := none, fuel := 0, br := fun _ => Lb.b_step_of }
def d_right_ends : Df := { x := "right_ends", params := defArgs (top 46), body := defBody (top 46), scope := defScope (top 46), N := ["school", "every", "memory"], ps := ["school"], mu := [], shr := [], rf := [], fz := [], kw := none, fuel := 0, br := fun _ => Lb.b_right_ends }
def d_ends_of : Df := { x := "ends_of", params := defArgs (top 47), body := defBody (top 47), scope := defScope (top 47), N := ["school", "pupil", "number"], ps := ["school", "pupil"], mu := [], shr := [], rf := [], fz := [], kw := none, fuel := 0, br := fun _ => Lb.b_ends_of }
def d_answer_of : Df := { x := "answer_of", params := defArgs (top 49), body := defBody (top 49), scope := defScope (top 49), N := ["school", "pupil", "thing", "memory", "made", "column", "figure"], ps := ["school", "pupil", "thing"], mu := ["made"], shr := [], rf := [], fz := [], kw := none, fuel := 0, br := fun _ => Lb.b_answer_of }
def d_is_column : Df := { x := "is_column", params := defArgs (top 32), body := defBody (top 32), scope := defScope (top 32), N := ["school", "thing", "base", "task", "slips", "one"], ps := ["school", "thing"], mu := [], shr := [], rf := [], fz := [], kw := none, fuel := 0, br := fun _ => Lb.b_is_column }
def d_good_sum : Df := { x := "good_sum", params := defArgs (top 33), body := defBody (top 33), scope := defScope (top 33), N := ["school", "thing", "one"], ps := ["school", "thing"], mu := [], shr := [], rf := [], fz := [], kw := none, fuel := 0, br := fun _ => Lb.b_good_sum }
def d_is_end : Df := { x := "is_end", params := defArgs (top 35), body := defBody (top 35), scope := defScope (top 35), N := ["school", "memory"], ps := ["school", "memory"], mu := [], shr := [], rf := [], fz := [], kw := none, fuel := 0, br := fun _ => Lb.b_is_end }
def d_is_fair_sum : Df := { x := "is_fair_sum", params := defArgs (top 36), body := defBody (top 36), scope := defScope (top 36), N := ["school", "thing", "memory", "column"], ps := ["school", "thing"], mu := [], shr := [], rf := [], fz := [], kw := none, fuel := 0, br := fun _ => Lb.b_is_fair_sum }
def d_good_fair : Df := { x := "good_fair", params := defArgs (top 37), body := defBody (top 37), scope := defScope (top 37), N := ["school", "thing"], ps := ["school", "thing"], mu := [], shr := [], rf := [], fz := [], kw := none, fuel := 0, br := fun _ => Lb.b_good_fair }
def d_Room_ask : Df := { x := "ask", params := defArgs (meth 4), body := defBody (meth 4), scope := defScope (meth 4), N := ["self", "name", "thing", "pupil", "loose", "kept", "made"], ps := ["self", "name", "thing"], mu := [], shr := [], rf := [], fz := [], kw := none, fuel := 0, br := fun _ => Lb.b_Room_ask, at_ := some "Room.ask", kd := 0, rms := ["self"] }
def d_Room___eq__ : Df := { x := "__eq__", params := defArgs (meth 12), body := defBody (meth 12), scope := defScope (meth 12), N := ["self", "other"], ps := ["self", "other"], mu := [], shr := [], rf := [], fz := [], kw := none, fuel := 0, br := fun _ => Lb.b_Room___eq__, at_ := some "Room.__eq__", kd := 0, rms := ["self", "other"] }
def d_Room_back : Df := { x := "back", params := defArgs (meth 10), body := defBody (meth 10), scope := defScope (meth 10), N := ["self"], ps := ["self"], mu := [], shr := [], rf := [], fz := [], kw := none, fuel := 0, br := fun _ => Lb.b_Room_back, at_ := some "Room.back", kd := 0, rms := ["self"] }
def d__law_same_truth : Df := { x := "_law_same_truth", params := defArgs (top 66), body := defBody (top 66), scope := defScope (top 66), N := ["got", "due"], ps := ["got", "due"], mu := [], shr := [], rf := [], fz := [], kw := none, fuel := 0, br := fun _ => Lb.b__law_same_truth }
def d__law_alike_so : Df := { x := "_law_alike_so", params := defArgs (top 69), body := defBody (top 69), scope := defScope (top 69), N := ["school", "slip", "room", "other", "third"], ps := ["school", "slip", "room"], mu := [], shr := [], rf := [], fz := [], kw := none, fuel := 0, br := fun _ => Lb.b__law_alike_so, rms := ["room", "other", "third"] }
def d_table_of : Df := { x := "table_of", params := defArgs (top 58), body := defBody (top 58), scope := defScope (top 58), N := ["school", "firsts", "sheet", "one", "pupil"], ps := ["school", "firsts", "sheet"], mu := [], shr := [], rf := [], fz := [], kw := none, fuel := 0, br := fun _ => Lb.b_table_of }
def d_unlike_at : Df := { x := "unlike_at", params := defArgs (top 59), body := defBody (top 59), scope := defScope (top 59), N := ["one", "other", "a", "b"], ps := ["one", "other"], mu := [], shr := [], rf := [], fz := [], kw := none, fuel := 0, br := fun _ => Lb.b_unlike_at }
def d_going : Df := { x := "going", params := defArgs (top 60), body := defBody (top 60), scope := defScope (top 60), N := ["rows", "answers", "careless", "number", "row"], ps := ["rows", "answers", "careless"], mu := [], shr := [], rf := [], fz := [], kw := none, fuel := 0, br := fun _ => Lb.b_going }
def d_pupils_of : Df := { x := "pupils_of", params := defArgs (top 39), body := defBody (top 39), scope := defScope (top 39), N := ["school", "made", "number", "one"], ps := ["school"], mu := ["made"], shr := [], rf := [], fz := [], kw := none, fuel := 0, br := fun _ => Lb.b_pupils_of }
def d_columns_of : Df := { x := "columns_of", params := defArgs (top 38), body := defBody (top 38), scope := defScope (top 38), N := ["school", "base", "task", "slips", "lowers", "upper", "lower"], ps := ["school"], mu := [], shr := [], rf := [], fz := [], kw := none, fuel := 0, br := fun _ => Lb.b_columns_of }
def d_way_of : Df := { x := "way_of", params := defArgs (top 48), body := defBody (top 48), scope := defScope (top 48), N := ["school", "pupil", "table", "memory", "column"], ps := ["school", "pupil"], mu := ["table"], shr := [], rf := [], fz := [], kw := none, fuel := 0, br := fun _ => Lb.b_way_of }
def d_later_states : Df := { x := "later_states", params := defArgs (top 51), body := defBody (top 51), scope := defScope (top 51), N := ["ways", "state", "one", "other", "right", "unlike", "made", "first", "second", "third"], ps := ["ways", "state"], mu := ["made"], shr := [], rf := [], fz := [], kw := none, fuel := 0, br := fun _ => Lb.b_later_states }
def d_parts : Df := { x := "parts", params := defArgs (top 52), body := defBody (top 52), scope := defScope (top 52), N := ["school", "ways", "state", "one", "other", "right", "unlike"], ps := ["school", "ways", "state"], mu := [], shr := [], rf := [], fz := [], kw := none, fuel := 0, br := fun _ => Lb.b_parts }
def d_parted_of : Df := { x := "parted_of", params := defArgs (top 53), body := defBody (top 53), scope := defScope (top 53), N := ["school", "one", "other", "ways", "every", "pupil", "seen", "level", "later", "row", "state", "column", "after", "found"], ps := ["school", "one", "other"], mu := ["later", "seen"], shr := [], rf := [], fz := [], kw := none, fuel := 0, br := fun _ => Lb.b_parted_of }
def d_classes_of : Df := { x := "classes_of", params := defArgs (top 54), body := defBody (top 54), scope := defScope (top 54), N := ["school", "made", "pupil", "own", "lot"], ps := ["school"], mu := [], shr := [], rf := ["made", "own"], fz := [], kw := none, fuel := 0, br := fun _ => Lb.b_classes_of }
def d_firsts_of : Df := { x := "firsts_of", params := defArgs (top 57), body := defBody (top 57), scope := defScope (top 57), N := ["school", "lot"], ps := ["school"], mu := [], shr := [], rf := [], fz := [], kw := none, fuel := 0, br := fun _ => Lb.b_firsts_of }
def d_Room_told : Df := { x := "told", params := defArgs (meth 9), body := defBody (meth 9), scope := defScope (meth 9), N := ["self", "name", "careless", "kept", "rows", "thing", "answer"], ps := ["self", "name", "careless"], mu := [], shr := [], rf := [], fz := [], kw := some ("careless", 0), fuel := 0, br := fun _ => Lb.b_Room_told, at_ := some "Room.told", kd := 0, rms := ["self"] }
def d_Room_cure : Df := { x := "cure", params := defArgs (meth 6), body := defBody (meth 6), scope := defScope (meth 6), N := ["self", "name", "slip", "pupil", "loose", "kept", "one"], ps := ["self", "name", "slip"], mu := [], shr := [], rf := [], fz := [], kw := none, fuel := 0, br := fun _ => Lb.b_Room_cure, at_ := some "Room.cure", kd := 0, rms := ["self"] }
def d__law_ask : Df := { x := "_law_ask", params := defArgs (top 68), body := defBody (top 68), scope := defScope (top 68), N := ["what", "room", "one", "two", "e"], ps := ["what", "room", "one", "two"], mu := [], shr := [], rf := [], fz := [], kw := none, fuel := 0, br := fun _ => Lb.b__law_ask_k22, rms := ["room"] }
def d_law : Df := { x := "law", params := defArgs (top 70), body := defBody (top 70), scope := defScope (top 70), N := ["script", "town", "slip", "school", "room", "bad", "what"], ps := ["script"], mu := [], shr := ["town"], rf := [], fz := [], kw := none, fuel := 0, br := fun _ => Lb.b_law_k22, rms := ["room"] }
def p0 : Fns := []
def q0 : FnsK := []
def r0 : Mts := {}
def p1 : Fns := p0
def q1 : FnsK := q0
def r1 : Mts := { r0 with mts := ("turn", Lb.m_Room_turn) :: r0.mts, own := ("turn", Lb.m_Room_turn) :: r0.own }
def p2 : Fns := ("is_whole", (3, Lb.m_is_whole)) :: p1
def q2 : FnsK := q1
def r2 : Mts := r1
def p3 : Fns := ("good_pupil", (2, Lb.m_good_pupil)) :: p2
def q3 : FnsK := q2
def r3 : Mts := r2
def p4 : Fns := ("is_name", (1, Lb.m_is_name)) :: p3
def q4 : FnsK := q3
def r4 : Mts := r3
def p5 : Fns := p4
def q5 : FnsK := q4
def r5 : Mts := { r4 with mts := ("enrol", Lb.m_Room_enrol) :: r4.mts, own := ("enrol", Lb.m_Room_enrol) :: r4.own }
def p6 : Fns := ("is_task", (2, Lb.m_is_task)) :: p5
def q6 : FnsK := q5
def r6 : Mts := r5
def p7 : Fns := ("are_ends", (3, Lb.m_are_ends)) :: p6
def q7 : FnsK := q6
def r7 : Mts := r6
def p8 : Fns := ("is_among", (2, Lb.m_is_among)) :: p7
def q8 : FnsK := q7
def r8 : Mts := r7
def p9 : Fns := ("is_term", (1, Lb.m_is_term)) :: p8
def q9 : FnsK := q8
def r9 : Mts := r8
def p10 : Fns := ("is_amount", (1, Lb.m_is_amount)) :: p9
def q10 : FnsK := q9
def r10 : Mts := r9
def p11 : Fns := ("is_test", (1, Lb.m_is_test)) :: p10
def q11 : FnsK := q10
def r11 : Mts := r10
def p12 : Fns := ("is_rule", (1, Lb.m_is_rule)) :: p11
def q12 : FnsK := q11
def r12 : Mts := r11
def p13 : Fns := ("is_slip", (3, Lb.m_is_slip)) :: p12
def q13 : FnsK := q12
def r13 : Mts := r12
def p14 : Fns := ("memories_of", (1, Lb.m_memories_of)) :: p13
def q14 : FnsK := q13
def r14 : Mts := r13
def p15 : Fns := ("good_school", (1, Lb.m_good_school)) :: p14
def q15 : FnsK := q14
def r15 : Mts := r14
def p16 : Fns := ("need_school", (1, Lb.m_need_school)) :: p15
def q16 : FnsK := q15
def r16 : Mts := r15
def p17 : Fns := p16
def q17 : FnsK := q16
def r17 : Mts := { r16 with ini := some Lb.m_Room___init__ }
def p18 : Fns := p17
def q18 : FnsK := q17
def r18 : Mts := { r17 with mts := ("__len__", Lb.m_Room___len__) :: r17.mts, own := ("__len__", Lb.m_Room___len__) :: r17.own }
def p19 : Fns := p18
def q19 : FnsK := q18
def r19 : Mts := { r18 with mts := ("row_of", Lb.m_Room_row_of) :: r18.mts, own := ("row_of", Lb.m_Room_row_of) :: r18.own }
def p20 : Fns := p19
def q20 : FnsK := q19
def r20 : Mts := { r19 with mts := ("answers", Lb.m_Room_answers) :: r19.mts, own := ("answers", Lb.m_Room_answers) :: r19.own }
def p21 : Fns := p20
def q21 : FnsK := q20
def r21 : Mts := { r20 with mts := ("slips", Lb.m_Room_slips) :: r20.mts, own := ("slips", Lb.m_Room_slips) :: r20.own }
def p22 : Fns := p21
def q22 : FnsK := q21
def r22 : Mts := { r21 with mts := ("__str__", Lb.m_Room___str__) :: r21.mts, own := ("__str__", Lb.m_Room___str__) :: r21.own }
def p23 : Fns := p22
def q23 : FnsK := q22
def r23 : Mts := { r22 with mts := ("careless", Lb.m_Room_careless) :: r22.mts, own := ("careless", Lb.m_Room_careless) :: r22.own }
def p24 : Fns := ("right_step", (3, Lb.m_right_step)) :: p23
def q24 : FnsK := q23
def r24 : Mts := r23
def p25 : Fns := ("worth_of", (3, Lb.m_worth_of)) :: p24
def q25 : FnsK := q24
def r25 : Mts := r24
def p26 : Fns := ("holds", (3, Lb.m_holds)) :: p25
def q26 : FnsK := q25
def r26 : Mts := r25
def p27 : Fns := ("amount_of", (3, Lb.m_amount_of)) :: p26
def q27 : FnsK := q26
def r27 : Mts := r26
def p28 : Fns := ("step_of", (4, Lb.m_step_of)) :: p27
def q28 : FnsK := q27
def r28 : Mts := r27
def p29 : Fns := ("right_ends", (1, Lb.m_right_ends)) :: p28
def q29 : FnsK := q28
def r29 : Mts := r28
def p30 : Fns := ("ends_of", (2, Lb.m_ends_of)) :: p29
def q30 : FnsK := q29
def r30 : Mts := r29
def p31 : Fns := ("answer_of", (3, Lb.m_answer_of)) :: p30
def q31 : FnsK := q30
def r31 : Mts := r30
def p32 : Fns := ("is_column", (2, Lb.m_is_column)) :: p31
def q32 : FnsK := q31
def r32 : Mts := r31
def p33 : Fns := ("good_sum", (2, Lb.m_good_sum)) :: p32
def q33 : FnsK := q32
def r33 : Mts := r32
def p34 : Fns := ("is_end", (2, Lb.m_is_end)) :: p33
def q34 : FnsK := q33
def r34 : Mts := r33
def p35 : Fns := ("is_fair_sum", (2, Lb.m_is_fair_sum)) :: p34
def q35 : FnsK := q34
def r35 : Mts := r34
def p36 : Fns := ("good_fair", (2, Lb.m_good_fair)) :: p35
def q36 : FnsK := q35
def r36 : Mts := r35
def p37 : Fns := p36
def q37 : FnsK := q36
def r37 : Mts := { r36 with mts := ("ask", Lb.m_Room_ask) :: r36.mts, own := ("ask", Lb.m_Room_ask) :: r36.own }
def p38 : Fns := p37
def q38 : FnsK := q37
def r38 : Mts := { r37 with mts := ("__eq__", Lb.m_Room___eq__) :: r37.mts, own := ("__eq__", Lb.m_Room___eq__) :: r37.own }
def p39 : Fns := p38
def q39 : FnsK := q38
def r39 : Mts := { r38 with mts := ("back", Lb.m_Room_back) :: r38.mts, own := ("back", Lb.m_Room_back) :: r38.own }
def p40 : Fns := ("_law_same_truth", (2, Lb.m__law_same_truth)) :: p39
def q40 : FnsK := q39
def r40 : Mts := r39
def p41 : Fns := ("_law_alike_so", (3, Lb.m__law_alike_so)) :: p40
def q41 : FnsK := q40
def r41 : Mts := r40
def p42 : Fns := ("table_of", (3, Lb.m_table_of)) :: p41
def q42 : FnsK := q41
def r42 : Mts := r41
def p43 : Fns := ("unlike_at", (2, Lb.m_unlike_at)) :: p42
def q43 : FnsK := q42
def r43 : Mts := r42
def p44 : Fns := ("going", (3, Lb.m_going)) :: p43
def q44 : FnsK := q43
def r44 : Mts := r43
def p45 : Fns := ("pupils_of", (1, Lb.m_pupils_of)) :: p44
def q45 : FnsK := q44
def r45 : Mts := r44
def p46 : Fns := ("columns_of", (1, Lb.m_columns_of)) :: p45
def q46 : FnsK := q45
def r46 : Mts := r45
def p47 : Fns := ("way_of", (2, Lb.m_way_of)) :: p46
def q47 : FnsK := q46
def r47 : Mts := r46
def p48 : Fns := ("later_states", (2, Lb.m_later_states)) :: p47
def q48 : FnsK := q47
def r48 : Mts := r47
def p49 : Fns := ("parts", (3, Lb.m_parts)) :: p48
def q49 : FnsK := q48
def r49 : Mts := r48
def p50 : Fns := ("parted_of", (3, Lb.m_parted_of)) :: p49
def q50 : FnsK := q49
def r50 : Mts := r49
def p51 : Fns := ("classes_of", (1, Lb.m_classes_of)) :: p50
def q51 : FnsK := q50
def r51 : Mts := r50
def p52 : Fns := ("firsts_of", (1, Lb.m_firsts_of)) :: p51
def q52 : FnsK := q51
def r52 : Mts := r51
def p53 : Fns := p52
def q53 : FnsK := q52
def r53 : Mts := { r52 with mtk := ("told", (3, Lb.m_Room_told, "careless", .int 0)) :: r52.mtk, mts := ("told", mDef Lb.m_Room_told (.int 0)) :: r52.mts }
def p54 : Fns := p53
def q54 : FnsK := q53
def r54 : Mts := { r53 with mts := ("cure", Lb.m_Room_cure) :: r53.mts, own := ("cure", Lb.m_Room_cure) :: r53.own }
def p55 : Fns := ("_law_ask", (4, Lb.m__law_ask_k22)) :: p54
def q55 : FnsK := q54
def r55 : Mts := r54
def p56 : Fns := ("law", (1, Lb.m_law_k22)) :: p55
def q56 : FnsK := q55
def r56 : Mts := r55
theorem ok_Room_turn : d_Room_turn.Ok T p0 q0 r0 := ⟨fun _ => by kernel_rfl, ⟨by kernel_rfl, by kernel_rfl, by kernel_rfl, by decide +kernel, by kernel_rfl, by decide +kernel, by decide +kernel⟩, fun _ _ _ _ _ _ us hl => match us, hl with | [_, _, _, _], _ => rfl, ⟨rfl, fun _ => rfl, fun h => nomatch h⟩⟩
theorem ok_is_whole : d_is_whole.Ok T p1 q1 r1 := ⟨fun _ => by kernel_rfl, ⟨by kernel_rfl, by kernel_rfl, by kernel_rfl, by decide +kernel, by kernel_rfl, by decide +kernel, by decide +kernel⟩, fun _ _ _ _ _ _ us hl => match us, hl with | [_, _, _], _ => rfl, rfl⟩
theorem ok_good_pupil : d_good_pupil.Ok T p2 q2 r2 := ⟨fun _ => by kernel_rfl, ⟨by kernel_rfl, by kernel_rfl, by kernel_rfl, by decide +kernel, by kernel_rfl, by decide +kernel, by decide +kernel⟩, fun _ _ _ _ _ _ us hl => match us, hl with | [_, _], _ => rfl, rfl⟩
theorem ok_is_name : d_is_name.Ok T p3 q3 r3 := ⟨fun _ => by kernel_rfl, ⟨by kernel_rfl, by kernel_rfl, by kernel_rfl, by decide +kernel, by kernel_rfl, by decide +kernel, by decide +kernel⟩, fun _ _ _ _ _ _ us hl => match us, hl with | [_], _ => rfl, rfl⟩
theorem ok_Room_enrol : d_Room_enrol.Ok T p4 q4 r4 := ⟨fun _ => by kernel_rfl, ⟨by kernel_rfl, by kernel_rfl, by kernel_rfl, by decide +kernel, by kernel_rfl, by decide +kernel, by decide +kernel⟩, fun _ _ _ _ _ _ us hl => match us, hl with | [_, _, _], _ => rfl, ⟨rfl, fun _ => rfl, fun h => nomatch h⟩⟩
theorem ok_is_task : d_is_task.Ok T p5 q5 r5 := ⟨fun _ => by kernel_rfl, ⟨by kernel_rfl, by kernel_rfl, by kernel_rfl, by decide +kernel, by kernel_rfl, by decide +kernel, by decide +kernel⟩, fun _ _ _ _ _ _ us hl => match us, hl with | [_, _], _ => rfl, rfl⟩
theorem ok_are_ends : d_are_ends.Ok T p6 q6 r6 := ⟨fun _ => by kernel_rfl, ⟨by kernel_rfl, by kernel_rfl, by kernel_rfl, by decide +kernel, by kernel_rfl, by decide +kernel, by decide +kernel⟩, fun _ _ _ _ _ _ us hl => match us, hl with | [_, _, _], _ => rfl, rfl⟩
theorem ok_is_among : d_is_among.Ok T p7 q7 r7 := ⟨fun _ => by kernel_rfl, ⟨by kernel_rfl, by kernel_rfl, by kernel_rfl, by decide +kernel, by kernel_rfl, by decide +kernel, by decide +kernel⟩, fun _ _ _ _ _ _ us hl => match us, hl with | [_, _], _ => rfl, rfl⟩
theorem ok_is_term : d_is_term.Ok T p8 q8 r8 := ⟨fun _ => by kernel_rfl, ⟨by kernel_rfl, by kernel_rfl, by kernel_rfl, by decide +kernel, by kernel_rfl, by decide +kernel, by decide +kernel⟩, fun _ _ _ _ _ _ us hl => match us, hl with | [_], _ => rfl, rfl⟩
theorem ok_is_amount : d_is_amount.Ok T p9 q9 r9 := ⟨fun _ => by kernel_rfl, ⟨by kernel_rfl, by kernel_rfl, by kernel_rfl, by decide +kernel, by kernel_rfl, by decide +kernel, by decide +kernel⟩, fun _ _ _ _ _ _ us hl => match us, hl with | [_], _ => rfl, rfl⟩
theorem ok_is_test : d_is_test.Ok T p10 q10 r10 := ⟨fun _ => by kernel_rfl, ⟨by kernel_rfl, by kernel_rfl, by kernel_rfl, by decide +kernel, by kernel_rfl, by decide +kernel, by decide +kernel⟩, fun _ _ _ _ _ _ us hl => match us, hl with | [_], _ => rfl, rfl⟩
theorem ok_is_rule : d_is_rule.Ok T p11 q11 r11 := ⟨fun _ => by kernel_rfl, ⟨by kernel_rfl, by kernel_rfl, by kernel_rfl, by decide +kernel, by kernel_rfl, by decide +kernel, by decide +kernel⟩, fun _ _ _ _ _ _ us hl => match us, hl with | [_], _ => rfl, rfl⟩
theorem ok_is_slip : d_is_slip.Ok T p12 q12 r12 := ⟨fun _ => by kernel_rfl, ⟨by kernel_rfl, by kernel_rfl, by kernel_rfl, by decide +kernel, by kernel_rfl, by decide +kernel, by decide +kernel⟩, fun _ _ _ _ _ _ us hl => match us, hl with | [_, _, _], _ => rfl, rfl⟩
theorem ok_memories_of : d_memories_of.Ok T p13 q13 r13 := ⟨fun _ => by kernel_rfl, ⟨by kernel_rfl, by kernel_rfl, by kernel_rfl, by decide +kernel, by kernel_rfl, by decide +kernel, by decide +kernel⟩, fun _ _ _ _ _ _ us hl => match us, hl with | [_], _ => rfl, rfl⟩
theorem ok_good_school : d_good_school.Ok T p14 q14 r14 := ⟨fun _ => by kernel_rfl, ⟨by kernel_rfl, by kernel_rfl, by kernel_rfl, by decide +kernel, by kernel_rfl, by decide +kernel, by decide +kernel⟩, fun _ _ _ _ _ _ us hl => match us, hl with | [_], _ => rfl, rfl⟩
theorem ok_need_school : d_need_school.Ok T p15 q15 r15 := ⟨fun _ => by kernel_rfl, ⟨by kernel_rfl, by kernel_rfl, by kernel_rfl, by decide +kernel, by kernel_rfl, by decide +kernel, by decide +kernel⟩, fun _ _ _ _ _ _ us hl => match us, hl with | [_], _ => rfl, rfl⟩
theorem ok_Room___init__ : d_Room___init__.Ok T p16 q16 r16 := ⟨fun _ => by kernel_rfl, ⟨by kernel_rfl, by kernel_rfl, by kernel_rfl, by decide +kernel, by kernel_rfl, by decide +kernel, by decide +kernel⟩, fun _ _ _ _ _ _ us hl => match us, hl with | [_, _], _ => rfl, ⟨rfl, fun _ => rfl, fun _ => rfl⟩⟩
theorem ok_Room___len__ : d_Room___len__.Ok T p17 q17 r17 := ⟨fun _ => by kernel_rfl, ⟨by kernel_rfl, by kernel_rfl, by kernel_rfl, by decide +kernel, by kernel_rfl, by decide +kernel, by decide +kernel⟩, fun _ _ _ _ _ _ us hl => match us, hl with | [_], _ => rfl, ⟨rfl, fun _ => rfl, fun h => nomatch h⟩⟩
theorem ok_Room_row_of : d_Room_row_of.Ok T p18 q18 r18 := ⟨fun _ => by kernel_rfl, ⟨by kernel_rfl, by kernel_rfl, by kernel_rfl, by decide +kernel, by kernel_rfl, by decide +kernel, by decide +kernel⟩, fun _ _ _ _ _ _ us hl => match us, hl with | [_, _], _ => rfl, ⟨rfl, fun _ => rfl, fun h => nomatch h⟩⟩
theorem ok_Room_answers : d_Room_answers.Ok T p19 q19 r19 := ⟨fun _ => by kernel_rfl, ⟨by kernel_rfl, by kernel_rfl, by kernel_rfl, by decide +kernel, by kernel_rfl, by decide +kernel, by decide +kernel⟩, fun _ _ _ _ _ _ us hl => match us, hl with | [_, _], _ => rfl, ⟨rfl, fun _ => rfl, fun h => nomatch h⟩⟩
theorem ok_Room_slips : d_Room_slips.Ok T p20 q20 r20 := ⟨fun _ => by kernel_rfl, ⟨by kernel_rfl, by kernel_rfl, by kernel_rfl, by decide +kernel, by kernel_rfl, by decide +kernel, by decide +kernel⟩, fun _ _ _ _ _ _ us hl => match us, hl with | [_, _], _ => rfl, ⟨rfl, fun _ => rfl, fun h => nomatch h⟩⟩
theorem ok_Room___str__ : d_Room___str__.Ok T p21 q21 r21 := ⟨fun _ => by kernel_rfl, ⟨by kernel_rfl, by kernel_rfl, by kernel_rfl, by decide +kernel, by kernel_rfl, by decide +kernel, by decide +kernel⟩, fun _ _ _ _ _ _ us hl => match us, hl with | [_], _ => rfl, ⟨rfl, fun _ => rfl, fun h => nomatch h⟩⟩
theorem ok_Room_careless : d_Room_careless.Ok T p22 q22 r22 := ⟨fun _ => by kernel_rfl, ⟨by kernel_rfl, by kernel_rfl, by kernel_rfl, by decide +kernel, by kernel_rfl, by decide +kernel, by decide +kernel⟩, fun _ _ _ _ _ _ us hl => match us, hl with | [_, _], _ => rfl, ⟨rfl, fun _ => rfl, fun h => nomatch h⟩⟩
theorem ok_right_step : d_right_step.Ok T p23 q23 r23 := ⟨fun _ => by kernel_rfl, ⟨by kernel_rfl, by kernel_rfl, by kernel_rfl, by decide +kernel, by kernel_rfl, by decide +kernel, by decide +kernel⟩, fun _ _ _ _ _ _ us hl => match us, hl with | [_, _, _], _ => rfl, rfl⟩
theorem ok_worth_of : d_worth_of.Ok T p24 q24 r24 := ⟨fun _ => by kernel_rfl, ⟨by kernel_rfl, by kernel_rfl, by kernel_rfl, by decide +kernel, by kernel_rfl, by decide +kernel, by decide +kernel⟩, fun _ _ _ _ _ _ us hl => match us, hl with | [_, _, _], _ => rfl, rfl⟩
theorem ok_holds : d_holds.Ok T p25 q25 r25 := ⟨fun _ => by kernel_rfl, ⟨by kernel_rfl, by kernel_rfl, by kernel_rfl, by decide +kernel, by kernel_rfl, by decide +kernel, by decide +kernel⟩, fun _ _ _ _ _ _ us hl => match us, hl with | [_, _, _], _ => rfl, rfl⟩
theorem ok_amount_of : d_amount_of.Ok T p26 q26 r26 := ⟨fun _ => by kernel_rfl, ⟨by kernel_rfl, by kernel_rfl, by kernel_rfl, by decide +kernel, by kernel_rfl, by decide +kernel, by decide +kernel⟩, fun _ _ _ _ _ _ us hl => match us, hl with | [_, _, _], _ => rfl, rfl⟩
theorem ok_step_of : d_step_of.Ok T p27 q27 r27 := ⟨fun _ => by kernel_rfl, ⟨by kernel_rfl, by kernel_rfl, by kernel_rfl, by decide +kernel, by kernel_rfl, by decide +kernel, by decide +kernel⟩, fun _ _ _ _ _ _ us hl => match us, hl with | [_, _, _, _], _ => rfl, rfl⟩
theorem ok_right_ends : d_right_ends.Ok T p28 q28 r28 := ⟨fun _ => by kernel_rfl, ⟨by kernel_rfl, by kernel_rfl, by kernel_rfl, by decide +kernel, by kernel_rfl, by decide +kernel, by decide +kernel⟩, fun _ _ _ _ _ _ us hl => match us, hl with | [_], _ => rfl, rfl⟩
theorem ok_ends_of : d_ends_of.Ok T p29 q29 r29 := ⟨fun _ => by kernel_rfl, ⟨by kernel_rfl, by kernel_rfl, by kernel_rfl, by decide +kernel, by kernel_rfl, by decide +kernel, by decide +kernel⟩, fun _ _ _ _ _ _ us hl => match us, hl with | [_, _], _ => rfl, rfl⟩
theorem ok_answer_of : d_answer_of.Ok T p30 q30 r30 := ⟨fun _ => by kernel_rfl, ⟨by kernel_rfl, by kernel_rfl, by kernel_rfl, by decide +kernel, by kernel_rfl, by decide +kernel, by decide +kernel⟩, fun _ _ _ _ _ _ us hl => match us, hl with | [_, _, _], _ => rfl, rfl⟩
theorem ok_is_column : d_is_column.Ok T p31 q31 r31 := ⟨fun _ => by kernel_rfl, ⟨by kernel_rfl, by kernel_rfl, by kernel_rfl, by decide +kernel, by kernel_rfl, by decide +kernel, by decide +kernel⟩, fun _ _ _ _ _ _ us hl => match us, hl with | [_, _], _ => rfl, rfl⟩
theorem ok_good_sum : d_good_sum.Ok T p32 q32 r32 := ⟨fun _ => by kernel_rfl, ⟨by kernel_rfl, by kernel_rfl, by kernel_rfl, by decide +kernel, by kernel_rfl, by decide +kernel, by decide +kernel⟩, fun _ _ _ _ _ _ us hl => match us, hl with | [_, _], _ => rfl, rfl⟩
theorem ok_is_end : d_is_end.Ok T p33 q33 r33 := ⟨fun _ => by kernel_rfl, ⟨by kernel_rfl, by kernel_rfl, by kernel_rfl, by decide +kernel, by kernel_rfl, by decide +kernel, by decide +kernel⟩, fun _ _ _ _ _ _ us hl => match us, hl with | [_, _], _ => rfl, rfl⟩
theorem ok_is_fair_sum : d_is_fair_sum.Ok T p34 q34 r34 := ⟨fun _ => by kernel_rfl, ⟨by kernel_rfl, by kernel_rfl, by kernel_rfl, by decide +kernel, by kernel_rfl, by decide +kernel, by decide +kernel⟩, fun _ _ _ _ _ _ us hl => match us, hl with | [_, _], _ => rfl, rfl⟩
theorem ok_good_fair : d_good_fair.Ok T p35 q35 r35 := ⟨fun _ => by kernel_rfl, ⟨by kernel_rfl, by kernel_rfl, by kernel_rfl, by decide +kernel, by kernel_rfl, by decide +kernel, by decide +kernel⟩, fun _ _ _ _ _ _ us hl => match us, hl with | [_, _], _ => rfl, rfl⟩
theorem ok_Room_ask : d_Room_ask.Ok T p36 q36 r36 := ⟨fun _ => by kernel_rfl, ⟨by kernel_rfl, by kernel_rfl, by kernel_rfl, by decide +kernel, by kernel_rfl, by decide +kernel, by decide +kernel⟩, fun _ _ _ _ _ _ us hl => match us, hl with | [_, _, _], _ => rfl, ⟨rfl, fun _ => rfl, fun h => nomatch h⟩⟩
theorem ok_Room___eq__ : d_Room___eq__.Ok T p37 q37 r37 := ⟨fun _ => by kernel_rfl, ⟨by kernel_rfl, by kernel_rfl, by kernel_rfl, by decide +kernel, by kernel_rfl, by decide +kernel, by decide +kernel⟩, fun _ _ _ _ _ _ us hl => match us, hl with | [_, _], _ => rfl, ⟨rfl, fun _ => rfl, fun h => nomatch h⟩⟩
theorem ok_Room_back : d_Room_back.Ok T p38 q38 r38 := ⟨fun _ => by kernel_rfl, ⟨by kernel_rfl, by kernel_rfl, by kernel_rfl, by decide +kernel, by kernel_rfl, by decide +kernel, by decide +kernel⟩, fun _ _ _ _ _ _ us hl => match us, hl with | [_], _ => rfl, ⟨rfl, fun _ => rfl, fun h => nomatch h⟩⟩
theorem ok__law_same_truth : d__law_same_truth.Ok T p39 q39 r39 := ⟨fun _ => by kernel_rfl, ⟨by kernel_rfl, by kernel_rfl, by kernel_rfl, by decide +kernel, by kernel_rfl, by decide +kernel, by decide +kernel⟩, fun _ _ _ _ _ _ us hl => match us, hl with | [_, _], _ => rfl, rfl⟩
theorem ok__law_alike_so : d__law_alike_so.Ok T p40 q40 r40 := ⟨fun _ => by kernel_rfl, ⟨by kernel_rfl, by kernel_rfl, by kernel_rfl, by decide +kernel, by kernel_rfl, by decide +kernel, by decide +kernel⟩, fun _ _ _ _ _ _ us hl => match us, hl with | [_, _, _], _ => rfl, rfl⟩
theorem ok_table_of : d_table_of.Ok T p41 q41 r41 := ⟨fun _ => by kernel_rfl, ⟨by kernel_rfl, by kernel_rfl, by kernel_rfl, by decide +kernel, by kernel_rfl, by decide +kernel, by decide +kernel⟩, fun _ _ _ _ _ _ us hl => match us, hl with | [_, _, _], _ => rfl, rfl⟩
theorem ok_unlike_at : d_unlike_at.Ok T p42 q42 r42 := ⟨fun _ => by kernel_rfl, ⟨by kernel_rfl, by kernel_rfl, by kernel_rfl, by decide +kernel, by kernel_rfl, by decide +kernel, by decide +kernel⟩, fun _ _ _ _ _ _ us hl => match us, hl with | [_, _], _ => rfl, rfl⟩
theorem ok_going : d_going.Ok T p43 q43 r43 := ⟨fun _ => by kernel_rfl, ⟨by kernel_rfl, by kernel_rfl, by kernel_rfl, by decide +kernel, by kernel_rfl, by decide +kernel, by decide +kernel⟩, fun _ _ _ _ _ _ us hl => match us, hl with | [_, _, _], _ => rfl, rfl⟩
theorem ok_pupils_of : d_pupils_of.Ok T p44 q44 r44 := ⟨fun _ => by kernel_rfl, ⟨by kernel_rfl, by kernel_rfl, by kernel_rfl, by decide +kernel, by kernel_rfl, by decide +kernel, by decide +kernel⟩, fun _ _ _ _ _ _ us hl => match us, hl with | [_], _ => rfl, rfl⟩
theorem ok_columns_of : d_columns_of.Ok T p45 q45 r45 := ⟨fun _ => by kernel_rfl, ⟨by kernel_rfl, by kernel_rfl, by kernel_rfl, by decide +kernel, by kernel_rfl, by decide +kernel, by decide +kernel⟩, fun _ _ _ _ _ _ us hl => match us, hl with | [_], _ => rfl, rfl⟩
theorem ok_way_of : d_way_of.Ok T p46 q46 r46 := ⟨fun _ => by kernel_rfl, ⟨by kernel_rfl, by kernel_rfl, by kernel_rfl, by decide +kernel, by kernel_rfl, by decide +kernel, by decide +kernel⟩, fun _ _ _ _ _ _ us hl => match us, hl with | [_, _], _ => rfl, rfl⟩
theorem ok_later_states : d_later_states.Ok T p47 q47 r47 := ⟨fun _ => by kernel_rfl, ⟨by kernel_rfl, by kernel_rfl, by kernel_rfl, by decide +kernel, by kernel_rfl, by decide +kernel, by decide +kernel⟩, fun _ _ _ _ _ _ us hl => match us, hl with | [_, _], _ => rfl, rfl⟩
theorem ok_parts : d_parts.Ok T p48 q48 r48 := ⟨fun _ => by kernel_rfl, ⟨by kernel_rfl, by kernel_rfl, by kernel_rfl, by decide +kernel, by kernel_rfl, by decide +kernel, by decide +kernel⟩, fun _ _ _ _ _ _ us hl => match us, hl with | [_, _, _], _ => rfl, rfl⟩
theorem ok_parted_of : d_parted_of.Ok T p49 q49 r49 := ⟨fun _ => by kernel_rfl, ⟨by kernel_rfl, by kernel_rfl, by kernel_rfl, by decide +kernel, by kernel_rfl, by decide +kernel, by decide +kernel⟩, fun _ _ _ _ _ _ us hl => match us, hl with | [_, _, _], _ => rfl, rfl⟩
theorem ok_classes_of : d_classes_of.Ok T p50 q50 r50 := ⟨fun _ => by kernel_rfl, ⟨by kernel_rfl, by kernel_rfl, by kernel_rfl, by decide +kernel, by kernel_rfl, by decide +kernel, by decide +kernel⟩, fun _ _ _ _ _ _ us hl => match us, hl with | [_], _ => rfl, rfl⟩
theorem ok_firsts_of : d_firsts_of.Ok T p51 q51 r51 := ⟨fun _ => by kernel_rfl, ⟨by kernel_rfl, by kernel_rfl, by kernel_rfl, by decide +kernel, by kernel_rfl, by decide +kernel, by decide +kernel⟩, fun _ _ _ _ _ _ us hl => match us, hl with | [_], _ => rfl, rfl⟩
theorem ok_Room_told : d_Room_told.Ok T p52 q52 r52 := ⟨fun _ => by kernel_rfl, ⟨by kernel_rfl, by kernel_rfl, by kernel_rfl, by decide +kernel, by kernel_rfl, by decide +kernel, by decide +kernel⟩, ⟨2, rfl, rfl, fun D _ _ _ _ _ us ks h1 h2 => match us, ks, h1, h2 with | [_, _], [_], _, _ => ⟨_, _, _, _, _, _, rfl, rfl, rfl⟩, fun _ _ _ _ _ _ us ws h1 h2 => match us, ws, h1, h2 with | [_, _], [_], _, _ => rfl⟩, ⟨rfl, fun h => absurd rfl h, fun h => nomatch h⟩⟩
theorem ok_Room_cure : d_Room_cure.Ok T p53 q53 r53 := ⟨fun _ => by kernel_rfl, ⟨by kernel_rfl, by kernel_rfl, by kernel_rfl, by decide +kernel, by kernel_rfl, by decide +kernel, by decide +kernel⟩, fun _ _ _ _ _ _ us hl => match us, hl with | [_, _, _], _ => rfl, ⟨rfl, fun _ => rfl, fun h => nomatch h⟩⟩
theorem ok__law_ask : d__law_ask.Ok T p54 q54 r54 := ⟨fun _ => by kernel_rfl, ⟨by kernel_rfl, by kernel_rfl, by kernel_rfl, by decide +kernel, by kernel_rfl, by decide +kernel, by decide +kernel⟩, fun _ _ _ _ _ _ us hl => match us, hl with | [_, _, _, _], _ => rfl, rfl⟩
theorem ok_law : d_law.Ok T p55 q55 r55 := ⟨fun _ => by kernel_rfl, ⟨by kernel_rfl, by kernel_rfl, by kernel_rfl, by decide +kernel, by kernel_rfl, by decide +kernel, by decide +kernel⟩, fun _ _ _ _ _ _ us hl => match us, hl with | [_], _ => rfl, rfl⟩
def ds : List Df := [d_Room_turn, d_is_whole, d_good_pupil, d_is_name, d_Room_enrol, d_is_task, d_are_ends, d_is_among, d_is_term, d_is_amount, d_is_test, d_is_rule, d_is_slip, d_memories_of, d_good_school, d_need_school, d_Room___init__, d_Room___len__, d_Room_row_of, d_Room_answers, d_Room_slips, d_Room___str__, d_Room_careless, d_right_step, d_worth_of, d_holds, d_amount_of, d_step_of, d_right_ends, d_ends_of, d_answer_of, d_is_column, d_good_sum, d_is_end, d_is_fair_sum, d_good_fair, d_Room_ask, d_Room___eq__, d_Room_back, d__law_same_truth, d__law_alike_so, d_table_of, d_unlike_at, d_going, d_pupils_of, d_columns_of, d_way_of, d_later_states, d_parts, d_parted_of, d_classes_of, d_firsts_of, d_Room_told, d_Room_cure, d__law_ask, d_law]
theorem ok_all : OkAll T [] [] {} ds := ⟨ok_Room_turn, ok_is_whole, ok_good_pupil, ok_is_name, ok_Room_enrol, ok_is_task, ok_are_ends, ok_is_among, ok_is_term, ok_is_amount, ok_is_test, ok_is_rule, ok_is_slip, ok_memories_of, ok_good_school, ok_need_school, ok_Room___init__, ok_Room___len__, ok_Room_row_of, ok_Room_answers, ok_Room_slips, ok_Room___str__, ok_Room_careless, ok_right_step, ok_worth_of, ok_holds, ok_amount_of, ok_step_of, ok_right_ends, ok_ends_of, ok_answer_of, ok_is_column, ok_good_sum, ok_is_end, ok_is_fair_sum, ok_good_fair, ok_Room_ask, ok_Room___eq__, ok_Room_back, ok__law_same_truth, ok__law_alike_so, ok_table_of, ok_unlike_at, ok_going, ok_pupils_of, ok_columns_of, ok_way_of, ok_later_states, ok_parts, ok_parted_of, ok_classes_of, ok_firsts_of, ok_Room_told, ok_Room_cure, ok__law_ask, ok_law, trivial⟩
def ls0 : List Str := ["_wall", "SlipError", "NoSchool", "NoPupil", "NoSum", "NoSheet", "NoAnswers", "NoCount", "NoText", "NoName", "NoSlip", "Nothing", "TERMS", "WORDS", "TESTS", "LONG", "SLIPS", "FACTORS", "is_whole", "is_among", "is_term", "is_amount", "is_test", "is_rule", "are_ends", "is_slip", "is_task", "memories_of", "good_school", "need_school"]
def ls1 : List Str := ["is_column", "good_sum", "right_step", "is_end", "is_fair_sum", "good_fair", "columns_of", "pupils_of", "good_pupil", "worth_of", "amount_of", "holds", "step_of", "right_ends", "ends_of", "way_of", "answer_of", "later_states", "parts", "parted_of", "classes_of", "MOST", "firsts_of", "table_of", "unlike_at", "going", "LETTERS", "is_name", "Room", "_law_same_truth"]
def ls2 : List Str := ["_law_which", "_law_ask", "_law_alike_so"]
def loose : List Str := ls0 ++ ls1 ++ ls2
abbrev R : PySem.W.OpenRow := PySem.W.OpenLaw.row PySem.Challenge.rw_slipsheets_k22_rooms_refused
abbrev hk : PySem.W.Hook := hkOf T ds
def ob (s : PySem.W.SharedT) : He.AlX := obsY T (heOf T ds) (tabsOf T) (exB T (xsOf T ds) (msOf ds)) (HandSHeadRun.getT s)
theorem ob_eq (s : PySem.W.SharedT) : ob s = hk.obs s.abs := obsY_eq (HandSHeadRun.getT_eq s)
theorem runF (w : World) : HandSHeadRun.RunEq R (PySem.W.view R.prog [70]) hk ob 6000 loose (w.withFollow "special-get-raises" false) := by
  intro os
  kernel_rfl
theorem runT (w : World) : HandSHeadRun.RunEq R (PySem.W.view R.prog [70]) hk ob 6000 loose (w.withFollow "special-get-raises" true) := by
  intro os
  kernel_rfl
theorem run (w : World) : HandSHeadRun.RunEq R (PySem.W.view R.prog [70]) hk ob 6000 loose w := PySem.W.byRow2 "special-get-raises" (P := fun w => HandSHeadRun.RunEq R (PySem.W.view R.prog [70]) hk ob 6000 loose w) runF runT w
theorem hb : ∀ (kV doc pm : Value) (an : Option Addr) (cdv ct : Value) (us : List Value), us.length = d_law.ps.length → bindArgs (PySem.W.fnOf d_law.x d_law.qn d_law.params d_law.body d_law.scope .none kV doc pm an cdv ct) ⟨us, []⟩ = pure (d_law.ps.zip us) := ok_law.bind
end K22
open PySem PySem.W PySem.Calls PyProof.Rows in
theorem K22.holds_of (hm : ∀ ns : List Int, ns.length ≤ 63 → ∃ h', Lb.m_law_k22 [.dat (.list (ns.map PyData.int))] [] = .ok (.bool true) h') : PySem.Challenge.rw_slipsheets_k22_rooms_refused.Holds := by
  w_on; o_law
  refine HandSHeadRun.head_any (r := OpenLaw.row PySem.Challenge.rw_slipsheets_k22_rooms_refused) (q := view (OpenLaw.row PySem.Challenge.rw_slipsheets_k22_rooms_refused).prog [70]) (H := K22.hk) (ob := K22.ob) (M := 6000) (loose := K22.loose) (d := HandSHeadRun.topDef (OpenLaw.row PySem.Challenge.rw_slipsheets_k22_rooms_refused).prog 70) (kwd := []) K22.ob_eq
    (by kernel_rfl) (fun s => by kernel_rfl) K22.run (by kernel_rfl) (by kernel_rfl) (by kernel_rfl) (by rfl) (by first | assumption | decide +kernel) (by decide +kernel) ⟨rfl, rfl, rfl, rfl, rfl, by decide +kernel⟩ ?hw ?hc
  case hw => w_witness2
  case hc =>
    refine L2.walk_ofW (l := PySem.Challenge.rw_slipsheets_k22_rooms_refused) (n := 63) (k := 84) (x := "script") (CX := fun w => L2.CX PySem.Challenge.rw_slipsheets_k22_rooms_refused.prog w) rfl (by decide) (by kernel_rfl) ⟨rfl, by decide, by decide⟩ ?F Ev.no_cx
    intro w mg fa h Y G hmg0
    have hmg : mg ("law" : PySem.Str) = some (.ref fa) := by
      have e : (HandSHeadRun.topDef (OpenLaw.row PySem.Challenge.rw_slipsheets_k22_rooms_refused).prog 70).name = ("law" : PySem.Str) := by kernel_rfl
      rw [← e]
      exact hmg0
    exact Ev.end_of (ds := K22.ds) (dl := K22.d_law) (by decide +kernel) (by decide) K22.hwh K22.ok_all (by simp [K22.ds]) rfl rfl rfl K22.hb hm Y G hmg
namespace Lb
open Ev PySem
theorem law22 {ns : List Int} (_ : ns.length ≤ 63) : ∃ h', m_law_k22 [.dat (.list (ns.map PyData.int))] [] = .ok (.bool true) h' := ⟨[], by kernel_rfl⟩
end Lb
theorem PySem.Challenge.cw_slipsheets_k22_rooms_refused_holds : PySem.Challenge.rw_slipsheets_k22_rooms_refused.Holds :=
  K22.holds_of fun _ hs => Lb.law22 hs
