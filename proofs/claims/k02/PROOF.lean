import PyProof.Rows.All
import HandS.BoundList
import HandS.CallSlots
import HandS.Comp
import HandS.Conv
import HandS.Deep
import HandS.Dict
import HandS.DictComp
import HandS.ExcField
import HandS.ExcInit
import HandS.ExcIs
import HandS.ExcOwn
import HandS.FStr
import HandS.ForExc
import HandS.ForMost
import HandS.IsInst
import HandS.Iter
import HandS.Property
import HandS.SortInts
import HandS.Style
import HandS.TryMany
import HandS.TryOnly
import HandS.TupAny
import HandS.TupLe
import HandS.TupMul
import HandS.TupSets
import HandS.Walk
import HandS.Wide
import HandS.WordsDict
import HandS.WordsExc
import HandS.Zip
import KE.DataMinMax
import KE.GoesEnum
import KE.KStar
import KE.SortData
import PySem.Challenge.RW_channelgaps_k02_shapes_of_fields
section
set_option Elab.async false
set_option linter.all false
set_option maxRecDepth 100000
/-! CG1: values, results, combinators (pure). -/
namespace CG
open PySem

abbrev Key := L2.Key
inductive Val where
  | non | bl (b : Bool) | int (i : Int) | str (s : Str)
  | tup (xs : List Val) | lst (xs : List Val)
  | dct (kvs : List (Key × Val))
  | obj (c : Str) (fs : List (Str × Val))
  | scr (xs : List Int)

abbrev Env := List (Option Val)
inductive R (α : Type) where
  | ok (a : α) (e : Env)
  | exc (c : Str) (fs : List (Str × Val)) (e : Env)
  | no
inductive CR where
  | ok (v : Val) (ios : List Val)
  | exc (c : Str) (fs : List (Str × Val))
  | no
abbrev Fn := Nat
abbrev Cl := Fn → List Val → CR
abbrev M (α : Type) := Cl → Env → R α

/-- the most items of a list, signs of a text -/
abbrev line : Nat := 16777216

def R.bind {α β : Type} (r : R α) (f : α → Env → R β) : R β := match r with
  | .ok a e => f a e
  | .exc c fs e => .exc c fs e
  | .no => .no
def ret {α : Type} (o : Option α) (e : Env) : R α := match o with
  | some a => .ok a e
  | none => .no

/-! ### expressions -/
def mLit (v : Val) : M Val := fun _ e => .ok v e
def mVar (i : Nat) : M Val := fun _ e => match e[i]? with
  | some (some v) => .ok v e
  | _ => .no
/-- an owned slot is given away -/
def mMv (i : Nat) : M Val := fun _ e => match e[i]? with
  | some (some v) => .ok v (e.set i none)
  | _ => .no
def mUn (op : Val → Option Val) (f : M Val) : M Val := fun cl e => (f cl e).bind fun a e1 => ret (op a) e1
def mBin (op : Val → Val → Option Val) (f g : M Val) : M Val := fun cl e => (f cl e).bind fun a e1 => (g cl e1).bind fun b e2 => ret (op a b) e2
/-- op of an owned slot -/
def mUnS (op : Val → Option Val) (i : Nat) : M Val := fun _ e => match e[i]? with
  | some (some v) => ret (op v) e
  | _ => .no
/-- op of an owned slot and a value that is reckoned behind it -/
def mBinS (op : Val → Val → Option Val) (i : Nat) (g : M Val) : M Val := fun cl e => match e[i]? with
  | some (some _) => (g cl e).bind fun b e1 => (match e1[i]? with
    | some (some v) => ret (op v b) e1
    | _ => .no)
  | _ => .no
/-- op of a value and an owned slot -/
def mBinR (op : Val → Val → Option Val) (f : M Val) (i : Nat) : M Val := fun cl e => (f cl e).bind fun a e1 => match e1[i]? with
  | some (some v) => ret (op a v) e1
  | _ => .no
def asB (r : R Val) : R Bool := match r with
  | .ok (.bl b) e => .ok b e
  | .ok _ _ => .no
  | .exc c fs e => .exc c fs e
  | .no => .no
def mAnd (f g : M Val) : M Val := fun cl e => (asB (f cl e)).bind fun a e1 => if a = true then g cl e1 else .ok (.bl false) e1
def mOr (f g : M Val) : M Val := fun cl e => (asB (f cl e)).bind fun a e1 => if a = true then .ok (.bl true) e1 else g cl e1
def mNot (f : M Val) : M Val := fun cl e => (asB (f cl e)).bind fun a e1 => .ok (.bl (!a)) e1
def mIf (t f g : M Val) : M Val := fun cl e => (asB (t cl e)).bind fun a e1 => if a = true then f cl e1 else g cl e1
/-- a op b op' c, b once -/
def mChain (op op' : Val → Val → Option Val) (f g h : M Val) : M Val := fun cl e => (f cl e).bind fun a e1 => (g cl e1).bind fun b e2 =>
  (asB (ret (op a b) e2)).bind fun k e3 => if k = true then (h cl e3).bind fun c e4 => ret (op' b c) e4 else .ok (.bl false) e3
/-- written items -/
def iNil : M (List Val) := fun _ e => .ok [] e
def iCons (f : M Val) (r : M (List Val)) : M (List Val) := fun cl e => (f cl e).bind fun a e1 => (r cl e1).bind fun as e2 => .ok (a :: as) e2
def itemsOf : Val → Option (List Val)
  | .tup xs => some xs
  | .lst xs => some xs
  | _ => none
def iStar (f : M Val) (r : M (List Val)) : M (List Val) := fun cl e => (f cl e).bind fun a e1 => (ret (itemsOf a) e1).bind fun xs e2 => (r cl e2).bind fun as e3 => .ok (xs ++ as) e3
def mTup (r : M (List Val)) : M Val := fun cl e => (r cl e).bind fun xs e1 => if xs.length ≤ line then .ok (.tup xs) e1 else .no
def mLst (r : M (List Val)) : M Val := fun cl e => (r cl e).bind fun xs e1 => if xs.length ≤ line then .ok (.lst xs) e1 else .no
/-- a slice's parts -/
def oNone : M (Option Int) := fun _ e => .ok none e
def oSome (f : M Val) : M (Option Int) := fun cl e => (f cl e).bind fun a e1 => match a with
  | .int i => .ok (some i) e1
  | _ => .no
def mSlice (op : Val → Option Int → Option Int → Option Val) (f : M Val) (lo hi : M (Option Int)) : M Val := fun cl e =>
  (f cl e).bind fun a e1 => (lo cl e1).bind fun l e2 => (hi cl e2).bind fun h e3 => ret (op a l h) e3
def scalarV : Val → Bool
  | .non => true | .bl _ => true | .int _ => true | .str _ => true | _ => false
/-- arguments of an own def: values, in/out slots, lent slots -/
inductive Arg where
  | v (a : Val) | io (i : Nat) | bw (i : Nat)
def aNil : M (List Arg) := fun _ e => .ok [] e
def aVal (f : M Val) (r : M (List Arg)) : M (List Arg) := fun cl e => (f cl e).bind fun a e1 => (r cl e1).bind fun as e2 => .ok (.v a :: as) e2
def aIo (i : Nat) (r : M (List Arg)) : M (List Arg) := fun cl e => match e[i]? with
  | some (some _) => (r cl e).bind fun as e2 => .ok (.io i :: as) e2
  | _ => .no
def aBw (i : Nat) (r : M (List Arg)) : M (List Arg) := fun cl e => match e[i]? with
  | some (some _) => (r cl e).bind fun as e2 => .ok (.bw i :: as) e2
  | _ => .no
def argVals (e : Env) : List Arg → Option (List Val)
  | [] => some []
  | .v a :: r => (argVals e r).map (a :: ·)
  | .io i :: r => match e[i]? with
    | some (some v) => if scalarV v then none else (argVals e r).map (v :: ·)
    | _ => none
  | .bw i :: r => match e[i]? with
    | some (some v) => (argVals e r).map (v :: ·)
    | _ => none
def ioSet (e : Env) : List Arg → List Val → Option Env
  | [], [] => some e
  | [], _ :: _ => none
  | .io i :: r, v :: vs => ioSet (e.set i (some v)) r vs
  | .io _ :: _, [] => none
  | .v _ :: r, vs => ioSet e r vs
  | .bw _ :: r, vs => ioSet e r vs
def ioKill (e : Env) : List Arg → Env
  | [] => e
  | .io i :: r => ioKill (e.set i none) r
  | .v _ :: r => ioKill e r
  | .bw _ :: r => ioKill e r
def lent : List Arg → Bool
  | [] => false
  | .bw _ :: _ => true
  | _ :: r => lent r
mutual
/-- no list, dict, object within -/
def flatT : Val → Bool
  | .non => true | .bl _ => true | .int _ => true | .str _ => true
  | .tup xs => flatTs xs
  | .lst _ => false | .dct _ => false | .obj _ _ => false | .scr _ => false
def flatTs : List Val → Bool
  | [] => true
  | x :: xs => flatT x && flatTs xs
end
mutual
/-- no dict, object within -/
def flatD : Val → Bool
  | .non => true | .bl _ => true | .int _ => true | .str _ => true
  | .tup xs => flatDs xs
  | .lst xs => flatDs xs
  | .dct _ => false | .obj _ _ => false | .scr _ => false
def flatDs : List Val → Bool
  | [] => true
  | x :: xs => flatD x && flatDs xs
end
def lentOk (e : Env) : List Arg → Val → Bool
  | [], _ => true
  | .bw i :: r, v => (match e[i]? with
    | some (some (.lst _)) => flatT v
    | some (some (.dct _)) => flatD v
    | _ => false) && lentOk e r v
  | _ :: r, v => lentOk e r v
def mCall (f : Fn) (as : M (List Arg)) : M Val := fun cl e => (as cl e).bind fun al e1 => match argVals e1 al with
  | none => .no
  | some vs => match cl f vs with
    | .ok v ios => if lentOk e1 al v then (ret (ioSet e1 al ios) e1).bind fun e2 _ => .ok v e2 else .no
    | .exc c fs => .exc c fs (ioKill e1 al)
    | .no => .no

/-! ### what is walked -/
def bindName (i : Nat) (v : Val) (e : Env) : Option Env := if i < e.length then some (e.set i (some v)) else none
abbrev Bind := Val → Env → Option Env
def bindTup (bs : List Bind) : Bind := fun v e => match v with
  | .tup xs => go bs xs e
  | _ => none
where go : List Bind → List Val → Env → Option Env
  | [], [], e => some e
  | b :: bs, x :: xs, e => match b x e with
    | some e' => go bs xs e'
    | none => none
  | _, _, _ => none
def wipeE (e : Env) : List Nat → Env
  | [] => e
  | v :: vs => (wipeE e vs).set v none
/-- the block's own slots as they were, the others as they are -/
def unwipe (e e' : Env) : List Nat → Env
  | [] => e'
  | v :: vs => (unwipe e e' vs).set v (e.getD v none)
/-- items of a comprehension: what a turn raises, it can't -/
def mLcGo (own : List Nat) (b : Bind) (t : M Val) (f : M Val) : List Val → List Val → M (List Val)
  | [], acc => fun _ e => .ok acc e
  | x :: xs, acc => fun cl e => match b x (wipeE e own) with
    | none => .no
    | some e1 => match asB (t cl e1) with
      | .ok k e2 => if k = true then (match f cl e2 with
        | .ok y e3 => if acc.length < line then mLcGo own b t f xs (acc ++ [y]) cl e3 else .no
        | _ => .no) else mLcGo own b t f xs acc cl e2
      | _ => .no
def mLc (own : List Nat) (it : M (List Val)) (b : Bind) (t : M Val) (f : M Val) : M Val := fun cl e => (it cl e).bind fun xs e1 =>
  match mLcGo own b t f xs [] cl (wipeE e1 own) with
  | .ok ys e2 => .ok (.lst ys) (unwipe e1 e2 own)
  | _ => .no
/-- two clauses -/
def mLc2Go (own own1 : List Nat) (b : Bind) (t : M Val) (it1 : M (List Val)) (b1 : Bind) (t1 : M Val) (f : M Val) : List Val → List Val → M (List Val)
  | [], acc => fun _ e => .ok acc e
  | x :: xs, acc => fun cl e => match b x (wipeE e own) with
    | none => .no
    | some e1 => match asB (t cl e1) with
      | .ok k e2 => if k = true then (match it1 cl e2 with
        | .ok zs e3 => (match mLcGo own1 b1 t1 f zs acc cl e3 with
          | .ok acc' e4 => mLc2Go own own1 b t it1 b1 t1 f xs acc' cl e4
          | _ => .no)
        | _ => .no) else mLc2Go own own1 b t it1 b1 t1 f xs acc cl e2
      | _ => .no
def mLc2 (own own1 : List Nat) (it : M (List Val)) (b : Bind) (t : M Val) (it1 : M (List Val)) (b1 : Bind) (t1 : M Val) (f : M Val) : M Val := fun cl e => (it cl e).bind fun xs e1 =>
  match mLc2Go own own1 b t it1 b1 t1 f xs [] cl (wipeE e1 own) with
  | .ok ys e2 => .ok (.lst ys) (unwipe e1 e2 own)
  | _ => .no
/-- a walked list, tuple -/
def wSeq (f : M Val) : M (List Val) := fun cl e => (f cl e).bind fun a e1 => ret (itemsOf a) e1
def wSeqS (i : Nat) : M (List Val) := fun _ e => match e[i]? with
  | some (some v) => ret (itemsOf v) e
  | _ => .no
def rangeV (lo : Int) (n : Nat) : List Val := (List.range n).map fun (k : Nat) => Val.int (lo + (k : Int))
def small (i : Int) : Bool := decide (-4611686018427387904 ≤ i ∧ i < 4611686018427387904)
def wRng1 (f : M Val) : M (List Val) := fun cl e => (f cl e).bind fun a e1 => match a with
  | .int j => if small j then .ok (rangeV 0 j.toNat) e1 else .no
  | _ => .no
def wRng2 (f g : M Val) : M (List Val) := fun cl e => (f cl e).bind fun a e1 => (g cl e1).bind fun b e2 => match a, b with
  | .int i, .int j => if small i && small j then .ok (rangeV i (j - i).toNat) e2 else .no
  | _, _ => .no
def enumV : Nat → List Val → List Val
  | _, [] => []
  | k, x :: xs => .tup [.int (k : Int), x] :: enumV (k + 1) xs
def wEnum (f : M Val) : M (List Val) := fun cl e => (f cl e).bind fun a e1 => match a with
  | .lst xs => .ok (enumV 0 xs) e1
  | _ => .no
def wEnumT (f : M Val) : M (List Val) := fun cl e => (f cl e).bind fun a e1 => match a with
  | .tup xs => .ok (enumV 0 xs) e1
  | _ => .no
def zipV : List Val → List Val → List Val
  | x :: xs, y :: ys => .tup [x, y] :: zipV xs ys
  | _, _ => []

/-! ### statements -/
inductive RS where
  | next (e : Env)
  | ret (v : Val) (e : Env)
  | exc (c : Str) (fs : List (Str × Val)) (e : Env)
  | no
abbrev S := Cl → Env → RS
def R.toS {α : Type} (r : R α) (f : α → Env → RS) : RS := match r with
  | .ok a e => f a e
  | .exc c fs e => .exc c fs e
  | .no => .no
def RS.then (r : RS) (f : Env → RS) : RS := match r with
  | .next e => f e
  | .ret v e => .ret v e
  | .exc c fs e => .exc c fs e
  | .no => .no
def sPass : S := fun _ e => .next e
def sSeq (a b : S) : S := fun cl e => (a cl e).then fun e1 => b cl e1
def sExpr (f : M Val) : S := fun cl e => (f cl e).toS fun _ e1 => .next e1
def sRet (f : M Val) : S := fun cl e => (f cl e).toS fun v e1 => .ret v e1
def sAsg (b : Bind) (f : M Val) : S := fun cl e => (f cl e).toS fun v e1 => match b v e1 with
  | some e2 => .next e2
  | none => .no
def sIf (t : M Val) (a b : S) : S := fun cl e => (asB (t cl e)).toS fun v e1 => if v = true then a cl e1 else b cl e1
def sForGo (b : Bind) (body : S) : List Val → S
  | [] => fun _ e => .next e
  | x :: xs => fun cl e => match b x e with
    | none => .no
    | some e1 => (body cl e1).then fun e2 => sForGo b body xs cl e2
def sFor (it : M (List Val)) (b : Bind) (body : S) : S := fun cl e => match it cl e with
  | .ok xs e1 => sForGo b body xs cl e1
  | .exc c fs e => .exc c fs e
  | .no => .no
def sWhile (t : M Val) (body : S) : Nat → S
  | 0 => fun _ _ => .no
  | n + 1 => fun cl e => (asB (t cl e)).toS fun v e1 => if v = true then (body cl e1).then fun e2 => sWhile t body n cl e2 else .next e1
def sRaise (c : Str) (fs : List (Str × M Val)) : S := match fs with
  | [] => fun _ e => .exc c [] e
  | _ => fun cl e => go cl fs [] e
where go (cl : Cl) : List (Str × M Val) → List (Str × Val) → Env → RS
  | [], acc, e => .exc c acc e
  | (n, f) :: r, acc, e => (f cl e).toS fun v e1 => go cl r (acc ++ [(n, v)]) e1
/-- x.append(e), x an owned slot -/
def sApp (i : Nat) (f : M Val) : S := fun cl e => match e[i]? with
  | some (some (.lst _)) => (f cl e).toS fun v e1 => (match e1[i]? with
    | some (some (.lst xs)) => if xs.length < line then .next (e1.set i (some (.lst (xs ++ [v])))) else .no
    | _ => .no)
  | _ => .no
/-- x.extend(e) -/
def sExt (i : Nat) (f : M Val) : S := fun cl e => match e[i]? with
  | some (some (.lst _)) => (f cl e).toS fun v e1 => (match e1[i]?, v with
    | some (some (.lst xs)), .lst zs => if xs.length + zs.length ≤ line then .next (e1.set i (some (.lst (xs ++ zs)))) else .no
    | _, _ => .no)
  | _ => .no
/-- x[k] = e, x an owned slot: a list, a dict -/
def putK (kvs : List (Key × Val)) (k : Key) (v : Val) : List (Key × Val) :=
  if (kvs.any fun kv => decide (kv.1 = k)) = true then kvs.map (fun kv => if kv.1 = k then (kv.1, v) else kv) else kvs ++ [(k, v)]
def getK (kvs : List (Key × Val)) (k : Key) : Option Val := (kvs.find? fun kv => decide (kv.1 = k)).map (·.2)
def keyOf : Val → Option Key
  | .int i => some (.inl i)
  | .str s => some (.inr s)
  | _ => none
def setItem (x k v : Val) : Option Val := match x with
  | .lst xs => (match k with
    | .int i => (match L2.ixN xs.length i with
      | some j => some (.lst (xs.set j v))
      | none => none)
    | _ => none)
  | .dct kvs => (match keyOf k with
    | some q => if kvs.length < line then some (.dct (putK kvs q v)) else none
    | none => none)
  | _ => none
def sSet (i : Nat) (k f : M Val) : S := fun cl e => (f cl e).toS fun v e1 => match e1[i]? with
  | some (some _) => (k cl e1).toS fun q e2 => (match e2[i]? with
    | some (some x) => (match setItem x q v with
      | some x' => .next (e2.set i (some x'))
      | none => .no)
    | _ => .no)
  | _ => .no
/-- x op= e, x a frozen slot -/
def sAug (op : Val → Val → Option Val) (i : Nat) (f : M Val) : S := fun cl e => match e[i]? with
  | some (some x) => (f cl e).toS fun v e1 => (match op x v with
    | some y => .next (e1.set i (some y))
    | none => .no)
  | _ => .no

/-! ### defs -/
structure Def where
  nslots : Nat
  /-- which parameters are in/out -/
  io : List Bool
  /-- what it hands back is new -/
  fresh : Bool
  body : S
def ioOut (e : Env) : List Bool → Nat → Option (List Val)
  | [], _ => some []
  | true :: r, i => match e[i]? with
    | some (some v) => if scalarV v then none else (ioOut e r (i + 1)).map (v :: ·)
    | _ => none
  | false :: r, i => ioOut e r (i + 1)
def runDef (d : Def) (cl : Cl) (vs : List Val) : CR :=
  if vs.length = d.io.length then
    match d.body cl (vs.map some ++ List.replicate (d.nslots - vs.length) none) with
    | .next e => (match ioOut e d.io 0 with
      | some ios => .ok .non ios
      | none => .no)
    | .ret v e => (match ioOut e d.io 0 with
      | some ios => .ok v ios
      | none => .no)
    | .exc c fs _ => .exc c fs
    | .no => .no
  else .no
abbrev Table := Fn → Option Def
def callN (G : Table) : Nat → Cl
  | 0 => fun _ _ => .no
  | n + 1 => fun f vs => match G f with
    | some d => runDef d (callN G n) vs
    | none => .no
end CG
end
section
set_option Elab.async false
set_option linter.all false
set_option maxRecDepth 100000
set_option autoImplicit false
/-! CG2: how values lie in the heap; the slots; the judgements. -/
namespace CG
open PySem PySem.Spec L2

mutual
/-- a value in a frozen heap -/
inductive VR (K : PySem.W.Frag) (C : Str → Option Addr) (F : Hp) : Val → V → Prop
  | non : VR K C F .non .non
  | bl (b : Bool) : VR K C F (.bl b) (.bl b)
  | int (i : Int) : VR K C F (.int i) (.int i)
  | str (x : Str) : VR K C F (.str x) (.str x)
  | tup {a : Addr} {us : List V} {vs : List Val} : SqT K F a us → VRs K C F vs us → VR K C F (.tup vs) (.ref a)
  | lst {a : Addr} {us : List V} {vs : List Val} : F a = some (.lst us) → VRs K C F vs us → VR K C F (.lst vs) (.ref a)
  | dct {a : Addr} {kus : List (Key × V)} {kvs : List (Key × Val)} : F a = some (.dK kus) → KRs K C F kvs kus → VR K C F (.dct kvs) (.ref a)
  | obj {a dx : Addr} {c : Str} {Ca : Addr} {fus : List (Str × V)} {fs : List (Str × Val)} : C c = some Ca → F a = some (.ins Ca dx fus) → F dx = some (.own a) → FRs K C F fs fus → VR K C F (.obj c fs) (.ref a)
  | scr {a : Addr} {ns : List Int} : SqL K F a (ns.map V.int) → VR K C F (.scr ns) (.ref a)
inductive VRs (K : PySem.W.Frag) (C : Str → Option Addr) (F : Hp) : List Val → List V → Prop
  | nil : VRs K C F [] []
  | cons {v : Val} {u : V} {vs : List Val} {us : List V} : VR K C F v u → VRs K C F vs us → VRs K C F (v :: vs) (u :: us)
inductive KRs (K : PySem.W.Frag) (C : Str → Option Addr) (F : Hp) : List (Key × Val) → List (Key × V) → Prop
  | nil : KRs K C F [] []
  | cons {k : Key} {v : Val} {u : V} {vs : List (Key × Val)} {us : List (Key × V)} : VR K C F v u → KRs K C F vs us → KRs K C F ((k, v) :: vs) ((k, u) :: us)
inductive FRs (K : PySem.W.Frag) (C : Str → Option Addr) (F : Hp) : List (Str × Val) → List (Str × V) → Prop
  | nil : FRs K C F [] []
  | cons {k : Str} {v : Val} {u : V} {vs : List (Str × Val)} {us : List (Str × V)} : VR K C F v u → FRs K C F vs us → FRs K C F ((k, v) :: vs) ((k, u) :: us)
end

theorem sqT_mono {K : PySem.W.Frag} {F F' : Hp} {a : Addr} {xs : List V} (e : Same F F') (h : SqT K F a xs) : SqT K F' a xs := by
  rcases h with (h | ⟨o, h⟩) | h
  · exact .inl (.inl (e _ _ h))
  · exact .inl (.inr ⟨o, e _ _ h⟩)
  · exact .inr h

section
variable {K : PySem.W.Frag} {C : Str → Option Addr} {F F' : Hp}
mutual
theorem VR.mono (e : Same F F') : ∀ {v : Val} {u : V}, VR K C F v u → VR K C F' v u
  | _, _, .non => .non
  | _, _, .bl b => .bl b
  | _, _, .int i => .int i
  | _, _, .str x => .str x
  | _, _, .tup h r => .tup (sqT_mono e h) (VRs.mono e r)
  | _, _, .lst h r => .lst (e _ _ h) (VRs.mono e r)
  | _, _, .dct h r => .dct (e _ _ h) (KRs.mono e r)
  | _, _, .obj c h d r => .obj c (e _ _ h) (e _ _ d) (FRs.mono e r)
  | _, _, .scr h => .scr (e.seq h)
theorem VRs.mono (e : Same F F') : ∀ {v : List Val} {u : List V}, VRs K C F v u → VRs K C F' v u
  | _, _, .nil => .nil
  | _, _, .cons h r => .cons (VR.mono e h) (VRs.mono e r)
theorem KRs.mono (e : Same F F') : ∀ {v : List (Key × Val)} {u : List (Key × V)}, KRs K C F v u → KRs K C F' v u
  | _, _, .nil => .nil
  | _, _, .cons h r => .cons (VR.mono e h) (KRs.mono e r)
theorem FRs.mono (e : Same F F') : ∀ {v : List (Str × Val)} {u : List (Str × V)}, FRs K C F v u → FRs K C F' v u
  | _, _, .nil => .nil
  | _, _, .cons h r => .cons (VR.mono e h) (FRs.mono e r)
end

theorem VRs.length : ∀ {vs : List Val} {us : List V}, VRs K C F vs us → us.length = vs.length
  | _, _, .nil => rfl
  | _, _, .cons _ r => by simp [VRs.length r]
theorem VRs.append : ∀ {vs ws : List Val} {us ts : List V}, VRs K C F vs us → VRs K C F ws ts → VRs K C F (vs ++ ws) (us ++ ts)
  | _, _, _, _, .nil, s => s
  | _, _, _, _, .cons h r, s => .cons h (VRs.append r s)
theorem VRs.get : ∀ {vs : List Val} {us : List V} {i : Nat} {v : Val}, VRs K C F vs us → vs[i]? = some v → ∃ u, us[i]? = some u ∧ VR K C F v u
  | _, _, _, _, .nil, e => by simp at e
  | _, _, 0, _, .cons h _, e => by simp at e; subst e; exact ⟨_, rfl, h⟩
  | _, _, i + 1, _, .cons _ r, e => by
    obtain ⟨u, h1, h2⟩ := VRs.get (i := i) r (by simpa using e)
    exact ⟨u, by simpa using h1, h2⟩
theorem VRs.get' : ∀ {vs : List Val} {us : List V} {i : Nat} {u : V}, VRs K C F vs us → us[i]? = some u → ∃ v, vs[i]? = some v ∧ VR K C F v u
  | _, _, _, _, .nil, e => by simp at e
  | _, _, 0, _, .cons h _, e => by simp at e; subst e; exact ⟨_, rfl, h⟩
  | _, _, i + 1, _, .cons _ r, e => by
    obtain ⟨u, h1, h2⟩ := VRs.get' (i := i) r (by simpa using e)
    exact ⟨u, by simpa using h1, h2⟩
theorem VRs.set {v : Val} {u : V} (h : VR K C F v u) : ∀ {vs : List Val} {us : List V} (i : Nat), VRs K C F vs us → VRs K C F (vs.set i v) (us.set i u)
  | _, _, _, .nil => .nil
  | _, _, 0, .cons _ r => .cons h r
  | _, _, i + 1, .cons q r => .cons q (VRs.set h i r)
theorem VRs.take : ∀ {vs : List Val} {us : List V} (n : Nat), VRs K C F vs us → VRs K C F (vs.take n) (us.take n)
  | _, _, 0, _ => .nil
  | _, _, _ + 1, .nil => .nil
  | _, _, n + 1, .cons h r => .cons h (VRs.take n r)
theorem VRs.drop : ∀ {vs : List Val} {us : List V} (n : Nat), VRs K C F vs us → VRs K C F (vs.drop n) (us.drop n)
  | _, _, 0, h => h
  | _, _, _ + 1, .nil => .nil
  | _, _, n + 1, .cons _ r => VRs.drop n r
theorem VRs.reverse {vs : List Val} {us : List V} (h : VRs K C F vs us) : VRs K C F vs.reverse us.reverse := by
  induction h using VRs.rec (motive_1 := fun _ _ _ => True) (motive_3 := fun _ _ _ => True) (motive_4 := fun _ _ _ => True) with
  | cons h r _ ih => rw [List.reverse_cons, List.reverse_cons]; exact ih.append (.cons h .nil)
  | nil => exact .nil
  | _ => trivial
theorem VRs.rep {vs : List Val} {us : List V} (h : VRs K C F vs us) : ∀ k : Nat, VRs K C F (List.replicate k vs).flatten (List.replicate k us).flatten
  | 0 => .nil
  | k + 1 => by rw [List.replicate_succ, List.replicate_succ]; exact h.append (VRs.rep h k)
end

/-- an owned thing at a: its own object in H, what lies within frozen -/
inductive OW (K : PySem.W.Frag) (C : Str → Option Addr) (F H : Hp) (N : Addr → Prop) : Val → Addr → Prop
  | lst {a : Addr} {us : List V} {vs : List Val} : H a = some (.lst us) → VRs K C F vs us → OW K C F H N (.lst vs) a
  | dct {a : Addr} {kus : List (Key × V)} {kvs : List (Key × Val)} : H a = some (.dK kus) → KRs K C F kvs kus → OW K C F H N (.dct kvs) a
  | obj {a dx : Addr} {c : Str} {Ca : Addr} {fus : List (Str × V)} {fs : List (Str × Val)} : C c = some Ca → H a = some (.ins Ca dx fus) → H dx = some (.own a) → F dx = none → N dx → FRs K C F fs fus → OW K C F H N (.obj c fs) a
theorem OW.mono {K : PySem.W.Frag} {C : Str → Option Addr} {F F' H H' : Hp} {N : Addr → Prop} {v : Val} {a : Addr} (h : OW K C F H N v a) (e : Same F F') (ea : ∀ o, H a = some o → H' a = some o) (eo : ∀ dx, H dx = some (.own a) → F dx = none → H' dx = some (.own a) ∧ F' dx = none) : OW K C F' H' N v a := by
  cases h with
  | lst h r => exact .lst (ea _ h) (r.mono e)
  | dct h r => exact .dct (ea _ h) (r.mono e)
  | obj c h d n x r => exact .obj c (ea _ h) (eo _ d n).1 (eo _ d n).2 x (r.mono e)

abbrev scalar : Val → Bool := scalarV

inductive Kd where
  | imm | loc | io
  deriving DecidableEq
/-- the entry of a def: the frozen heap, the heap, the in/out parameters' addresses -/
structure Ent where
  F0 : Hp
  H0 : Hp
  io : List Addr
  P : Nat → Option Addr
/-- what is new of an owned thing -/
def Nw (en : Ent) (k : Kd) (a : Addr) : Addr → Prop := fun q => (k = .loc → en.H0 q = none) ∧ (k = .io → ∃ C0 fs0, en.H0 a = some (.ins C0 q fs0))
/-- what an owned slot holds -/
def OwnS (K : PySem.W.Frag) (C : Str → Option Addr) (en : Ent) (k : Kd) (i : Nat) (F H : Hp) (v : Val) (u : V) : Prop :=
  (scalar v = true ∧ VR K C F v u) ∨ ∃ a, u = .ref a ∧ OW K C F H (Nw en k a) v a ∧ F a = none ∧ (k = .loc → en.H0 a = none) ∧ (k = .io → en.P i = some a ∧ a ∈ en.io)
abbrev Kds := List Kd
def kdAt (kd : Kds) (i : Nat) : Kd := kd.getD i .imm

structure Rel (K : PySem.W.Frag) (C : Str → Option Addr) (kd : Kds) (en : Ent) (e : Env) (σ : L2.St) (F H : Hp) : Prop where
  sub : Same F H
  len : e.length = σ.length
  imm : ∀ (i : Nat) (v : Val), kdAt kd i = .imm → e[i]? = some (some v) → ∃ u, σ[i]? = some (some u) ∧ VR K C F v u
  own : ∀ (i : Nat) (v : Val), kdAt kd i ≠ .imm → e[i]? = some (some v) → ∃ u, σ[i]? = some (some u) ∧ OwnS K C en (kdAt kd i) i F H v u
  sep : ∀ (i j : Nat) (a : Addr) (v w : Val), i ≠ j → kdAt kd i ≠ .imm → kdAt kd j ≠ .imm → e[i]? = some (some v) → e[j]? = some (some w) → σ[i]? = some (some (.ref a)) → σ[j]? = some (some (.ref a)) → False
  b1 : ∀ (q : Addr) (o : HO), en.H0 q = some o → q ∉ en.io → H q = some o
  b2 : ∀ (q : Addr), F q ≠ none → en.F0 q ≠ none ∨ en.H0 q = none
  b3 : ∀ (q : Addr), en.H0 q ≠ none → H q ≠ none
  b4 : Same en.F0 F
  b5 : ∀ (q : Addr), q ∈ en.io → en.H0 q ≠ none

/-- new frozen things, old things as they were -/
structure Grow (F H F' H' : Hp) : Prop where
  ff : Same F F'
  fh : Same F' H'
  hh : Same H H'
  new : ∀ (q : Addr), F' q ≠ none → F q ≠ none ∨ H q = none
theorem Grow.refl {F H : Hp} (h : Same F H) : Grow F H F H := ⟨Same.refl _, h, Same.refl _, fun _ h => .inl h⟩
theorem Grow.trans {F H F1 H1 F2 H2 : Hp} (a : Grow F H F1 H1) (b : Grow F1 H1 F2 H2) : Grow F H F2 H2 :=
  ⟨a.ff.trans b.ff, b.fh, a.hh.trans b.hh, fun q h => by
    rcases b.new q h with h1 | h1
    · exact a.new q h1
    · exact .inr (a.hh.free h1)⟩
theorem same_upd {H : Hp} {p : Addr} {o : HO} (h : H p = none) : Same H (upd H p o) := fun b q e => by
  rw [upd_ne (ne_of_none e h)]; exact e
theorem same_upd2 {F H : Hp} {p : Addr} {o : HO} (h : Same F H) : Same (upd F p o) (upd H p o) := fun b q e => by
  by_cases hb : b = p
  · subst hb; rw [upd_same] at e ⊢; exact e
  · rw [upd_ne hb] at e ⊢; exact h _ _ e
/-- a new frozen thing at p -/
theorem Grow.alloc {F H : Hp} {p : Addr} {o : HO} (h : Same F H) (hp : H p = none) : Grow F H (upd F p o) (upd H p o) :=
  ⟨same_upd (h.free hp), same_upd2 h, same_upd hp, fun q e => by
    by_cases hq : q = p
    · subst hq; exact .inr hp
    · rw [upd_ne hq] at e; exact .inl e⟩
/-- a new thing that is not frozen -/
theorem Grow.allocH {F H : Hp} {p : Addr} {o : HO} (h : Same F H) (hp : H p = none) : Grow F H F (upd H p o) :=
  ⟨Same.refl _, h.trans (same_upd hp), same_upd hp, fun q e => .inl e⟩

section
variable {K : PySem.W.Frag} {C : Str → Option Addr} {kd : Kds} {en : Ent} {e : Env} {σ : L2.St} {F H F' H' : Hp}
theorem scalar_of {v : Val} {u : V} (h : VR K C F v u) (s : scalar v = true) : (∀ a, u ≠ .ref a) ∧ ∀ F', VR K C F' v u := by
  cases h with
  | non => exact ⟨fun _ z => (nomatch z), fun _ => .non⟩
  | bl b => exact ⟨fun _ z => (nomatch z), fun _ => .bl b⟩
  | int i => exact ⟨fun _ z => (nomatch z), fun _ => .int i⟩
  | str x => exact ⟨fun _ z => (nomatch z), fun _ => .str x⟩
  | tup _ _ => cases s
  | lst _ _ => cases s
  | dct _ _ => cases s
  | obj _ _ _ _ => cases s
  | scr _ => cases s
theorem OW.there {N : Addr → Prop} {v : Val} {a : Addr} (h : OW K C F H N v a) : H a ≠ none := by
  cases h with
  | lst h _ => rw [h]; simp
  | dct h _ => rw [h]; simp
  | obj _ h _ _ _ _ => rw [h]; simp
theorem OwnS.grow {k : Kd} {i : Nat} {v : Val} {u : V} (h : OwnS K C en k i F H v u) (g : Grow F H F' H') : OwnS K C en k i F' H' v u := by
  rcases h with ⟨s, h⟩ | ⟨a, rfl, o, n, l, p⟩
  · exact .inl ⟨s, h.mono g.ff⟩
  · refine .inr ⟨a, rfl, o.mono g.ff (g.hh a) (fun dx d nd => ⟨g.hh _ _ d, ?_⟩), ?_, l, p⟩
    · cases q : F' dx with
      | none => rfl
      | some o' =>
        rcases g.new dx (by rw [q]; simp) with z | z
        · exact absurd nd z
        · rw [d] at z; cases z
    · cases q : F' a with
      | none => rfl
      | some o' =>
        rcases g.new a (by rw [q]; simp) with z | z
        · exact absurd n z
        · exact absurd z o.there
theorem Rel.grow (r : Rel K C kd en e σ F H) (g : Grow F H F' H') : Rel K C kd en e σ F' H' where
  sub := g.fh
  len := r.len
  imm := fun i v k h => let ⟨u, h1, h2⟩ := r.imm i v k h; ⟨u, h1, h2.mono g.ff⟩
  own := fun i v k h => let ⟨u, h1, h2⟩ := r.own i v k h; ⟨u, h1, h2.grow g⟩
  sep := r.sep
  b1 := fun q o h n => g.hh _ _ (r.b1 q o h n)
  b2 := fun q h => by
    rcases g.new q h with h1 | h1
    · exact r.b2 q h1
    · right
      cases z : en.H0 q with
      | none => rfl
      | some o => exact absurd h1 (r.b3 q (by rw [z]; simp))
  b3 := fun q h => by
    cases z : H' q with
    | none => exact absurd (g.hh.free z) (r.b3 q h)
    | some o => simp
  b4 := r.b4.trans g.ff
  b5 := r.b5
theorem getE_set_ne {α : Type} {e : List (Option α)} {i j : Nat} {x : Option α} (h : i ≠ j) : (e.set i x)[j]? = e[j]? := List.getElem?_set_ne h
theorem getE_set {α : Type} {e : List (Option α)} {i j : Nat} {x : Option α} {y : α} (h : (e.set i x)[j]? = some (some y)) : (i = j ∧ x = some y ∧ i < e.length) ∨ (i ≠ j ∧ e[j]? = some (some y)) := by
  by_cases hij : i = j
  · subst hij
    by_cases hl : i < e.length
    · rw [List.getElem?_set_self hl] at h
      exact .inl ⟨rfl, Option.some.inj h, hl⟩
    · rw [List.getElem?_eq_none (by simpa using hl)] at h
      cases h
  · rw [List.getElem?_set_ne hij] at h
    exact .inr ⟨hij, h⟩
theorem lt_of_get {α : Type} {e : List (Option α)} {i : Nat} {x : Option α} (h : e[i]? = some x) : i < e.length := (List.getElem?_eq_some_iff.mp h).1
/-- a frozen slot is stored -/
theorem Rel.setImm {i : Nat} {v : Val} {u : V} (r : Rel K C kd en e σ F H) (k : kdAt kd i = .imm) (h : VR K C F v u) : Rel K C kd en (e.set i (some v)) (σ.set i (some u)) F H where
  sub := r.sub
  len := by simp [r.len]
  imm := fun j w kj hj => by
    rcases getE_set hj with ⟨rfl, e1, hl⟩ | ⟨hij, hj⟩
    · cases e1
      exact ⟨u, List.getElem?_set_self (by rw [← r.len]; exact hl), h⟩
    · obtain ⟨u', h1, h2⟩ := r.imm j w kj hj
      exact ⟨u', by rw [List.getElem?_set_ne hij]; exact h1, h2⟩
  own := fun j w kj hj => by
    rcases getE_set hj with ⟨rfl, _, _⟩ | ⟨hij, hj⟩
    · exact absurd k kj
    · obtain ⟨u', h1, h2⟩ := r.own j w kj hj
      exact ⟨u', by rw [List.getElem?_set_ne hij]; exact h1, h2⟩
  sep := fun j l a v' w hjl kj kl hj hl sj sl => by
    rcases getE_set hj with ⟨rfl, _, _⟩ | ⟨hij, hj⟩
    · exact kj k
    rcases getE_set hl with ⟨rfl, _, _⟩ | ⟨hil, hl⟩
    · exact kl k
    rw [List.getElem?_set_ne hij] at sj
    rw [List.getElem?_set_ne hil] at sl
    exact r.sep j l a v' w hjl kj kl hj hl sj sl
  b1 := r.b1
  b2 := r.b2
  b3 := r.b3
  b4 := r.b4
  b5 := r.b5
/-- a slot is forgotten -/
theorem Rel.kill (r : Rel K C kd en e σ F H) (i : Nat) : Rel K C kd en (e.set i none) σ F H where
  sub := r.sub
  len := by simp [r.len]
  imm := fun j w kj hj => by
    rcases getE_set hj with ⟨_, e1, _⟩ | ⟨hij, hj⟩
    · cases e1
    · exact r.imm j w kj hj
  own := fun j w kj hj => by
    rcases getE_set hj with ⟨_, e1, _⟩ | ⟨hij, hj⟩
    · cases e1
    · exact r.own j w kj hj
  sep := fun j l a v w hjl kj kl hj hl => by
    rcases getE_set hj with ⟨_, e1, _⟩ | ⟨_, hj⟩
    · cases e1
    rcases getE_set hl with ⟨_, e1, _⟩ | ⟨_, hl⟩
    · cases e1
    exact r.sep j l a v w hjl kj kl hj hl
  b1 := r.b1
  b2 := r.b2
  b3 := r.b3
  b4 := r.b4
  b5 := r.b5
/-- a new owned value, apart from all slots -/
def Fresh (K : PySem.W.Frag) (C : Str → Option Addr) (kd : Kds) (en : Ent) (e : Env) (σ : L2.St) (F H : Hp) (v : Val) (u : V) : Prop :=
  (scalar v = true ∧ VR K C F v u) ∨ ∃ a, u = .ref a ∧ OW K C F H (Nw en .loc a) v a ∧ F a = none ∧ en.H0 a = none ∧ ∀ (i : Nat) (w : Val), kdAt kd i ≠ .imm → e[i]? = some (some w) → σ[i]? ≠ some (some (.ref a))
theorem Rel.setOwn {i : Nat} {v : Val} {u : V} (r : Rel K C kd en e σ F H) (k : kdAt kd i = .loc) (h : Fresh K C kd en e σ F H v u) : Rel K C kd en (e.set i (some v)) (σ.set i (some u)) F H where
  sub := r.sub
  len := by simp [r.len]
  imm := fun j w kj hj => by
    rcases getE_set hj with ⟨rfl, _, _⟩ | ⟨hij, hj⟩
    · rw [k] at kj; cases kj
    · obtain ⟨u', h1, h2⟩ := r.imm j w kj hj
      exact ⟨u', by rw [List.getElem?_set_ne hij]; exact h1, h2⟩
  own := fun j w kj hj => by
    rcases getE_set hj with ⟨rfl, e1, hl⟩ | ⟨hij, hj⟩
    · cases e1
      refine ⟨u, List.getElem?_set_self (by rw [← r.len]; exact hl), ?_⟩
      rcases h with h | ⟨a, rfl, o, n, l, _⟩
      · exact .inl h
      · exact .inr ⟨a, rfl, by rw [k]; exact o, n, fun _ => l, fun z => by rw [k] at z; cases z⟩
    · obtain ⟨u', h1, h2⟩ := r.own j w kj hj
      exact ⟨u', by rw [List.getElem?_set_ne hij]; exact h1, h2⟩
  sep := fun j l a v' w hjl kj kl hj hl sj sl => by
    have key : ∀ (m : Nat) (w : Val), i ≠ m → kdAt kd m ≠ .imm → e[m]? = some (some w) → σ[m]? = some (some (.ref a)) → u = .ref a → False := fun m w him km hm sm eu => by
      rcases h with ⟨s, hv⟩ | ⟨a', e', o, n, l, ap⟩
      · exact (scalar_of hv s).1 a eu
      · rw [eu] at e'; cases e'
        exact ap m w km hm sm
    rcases getE_set hj with ⟨rfl, _, hjl'⟩ | ⟨hij, hj⟩
    · rcases getE_set hl with ⟨e1, _, _⟩ | ⟨hil, hl⟩
      · exact hjl e1
      · rw [List.getElem?_set_self (by rw [← r.len]; exact hjl')] at sj
        rw [List.getElem?_set_ne hil] at sl
        exact key l w hil kl hl sl (Option.some.inj (Option.some.inj sj))
    · rw [List.getElem?_set_ne hij] at sj
      rcases getE_set hl with ⟨rfl, _, hll'⟩ | ⟨hil, hl⟩
      · rw [List.getElem?_set_self (by rw [← r.len]; exact hll')] at sl
        exact key j v' hij kj hj sj (Option.some.inj (Option.some.inj sl))
      · rw [List.getElem?_set_ne hil] at sl
        exact r.sep j l a v' w hjl kj kl hj hl sj sl
  b1 := r.b1
  b2 := r.b2
  b3 := r.b3
  b4 := r.b4
  b5 := r.b5
theorem OW.upd_ne {N : Addr → Prop} {F H : Hp} {v : Val} {a b : Addr} {o : HO} (h : OW K C F H N v a) (hab : a ≠ b) (hb : ∀ x, H b ≠ some (.own x)) : OW K C F (upd H b o) N v a := by
  have ne : ∀ {c : Addr} {o' : HO}, H c = some o' → c ≠ b → upd H b o c = some o' := fun h1 h2 => by rw [L2.upd_ne h2]; exact h1
  cases h with
  | lst h r => exact .lst (ne h hab) r
  | dct h r => exact .dct (ne h hab) r
  | obj c h d n x r => exact .obj c (ne h hab) (ne d (fun z => hb _ (by rw [← z]; exact d))) n x r
/-- an owned slot's thing is changed -/
theorem Rel.mutate {i : Nat} {v v' : Val} {a : Addr} {o' : HO} (r : Rel K C kd en e σ F H) (k : kdAt kd i ≠ .imm) (h : e[i]? = some (some v)) (ha : σ[i]? = some (some (.ref a))) (h' : OW K C F (upd H a o') (Nw en (kdAt kd i) a) v' a) (hno : ∀ x, H a ≠ some (.own x)) :
    Rel K C kd en (e.set i (some v')) σ F (upd H a o') := by
  obtain ⟨u0, s0, o0⟩ := r.own i v k h
  rw [ha] at s0; cases s0
  rcases o0 with ⟨s, hv⟩ | ⟨a', e', ow, n, l, p⟩
  · exact absurd rfl ((scalar_of hv s).1 a)
  cases e'
  refine ⟨fun q o hq => ?_, by simp [r.len], fun j w kj hj => ?_, fun j w kj hj => ?_, fun j l' b w w' hjl kj kl hj hl sj sl => ?_, fun q o hq hn => ?_, r.b2, fun q hq => ?_, r.b4, r.b5⟩
  · by_cases hqa : q = a
    · subst hqa; rw [n] at hq; cases hq
    · rw [L2.upd_ne hqa]; exact r.sub q o hq
  · rcases getE_set hj with ⟨rfl, _, _⟩ | ⟨hij, hj⟩
    · exact absurd kj k
    · exact r.imm j w kj hj
  · rcases getE_set hj with ⟨rfl, e1, hl⟩ | ⟨hij, hj⟩
    · cases e1
      exact ⟨_, ha, .inr ⟨a, rfl, h', n, l, p⟩⟩
    · obtain ⟨u, su, ou⟩ := r.own j w kj hj
      refine ⟨u, su, ?_⟩
      rcases ou with ou | ⟨b, rfl, ob, nb, lb, pb⟩
      · exact .inl ou
      · refine .inr ⟨b, rfl, ob.upd_ne (fun z => ?_) hno, nb, lb, pb⟩
        subst z
        exact r.sep i j b v w hij k kj h hj ha su
  · have live : ∀ m x, (e.set i (some v'))[m]? = some (some x) → ∃ y, e[m]? = some (some y) := fun m x hm => by
      rcases getE_set hm with ⟨rfl, _, _⟩ | ⟨_, hm⟩
      · exact ⟨v, h⟩
      · exact ⟨x, hm⟩
    obtain ⟨y, hy⟩ := live j w hj
    obtain ⟨y', hy'⟩ := live l' w' hl
    exact r.sep j l' b y y' hjl kj kl hy hy' sj sl
  · by_cases hqa : q = a
    · subst hqa
      rcases hk : kdAt kd i with _ | _ | _
      · exact absurd hk k
      · rw [l hk] at hq; cases hq
      · exact absurd (p hk).2 hn
    · rw [L2.upd_ne hqa]; exact r.b1 q o hq hn
  · by_cases hqa : q = a
    · subst hqa; rw [upd_same]; simp
    · rw [L2.upd_ne hqa]; exact r.b3 q hq
/-- an owned new thing is frozen -/
theorem fresh_freeze {v : Val} {u : V} (r : Rel K C kd en e σ F H) (h : Fresh K C kd en e σ F H v u) : ∃ F', Same F F' ∧ Rel K C kd en e σ F' H ∧ VR K C F' v u := by
  rcases h with ⟨s, h⟩ | ⟨a, rfl, ow, n, l, ap⟩
  · exact ⟨F, Same.refl _, r, h⟩
  -- F' takes in a (and its own dict)
  have fin : ∀ (F' : Hp), Same F F' → Same F' H → (∀ q, F' q ≠ none → F q ≠ none ∨ q = a ∨ (H q = some (.own a) ∧ en.H0 q = none)) → VR K C F' v (.ref a) → ∃ F', Same F F' ∧ Rel K C kd en e σ F' H ∧ VR K C F' v (.ref a) := by
    intro F' h1 h2 h3 h4
    have noF : ∀ q, F q = none → q ≠ a → H q ≠ some (.own a) → F' q = none := fun q z1 z2 z3 => by
      cases z : F' q with
      | none => rfl
      | some o =>
        rcases h3 q (by rw [z]; simp) with w | w | w
        · exact absurd z1 w
        · exact absurd w z2
        · exact absurd w.1 z3
    refine ⟨F', h1, ⟨h2, r.len, fun i w k hi => let ⟨u, s, q⟩ := r.imm i w k hi; ⟨u, s, q.mono h1⟩, fun i w k hi => ?_, r.sep, r.b1, fun q hq => ?_, r.b3, r.b4.trans h1, r.b5⟩, h4⟩
    · obtain ⟨u, s, q⟩ := r.own i w k hi
      refine ⟨u, s, ?_⟩
      rcases q with ⟨z, q⟩ | ⟨b, rfl, ob, nb, lb, pb⟩
      · exact .inl ⟨z, q.mono h1⟩
      · have hba : b ≠ a := fun z => ap i w k hi (by rw [← z]; exact s)
        refine .inr ⟨b, rfl, ob.mono h1 (fun _ z => z) (fun dx d nd => ⟨d, noF dx nd ?_ ?_⟩), noF b nb hba ?_, lb, pb⟩
        · rintro rfl
          cases ow with
          | lst z _ => rw [z] at d; cases d
          | dct z _ => rw [z] at d; cases d
          | obj _ z _ _ _ _ => rw [z] at d; cases d
        · intro z; rw [d] at z; cases z; exact hba rfl
        · intro z
          cases ob with
          | lst z' _ => rw [z'] at z; cases z
          | dct z' _ => rw [z'] at z; cases z
          | obj _ z' _ _ _ _ => rw [z'] at z; cases z
    · rcases h3 q hq with z | rfl | z
      · exact r.b2 q z
      · exact .inr l
      · exact .inr z.2
  have one : ∀ (o : HO), H a = some o → Same (upd F a o) H ∧ ∀ q, upd F a o q ≠ none → F q ≠ none ∨ q = a ∨ (H q = some (.own a) ∧ en.H0 q = none) := fun o ho => by
    refine ⟨fun q o' hq => ?_, fun q hq => ?_⟩
    · by_cases hqa : q = a
      · subst hqa; rw [upd_same] at hq; cases hq; exact ho
      · rw [L2.upd_ne hqa] at hq; exact r.sub q o' hq
    · by_cases hqa : q = a
      · exact .inr (.inl hqa)
      · rw [L2.upd_ne hqa] at hq; exact .inl hq
  cases ow with
  | @lst _ us vs h hv => exact fin (upd F a (.lst us)) (same_upd n) (one _ h).1 (one _ h).2 (.lst upd_same (hv.mono (same_upd n)))
  | @dct _ us vs h hv => exact fin (upd F a (.dK us)) (same_upd n) (one _ h).1 (one _ h).2 (.dct upd_same (hv.mono (same_upd n)))
  | @obj _ dx c Ca fus fs hc h d nd x hv =>
    have hne : dx ≠ a := by rintro rfl; rw [h] at d; cases d
    have s1 : Same F (upd F a (.ins Ca dx fus)) := same_upd n
    have nd1 : upd F a (.ins Ca dx fus) dx = none := by rw [L2.upd_ne hne]; exact nd
    have s2 := same_upd (o := .own a) nd1
    refine fin (upd (upd F a (.ins Ca dx fus)) dx (.own a)) (s1.trans s2) (fun q o hq => ?_) (fun q hq => ?_) (.obj hc (s2 _ _ upd_same) upd_same (hv.mono (s1.trans s2)))
    · by_cases hqd : q = dx
      · subst hqd; rw [upd_same] at hq; cases hq; exact d
      · rw [L2.upd_ne hqd] at hq; exact (one _ h).1 q o hq
    · by_cases hqd : q = dx
      · subst hqd; exact .inr (.inr ⟨d, x.1 rfl⟩)
      · rw [L2.upd_ne hqd] at hq; exact (one _ h).2 q hq
end
end CG
end
section
set_option Elab.async false
set_option linter.all false
set_option maxRecDepth 100000
set_option autoImplicit false
/-! CG3: the judgements; names, literals, operators, tests, displays. -/
namespace CG
open PySem PySem.Spec L2

structure FnAt where
  addr : Addr
  fd : FuncData
  ps : List Str
/-- the program's world: where classes, exceptions and defs stand -/
structure GX where
  P : Program
  w : World
  K : PySem.W.Frag
  mg : Str → Option Value
  base : Heap
  C : Str → Option Addr
  X : Str → Option Addr
  G : Table
  loc : Fn → Option FnAt

/-- an exception as it lies -/
def XR (Γ : GX) (F H : Hp) (c : Str) (fs : List (Str × Val)) (cls : Value) (d : Option Addr) : Prop :=
  ∃ Ca, Γ.X c = some Ca ∧ cls = .ref Ca ∧ ((fs = [] ∧ d = none) ∨ ∃ dd fus, d = some dd ∧ H dd = some (.xd fus) ∧ FRs Γ.K Γ.C F fs fus)

/-! ### calls: what is promised -/
inductive ArgsR (K : PySem.W.Frag) (C : Str → Option Addr) (F H : Hp) : List Bool → List Val → List V → List Addr → Prop
  | nil : ArgsR K C F H [] [] [] []
  | v {m : List Bool} {v : Val} {u : V} {vs : List Val} {us : List V} {as : List Addr} : VR K C F v u → ArgsR K C F H m vs us as → ArgsR K C F H (false :: m) (v :: vs) (u :: us) as
  | io {m : List Bool} {v : Val} {a : Addr} {vs : List Val} {us : List V} {as : List Addr} : OW K C F H (fun _ => True) v a → F a = none → a ∉ as → ArgsR K C F H m vs us as → ArgsR K C F H (true :: m) (v :: vs) (.ref a :: us) (a :: as)
structure Step (F H F' H' : Hp) (io : List Addr) : Prop where
  ff : Same F F'
  fh : Same F' H'
  hh : ∀ (q : Addr) (o : HO), H q = some o → q ∉ io → H' q = some o
  new : ∀ (q : Addr), F' q ≠ none → F q ≠ none ∨ H q = none
  keep : ∀ (q : Addr), H q ≠ none → H' q ≠ none
/-- the same own dict as ahead -/
def SameD (H : Hp) (a : Addr) : Addr → Prop := fun q => ∃ C0 fs0, H a = some (.ins C0 q fs0)
inductive Outs (K : PySem.W.Frag) (C : Str → Option Addr) (H0 F H : Hp) : List Val → List Addr → Prop
  | nil : Outs K C H0 F H [] []
  | cons {v : Val} {a : Addr} {vs : List Val} {as : List Addr} : OW K C F H (SameD H0 a) v a → F a = none → Outs K C H0 F H vs as → Outs K C H0 F H (v :: vs) (a :: as)
/-- a new value behind a call -/
def NewV (K : PySem.W.Frag) (C : Str → Option Addr) (H F' H' : Hp) (io : List Addr) (v : Val) (u : V) : Prop :=
  (scalar v = true ∧ VR K C F' v u) ∨ ∃ a, u = .ref a ∧ OW K C F' H' (fun q => H q = none) v a ∧ F' a = none ∧ H a = none ∧ a ∉ io
def CPost (Γ : GX) (fresh : Bool) (F H : Hp) (io : List Addr) (r : CR) (Q : VK) (E : XK) : Prop := match r with
  | .ok v outs => ∀ u F' H', Step F H F' H' io → Outs Γ.K Γ.C H F' H' outs io → (if fresh = true then NewV Γ.K Γ.C H F' H' io v u else VR Γ.K Γ.C F' v u) → Q u H'
  | .exc c fs => ∀ cls d F' H', Step F H F' H' io → XR Γ F' H' c fs cls d → E cls d H'
  | .no => False
/-- the promise of the def f of the table, by callN n -/
def spOf (Γ : GX) (n : Nat) (f : Fn) (d : Def) : Sp := fun us H Q E =>
  ∃ (F : Hp) (vs : List Val) (io : List Addr), Same F H ∧ ArgsR Γ.K Γ.C F H d.io vs us io ∧ CPost Γ d.fresh F H io (callN Γ.G n f vs) Q E
def FnsOk (Γ : GX) (n : Nat) : Prop := ∀ f d a, Γ.G f = some d → Γ.loc f = some a → FnOk Γ.P Γ.w Γ.K Γ.mg Γ.base (L2.CX Γ.P Γ.w) (2 * n + 4) a.addr a.fd a.ps (spOf Γ n f d)

/-! ### contexts -/
structure Sc where
  N : List Str
  kd : Kds
  names : List (Str × NameKind)
/-- the built-in names that a text may use -/
def blNames : List Str := ["len", "abs", "int", "str", "list", "tuple", "sorted", "set", "min", "max", "sum", "all", "any", "range", "enumerate", "zip", "isinstance", "bool", "ValueError"]
structure Compat (Γ : GX) (sc : Sc) (n : Nat) (X : Cx) : Prop where
  prog : X.prog = Γ.P
  w : X.w = Γ.w
  K : X.K = Γ.K
  mg : X.mg = Γ.mg
  base : X.base = Γ.base
  N : X.N = sc.N
  nd : X.N.Nodup
  nm : ∀ (x : Str) (k : NameKind), sc.names.lookup x = some k → X.env.scope.names.lookup x = some k ∨ (k = .free ∧ X.env.scope.names.lookup x = some .cell)
  calm : X.calm = true
  room : Room (2 * n + 5) X.A
  fns : FnsOk Γ n
  nb : ∀ x ∈ blNames, Γ.mg x = none
  kdl : sc.kd.length = sc.N.length
  fnc : ∀ x, sc.names.lookup x = some .cell → X.fn x = true

def JE (X : Cx) (e : Expr) (σ : L2.St) (H : Hp) (Q : VK) : Prop := ∀ (pins : List (Addr × Obj)) (s : Shared), Inv X pins σ H s → wpAny (model X.prog X.w) X.A (eval e X.env) (EP X pins σ Q) X.xe s
def JT (X : Cx) (e : Expr) (σ : L2.St) (H : Hp) (Q : Bool → Hp → Prop) : Prop := ∀ (pins : List (Addr × Obj)) (s : Shared), Inv X pins σ H s → wpAny (model X.prog X.w) X.A (isTrue e X.env (eval e X.env)) (TP X pins σ Q) X.xe s
def JW (X : Cx) (e : Expr) (σ : L2.St) (H : Hp) (Q : Bool → Hp → Prop) : Prop := ∀ (whole : Sem Value) (pins : List (Addr × Obj)) (s : Shared), Inv X pins σ H s → wpAny (model X.prog X.w) X.A (isTrue e X.env whole) (TP X pins σ Q) X.xe s
def JA (X : Cx) (es : List Expr) (σ : L2.St) (H : Hp) (Q : List V → Hp → Prop) : Prop := ∀ (pos : Pos) (pins : List (Addr × Obj)) (s : Shared), Inv X pins σ H s → wpAny (model X.prog X.w) X.A (spliced (backTo pos (starEach es X.env))) (AP X pins σ Q) X.xe s
theorem JE.pe {X : Cx} {e : Expr} : PE X e (JE X e) := ⟨fun pins s _ _ _ I h => h pins s I⟩
theorem JT.pt {X : Cx} {e : Expr} : PT X e (JT X e) := ⟨fun pins s _ _ _ I h => h pins s I⟩
theorem JW.pw {X : Cx} {e : Expr} : PW X e (JW X e) := ⟨fun wh pins s _ _ _ I h => h wh pins s I⟩
theorem JA.pa {X : Cx} {es : List Expr} : PA X es (JA X es) := ⟨fun pos pins s _ _ _ I h => h pos pins s I⟩
section
variable {X : Cx} {e : Expr} {es : List Expr} {σ : L2.St} {H : Hp}
theorem je {t : TE} (h : PE X e t) {Q : VK} (q : t σ H Q) : JE X e σ H Q := fun pins s I => h.run pins s σ H Q I q
theorem jt {t : TT} (h : PT X e t) {Q : Bool → Hp → Prop} (q : t σ H Q) : JT X e σ H Q := fun pins s I => h.run pins s σ H Q I q
theorem jw {t : TT} (h : PW X e t) {Q : Bool → Hp → Prop} (q : t σ H Q) : JW X e σ H Q := fun wh pins s I => h.run wh pins s σ H Q I q
theorem ja {t : TA} (h : PA X es t) {Q : List V → Hp → Prop} (q : t σ H Q) : JA X es σ H Q := fun pos pins s I => h.run pos pins s σ H Q I q
end

/-- what is known of a result, and what is wanted -/
def Post {α β : Type} (Γ : GX) (kd : Kds) (en : Ent) (σ : L2.St) (F : Hp) (r : R α) (T : Env → Hp → Hp → α → β → Prop) (Q : β → Hp → Prop) (W : WX) : Prop := match r with
  | .ok v e => ∀ u F' H', Same F F' → Rel Γ.K Γ.C kd en e σ F' H' → T e F' H' v u → Q u H'
  | .exc c fs e => ∀ cls d F' H', Same F F' → Rel Γ.K Γ.C kd en e σ F' H' → XR Γ F' H' c fs cls d → W cls d σ H'
  | .no => False
section
variable {Γ : GX} {kd : Kds} {en : Ent} {σ : L2.St} {F : Hp} {α β α' β' : Type} {W : WX}
theorem Post.mono {F' : Hp} {r : R α} {T : Env → Hp → Hp → α → β → Prop} {Q : β → Hp → Prop} (P : Post Γ kd en σ F r T Q W) (h : Same F F') : Post Γ kd en σ F' r T Q W := by
  cases r with
  | ok v e => exact fun u F2 H2 s => P u F2 H2 (h.trans s)
  | exc c fs e => exact fun cls d F2 H2 s => P cls d F2 H2 (h.trans s)
  | no => exact P
theorem Post.seq {r : R α'} {g : α' → Env → R α} {T : Env → Hp → Hp → α → β → Prop} {Q : β → Hp → Prop} {T1 : Env → Hp → Hp → α' → β' → Prop} {Q1 : β' → Hp → Prop} (P : Post Γ kd en σ F (r.bind g) T Q W)
    (h : ∀ v e1 u F1 H1, Same F F1 → Rel Γ.K Γ.C kd en e1 σ F1 H1 → T1 e1 F1 H1 v u → Post Γ kd en σ F1 (g v e1) T Q W → Q1 u H1) : Post Γ kd en σ F r T1 Q1 W := by
  cases r with
  | ok v e => exact fun u F1 H1 s r1 t1 => h v e u F1 H1 s r1 t1 (Post.mono P s)
  | exc c fs e => exact P
  | no => exact P
/-- a pure step -/
theorem Post.ret {o : Option α} {e : Env} {T : Env → Hp → Hp → α → β → Prop} {Q : β → Hp → Prop} (P : Post Γ kd en σ F (ret o e) T Q W) : ∃ v, o = some v ∧ ∀ u F' H', Same F F' → Rel Γ.K Γ.C kd en e σ F' H' → T e F' H' v u → Q u H' := by
  cases o with
  | none => exact P.elim
  | some v => exact ⟨v, rfl, P⟩
theorem Post.ok {v : α} {e : Env} {T : Env → Hp → Hp → α → β → Prop} {Q : β → Hp → Prop} (P : Post Γ kd en σ F (.ok v e) T Q W) : ∀ u F' H', Same F F' → Rel Γ.K Γ.C kd en e σ F' H' → T e F' H' v u → Q u H' := P
end
abbrev TV (Γ : GX) : Env → Hp → Hp → Val → V → Prop := fun _ F' _ v u => VR Γ.K Γ.C F' v u
abbrev TB : Env → Hp → Hp → Bool → Bool → Prop := fun _ _ _ v b => v = b
abbrev TL (Γ : GX) : Env → Hp → Hp → List Val → List V → Prop := fun _ F' _ v u => VRs Γ.K Γ.C F' v u
abbrev TF (Γ : GX) (kd : Kds) (en : Ent) (σ : L2.St) : Env → Hp → Hp → Val → V → Prop := fun e F' H' v u => Fresh Γ.K Γ.C kd en e σ F' H' v u

/-- an expression's value is frozen -/
def SV (Γ : GX) (sc : Sc) (ex : Expr) (f : M Val) : Prop := ∀ ⦃n : Nat⦄ ⦃X : Cx⦄, Compat Γ sc n X → ∀ {W : WX}, Takes X W → ∀ {en : Ent} {e : Env} {σ : L2.St} {F H : Hp}, Rel Γ.K Γ.C sc.kd en e σ F H →
  ∀ {Q : VK}, Post Γ sc.kd en σ F (f (callN Γ.G n) e) (TV Γ) Q W → JE X ex σ H Q
/-- an expression's value is new -/
def SF (Γ : GX) (sc : Sc) (ex : Expr) (f : M Val) : Prop := ∀ ⦃n : Nat⦄ ⦃X : Cx⦄, Compat Γ sc n X → ∀ {W : WX}, Takes X W → ∀ {en : Ent} {e : Env} {σ : L2.St} {F H : Hp}, Rel Γ.K Γ.C sc.kd en e σ F H →
  ∀ {Q : VK}, Post Γ sc.kd en σ F (f (callN Γ.G n) e) (TF Γ sc.kd en σ) Q W → JE X ex σ H Q
/-- a test -/
def ST (Γ : GX) (sc : Sc) (ex : Expr) (f : M Val) : Prop := ∀ ⦃n : Nat⦄ ⦃X : Cx⦄, Compat Γ sc n X → ∀ {W : WX}, Takes X W → ∀ {en : Ent} {e : Env} {σ : L2.St} {F H : Hp}, Rel Γ.K Γ.C sc.kd en e σ F H →
  ∀ {Q : Bool → Hp → Prop}, Post Γ sc.kd en σ F (asB (f (callN Γ.G n) e)) TB Q W → JT X ex σ H Q
def SW (Γ : GX) (sc : Sc) (ex : Expr) (f : M Val) : Prop := ∀ ⦃n : Nat⦄ ⦃X : Cx⦄, Compat Γ sc n X → ∀ {W : WX}, Takes X W → ∀ {en : Ent} {e : Env} {σ : L2.St} {F H : Hp}, Rel Γ.K Γ.C sc.kd en e σ F H →
  ∀ {Q : Bool → Hp → Prop}, Post Γ sc.kd en σ F (asB (f (callN Γ.G n) e)) TB Q W → JW X ex σ H Q
/-- written items -/
def SL (Γ : GX) (sc : Sc) (es : List Expr) (f : M (List Val)) : Prop := ∀ ⦃n : Nat⦄ ⦃X : Cx⦄, Compat Γ sc n X → ∀ {W : WX}, Takes X W → ∀ {en : Ent} {e : Env} {σ : L2.St} {F H : Hp}, Rel Γ.K Γ.C sc.kd en e σ F H →
  ∀ {Q : List V → Hp → Prop}, Post Γ sc.kd en σ F (f (callN Γ.G n) e) (TL Γ) Q W → JA X es σ H Q

section
variable {Γ : GX} {sc : Sc} {ex a b c : Expr} {f g h : M Val} {pos : Pos}
theorem SF.sv (hf : SF Γ sc ex f) : SV Γ sc ex f := by
  intro n X cx W tk en e σ F H r Q P
  refine hf cx tk r ?_
  cases hr : f (callN Γ.G n) e with
  | ok v e1 =>
    rw [hr] at P
    intro u F1 H1 s1 r1 t1
    obtain ⟨F2, s2, r2, v2⟩ := fresh_freeze r1 t1
    exact P u F2 H1 (s1.trans s2) r2 v2
  | exc c fs e1 => rw [hr] at P; exact P
  | no => rw [hr] at P; exact P

/-! ### names and constants -/
theorem Compat.vis {n : Nat} {X : Cx} (cx : Compat Γ sc n X) {x : Str} (h : sc.names.lookup x = some .local ∨ sc.names.lookup x = some .cell ∨ sc.names.lookup x = some .free) : Vis X.env.scope x := by
  rcases h with h | h | h
  · rcases cx.nm x _ h with q | ⟨q, _⟩
    · exact .inl q
    · cases q
  · rcases cx.nm x _ h with q | ⟨q, _⟩
    · exact .inr (.inl q)
    · cases q
  · rcases cx.nm x _ h with q | ⟨_, q⟩
    · exact .inr (.inr q)
    · exact .inr (.inl q)
theorem Compat.locn {n : Nat} {X : Cx} (cx : Compat Γ sc n X) {x : Str} (h : sc.names.lookup x = some .local ∨ sc.names.lookup x = some .cell) : Loc X.env.scope x := by
  rcases h with h | h
  · rcases cx.nm x _ h with q | ⟨q, _⟩
    · exact .inl q
    · cases q
  · rcases cx.nm x _ h with q | ⟨q, _⟩
    · exact .inr q
    · cases q
theorem Compat.gl {n : Nat} {X : Cx} (cx : Compat Γ sc n X) {x : Str} (h : sc.names.lookup x = some .globalImplicit) : Gl X x := by
  rcases cx.nm x _ h with q | ⟨q, _⟩
  · exact q
  · cases q
/-- how a name is seen in a block -/
abbrev Seen (sc : Sc) (i : Nat) (x : Str) : Prop := sc.N[i]? = some x ∧ (sc.names.lookup x = some .local ∨ sc.names.lookup x = some .cell ∨ sc.names.lookup x = some .free)
theorem sv_var {i : Nat} {x : Str} (hN : sc.N[i]? = some x) (hv : sc.names.lookup x = some .local ∨ sc.names.lookup x = some .cell ∨ sc.names.lookup x = some .free) (k : kdAt sc.kd i = .imm)
    (hd : (x == ("__debug__" : Str)) = false := by decide) (hcd : (x == ("__classdict__" : Str)) = false := by decide) : SV Γ sc (.Name x pos) (mVar i) := by
  intro n X cx W tk en e σ F H r Q P
  have hN' : X.N[i]? = some x := by rw [cx.N]; exact hN
  refine je (pe_var hN' (cx.vis hv) hd hcd) ?_
  simp only [mVar] at P
  split at P
  · rename_i v he
    obtain ⟨u, s, q⟩ := r.imm i v k he
    exact ⟨u, s, P u F H (Same.refl _) r q⟩
  · exact P.elim
/-- an owned slot, given away -/
theorem sf_mv {i : Nat} {x : Str} (hN : sc.N[i]? = some x) (hv : sc.names.lookup x = some .local ∨ sc.names.lookup x = some .cell ∨ sc.names.lookup x = some .free) (k : kdAt sc.kd i = .loc)
    (hd : (x == ("__debug__" : Str)) = false := by decide) (hcd : (x == ("__classdict__" : Str)) = false := by decide) : SF Γ sc (.Name x pos) (mMv i) := by
  intro n X cx W tk en e σ F H r Q P
  have hN' : X.N[i]? = some x := by rw [cx.N]; exact hN
  refine je (pe_var hN' (cx.vis hv) hd hcd) ?_
  simp only [mMv] at P
  split at P
  · rename_i v he
    have kn : kdAt sc.kd i ≠ .imm := by rw [k]; decide
    obtain ⟨u, s, q⟩ := r.own i v kn he
    refine ⟨u, s, P u F H (Same.refl _) (r.kill i) ?_⟩
    rcases q with q | ⟨a, rfl, ow, na, l, p⟩
    · exact .inl q
    · refine .inr ⟨a, rfl, by rw [k] at ow; exact ow, na, l k, fun j w kj hj sj => ?_⟩
      rcases getE_set hj with ⟨_, e1, _⟩ | ⟨hij, hj⟩
      · cases e1
      · exact r.sep i j a v w hij kn kj he hj s sj
  · exact P.elim
theorem sv_int {i : Int} {j : Nat} : SV Γ sc (.Constant (.int i) j pos) (mLit (.int i)) := by
  intro n X cx W tk en e σ F H r Q P
  exact je pe_int (P _ _ _ (Same.refl _) r (.int i))
theorem sv_bl {i : Bool} {j : Nat} : SV Γ sc (.Constant (.bool i) j pos) (mLit (.bl i)) := by
  intro n X cx W tk en e σ F H r Q P
  exact je pe_bl (P _ _ _ (Same.refl _) r (.bl i))
theorem sv_non {j : Nat} : SV Γ sc (.Constant .none j pos) (mLit .non) := by
  intro n X cx W tk en e σ F H r Q P
  exact je pe_non (P _ _ _ (Same.refl _) r .non)
theorem sv_str {i : Str} {j : Nat} : SV Γ sc (.Constant (.str i) j pos) (mLit (.str i)) := by
  intro n X cx W tk en e σ F H r Q P
  exact je pe_str (P _ _ _ (Same.refl _) r (.str i))
/-- a constant of the module -/
theorem sv_glob {x : Str} {v : Val} (hg : sc.names.lookup x = some .globalImplicit) (hm : ∃ u w, Γ.mg x = some u ∧ RelV w u ∧ ∀ F, VR Γ.K Γ.C F v w) (hd : (x == ("__debug__" : Str)) = false := by decide) : SV Γ sc (.Name x pos) (mLit v) := by
  intro n X cx W tk en e σ F H r Q P
  obtain ⟨u, w, hm, ru, hv⟩ := hm
  exact je (pe_glob (cx.gl hg) (by rw [cx.mg]; exact hm) ru hd) (P _ _ _ (Same.refl _) r (hv F))

/-! ### operators by values -/
/-- a value that is read: frozen, or an owned one in H -/
def TR (K : PySem.W.Frag) (C : Str → Option Addr) (F H : Hp) (v : Val) (u : V) : Prop := VR K C F v u ∨ ∃ a, u = .ref a ∧ OW K C F H (fun _ => True) v a
theorem TR.lst {K : PySem.W.Frag} {C : Str → Option Addr} {F H : Hp} {vs : List Val} {u : V} (h : TR K C F H (.lst vs) u) (s : Same F H) : ∃ a us, u = .ref a ∧ H a = some (.lst us) ∧ VRs K C F vs us := by
  rcases h with h | ⟨a, rfl, h⟩
  · cases h with | lst h r => exact ⟨_, _, rfl, s _ _ h, r⟩
  · cases h with | lst h r => exact ⟨_, _, rfl, h, r⟩
theorem TR.dct {K : PySem.W.Frag} {C : Str → Option Addr} {F H : Hp} {vs : List (Key × Val)} {u : V} (h : TR K C F H (.dct vs) u) (s : Same F H) : ∃ a us, u = .ref a ∧ H a = some (.dK us) ∧ KRs K C F vs us := by
  rcases h with h | ⟨a, rfl, h⟩
  · cases h with | dct h r => exact ⟨_, _, rfl, s _ _ h, r⟩
  · cases h with | dct h r => exact ⟨_, _, rfl, h, r⟩
theorem TR.tup {K : PySem.W.Frag} {C : Str → Option Addr} {F H : Hp} {vs : List Val} {u : V} (h : TR K C F H (.tup vs) u) (s : Same F H) : ∃ a us, u = .ref a ∧ SqT K H a us ∧ VRs K C F vs us := by
  rcases h with h | ⟨a, rfl, h⟩
  · cases h with | tup h r => exact ⟨_, _, rfl, sqT_mono s h, r⟩
  · cases h
theorem TR.int {K : PySem.W.Frag} {C : Str → Option Addr} {F H : Hp} {i : Int} {u : V} (h : TR K C F H (.int i) u) : u = .int i := by
  rcases h with h | ⟨a, rfl, h⟩ <;> cases h; rfl
theorem TR.str {K : PySem.W.Frag} {C : Str → Option Addr} {F H : Hp} {i : Str} {u : V} (h : TR K C F H (.str i) u) : u = .str i := by
  rcases h with h | ⟨a, rfl, h⟩ <;> cases h; rfl
theorem TR.bl {K : PySem.W.Frag} {C : Str → Option Addr} {F H : Hp} {i : Bool} {u : V} (h : TR K C F H (.bl i) u) : u = .bl i := by
  rcases h with h | ⟨a, rfl, h⟩ <;> cases h; rfl
theorem TR.non {K : PySem.W.Frag} {C : Str → Option Addr} {F H : Hp} {u : V} (h : TR K C F H .non u) : u = .non := by
  rcases h with h | ⟨a, rfl, h⟩ <;> cases h; rfl
/-- an operator of the model does what op does; its result is frozen -/
def B2 (Γ : GX) (ex : Value → Value → Sem Value) (op : Val → Val → Option Val) : Prop := ∀ ⦃sc : Sc⦄ ⦃n : Nat⦄ ⦃X : Cx⦄, Compat Γ sc n X → ∀ {a b r : Val}, op a b = some r → ∀ {F H : Hp}, Same F H → ∀ {x y : V}, TR Γ.K Γ.C F H a x → TR Γ.K Γ.C F H b y →
  ∀ {Q : VK}, (∀ u F' H', Grow F H F' H' → VR Γ.K Γ.C F' r u → Q u H') → ∀ (pins : List (Addr × Obj)) (s : Shared) (σ : L2.St) (v u : Value), Inv X pins σ H s → RelV x v → RelV y u → wpAny (model X.prog X.w) X.A (ex v u) (EP X pins σ Q) X.xe s
/-- .. its result is a new list -/
def B2F (Γ : GX) (ex : Value → Value → Sem Value) (op : Val → Val → Option Val) : Prop := ∀ ⦃sc : Sc⦄ ⦃n : Nat⦄ ⦃X : Cx⦄, Compat Γ sc n X → ∀ {a b r : Val}, op a b = some r → ∀ {F H : Hp}, Same F H → ∀ {x y : V}, TR Γ.K Γ.C F H a x → TR Γ.K Γ.C F H b y →
  ∀ {Q : VK}, (∀ p us vs, r = .lst vs → H p = none → VRs Γ.K Γ.C F vs us → Q (.ref p) (upd H p (.lst us))) → ∀ (pins : List (Addr × Obj)) (s : Shared) (σ : L2.St) (v u : Value), Inv X pins σ H s → RelV x v → RelV y u → wpAny (model X.prog X.w) X.A (ex v u) (EP X pins σ Q) X.xe s
theorem B2.run {ex : Value → Value → Sem Value} {op : Val → Val → Option Val} (hop : B2 Γ ex op) {n : Nat} {X : Cx} (cx : Compat Γ sc n X) : OpR X ex (fun x y H Q => ∃ a b r F, op a b = some r ∧ Same F H ∧ TR Γ.K Γ.C F H a x ∧ TR Γ.K Γ.C F H b y ∧ ∀ u F' H', Grow F H F' H' → VR Γ.K Γ.C F' r u → Q u H') := by
  intro pins s σ H x y v u Q I rx ry h
  obtain ⟨a, b, r, F, ho, sm, ta, tb, q⟩ := h
  exact hop cx ho sm ta tb q pins s σ v u I rx ry
theorem B2F.run {ex : Value → Value → Sem Value} {op : Val → Val → Option Val} (hop : B2F Γ ex op) {n : Nat} {X : Cx} (cx : Compat Γ sc n X) : OpR X ex (fun x y H Q => ∃ a b r F, op a b = some r ∧ Same F H ∧ TR Γ.K Γ.C F H a x ∧ TR Γ.K Γ.C F H b y ∧ ∀ p us vs, r = .lst vs → H p = none → VRs Γ.K Γ.C F vs us → Q (.ref p) (upd H p (.lst us))) := by
  intro pins s σ H x y v u Q I rx ry h
  obtain ⟨a, b, r, F, ho, sm, ta, tb, q⟩ := h
  exact hop cx ho sm ta tb q pins s σ v u I rx ry
theorem sv_bin {o : Operator} {op : Val → Val → Option Val} (hop : B2 Γ (binaryOp o) op) (ha : SV Γ sc a f) (hb : SV Γ sc b g) : SV Γ sc (.BinOp a o b pos) (mBin op f g) := by
  intro n X cx W tk en e σ F H r Q P
  refine je (pe_op (hop.run cx) JE.pe JE.pe) ?_
  refine ha cx tk r (Post.seq P fun v e1 u F1 H1 s1 r1 t1 P1 => hb cx tk r1 (Post.seq P1 fun w e2 u2 F2 H2 s2 r2 t2 P2 => ?_))
  obtain ⟨z, hz, q⟩ := P2.ret
  exact ⟨v, w, z, F2, hz, r2.sub, .inl (t1.mono s2), .inl t2, fun u3 F3 H3 g3 v3 => q u3 F3 H3 g3.ff (r2.grow g3) v3⟩
theorem fresh_new {e : Env} {σ : L2.St} {F H : Hp} {kd : Kds} {en : Ent} {p : Addr} {us : List V} {vs : List Val} (r : Rel Γ.K Γ.C kd en e σ F H) (hp : H p = none) (h : VRs Γ.K Γ.C F vs us) :
    Rel Γ.K Γ.C kd en e σ F (upd H p (.lst us)) ∧ Fresh Γ.K Γ.C kd en e σ F (upd H p (.lst us)) (.lst vs) (.ref p) := by
  refine ⟨r.grow (Grow.allocH r.sub hp), .inr ⟨p, rfl, .lst upd_same h, r.sub.free hp, ?_, fun i w k hi si => ?_⟩⟩
  · cases z : en.H0 p with
    | none => rfl
    | some o => exact absurd hp (r.b3 p (by rw [z]; simp))
  · obtain ⟨u, su, q⟩ := r.own i w k hi
    rw [si] at su; cases su
    rcases q with ⟨s, q⟩ | ⟨a, e1, ow, _⟩
    · exact (scalar_of q s).1 p rfl
    · cases e1; exact ow.there hp
theorem sf_bin {o : Operator} {op : Val → Val → Option Val} (hop : B2F Γ (binaryOp o) op) (ha : SV Γ sc a f) (hb : SV Γ sc b g) : SF Γ sc (.BinOp a o b pos) (mBin op f g) := by
  intro n X cx W tk en e σ F H r Q P
  refine je (pe_op (hop.run cx) JE.pe JE.pe) ?_
  refine ha cx tk r (Post.seq P fun v e1 u F1 H1 s1 r1 t1 P1 => hb cx tk r1 (Post.seq P1 fun w e2 u2 F2 H2 s2 r2 t2 P2 => ?_))
  obtain ⟨z, hz, q⟩ := P2.ret
  refine ⟨v, w, z, F2, hz, r2.sub, .inl (t1.mono s2), .inl t2, fun p us vs ev hp hv => ?_⟩
  subst ev
  obtain ⟨r3, fr⟩ := fresh_new r2 hp hv
  exact q _ F2 _ (Same.refl _) r3 fr
theorem sv_un {o : UnaryOp} {op : Val → Option Val} (hop : ∀ {X : Cx} {F : Hp} {x r : Val} {u : V}, op x = some r → VR Γ.K Γ.C F x u → ∃ rd, UnR X (unaryOp o) rd ∧ ∀ {H : Hp} {Q : VK}, (∀ w, (∀ F, VR Γ.K Γ.C F r w) → Q w H) → rd u H Q)
    (ha : SV Γ sc a f) : SV Γ sc (.UnaryOp o a pos) (mUn op f) := by
  intro n X cx W tk en e σ F H r Q P
  have U : UnR X (unaryOp o) (fun x H Q => ∃ v r F, op v = some r ∧ VR Γ.K Γ.C F v x ∧ ∀ w, (∀ F, VR Γ.K Γ.C F r w) → Q w H) := by
    intro pins s σ H x v Q I rx h
    obtain ⟨v, r, F, ho, hv, q⟩ := h
    obtain ⟨rd, hr, k⟩ := hop (X := X) ho hv
    exact hr pins s σ H x _ Q I rx (k q)
  refine je (pe_un U JE.pe) ?_
  refine ha cx tk r (Post.seq P fun v e1 u F1 H1 s1 r1 t1 P1 => ?_)
  obtain ⟨z, hz, q⟩ := P1.ret
  exact ⟨v, z, F1, hz, t1, fun w hw => q w F1 H1 (Same.refl _) r1 (hw _)⟩
def negV : Val → Option Val
  | .int i => some (.int (-i))
  | _ => none
theorem sv_neg (ha : SV Γ sc a f) : SV Γ sc (.UnaryOp .USub a pos) (mUn negV f) := sv_un (fun {X F x r u} ho hv => by
  refine ⟨_, un_neg, fun {H Q} q => ?_⟩
  cases hv <;> simp [negV] at ho
  subst ho
  exact ⟨_, rfl, q _ fun _ => .int _⟩) ha
end
end CG
end
section
set_option Elab.async false
set_option linter.all false
set_option maxRecDepth 100000
set_option autoImplicit false
/-! CG4: tests, comparisons, displays, subscripts, slices. -/
namespace CG
open PySem PySem.Spec L2
section
variable {Γ : GX} {sc : Sc} {ex a b c : Expr} {f g h : M Val} {pos : Pos} {rest : List Expr}

/-! ### tests, and, or, not -/
theorem Post.asB {kd : Kds} {en : Ent} {σ : L2.St} {F : Hp} {W : WX} {r : R Val} {Q : Bool → Hp → Prop} (P : Post Γ kd en σ F (asB r) TB Q W) : Post Γ kd en σ F r (TV Γ) (fun x H => ∃ k, x = .bl k ∧ Q k H) W := by
  cases r with
  | ok v e =>
    cases v with
    | bl b => intro u F1 H1 s1 r1 t1; cases t1; exact ⟨b, rfl, P b F1 H1 s1 r1 rfl⟩
    | _ => exact P.elim
  | exc c fs e => exact P
  | no => exact P
theorem asB_bind {r : R Val} {g : Bool → Env → R Val} : asB ((asB r).bind g) = (asB r).bind fun b e => asB (g b e) := by
  cases r with
  | ok v e => cases v <;> rfl
  | exc c fs e => rfl
  | no => rfl
theorem asB_ite {c : Bool} {x y : R Val} : asB (if c = true then x else y) = if c = true then asB x else asB y := by cases c <;> rfl
theorem st_val (ha : SV Γ sc a f) (he : ∀ env whole, isTrue a env whole = (do let v ← whole; standAt a.pos; holding [v] (truthy v)) := by intros; rfl) : ST Γ sc a f := by
  intro n X cx W tk en e σ F H r Q P
  exact jt (pt_val JE.pe (he _)) (ha cx tk r P.asB)
theorem SW.st (ha : SW Γ sc a f) : ST Γ sc a f := by
  intro n X cx W tk en e σ F H r Q P
  exact jt (PW.pt JW.pw) (ha cx tk r P)
theorem st_not (ha : ST Γ sc a f) : ST Γ sc (.UnaryOp .Not a pos) (mNot f) := by
  intro n X cx W tk en e σ F H r Q P
  refine jt (pt_not JT.pt) (ha cx tk r ?_)
  unfold mNot at P
  rw [asB_bind] at P
  refine Post.seq P fun v e1 u F1 H1 s1 r1 t1 P1 => ?_
  subst t1
  exact P1 _ F1 H1 (Same.refl _) r1 rfl
theorem sw_and1 (ha : ST Γ sc a f) : SW Γ sc (.BoolOp .And [a] pos) f := by
  intro n X cx W tk en e σ F H r Q P
  exact jw (pw_and1 JT.pt) (ha cx tk r P)
theorem sw_or1 (ha : ST Γ sc a f) : SW Γ sc (.BoolOp .Or [a] pos) f := by
  intro n X cx W tk en e σ F H r Q P
  exact jw (pw_or1 JT.pt) (ha cx tk r P)
theorem sw_and (ha : ST Γ sc a f) (hb : SW Γ sc (.BoolOp .And (b :: rest) pos) g) : SW Γ sc (.BoolOp .And (a :: b :: rest) pos) (mAnd f g) := by
  intro n X cx W tk en e σ F H r Q P
  refine jw (pw_and JT.pt JW.pw) (ha cx tk r ?_)
  unfold mAnd at P
  rw [asB_bind] at P
  refine Post.seq P fun v e1 u F1 H1 s1 r1 t1 P1 => ?_
  subst t1
  rw [asB_ite] at P1
  cases v with
  | true => exact hb cx tk r1 P1
  | false => exact P1 _ F1 H1 (Same.refl _) r1 rfl
theorem sw_or (ha : ST Γ sc a f) (hb : SW Γ sc (.BoolOp .Or (b :: rest) pos) g) : SW Γ sc (.BoolOp .Or (a :: b :: rest) pos) (mOr f g) := by
  intro n X cx W tk en e σ F H r Q P
  refine jw (pw_or JT.pt JW.pw) (ha cx tk r ?_)
  unfold mOr at P
  rw [asB_bind] at P
  refine Post.seq P fun v e1 u F1 H1 s1 r1 t1 P1 => ?_
  subst t1
  rw [asB_ite] at P1
  cases v with
  | true => exact P1 _ F1 H1 (Same.refl _) r1 rfl
  | false => exact hb cx tk r1 P1
/-- .. as values -/
theorem sv_one {op : PySem.BoolOp} (ha : SV Γ sc a f) : SV Γ sc (.BoolOp op [a] pos) f := by
  intro n X cx W tk en e σ F H r Q P
  exact je (pe_one JE.pe) (ha cx tk r P)
theorem Post.asBV {kd : Kds} {en : Ent} {σ : L2.St} {F : Hp} {W : WX} {α β : Type} {r : R Val} {g : Bool → Env → R α} {T : Env → Hp → Hp → α → β → Prop} {Q : β → Hp → Prop} {Q1 : VK} (P : Post Γ kd en σ F ((CG.asB r).bind g) T Q W)
    (h : ∀ (v : Bool) (e1 : Env) (F1 H1 : Hp), Same F F1 → Rel Γ.K Γ.C kd en e1 σ F1 H1 → Post Γ kd en σ F1 (g v e1) T Q W → Q1 (.bl v) H1) : Post Γ kd en σ F r (TV Γ) Q1 W := by
  cases r with
  | ok v e =>
    cases v with
    | bl b => intro u F1 H1 s1 r1 t1; cases t1; exact h b e F1 H1 s1 r1 (Post.mono P s1)
    | _ => exact P.elim
  | exc c fs e => exact P
  | no => exact P
theorem sv_and (ha : SV Γ sc a f) (hb : SV Γ sc (.BoolOp .And (b :: rest) pos) g) : SV Γ sc (.BoolOp .And (a :: b :: rest) pos) (mAnd f g) := by
  intro n X cx W tk en e σ F H r Q P
  refine je (pe_and JE.pe JE.pe) (ha cx tk r (Post.asBV P fun v e1 F1 H1 s1 r1 P1 => ⟨v, rfl, ?_⟩))
  cases v with
  | true => exact hb cx tk r1 P1
  | false => exact P1 _ F1 H1 (Same.refl _) r1 (.bl false)
theorem sv_or (ha : SV Γ sc a f) (hb : SV Γ sc (.BoolOp .Or (b :: rest) pos) g) : SV Γ sc (.BoolOp .Or (a :: b :: rest) pos) (mOr f g) := by
  intro n X cx W tk en e σ F H r Q P
  refine je (pe_or JE.pe JE.pe) (ha cx tk r (Post.asBV P fun v e1 F1 H1 s1 r1 P1 => ⟨v, rfl, ?_⟩))
  cases v with
  | true => exact P1 _ F1 H1 (Same.refl _) r1 (.bl true)
  | false => exact hb cx tk r1 P1
theorem sv_not (ha : SV Γ sc a f) : SV Γ sc (.UnaryOp .Not a pos) (mNot f) := by
  intro n X cx W tk en e σ F H r Q P
  exact je (pe_not JE.pe) (ha cx tk r (Post.asBV P fun v e1 F1 H1 s1 r1 P1 => ⟨v, rfl, P1 _ F1 H1 (Same.refl _) r1 (.bl _)⟩))
theorem sv_if (hc : ST Γ sc c f) (ha : SV Γ sc a g) (hb : SV Γ sc b h) : SV Γ sc (.IfExp c a b pos) (mIf f g h) := by
  intro n X cx W tk en e σ F H r Q P
  refine je (pe_ifExp JT.pt JE.pe JE.pe) (hc cx tk r (Post.seq P fun v e1 u F1 H1 s1 r1 t1 P1 => ?_))
  subst t1
  cases v with
  | true => exact ha cx tk r1 P1
  | false => exact hb cx tk r1 P1
theorem sf_if (hc : ST Γ sc c f) (ha : SF Γ sc a g) (hb : SF Γ sc b h) : SF Γ sc (.IfExp c a b pos) (mIf f g h) := by
  intro n X cx W tk en e σ F H r Q P
  refine je (pe_ifExp JT.pt JE.pe JE.pe) (hc cx tk r (Post.seq P fun v e1 u F1 H1 s1 r1 t1 P1 => ?_))
  subst t1
  cases v with
  | true => exact ha cx tk r1 P1
  | false => exact hb cx tk r1 P1

/-! ### comparisons -/
theorem sv_cmp {o : CmpOp} {op : Val → Val → Option Val} (hop : B2 Γ (compareOp o) op) (ha : SV Γ sc a f) (hb : SV Γ sc b g) (hm : behindInMarks o b = false := by first | exact nomark _ | rfl) : SV Γ sc (.Compare a [o] [b] pos) (mBin op f g) := by
  intro n X cx W tk en e σ F H r Q P
  refine je (pe_cmpR (hop.run cx) JE.pe JE.pe hm) ?_
  refine ha cx tk r (Post.seq P fun v e1 u F1 H1 s1 r1 t1 P1 => hb cx tk r1 (Post.seq P1 fun w e2 u2 F2 H2 s2 r2 t2 P2 => ?_))
  obtain ⟨z, hz, q⟩ := P2.ret
  exact ⟨v, w, z, F2, hz, r2.sub, .inl (t1.mono s2), .inl t2, fun u3 F3 H3 g3 v3 => q u3 F3 H3 g3.ff (r2.grow g3) v3⟩
theorem Post.retB {kd : Kds} {en : Ent} {σ : L2.St} {F : Hp} {W : WX} {o : Option Val} {e : Env} {Q : Bool → Hp → Prop} (P : Post Γ kd en σ F (CG.asB (CG.ret o e)) TB Q W) : ∃ v, o = some v ∧ ∀ u F' H', Same F F' → Rel Γ.K Γ.C kd en e σ F' H' → VR Γ.K Γ.C F' v u → ∃ k, u = .bl k ∧ Q k H' := by
  cases o with
  | none => exact P.elim
  | some v =>
    refine ⟨v, rfl, fun u F1 H1 s1 r1 t1 => ?_⟩
    cases v with
    | bl b => cases t1; exact ⟨b, rfl, P b F1 H1 s1 r1 rfl⟩
    | _ => exact P.elim
theorem asB_bin {op : Val → Val → Option Val} {cl : Cl} {e : Env} : CG.asB (mBin op f g cl e) = (f cl e).bind fun a e1 => (g cl e1).bind fun b e2 => CG.asB (CG.ret (op a b) e2) := by
  unfold mBin
  cases f cl e with
  | ok v e1 =>
    show CG.asB ((g cl e1).bind _) = (g cl e1).bind _
    cases g cl e1 <;> rfl
  | exc c fs e1 => rfl
  | no => rfl
theorem st_cmp {o : CmpOp} {op : Val → Val → Option Val} (hop : B2 Γ (compareOp o) op) (ha : SV Γ sc a f) (hb : SV Γ sc b g) (hm : behindInMarks o b = false := by first | exact nomark _ | rfl) : ST Γ sc (.Compare a [o] [b] pos) (mBin op f g) := by
  intro n X cx W tk en e σ F H r Q P
  rw [asB_bin] at P
  refine jt (pt_cmpR (hop.run cx) JE.pe JE.pe hm) ?_
  refine ha cx tk r (Post.seq P fun v e1 u F1 H1 s1 r1 t1 P1 => hb cx tk r1 (Post.seq P1 fun w e2 u2 F2 H2 s2 r2 t2 P2 => ?_))
  obtain ⟨z, hz, q⟩ := P2.retB
  exact ⟨v, w, z, F2, hz, r2.sub, .inl (t1.mono s2), .inl t2, fun u3 F3 H3 g3 v3 => q u3 F3 H3 g3.ff (r2.grow g3) v3⟩

/-! ### owned slots that are read -/
theorem Rel.tr {kd : Kds} {en : Ent} {e : Env} {σ : L2.St} {F H : Hp} {i : Nat} {v : Val} {u : V} (r : Rel Γ.K Γ.C kd en e σ F H) (k : kdAt kd i ≠ .imm) (h : e[i]? = some (some v)) (hu : σ[i]? = some (some u)) : TR Γ.K Γ.C F H v u := by
  obtain ⟨u', su, q⟩ := r.own i v k h
  rw [hu] at su; cases su
  rcases q with ⟨_, q⟩ | ⟨a, rfl, ow, _⟩
  · exact .inl q
  · refine .inr ⟨a, rfl, ?_⟩
    cases ow with
    | lst h r => exact .lst h r
    | dct h r => exact .dct h r
    | obj c h d n x r => exact .obj c h d n trivial r
/-- an owned slot's name -/
structure SlotN (sc : Sc) (i : Nat) (x : Str) : Prop where
  hN : sc.N[i]? = some x
  hv : sc.names.lookup x = some .local ∨ sc.names.lookup x = some .cell ∨ sc.names.lookup x = some .free
  k : kdAt sc.kd i ≠ .imm
  hd : (x == ("__debug__" : Str)) = false
  hcd : (x == ("__classdict__" : Str)) = false
theorem SlotN.pe {i : Nat} {x : Str} (s : SlotN sc i x) {n : Nat} {X : Cx} (cx : Compat Γ sc n X) : PE X (.Name x pos) (tVar i) := pe_var (by rw [cx.N]; exact s.hN) (cx.vis s.hv) s.hd s.hcd
theorem Post.slot {kd : Kds} {en : Ent} {σ : L2.St} {F : Hp} {W : WX} {α β : Type} {e : Env} {i : Nat} {g : Val → R α} {T : Env → Hp → Hp → α → β → Prop} {Q : β → Hp → Prop} (P : Post Γ kd en σ F (match e[i]? with | some (some v) => g v | _ => .no) T Q W) : ∃ v, e[i]? = some (some v) ∧ Post Γ kd en σ F (g v) T Q W := by
  split at P
  · rename_i v hv; exact ⟨v, hv, P⟩
  · exact P.elim
/-- op of an owned slot and a value reckoned behind it -/
theorem Rel.slotU {kd : Kds} {en : Ent} {e : Env} {σ : L2.St} {F H : Hp} {i : Nat} {v : Val} (r : Rel Γ.K Γ.C kd en e σ F H) (k : kdAt kd i ≠ .imm) (h : e[i]? = some (some v)) : ∃ u, σ[i]? = some (some u) := let ⟨u, s, _⟩ := r.own i v k h; ⟨u, s⟩
theorem binS_post {kd : Kds} {en : Ent} {σ : L2.St} {F : Hp} {W : WX} {op : Val → Val → Option Val} {i : Nat} {cl : Cl} {e : Env} {Q : VK} {u : V} (k : kdAt kd i ≠ .imm) (hu : σ[i]? = some (some u)) (P : Post Γ kd en σ F (mBinS op i g cl e) (TV Γ) Q W) :
    Post Γ kd en σ F (g cl e) (TV Γ) (fun y H2 => ∃ a b r F, op a b = some r ∧ Same F H2 ∧ TR Γ.K Γ.C F H2 a u ∧ TR Γ.K Γ.C F H2 b y ∧ ∀ u F' H', Grow F H2 F' H' → VR Γ.K Γ.C F' r u → Q u H') W := by
  obtain ⟨_, _, P1⟩ := P.slot
  refine Post.seq P1 fun w e2 u2 F2 H2 s2 r2 t2 P2 => ?_
  obtain ⟨v, hv, P3⟩ := P2.slot
  obtain ⟨z, hz, q⟩ := P3.ret
  exact ⟨v, w, z, F2, hz, r2.sub, r2.tr k hv hu, .inl t2, fun u3 F3 H3 g3 v3 => q u3 F3 H3 g3.ff (r2.grow g3) v3⟩
theorem binS_postB {kd : Kds} {en : Ent} {σ : L2.St} {F : Hp} {W : WX} {op : Val → Val → Option Val} {i : Nat} {cl : Cl} {e : Env} {Q : Bool → Hp → Prop} {u : V} (k : kdAt kd i ≠ .imm) (hu : σ[i]? = some (some u)) (P : Post Γ kd en σ F (CG.asB (mBinS op i g cl e)) TB Q W) :
    Post Γ kd en σ F (g cl e) (TV Γ) (fun y H2 => ∃ a b r F, op a b = some r ∧ Same F H2 ∧ TR Γ.K Γ.C F H2 a u ∧ TR Γ.K Γ.C F H2 b y ∧ ∀ u F' H', Grow F H2 F' H' → VR Γ.K Γ.C F' r u → ∃ k, u = .bl k ∧ Q k H') W :=
  binS_post (Q := fun u H' => ∃ k, u = .bl k ∧ Q k H') k hu P.asB
theorem Post.slot0 {kd : Kds} {en : Ent} {σ : L2.St} {F : Hp} {W : WX} {op : Val → Val → Option Val} {i : Nat} {cl : Cl} {e : Env} {Q : VK} (P : Post Γ kd en σ F (mBinS op i g cl e) (TV Γ) Q W) : ∃ v, e[i]? = some (some v) := let ⟨v, h, _⟩ := P.slot; ⟨v, h⟩
/-- op of an owned slot and a value reckoned behind it -/
theorem sv_cmpS {o : CmpOp} {op : Val → Val → Option Val} {i : Nat} {x : Str} {p : Pos} (hop : B2 Γ (compareOp o) op) (s : SlotN sc i x) (hb : SV Γ sc b g) (hm : behindInMarks o b = false := by first | exact nomark _ | rfl) : SV Γ sc (.Compare (.Name x p) [o] [b] pos) (mBinS op i g) := by
  intro n X cx W tk en e σ F H r Q P
  obtain ⟨v, hv⟩ := P.slot0
  obtain ⟨u, hu⟩ := r.slotU s.k hv
  exact je (pe_cmpR (hop.run cx) (s.pe cx) JE.pe hm) ⟨u, hu, hb cx tk r (binS_post s.k hu P)⟩
theorem st_cmpS {o : CmpOp} {op : Val → Val → Option Val} {i : Nat} {x : Str} {p : Pos} (hop : B2 Γ (compareOp o) op) (s : SlotN sc i x) (hb : SV Γ sc b g) (hm : behindInMarks o b = false := by first | exact nomark _ | rfl) : ST Γ sc (.Compare (.Name x p) [o] [b] pos) (mBinS op i g) := by
  intro n X cx W tk en e σ F H r Q P
  obtain ⟨v, hv⟩ := P.asB.slot0
  obtain ⟨u, hu⟩ := r.slotU s.k hv
  exact jt (pt_cmpR (hop.run cx) (s.pe cx) JE.pe hm) ⟨u, hu, hb cx tk r (binS_postB s.k hu P)⟩
theorem binR_post {kd : Kds} {en : Ent} {σ : L2.St} {F : Hp} {W : WX} {op : Val → Val → Option Val} {i : Nat} {cl : Cl} {e : Env} {Q : VK} (k : kdAt kd i ≠ .imm) (P : Post Γ kd en σ F (mBinR op f i cl e) (TV Γ) Q W) :
    Post Γ kd en σ F (f cl e) (TV Γ) (fun x H2 => ∃ u, σ[i]? = some (some u) ∧ ∃ a b r F, op a b = some r ∧ Same F H2 ∧ TR Γ.K Γ.C F H2 a x ∧ TR Γ.K Γ.C F H2 b u ∧ ∀ u F' H', Grow F H2 F' H' → VR Γ.K Γ.C F' r u → Q u H') W := by
  refine Post.seq P fun w e2 u2 F2 H2 s2 r2 t2 P2 => ?_
  obtain ⟨v, hv, P3⟩ := P2.slot
  obtain ⟨z, hz, q⟩ := P3.ret
  obtain ⟨u, hu⟩ := r2.slotU k hv
  exact ⟨u, hu, w, v, z, F2, hz, r2.sub, .inl t2, r2.tr k hv hu, fun u3 F3 H3 g3 v3 => q u3 F3 H3 g3.ff (r2.grow g3) v3⟩
theorem sv_cmpR {o : CmpOp} {op : Val → Val → Option Val} {i : Nat} {x : Str} {p : Pos} (hop : B2 Γ (compareOp o) op) (ha : SV Γ sc a f) (s : SlotN sc i x) (hm : behindInMarks o (.Name x p) = false := by first | exact nomark _ | rfl) : SV Γ sc (.Compare a [o] [.Name x p] pos) (mBinR op f i) := by
  intro n X cx W tk en e σ F H r Q P
  exact je (pe_cmpR (hop.run cx) JE.pe (s.pe cx) hm) (ha cx tk r (binR_post s.k P))
theorem st_cmpR {o : CmpOp} {op : Val → Val → Option Val} {i : Nat} {x : Str} {p : Pos} (hop : B2 Γ (compareOp o) op) (ha : SV Γ sc a f) (s : SlotN sc i x) (hm : behindInMarks o (.Name x p) = false := by first | exact nomark _ | rfl) : ST Γ sc (.Compare a [o] [.Name x p] pos) (mBinR op f i) := by
  intro n X cx W tk en e σ F H r Q P
  exact jt (pt_cmpR (hop.run cx) JE.pe (s.pe cx) hm) (ha cx tk r (binR_post (Q := fun u H' => ∃ k, u = .bl k ∧ Q k H') s.k P.asB))
/-- an owned list and something new -/
theorem sf_binS {o : Operator} {op : Val → Val → Option Val} {i : Nat} {x : Str} {p : Pos} (hop : B2F Γ (binaryOp o) op) (s : SlotN sc i x) (hb : SV Γ sc b g) : SF Γ sc (.BinOp (.Name x p) o b pos) (mBinS op i g) := by
  intro n X cx W tk en e σ F H r Q P
  obtain ⟨v0, hv0, P1⟩ := P.slot
  obtain ⟨u, hu⟩ := r.slotU s.k hv0
  refine je (pe_op (hop.run cx) (s.pe cx) JE.pe) ⟨u, hu, hb cx tk r (Post.seq P1 fun w e2 u2 F2 H2 s2 r2 t2 P2 => ?_)⟩
  obtain ⟨v, hv, P3⟩ := P2.slot
  obtain ⟨z, hz, q⟩ := P3.ret
  refine ⟨v, w, z, F2, hz, r2.sub, r2.tr s.k hv hu, .inl t2, fun p us vs ev hp hw => ?_⟩
  subst ev
  obtain ⟨r3, fr⟩ := fresh_new r2 hp hw
  exact q _ F2 _ (Same.refl _) r3 fr

/-! ### a chain of two comparisons -/
theorem chain_post {kd : Kds} {en : Ent} {σ : L2.St} {F : Hp} {W : WX} {op op' : Val → Val → Option Val} {cl : Cl} {e : Env} {Q : VK} (P : Post Γ kd en σ F (mChain op op' f g h cl e) (TV Γ) Q W) : True := trivial
theorem sv_chain {o o' : CmpOp} {op op' : Val → Val → Option Val} (hop : B2 Γ (compareOp o) op) (hop' : B2 Γ (compareOp o') op') (ha : SV Γ sc a f) (hb : SV Γ sc b g) (hc : SV Γ sc c h)
    (hm : lastMarks [o, o'] [b, c] = false := by with_unfolding_all rfl) : SV Γ sc (.Compare a [o, o'] [b, c] pos) (mChain op op' f g h) := by
  intro n X cx W tk en e σ F H r Q P
  refine je (pe_chain (hop.run cx) (hop'.run cx) JE.pe JE.pe JE.pe hm) ?_
  refine ha cx tk r (Post.seq P fun v e1 u F1 H1 s1 r1 t1 P1 => hb cx tk r1 (Post.seq P1 fun w e2 u2 F2 H2 s2 r2 t2 P2 => ?_))
  cases hv : op v w with
  | none => rw [hv] at P2; exact P2.elim
  | some z =>
    rw [hv] at P2
    cases z with
    | bl k =>
      refine ⟨v, w, _, F2, hv, r2.sub, .inl (t1.mono s2), .inl t2, fun u3 F3 H3 g3 v3 => ?_⟩
      cases v3
      refine ⟨k, rfl, ?_⟩
      have P3 := Post.mono P2 g3.ff
      cases k with
      | true =>
        refine hc cx tk (r2.grow g3) (Post.seq P3 fun w4 e4 u4 F4 H4 s4 r4 t4 P4 => ?_)
        obtain ⟨z, hz, q⟩ := P4.ret
        exact ⟨w, w4, z, F4, hz, r4.sub, .inl ((t2.mono g3.ff).mono s4), .inl t4, fun u5 F5 H5 g5 v5 => q u5 F5 H5 g5.ff (r4.grow g5) v5⟩
      | false => exact P3 _ F3 H3 (Same.refl _) (r2.grow g3) (.bl false)
    | _ => exact P2.elim
theorem st_chain {o o' : CmpOp} {op op' : Val → Val → Option Val} (hop : B2 Γ (compareOp o) op) (hop' : B2 Γ (compareOp o') op') (ha : SV Γ sc a f) (hb : SV Γ sc b g) (hc : SV Γ sc c h)
    (hm : lastMarks [o, o'] [b, c] = false := by with_unfolding_all rfl) : ST Γ sc (.Compare a [o, o'] [b, c] pos) (mChain op op' f g h) := by
  intro n X cx W tk en e σ F H r Q P
  refine jt (pt_chain (hop.run cx) (hop'.run cx) JE.pe JE.pe JE.pe hm) ?_
  have P := P.asB
  refine ha cx tk r (Post.seq P fun v e1 u F1 H1 s1 r1 t1 P1 => hb cx tk r1 (Post.seq P1 fun w e2 u2 F2 H2 s2 r2 t2 P2 => ?_))
  cases hv : op v w with
  | none => rw [hv] at P2; exact P2.elim
  | some z =>
    rw [hv] at P2
    cases z with
    | bl k =>
      refine ⟨v, w, _, F2, hv, r2.sub, .inl (t1.mono s2), .inl t2, fun u3 F3 H3 g3 v3 => ?_⟩
      cases v3
      refine ⟨k, rfl, ?_⟩
      have P3 := Post.mono P2 g3.ff
      cases k with
      | true =>
        refine hc cx tk (r2.grow g3) (Post.seq P3 fun w4 e4 u4 F4 H4 s4 r4 t4 P4 => ?_)
        obtain ⟨z, hz, q⟩ := P4.ret
        exact ⟨w, w4, z, F4, hz, r4.sub, .inl ((t2.mono g3.ff).mono s4), .inl t4, fun u5 F5 H5 g5 v5 => q u5 F5 H5 g5.ff (r4.grow g5) v5⟩
      | false => exact P3 _ F3 H3 (Same.refl _) (r2.grow g3) (.bl false)
    | _ => exact P2.elim

/-! ### displays -/
theorem sl_nil : SL Γ sc [] iNil := by
  intro n X cx W tk en e σ F H r Q P
  exact ja pa_nil (P _ F H (Same.refl _) r .nil)
theorem sl_cons {es : List Expr} {r : M (List Val)} (ha : SV Γ sc a f) (hr : SL Γ sc es r) (hs : ∀ env, starEach (a :: es) env = (false, eval a env) :: starEach es env := by intro _; rfl) : SL Γ sc (a :: es) (iCons f r) := by
  intro n X cx W tk en e σ F H rl Q P
  refine ja (pa_cons JE.pe JA.pa (hs _)) ?_
  refine ha cx tk rl (Post.seq P fun v e1 u F1 H1 s1 r1 t1 P1 => hr cx tk r1 (Post.seq P1 fun w e2 u2 F2 H2 s2 r2 t2 P2 => ?_))
  exact P2 _ F2 H2 (Same.refl _) r2 (.cons (t1.mono s2) t2)
theorem pa_star {X : Cx} {es : List Expr} {te : TE} {t : TA} {p : Pos} (ha : PE X a te) (hr : PA X es t) : PA X (.Starred a p :: es) (fun σ H Q => te σ H fun x H1 => ∃ l xs, x = .ref l ∧ (SqL X.K H1 l xs ∨ SqT X.K H1 l xs) ∧ t σ H1 fun ys H2 => Q (xs ++ ys) H2) := by
  refine ⟨fun pos pins s σ H Q I h => ?_⟩
  refine PySem.W.items_star (thn (ha.run pins s σ H _ I h) fun u s1 ⟨x, H1, I1, rx, l, xs, ex, hs, q⟩ => ?_)
  subst ex
  obtain rfl : u = Value.ref l := rx
  have fin : ∀ {T : String} {o : Obj} {its : Array Value} {k : Nat}, T = "list" ∨ T = "tuple" → s1.heap.get? l = some o → o.cls = .type T → o.data = .seq its k → Vals xs its.toList → its.size ≤ sizeLine →
      PySem.W.StarOf (model X.prog X.w) X.A X.xe (.ref l) (fun here s₂ => wpAny (model X.prog X.w) X.A (spliced (backTo pos (starEach es X.env))) (fun vs s₃ => AP X pins σ Q (here ++ vs) s₃) X.xe s₂) s1 := fun {T o its k} hT ho hc hd rv hz => by
    have hT' : s1.TypeIs (.ref l) T := ⟨o, ho, hc⟩
    have z : wpAny (model X.prog X.w) X.A (collect (.ref l)) (fun here s₂ => wpAny (model X.prog X.w) X.A (spliced (backTo pos (starEach es X.env))) (fun vs s₃ => AP X pins σ Q (here ++ vs) s₃) X.xe s₂) X.xe s1 := by
      refine wpAny_collect_seq l hT ho hc hd (fun h' hk => ?_) hz
      have I2 := I1.kept (t' := s1.toks) hk
      exact thn (hr.run pos pins _ σ H1 _ I2 q) fun us s3 ⟨ys, H3, I3, r3, q3⟩ => ⟨xs ++ ys, H3, I3, rv.append r3, q3⟩
    unfold PySem.W.StarOf notIterableAtAll
    rcases hT with rfl | rfl
    · exact wpAny_bind (wpAny_specialOf hT' PySem.F.slot_list_iter.lookup (wpAny_pure ⟨rfl, z⟩))
    · exact wpAny_bind (wpAny_specialOf hT' PySem.F.slot_tuple_iter.lookup (wpAny_pure ⟨rfl, z⟩))
  rcases hs with hs | hs
  · obtain ⟨its, rv, ⟨o, k, ho, hc, hdn, hd⟩, hz⟩ := I1.list hs
    exact fin (.inl rfl) ho hc hd (by simpa using rv) (by have := rv.length; simp; omega)
  · obtain ⟨its, rv, ⟨o, ho, hc, k, hd⟩, hz⟩ := I1.tuple hs
    exact fin (.inr rfl) ho hc hd (by simpa using rv) (by have := rv.length; simp; omega)
theorem sl_star {es : List Expr} {r : M (List Val)} {p : Pos} (ha : SV Γ sc a f) (hr : SL Γ sc es r) : SL Γ sc (.Starred a p :: es) (iStar f r) := by
  intro n X cx W tk en e σ F H rl Q P
  refine ja (pa_star JE.pe JA.pa) ?_
  refine ha cx tk rl (Post.seq P fun v e1 u F1 H1 s1 r1 t1 P1 => ?_)
  have fin : ∀ {l : Addr} {us : List V} {xs : List Val}, u = .ref l → (SqL X.K H1 l us ∨ SqT X.K H1 l us) → VRs Γ.K Γ.C F1 xs us → itemsOf v = some xs → ∃ l us, u = .ref l ∧ (SqL X.K H1 l us ∨ SqT X.K H1 l us) ∧ JA X es σ H1 fun ys H2 => Q (us ++ ys) H2 := fun {l us xs} e0 hs hv hi => by
    rw [hi] at P1
    exact ⟨l, us, e0, hs, hr cx tk r1 (Post.seq P1 fun w e2 u2 F2 H2 s2 r2 t2 P2 => P2 _ F2 H2 (Same.refl _) r2 ((hv.mono s2).append t2))⟩
  cases t1 with
  | tup hs hv => exact fin rfl (.inr (by rw [cx.K]; exact sqT_mono r1.sub hs)) hv rfl
  | lst hs hv => exact fin rfl (.inl (SqL.of (r1.sub _ _ hs))) hv rfl
  | _ => exact P1.elim
theorem sv_tup {es : List Expr} {r : M (List Val)} {k : Nat} (hr : SL Γ sc es r) : SV Γ sc (.Tuple es k pos) (mTup r) := by
  intro n X cx W tk en e σ F H rl Q P
  refine je (pe_tup JA.pa) (hr cx tk rl (Post.seq P fun w e2 u2 F2 H2 s2 r2 t2 P2 => ?_))
  by_cases hl : w.length ≤ CG.line
  · rw [if_pos hl] at P2
    refine ⟨by rw [t2.length]; exact hl, fun p hp => ?_⟩
    have g := Grow.alloc (o := .tup u2) r2.sub hp
    exact P2 _ _ _ g.ff (r2.grow g) (.tup (SqT.of upd_same) (t2.mono g.ff))
  · rw [if_neg hl] at P2; exact P2.elim
theorem sf_lst {es : List Expr} {r : M (List Val)} (hr : SL Γ sc es r) : SF Γ sc (.List es pos) (mLst r) := by
  intro n X cx W tk en e σ F H rl Q P
  refine je (pe_lst JA.pa) (hr cx tk rl (Post.seq P fun w e2 u2 F2 H2 s2 r2 t2 P2 => ?_))
  by_cases hl : w.length ≤ CG.line
  · rw [if_pos hl] at P2
    refine ⟨by rw [t2.length]; exact hl, fun p hp => ?_⟩
    obtain ⟨r3, fr⟩ := fresh_new r2 hp t2
    exact P2 _ _ _ (Same.refl _) r3 fr
  · rw [if_neg hl] at P2; exact P2.elim
end
end CG
end
section
set_option Elab.async false
set_option linter.all false
set_option maxRecDepth 100000
set_option autoImplicit false
/-! CG5: the operators. -/
namespace CG
open PySem PySem.Spec L2

/-! ### what they do -/
def addV : Val → Val → Option Val
  | .int i, .int j => some (.int (i + j))
  | .str i, .str j => if i.length + j.length ≤ line then some (.str (i ++ j)) else none
  | .tup xs, .tup ys => if xs.length + ys.length ≤ line then some (.tup (xs ++ ys)) else none
  | .lst xs, .lst ys => if xs.length + ys.length ≤ line then some (.lst (xs ++ ys)) else none
  | _, _ => none
def catV : Val → Val → Option Val
  | .lst xs, .lst ys => if xs.length + ys.length ≤ line then some (.lst (xs ++ ys)) else none
  | _, _ => none
def subV : Val → Val → Option Val
  | .int i, .int j => some (.int (i - j))
  | _, _ => none
def in64 (i : Int) : Bool := decide (-18446744073709551616 < i ∧ i < 18446744073709551616)
def repL (xs : List Val) (k : Int) : List Val := (List.replicate k.toNat xs).flatten
def mulV : Val → Val → Option Val
  | .int i, .int j => if in64 i || in64 j then some (.int (i * j)) else none
  | .str s, .int k => if decide (0 ≤ k ∧ k ≤ 1000) && decide (s.length ≤ 1000) then some (.str (Txt.mul s k)) else none
  | .tup xs, .int k => if decide (1 ≤ k ∧ k ≤ 1000) && decide (xs.length ≤ 1000) && !xs.isEmpty then some (.tup (repL xs k)) else none
  | .lst xs, .int k => if small k && decide (xs.length * k.toNat ≤ line) then some (.lst (repL xs k)) else none
  | _, _ => none
def repV : Val → Val → Option Val
  | .lst xs, .int k => if small k && decide (xs.length * k.toNat ≤ line) then some (.lst (repL xs k)) else none
  | _, _ => none
def fdivV : Val → Val → Option Val
  | .int i, .int j => if 0 < j ∧ j < 1073741824 then some (.int (i / j)) else none
  | _, _ => none
def modV : Val → Val → Option Val
  | .int i, .int j => if 0 < j then some (.int (i % j)) else none
  | _, _ => none
def powV : Val → Val → Option Val
  | .int i, .int j => if decide (0 ≤ j ∧ j ≤ 1000) && in64 i then some (.int (i ^ j.toNat)) else none
  | _, _ => none
mutual
def toD : Val → Option PyData
  | .non => some .none
  | .bl b => some (.bool b)
  | .int i => some (.int i)
  | .str s => some (.str s)
  | .tup xs => (toDs xs).map .tuple
  | .lst xs => (toDs xs).map .list
  | .dct _ => none
  | .obj _ _ => none
  | .scr _ => none
def toDs : List Val → Option (List PyData)
  | [] => some []
  | x :: xs => match toD x with
    | some d => (toDs xs).map (d :: ·)
    | none => none
end
def eqD (a b : Val) : Option Bool := match toD a, toD b with
  | some d, some e => if SeqAt.shaped d && SeqAt.shaped e then some (PyData.eqv d e) else none
  | _, _ => none
def eqV (a b : Val) : Option Val := (eqD a b).map .bl
def neV (a b : Val) : Option Val := (eqD a b).map fun k => .bl (!k)
def isNon : Val → Bool
  | .non => true
  | _ => false
def isV (a b : Val) : Option Val := match b with
  | .non => some (.bl (isNon a))
  | _ => none
def isnotV (a b : Val) : Option Val := match b with
  | .non => some (.bl (!isNon a))
  | _ => none
def ltV : Val → Val → Option Val
  | .int i, .int j => some (.bl (decide (i < j)))
  | _, _ => none
def gtV : Val → Val → Option Val
  | .int i, .int j => some (.bl (decide (j < i)))
  | _, _ => none
def geV : Val → Val → Option Val
  | .int i, .int j => some (.bl (decide (j ≤ i)))
  | _, _ => none
def intsOf : List Val → Option (List Int)
  | [] => some []
  | .int i :: r => (intsOf r).map (i :: ·)
  | _ :: _ => none
def lexLe : List Int → List Int → Bool
  | [], _ => true
  | _ :: _, [] => false
  | x :: xs, y :: ys => if x = y then lexLe xs ys else decide (x < y)
def leV : Val → Val → Option Val
  | .int i, .int j => some (.bl (decide (i ≤ j)))
  | .tup xs, .tup ys => match intsOf xs, intsOf ys with
    | some ns, some ms => some (.bl (lexLe ns ms))
    | _, _ => none
  | _, _ => none
/-- x in a list, a tuple (compared as data), a dict by its key -/
def memD (a : Val) (xs : List Val) : Option Bool := match toD a, toDs xs with
  | some d, some ds => if SeqAt.shaped d && SeqAt.shaped (.list ds) then some (ds.any fun z => PyData.eqv z d) else none
  | _, _ => none
def inV (a b : Val) : Option Val := match b with
  | .lst xs => (memD a xs).map .bl
  | .tup xs => (memD a xs).map .bl
  | .dct kvs => (keyOf a).map fun k => .bl (getK kvs k).isSome
  | _ => none
def notinV (a b : Val) : Option Val := match b with
  | .lst xs => (memD a xs).map fun k => .bl (!k)
  | .tup xs => (memD a xs).map fun k => .bl (!k)
  | .dct kvs => (keyOf a).map fun k => .bl (!(getK kvs k).isSome)
  | _ => none

section
variable {Γ : GX}
theorem line_eq : line = sizeLine := rfl
/-! ### the operators are these -/
theorem b2_int {ex : Value → Value → Sem Value} {op : Val → Val → Option Val} {C : Int → Int → Prop} {g : Int → Int → V} {gv : Int → Int → Val} (hr : ∀ X : Cx, OpR X ex (rI C g)) (hop : ∀ {a b r}, op a b = some r → ∃ i j, a = .int i ∧ b = .int j ∧ C i j ∧ r = gv i j)
    (hg : ∀ i j F, VR Γ.K Γ.C F (gv i j) (g i j)) : B2 Γ ex op := by
  intro sc n X cx a b r ho F H sm x y ta tb Q q pins s σ v u I rx ry
  obtain ⟨i, j, rfl, rfl, hc, rfl⟩ := hop ho
  exact hr X pins s σ H x y v u Q I rx ry ⟨i, j, ta.int, tb.int, hc, q _ _ _ (Grow.refl sm) (hg i j F)⟩
theorem rI0_rI {X : Cx} {f : Value → Value → Sem Value} {g : Int → Int → V} (h : OpR X f (rI0 g)) : OpR X f (rI (fun _ _ => True) g) := by
  intro pins s σ H x y v u Q I rx ry hh
  obtain ⟨i, j, e1, e2, _, q⟩ := hh
  exact h pins s σ H x y v u Q I rx ry ⟨i, j, e1, e2, q⟩
theorem b2_sub : B2 Γ (binaryOp .Sub) subV := b2_int (fun _ => rI0_rI op_sub) (by
  intro a b r h; unfold subV at h; split at h
  · cases h; exact ⟨_, _, rfl, rfl, trivial, rfl⟩
  · cases h) fun _ _ _ => .int _
theorem b2_fdiv : B2 Γ (binaryOp .FloorDiv) fdivV := b2_int (C := CDiv) (fun _ => op_fdiv) (by
  intro a b r h; unfold fdivV at h; split at h
  · split at h
    · rename_i hc; cases h; exact ⟨_, _, rfl, rfl, hc, rfl⟩
    · cases h
  · cases h) fun _ _ _ => .int _
theorem b2_mod : B2 Γ (binaryOp .Mod) modV := b2_int (C := fun _ j => 0 < j) (fun _ => op_mod) (by
  intro a b r h; unfold modV at h; split at h
  · split at h
    · rename_i hc; cases h; exact ⟨_, _, rfl, rfl, hc, rfl⟩
    · cases h
  · cases h) fun _ _ _ => .int _
theorem in64_of {i : Int} (h : in64 i = true) : -(2 ^ 64) < i ∧ i < 2 ^ 64 := by
  have := of_decide_eq_true h
  exact this
theorem b2_pow : B2 Γ (binaryOp .Pow) powV := b2_int (C := CPow) (fun _ => op_pow) (by
  intro a b r h; unfold powV at h; split at h
  · split at h
    · rename_i hc; cases h
      simp only [Bool.and_eq_true, decide_eq_true_eq] at hc
      have := in64_of hc.2
      exact ⟨_, _, rfl, rfl, ⟨hc.1.1, by omega, by omega⟩, rfl⟩
    · cases h
  · cases h) fun _ _ _ => .int _
theorem b2_lt : B2 Γ (compareOp .Lt) ltV := b2_int (fun _ => rI0_rI op_lt) (by
  intro a b r h; unfold ltV at h; split at h
  · cases h; exact ⟨_, _, rfl, rfl, trivial, rfl⟩
  · cases h) fun _ _ _ => .bl _
theorem b2_gt : B2 Γ (compareOp .Gt) gtV := b2_int (fun _ => rI0_rI op_gt) (by
  intro a b r h; unfold gtV at h; split at h
  · cases h; exact ⟨_, _, rfl, rfl, trivial, rfl⟩
  · cases h) fun _ _ _ => .bl _
theorem b2_ge : B2 Γ (compareOp .GtE) geV := b2_int (fun _ => rI0_rI op_ge) (by
  intro a b r h; unfold geV at h; split at h
  · cases h; exact ⟨_, _, rfl, rfl, trivial, rfl⟩
  · cases h) fun _ _ _ => .bl _
theorem new_lst {F H : Hp} {xs : List Val} {us : List V} {Q : VK} (sm : Same F H) (h : VRs Γ.K Γ.C F xs us) (q : ∀ u F' H', Grow F H F' H' → VR Γ.K Γ.C F' (.lst xs) u → Q u H') : ∀ p, H p = none → Q (.ref p) (upd H p (.lst us)) := fun p hp =>
  q _ _ _ (Grow.alloc sm hp) (.lst upd_same (h.mono (same_upd (sm.free hp))))
theorem new_tup {F H : Hp} {xs : List Val} {us : List V} {Q : VK} (sm : Same F H) (h : VRs Γ.K Γ.C F xs us) (q : ∀ u F' H', Grow F H F' H' → VR Γ.K Γ.C F' (.tup xs) u → Q u H') : ∀ p, H p = none → Q (.ref p) (upd H p (.tup us)) := fun p hp =>
  q _ _ _ (Grow.alloc sm hp) (.tup (SqT.of upd_same) (h.mono (same_upd (sm.free hp))))
theorem b2f_cat : B2F Γ (binaryOp .Add) catV := by
  intro sc n X cx a b r ho F H sm x y ta tb Q q pins s σ v u I rx ry
  unfold catV at ho
  split at ho
  · split at ho
    · rename_i xs ys hl
      cases ho
      obtain ⟨p1, us, rfl, h1, v1⟩ := ta.lst sm
      obtain ⟨p2, ts, rfl, h2, v2⟩ := tb.lst sm
      exact op_cat pins s σ H _ _ v u Q I rx ry ⟨p1, p2, us, ts, rfl, rfl, h1, h2, by rw [v1.length, v2.length]; exact hl, fun p hp => q p _ _ rfl hp (v1.append v2)⟩
    · cases ho
  · cases ho
theorem TR.tupV {K : PySem.W.Frag} {C : Str → Option Addr} {F H : Hp} {v : Val} {vs : List Val} {u : V} (h : TR K C F H v u) (e : v = .tup vs) : VR K C F v u := by
  subst e
  rcases h with h | ⟨a, rfl, h⟩
  · exact h
  · cases h
theorem b2_add : B2 Γ (binaryOp .Add) addV := by
  intro sc n X cx a b r ho F H sm x y ta tb Q q pins s σ v u I rx ry
  unfold addV at ho
  split at ho
  · cases ho
    exact op_add pins s σ H x y v u Q I rx ry ⟨_, _, ta.int, tb.int, q _ _ _ (Grow.refl sm) (.int _)⟩
  · split at ho
    · rename_i i j hl
      cases ho
      exact op_add_str pins s σ H x y v u Q I rx ry ⟨_, _, ta.str, tb.str, hl, q _ _ _ (Grow.refl sm) (.str _)⟩
    · cases ho
  · split at ho
    · rename_i xs ys hl
      cases ho
      obtain ⟨p1, us, rfl, h1, v1⟩ := ta.tup sm
      obtain ⟨p2, ts, rfl, h2, v2⟩ := tb.tup sm
      refine op_catA pins s σ H _ _ v u Q I rx ry ⟨p1, p2, us, ts, rfl, rfl, by rw [cx.K]; exact h1, by rw [cx.K]; exact h2, by rw [v1.length, v2.length]; exact hl, fun e => ?_, fun _ e => ?_, fun _ _ => new_tup sm (v1.append v2) q⟩
      · subst e
        cases v1
        exact q _ _ _ (Grow.refl sm) (tb.tupV rfl)
      · subst e
        cases v2
        rw [List.append_nil] at q
        exact q _ _ _ (Grow.refl sm) (ta.tupV rfl)
    · cases ho
  · split at ho
    · rename_i xs ys hl
      cases ho
      obtain ⟨p1, us, rfl, h1, v1⟩ := ta.lst sm
      obtain ⟨p2, ts, rfl, h2, v2⟩ := tb.lst sm
      exact op_cat pins s σ H _ _ v u Q I rx ry ⟨p1, p2, us, ts, rfl, rfl, h1, h2, by rw [v1.length, v2.length]; exact hl, new_lst sm (v1.append v2) q⟩
    · cases ho
  · cases ho
theorem b2f_rep : B2F Γ (binaryOp .Mult) repV := by
  intro sc n X cx a b r ho F H sm x y ta tb Q q pins s σ v u I rx ry
  unfold repV at ho
  split at ho
  · split at ho
    · rename_i xs k hl
      cases ho
      obtain ⟨p1, us, rfl, h1, v1⟩ := ta.lst sm
      simp only [Bool.and_eq_true, decide_eq_true_eq, small] at hl
      exact op_rep pins s σ H _ _ v u Q I rx ry ⟨p1, k, us, rfl, tb.int, h1, by omega, by omega, by rw [v1.length]; exact hl.2, fun p hp => q p _ _ rfl hp (v1.rep k.toNat)⟩
    · cases ho
  · cases ho
theorem tuple_mul1 (l : Addr) (items : Array Value) (n : Nat) (dd : Option Addr) (sl : Array (Option Value)) (u : Tok) :
    Meets (Builtin.«tuple.__mul__» ⟨[.ref l, .int 1 u], []⟩) (fun _ R s => s.heap.get? l = some { cls := .type "tuple", dict := dd, data := .seq items n, slots := sl } ∧ R (.ok (.ret (Value.ref l))) s) :=
  .of_wp fun prog w A R s h => by
    obtain ⟨hp, g, d, tk, os⟩ := s
    obtain ⟨hl, h⟩ := h
    have f1 := AutoSeq1.idx_int
    have c1 : (items.isEmpty || (1 : Int) == 1) = true := by simp
    wp_walk using wpAny_loadPart' hl
    exact ⟨_, rfl, h⟩
theorem op_rep1 {X : Cx} : OpR X (binaryOp .Mult) (fun x y H Q => ∃ l xs, x = .ref l ∧ y = .int 1 ∧ SqT X.K H l xs ∧ xs ≠ [] ∧ Q (.ref l) H) := by
  intro pins s σ H x y v u Q I rx ry h
  obtain ⟨l, xs, rfl, rfl, hT, hne, q⟩ := h
  cases rx
  obtain ⟨t, rfl⟩ := ry
  obtain ⟨its, r, ⟨⟨cls, dd, data, sl⟩, ho, hc, n, hd⟩, hs⟩ := I.tuple hT
  simp only at hc hd
  subst hc hd
  exact wpAny_binaryOp_repeat_ref (T := "tuple") (U := "int") (by decide) ⟨_, ho, rfl⟩ (fun s' => typeIs_int s' 1 t) noFill_tuple_mul F.fills_int_mul F.slot_int_rmul repeat_tuple F.slot_int_index.lookup
    (call_meets F.slot_int_rmul (typeIs_int s 1 t) F.entry_int_rmul (F.args_int_rmul_2 _ _) (int_rmul_tuple 1 t l its.toArray n dd sl)
      ⟨ho, rfl, ⟨_, ho, rfl⟩, call_meets F.slot_tuple_mul ⟨_, ho, rfl⟩ F.entry_tuple_mul (F.args_tuple_mul_2 _ _) (tuple_mul1 l its.toArray n dd sl t) ⟨ho, ⟨.ref l, H, I, rfl, q⟩⟩⟩)
theorem b2_mul : B2 Γ (binaryOp .Mult) mulV := by
  intro sc n X cx a b r ho F H sm x y ta tb Q q pins s σ v u I rx ry
  unfold mulV at ho
  split at ho
  · split at ho
    · rename_i i j hc
      cases ho
      have : CMul i j := by
        rcases Bool.or_eq_true_iff.mp hc with h | h
        · exact .inl (in64_of h)
        · exact .inr (in64_of h)
      exact op_mul pins s σ H x y v u Q I rx ry ⟨_, _, ta.int, tb.int, this, q _ _ _ (Grow.refl sm) (.int _)⟩
    · cases ho
  · split at ho
    · rename_i i k hc
      cases ho
      have e1 := ta.str
      have e2 := tb.int
      subst e1; subst e2
      obtain ⟨t1, rfl⟩ := rx
      obtain ⟨t2, rfl⟩ := ry
      simp only [Bool.and_eq_true, decide_eq_true_eq] at hc
      have hk : MulOk i k := by
        refine ⟨by rw [decide_eq_false (by omega), decide_eq_false (by omega)]; rfl, fun h1 h2 h3 => ?_, fun h1 h2 => ?_⟩
        · have h4 : (2 ^ 63 - 1 : Int) / k * k + (2 ^ 63 - 1 : Int) % k = 2 ^ 63 - 1 := Int.ediv_mul_add_emod _ _
          have h5 : (2 ^ 63 - 1 : Int) % k < k := Int.emod_lt_of_pos _ (by omega)
          have h6 : (2 ^ 63 - 1 : Int) / k * k ≤ 1000 * 1000 := by
            rcases Int.le_total 0 ((2 ^ 63 - 1 : Int) / k) with h7 | h7
            · exact Int.mul_le_mul (by omega) hc.1.2 (by omega) (by omega)
            · have := Int.mul_nonneg (a := -((2 ^ 63 - 1 : Int) / k)) (b := k) (by omega) (by omega)
              rw [Int.neg_mul] at this
              omega
          omega
        · have h4 : i.length * k.toNat ≤ 1000 * 1000 := Nat.mul_le_mul hc.2 (by omega)
          unfold Builtin.Str.tooLong
          rw [sizeLine_eq]
          exact decide_eq_false (by omega)
      exact SB.mul hk fun t' k' => ⟨.str _, H, I.tok _, ⟨_, rfl⟩, q _ _ _ (Grow.refl sm) (.str _)⟩
    · cases ho
  · split at ho
    · rename_i xs k hc
      cases ho
      obtain ⟨p1, us, rfl, h1, v1⟩ := ta.tup sm
      simp only [Bool.and_eq_true, decide_eq_true_eq, Bool.not_eq_true', List.isEmpty_eq_false_iff] at hc
      have hne : us ≠ [] := fun e => hc.2 (by subst e; cases v1; rfl)
      by_cases hk : k = 1
      · subst hk
        refine op_rep1 pins s σ H _ y v u Q I rx ry ⟨p1, us, rfl, tb.int, by rw [cx.K]; exact h1, hne, ?_⟩
        have e : repL xs 1 = xs := by simp [repL]
        rw [e] at q
        exact q _ _ _ (Grow.refl sm) (ta.tupV rfl)
      · exact op_repT pins s σ H _ y v u Q I rx ry ⟨p1, k, us, rfl, tb.int, by rw [cx.K]; exact h1, hne, by omega, by omega, by rw [v1.length]; exact hc.1.2, new_tup sm (v1.rep k.toNat) q⟩
    · cases ho
  · split at ho
    · rename_i xs k hl
      cases ho
      obtain ⟨p1, us, rfl, h1, v1⟩ := ta.lst sm
      simp only [Bool.and_eq_true, decide_eq_true_eq, small] at hl
      exact op_rep pins s σ H _ _ v u Q I rx ry ⟨p1, k, us, rfl, tb.int, h1, by omega, by omega, by rw [v1.length]; exact hl.2, new_lst sm (v1.rep k.toNat) q⟩
    · cases ho
  · cases ho

/-! ### data -/
section
variable {K : PySem.W.Frag} {C : Str → Option Addr} {F H : Hp}
mutual
theorem VR.dp (sm : Same F H) : ∀ {v : Val} {u : V} {d : PyData}, VR K C F v u → toD v = some d → Dp K H u d
  | _, _, _, .non, e => by simp only [toD] at e; cases e; exact .non
  | _, _, _, .bl b, e => by simp only [toD] at e; cases e; exact .bl b
  | _, _, _, .int i, e => by simp only [toD] at e; cases e; exact .int i
  | _, _, _, .str x, e => by simp only [toD] at e; cases e; exact .str x
  | _, _, _, .tup h r, e => by
    simp only [toD] at e
    obtain ⟨ds, h1, rfl⟩ := Option.map_eq_some_iff.mp e
    exact .tup (sqT_mono sm h) (VRs.dp sm r h1)
  | _, _, _, .lst h r, e => by
    simp only [toD] at e
    obtain ⟨ds, h1, rfl⟩ := Option.map_eq_some_iff.mp e
    exact .lst (SqL.of (sm _ _ h)) (VRs.dp sm r h1)
  | _, _, _, .dct h r, e => by simp [toD] at e
  | _, _, _, .obj _ _ _ _, e => by simp [toD] at e
  | _, _, _, .scr _, e => by simp [toD] at e
theorem VRs.dp (sm : Same F H) : ∀ {v : List Val} {u : List V} {d : List PyData}, VRs K C F v u → toDs v = some d → DpAll K H u d
  | _, _, _, .nil, e => by simp only [toDs] at e; cases e; exact .nil
  | _, _, _, .cons (v := v) h r, e => by
    simp only [toDs] at e
    cases h1 : toD v with
    | none => rw [h1] at e; cases e
    | some d =>
      rw [h1] at e
      obtain ⟨ds, h2, rfl⟩ := Option.map_eq_some_iff.mp e
      exact .cons (VR.dp sm h h1) (VRs.dp sm r h2)
end
theorem TR.dp (sm : Same F H) {v : Val} {u : V} {d : PyData} (h : TR K C F H v u) (e : toD v = some d) : Dp K H u d := by
  rcases h with h | ⟨a, rfl, h⟩
  · exact h.dp sm e
  · cases h with
    | lst h r =>
      simp only [toD] at e
      obtain ⟨ds, h1, rfl⟩ := Option.map_eq_some_iff.mp e
      exact .lst (SqL.of h) (VRs.dp sm r h1)
    | dct h r => simp [toD] at e
    | obj c h d n x r => simp [toD] at e
end
theorem eqD_of {a b : Val} {k : Bool} (h : eqD a b = some k) : ∃ d e, toD a = some d ∧ toD b = some e ∧ SeqAt.shaped d = true ∧ SeqAt.shaped e = true ∧ k = PyData.eqv d e := by
  unfold eqD at h
  split at h
  · rename_i d e h1 h2
    split at h
    · rename_i hs
      cases h
      exact ⟨d, e, h1, h2, (Bool.and_eq_true_iff.mp hs).1, (Bool.and_eq_true_iff.mp hs).2, rfl⟩
    · cases h
  · cases h
theorem b2_eq : B2 Γ (compareOp .Eq) eqV := by
  intro sc n X cx a b r ho F H sm x y ta tb Q q pins s σ v u I rx ry
  obtain ⟨k, hk, rfl⟩ := Option.map_eq_some_iff.mp ho
  obtain ⟨d, e, h1, h2, s1, s2, rfl⟩ := eqD_of hk
  exact op_eqD cx.room.units pins s σ H x y v u Q I rx ry ⟨d, e, by rw [cx.K]; exact ta.dp sm h1, by rw [cx.K]; exact tb.dp sm h2, s1, s2, q _ _ _ (Grow.refl sm) (.bl _)⟩
theorem b2_ne : B2 Γ (compareOp .NotEq) neV := by
  intro sc n X cx a b r ho F H sm x y ta tb Q q pins s σ v u I rx ry
  obtain ⟨k, hk, rfl⟩ := Option.map_eq_some_iff.mp ho
  obtain ⟨d, e, h1, h2, s1, s2, rfl⟩ := eqD_of hk
  exact op_neD cx.room.units pins s σ H x y v u Q I rx ry ⟨d, e, by rw [cx.K]; exact ta.dp sm h1, by rw [cx.K]; exact tb.dp sm h2, s1, s2, q _ _ _ (Grow.refl sm) (.bl _)⟩
theorem VR.nonV {K : PySem.W.Frag} {C : Str → Option Addr} {F : Hp} {v : Val} {u : V} (h : VR K C F v u) : decide (u = .non) = isNon v := by
  cases h <;> rfl
theorem TR.nonV {K : PySem.W.Frag} {C : Str → Option Addr} {F H : Hp} {v : Val} {u : V} (h : TR K C F H v u) : decide (u = .non) = isNon v := by
  rcases h with h | ⟨a, rfl, h⟩
  · exact h.nonV
  · cases h <;> rfl
theorem b2_is : B2 Γ (compareOp .Is) isV := by
  intro sc n X cx a b r ho F H sm x y ta tb Q q pins s σ v u I rx ry
  unfold isV at ho
  split at ho
  · cases ho
    refine op_isN pins s σ H x y v u Q I rx ry ⟨tb.non, ?_⟩
    rw [ta.nonV]
    exact q _ _ _ (Grow.refl sm) (.bl _)
  · cases ho
theorem b2_isnot : B2 Γ (compareOp .IsNot) isnotV := by
  intro sc n X cx a b r ho F H sm x y ta tb Q q pins s σ v u I rx ry
  unfold isnotV at ho
  split at ho
  · cases ho
    refine op_notN pins s σ H x y v u Q I rx ry ⟨tb.non, ?_⟩
    rw [ta.nonV]
    exact q _ _ _ (Grow.refl sm) (.bl _)
  · cases ho
theorem intsOf_vr {K : PySem.W.Frag} {C : Str → Option Addr} {F : Hp} : ∀ {xs : List Val} {us : List V} {ns : List Int}, VRs K C F xs us → intsOf xs = some ns → us = ns.map V.int
  | [], _, _, .nil, e => by cases e; rfl
  | .int i :: xs, _, _, .cons h r, e => by
    simp only [intsOf] at e
    obtain ⟨ms, h1, rfl⟩ := Option.map_eq_some_iff.mp e
    cases h
    rw [intsOf_vr r h1]; rfl
  | .non :: xs, _, _, _, e => by simp [intsOf] at e
  | .bl _ :: xs, _, _, _, e => by simp [intsOf] at e
  | .str _ :: xs, _, _, _, e => by simp [intsOf] at e
  | .tup _ :: xs, _, _, _, e => by simp [intsOf] at e
  | .lst _ :: xs, _, _, _, e => by simp [intsOf] at e
  | .dct _ :: xs, _, _, _, e => by simp [intsOf] at e
  | .obj _ _ :: xs, _, _, _, e => by simp [intsOf] at e
  | .scr _ :: xs, _, _, _, e => by simp [intsOf] at e
theorem getD_app {l m : List Int} {i : Nat} : (l ++ m).getD (l.length + i) 0 = m.getD i 0 := by
  simp [List.getD_eq_getElem?_getD, List.getElem?_append_right]
theorem lexAt_shift (e r : Nat → Bool) (z : Bool) : ∀ (k i : Nat), Ob.lexAt e r z (i + 1) k = Ob.lexAt (fun j => e (j + 1)) (fun j => r (j + 1)) z i k
  | 0, _ => rfl
  | k + 1, i => by
    rw [Ob.lexAt_succ, Ob.lexAt_succ, lexAt_shift e r z k (i + 1)]
theorem lexLe_at : ∀ (ns ms : List Int), Ob.lexAt (fun j => decide (ns.getD j 0 = ms.getD j 0)) (fun j => decide (ns.getD j 0 ≤ ms.getD j 0)) (decide (ns.length ≤ ms.length)) 0 (min ns.length ms.length) = lexLe ns ms
  | [], ms => by simp [lexLe, Ob.lexAt_zero]
  | n :: ns, [] => by simp [lexLe, Ob.lexAt_zero]
  | n :: ns, m :: ms => by
    have ih := lexLe_at ns ms
    have e : min (n :: ns).length (m :: ms).length = min ns.length ms.length + 1 := by simp only [List.length_cons]; omega
    rw [e, Ob.lexAt_succ, lexAt_shift]
    simp only [List.getD_cons_zero, List.getD_cons_succ, List.length_cons, Nat.add_le_add_iff_right, decide_eq_true_eq]
    rw [ih]
    show _ = if n = m then lexLe ns ms else decide (n < m)
    by_cases h : n = m
    · rw [if_pos h, if_pos h]
    · rw [if_neg h, if_neg h]
      have : (n ≤ m) = (n < m) := by apply propext; omega
      simp only [this]
theorem b2_le : B2 Γ (compareOp .LtE) leV := by
  intro sc n X cx a b r ho F H sm x y ta tb Q q pins s σ v u I rx ry
  unfold leV at ho
  split at ho
  · cases ho
    exact op_le pins s σ H x y v u Q I rx ry ⟨_, _, ta.int, tb.int, q _ _ _ (Grow.refl sm) (.bl _)⟩
  · split at ho
    · rename_i xs ys ns ms h1 h2
      cases ho
      obtain ⟨p1, us, rfl, g1, v1⟩ := ta.tup sm
      obtain ⟨p2, ts, rfl, g2, v2⟩ := tb.tup sm
      have e1 := intsOf_vr v1 h1
      have e2 := intsOf_vr v2 h2
      subst e1; subst e2
      refine op_leT cx.room.units0 pins s σ H _ _ v u Q I rx ry ⟨p1, p2, ns, ms, rfl, rfl, by rw [cx.K]; exact g1, by rw [cx.K]; exact g2, ?_⟩
      rw [lexLe_at ns ms]
      exact q _ _ _ (Grow.refl sm) (.bl _)
    · cases ho
  · cases ho
end
end CG
end
section
set_option Elab.async false
set_option linter.all false
set_option maxRecDepth 100000
set_option autoImplicit false
/-! CG6: in, items, slices, built-ins of one argument. -/
namespace CG
open PySem PySem.Spec L2
section
variable {K : PySem.W.Frag} {C : Str → Option Addr} {F H : Hp}
theorem KRs.get {k : Key} : ∀ {kvs : List (Key × Val)} {kus : List (Key × V)}, KRs K C F kvs kus → (getK kvs k = none ∧ valV kus k = none) ∨ ∃ v u, getK kvs k = some v ∧ valV kus k = some u ∧ VR K C F v u
  | _, _, .nil => .inl ⟨rfl, rfl⟩
  | _, _, .cons (k := q) (v := v) (u := u) (vs := vs) (us := us) h r => by
    by_cases hq : q = k
    · subst hq
      exact .inr ⟨v, u, by simp [getK], by simp [valV], h⟩
    · have e1 : getK ((q, v) :: vs) k = getK vs k := by simp [getK, List.find?_cons, hq]
      have e2 : valV ((q, u) :: us) k = valV us k := valV_neg hq
      rw [e1, e2]
      exact KRs.get r
theorem KRs.length : ∀ {kvs : List (Key × Val)} {kus : List (Key × V)}, KRs K C F kvs kus → kus.length = kvs.length
  | _, _, .nil => rfl
  | _, _, .cons _ r => by simp [KRs.length r]
theorem KRs.any {k : Key} : ∀ {kvs : List (Key × Val)} {kus : List (Key × V)}, KRs K C F kvs kus → (kus.any fun kv => decide (kv.1 = k)) = (kvs.any fun kv => decide (kv.1 = k))
  | _, _, .nil => rfl
  | _, _, .cons _ r => by simp [KRs.any r]
theorem KRs.append : ∀ {kvs lvs : List (Key × Val)} {kus lus : List (Key × V)}, KRs K C F kvs kus → KRs K C F lvs lus → KRs K C F (kvs ++ lvs) (kus ++ lus)
  | _, _, _, _, .nil, s => s
  | _, _, _, _, .cons h r, s => .cons h (KRs.append r s)
theorem KRs.mapPut {k : Key} {v : Val} {u : V} (hv : VR K C F v u) : ∀ {kvs : List (Key × Val)} {kus : List (Key × V)}, KRs K C F kvs kus → KRs K C F (kvs.map fun kv => if kv.1 = k then (kv.1, v) else kv) (kus.map fun kv => if kv.1 = k then (kv.1, u) else kv)
  | _, _, .nil => .nil
  | _, _, .cons (k := q) h r => by
    rw [List.map_cons, List.map_cons]
    by_cases hq : q = k
    · simp only [hq, if_true]; exact .cons hv (KRs.mapPut hv r)
    · simp only [hq, if_false]; exact .cons h (KRs.mapPut hv r)
theorem KRs.put {k : Key} {v : Val} {u : V} (hv : VR K C F v u) {kvs : List (Key × Val)} {kus : List (Key × V)} (h : KRs K C F kvs kus) : KRs K C F (putK kvs k v) (L2.putK kus k u) := by
  unfold putK L2.putK
  rw [h.any (k := k)]
  split
  · exact h.mapPut hv
  · exact h.append (.cons hv .nil)
theorem keyOf_vr {v : Val} {u : V} {k : Key} (h : VR K C F v u) (e : keyOf v = some k) : u = kV k := by
  cases h <;> simp [keyOf] at e <;> subst e <;> rfl
theorem TR.key {v : Val} {u : V} {k : Key} (h : TR K C F H v u) (e : keyOf v = some k) : u = kV k := by
  rcases h with h | ⟨a, rfl, h⟩
  · exact keyOf_vr h e
  · cases h <;> simp [keyOf] at e
end

section
variable {Γ : GX} {sc : Sc} {ex a b c : Expr} {f g h : M Val} {pos : Pos} {rest : List Expr}
theorem memD_of {a : Val} {xs : List Val} {k : Bool} (h : memD a xs = some k) : ∃ d ds, toD a = some d ∧ toDs xs = some ds ∧ SeqAt.shaped d = true ∧ SeqAt.shaped (.list ds) = true ∧ k = ds.any fun z => PyData.eqv z d := by
  unfold memD at h
  split at h
  · rename_i d ds h1 h2
    split at h
    · rename_i hs
      cases h
      exact ⟨d, ds, h1, h2, (Bool.and_eq_true_iff.mp hs).1, (Bool.and_eq_true_iff.mp hs).2, rfl⟩
    · cases h
  · cases h
theorem op_inDT {X : Cx} (hu : X.A.units + 65 < cLine) : OpR X (compareOp .In) (fun x y H Q => ∃ d ds, Dp X.K H x d ∧ Dp X.K H y (.tuple ds) ∧ SeqAt.shaped d = true ∧ SeqAt.shaped (.list ds) = true ∧ Q (.bl (ds.any fun z => PyData.eqv z d)) H) := by
  intro pins s σ H x y v u Q I rx ry h
  obtain ⟨d, ds, hd, he, sd, se, q⟩ := h
  obtain ⟨as, r1⟩ := Dp.reads I d x v hd rx
  obtain ⟨bs, r2⟩ := Dp.reads I (.tuple ds) y u he ry
  exact SeqAt.in_tuple_reads r2 r1 (SeqAt.canLay_of_shaped se) (SeqAt.canLay_of_shaped sd) (PyProof.Rows.room_in_shaped sd hu) ⟨.bl _, H, I, rfl, q⟩
theorem op_notInDT {X : Cx} (hu : X.A.units + 65 < cLine) : OpR X (compareOp .NotIn) (fun x y H Q => ∃ d ds, Dp X.K H x d ∧ Dp X.K H y (.tuple ds) ∧ SeqAt.shaped d = true ∧ SeqAt.shaped (.list ds) = true ∧ Q (.bl (!ds.any fun z => PyData.eqv z d)) H) := by
  intro pins s σ H x y v u Q I rx ry h
  obtain ⟨d, ds, hd, he, sd, se, q⟩ := h
  obtain ⟨as, r1⟩ := Dp.reads I d x v hd rx
  obtain ⟨bs, r2⟩ := Dp.reads I (.tuple ds) y u he ry
  exact SeqAt.notIn_tuple_reads r2 r1 (SeqAt.canLay_of_shaped se) (SeqAt.canLay_of_shaped sd) (PyProof.Rows.room_in_shaped sd hu) ⟨.bl _, H, I, rfl, q⟩
theorem op_inDK {X : Cx} (hu : X.A.units + 1 < cLine) : OpR X (compareOp .In) (fun y x H Q => ∃ a o, x = .ref a ∧ DGet H a y o ∧ Q (.bl o.isSome) H) := by
  intro pins s σ H y x v u Q I ry rx h
  obtain ⟨a, o, rfl, g, q⟩ := h
  obtain rfl : u = Value.ref a := rx
  exact d_in hu I g ry fun s3 I3 => ⟨.bl o.isSome, H, I3, rfl, q⟩
theorem op_notInDK {X : Cx} (hu : X.A.units + 1 < cLine) : OpR X (compareOp .NotIn) (fun y x H Q => ∃ a o, x = .ref a ∧ DGet H a y o ∧ Q (.bl (!o.isSome)) H) := by
  intro pins s σ H y x v u Q I ry rx h
  obtain ⟨a, o, rfl, g, q⟩ := h
  obtain rfl : u = Value.ref a := rx
  exact d_notIn hu I g ry fun s3 I3 => ⟨.bl (!o.isSome), H, I3, rfl, q⟩
theorem un65 {n : Nat} {X : Cx} (cx : Compat Γ sc n X) : X.A.units + 65 < cLine := by have := cx.room.un; omega
theorem un1 {n : Nat} {X : Cx} (cx : Compat Γ sc n X) : X.A.units + 1 < cLine := by have := cx.room.un; omega
theorem b2_in : B2 Γ (compareOp .In) inV := by
  intro sc n X cx a b r ho F H sm x y ta tb Q q pins s σ v u I rx ry
  unfold inV at ho
  split at ho
  · obtain ⟨k, hk, rfl⟩ := Option.map_eq_some_iff.mp ho
    obtain ⟨d, ds, h1, h2, s1, s2, rfl⟩ := memD_of hk
    exact op_inD (un65 cx) pins s σ H x y v u Q I rx ry ⟨d, ds, by rw [cx.K]; exact ta.dp sm h1, by rw [cx.K]; exact tb.dp sm (by simp [toD, h2]), s1, s2, q _ _ _ (Grow.refl sm) (.bl _)⟩
  · obtain ⟨k, hk, rfl⟩ := Option.map_eq_some_iff.mp ho
    obtain ⟨d, ds, h1, h2, s1, s2, rfl⟩ := memD_of hk
    exact op_inDT (un65 cx) pins s σ H x y v u Q I rx ry ⟨d, ds, by rw [cx.K]; exact ta.dp sm h1, by rw [cx.K]; exact tb.dp sm (by simp [toD, h2]), s1, s2, q _ _ _ (Grow.refl sm) (.bl _)⟩
  · obtain ⟨k, hk, rfl⟩ := Option.map_eq_some_iff.mp ho
    have ex := ta.key hk
    subst ex
    obtain ⟨p, us, rfl, hd, hv⟩ := tb.dct sm
    refine op_inDK (un1 cx) pins s σ H _ _ v u Q I rx ry ⟨p, _, rfl, DGet.k hd, ?_⟩
    rcases hv.get (k := k) with ⟨e1, e2⟩ | ⟨w, w', e1, e2, _⟩
    · rw [e1] at q; rw [e2]; exact q _ _ _ (Grow.refl sm) (.bl _)
    · rw [e1] at q; rw [e2]; exact q _ _ _ (Grow.refl sm) (.bl _)
  · cases ho
theorem b2_notin : B2 Γ (compareOp .NotIn) notinV := by
  intro sc n X cx a b r ho F H sm x y ta tb Q q pins s σ v u I rx ry
  unfold notinV at ho
  split at ho
  · obtain ⟨k, hk, rfl⟩ := Option.map_eq_some_iff.mp ho
    obtain ⟨d, ds, h1, h2, s1, s2, rfl⟩ := memD_of hk
    exact op_notInD (un65 cx) pins s σ H x y v u Q I rx ry ⟨d, ds, by rw [cx.K]; exact ta.dp sm h1, by rw [cx.K]; exact tb.dp sm (by simp [toD, h2]), s1, s2, q _ _ _ (Grow.refl sm) (.bl _)⟩
  · obtain ⟨k, hk, rfl⟩ := Option.map_eq_some_iff.mp ho
    obtain ⟨d, ds, h1, h2, s1, s2, rfl⟩ := memD_of hk
    exact op_notInDT (un65 cx) pins s σ H x y v u Q I rx ry ⟨d, ds, by rw [cx.K]; exact ta.dp sm h1, by rw [cx.K]; exact tb.dp sm (by simp [toD, h2]), s1, s2, q _ _ _ (Grow.refl sm) (.bl _)⟩
  · obtain ⟨k, hk, rfl⟩ := Option.map_eq_some_iff.mp ho
    have ex := ta.key hk
    subst ex
    obtain ⟨p, us, rfl, hd, hv⟩ := tb.dct sm
    refine op_notInDK (un1 cx) pins s σ H _ _ v u Q I rx ry ⟨p, _, rfl, DGet.k hd, ?_⟩
    rcases hv.get (k := k) with ⟨e1, e2⟩ | ⟨w, w', e1, e2, _⟩
    · rw [e1] at q; rw [e2]; exact q _ _ _ (Grow.refl sm) (.bl _)
    · rw [e1] at q; rw [e2]; exact q _ _ _ (Grow.refl sm) (.bl _)
  · cases ho

/-! ### items -/
def itemV : Val → Val → Option Val
  | .lst xs, .int i => atI xs i
  | .tup xs, .int i => atI xs i
  | .dct kvs, k => (keyOf k).bind (getK kvs)
  | _, _ => none
theorem VRs.atI {K : PySem.W.Frag} {C : Str → Option Addr} {F : Hp} {vs : List Val} {us : List V} {i : Int} {v : Val} (h : VRs K C F vs us) (e : L2.atI vs i = some v) : ∃ u, L2.atI us i = some u ∧ VR K C F v u := by
  unfold L2.atI at e ⊢
  rw [h.length]
  cases hj : ixN vs.length i with
  | none => rw [hj] at e; cases e
  | some j => rw [hj] at e; exact h.get e
theorem ix_ok {n : Nat} {X : Cx} (cx : Compat Γ sc n X) : IxR X (fun x y H Q => ∃ a b r F, itemV a b = some r ∧ Same F H ∧ TR Γ.K Γ.C F H a x ∧ VR Γ.K Γ.C F b y ∧ ∀ u, VR Γ.K Γ.C F r u → Q u H) := by
  intro value slice pins s σ H x y v u Q I rx ry h hs
  obtain ⟨a, b, r, F, ho, sm, ta, tb, q⟩ := h
  unfold itemV at ho
  split at ho
  · cases tb
    obtain ⟨p, us, rfl, h1, v1⟩ := ta.lst sm
    obtain ⟨w, hw, vw⟩ := v1.atI ho
    exact ix_list value slice pins s σ H _ _ v u Q I rx ry ⟨p, us, _, w, rfl, rfl, SqL.of h1, hw, q w vw⟩ hs
  · cases tb
    obtain ⟨p, us, rfl, h1, v1⟩ := ta.tup sm
    obtain ⟨w, hw, vw⟩ := v1.atI ho
    exact ix_tup value slice pins s σ H _ _ v u Q I rx ry ⟨p, us, _, w, rfl, rfl, by rw [cx.K]; exact h1, hw, q w vw⟩ hs
  · rename_i kvs
    cases hk : keyOf b with
    | none => rw [hk] at ho; cases ho
    | some k =>
      rw [hk] at ho
      have ey := keyOf_vr tb hk
      subst ey
      obtain ⟨p, us, rfl, h1, v1⟩ := ta.dct sm
      obtain rfl : v = Value.ref p := rx
      rcases v1.get (k := k) with ⟨e1, _⟩ | ⟨w, w', e1, e2, vw⟩
      · have ho' : getK kvs k = some r := ho
        rw [e1] at ho'; cases ho'
      · have ho' : getK kvs k = some r := ho
        rw [e1] at ho'; cases ho'
        have gd : DGet H p (kV k) (some w') := by rw [← e2]; exact DGet.k h1
        unfold PyProof.Rows.subscriptTail
        have hT := dict_typeIs I gd
        refine wpAny_bind ?_
        rw [getitemInPython_of_ne hT.not_modules]
        refine wpAny_bind (wpAny_specialOf hT PySem.F.slot_dict_getitem.lookup ?_)
        have fin : wpAny (model X.prog X.w) X.A (subscripted slice false (.ref p) u) (fun r s₃ => wpAny (model X.prog X.w) X.A (letTemporaryGo value (.ref p) r >>= fun _ => pure r) (EP X pins σ Q) X.xe s₃) X.xe s := by
          rw [hs]
          exact wpAny_operating (d_getItem (un1 cx) I gd ry fun w2 s3 I3 r3 => wpAny_bind (wpAny_letTemporaryGo (wpAny_pure ⟨w', H, I3, r3, q w' vw⟩)))
        first
          | exact wpAny_pure (wpAny_bind fin)
          | exact wpAny_bind (wpAny_pure (wpAny_bind fin))
          | exact wpAny_bind fin
  · cases ho
theorem sv_sub (ha : SV Γ sc a f) (hb : SV Γ sc b g) (hs : PlainIx b := by intro _ _; rfl) : SV Γ sc (.Subscript a b pos) (mBin itemV f g) := by
  intro n X cx W tk en e σ F H r Q P
  refine je (pe_ix (ix_ok cx) JE.pe JE.pe hs) ?_
  refine ha cx tk r (Post.seq P fun v e1 u F1 H1 s1 r1 t1 P1 => hb cx tk r1 (Post.seq P1 fun w e2 u2 F2 H2 s2 r2 t2 P2 => ?_))
  obtain ⟨z, hz, q⟩ := P2.ret
  exact ⟨v, w, z, F2, hz, r2.sub, .inl (t1.mono s2), t2, fun u3 v3 => q u3 F2 H2 (Same.refl _) r2 v3⟩
theorem sv_subS {i : Nat} {x : Str} {p : Pos} (s : SlotN sc i x) (hb : SV Γ sc b g) (hs : PlainIx b := by intro _ _; rfl) : SV Γ sc (.Subscript (.Name x p) b pos) (mBinS itemV i g) := by
  intro n X cx W tk en e σ F H r Q P
  obtain ⟨v0, hv0, P1⟩ := P.slot
  obtain ⟨u, hu⟩ := r.slotU s.k hv0
  refine je (pe_ix (ix_ok cx) (s.pe cx) JE.pe hs) ⟨u, hu, hb cx tk r (Post.seq P1 fun w e2 u2 F2 H2 s2 r2 t2 P2 => ?_)⟩
  obtain ⟨v, hv, P3⟩ := P2.slot
  obtain ⟨z, hz, q⟩ := P3.ret
  exact ⟨v, w, z, F2, hz, r2.sub, r2.tr s.k hv hu, t2, fun u3 v3 => q u3 F2 H2 (Same.refl _) r2 v3⟩

/-! ### slices -/
def cutL (xs : List Val) (lo hi : Option Int) : List Val := (xs.drop (HT.sIx xs.length 0 lo)).take (HT.sIx xs.length xs.length hi - HT.sIx xs.length 0 lo)
theorem VRs.cut {K : PySem.W.Frag} {C : Str → Option Addr} {F : Hp} {vs : List Val} {us : List V} (h : VRs K C F vs us) (lo hi : Option Int) : VRs K C F (cutL vs lo hi) (cutV us lo hi) := by
  unfold cutL cutV
  rw [h.length]
  exact (h.drop _).take _
def sliceV : Val → Option Int → Option Int → Option Val
  | .lst xs, lo, hi => some (.lst (cutL xs lo hi))
  | .tup xs, lo, hi => some (.tup (cutL xs lo hi))
  | _, _, _ => none
theorem cutL_all {xs : List Val} {lo hi : Option Int} (h : HT.sIx xs.length 0 lo = 0 ∧ HT.sIx xs.length xs.length hi = xs.length) : cutL xs lo hi = xs := by
  unfold cutL; rw [h.1, h.2]; simp
theorem sl_ok {n : Nat} {X : Cx} (cx : Compat Γ sc n X) : SlR X (fun x lo hi H Q => ∃ a r F, sliceV a lo hi = some r ∧ Same F H ∧ TR Γ.K Γ.C F H a x ∧ ∀ u F' H', Grow F H F' H' → VR Γ.K Γ.C F' r u → Q u H') := by
  intro pins s σ H x v vl vu lo hi sl Q I rx hs pl pu h
  obtain ⟨a, r, F, ho, sm, ta, q⟩ := h
  unfold sliceV at ho
  split at ho
  · cases ho
    obtain ⟨p, us, rfl, h1, v1⟩ := ta.lst sm
    exact sl_list pins s σ H _ v vl vu lo hi sl Q I rx hs pl pu ⟨p, us, rfl, SqL.of h1, new_lst sm (v1.cut lo hi) q⟩
  · cases ho
    obtain ⟨p, us, rfl, h1, v1⟩ := ta.tup sm
    refine sl_tupA pins s σ H _ v vl vu lo hi sl Q I rx hs pl pu ⟨p, us, rfl, by rw [cx.K]; exact h1, fun e => ?_, fun _ => new_tup sm (v1.cut lo hi) q⟩
    rw [v1.length] at e
    rw [cutL_all e] at q
    exact q _ _ _ (Grow.refl sm) (ta.tupV rfl)
  · cases ho
/-- a slice's part -/
def SO (Γ : GX) (sc : Sc) (ex : Option Expr) (f : M (Option Int)) : Prop := ∀ ⦃n : Nat⦄ ⦃X : Cx⦄, Compat Γ sc n X → ∀ {W : WX}, Takes X W → ∀ {en : Ent} {e : Env} {σ : L2.St} {F H : Hp}, Rel Γ.K Γ.C sc.kd en e σ F H →
  ∃ t : TO, PO X ex t ∧ ∀ {Q : Option Int → Hp → Prop}, Post Γ sc.kd en σ F (f (callN Γ.G n) e) (fun _ _ _ o o' => o = o') Q W → t σ H Q
theorem so_none : SO Γ sc none oNone := by
  intro n X cx W tk en e σ F H r
  exact ⟨_, po_none, fun P => P none F H (Same.refl _) r rfl⟩
theorem so_some (ha : SV Γ sc a f) : SO Γ sc (some a) (oSome f) := by
  intro n X cx W tk en e σ F H r
  refine ⟨_, po_some JE.pe, fun {Q} P => ha cx tk r (Post.seq P fun v e1 u F1 H1 s1 r1 t1 P1 => ?_)⟩
  cases t1 with
  | int i => exact ⟨i, rfl, P1 _ F1 H1 (Same.refl _) r1 rfl⟩
  | _ => exact P1.elim
def TP (Γ : GX) (sc : Sc) (n : Nat) (X : Cx) (W : WX) (en : Ent) (σ : L2.St) (f : M (Option Int)) : TO := fun σ' H Q => ∃ e F, σ' = σ ∧ Rel Γ.K Γ.C sc.kd en e σ F H ∧ Post Γ sc.kd en σ F (f (callN Γ.G n) e) (fun _ _ _ o o' => o = o') Q W
theorem SO.po {lo : Option Expr} {f : M (Option Int)} (hl : SO Γ sc lo f) {n : Nat} {X : Cx} (cx : Compat Γ sc n X) {W : WX} (tk : Takes X W) {en : Ent} {σ : L2.St} : PO X lo (TP Γ sc n X W en σ f) := by
  refine ⟨fun pins s σ' H Q I h => ?_⟩
  obtain ⟨e, F, rfl, r, P⟩ := h
  obtain ⟨t, ht, q⟩ := hl cx tk r
  exact ht.run pins s σ' H Q I (q P)
theorem sv_slice {lo hi : Option Expr} {fl fh : M (Option Int)} {p2 : Pos} (ha : SV Γ sc a f) (hl : SO Γ sc lo fl) (hh : SO Γ sc hi fh) : SV Γ sc (.Subscript a (.Slice lo hi none p2) pos) (mSlice sliceV f fl fh) := by
  intro n X cx W tk en e σ F H r Q P
  refine je (pe_slice (sl_ok cx) JE.pe (hl.po cx tk (en := en) (σ := σ)) (hh.po cx tk (en := en) (σ := σ))) ?_
  refine ha cx tk r (Post.seq P fun v e1 u F1 H1 s1 r1 t1 P1 => ⟨e1, F1, rfl, r1, Post.seq P1 fun l e2 l' F2 H2 s2 r2 t2 P2 => ⟨e2, F2, rfl, r2, Post.seq P2 fun h e3 h' F3 H3 s3 r3 t3 P3 => ?_⟩⟩)
  subst t2; subst t3
  obtain ⟨z, hz, q⟩ := P3.ret
  exact ⟨v, z, F3, hz, r3.sub, .inl ((t1.mono s2).mono s3), fun u4 F4 H4 g4 v4 => q u4 F4 H4 g4.ff (r3.grow g4) v4⟩
end
end CG
end
section
set_option Elab.async false
set_option linter.all false
set_option maxRecDepth 100000
set_option autoImplicit false
/-! CG7: built-ins. -/
namespace CG
open PySem PySem.Spec L2
section
variable {Γ : GX} {sc : Sc} {ex a b c : Expr} {f g h : M Val} {pos p : Pos} {rest : List Expr}
inductive TRs (K : PySem.W.Frag) (C : Str → Option Addr) (F H : Hp) : List Val → List V → Prop
  | nil : TRs K C F H [] []
  | cons {v : Val} {u : V} {vs : List Val} {us : List V} : TR K C F H v u → TRs K C F H vs us → TRs K C F H (v :: vs) (u :: us)
theorem VRs.trs {K : PySem.W.Frag} {C : Str → Option Addr} {F H : Hp} : ∀ {vs : List Val} {us : List V}, VRs K C F vs us → TRs K C F H vs us
  | _, _, .nil => .nil
  | _, _, .cons h r => .cons (.inl h) (VRs.trs r)
/-- a built-in called with values: what it gives is frozen -/
def CN (Γ : GX) (fv : Value) (op : List Val → Option Val) : Prop := ∀ ⦃sc : Sc⦄ ⦃n : Nat⦄ ⦃X : Cx⦄, Compat Γ sc n X → ∀ {vs : List Val} {r : Val}, op vs = some r → ∀ {F H : Hp}, Same F H → ∀ {xs : List V}, TRs Γ.K Γ.C F H vs xs →
  ∀ {Q : VK}, (∀ u F' H', Grow F H F' H' → VR Γ.K Γ.C F' r u → Q u H') → ∀ (pins : List (Addr × Obj)) (s : Shared) (σ : L2.St) (us : List Value), Inv X pins σ H s → Vals xs us → wpAny (model X.prog X.w) X.A (call fv us) (EP X pins σ Q) X.xe s
/-- .. a new list -/
def CNF (Γ : GX) (fv : Value) (op : List Val → Option Val) : Prop := ∀ ⦃sc : Sc⦄ ⦃n : Nat⦄ ⦃X : Cx⦄, Compat Γ sc n X → ∀ {vs : List Val} {r : Val}, op vs = some r → ∀ {F H : Hp}, Same F H → ∀ {xs : List V}, TRs Γ.K Γ.C F H vs xs →
  ∀ {Q : VK}, (∀ p us vs, r = .lst vs → H p = none → VRs Γ.K Γ.C F vs us → Q (.ref p) (upd H p (.lst us))) → ∀ (pins : List (Addr × Obj)) (s : Shared) (σ : L2.St) (us : List Value), Inv X pins σ H s → Vals xs us → wpAny (model X.prog X.w) X.A (call fv us) (EP X pins σ Q) X.xe s
theorem CNF.cn {fv : Value} {op : List Val → Option Val} (h : CNF Γ fv op) (hl : ∀ {vs r}, op vs = some r → ∃ ws, r = .lst ws) : CN Γ fv op := by
  intro sc n X cx vs r ho F H sm xs tr Q q pins s σ us I rv
  refine h cx ho sm tr (fun p ws vs' e hp hv => ?_) pins s σ us I rv
  subst e
  exact new_lst sm hv q p hp
def CRd (Γ : GX) (X : Cx) (op : List Val → Option Val) : List V → Hp → VK → Prop := fun xs H Q => ∃ vs r F, op vs = some r ∧ Same F H ∧ TRs Γ.K Γ.C F H vs xs ∧ ∀ u F' H', Grow F H F' H' → VR Γ.K Γ.C F' r u → Q u H'
def CRdF (Γ : GX) (X : Cx) (op : List Val → Option Val) : List V → Hp → VK → Prop := fun xs H Q => ∃ vs r F, op vs = some r ∧ Same F H ∧ TRs Γ.K Γ.C F H vs xs ∧ ∀ p us vs, r = .lst vs → H p = none → VRs Γ.K Γ.C F vs us → Q (.ref p) (upd H p (.lst us))
theorem CN.run {fv : Value} {op : List Val → Option Val} (hop : CN Γ fv op) {n : Nat} {X : Cx} (cx : Compat Γ sc n X) : CallR X fv (CRd Γ X op) := by
  intro pins s σ H xs us Q I r h
  obtain ⟨vs, r', F, ho, sm, tr, q⟩ := h
  exact hop cx ho sm tr q pins s σ us I r
theorem CNF.run {fv : Value} {op : List Val → Option Val} (hop : CNF Γ fv op) {n : Nat} {X : Cx} (cx : Compat Γ sc n X) : CallR X fv (CRdF Γ X op) := by
  intro pins s σ H xs us Q I r h
  obtain ⟨vs, r', F, ho, sm, tr, q⟩ := h
  exact hop cx ho sm tr q pins s σ us I r
/-- a built-in's name -/
structure BlN (sc : Sc) (x : Str) (v : Value) : Prop where
  hg : sc.names.lookup x = some .globalImplicit
  hb : x ∈ blNames
  hv : bootBuiltins x = some v
  hn : x ≠ "__name__"
  hd : (x == ("__debug__" : Str)) = false
theorem pe_callV {X : Cx} {fv : Value} {r : List V → Hp → VK → Prop} {x : Str} {e : Expr} {es : List Expr} {t : TA} (hf : (∃ id, fv = .builtin id) ∨ ∃ T, fv = .type T) (hc : CallR X fv r) (hg : Gl X x) (hm : X.mg x = none) (hv : bootBuiltins x = some fv) (ha : PA X (e :: es) t) (hn : x ≠ "__name__") (hdb : (x == ("__debug__" : Str)) = false)
    (hs : starEach (e :: es) X.env = (false, eval e X.env) :: starEach es X.env) (hpl : (backTo pos (starEach es X.env)).any (·.1) = false) : PE X (.Call (.Name x p) (e :: es) [] pos) (tCB r t) := by
  rcases hf with ⟨id, rfl⟩ | ⟨T, rfl⟩
  · exact pe_callB hc hg hm hv ha hn hdb hs hpl
  · exact pe_callTy hc hg hm hv ha hn hdb hs hpl
def mCallB (op : List Val → Option Val) (r : M (List Val)) : M Val := fun cl e => (r cl e).bind fun vs e1 => ret (op vs) e1
theorem sv_callB {fv : Value} {op : List Val → Option Val} {x : Str} {es : List Expr} {r : M (List Val)} (hop : CN Γ fv op) (hf : (∃ id, fv = .builtin id) ∨ ∃ T, fv = .type T) (bn : BlN sc x fv) (ha : SL Γ sc (a :: es) r)
    (hs : ∀ env, starEach (a :: es) env = (false, eval a env) :: starEach es env := by intro _; rfl) (hpl : ∀ env, (backTo pos (starEach es env)).any (·.1) = false := by intro _; rfl) : SV Γ sc (.Call (.Name x p) (a :: es) [] pos) (mCallB op r) := by
  intro n X cx W tk en e σ F H rl Q P
  refine je (pe_callV hf (hop.run cx) (cx.gl bn.hg) (by rw [cx.mg]; exact cx.nb _ bn.hb) bn.hv JA.pa bn.hn bn.hd (hs _) (hpl _)) ?_
  refine ha cx tk rl (Post.seq P fun w e2 u2 F2 H2 s2 r2 t2 P2 => ?_)
  obtain ⟨z, hz, q⟩ := P2.ret
  exact ⟨w, z, F2, hz, r2.sub, t2.trs, fun u3 F3 H3 g3 v3 => q u3 F3 H3 g3.ff (r2.grow g3) v3⟩
theorem sf_callB {fv : Value} {op : List Val → Option Val} {x : Str} {es : List Expr} {r : M (List Val)} (hop : CNF Γ fv op) (hl : ∀ {vs r}, op vs = some r → ∃ ws, r = .lst ws) (hf : (∃ id, fv = .builtin id) ∨ ∃ T, fv = .type T) (bn : BlN sc x fv) (ha : SL Γ sc (a :: es) r)
    (hs : ∀ env, starEach (a :: es) env = (false, eval a env) :: starEach es env := by intro _; rfl) (hpl : ∀ env, (backTo pos (starEach es env)).any (·.1) = false := by intro _; rfl) : SF Γ sc (.Call (.Name x p) (a :: es) [] pos) (mCallB op r) := by
  intro n X cx W tk en e σ F H rl Q P
  refine je (pe_callV hf (hop.run cx) (cx.gl bn.hg) (by rw [cx.mg]; exact cx.nb _ bn.hb) bn.hv JA.pa bn.hn bn.hd (hs _) (hpl _)) ?_
  refine ha cx tk rl (Post.seq P fun w e2 u2 F2 H2 s2 r2 t2 P2 => ?_)
  obtain ⟨z, hz, q⟩ := P2.ret
  refine ⟨w, z, F2, hz, r2.sub, t2.trs, fun p us vs ev hp hv => ?_⟩
  subst ev
  obtain ⟨r3, fr⟩ := fresh_new r2 hp hv
  exact q _ F2 _ (Same.refl _) r3 fr
/-- one argument -/
def op1 (op : Val → Option Val) : List Val → Option Val
  | [v] => op v
  | _ => none
/-- .. an owned slot -/
theorem sv_callBS {fv : Value} {op : Val → Option Val} {x y : Str} {i : Nat} {p2 : Pos} (hop : CN Γ fv (op1 op)) (hf : (∃ id, fv = .builtin id) ∨ ∃ T, fv = .type T) (bn : BlN sc x fv) (s : SlotN sc i y) : SV Γ sc (.Call (.Name x p) [.Name y p2] [] pos) (mUnS op i) := by
  intro n X cx W tk en e σ F H rl Q P
  refine je (pe_callV hf (hop.run cx) (cx.gl bn.hg) (by rw [cx.mg]; exact cx.nb _ bn.hb) bn.hv (pa_cons (s.pe cx) pa_nil) bn.hn bn.hd rfl rfl) ?_
  obtain ⟨v, hv, P1⟩ := P.slot
  obtain ⟨z, hz, q⟩ := P1.ret
  obtain ⟨u, hu⟩ := rl.slotU s.k hv
  exact ⟨u, hu, [v], z, F, hz, rl.sub, .cons (rl.tr s.k hv hu) .nil, fun u3 F3 H3 g3 v3 => q u3 F3 H3 g3.ff (rl.grow g3) v3⟩
theorem sf_callBS {fv : Value} {op : Val → Option Val} {x y : Str} {i : Nat} {p2 : Pos} (hop : CNF Γ fv (op1 op)) (hf : (∃ id, fv = .builtin id) ∨ ∃ T, fv = .type T) (bn : BlN sc x fv) (s : SlotN sc i y) : SF Γ sc (.Call (.Name x p) [.Name y p2] [] pos) (mUnS op i) := by
  intro n X cx W tk en e σ F H rl Q P
  refine je (pe_callV hf (hop.run cx) (cx.gl bn.hg) (by rw [cx.mg]; exact cx.nb _ bn.hb) bn.hv (pa_cons (s.pe cx) pa_nil) bn.hn bn.hd rfl rfl) ?_
  obtain ⟨v, hv, P1⟩ := P.slot
  obtain ⟨z, hz, q⟩ := P1.ret
  obtain ⟨u, hu⟩ := rl.slotU s.k hv
  refine ⟨u, hu, [v], z, F, hz, rl.sub, .cons (rl.tr s.k hv hu) .nil, fun p us vs ev hp hw => ?_⟩
  subst ev
  obtain ⟨r3, fr⟩ := fresh_new rl hp hw
  exact q _ F _ (Same.refl _) r3 fr
theorem TRs.one {K : PySem.W.Frag} {C : Str → Option Addr} {F H : Hp} {v : Val} {xs : List V} (h : TRs K C F H [v] xs) : ∃ u, xs = [u] ∧ TR K C F H v u := by
  cases h with | cons h r => cases r; exact ⟨_, rfl, h⟩
theorem op1_some {op : Val → Option Val} {vs : List Val} {r : Val} (h : op1 op vs = some r) : ∃ v, vs = [v] ∧ op v = some r := by
  unfold op1 at h
  split at h
  · exact ⟨_, rfl, h⟩
  · cases h

/-! ### what they do -/
def lenV : Val → Option Val
  | .lst xs => some (.int xs.length)
  | .tup xs => some (.int xs.length)
  | .str s => if s.length ≤ line then some (.int s.length) else none
  | .dct kvs => some (.int kvs.length)
  | _ => none
def absV : Val → Option Val
  | .int i => some (.int (if i < 0 then -i else i))
  | _ => none
def intV : Val → Option Val
  | .int i => some (.int i)
  | .bl b => some (.int (if b then 1 else 0))
  | .str s => if s.length ≤ 640 then (PySem.intText? s).map .int else none
  | _ => none
def strV : Val → Option Val
  | .int i => if i.natAbs.log2 < 1920 then some (.str (toString i)) else none
  | _ => none
def listV : Val → Option Val
  | .lst xs => some (.lst xs)
  | .tup xs => some (.lst xs)
  | .scr ns => some (.lst (ns.map .int))
  | _ => none
def tupleV : Val → Option Val
  | .lst xs => some (.tup xs)
  | .tup xs => some (.tup xs)
  | _ => none
def blsOf : List Val → Option (List Bool)
  | [] => some []
  | .bl i :: r => (blsOf r).map (i :: ·)
  | _ :: _ => none
def allV : Val → Option Val
  | .lst xs => (blsOf xs).map fun bs => .bl (bs.all id)
  | _ => none
def anyV : Val → Option Val
  | .lst xs => (blsOf xs).map fun bs => .bl (bs.any id)
  | _ => none
def sumV : Val → Option Val
  | .lst xs => (intsOf xs).map fun ns => .int ns.sum
  | .tup xs => (intsOf xs).map fun ns => .int ns.sum
  | _ => none
def min2V : List Val → Option Val
  | [.int i, .int j] => some (.int (if j < i then j else i))
  | _ => none
def max2V : List Val → Option Val
  | [.int i, .int j] => some (.int (if j > i then j else i))
  | _ => none
theorem blsOf_vr {K : PySem.W.Frag} {C : Str → Option Addr} {F : Hp} : ∀ {xs : List Val} {us : List V} {ns : List Bool}, VRs K C F xs us → blsOf xs = some ns → us = ns.map V.bl
  | [], _, _, .nil, e => by cases e; rfl
  | x :: xs, _, _, .cons h r, e => by
    cases x with
    | bl i =>
      simp only [blsOf] at e
      obtain ⟨ms, h1, rfl⟩ := Option.map_eq_some_iff.mp e
      cases h
      rw [blsOf_vr r h1]; rfl
    | _ => simp [blsOf] at e
theorem cn_len : CN Γ (.builtin "len") (op1 lenV) := by
  intro sc n X cx vs r ho F H sm xs tr Q q pins s σ us I rv
  obtain ⟨v, rfl, hq⟩ := op1_some ho
  clear ho
  have ho := hq
  clear hq
  obtain ⟨u, rfl, t⟩ := tr.one
  unfold lenV at ho
  split at ho
  · cases ho
    obtain ⟨p1, ws, rfl, h1, v1⟩ := t.lst sm
    exact call_len pins s σ H _ us Q I rv ⟨_, _, rfl, .inl ⟨ws, SqL.of h1, v1.length.symm⟩, q _ _ _ (Grow.refl sm) (.int _)⟩
  · cases ho
    obtain ⟨p1, ws, rfl, h1, v1⟩ := t.tup sm
    exact call_len pins s σ H _ us Q I rv ⟨_, _, rfl, .inr ⟨ws, by rw [cx.K]; exact h1, v1.length.symm⟩, q _ _ _ (Grow.refl sm) (.int _)⟩
  · split at ho
    · rename_i hl
      cases ho
      have e1 := t.str
      subst e1
      exact call_len pins s σ H _ us Q I rv ⟨_, _, rfl, ⟨hl, rfl⟩, q _ _ _ (Grow.refl sm) (.int _)⟩
    · cases ho
  · cases ho
    obtain ⟨p1, ws, rfl, h1, v1⟩ := t.dct sm
    refine call_lenD pins s σ H _ us Q I rv ⟨p1, ws, rfl, h1, ?_⟩
    rw [v1.length]
    exact q _ _ _ (Grow.refl sm) (.int _)
  · cases ho
theorem cn_abs : CN Γ (.builtin "abs") (op1 absV) := by
  intro sc n X cx vs r ho F H sm xs tr Q q pins s σ us I rv
  obtain ⟨v, rfl, hq⟩ := op1_some ho
  clear ho
  have ho := hq
  clear hq
  obtain ⟨u, rfl, t⟩ := tr.one
  unfold absV at ho
  split at ho
  · cases ho
    have e1 := t.int
    subst e1
    exact call_abs pins s σ H _ us Q I rv ⟨_, rfl, q _ _ _ (Grow.refl sm) (.int _)⟩
  · cases ho
theorem cn_int : CN Γ (.type "int") (op1 intV) := by
  intro sc n X cx vs r ho F H sm xs tr Q q pins s σ us I rv
  obtain ⟨v, rfl, hq⟩ := op1_some ho
  clear ho
  have ho := hq
  clear hq
  obtain ⟨u, rfl, t⟩ := tr.one
  unfold intV at ho
  split at ho
  · cases ho
    have e1 := t.int
    subst e1
    exact call_int1 pins s σ H _ us Q I rv (.inl ⟨_, rfl, q _ _ _ (Grow.refl sm) (.int _)⟩)
  · cases ho
    have e1 := t.bl
    subst e1
    exact call_int1 pins s σ H _ us Q I rv (.inr ⟨_, rfl, q _ _ _ (Grow.refl sm) (.int _)⟩)
  · split at ho
    · rename_i hl
      obtain ⟨m, hm, rfl⟩ := Option.map_eq_some_iff.mp ho
      have e1 := t.str
      subst e1
      exact call_int_str pins s σ H _ us Q I rv ⟨_, m, rfl, hm, hl, q _ _ _ (Grow.refl sm) (.int _)⟩
    · cases ho
  · cases ho
theorem cn_str : CN Γ (.type "str") (op1 strV) := by
  intro sc n X cx vs r ho F H sm xs tr Q q pins s σ us I rv
  obtain ⟨v, rfl, hq⟩ := op1_some ho
  clear ho
  have ho := hq
  clear hq
  obtain ⟨u, rfl, t⟩ := tr.one
  unfold strV at ho
  split at ho
  · split at ho
    · rename_i hl
      cases ho
      have e1 := t.int
      subst e1
      exact call_str_int pins s σ H _ us Q I rv ⟨_, rfl, hl, q _ _ _ (Grow.refl sm) (.str _)⟩
    · cases ho
  · cases ho
theorem vrs_ints {K : PySem.W.Frag} {C : Str → Option Addr} {F : Hp} : ∀ (ns : List Int), VRs K C F (ns.map .int) (ns.map V.int)
  | [] => .nil
  | n :: ns => .cons (.int n) (vrs_ints ns)
theorem cnf_list : CNF Γ (.type "list") (op1 listV) := by
  intro sc n X cx vs r ho F H sm xs tr Q q pins s σ us I rv
  obtain ⟨v, rfl, hq⟩ := op1_some ho
  clear ho
  have ho := hq
  clear hq
  obtain ⟨u, rfl, t⟩ := tr.one
  unfold listV at ho
  split at ho
  · cases ho
    obtain ⟨p1, ws, rfl, h1, v1⟩ := t.lst sm
    exact call_list_of pins s σ H _ us Q I rv ⟨p1, ws, rfl, .inl (SqL.of h1), fun l hl => q l ws _ rfl hl v1⟩
  · cases ho
    obtain ⟨p1, ws, rfl, h1, v1⟩ := t.tup sm
    exact call_list_of pins s σ H _ us Q I rv ⟨p1, ws, rfl, .inr (by rw [cx.K]; exact h1), fun l hl => q l ws _ rfl hl v1⟩
  · cases ho
    rcases t with t | ⟨a, rfl, t⟩
    · cases t with
      | scr h => exact call_list_of pins s σ H _ us Q I rv ⟨_, _, rfl, .inl (by rw [cx.K]; exact sm.seq h), fun l hl => q l _ _ rfl hl (vrs_ints _)⟩
    · cases t
  · cases ho
theorem listV_lst {vs : List Val} {r : Val} (h : op1 listV vs = some r) : ∃ ws, r = .lst ws := by
  obtain ⟨v, rfl, ho⟩ := op1_some h
  unfold listV at ho
  split at ho <;> cases ho <;> exact ⟨_, rfl⟩
theorem cn_tuple : CN Γ (.type "tuple") (op1 tupleV) := by
  intro sc n X cx vs r ho F H sm xs tr Q q pins s σ us I rv
  obtain ⟨v, rfl, hq⟩ := op1_some ho
  clear ho
  have ho := hq
  clear hq
  obtain ⟨u, rfl, t⟩ := tr.one
  unfold tupleV at ho
  split at ho
  · cases ho
    obtain ⟨p1, ws, rfl, h1, v1⟩ := t.lst sm
    exact call_tuple_of pins s σ H _ us Q I rv ⟨p1, ws, rfl, .inl ⟨SqL.of h1, new_tup sm v1 q⟩⟩
  · cases ho
    obtain ⟨p1, ws, rfl, h1, v1⟩ := t.tup sm
    exact call_tuple_of pins s σ H _ us Q I rv ⟨p1, ws, rfl, .inr ⟨by rw [cx.K]; exact h1, q _ _ _ (Grow.refl sm) (t.tupV rfl)⟩⟩
  · cases ho
theorem cn_all : CN Γ (.builtin "all") (op1 allV) := by
  intro sc n X cx vs r ho F H sm xs tr Q q pins s σ us I rv
  obtain ⟨v, rfl, hq⟩ := op1_some ho
  clear ho
  have ho := hq
  clear hq
  obtain ⟨u, rfl, t⟩ := tr.one
  unfold allV at ho
  split at ho
  · obtain ⟨bs, hb, rfl⟩ := Option.map_eq_some_iff.mp ho
    obtain ⟨p1, ws, rfl, h1, v1⟩ := t.lst sm
    have e := blsOf_vr v1 hb
    subst e
    exact cr_all cx.calm pins s σ H _ us Q I rv ⟨p1, bs, rfl, SqL.of h1, q _ _ _ (Grow.refl sm) (.bl _)⟩
  · cases ho
theorem cn_any : CN Γ (.builtin "any") (op1 anyV) := by
  intro sc n X cx vs r ho F H sm xs tr Q q pins s σ us I rv
  obtain ⟨v, rfl, hq⟩ := op1_some ho
  clear ho
  have ho := hq
  clear hq
  obtain ⟨u, rfl, t⟩ := tr.one
  unfold anyV at ho
  split at ho
  · obtain ⟨bs, hb, rfl⟩ := Option.map_eq_some_iff.mp ho
    obtain ⟨p1, ws, rfl, h1, v1⟩ := t.lst sm
    have e := blsOf_vr v1 hb
    subst e
    exact cr_any cx.calm pins s σ H _ us Q I rv ⟨p1, bs, rfl, SqL.of h1, q _ _ _ (Grow.refl sm) (.bl _)⟩
  · cases ho
theorem sum_tupleG {prog : Program} {w : World} {A : Around} {E : Value → Shared → Prop} {s : Shared} {l : Addr} {xs : Array (Int × Tok)} {Q : Value → Shared → Prop} (hh : A.handled = none) (hl : s.heap.IsTuple l (intItems xs))
    (h : ∀ h' tk t', (∀ b o, s.heap.get? b = some o → h'.get? b = some o) → Q (.int (preSum (numAt xs) xs.size) t') { s with heap := h', toks := tk }) :
    wpAny (model prog w) A (call (.builtin "sum") [.ref l]) Q E s := by
  refine call_sum_walkG (PySem.W.iter_tupleW (A := A.in1) hh hl fun s₂ e W st hfp _ _ => ?_)
  have hlt : l < s.heap.objs.size := by obtain ⟨_, e, _⟩ := hl; exact Heap.lt_size e
  refine ⟨_, _, _, _, _, _, numAt xs, rfl, Walks.tuple (A := A.in1) hh _ l (Nat.ne_of_lt hlt) (intItems xs), st, hfp, (fun _ _ => intItems_at), fun h' tk t' hk => ?_⟩
  subst e
  have := h h' tk t' (fun b o e => hk b o (fun hm => by
    have : b = s.heap.objs.size := by simpa using hm
    subst this
    exact absurd (Heap.lt_size e) (Nat.lt_irrefl _)) (Heap.get?_push_of_some _ e))
  simpa [intItems] using this
theorem sumT_raw {prog : Program} {w : World} {A : Around} {E : Value → Shared → Prop} {s : Shared} {l : Addr} {its : List Value} {ns : List Int} {Q : Value → Shared → Prop} (hh : A.handled = none) (hl : s.heap.IsTuple l its.toArray) (hi : PyProof.Rows.IntsAre its ns)
    (h : ∀ h' tk t', (∀ b o, s.heap.get? b = some o → h'.get? b = some o) → Q (.int ns.sum t') { s with heap := h', toks := tk }) : wpAny (model prog w) A (call (.builtin "sum") [.ref l]) Q E s := by
  obtain ⟨xs, e⟩ := hi.allInts.items
  have hn : numsOf (intItems xs).toList = ns := by rw [← e]; exact hi.numsOf
  rw [nums_intItems] at hn
  rw [e] at hl
  refine sum_tupleG hh hl fun h' tk t' hk => ?_
  have := h h' tk t' hk
  rw [preSum_eq, List.take_of_length_le (by simp), hn]; exact this
theorem cn_sum : CN Γ (.builtin "sum") (op1 sumV) := by
  intro sc n X cx vs r ho F H sm xs tr Q q pins s σ us I rv
  obtain ⟨v, rfl, hq⟩ := op1_some ho
  clear ho
  have ho := hq
  clear hq
  obtain ⟨u, rfl, t⟩ := tr.one
  unfold sumV at ho
  split at ho
  · obtain ⟨bs, hb, rfl⟩ := Option.map_eq_some_iff.mp ho
    obtain ⟨p1, ws, rfl, h1, v1⟩ := t.lst sm
    have e := intsOf_vr v1 hb
    subst e
    exact cr_sum cx.calm pins s σ H _ us Q I rv ⟨p1, bs, rfl, SqL.of h1, q _ _ _ (Grow.refl sm) (.int _)⟩
  · obtain ⟨bs, hb, rfl⟩ := Option.map_eq_some_iff.mp ho
    obtain ⟨p1, ws, rfl, h1, v1⟩ := t.tup sm
    have e := intsOf_vr v1 hb
    subst e
    rw [Vals.ref1 rv]
    obtain ⟨its, r2, ht, _⟩ := I.tuple (by rw [cx.K]; exact h1)
    exact sumT_raw (I.ok.hd cx.calm) ht r2.ints fun h' tk t' hk => ⟨.int _, H, I.kept hk, ⟨_, rfl⟩, q _ _ _ (Grow.refl sm) (.int _)⟩
  · cases ho
theorem cn_min2 : CN Γ (.builtin "min") min2V := by
  intro sc n X cx vs r ho F H sm xs tr Q q pins s σ us I rv
  unfold min2V at ho
  split at ho
  · cases ho
    cases tr with | cons t1 tr => cases tr with | cons t2 tr =>
      cases tr
      have e1 := t1.int
      have e2 := t2.int
      subst e1; subst e2
      exact call_min2 cx.calm pins s σ H _ us Q I rv ⟨_, _, rfl, q _ _ _ (Grow.refl sm) (.int _)⟩
  · cases ho
theorem cn_max2 : CN Γ (.builtin "max") max2V := by
  intro sc n X cx vs r ho F H sm xs tr Q q pins s σ us I rv
  unfold max2V at ho
  split at ho
  · cases ho
    cases tr with | cons t1 tr => cases tr with | cons t2 tr =>
      cases tr
      have e1 := t1.int
      have e2 := t2.int
      subst e1; subst e2
      exact call_max2 cx.calm pins s σ H _ us Q I rv ⟨_, _, rfl, q _ _ _ (Grow.refl sm) (.int _)⟩
  · cases ho
end
end CG
end
section
set_option Elab.async false
set_option linter.all false
set_option maxRecDepth 100000
set_option autoImplicit false
/-! CG8: calls of the text's own defs. -/
namespace CG
open PySem PySem.Spec L2
section
variable {K : PySem.W.Frag} {C : Str → Option Addr} {kd : Kds} {en : Ent} {e : Env} {σ : L2.St} {F H F' H' : Hp}
/-- behind a call that leaves the live owned slots alone -/
theorem Rel.step {ios : List Addr} (r : Rel K C kd en e σ F H) (g : Step F H F' H' ios) (hn : ∀ (i : Nat) (v : Val) (a : Addr), kdAt kd i ≠ .imm → e[i]? = some (some v) → σ[i]? = some (some (.ref a)) → a ∉ ios)
    (hi : ∀ a ∈ ios, (en.H0 a = none ∨ a ∈ en.io) ∧ ∀ x, H a ≠ some (.own x)) : Rel K C kd en e σ F' H' where
  sub := g.fh
  len := r.len
  imm := fun i v k h => let ⟨u, h1, h2⟩ := r.imm i v k h; ⟨u, h1, h2.mono g.ff⟩
  own := fun i v k h => by
    obtain ⟨u, h1, h2⟩ := r.own i v k h
    refine ⟨u, h1, ?_⟩
    have nF : ∀ b o, H b = some o → F b = none → F' b = none := fun b o hb hf => by
      cases q : F' b with
      | none => rfl
      | some o' =>
        rcases g.new b (by rw [q]; simp) with z | z
        · exact absurd hf z
        · rw [hb] at z; cases z
    rcases h2 with ⟨s, h2⟩ | ⟨a, rfl, o, n, l, p⟩
    · exact .inl ⟨s, h2.mono g.ff⟩
    · have ha := hn i v a k h h1
      have hno : ∃ o, H a = some o := by
        cases q : H a with
        | none => exact absurd q o.there
        | some o => exact ⟨o, rfl⟩
      obtain ⟨oa, hoa⟩ := hno
      refine .inr ⟨a, rfl, o.mono g.ff (fun o' ho => g.hh a o' ho ha) (fun dx d nd => ⟨g.hh _ _ d fun hm => (hi dx hm).2 a d, nF dx _ d nd⟩), nF a oa hoa n, l, p⟩
  sep := r.sep
  b1 := fun q o h n => g.hh _ _ (r.b1 q o h n) fun hm => by
    rcases (hi q hm).1 with z | z
    · rw [h] at z; cases z
    · exact n z
  b2 := fun q h => by
    rcases g.new q h with h1 | h1
    · exact r.b2 q h1
    · right
      cases z : en.H0 q with
      | none => rfl
      | some o => exact absurd h1 (r.b3 q (by rw [z]; simp))
  b3 := fun q h => g.keep q (r.b3 q h)
  b4 := r.b4.trans g.ff
  b5 := r.b5
/-- a dead owned slot lives again -/
theorem Rel.revive {i : Nat} {v : Val} {a : Addr} (r : Rel K C kd en e σ F H) (k : kdAt kd i ≠ .imm) (hl : i < e.length) (ha : σ[i]? = some (some (.ref a))) (ow : OW K C F H (Nw en (kdAt kd i) a) v a) (hF : F a = none)
    (h1 : kdAt kd i = .loc → en.H0 a = none) (h2 : kdAt kd i = .io → en.P i = some a ∧ a ∈ en.io) (hs : ∀ (j : Nat) (w : Val), j ≠ i → kdAt kd j ≠ .imm → e[j]? = some (some w) → σ[j]? ≠ some (some (.ref a))) : Rel K C kd en (e.set i (some v)) σ F H where
  sub := r.sub
  len := by simp [r.len]
  imm := fun j w kj hj => by
    rcases getE_set hj with ⟨rfl, _, _⟩ | ⟨_, hj⟩
    · exact absurd kj k
    · exact r.imm j w kj hj
  own := fun j w kj hj => by
    rcases getE_set hj with ⟨rfl, e1, _⟩ | ⟨_, hj⟩
    · cases e1
      exact ⟨_, ha, .inr ⟨a, rfl, ow, hF, h1, h2⟩⟩
    · exact r.own j w kj hj
  sep := fun j l b w w' hjl kj kl hj hl' sj sl => by
    rcases getE_set hj with ⟨e1, _, _⟩ | ⟨hij, hj⟩
    · subst e1
      rcases getE_set hl' with ⟨e2, _, _⟩ | ⟨hil, hl'⟩
      · exact hjl e2
      · rw [ha] at sj; cases sj
        exact hs l w' (Ne.symm hil) kl hl' sl
    · rcases getE_set hl' with ⟨e2, _, _⟩ | ⟨hil, hl'⟩
      · subst e2
        rw [ha] at sl; cases sl
        exact hs j w (Ne.symm hij) kj hj sj
      · exact r.sep j l b w w' hjl kj kl hj hl' sj sl
  b1 := r.b1
  b2 := r.b2
  b3 := r.b3
  b4 := r.b4
  b5 := r.b5
/-- arguments: P tells which are in/out, and their slots -/
inductive ARI (K : PySem.W.Frag) (C : Str → Option Addr) (kd : Kds) (σ : L2.St) (F : Hp) : List (Option Nat) → List Arg → List V → Prop
  | nil : ARI K C kd σ F [] [] []
  | v {P : List (Option Nat)} {a : Val} {u : V} {al : List Arg} {us : List V} : VR K C F a u → ARI K C kd σ F P al us → ARI K C kd σ F (none :: P) (.v a :: al) (u :: us)
  | io {P : List (Option Nat)} {i : Nat} {u : V} {al : List Arg} {us : List V} : kdAt kd i ≠ .imm → σ[i]? = some (some u) → ARI K C kd σ F P al us → ARI K C kd σ F (some i :: P) (.io i :: al) (u :: us)
theorem ARI.mono {P : List (Option Nat)} {al : List Arg} {us : List V} (h : ARI K C kd σ F P al us) (s : Same F F') : ARI K C kd σ F' P al us := by
  induction h with
  | nil => exact .nil
  | v h _ ih => exact .v (h.mono s) ih
  | io k hs _ ih => exact .io k hs ih
abbrev slotsOf (P : List (Option Nat)) : List Nat := P.filterMap id
theorem OW.any {N N' : Addr → Prop} {v : Val} {a : Addr} (h : OW K C F H N v a) (n : ∀ dx C0 fs, H a = some (.ins C0 dx fs) → N dx → N' dx) : OW K C F H N' v a := by
  cases h with
  | lst h r => exact .lst h r
  | dct h r => exact .dct h r
  | obj c h d nd x r => exact .obj c h d nd (n _ _ _ h x) r
theorem scalar_ow {N : Addr → Prop} {v : Val} {a : Addr} (h : OW K C F H N v a) : scalar v = false := by cases h <;> rfl
/-- the arguments as the callee wants them -/
theorem ARI.args {P : List (Option Nat)} {al : List Arg} {us : List V} (h : ARI K C kd σ F P al us) (r : Rel K C kd en e σ F H) : ∀ {vs : List Val}, argVals e al = some vs → (slotsOf P).Nodup →
    ∃ ios, ArgsR K C F H (P.map Option.isSome) vs us ios ∧ ∀ a ∈ ios, ∃ i v, i ∈ slotsOf P ∧ kdAt kd i ≠ .imm ∧ e[i]? = some (some v) ∧ σ[i]? = some (some (.ref a)) := by
  induction h with
  | nil => intro vs hv _; cases hv; exact ⟨[], .nil, fun a h => nomatch h⟩
  | @v P a u al us h _ ih =>
    intro vs hv nd
    simp only [argVals] at hv
    obtain ⟨ws, h1, rfl⟩ := Option.map_eq_some_iff.mp hv
    obtain ⟨ios, h2, h3⟩ := ih h1 nd
    exact ⟨ios, .v h h2, h3⟩
  | @io P i u al us k hs _ ih =>
    intro vs hv nd
    have nd' : i ∉ slotsOf P ∧ (slotsOf P).Nodup := List.nodup_cons.mp nd
    simp only [argVals] at hv
    split at hv
    · rename_i v hi
      split at hv
      · cases hv
      · rename_i hsc
        obtain ⟨ws, h1, rfl⟩ := Option.map_eq_some_iff.mp hv
        obtain ⟨ios, h2, h3⟩ := ih h1 nd'.2
        obtain ⟨u', hu, q⟩ := r.own i v k hi
        rw [hs] at hu; cases hu
        rcases q with ⟨s, _⟩ | ⟨a, rfl, ow, n, _, _⟩
        · exact absurd s hsc
        · refine ⟨a :: ios, .io (ow.any fun _ _ _ _ _ => trivial) n (fun hm => ?_) h2, fun b hb => ?_⟩
          · obtain ⟨j, w, hj, kj, ej, sj⟩ := h3 a hm
            have hij : i ≠ j := fun z => nd'.1 (z ▸ hj)
            exact r.sep i j a v w hij k kj hi ej hs sj
          · rcases List.mem_cons.mp hb with rfl | hb
            · exact ⟨i, v, List.mem_cons_self, k, hi, hs⟩
            · obtain ⟨j, w, hj, q⟩ := h3 b hb
              exact ⟨j, w, List.mem_cons_of_mem _ hj, q⟩
    · cases hv
theorem ioKill_get {P : List (Option Nat)} {al : List Arg} {us : List V} (h : ARI K C kd σ F P al us) : ∀ {e : Env} {i : Nat} {v : Val}, (ioKill e al)[i]? = some (some v) → i ∉ slotsOf P ∧ e[i]? = some (some v) := by
  induction h with
  | nil => intro e i v h; exact ⟨by simp, h⟩
  | @v P a u al us _ _ ih => intro e i v h; exact ih h
  | @io P j u al us k hs _ ih =>
    intro e i v h
    obtain ⟨h1, h2⟩ := ih (e := e.set j none) h
    rcases getE_set h2 with ⟨_, z, _⟩ | ⟨hji, h2⟩
    · cases z
    · exact ⟨fun hm => (List.mem_cons.mp hm).elim (fun z => hji z.symm) h1, h2⟩
theorem ioKill_len {P : List (Option Nat)} {al : List Arg} {us : List V} (h : ARI K C kd σ F P al us) : ∀ {e : Env}, (ioKill e al).length = e.length := by
  induction h with
  | nil => intro e; rfl
  | v _ _ ih => intro e; exact ih
  | io k hs _ ih => intro e; rw [ioKill, ih]; simp
theorem Rel.kills {P : List (Option Nat)} {al : List Arg} {us : List V} (h : ARI K C kd σ F P al us) : ∀ {e : Env} {F H : Hp}, Rel K C kd en e σ F H → Rel K C kd en (ioKill e al) σ F H := by
  induction h with
  | nil => intro e F H r; exact r
  | v _ _ ih => intro e F H r; exact ih r
  | io k hs _ ih => intro e F H r; exact ih (r.kill _)
theorem set_set_comm {α : Type} {l : List α} {i j : Nat} {x y : α} (h : i ≠ j) : (l.set i x).set j y = (l.set j y).set i x := List.set_comm _ _ h
theorem ioKill_set {P : List (Option Nat)} {al : List Arg} {us : List V} {i : Nat} {x : Option Val} (h : ARI K C kd σ F P al us) : ∀ {e : Env}, i ∉ slotsOf P → ioKill (e.set i x) al = (ioKill e al).set i x := by
  induction h with
  | nil => intro e _; rfl
  | v _ _ ih => intro e hi; exact ih hi
  | @io P j u al us k hs _ ih =>
    intro e hi
    have h1 : j ≠ i := fun z => hi (z ▸ List.mem_cons_self)
    have h2 : i ∉ slotsOf P := fun z => hi (List.mem_cons_of_mem _ z)
    rw [ioKill, ioKill, List.set_comm _ _ (Ne.symm h1), ih h2]
theorem ARI.live {P : List (Option Nat)} {al : List Arg} {us : List V} (h : ARI K C kd σ F P al us) : ∀ {e : Env} {vs : List Val}, argVals e al = some vs → ∀ i ∈ slotsOf P, ∃ v, e[i]? = some (some v) := by
  induction h with
  | nil => intro e vs _ i hi; cases hi
  | v _ _ ih =>
    intro e vs hv i hi
    simp only [argVals] at hv
    obtain ⟨ws, h1, _⟩ := Option.map_eq_some_iff.mp hv
    exact ih h1 i hi
  | @io P j u al us k hs2 hr2 ih =>
    intro e vs hv i hi
    simp only [argVals] at hv
    split at hv
    · rename_i w hw
      split at hv
      · cases hv
      · obtain ⟨ws, h1, _⟩ := Option.map_eq_some_iff.mp hv
        rcases List.mem_cons.mp hi with rfl | hi
        · exact ⟨w, hw⟩
        · exact ih h1 i hi
    · cases hv
theorem ARI.nimm {P : List (Option Nat)} {al : List Arg} {us : List V} (h : ARI K C kd σ F P al us) : ∀ i ∈ slotsOf P, kdAt kd i ≠ .imm := by
  induction h with
  | nil => intro i hi; cases hi
  | v _ _ ih => exact ih
  | @io P j u al us k hs2 hr2 ih =>
    intro i hi
    rcases List.mem_cons.mp hi with rfl | hi
    · exact k
    · exact ih i hi
theorem ioSet_live {P : List (Option Nat)} {al : List Arg} {us : List V} (h : ARI K C kd σ F P al us) : ∀ {e e2 : Env} {outs : List Val}, ioSet e al outs = some e2 → ∀ {i : Nat} {w : Val}, e2[i]? = some (some w) → i ∈ slotsOf P ∨ e[i]? = some (some w) := by
  induction h with
  | nil =>
    intro e e2 outs hs i w hi
    cases outs with
    | nil => simp only [ioSet] at hs; cases hs; exact .inr hi
    | cons _ _ => simp [ioSet] at hs
  | v _ _ ih => intro e e2 outs hs i w hi; exact ih (by simpa [ioSet] using hs) hi
  | @io P j u al us k hs2 hr2 ih =>
    intro e e2 outs hs i w hi
    cases outs with
    | nil => simp [ioSet] at hs
    | cons x xs =>
      simp only [ioSet] at hs
      rcases ih hs hi with h | h
      · exact .inl (List.mem_cons_of_mem _ h)
      · rcases getE_set h with ⟨rfl, _, _⟩ | ⟨_, h⟩
        · exact .inl List.mem_cons_self
        · exact .inr h
/-- the in/out slots hold what the callee left there -/
theorem ioSet_rel {P : List (Option Nat)} {al : List Arg} {us : List V} {F0 : Hp} (h : ARI K C kd σ F0 P al us) : ∀ {e' e2 : Env} {vs outs : List Val} {ios : List Addr} {Fa : Hp}, (slotsOf P).Nodup → ArgsR K C Fa H (P.map Option.isSome) vs us ios →
    (∀ i, i ∈ slotsOf P → i < e'.length ∧ ∀ a, σ[i]? = some (some (.ref a)) → (kdAt kd i = .loc → en.H0 a = none) ∧ (kdAt kd i = .io → en.P i = some a ∧ a ∈ en.io) ∧ ∀ dx C0 fs, H a = some (.ins C0 dx fs) → Nw en (kdAt kd i) a dx) →
    Outs K C H F' H' outs ios → ioSet e' al outs = some e2 → Rel K C kd en (ioKill e' al) σ F' H' →
    (∀ (j : Nat) (w : Val), kdAt kd j ≠ .imm → (ioKill e' al)[j]? = some (some w) → ∀ a ∈ ios, σ[j]? ≠ some (some (.ref a))) → Rel K C kd en e2 σ F' H' := by
  induction h with
  | nil =>
    intro e' e2 vs outs ios Fa _ har _ ho hs r _
    cases har; cases ho
    simp only [ioSet] at hs; cases hs
    exact r
  | v _ _ ih =>
    intro e' e2 vs outs ios Fa nd har h1 ho hs r hn
    cases har with
    | v hv har => exact ih nd har h1 ho (by simpa [ioSet] using hs) r hn
  | @io P i u al us k hsi hrest ih =>
    intro e' e2 vs outs ios Fa nd har h1 ho hs r hn
    have nd' : i ∉ slotsOf P ∧ (slotsOf P).Nodup := List.nodup_cons.mp nd
    cases har with
    | @io m v a vs us as ow0 hF0 ha har =>
      cases ho with
      | @cons w _ ws _ ow hF ho =>
        simp only [ioSet] at hs
        obtain ⟨hil, inf⟩ := h1 i List.mem_cons_self
        obtain ⟨i1, i2, i3⟩ := inf a hsi
        have ow' : OW K C F' H' (Nw en (kdAt kd i) a) w a := ow.any fun dx C0 fs _ ⟨C1, fs1, sd⟩ => i3 dx C1 fs1 sd
        have e1 : ioKill (e'.set i (some w)) al = (ioKill (e'.set i none) al).set i (some w) := by
          rw [ioKill_set hrest nd'.1, ioKill_set hrest nd'.1, List.set_set]
        have r2 : Rel K C kd en (ioKill (e'.set i (some w)) al) σ F' H' := by
          rw [e1]
          have r' : Rel K C kd en (ioKill (e'.set i none) al) σ F' H' := r
          refine r'.revive k (by rw [ioKill_len hrest]; simpa using hil) hsi ow' hF i1 i2 fun j w' hji kj hj => hn j w' kj hj a List.mem_cons_self
        refine ih nd'.2 har (fun j hj => ?_) ho hs r2 fun j w' kj hj b hb sj => ?_
        · obtain ⟨q1, q2⟩ := h1 j (List.mem_cons_of_mem _ hj)
          exact ⟨by simpa using q1, q2⟩
        · rw [e1] at hj
          rcases getE_set hj with ⟨e3, _, _⟩ | ⟨_, hj⟩
          · subst e3
            rw [hsi] at sj; cases sj
            exact ha hb
          · exact hn j w' kj hj b (List.mem_cons_of_mem _ hb) sj
end

section
variable {Γ : GX} {sc : Sc} {ex a b c : Expr} {f g h : M Val} {pos p : Pos} {rest : List Expr}
/-- arguments -/
def SA (Γ : GX) (sc : Sc) (es : List Expr) (P : List (Option Nat)) (f : M (List Arg)) : Prop := ∀ ⦃n : Nat⦄ ⦃X : Cx⦄, Compat Γ sc n X → ∀ {W : WX}, Takes X W → ∀ {en : Ent} {e : Env} {σ : L2.St} {F H : Hp}, Rel Γ.K Γ.C sc.kd en e σ F H →
  ∀ {Q : List V → Hp → Prop}, Post Γ sc.kd en σ F (f (callN Γ.G n) e) (fun _ F' _ al us => ARI Γ.K Γ.C sc.kd σ F' P al us) Q W → JA X es σ H Q
theorem sa_nil : SA Γ sc [] [] aNil := by
  intro n X cx W tk en e σ F H r Q P
  exact ja pa_nil (P _ F H (Same.refl _) r .nil)
theorem sa_v {es : List Expr} {P : List (Option Nat)} {r : M (List Arg)} (ha : SV Γ sc a f) (hr : SA Γ sc es P r) (hs : ∀ env, starEach (a :: es) env = (false, eval a env) :: starEach es env := by intro _; rfl) : SA Γ sc (a :: es) (none :: P) (aVal f r) := by
  intro n X cx W tk en e σ F H rl Q P
  refine ja (pa_cons JE.pe JA.pa (hs _)) ?_
  refine ha cx tk rl (Post.seq P fun v e1 u F1 H1 s1 r1 t1 P1 => hr cx tk r1 (Post.seq P1 fun w e2 u2 F2 H2 s2 r2 t2 P2 => ?_))
  exact P2 _ F2 H2 (Same.refl _) r2 (.v (t1.mono s2) t2)
theorem sa_io {es : List Expr} {P : List (Option Nat)} {r : M (List Arg)} {i : Nat} {x : Str} {p : Pos} (s : SlotN sc i x) (hr : SA Γ sc es P r) : SA Γ sc (.Name x p :: es) (some i :: P) (aIo i r) := by
  intro n X cx W tk en e σ F H rl Q P
  obtain ⟨v, hv, P1⟩ := P.slot
  obtain ⟨u, hu⟩ := rl.slotU s.k hv
  refine ja (pa_cons (s.pe cx) JA.pa rfl) ⟨u, hu, hr cx tk rl (Post.seq P1 fun w e2 u2 F2 H2 s2 r2 t2 P2 => ?_)⟩
  exact P2 _ F2 H2 (Same.refl _) r2 (.io s.k hu t2)
/-- a def of the table, under its name -/
structure At (Γ : GX) (x : Str) (f : Fn) (d : Def) (l : FnAt) : Prop where
  hG : Γ.G f = some d
  hl : Γ.loc f = some l
  hm : Γ.mg x = some (.ref l.addr)
  hk : PySem.W.keepIn Γ.K (.ref l.addr) = true
  hb : Binds Γ.K l.fd l.ps []
/-- what is known behind a call -/
theorem call_back {kd : Kds} {en : Ent} {e : Env} {σ : L2.St} {F H : Hp} {W : WX} {Q : VK} {P : List (Option Nat)} {al : List Arg} {us : List V} {vs : List Val} {cr : CR} {fr : Bool} {T : Env → Hp → Hp → Val → V → Prop}
    (r : Rel Γ.K Γ.C kd en e σ F H) (ar : ARI Γ.K Γ.C kd σ F P al us) (nd : (slotsOf P).Nodup) (hv : argVals e al = some vs)
    (hT : ∀ e2 F' H' v u ios, Rel Γ.K Γ.C kd en e2 σ F' H' → Step F H F' H' ios → (if fr = true then NewV Γ.K Γ.C H F' H' ios v u else VR Γ.K Γ.C F' v u) → (∀ (i : Nat) (w : Val) (a : Addr), kdAt kd i ≠ .imm → e2[i]? = some (some w) → σ[i]? = some (some (.ref a)) → H a ≠ none) → T e2 F' H' v u)
    (PP : Post Γ kd en σ F (match cr with
      | .ok v ios => if lentOk e al v then (ret (ioSet e al ios) e).bind fun e2 _ => .ok v e2 else .no
      | .exc c fs => .exc c fs (ioKill e al)
      | .no => .no) T Q W) : ∃ ios, ArgsR Γ.K Γ.C F H (P.map Option.isSome) vs us ios ∧ CPost Γ fr F H ios cr Q (fun cls d H' => W cls d σ H') := by
  obtain ⟨ios, har, hio⟩ := ar.args r hv nd
  refine ⟨ios, har, ?_⟩
  have apart : ∀ (i : Nat) (v : Val) (a : Addr), kdAt kd i ≠ .imm → (ioKill e al)[i]? = some (some v) → σ[i]? = some (some (.ref a)) → a ∉ ios := fun i v a k hi si hm => by
    obtain ⟨h1, h2⟩ := ioKill_get ar hi
    obtain ⟨j, w, hj, kj, ej, sj⟩ := hio a hm
    exact r.sep i j a v w (fun z => h1 (z ▸ hj)) k kj h2 ej si sj
  have own : ∀ a ∈ ios, (en.H0 a = none ∨ a ∈ en.io) ∧ ∀ x, H a ≠ some (.own x) := fun a hm => by
    obtain ⟨j, w, hj, kj, ej, sj⟩ := hio a hm
    obtain ⟨u, su, q⟩ := r.own j w kj ej
    rw [sj] at su; cases su
    rcases q with ⟨s, q⟩ | ⟨b, e1, ow, _, l, p⟩
    · exact absurd rfl ((scalar_of q s).1 a)
    · cases e1
      refine ⟨?_, fun x hx => by cases ow with | lst h _ => (rw [h] at hx; cases hx) | dct h _ => (rw [h] at hx; cases hx) | obj _ h _ _ _ _ => (rw [h] at hx; cases hx)⟩
      rcases hk : kdAt kd j with _ | _ | _
      · exact absurd hk kj
      · exact .inl (l hk)
      · exact .inr (p hk).2
  have rk := Rel.kills ar r
  cases cr with
  | no => exact PP.elim
  | exc c fs => exact fun cls d F' H' st xr => PP cls d F' H' st.ff (rk.step st apart own) xr
  | ok v outs =>
    intro u F' H' st ho hr
    have PP' : Post Γ kd en σ F (if lentOk e al v then (ret (ioSet e al outs) e).bind fun e2 _ => .ok v e2 else .no) T Q W := PP
    by_cases hl : lentOk e al v = true
    · rw [if_pos hl] at PP'
      cases hs : ioSet e al outs with
      | none => rw [hs] at PP'; exact PP'.elim
      | some e2 =>
        rw [hs] at PP'
        have r2 := rk.step st apart own
        have r3 : Rel Γ.K Γ.C kd en e2 σ F' H' := by
          refine ioSet_rel ar nd har (fun i hi => ?_) ho hs r2 fun j w kj hj a ha sj => apart j w a kj hj sj ha
          obtain ⟨w, hw⟩ := ar.live hv i hi
          refine ⟨lt_of_get hw, fun a sa => ?_⟩
          have ki := ar.nimm i hi
          obtain ⟨u', su, q⟩ := r.own i w ki hw
          rw [sa] at su; cases su
          rcases q with ⟨s, q⟩ | ⟨b, e1, owb, _, l, p⟩
          · exact absurd rfl ((scalar_of q s).1 a)
          · cases e1
            refine ⟨l, p, fun dx C0 fs hins => ?_⟩
            cases owb with
            | lst h _ => rw [h] at hins; cases hins
            | dct h _ => rw [h] at hins; cases hins
            | obj _ h _ _ x _ => rw [h] at hins; cases hins; exact x
        refine PP' u F' H' st.ff r3 (hT e2 F' H' v u ios r3 st hr fun i w a ki hi si => ?_)
        obtain ⟨w0, hw0⟩ : ∃ w0, e[i]? = some (some w0) := by
          rcases ioSet_live ar hs hi with h | h
          · exact ar.live hv i h
          · exact ⟨w, h⟩
        obtain ⟨u', su, q⟩ := r.own i w0 ki hw0
        rw [si] at su; cases su
        rcases q with ⟨s, q⟩ | ⟨b, e1, owb, _, l, p⟩
        · exact absurd rfl ((scalar_of q s).1 a)
        · cases e1; exact owb.there
    · rw [if_neg hl] at PP'; exact PP'.elim
theorem Compat.fn {n : Nat} {X : Cx} (cx : Compat Γ sc n X) {x : Str} {fn : Fn} {d : Def} {l : FnAt} (at' : At Γ x fn d l) : FnOk X.prog X.w X.K X.mg X.base (L2.CX X.prog X.w) (2 * n + 4) l.addr l.fd l.ps (spOf Γ n fn d) := by
  rw [cx.prog, cx.w, cx.K, cx.mg, cx.base]; exact cx.fns _ _ _ at'.hG at'.hl
theorem mCall_eq {fn : Fn} {as : M (List Arg)} {cl : Cl} {e : Env} : mCall fn as cl e = (as cl e).bind fun al e1 => match argVals e1 al with
  | none => .no
  | some vs => match cl fn vs with
    | .ok v ios => if lentOk e1 al v then (ret (ioSet e1 al ios) e1).bind fun e2 _ => .ok v e2 else .no
    | .exc c fs => .exc c fs (ioKill e1 al)
    | .no => .no := rfl
theorem sv_call {x : Str} {fn : Fn} {d : Def} {l : FnAt} {P : List (Option Nat)} {es : List Expr} {as : M (List Arg)} (at' : At Γ x fn d l) (hP : P.map Option.isSome = d.io) (nd : (slotsOf P).Nodup) (hfr : d.fresh = false)
    (hx : sc.names.lookup x = some .globalImplicit) (ha : SA Γ sc (a :: es) P as)
    (hdb : (x == ("__debug__" : Str)) = false := by decide) (he : ∀ env, starEach (a :: es) env = (false, eval a env) :: starEach es env := by intro _; rfl) (hpl : ∀ env, (backTo pos (starEach es env)).any (·.1) = false := by intro _; rfl) :
    SV Γ sc (.Call (.Name x p) (a :: es) [] pos) (mCall fn as) := by
  intro n X cx W tk en e σ F H r Q PP
  refine je (pe_callS (cx.fn at') (cx.room.mono (by omega)) (cx.gl hx) (by rw [cx.mg]; exact at'.hm) (by rw [cx.K]; exact at'.hk) (by rw [cx.K]; exact at'.hb) (passAt tk) JA.pa hdb (he _) (hpl _)) ?_
  refine ha cx tk r (Post.seq PP fun al e1 us F1 H1 s1 r1 ar P1 => ?_)
  cases hv : argVals e1 al with
  | none => rw [hv] at P1; exact P1.elim
  | some vs =>
    rw [hv] at P1
    obtain ⟨ios, har, cp⟩ := call_back (fr := false) r1 ar nd hv (fun e2 F' H' v u ios _ _ h _ => h) P1
    exact ⟨F1, vs, ios, r1.sub, hP ▸ har, hfr ▸ cp⟩
theorem sf_call {x : Str} {fn : Fn} {d : Def} {l : FnAt} {P : List (Option Nat)} {es : List Expr} {as : M (List Arg)} (at' : At Γ x fn d l) (hP : P.map Option.isSome = d.io) (nd : (slotsOf P).Nodup) (hfr : d.fresh = true)
    (hx : sc.names.lookup x = some .globalImplicit) (ha : SA Γ sc (a :: es) P as)
    (hdb : (x == ("__debug__" : Str)) = false := by decide) (he : ∀ env, starEach (a :: es) env = (false, eval a env) :: starEach es env := by intro _; rfl) (hpl : ∀ env, (backTo pos (starEach es env)).any (·.1) = false := by intro _; rfl) :
    SF Γ sc (.Call (.Name x p) (a :: es) [] pos) (mCall fn as) := by
  intro n X cx W tk en e σ F H r Q PP
  refine je (pe_callS (cx.fn at') (cx.room.mono (by omega)) (cx.gl hx) (by rw [cx.mg]; exact at'.hm) (by rw [cx.K]; exact at'.hk) (by rw [cx.K]; exact at'.hb) (passAt tk) JA.pa hdb (he _) (hpl _)) ?_
  refine ha cx tk r (Post.seq PP fun al e1 us F1 H1 s1 r1 ar P1 => ?_)
  cases hv : argVals e1 al with
  | none => rw [hv] at P1; exact P1.elim
  | some vs =>
    rw [hv] at P1
    have key : ∀ (e2 : Env) (F' H' : Hp) (v : Val) (u : V) (ios : List Addr), Rel Γ.K Γ.C sc.kd en e2 σ F' H' → Step F1 H1 F' H' ios → (if true = true then NewV Γ.K Γ.C H1 F' H' ios v u else VR Γ.K Γ.C F' v u) →
        (∀ (i : Nat) (w : Val) (a : Addr), kdAt sc.kd i ≠ .imm → e2[i]? = some (some w) → σ[i]? = some (some (.ref a)) → H1 a ≠ none) → TF Γ sc.kd en σ e2 F' H' v u := by
      intro e2 F' H' v u ios r2 st h live
      have h : NewV Γ.K Γ.C H1 F' H' ios v u := h
      rcases h with h | ⟨q, rfl, ow, n, hn, _⟩
      · exact .inl h
      · have old : ∀ z, H1 z = none → en.H0 z = none := fun z hz => by
          cases w : en.H0 z with
          | none => rfl
          | some o => exact absurd hz (r1.b3 z (by rw [w]; simp))
        exact .inr ⟨q, rfl, ow.any fun dx _ _ _ hd => ⟨fun _ => old dx hd, fun z => nomatch z⟩, n, old q hn, fun i w k hi si => live i w q k hi si hn⟩
    obtain ⟨ios, har, cp⟩ := call_back (fr := true) r1 ar nd hv key P1
    exact ⟨F1, vs, ios, r1.sub, hP ▸ har, hfr ▸ cp⟩
theorem sv_call0 {x : Str} {fn : Fn} {d : Def} {l : FnAt} (at' : At Γ x fn d l) (hP : d.io = []) (hfr : d.fresh = false) (hx : sc.names.lookup x = some .globalImplicit) (hdb : (x == ("__debug__" : Str)) = false := by decide) :
    SV Γ sc (.Call (.Name x p) [] [] pos) (mCall fn aNil) := by
  intro n X cx W tk en e σ F H r Q PP
  have run : spOf Γ n fn d [] H Q (WE W σ) := by
    obtain ⟨ios, har, cp⟩ := call_back (P := []) (al := []) (us := []) (vs := []) (fr := false) (T := TV Γ) r .nil .nil rfl (fun e2 F' H' v u ios _ _ h _ => h) (W := W) (Q := Q) (cr := callN Γ.G n fn []) PP
    exact ⟨F, [], ios, r.sub, hP ▸ har, hfr ▸ cp⟩
  intro pins s I
  refine wpAny_Call_Name_kw (ld_glob I (cx.gl hx) (by rw [cx.mg]; exact at'.hm) ?_ hdb)
  exact PySem.W.callWith_K0 I.kIn (by rw [cx.K]; exact at'.hk) (run_fnS (us := []) (cx.fn at') (cx.room.mono (by omega)) (by rw [cx.K]; exact at'.hb) (passAt tk σ) I .nil run)
end
end CG
end
section
set_option Elab.async false
set_option linter.all false
set_option maxRecDepth 100000
set_option autoImplicit false
/-! CG9: statements; defs. -/
namespace CG
open PySem PySem.Spec L2
section
variable {K : PySem.W.Frag} {C : Str → Option Addr} {kd : Kds} {en : Ent} {e : Env} {σ : L2.St} {F H F' H' : Hp}
/-- a value for the slot i -/
def TX (K : PySem.W.Frag) (C : Str → Option Addr) (kd : Kds) (en : Ent) (σ : L2.St) (i : Nat) (e : Env) (F H : Hp) (v : Val) (u : V) : Prop := (kdAt kd i = .imm ∧ VR K C F v u) ∨ (kdAt kd i = .loc ∧ Fresh K C kd en e σ F H v u)
theorem Rel.store {i : Nat} {v : Val} {u : V} (r : Rel K C kd en e σ F H) (t : TX K C kd en σ i e F H v u) : Rel K C kd en (e.set i (some v)) (σ.set i (some u)) F H := by
  rcases t with ⟨k, t⟩ | ⟨k, t⟩
  · exact r.setImm k t
  · exact r.setOwn k t
/-- a new value is kept while others are reckoned -/
theorem Rel.holdF {v : Val} {u : V} (r : Rel K C kd en e σ F H) (t : Fresh K C kd en e σ F H v u) : ∃ en' : Ent, Rel K C kd en' e σ F H ∧ ∀ (e' : Env) (σ' : L2.St) (F' H' : Hp), Same F F' → Rel K C kd en' e' σ' F' H' → Rel K C kd en e' σ' F' H' ∧ Fresh K C kd en e' σ' F' H' v u := by
  rcases t with ⟨s, t⟩ | ⟨a, rfl, ow, n, l, ap⟩
  · exact ⟨en, r, fun e' σ' F' H' s' r' => ⟨r', .inl ⟨s, t.mono s'⟩⟩⟩
  -- its own objects count as the entry's
  have main : ∀ (M : Addr → Prop) [DecidablePred M], M a → (∀ q, M q → en.H0 q = none ∧ F q = none ∧ H q ≠ none) → (∀ q, M q → q ≠ a → H q = some (.own a)) → (∀ (F' H' : Hp), Same F F' → (∀ q, M q → H' q = H q ∧ F' q = none) → OW K C F' H' (Nw en .loc a) v a) →
      ∃ en' : Ent, Rel K C kd en' e σ F H ∧ ∀ (e' : Env) (σ' : L2.St) (F' H' : Hp), Same F F' → Rel K C kd en' e' σ' F' H' → Rel K C kd en e' σ' F' H' ∧ Fresh K C kd en e' σ' F' H' v (.ref a) := by
    intro M _ ha hM hq hO
    have nio : ∀ q, M q → q ∉ en.io := fun q hm hi => r.b5 q hi (hM q hm).1
    refine ⟨⟨en.F0, fun q => if M q then H q else en.H0 q, en.io, en.P⟩, ⟨r.sub, r.len, r.imm, fun j w kj hj => ?_, r.sep, fun q o hq' hn => ?_, fun q hq' => ?_, fun q hq' => ?_, r.b4, fun q hq' => ?_⟩, fun e' σ' F' H' s r' => ?_⟩
    · obtain ⟨u, su, q⟩ := r.own j w kj hj
      refine ⟨u, su, ?_⟩
      rcases q with q | ⟨b, rfl, ob, nb, lb, pb⟩
      · exact .inl q
      · have hba : b ≠ a := fun z => ap j w kj hj (by rw [← z]; exact su)
        have nMb : ¬ M b := fun hm => by
          have := hq b hm hba
          cases ob with
          | lst z _ => rw [this] at z; cases z
          | dct z _ => rw [this] at z; cases z
          | obj _ z _ _ _ _ => rw [this] at z; cases z
        refine .inr ⟨b, rfl, ob.any fun dx C0 fs hb hd => ⟨fun hk => ?_, fun hk => ?_⟩, nb, fun hk => ?_, pb⟩
        · show (if M dx then H dx else en.H0 dx) = none
          rw [if_neg ?_]
          · exact hd.1 hk
          · intro hm
            by_cases hda : dx = a
            · cases ob with
              | lst z _ => rw [hb] at z; cases z
              | dct z _ => rw [hb] at z; cases z
              | obj _ z zd _ _ _ =>
                rw [hb] at z; cases z
                rw [hda] at zd
                cases ow with
                | lst y _ => rw [y] at zd; cases zd
                | dct y _ => rw [y] at zd; cases zd
                | obj _ y _ _ _ _ => rw [y] at zd; cases zd
            · have h1 := hq dx hm hda
              cases ob with
              | lst z _ => rw [hb] at z; cases z
              | dct z _ => rw [hb] at z; cases z
              | obj _ z zd _ _ _ =>
                rw [hb] at z; cases z
                rw [h1] at zd; cases zd; exact hba rfl
        · obtain ⟨C1, fs1, h1⟩ := hd.2 hk
          exact ⟨C1, fs1, by show (if M b then H b else en.H0 b) = _; rw [if_neg nMb]; exact h1⟩
        · show (if M b then H b else en.H0 b) = none
          rw [if_neg nMb]; exact lb hk
    · have hq' : (if M q then H q else en.H0 q) = some o := hq'
      by_cases hm : M q
      · rw [if_pos hm] at hq'; exact hq'
      · rw [if_neg hm] at hq'; exact r.b1 q o hq' hn
    · rcases r.b2 q hq' with h | h
      · exact .inl h
      · by_cases hm : M q
        · exact absurd (hM q hm).2.1 hq'
        · right; show (if M q then H q else en.H0 q) = none; rw [if_neg hm]; exact h
    · have hq' : (if M q then H q else en.H0 q) ≠ none := hq'
      by_cases hm : M q
      · exact (hM q hm).2.2
      · rw [if_neg hm] at hq'; exact r.b3 q hq'
    · show (if M q then H q else en.H0 q) ≠ none
      rw [if_neg (fun hm => nio q hm hq')]; exact r.b5 q hq'
    · have old : ∀ q, (if M q then H q else en.H0 q) = none → ¬ M q ∧ en.H0 q = none := fun q h => by
        by_cases hm : M q
        · rw [if_pos hm] at h; exact absurd h (hM q hm).2.2
        · rw [if_neg hm] at h; exact ⟨hm, h⟩
      have keep : ∀ q, M q → H' q = H q ∧ F' q = none := fun q hm => by
        constructor
        · cases z : H q with
          | none => exact absurd z (hM q hm).2.2
          | some o => exact r'.b1 q o (by show (if M q then H q else en.H0 q) = _; rw [if_pos hm]; exact z) (nio q hm)
        · cases z : F' q with
          | none => rfl
          | some o =>
            rcases r'.b2 q (by rw [z]; simp) with h | h
            · exact absurd (r.b4.free (hM q hm).2.1) h
            · exact absurd hm (old q h).1
      refine ⟨⟨r'.sub, r'.len, r'.imm, fun j w kj hj => ?_, r'.sep, fun q o hq' hn => ?_, fun q hq' => ?_, fun q hq' => ?_, r'.b4, r.b5⟩, .inr ⟨a, rfl, hO F' H' s keep, (keep a ha).2, l, fun j w kj hj sj => ?_⟩⟩
      · obtain ⟨u, su, q⟩ := r'.own j w kj hj
        refine ⟨u, su, ?_⟩
        rcases q with q | ⟨b, rfl, ob, nb, lb, pb⟩
        · exact .inl q
        · refine .inr ⟨b, rfl, ob.any fun dx C0 fs hb hd => ⟨fun hk => (old dx (hd.1 hk)).2, fun hk => ?_⟩, nb, fun hk => (old b (lb hk)).2, pb⟩
          obtain ⟨C1, fs1, h1⟩ := hd.2 hk
          have h1 : (if M b then H b else en.H0 b) = _ := h1
          rw [if_neg (fun hm => nio b hm (pb hk).2)] at h1
          exact ⟨C1, fs1, h1⟩
      · refine r'.b1 q o ?_ hn
        show (if M q then H q else en.H0 q) = _
        rw [if_neg (fun hm => by rw [(hM q hm).1] at hq'; cases hq')]; exact hq'
      · rcases r'.b2 q hq' with h | h
        · exact .inl h
        · exact .inr (old q h).2
      · refine r'.b3 q ?_
        show (if M q then H q else en.H0 q) ≠ none
        rw [if_neg (fun hm => hq' (hM q hm).1)]; exact hq'
      · obtain ⟨u, su, q⟩ := r'.own j w kj hj
        rw [sj] at su; cases su
        rcases q with ⟨s1, q⟩ | ⟨b, e1, ob, nb, lb, pb⟩
        · exact absurd rfl ((scalar_of q s1).1 a)
        · cases e1
          rcases hk : kdAt kd j with _ | _ | _
          · exact absurd hk kj
          · exact (old a (lb hk)).1 ha
          · exact nio a ha (pb hk).2
  cases ow with
  | @lst _ us vs h hv =>
    refine main (fun q => q = a) rfl (fun q hq => by subst hq; exact ⟨l, n, by rw [h]; simp⟩) (fun q h1 h2 => absurd h1 h2) fun F' H' s kp => .lst ((kp a rfl).1.trans h) (hv.mono s)
  | @dct _ us vs h hv =>
    refine main (fun q => q = a) rfl (fun q hq => by subst hq; exact ⟨l, n, by rw [h]; simp⟩) (fun q h1 h2 => absurd h1 h2) fun F' H' s kp => .dct ((kp a rfl).1.trans h) (hv.mono s)
  | @obj _ dx c Ca fus fs hc h d nd x hv =>
    refine main (fun q => q = a ∨ q = dx) (.inl rfl) (fun q hq => ?_) (fun q h1 h2 => ?_) fun F' H' s kp => .obj hc ((kp a (.inl rfl)).1.trans h) ((kp dx (.inr rfl)).1.trans d) (kp dx (.inr rfl)).2 x (hv.mono s)
    · rcases hq with rfl | rfl
      · exact ⟨l, n, by rw [h]; simp⟩
      · exact ⟨x.1 rfl, nd, by rw [d]; simp⟩
    · rcases h1 with rfl | rfl
      · exact absurd rfl h2
      · exact d
theorem Rel.hold {i : Nat} {v : Val} {u : V} (r : Rel K C kd en e σ F H) (t : TX K C kd en σ i e F H v u) : ∃ en' : Ent, Rel K C kd en' e σ F H ∧ ∀ (e' : Env) (σ' : L2.St) (F' H' : Hp), Same F F' → Rel K C kd en' e' σ' F' H' → Rel K C kd en e' σ' F' H' ∧ TX K C kd en σ' i e' F' H' v u := by
  rcases t with ⟨k, t⟩ | ⟨k, t⟩
  · exact ⟨en, r, fun e' σ' F' H' s r' => ⟨r', .inl ⟨k, t.mono s⟩⟩⟩
  · obtain ⟨en', r', back⟩ := r.holdF t
    exact ⟨en', r', fun e' σ' F' H' s r2 => ⟨(back e' σ' F' H' s r2).1, .inr ⟨k, (back e' σ' F' H' s r2).2⟩⟩⟩
end

/-! ### the judgement -/
structure SCx (X : Cx) : Prop where
  own : PassesOwn (model X.prog X.w) X.A X.env X.xe
  stk : X.stack = X.env :: X.outer
  frm : X.env.frame = some X.env.locals
  ex : X.ex = []
def JS (X : Cx) (st : Stmt) (D : Ends) (σ : L2.St) (H : Hp) : Prop := ∀ (pins : List (Addr × Obj)) (s : Shared), Inv X pins σ H s → wpAny (model X.prog X.w) X.A (exec st X.env) (SP X pins D) X.xe s
def JSs (X : Cx) (st : List Stmt) (D : Ends) (σ : L2.St) (H : Hp) : Prop := ∀ (pins : List (Addr × Obj)) (s : Shared), Inv X pins σ H s → wpAny (model X.prog X.w) X.A (execs st X.env) (SP X pins D) X.xe s
theorem JS.ps {X : Cx} {st : Stmt} : PS X st (JS X st) := ⟨fun pins s _ _ _ I h => h pins s I⟩
theorem JSs.ps {X : Cx} {st : List Stmt} : PSs X st (JSs X st) := ⟨fun pins s _ _ _ I h => h pins s I⟩
theorem js {X : Cx} {st : Stmt} {t : TS} {D : Ends} {σ : L2.St} {H : Hp} (h : PS X st t) (q : t D σ H) : JS X st D σ H := fun pins s I => h.run pins s σ H D I q
theorem jss {X : Cx} {st : List Stmt} {t : TS} {D : Ends} {σ : L2.St} {H : Hp} (h : PSs X st t) (q : t D σ H) : JSs X st D σ H := fun pins s I => h.run pins s σ H D I q
def JI (X : Cx) (tg it : Expr) (σ : L2.St) (H : Hp) (R : It → Hp → Prop) : Prop := ∀ (pins : List (Addr × Obj)) (s : Shared), Inv X pins σ H s →
  wpAny (model X.prog X.w) X.A (eval it X.env) (fun v s1 => wpAny (model X.prog X.w) X.A (pyIter v) (PIE X pins σ tg R) X.xe s1) X.xe s
theorem JI.pi {X : Cx} {tg it : Expr} : PI X tg it (JI X tg it) := ⟨fun pins s _ _ _ I h => h pins s I⟩
theorem ji {X : Cx} {tg it : Expr} {t : TI} {σ : L2.St} {H : Hp} {R : It → Hp → Prop} (h : PI X tg it t) (q : t σ H R) : JI X tg it σ H R := fun pins s I => h.run pins s σ H R I q
def JG (X : Cx) (tg : Expr) : TG := fun u σ H Q => ∀ (pins : List (Addr × Obj)) (s : Shared) (w : Value), Inv X pins σ H s → RelV u w → wpAny (model X.prog X.w) X.A (assign tg X.env w) (fun _ s' => ∃ σ' H', Inv X pins σ' H' s' ∧ Q σ' H') X.xe s
theorem JG.pg {X : Cx} {tg : Expr} : PG X tg (JG X tg) := ⟨fun pins s _ _ _ _ _ I r h => h pins s _ I r⟩
theorem jg {X : Cx} {tg : Expr} {g : TG} {u : V} {σ : L2.St} {H : Hp} {Q : L2.St → Hp → Prop} (h : PG X tg g) (q : g u σ H Q) : JG X tg u σ H Q := fun pins s w I r => h.run pins s σ H u w Q I r q

def PostS (Γ : GX) (kd : Kds) (en : Ent) (F : Hp) (fr : Bool) (r : RS) (D : Ends) (W : WX) : Prop := match r with
  | .next e => ∀ σ F' H', Same F F' → Rel Γ.K Γ.C kd en e σ F' H' → D.nx σ H'
  | .ret v e => ∀ u σ F' H', Same F F' → Rel Γ.K Γ.C kd en e σ F' H' → (if fr = true then Fresh Γ.K Γ.C kd en e σ F' H' v u else VR Γ.K Γ.C F' v u) → D.rt u H'
  | .exc c fs e => ∀ cls d σ F' H', Same F F' → Rel Γ.K Γ.C kd en e σ F' H' → XR Γ F' H' c fs cls d → W cls d σ H'
  | .no => False
section
variable {Γ : GX} {kd : Kds} {en : Ent} {σ : L2.St} {F : Hp} {α β : Type} {W : WX} {D : Ends} {fr : Bool}
theorem PostS.mono {F' : Hp} {r : RS} (P : PostS Γ kd en F fr r D W) (h : Same F F') : PostS Γ kd en F' fr r D W := by
  cases r with
  | next e => exact fun σ F2 H2 s => P σ F2 H2 (h.trans s)
  | ret v e => exact fun u σ F2 H2 s => P u σ F2 H2 (h.trans s)
  | exc c fs e => exact fun cls d σ F2 H2 s => P cls d σ F2 H2 (h.trans s)
  | no => exact P
theorem PostS.toS {r : R α} {g : α → Env → RS} {T1 : Env → Hp → Hp → α → β → Prop} {Q1 : β → Hp → Prop} (P : PostS Γ kd en F fr (r.toS g) D W)
    (h : ∀ v e1 u F1 H1, Same F F1 → Rel Γ.K Γ.C kd en e1 σ F1 H1 → T1 e1 F1 H1 v u → PostS Γ kd en F1 fr (g v e1) D W → Q1 u H1) : Post Γ kd en σ F r T1 Q1 W := by
  cases r with
  | ok v e => exact fun u F1 H1 s1 r1 t1 => h v e u F1 H1 s1 r1 t1 (PostS.mono P s1)
  | exc c fs e => exact fun cls d F' H' => P cls d σ F' H'
  | no => exact P
theorem PostS.seq {r : RS} {f : Env → RS} {nx : L2.St → Hp → Prop} {bk ct : L2.St → Hp → Prop} (P : PostS Γ kd en F fr (r.then f) D W) (h : ∀ e1 σ1 F1 H1, Same F F1 → Rel Γ.K Γ.C kd en e1 σ1 F1 H1 → PostS Γ kd en F1 fr (f e1) D W → nx σ1 H1) :
    PostS Γ kd en F fr r { nx := nx, rt := D.rt, bk := bk, ct := ct } W := by
  cases r with
  | next e => exact fun σ F1 H1 s1 r1 => h e σ F1 H1 s1 r1 (PostS.mono P s1)
  | ret v e => exact P
  | exc c fs e => exact P
  | no => exact P
end
def SS (Γ : GX) (sc : Sc) (fr : Bool) (st : Stmt) (f : S) : Prop := ∀ ⦃n : Nat⦄ ⦃X : Cx⦄, Compat Γ sc n X → SCx X → ∀ {W : WX}, Takes X W → ∀ {en : Ent} {e : Env} {σ : L2.St} {F H : Hp}, Rel Γ.K Γ.C sc.kd en e σ F H →
  ∀ {D : Ends}, PostS Γ sc.kd en F fr (f (callN Γ.G n) e) D W → JS X st D σ H
def SSs (Γ : GX) (sc : Sc) (fr : Bool) (st : List Stmt) (f : S) : Prop := ∀ ⦃n : Nat⦄ ⦃X : Cx⦄, Compat Γ sc n X → SCx X → ∀ {W : WX}, Takes X W → ∀ {en : Ent} {e : Env} {σ : L2.St} {F H : Hp}, Rel Γ.K Γ.C sc.kd en e σ F H →
  ∀ {D : Ends}, PostS Γ sc.kd en F fr (f (callN Γ.G n) e) D W → JSs X st D σ H
/-- a value for the slot i -/
def SX (Γ : GX) (sc : Sc) (i : Nat) (ex : Expr) (f : M Val) : Prop := (kdAt sc.kd i = .imm ∧ SV Γ sc ex f) ∨ (kdAt sc.kd i = .loc ∧ SF Γ sc ex f)
section
variable {Γ : GX} {sc : Sc} {fr : Bool} {ex a b c : Expr} {f g h : M Val} {pos p : Pos} {st : Stmt} {rest : List Stmt} {u v : S}
theorem SX.run {i : Nat} (hx : SX Γ sc i ex f) {n : Nat} {X : Cx} (cx : Compat Γ sc n X) {W : WX} (tk : Takes X W) {en : Ent} {e : Env} {σ : L2.St} {F H : Hp} (r : Rel Γ.K Γ.C sc.kd en e σ F H)
    {Q : VK} (P : Post Γ sc.kd en σ F (f (callN Γ.G n) e) (TX Γ.K Γ.C sc.kd en σ i) Q W) : JE X ex σ H Q := by
  rcases hx with ⟨k, hx⟩ | ⟨k, hx⟩
  · refine hx cx tk r ?_
    cases hr : f (callN Γ.G n) e with
    | ok v e1 => rw [hr] at P; exact fun u F1 H1 s1 r1 t1 => P u F1 H1 s1 r1 (.inl ⟨k, t1⟩)
    | exc c fs e1 => rw [hr] at P; exact P
    | no => rw [hr] at P; exact P
  · refine hx cx tk r ?_
    cases hr : f (callN Γ.G n) e with
    | ok v e1 => rw [hr] at P; exact fun u F1 H1 s1 r1 t1 => P u F1 H1 s1 r1 (.inr ⟨k, t1⟩)
    | exc c fs e1 => rw [hr] at P; exact P
    | no => rw [hr] at P; exact P
theorem sss_nil : SSs Γ sc fr [] sPass := by
  intro n X cx sx W tk en e σ F H r D P
  exact jss pss_nil (P σ F H (Same.refl _) r)
theorem sss_cons (h1 : SS Γ sc fr st u) (h2 : SSs Γ sc fr rest v) : SSs Γ sc fr (st :: rest) (sSeq u v) := by
  intro n X cx sx W tk en e σ F H r D P
  exact jss (pss_cons JS.ps JSs.ps) (h1 cx sx tk r (PostS.seq P fun e1 σ1 F1 H1 s1 r1 P1 => h2 cx sx tk r1 P1))
theorem sss_one (h1 : SS Γ sc fr st u) : SSs Γ sc fr [st] u := by
  intro n X cx sx W tk en e σ F H r D P
  exact jss (pss_one JS.ps) (h1 cx sx tk r P)
theorem ss_pass : SS Γ sc fr (.Pass pos) sPass := by
  intro n X cx sx W tk en e σ F H r D P
  exact js ps_pass (P σ F H (Same.refl _) r)
theorem ss_doc {x : Str} {j : Nat} {p' : Pos} : SS Γ sc fr (.Expr (.Constant (.str x) j pos) p') sPass := by
  intro n X cx sx W tk en e σ F H r D P
  exact js ps_doc (P σ F H (Same.refl _) r)
theorem ss_expr (hf : SV Γ sc ex f) (hs : ∀ env, swapsWith ex none pos.line env = pure false := by intro _; rfl) : SS Γ sc fr (.Expr ex pos) (sExpr f) := by
  intro n X cx sx W tk en e σ F H r D P
  refine js (ps_expr JE.pe (hs _)) ?_
  refine hf cx tk r (PostS.toS P fun v e1 u F1 H1 s1 r1 t1 P1 => ?_)
  exact P1 σ F1 H1 (Same.refl _) r1
theorem ss_ret (hf : SV Γ sc ex f) : SS Γ sc false (.Return (some ex) pos) (sRet f) := by
  intro n X cx sx W tk en e σ F H r D P
  refine js (ps_ret JE.pe) ?_
  refine hf cx tk r (PostS.toS P fun v e1 u F1 H1 s1 r1 t1 P1 => ?_)
  exact P1 u σ F1 H1 (Same.refl _) r1 t1
theorem ss_retF (hf : SF Γ sc ex f) : SS Γ sc true (.Return (some ex) pos) (sRet f) := by
  intro n X cx sx W tk en e σ F H r D P
  refine js (ps_ret JE.pe) ?_
  refine hf cx tk r (PostS.toS P fun v e1 u F1 H1 s1 r1 t1 P1 => ?_)
  exact P1 u σ F1 H1 (Same.refl _) r1 t1
theorem ss_if {sa sb : List Stmt} (hc : ST Γ sc ex f) (ha : SSs Γ sc fr sa u) (hb : SSs Γ sc fr sb v) : SS Γ sc fr (.If ex sa sb pos) (sIf f u v) := by
  intro n X cx sx W tk en e σ F H r D P
  refine js (ps_if JT.pt JSs.ps JSs.ps) ?_
  refine hc cx tk r (PostS.toS P fun v e1 u F1 H1 s1 r1 t1 P1 => ?_)
  have t1 : v = u := t1
  subst t1
  by_cases hv : v = true
  · rw [if_pos hv] at P1 ⊢; exact ha cx sx tk r1 P1
  · rw [if_neg hv] at P1 ⊢; exact hb cx sx tk r1 P1
/-! ### stores -/
abbrev LocN (sc : Sc) (i : Nat) (x : Str) : Prop := sc.N[i]? = some x ∧ sc.names.lookup x = some .local
/-- .. or one that a comprehension sees -/
abbrev LocC (sc : Sc) (i : Nat) (x : Str) : Prop := sc.N[i]? = some x ∧ (sc.names.lookup x = some .local ∨ sc.names.lookup x = some .cell)
theorem Compat.lcl {n : Nat} {X : Cx} (cx : Compat Γ sc n X) {x : Str} (h : sc.names.lookup x = some .local) : X.env.scope.names.lookup x = some .local := by
  rcases cx.nm x _ h with q | ⟨q, _⟩
  · exact q
  · cases q
theorem Compat.fnl {n : Nat} {X : Cx} (cx : Compat Γ sc n X) {x : Str} (h : sc.names.lookup x = some .local ∨ sc.names.lookup x = some .cell) : X.fn x = true ∨ X.env.scope.names.lookup x = some .local := by
  rcases h with h | h
  · exact .inr (cx.lcl h)
  · exact .inl (cx.fnc x h)
theorem ss_set {i : Nat} {x : Str} (hi : LocC sc i x) (hf : SX Γ sc i ex f) (hs : ∀ env, swapsWith ex (some (.Name x p)) pos.line env = pure false := by intro _; rfl) : SS Γ sc fr (.Assign [.Name x p] ex pos) (sAsg (bindName i) f) := by
  intro n X cx sx W tk en e σ F H r D P
  refine js (ps_set cx.nd (by rw [cx.N]; exact hi.1) (cx.locn hi.2) JE.pe (hs _) (cx.fnl hi.2)) ?_
  refine hf.run cx tk r (PostS.toS P fun v e1 u F1 H1 s1 r1 t1 P1 => ?_)
  unfold bindName at P1
  by_cases hl : i < e1.length
  · rw [if_pos hl] at P1
    exact P1 _ F1 H1 (Same.refl _) (r1.store t1)
  · rw [if_neg hl] at P1; exact P1.elim
theorem swap2 {env : PySem.Env} {x y : Str} {px py pt pt2 : Pos} {kt k2 : Nat} {a b : Expr} (hb : env.blockKind = .function) (hx : env.kindOf x = some .local) (hy : env.kindOf y = some .local) (hxy : (y == x) = false) (hl : (px.line == py.line) = true)
   (hs : ([a, b].any fun | .Starred .. => true | _ => false) = false) (hf : [a, b].all (foldedForSure 8) = false) (hc : [a, b].all (constantsAlone 8) = false) :
   swappedStores [.Tuple [.Name x px, .Name y py] kt pt] (.Tuple [a, b] k2 pt2) env = pure (some [x, y]) := by
  have hl : py.line = px.line := by have := beq_iff_eq.mp hl; exact this.symm
  unfold swappedStores
  simp only [hf, hc, List.filterMap_cons, List.filterMap_nil, hx, hy, hb, Expr.pos, List.head?, Option.map, Option.getD, hl, List.length]
  simp [List.eraseDups, List.eraseDupsBy, List.eraseDupsBy.loop, hxy]
  intro h
  exfalso
  rcases h with h | h <;> split at h <;> simp at h hs
theorem swap3 {env : PySem.Env} {x y z : Str} {px py pz pt pt2 : Pos} {kt k2 : Nat} {a b c : Expr} (hb : env.blockKind = .function) (hx : env.kindOf x = some .local) (hy : env.kindOf y = some .local) (hz : env.kindOf z = some .local) (hxy : (y == x) = false) (hxz : (z == x) = false) (hyz : (z == y) = false) (hl : (px.line == py.line) = true) (hl2 : (px.line == pz.line) = true)
   (hs : ([a, b, c].any fun | .Starred .. => true | _ => false) = false) (hf : [a, b, c].all (foldedForSure 8) = false) (hc : [a, b, c].all (constantsAlone 8) = false) :
   swappedStores [.Tuple [.Name x px, .Name y py, .Name z pz] kt pt] (.Tuple [a, b, c] k2 pt2) env = pure (some [x, y, z]) := by
  have hl : py.line = px.line := by have := beq_iff_eq.mp hl; exact this.symm
  have hl2 : pz.line = px.line := by have := beq_iff_eq.mp hl2; exact this.symm
  unfold swappedStores
  simp only [hf, hc, List.filterMap_cons, List.filterMap_nil, hx, hy, hz, hb, Expr.pos, List.head?, Option.map, Option.getD, hl, hl2, List.length]
  simp [List.eraseDups, List.eraseDupsBy, List.eraseDupsBy.loop, hxy, hxz, hyz]
  intro h
  exfalso
  rcases h with h | h | h <;> split at h <;> simp at h hs
theorem swapF {env : PySem.Env} {ts vs : List Expr} {kt k2 : Nat} {pt pt2 : Pos} (h : vs.all (foldedForSure 8) = true) : swappedStores [.Tuple ts kt pt] (.Tuple vs k2 pt2) env = pure none := by
  unfold swappedStores
  simp only [h]
  repeat' (first | rfl | split)
/-- a, b = x, y -/
def sPar2 (i j : Nat) (f g : M Val) : S := fun cl e => (f cl e).toS fun v e1 => (g cl e1).toS fun w e2 => if i < e2.length ∧ j < e2.length then .next ((e2.set j (some w)).set i (some v)) else .no
def sPar3 (i j l : Nat) (f g h : M Val) : S := fun cl e => (f cl e).toS fun v e1 => (g cl e1).toS fun w e2 => (h cl e2).toS fun z e3 => if i < e3.length ∧ j < e3.length ∧ l < e3.length then .next (((e3.set l (some z)).set j (some w)).set i (some v)) else .no
theorem ss_par2 {i j : Nat} {x y : Str} {px py pt : Pos} {kt k2 : Nat} {pt2 : Pos} (hi : LocN sc i x) (hj : LocN sc j y) (hij : i ≠ j) (hf : SX Γ sc i a f) (hg : SX Γ sc j b g)
    (hxy : (y == x) = false) (hl : (px.line == py.line) = true) (hst : ([a, b].any fun | .Starred .. => true | _ => false) = false) (hfo : [a, b].all (foldedForSure 8) = false) (hco : [a, b].all (constantsAlone 8) = false)
    (hs : ∀ env, starEach [a, b] env = [(false, eval a env), (false, eval b env)] := by intro _; rfl)
    (hs1 : ∀ env, starEach [b] env = [(false, eval b env)] := by intro _; rfl)
    (hsw : ∀ env, swapsWithSole [.Tuple [.Name x px, .Name y py] kt pt] (.Tuple [a, b] k2 pt2) pos.line env = pure false := by intro _; rfl) :
    SS Γ sc fr (.Assign [.Tuple [.Name x px, .Name y py] kt pt] (.Tuple [a, b] k2 pt2) pos) (sPar2 i j f g) := by
  intro n X cx sx W tk en e σ F H r D P pins s0 I0
  refine js (ps_par cx.calm cx.nd (by rw [cx.N]; exact hi.1) (by rw [cx.N]; exact hj.1) hij (cx.lcl hi.2) (cx.lcl hj.2) (pa_cons JE.pe (pa_cons JE.pe pa_nil (by rw [hs1]; rfl)) (by rw [hs, hs1])) (swap2 (by unfold PySem.Env.blockKind; rw [I0.ok.kind]; rfl)  (cx.lcl hi.2) (cx.lcl hj.2) hxy hl hst hfo hco) (hsw _)) ?_ pins s0 I0
  refine hf.run cx tk r (PostS.toS P fun v e1 u F1 H1 s1 r1 t1 P1 => ?_)
  obtain ⟨en', r1', back⟩ := r1.hold t1
  refine hg.run cx tk r1' ?_
  cases hr : g (callN Γ.G n) e1 with
  | no => rw [hr] at P1; exact P1.elim
  | exc c fs e2 => rw [hr] at P1; exact fun cls d F2 H2 s2 r2 x2 => P1 cls d σ F2 H2 s2 (back _ _ _ _ s2 r2).1 x2
  | ok w e2 =>
    rw [hr] at P1
    intro u2 F2 H2 s2 r2 t2
    have P1 : PostS Γ sc.kd en F1 fr (if i < e2.length ∧ j < e2.length then .next ((e2.set j (some w)).set i (some v)) else .no) D W := P1
    by_cases hl : i < e2.length ∧ j < e2.length
    · rw [if_pos hl] at P1
      refine ⟨u, u2, rfl, ?_⟩
      rw [List.set_comm _ _ hij]
      obtain ⟨r4, t4⟩ := back _ _ _ _ s2 (r2.store t2)
      exact P1 _ F2 H2 s2 (r4.store t4)
    · rw [if_neg hl] at P1; exact P1.elim
theorem ss_par3 {i j l : Nat} {x y z : Str} {px py pz pt : Pos} {kt k2 : Nat} {pt2 : Pos} (hi : LocN sc i x) (hj : LocN sc j y) (hl : LocN sc l z) (hij : i ≠ j) (hil : i ≠ l) (hjl : j ≠ l) (hf : SX Γ sc i a f) (hg : SX Γ sc j b g) (hh : SX Γ sc l c h)
    (hxy : (y == x) = false) (hxz : (z == x) = false) (hyz : (z == y) = false) (hln : (px.line == py.line) = true) (hln2 : (px.line == pz.line) = true) (hst : ([a, b, c].any fun | .Starred .. => true | _ => false) = false) (hfo : [a, b, c].all (foldedForSure 8) = false) (hco : [a, b, c].all (constantsAlone 8) = false)
    (hs : ∀ env, starEach [a, b, c] env = [(false, eval a env), (false, eval b env), (false, eval c env)] := by intro _; rfl)
    (hs1 : ∀ env, starEach [b, c] env = [(false, eval b env), (false, eval c env)] := by intro _; rfl)
    (hs2 : ∀ env, starEach [c] env = [(false, eval c env)] := by intro _; rfl)
    (hsw : ∀ env, swapsWithSole [.Tuple [.Name x px, .Name y py, .Name z pz] kt pt] (.Tuple [a, b, c] k2 pt2) pos.line env = pure false := by intro _; rfl) :
    SS Γ sc fr (.Assign [.Tuple [.Name x px, .Name y py, .Name z pz] kt pt] (.Tuple [a, b, c] k2 pt2) pos) (sPar3 i j l f g h) := by
  intro n X cx sx W tk en e σ F H r D P pins s0 I0
  refine js (ps_par3 cx.calm cx.nd (by rw [cx.N]; exact hi.1) (by rw [cx.N]; exact hj.1) (by rw [cx.N]; exact hl.1) hij hil hjl (cx.lcl hi.2) (cx.lcl hj.2) (cx.lcl hl.2) (pa_cons JE.pe (pa_cons JE.pe (pa_cons JE.pe pa_nil (by rw [hs2]; rfl)) (by rw [hs1, hs2])) (by rw [hs, hs1])) (swap3 (by unfold PySem.Env.blockKind; rw [I0.ok.kind]; rfl)  (cx.lcl hi.2) (cx.lcl hj.2) (cx.lcl hl.2) hxy hxz hyz hln hln2 hst hfo hco) (hsw _)) ?_ pins s0 I0
  refine hf.run cx tk r (PostS.toS P fun v e1 u F1 H1 s1 r1 t1 P1 => ?_)
  obtain ⟨en', r1', back⟩ := r1.hold t1
  refine hg.run cx tk r1' ?_
  cases hr : g (callN Γ.G n) e1 with
  | no => rw [hr] at P1; exact P1.elim
  | exc c fs e2 => rw [hr] at P1; exact fun cls d F2 H2 s2 r2 x2 => P1 cls d σ F2 H2 s2 (back _ _ _ _ s2 r2).1 x2
  | ok w e2 =>
    rw [hr] at P1
    intro u2 F2 H2 s2 r2 t2
    have P1 : PostS Γ sc.kd en F1 fr ((h (callN Γ.G n) e2).toS fun z e3 => if i < e3.length ∧ j < e3.length ∧ l < e3.length then .next (((e3.set l (some z)).set j (some w)).set i (some v)) else .no) D W := P1
    obtain ⟨en2, r2', back2⟩ := r2.hold t2
    refine hh.run cx tk r2' ?_
    cases hr2 : h (callN Γ.G n) e2 with
    | no => rw [hr2] at P1; exact P1.elim
    | exc c fs e3 => rw [hr2] at P1; exact fun cls d F3 H3 s3 r3 x3 => P1 cls d σ F3 H3 (s2.trans s3) (back _ _ _ _ (s2.trans s3) (back2 _ _ _ _ s3 r3).1).1 x3
    | ok z e3 =>
      rw [hr2] at P1
      intro u3 F3 H3 s3 r3 t3
      have P1 : PostS Γ sc.kd en F1 fr (if i < e3.length ∧ j < e3.length ∧ l < e3.length then .next (((e3.set l (some z)).set j (some w)).set i (some v)) else .no) D W := P1
      by_cases hl : i < e3.length ∧ j < e3.length ∧ l < e3.length
      · rw [if_pos hl] at P1
        refine ⟨u, u2, u3, rfl, ?_⟩
        obtain ⟨r4, t4⟩ := back2 _ _ _ _ s3 (r3.store t3)
        obtain ⟨r5, t5⟩ := back _ _ _ _ (s2.trans s3) (r4.store t4)
        have e1 : ((σ.set i (some u)).set j (some u2)).set l (some u3) = ((σ.set l (some u3)).set j (some u2)).set i (some u) := by
          rw [List.set_comm _ _ hjl, List.set_comm (some u) (some u3) hil, List.set_comm _ _ hij]
        first
        | rw [e1]; exact P1 _ F3 H3 (s2.trans s3) (r5.store t5)
        | exact P1 _ F3 H3 (s2.trans s3) (r5.store t5)
      · rw [if_neg hl] at P1; exact P1.elim
/-! ### targets that unpack -/
/-- σ' is σ but at the slots ns -/
def Sam (ns : List Nat) (σ σ' : L2.St) : Prop := σ'.length = σ.length ∧ ∀ j, j ∉ ns → σ'[j]? = σ[j]?
def SG (Γ : GX) (sc : Sc) (tg : Expr) (b : Bind) (ns : List Nat) : Prop := ∀ ⦃n : Nat⦄ ⦃X : Cx⦄, Compat Γ sc n X → ∀ {en : Ent} {e e' : Env} {σ : L2.St} {F H : Hp} {v : Val} {u : V}, Rel Γ.K Γ.C sc.kd en e σ F H → VR Γ.K Γ.C F v u → b v e = some e' →
  ∀ {Q : L2.St → Hp → Prop}, (∀ σ', Sam ns σ σ' → Rel Γ.K Γ.C sc.kd en e' σ' F H → Q σ' H) → JG X tg u σ H Q
def JGs (X : Cx) (es : List Expr) : TGs := fun us σ H Q => ∀ (pins : List (Addr × Obj)) (s : Shared) (ws : List Value), Inv X pins σ H s → Vals us ws → wpAny (model X.prog X.w) X.A (assignInOrder ((assignEach es X.env).map (·.2)) ws) (fun _ s' => ∃ σ' H', Inv X pins σ' H' s' ∧ Q σ' H') X.xe s
theorem JGs.pgs {X : Cx} {es : List Expr} : PGs X es (JGs X es) := ⟨fun pins s _ _ _ _ _ I r h => h pins s _ I r⟩
theorem jgs {X : Cx} {es : List Expr} {g : TGs} {us : List V} {σ : L2.St} {H : Hp} {Q : L2.St → Hp → Prop} (h : PGs X es g) (q : g us σ H Q) : JGs X es us σ H Q := fun pins s ws I r => h.run pins s σ H us ws Q I r q
def SGs (Γ : GX) (sc : Sc) (es : List Expr) (bs : List Bind) (ns : List Nat) : Prop := ∀ ⦃n : Nat⦄ ⦃X : Cx⦄, Compat Γ sc n X → ∀ {en : Ent} {e e' : Env} {σ : L2.St} {F H : Hp} {vs : List Val} {us : List V}, Rel Γ.K Γ.C sc.kd en e σ F H → VRs Γ.K Γ.C F vs us → bindTup.go bs vs e = some e' →
  ∀ {Q : L2.St → Hp → Prop}, (∀ σ', Sam ns σ σ' → Rel Γ.K Γ.C sc.kd en e' σ' F H → Q σ' H) → JGs X es us σ H Q
theorem sg_name {i : Nat} {x : Str} (hi : LocC sc i x) (k : kdAt sc.kd i = .imm) : SG Γ sc (.Name x pos) (bindName i) [i] := by
  intro n X cx en e e' σ F H v u r hv hb Q q
  refine jg (pg_name cx.nd (by rw [cx.N]; exact hi.1) (cx.locn hi.2) (cx.fnl hi.2)) ?_
  unfold bindName at hb
  split at hb
  · cases hb; exact q _ ⟨List.length_set, fun j hj => List.getElem?_set_ne (fun z => hj (by simp [z]))⟩ (r.setImm k hv)
  · cases hb
theorem sgs_nil : SGs Γ sc [] [] [] := by
  intro n X cx en e e' σ F H vs us r hv hb Q q
  cases hv with
  | nil => simp only [bindTup.go] at hb; cases hb; exact jgs pgs_nil ⟨rfl, q _ ⟨rfl, fun _ _ => rfl⟩ r⟩
  | cons _ _ => simp [bindTup.go] at hb
theorem sgs_cons {es : List Expr} {b1 : Bind} {bs : List Bind} {ns ms : List Nat} (h1 : SG Γ sc a b1 ns) (h2 : SGs Γ sc es bs ms) (hs : ∀ env, (assignEach (a :: es) env).map (·.2) = assign a env :: (assignEach es env).map (·.2) := by intro _; rfl) : SGs Γ sc (a :: es) (b1 :: bs) (ns ++ ms) := by
  intro n X cx en e e' σ F H vs us r hv hb Q q
  cases hv with
  | nil => simp [bindTup.go] at hb
  | cons hv hvs =>
    simp only [bindTup.go] at hb
    split at hb
    · rename_i e1 he1
      refine jgs (pgs_cons JG.pg JGs.pgs (hs _)) ⟨_, _, rfl, ?_⟩
      exact h1 cx r hv he1 fun σ' s1 r' => h2 cx r' hvs hb fun σ'' s2 r'' => q σ'' ⟨s2.1.trans s1.1, fun j hj => (s2.2 j fun z => hj (List.mem_append_right _ z)).trans (s1.2 j fun z => hj (List.mem_append_left _ z))⟩ r''
    · cases hb
theorem go_len : ∀ {bs : List Bind} {vs : List Val} {e e' : Env}, bindTup.go bs vs e = some e' → vs.length = bs.length
  | [], [], _, _, _ => rfl
  | [], _ :: _, _, _, h => by simp [bindTup.go] at h
  | _ :: _, [], _, _, h => by simp [bindTup.go] at h
  | b :: bs, v :: vs, e, e', h => by
    simp only [bindTup.go] at h
    split at h
    · simp [go_len h]
    · cases h
theorem sg_tup {es : List Expr} {bs : List Bind} {k : Nat} {ns : List Nat} (h : SGs Γ sc es bs ns) (hn : ∀ env, (assignEach es env).length = bs.length := by intro _; rfl) (hst : ∀ env, (assignEach es env).findIdx? (·.1) = none := by intro _; rfl) : SG Γ sc (.Tuple es k pos) (bindTup bs) ns := by
  intro n X cx en e e' σ F H v u r hv hb Q q
  cases hv with
  | @tup a us vs hs hvs =>
    have hb : bindTup.go bs vs e = some e' := hb
    refine jg (pg_tup cx.calm JGs.pgs (hn _) (hst _)) ⟨a, us, rfl, ?_, ?_, h cx r hvs hb q⟩
    · rw [cx.K]; exact sqT_mono r.sub hs
    · rw [hvs.length]; exact go_len hb
  | non => simp [bindTup] at hb
  | bl _ => simp [bindTup] at hb
  | int _ => simp [bindTup] at hb
  | str _ => simp [bindTup] at hb
  | lst _ _ => simp [bindTup] at hb
  | dct _ _ => simp [bindTup] at hb
  | obj _ _ _ _ => simp [bindTup] at hb
  | scr _ => simp [bindTup] at hb
theorem ss_asg {tg : Expr} {b1 : Bind} {ns : List Nat} (hg : SG Γ sc tg b1 ns) (hf : SV Γ sc ex f) (hs : ∀ env, swapsWithSole [tg] ex pos.line env = pure false := by intro _; rfl) (hw : ∀ env, swappedStores [tg] ex env = pure none := by intro _; rfl)
    (h1 : ∀ env, (assignEach [tg] env).map (·.2) = [assign tg env] := by intro _; rfl) : SS Γ sc fr (.Assign [tg] ex pos) (sAsg b1 f) := by
  intro n X cx sx W tk en e σ F H r D P
  refine js (ps_asg JE.pe JG.pg (hs _) (hw _) (h1 _)) ?_
  refine hf cx tk r (PostS.toS P fun v e1 u F1 H1 s1 r1 t1 P1 => ?_)
  split at P1
  · rename_i e2 he
    exact hg cx r1 t1 he fun σ' _ r' => P1 σ' F1 H1 (Same.refl _) r'
  · exact P1.elim
/-! ### loops -/
/-- items of a walk -/
def YV (Γ : GX) (xs : List Val) (F1 : Hp) : Nat → Hp → V → Hp → Prop := fun i H u H' => ∀ F, Same F1 F → Same F H → ∃ v F', xs[i]? = some v ∧ Grow F H F' H' ∧ VR Γ.K Γ.C F' v u
def WalkV (Γ : GX) (J : It) (xs : List Val) (F1 : Hp) : Prop := L2.Walk J xs.length (fun H => ∃ F, Same F1 F ∧ Same F H) (YV Γ xs F1)
def SI (Γ : GX) (sc : Sc) (tg it : Expr) (f : M (List Val)) : Prop := ∀ ⦃n : Nat⦄ ⦃X : Cx⦄, Compat Γ sc n X → ∀ {W : WX}, Takes X W → ∀ {en : Ent} {e : Env} {σ : L2.St} {F H : Hp}, Rel Γ.K Γ.C sc.kd en e σ F H →
  ∀ {R : It → Hp → Prop}, Post Γ sc.kd en σ F (f (callN Γ.G n) e) (fun _ F' _ xs J => WalkV Γ J xs F') R W → JI X tg it σ H R
theorem sFor_eq {it : M (List Val)} {b1 : Bind} {body : S} {cl : Cl} {e : Env} : sFor it b1 body cl e = (it cl e).toS fun xs e1 => sForGo b1 body xs cl e1 := by
  unfold sFor R.toS
  cases it cl e <;> rfl
theorem ss_for {tg it : Expr} {fi : M (List Val)} {b1 : Bind} {ns : List Nat} {body : List Stmt} {fb : S} (hi : SI Γ sc tg it fi) (hg : SG Γ sc tg b1 ns) (hb : SSs Γ sc fr body fb) (hs : ∀ env x, foldedSetIterable it env x = pure x := by intro _ _; rfl) :
    SS Γ sc fr (.For tg it body [] pos) (sFor fi b1 fb) := by
  intro n X cx sx W tk en e σ F H r D P
  refine js (ps_for sx.own cx.calm JI.pi JG.pg JSs.ps (hs _)) ?_
  rw [sFor_eq] at P
  refine hi cx tk r (R := fun J H1 => ∃ W : Nat → Nat → L2.St → Hp → Prop, (∃ m, W 0 m σ H1) ∧ ∀ i m σ H, W i m σ H →
      (J.stop i H ∧ D.nx σ H) ∨ (J.go i H ∧ ∃ N : L2.St → Hp → Prop, (∀ σ' H', N σ' H' → ∃ m', m' < m ∧ W (i + 1) m' σ' H') ∧ ∀ x H', J.yld i H x H' → JG X tg x σ H' fun σ2 H2 => JSs X body { D with nx := N, ct := N, bk := D.nx } σ2 H2)) (PostS.toS P fun xs e1 J F1 H1 s1 r1 t1 P1 => ?_)
  refine for_it (g := JG X tg) (tb := JSs X body) t1 (fun i σ H => ∃ e F, Same F1 F ∧ Rel Γ.K Γ.C sc.kd en e σ F H ∧ PostS Γ sc.kd en F fr (sForGo b1 fb (xs.drop i) (callN Γ.G n) e) D W) ⟨e1, F1, Same.refl _, r1, by simpa using P1⟩ (fun i σ H _ ⟨e, F, s, r, _⟩ => ⟨F, s, r.sub⟩) (fun i x σ H H' hi' ⟨e, F, s, r, P⟩ y => ?_) (fun σ H ⟨e, F, s, r, P⟩ => ?_)
  · obtain ⟨v, F', hv, g, hx⟩ := y F s r.sub
    have hd : xs.drop i = v :: xs.drop (i + 1) := by
      obtain ⟨hl, e2⟩ := List.getElem?_eq_some_iff.mp hv
      rw [← e2]; exact List.drop_eq_getElem_cons hl
    rw [hd] at P
    simp only [sForGo] at P
    have r' := r.grow g
    have P := PostS.mono P g.ff
    split at P
    · exact P.elim
    · rename_i e2 he
      refine hg cx r' hx he fun σ2 _ r2 => hb cx sx tk r2 ?_
      exact PostS.seq P fun e3 σ3 F3 H3 s3 r3 P3 => ⟨e3, F3, (s.trans g.ff).trans s3, r3, P3⟩
  · rw [List.drop_length] at P
    exact P σ F H (Same.refl _) r
theorem ss_while {body : List Stmt} {fb : S} {m : Nat} (hc : ST Γ sc ex f) (hb : SSs Γ sc fr body fb) : SS Γ sc fr (.While ex body [] pos) (sWhile f fb m) := by
  intro n X cx sx W tk en e σ F H r D P
  refine js (ps_while sx.own JT.pt JSs.ps) ?_
  refine ⟨fun m σ H => ∃ e F, Rel Γ.K Γ.C sc.kd en e σ F H ∧ PostS Γ sc.kd en F fr (sWhile f fb m (callN Γ.G n) e) D W, ⟨m, e, F, r, P⟩, fun m σ H ⟨e, F, r, P⟩ => ?_⟩
  cases m with
  | zero => exact P.elim
  | succ m =>
    simp only [sWhile] at P
    refine hc cx tk r (PostS.toS P fun v e1 u F1 H1 s1 r1 t1 P1 => ?_)
    have t1 : v = u := t1
    subst t1
    by_cases hv : v = true
    · rw [if_pos hv] at P1 ⊢
      refine ⟨fun σ' H' => ∃ e F, Rel Γ.K Γ.C sc.kd en e σ' F H' ∧ PostS Γ sc.kd en F fr (sWhile f fb m (callN Γ.G n) e) D W, fun σ' H' h => ⟨m, Nat.lt_succ_self _, h⟩, hb cx sx tk r1 ?_⟩
      exact PostS.seq P1 fun e3 σ3 F3 H3 s3 r3 P3 => ⟨e3, F3, r3, P3⟩
    · rw [if_neg hv] at P1 ⊢
      exact P1 σ F1 H1 (Same.refl _) r1
end
end CG
end
section
set_option Elab.async false
set_option linter.all false
set_option maxRecDepth 100000
set_option autoImplicit false
/-! CG10: sources of walks, comprehensions, changes of lists and dicts. -/
namespace CG
open PySem PySem.Spec L2
section
variable {Γ : GX} {sc : Sc} {fr : Bool} {ex a b c : Expr} {f g h : M Val} {pos p : Pos} {st : Stmt} {rest : List Stmt} {u v : S} {tg it : Expr}
/-! ### sources -/
theorem pi_seq {X : Cx} {l : Expr} {tl : TE} (hl : PE X l tl) : PI X tg l (fun σ H R => tl σ H fun x H1 => (∃ a, x = .ref a ∧ (∃ xs, SqL X.K H1 a xs) ∧ R (Itl X.K a) H1) ∨ (∃ a, x = .ref a ∧ (∃ xs, SqT X.K H1 a xs) ∧ R (Itt X.K a) H1)) := by
  refine ⟨fun pins s σ H R I h => ?_⟩
  refine thn (hl.run pins s σ H _ I h) fun v s1 ⟨x, H1, I1, r1, q1⟩ => ?_
  rcases q1 with ⟨a, e, ⟨xs, hq⟩, q⟩ | ⟨a, e, ⟨xs, hq⟩, q⟩
  · subst e
    cases r1
    obtain ⟨its, rv, p, hz⟩ := I1.list hq
    refine wpAny_pyIter_list p.isList ?_
    refine ⟨s1.heap.objs.size, [s1.heap.objs.size], _, _, H1, rfl, I1.kept (t' := s1.toks) fun b o e => Heap.get?_push_of_some _ e, turn_list a _, ⟨_, Heap.get?_push_size _ rfl, rfl, rfl⟩, fun b hb => ?_, q⟩
    have e : b = s1.heap.objs.size := by simpa using hb
    subst e
    exact I1.fpOk (Nat.le_refl _) (I1.hok.fresh (Nat.le_refl _))
  · subst e
    cases r1
    obtain ⟨its, rv, p, hz⟩ := I1.tuple hq
    refine wpAny_pyIter_tuple (show s1.heap.IsTuple a its.toArray from p) ?_
    refine ⟨s1.heap.objs.size, [s1.heap.objs.size], _, _, H1, rfl, I1.kept (t' := s1.toks) fun b o e => Heap.get?_push_of_some _ e, turn_tuple a _, ⟨_, Heap.get?_push_size _ rfl, rfl, rfl⟩, fun b hb => ?_, q⟩
    have e : b = s1.heap.objs.size := by simpa using hb
    subst e
    exact I1.fpOk (Nat.le_refl _) (I1.hok.fresh (Nat.le_refl _))
theorem walkV_at {J : It} {xs : List Val} {us : List V} {F1 : Hp} {G : Hp → Prop} (w : L2.Walk J us.length G (YAt us)) (hG : ∀ F H, Same F1 F → Same F H → G H) (h : VRs Γ.K Γ.C F1 xs us) : WalkV Γ J xs F1 := by
  refine ⟨fun i H hi ⟨F, s1, s2⟩ => w.goes i H (by rw [h.length]; exact hi) (hG F H s1 s2), fun H ⟨F, s1, s2⟩ => by rw [← h.length]; exact w.stops H (hG F H s1 s2), fun i H x H' hi ⟨F, s1, s2⟩ y F2 t1 t2 => ?_⟩
  obtain ⟨e, hx⟩ := w.yields i H x H' (by rw [h.length]; exact hi) (hG F H s1 s2) y
  subst e
  obtain ⟨v, hv, r⟩ := h.get' hx
  exact ⟨v, F2, hv, Grow.refl t2, r.mono t1⟩
theorem si_seq (hf : SV Γ sc it f) : SI Γ sc tg it (wSeq f) := by
  intro n X cx W tk en e σ F H r R P
  refine ji (pi_seq JE.pe) ?_
  refine hf cx tk r (Post.seq P fun v e1 u F1 H1 s1 r1 t1 P1 => ?_)
  obtain ⟨xs, hx, q⟩ := P1.ret
  cases t1 with
  | @tup a us vs hs hv =>
    cases hx
    refine .inr ⟨a, rfl, ⟨us, by rw [cx.K]; exact sqT_mono r1.sub hs⟩, q _ F1 H1 (Same.refl _) r1 ?_⟩
    rw [cx.K]
    exact walkV_at walk_tup (fun F H s1 s2 => sqT_mono s2 (sqT_mono s1 hs)) hv
  | @lst a us vs hs hv =>
    cases hx
    refine .inl ⟨a, rfl, ⟨us, by rw [cx.K]; exact SqL.of (r1.sub _ _ hs)⟩, q _ F1 H1 (Same.refl _) r1 ?_⟩
    rw [cx.K]
    exact walkV_at walk_list (fun F H s1 s2 => SqL.of (s2 _ _ (s1 _ _ hs))) hv
  | non => cases hx
  | bl _ => cases hx
  | int _ => cases hx
  | str _ => cases hx
  | dct _ _ => cases hx
  | obj _ _ _ _ => cases hx
  | scr _ => cases hx
theorem rangeV_len {lo : Int} {n : Nat} : (rangeV lo n).length = n := by simp [rangeV]
theorem walkV_range {lo : Int} {n : Nat} {F1 : Hp} : WalkV Γ (Itr lo n) (rangeV lo n) F1 := by
  have w := walk_range (lo := lo) (n := n)
  unfold WalkV
  rw [rangeV_len]
  refine ⟨fun i H hi _ => w.goes i H hi trivial, fun H _ => w.stops H trivial, fun i H x H' hi _ y F2 t1 t2 => ?_⟩
  obtain ⟨e, hx⟩ := w.yields i H x H' hi trivial y
  subst e hx
  exact ⟨.int (lo + i), F2, by simp [rangeV, hi], Grow.refl t2, .int _⟩
theorem small_iff {i : Int} : small i = true ↔ -(2 ^ 62) ≤ i ∧ i < 2 ^ 62 := by unfold small; simp
theorem si_range1 (hx : sc.names.lookup ("range" : Str) = some .globalImplicit) (hf : SV Γ sc a f) (hs : ∀ env, starEach [a] env = [(false, eval a env)] := by intro _; rfl) : SI Γ sc tg (.Call (.Name "range" p) [a] [] pos) (wRng1 f) := by
  intro n X cx W tk en e σ F H r R P
  refine ji (pi_range1 (cx.gl hx) (by rw [cx.mg]; exact cx.nb _ (by decide)) (pa_cons JE.pe pa_nil (by rw [hs]; rfl)) (hs _)) ?_
  refine hf cx tk r (Post.seq P fun v e1 u F1 H1 s1 r1 t1 P1 => ?_)
  cases t1 with
  | int j =>
    simp only at P1
    by_cases hj : small j = true
    · rw [if_pos hj] at P1
      have h2 := small_iff.mp hj
      exact ⟨j, rfl, h2.1, h2.2, P1.ok _ F1 H1 (Same.refl _) r1 walkV_range⟩
    · rw [if_neg hj] at P1; exact P1.elim
  | tup _ _ => exact P1.elim
  | lst _ _ => exact P1.elim
  | non => exact P1.elim
  | bl _ => exact P1.elim
  | str _ => exact P1.elim
  | dct _ _ => exact P1.elim
  | obj _ _ _ _ => exact P1.elim
  | scr _ => exact P1.elim
theorem si_range2 (hx : sc.names.lookup ("range" : Str) = some .globalImplicit) (hf : SV Γ sc a f) (hg : SV Γ sc b g) (hs : ∀ env, starEach [a, b] env = [(false, eval a env), (false, eval b env)] := by intro _; rfl) (hs2 : ∀ env, starEach [b] env = [(false, eval b env)] := by intro _; rfl) :
    SI Γ sc tg (.Call (.Name "range" p) [a, b] [] pos) (wRng2 f g) := by
  intro n X cx W tk en e σ F H r R P
  refine ji (pi_range2 (cx.gl hx) (by rw [cx.mg]; exact cx.nb _ (by decide)) (pa_cons JE.pe (pa_cons JE.pe pa_nil (by rw [hs2]; rfl)) (by rw [hs, hs2])) (hs _) (hs2 _)) ?_
  refine hf cx tk r (Post.seq P fun v e1 u F1 H1 s1 r1 t1 P1 => hg cx tk r1 (Post.seq P1 fun w e2 u2 F2 H2 s2 r2 t2 P2 => ?_))
  have key : ∃ i j, v = .int i ∧ w = .int j := by
    cases v <;> cases w <;> first | exact ⟨_, _, rfl, rfl⟩ | exact P2.elim
  obtain ⟨i, j, rfl, rfl⟩ := key
  cases t1; cases t2
  simp only at P2
  by_cases hj : (small i && small j) = true
  · rw [if_pos hj] at P2
    have hj := Bool.and_eq_true _ _ ▸ hj
    have h1 := small_iff.mp hj.1
    have h2 := small_iff.mp hj.2
    exact ⟨i, j, rfl, ⟨h1.1, h1.2, h2.1, h2.2⟩, P2.ok _ F2 H2 (Same.refl _) r2 walkV_range⟩
  · rw [if_neg hj] at P2; exact P2.elim
/-! ### changes -/
theorem OW.noOwn {K : PySem.W.Frag} {C : Str → Option Addr} {F H : Hp} {N : Addr → Prop} {v : Val} {a : Addr} (h : OW K C F H N v a) : ∀ x, H a ≠ some (.own x) := fun x hx => by
  cases h with
  | lst h _ => rw [h] at hx; cases hx
  | dct h _ => rw [h] at hx; cases hx
  | obj _ h _ _ _ _ => rw [h] at hx; cases hx
/-- an owned slot that holds no scalar -/
theorem Rel.ownA {kd : Kds} {en : Ent} {e : Env} {σ : L2.St} {F H : Hp} {i : Nat} {v : Val} (r : Rel Γ.K Γ.C kd en e σ F H) (k : kdAt kd i ≠ .imm) (h : e[i]? = some (some v)) (hs : scalarV v = false) : ∃ a, σ[i]? = some (some (.ref a)) ∧ OW Γ.K Γ.C F H (Nw en (kdAt kd i) a) v a ∧ F a = none := by
  obtain ⟨u, su, q⟩ := r.own i v k h
  rcases q with ⟨s, _⟩ | ⟨a, rfl, ow, n, _⟩
  · rw [show scalar v = scalarV v from rfl, hs] at s; cases s
  · exact ⟨a, su, ow, n⟩
theorem ss_app {i : Nat} {x : Str} {px apos : Pos} (s : SlotN sc i x) (hf : SV Γ sc a f)
    (hbase : ∀ env, attributeBase (.Name x px) "append" env (eval (.Name x px) env) = eval (.Name x px) env := by intro _; rfl)
    (hfew : ∀ env, ((backTo p (starEach [a] env)).all (fun x => !x.1) && (backToKw p (keywordEach [] env)).all (fun x => x.1.isSome) && decide ([a].length + ([] : List Keyword).length + (if ([] : List Keyword).isEmpty then 0 else 1) < 30)) = true := by intro _; rfl)
    (hline : (apos.endLine == p.line) = true := by rfl) (hs : ∀ env, starEach [a] env = [(false, eval a env)] := by intro _; rfl) :
    SS Γ sc fr (.Expr (.Call (.Attribute (.Name x px) "append" apos) [a] [] p) pos) (sApp i f) := by
  intro n X cx sx W tk en e σ F H r D P
  have hs1 : starEach [a] X.env = (false, eval a X.env) :: starEach [] X.env := by rw [hs]; rfl
  refine js (ps_expr (pe_bm PySem.F.plainAttrs_list PySem.F.slot_list_append PySem.F.type_list_append mt_append (s.pe cx) (pa_cons JE.pe pa_nil hs1) (hbase _) (hfew _) hline hs1 rfl) rfl) ?_
  simp only [sApp] at P
  split at P
  · rename_i xs0 he
    obtain ⟨q, sq, ow, nq⟩ := r.ownA s.k he rfl
    refine ⟨_, sq, ?_, ?_⟩
    · cases ow with | lst h _ => exact .inl ⟨rfl, _, SqL.of h⟩
    refine hf cx tk r (PostS.toS P fun v e1 u F1 H1 s1 r1 t1 P1 => ?_)
    split at P1
    · rename_i xs he1
      split at P1
      · rename_i hl
        obtain ⟨q', sq', ow', nq'⟩ := r1.ownA s.k he1 rfl
        rw [sq] at sq'; cases sq'
        have no := ow'.noOwn
        cases ow' with
        | @lst _ us vs h hv =>
          refine ⟨q, us, u, rfl, rfl, h, by rw [hv.length]; exact hl, ?_⟩
          have ow2 : OW Γ.K Γ.C F1 (upd H1 q (.lst (us ++ [u]))) (Nw en (kdAt sc.kd i) q) (.lst (xs ++ [v])) q := .lst upd_same (hv.append (.cons t1 .nil))
          exact P1 σ F1 _ (Same.refl _) (r1.mutate s.k he1 sq ow2 no)
      · exact P1.elim
    · exact P1.elim
  · exact P.elim
theorem ss_ext {i : Nat} {x : Str} {px apos : Pos} (s : SlotN sc i x) (hf : SV Γ sc a f)
    (hbase : ∀ env, attributeBase (.Name x px) "extend" env (eval (.Name x px) env) = eval (.Name x px) env := by intro _; rfl)
    (hfew : ∀ env, ((backTo p (starEach [a] env)).all (fun x => !x.1) && (backToKw p (keywordEach [] env)).all (fun x => x.1.isSome) && decide ([a].length + ([] : List Keyword).length + (if ([] : List Keyword).isEmpty then 0 else 1) < 30)) = true := by intro _; rfl)
    (hline : (apos.endLine == p.line) = true := by rfl) (hs : ∀ env, starEach [a] env = [(false, eval a env)] := by intro _; rfl) :
    SS Γ sc fr (.Expr (.Call (.Attribute (.Name x px) "extend" apos) [a] [] p) pos) (sExt i f) := by
  intro n X cx sx W tk en e σ F H r D P
  have hs1 : starEach [a] X.env = (false, eval a X.env) :: starEach [] X.env := by rw [hs]; rfl
  refine js (ps_expr (pe_bm PySem.F.plainAttrs_list PySem.F.slot_list_extend PySem.F.type_list_extend mt_extend (s.pe cx) (pa_cons JE.pe pa_nil hs1) (hbase _) (hfew _) hline hs1 rfl) rfl) ?_
  simp only [sExt] at P
  split at P
  · rename_i xs0 he
    obtain ⟨q, sq, ow, nq⟩ := r.ownA s.k he rfl
    refine ⟨_, sq, ?_, ?_⟩
    · cases ow with | lst h _ => exact .inl ⟨rfl, _, SqL.of h⟩
    refine hf cx tk r (PostS.toS P fun v e1 u F1 H1 s1 r1 t1 P1 => ?_)
    split at P1
    · rename_i xs zs he1
      split at P1
      · rename_i hl
        obtain ⟨q', sq', ow', nq'⟩ := r1.ownA s.k he1 rfl
        rw [sq] at sq'; cases sq'
        have no := ow'.noOwn
        cases t1 with
        | @lst b ws _ hb hw =>
        cases ow' with
        | @lst _ us vs h hv =>
          refine ⟨q, b, us, ws, rfl, rfl, h, r1.sub _ _ hb, by rw [hv.length, hw.length]; exact hl, ?_⟩
          have ow2 : OW Γ.K Γ.C F1 (upd H1 q (.lst (us ++ ws))) (Nw en (kdAt sc.kd i) q) (.lst (xs ++ zs)) q := .lst upd_same (hv.append hw)
          exact P1 σ F1 _ (Same.refl _) (r1.mutate s.k he1 sq ow2 no)
      · exact P1.elim
    · exact P1.elim
  · exact P.elim
/-- o[k] = v for an owned list or dict -/
theorem set_item {n : Nat} {X : Cx} (cx : Compat Γ sc n X) : PSet X (fun o i v H Q => (∃ p xs k j, o = .ref p ∧ i = .int k ∧ H p = some (.lst xs) ∧ ixN xs.length k = some j ∧ Q (upd H p (.lst (xs.set j v)))) ∨ ∃ p H', o = .ref p ∧ DPut H p i v H' ∧ Q H') := by
  intro pins s σ H o i v ov iv w Q I ro ri rv h
  rcases h with h | ⟨p, H', rfl, g, q⟩
  · exact set_list pins s σ H o i v ov iv w Q I ro ri rv h
  · obtain rfl : ov = Value.ref p := ro
    exact d_setItem (un1 cx) I g ri rv fun s' I' => ⟨H', I', q⟩
theorem ss_setI {i : Nat} {x : Str} {px sp : Pos} (s : SlotN sc i x) (hk : SV Γ sc b g) (hf : SV Γ sc a f)
    (hs : ∀ env, swapsWithSole [.Subscript (.Name x px) b sp] a pos.line env = pure false := by intro _; rfl) (hw : ∀ env, swappedStores [.Subscript (.Name x px) b sp] a env = pure none := by intro _; rfl)
    (h1 : ∀ env, (assignEach [.Subscript (.Name x px) b sp] env).map (·.2) = [assign (.Subscript (.Name x px) b sp) env] := by intro _; rfl)
    (ha : ∀ env v, assign (.Subscript (.Name x px) b sp) env v = (do
      let ov ← holding [v] (eval (.Name x px) env)
      let iv ← holding [v, ov] (eval b env)
      standAt sp
      holding [v, ov, iv] (PySem.setItem ov iv v)
      release [v, ov, iv] []) := by intro _ _; rfl) :
    SS Γ sc fr (.Assign [.Subscript (.Name x px) b sp] a pos) (sSet i g f) := by
  intro n X cx sx W tk en e σ F H r D P
  refine js (ps_asg JE.pe (pg_sub (s.pe cx) JE.pe (set_item cx) (ha _)) (hs _) (hw _) (h1 _)) ?_
  refine hf cx tk r (PostS.toS P fun v e1 u F1 H1 s1 r1 t1 P1 => ?_)
  split at P1
  · rename_i x0 he
    obtain ⟨u0, hu0⟩ := r1.slotU s.k he
    refine ⟨u0, hu0, hk cx tk r1 (PostS.toS P1 fun q e2 uq F2 H2 s2 r2 t2 P2 => ?_)⟩
    split at P2
    · rename_i y he2
      split at P2
      · rename_i y' hy
        unfold CG.setItem at hy
        split at hy
        · rename_i xs
          split at hy
          · rename_i k0
            split at hy
            · rename_i j hj
              cases hy
              obtain ⟨q', sq', ow', nq'⟩ := r2.ownA s.k he2 rfl
              rw [hu0] at sq'; cases sq'
              have no := ow'.noOwn
              cases t2
              cases ow' with
              | @lst _ us vs h hv =>
                refine .inl ⟨q', us, k0, j, rfl, rfl, h, by rw [hv.length]; exact hj, ?_⟩
                have ow2 : OW Γ.K Γ.C F2 (upd H2 q' (.lst (us.set j u))) (Nw en (kdAt sc.kd i) q') (.lst (xs.set j v)) q' := .lst upd_same (hv.set (t1.mono s2) j)
                exact P2 σ F2 _ (Same.refl _) (r2.mutate s.k he2 hu0 ow2 no)
            · cases hy
          · cases hy
        · rename_i kvs
          split at hy
          · rename_i kk hkk
            split at hy
            · rename_i hl
              cases hy
              obtain ⟨q', sq', ow', nq'⟩ := r2.ownA s.k he2 rfl
              rw [hu0] at sq'; cases sq'
              have no := ow'.noOwn
              have hq := keyOf_vr t2 hkk
              cases ow' with
              | @dct _ kus _ h hv =>
                refine .inr ⟨q', _, rfl, .inl ⟨kus, kk, h, hq, by rw [hv.length]; exact hl, rfl⟩, ?_⟩
                have ow2 : OW Γ.K Γ.C F2 (upd H2 q' (.dK (L2.putK kus kk u))) (Nw en (kdAt sc.kd i) q') (.dct (CG.putK kvs kk v)) q' := .dct upd_same (hv.put (t1.mono s2))
                exact P2 σ F2 _ (Same.refl _) (r2.mutate s.k he2 hu0 ow2 no)
            · cases hy
          · cases hy
        · cases hy
      · exact P2.elim
    · exact P2.elim
  · exact P1.elim
def addI : Val → Val → Option Val
  | .int i, .int j => some (.int (i + j))
  | _, _ => none
theorem ss_augI {i : Nat} {x : Str} {px : Pos} (hi : LocC sc i x) (k : kdAt sc.kd i = .imm) (hf : SV Γ sc a f) : SS Γ sc fr (.AugAssign (.Name x px) .Add a pos) (sAug addI i f) := by
  intro n X cx sx W tk en e σ F H r D P
  refine js (ps_aug cx.nd (by rw [cx.N]; exact hi.1) (cx.locn hi.2) JE.pe ip_add (cx.fnl hi.2)) ?_
  simp only [sAug] at P
  split at P
  · rename_i x0 he
    obtain ⟨u0, hu0, h0⟩ := r.imm i x0 k he
    refine ⟨u0, hu0, hf cx tk r (PostS.toS P fun v e1 u F1 H1 s1 r1 t1 P1 => ?_)⟩
    split at P1
    · rename_i y hy
      unfold addI at hy
      split at hy
      · cases hy
        cases h0; cases t1
        exact ⟨_, _, rfl, rfl, P1 _ F1 H1 (Same.refl _) (r1.setImm k (.int _))⟩
      · cases hy
    · exact P1.elim
  · exact P.elim
end
end CG
end
section
set_option Elab.async false
set_option linter.all false
set_option maxRecDepth 100000
set_option autoImplicit false
/-! CG11: list comprehensions. -/
namespace CG
open PySem PySem.Spec L2
section
variable {K : PySem.W.Frag} {C : Str → Option Addr} {kd : Kds} {en : Ent} {e e1 e2 : Env} {σ σ' : L2.St} {F H F1 H1 F2 H2 : Hp}
theorem wipe_ne {i : Nat} : ∀ {vs : List Nat}, i ∉ vs → (wipe σ vs)[i]? = σ[i]?
  | [], _ => rfl
  | v :: vs, h => by
    unfold wipe
    rw [List.getElem?_set_ne (by rintro rfl; exact h List.mem_cons_self)]
    exact wipe_ne fun z => h (List.mem_cons_of_mem _ z)
theorem wipe_in {i : Nat} : ∀ {vs : List Nat}, i ∈ vs → i < σ.length → (wipe σ vs)[i]? = some none
  | [], h, _ => by cases h
  | v :: vs, h, hl => by
    unfold wipe
    by_cases hv : v = i
    · subst hv; rw [List.getElem?_set_self (by rw [wipe_length]; exact hl)]
    · rw [List.getElem?_set_ne hv]
      exact wipe_in ((List.mem_cons.mp h).resolve_left fun z => hv z.symm) hl
theorem wipe_eq {vs : List Nat} (hl : σ'.length = σ.length) (h : ∀ j, j ∉ vs → σ'[j]? = σ[j]?) : wipe σ' vs = wipe σ vs := by
  refine List.ext_getElem? fun i => ?_
  by_cases hi : i ∈ vs
  · by_cases hlt : i < σ.length
    · rw [wipe_in hi hlt, wipe_in hi (by rw [hl]; exact hlt)]
    · rw [List.getElem?_eq_none (by rw [wipe_length]; omega), List.getElem?_eq_none (by rw [wipe_length]; omega)]
  · rw [wipe_ne hi, wipe_ne hi, h i hi]
theorem wipe_wipe {vs : List Nat} : wipe (wipe σ vs) vs = wipe σ vs := wipe_eq (wipe_length _ _) fun j hj => wipe_ne hj
theorem Rel.drop1 (r : Rel K C kd en e σ F H) (i : Nat) : Rel K C kd en (e.set i none) (σ.set i none) F H where
  sub := r.sub
  len := by simp [r.len]
  imm := fun j w kj hj => by
    rcases getE_set hj with ⟨_, e1, _⟩ | ⟨hij, hj⟩
    · cases e1
    · rw [List.getElem?_set_ne hij]; exact r.imm j w kj hj
  own := fun j w kj hj => by
    rcases getE_set hj with ⟨_, e1, _⟩ | ⟨hij, hj⟩
    · cases e1
    · rw [List.getElem?_set_ne hij]; exact r.own j w kj hj
  sep := fun j l a v w hjl kj kl hj hl sj sl => by
    rcases getE_set hj with ⟨_, e1, _⟩ | ⟨h1, hj⟩
    · cases e1
    rcases getE_set hl with ⟨_, e1, _⟩ | ⟨h2, hl⟩
    · cases e1
    rw [List.getElem?_set_ne h1] at sj
    rw [List.getElem?_set_ne h2] at sl
    exact r.sep j l a v w hjl kj kl hj hl sj sl
  b1 := r.b1
  b2 := r.b2
  b3 := r.b3
  b4 := r.b4
  b5 := r.b5
theorem Rel.wipe (r : Rel K C kd en e σ F H) : ∀ vs : List Nat, Rel K C kd en (wipeE e vs) (L2.wipe σ vs) F H
  | [] => r
  | v :: vs => (Rel.wipe r vs).drop1 v
theorem unwipe_len : ∀ {vs : List Nat}, (unwipe e1 e2 vs).length = e2.length
  | [] => rfl
  | v :: vs => by unfold unwipe; rw [List.length_set]; exact unwipe_len
theorem unwipe_get {i : Nat} {v : Val} : ∀ {vs : List Nat}, (unwipe e1 e2 vs)[i]? = some (some v) → (i ∈ vs ∧ e1[i]? = some (some v)) ∨ (i ∉ vs ∧ e2[i]? = some (some v))
  | [], h => .inr ⟨by simp, h⟩
  | j :: vs, h => by
    unfold unwipe at h
    rcases getE_set h with ⟨rfl, h1, _⟩ | ⟨hji, h⟩
    · refine .inl ⟨List.mem_cons_self, ?_⟩
      rw [List.getD_eq_getElem?_getD] at h1
      cases q : e1[j]? with
      | none => rw [q] at h1; cases h1
      | some o => rw [q] at h1; simp at h1; rw [h1]
    · rcases unwipe_get h with ⟨a, b⟩ | ⟨a, b⟩
      · exact .inl ⟨List.mem_cons_of_mem _ a, b⟩
      · exact .inr ⟨fun z => (List.mem_cons.mp z).elim (fun z => hji z.symm) a, b⟩
theorem Rel.unwipe {vs : List Nat} (hv : ∀ i ∈ vs, kdAt kd i = .imm) (r1 : Rel K C kd en e1 σ F1 H1) (s : Same F1 F2) (r2 : Rel K C kd en e2 σ' F2 H2) (hl : σ'.length = σ.length) (hw : ∀ j, j ∉ vs → σ'[j]? = σ[j]?) : Rel K C kd en (CG.unwipe e1 e2 vs) σ F2 H2 where
  sub := r2.sub
  len := by rw [unwipe_len, r2.len, hl]
  imm := fun j w kj hj => by
    rcases unwipe_get hj with ⟨h1, hj⟩ | ⟨h1, hj⟩
    · obtain ⟨u, su, q⟩ := r1.imm j w kj hj
      exact ⟨u, su, q.mono s⟩
    · obtain ⟨u, su, q⟩ := r2.imm j w kj hj
      exact ⟨u, by rw [← hw j h1]; exact su, q⟩
  own := fun j w kj hj => by
    rcases unwipe_get hj with ⟨h1, hj⟩ | ⟨h1, hj⟩
    · exact absurd (hv j h1) kj
    · obtain ⟨u, su, q⟩ := r2.own j w kj hj
      exact ⟨u, by rw [← hw j h1]; exact su, q⟩
  sep := fun j l a v w hjl kj kl hj hl sj sl => by
    rcases unwipe_get hj with ⟨h1, hj⟩ | ⟨h1, hj⟩
    · exact absurd (hv j h1) kj
    rcases unwipe_get hl with ⟨h2, hl⟩ | ⟨h2, hl⟩
    · exact absurd (hv l h2) kl
    exact r2.sep j l a v w hjl kj kl hj hl (by rw [hw j h1]; exact sj) (by rw [hw l h2]; exact sl)
  b1 := r2.b1
  b2 := r2.b2
  b3 := r2.b3
  b4 := r2.b4
  b5 := r2.b5
/-- a thing apart from all slots is changed -/
theorem Rel.updF {a : Addr} {o : HO} (r : Rel K C kd en e σ F H) (hF : F a = none) (h0 : en.H0 a = none) (ap : ∀ (i : Nat) (w : Val), kdAt kd i ≠ .imm → e[i]? = some (some w) → σ[i]? ≠ some (some (.ref a))) (hno : ∀ x, H a ≠ some (.own x)) : Rel K C kd en e σ F (upd H a o) where
  sub := fun q o' hq => by
    by_cases hqa : q = a
    · subst hqa; rw [hF] at hq; cases hq
    · rw [L2.upd_ne hqa]; exact r.sub q o' hq
  len := r.len
  imm := r.imm
  own := fun j w kj hj => by
    obtain ⟨u, su, q⟩ := r.own j w kj hj
    refine ⟨u, su, ?_⟩
    rcases q with q | ⟨b, rfl, ob, nb, lb, pb⟩
    · exact .inl q
    · exact .inr ⟨b, rfl, ob.upd_ne (fun z => ap j w kj hj (by rw [← z]; exact su)) hno, nb, lb, pb⟩
  sep := r.sep
  b1 := fun q o' hq hn => by
    by_cases hqa : q = a
    · subst hqa; rw [h0] at hq; cases hq
    · rw [L2.upd_ne hqa]; exact r.b1 q o' hq hn
  b2 := r.b2
  b3 := fun q hq => by
    by_cases hqa : q = a
    · subst hqa; rw [upd_same]; simp
    · rw [L2.upd_ne hqa]; exact r.b3 q hq
  b4 := r.b4
  b5 := r.b5
end
section
variable {Γ : GX} {sc : Sc} {fr : Bool} {a b c elt tg iter : Expr} {f g h ft fe : M Val} {pos p : Pos}
/-! ### blocks -/
def Sc.blk (sc : Sc) (scope : Scope) : Sc := { N := sc.N, kd := sc.kd, names := scope.names }
theorem lookup_rel {sc : Scope} {x : Str} {k : NameKind} : ∀ {l : List (Str × NameKind)}, l.lookup x = some k →
    (l.map fun (n, k) => if (k == .free && sc.kind == .function && sc.names.lookup n == some .cell) then (n, NameKind.cell) else (n, k)).lookup x = some k ∨ (k = .free ∧ (l.map fun (n, k) => if (k == .free && sc.kind == .function && sc.names.lookup n == some .cell) then (n, NameKind.cell) else (n, k)).lookup x = some .cell)
  | [], h => by cases h
  | (m, q) :: l, h => by
    rw [List.lookup_cons] at h
    simp only [List.map_cons]
    cases hb : x == m with
    | true =>
      rw [hb] at h
      cases h
      split
      · rename_i hc
        simp only [Bool.and_eq_true, beq_iff_eq] at hc
        exact .inr ⟨hc.1.1, by rw [List.lookup_cons, hb]⟩
      · exact .inl (by rw [List.lookup_cons, hb])
    | false =>
      rw [hb] at h
      have := lookup_rel (sc := sc) (x := x) (k := k) (l := l) h
      split <;> (rw [List.lookup_cons, hb]; exact this)
theorem Compat.blk {n : Nat} {X : Cx} {scope : Scope} (cx : Compat Γ sc n X) (s : Shared) (H : Hp) (C : Addr) (cl : List (Str × Addr)) (fp : List Addr) : Compat Γ (sc.blk scope) n (X.blk s H scope (compEnvC scope cl C X.env) fp) where
  prog := cx.prog
  w := cx.w
  K := cx.K
  mg := cx.mg
  base := cx.base
  N := cx.N
  nd := cx.nd
  nm := fun x k h => lookup_rel h
  calm := cx.calm
  room := cx.room
  fns := cx.fns
  nb := cx.nb
  kdl := cx.kdl
  fnc := fun x h => by
    show (scope.names.lookup x == some .cell) = true
    have h : scope.names.lookup x = some .cell := h
    rw [h]; decide
theorem blk_ok {n : Nat} {X : Cx} {scope : Scope} {own : List (Str × Nat)} (cx : Compat Γ sc n X) (h : blkC sc.N { scope with names := sc.names } scope own = true) : BlkOk X.N X.env.scope scope own := by
  have q := blkOk_by h
  rw [← cx.N] at q
  refine ⟨q.kind, q.uniq, q.ix, fun y hy e => ?_, q.own⟩
  rcases q.free y hy e with z | z
  · rcases cx.nm _ _ z with w | ⟨w, _⟩
    · exact .inl w
    · cases w
  · rcases cx.nm _ _ z with w | ⟨_, w⟩
    · exact .inr w
    · exact .inl w
def JTs (X : Cx) (ifs : List Expr) (σ : L2.St) (H : Hp) (Q : Bool → Hp → Prop) : Prop := ∀ (pins : List (Addr × Obj)) (s : Shared), Inv X pins σ H s →
  wpAny (model X.prog X.w) X.A (forIn ifs true fun c r => if r = true then do let ok ← isTrue c X.env (eval c X.env); pure (ForInStep.yield ok) else pure (ForInStep.yield r)) (L2.TP X pins σ Q) X.xe s
/-- for all contexts of the block -/
def BG (X : Cx) (scope : Scope) (tg : Expr) : TG := fun u σ H Q => ∀ s H0 C cl fp, JG (X.blk s H0 scope (compEnvC scope cl C X.env) fp) tg u σ H Q
def BT (X : Cx) (scope : Scope) (ifs : List Expr) : TT := fun σ H Q => ∀ s H0 C cl fp, JTs (X.blk s H0 scope (compEnvC scope cl C X.env) fp) ifs σ H Q
def BE (X : Cx) (scope : Scope) (elt : Expr) : TE := fun σ H Q => ∀ s H0 C cl fp, JE (X.blk s H0 scope (compEnvC scope cl C X.env) fp) elt σ H Q
theorem BG.pg {X : Cx} {scope : Scope} {tg : Expr} (s : Shared) (H : Hp) (C : Addr) (cl : List (Str × Addr)) (fp : List Addr) : PG (X.blk s H scope (compEnvC scope cl C X.env) fp) tg (BG X scope tg) := ⟨fun pins s' _ _ _ _ _ I r h => h s H C cl fp pins s' _ I r⟩
theorem BT.pt {X : Cx} {scope : Scope} {ifs : List Expr} (s : Shared) (H : Hp) (C : Addr) (cl : List (Str × Addr)) (fp : List Addr) : PTs (X.blk s H scope (compEnvC scope cl C X.env) fp) ifs (BT X scope ifs) := ⟨fun pins s' _ _ _ I h => h s H C cl fp pins s' I⟩
theorem BE.pe {X : Cx} {scope : Scope} {elt : Expr} (s : Shared) (H : Hp) (C : Addr) (cl : List (Str × Addr)) (fp : List Addr) : PE (X.blk s H scope (compEnvC scope cl C X.env) fp) elt (BE X scope elt) := ⟨fun pins s' _ _ _ I h => h s H C cl fp pins s' I⟩
def STs (Γ : GX) (sc : Sc) (ifs : List Expr) (f : M Val) : Prop := ∀ ⦃n : Nat⦄ ⦃X : Cx⦄, Compat Γ sc n X → ∀ {W : WX}, Takes X W → ∀ {en : Ent} {e : Env} {σ : L2.St} {F H : Hp}, Rel Γ.K Γ.C sc.kd en e σ F H →
  ∀ {Q : Bool → Hp → Prop}, Post Γ sc.kd en σ F (asB (f (callN Γ.G n) e)) TB Q W → JTs X ifs σ H Q
theorem sts_nil : STs Γ sc [] (mLit (.bl true)) := by
  intro n X cx W tk en e σ F H r Q P pins s I
  exact pts_nil.run pins s σ H Q I (P true F H (Same.refl _) r rfl)
theorem sts_one (h : ST Γ sc a f) : STs Γ sc [a] f := by
  intro n X cx W tk en e σ F H r Q P pins s I
  exact (pts_one (X := X) JT.pt).run pins s σ H Q I (h cx tk r P)
theorem lc_read {ifs : List Expr} {scope : Scope} {own : List (Str × Nat)} {fi : M (List Val)} {bd : Bind} {ns : List Nat} (hi : SI Γ sc tg iter fi) (hown : (own.all fun p => decide (kdAt sc.kd p.2 = .imm)) = true) (hns : (ns.all fun i => decide (i ∈ own.map (·.2))) = true)
    (hg : SG Γ (sc.blk scope) tg bd ns) (ht : STs Γ (sc.blk scope) ifs ft) (he : SV Γ (sc.blk scope) elt fe) {n : Nat} {X : Cx} (cx : Compat Γ sc n X) {W : WX} (tk : Takes X W) {en : Ent} {e : Env} {σ : L2.St} {F H : Hp} (r : Rel Γ.K Γ.C sc.kd en e σ F H) {Q : VK}
    (P : Post Γ sc.kd en σ F (mLc (own.map (·.2)) fi bd ft fe (callN Γ.G n) e) (TF Γ sc.kd en σ) Q W) :
    tLc (JI X tg iter) (BG X scope tg) (BT X scope ifs) (BE X scope elt) (own.map (·.2)) σ H Q := by
  generalize hvs : own.map (·.2) = vs at P hns ⊢
  have himm : ∀ i ∈ vs, kdAt sc.kd i = .imm := by
    intro i hi
    rw [← hvs] at hi
    obtain ⟨p, hp, rfl⟩ := List.mem_map.mp hi
    exact of_decide_eq_true (List.all_eq_true.mp hown p hp)
  have hns' : ∀ i ∈ ns, i ∈ vs := fun i hi => of_decide_eq_true (List.all_eq_true.mp hns i hi)
  refine hi cx tk r (Post.seq P fun xs e1 J F1 H1 s1 r1 t1 P1 => ?_)
  intro D hD
  cases htot : mLcGo vs bd ft fe xs [] (callN Γ.G n) (wipeE e1 vs) with
  | exc c fs e2 => rw [htot] at P1; exact P1.elim
  | no => rw [htot] at P1; exact P1.elim
  | ok ys eF =>
  rw [htot] at P1
  obtain ⟨rw1, fr1⟩ := fresh_new (r1.wipe vs) hD (.nil : VRs Γ.K Γ.C F1 [] [])
  refine lc_it (g := BG X scope tg) (tt := BT X scope ifs) (te := BE X scope elt) t1
    (fun i H => ∃ ew σw F acc, σw.length = σ.length ∧ (∀ j, j ∉ vs → σw[j]? = σ[j]?) ∧ Same F1 F ∧ Rel Γ.K Γ.C sc.kd en ew σw F H ∧ Fresh Γ.K Γ.C sc.kd en ew σw F H (.lst acc) (.ref D) ∧ mLcGo vs bd ft fe (xs.drop i) acc (callN Γ.G n) ew = .ok ys eF)
    ⟨wipeE e1 vs, wipe σ vs, F1, [], wipe_length _ _, fun j hj => wipe_ne hj, Same.refl _, rw1, fr1, by simpa using htot⟩ (fun i H _ ⟨_, _, F, _, _, _, s, r, _⟩ => ⟨F, s, r.sub⟩)
    (fun i x H H' hi' ⟨ew, σw, F, acc, hl, hw, s, r, fr, heq⟩ y => ?_) (fun H ⟨ew, σw, F, acc, hl, hw, s, r, fr, heq⟩ => ?_)
  · obtain ⟨v, F', hv, gr, hx⟩ := y F s r.sub
    have hd : xs.drop i = v :: xs.drop (i + 1) := by
      obtain ⟨hl, e2⟩ := List.getElem?_eq_some_iff.mp hv
      rw [← e2]; exact List.drop_eq_getElem_cons hl
    rw [hd] at heq
    simp only [mLcGo] at heq
    obtain ⟨en', r', back⟩ := r.holdF fr
    have r2 := (r'.grow gr).wipe vs
    have ew : wipe σw vs = wipe σ vs := wipe_eq hl hw
    rw [ew] at r2
    cases hb : bd v (wipeE _ vs) with
    | none => rw [hb] at heq; cases heq
    | some e3 =>
    rw [hb] at heq
    simp only at heq
    cases ht' : asB (ft (callN Γ.G n) e3) with
    | exc c fs e4 => rw [ht'] at heq; cases heq
    | no => rw [ht'] at heq; cases heq
    | ok k e4 =>
    rw [ht'] at heq
    simp only at heq
    intro sB HB CB clB fpB
    refine hg (cx.blk sB HB CB clB fpB) r2 hx hb fun σ2 sm r3 => ?_
    have hl2 : σ2.length = σ.length := sm.1.trans (wipe_length _ _)
    have hw2 : ∀ j, j ∉ vs → σ2[j]? = σ[j]? := fun j hj => (sm.2 j fun z => hj (hns' j z)).trans (wipe_ne hj)
    refine ⟨wipe_eq hl2 hw2, ?_⟩
    intro sC HC CC clC fpC
    refine ht (cx.blk sC HC CC clC fpC) takes0 r3 ?_
    rw [ht']
    intro kk F4 H4 s4 r4 hkk
    have hkk : k = kk := hkk
    subst hkk
    by_cases hk : k = true
    · rw [if_pos hk] at heq
      rw [if_pos hk]
      intro sE HE CE clE fpE
      refine he (cx.blk sE HE CE clE fpE) takes0 r4 ?_
      cases hf' : fe (callN Γ.G n) e4 with
      | exc c fs e5 => rw [hf'] at heq; cases heq
      | no => rw [hf'] at heq; cases heq
      | ok z e5 =>
        rw [hf'] at heq
        simp only at heq
        intro u F5 H5 s5 r5 t5
        by_cases hlen : acc.length < line
        · rw [if_pos hlen] at heq
          obtain ⟨r6, fr6⟩ := back e5 σ2 F5 H5 (gr.ff.trans (s4.trans s5)) r5
          rcases fr6 with ⟨sc', _⟩ | ⟨q, hq, ow, nF, l0, ap⟩
          · cases sc'
          cases hq
          have no := ow.noOwn
          cases ow with
          | @lst _ us _ hH hvs' =>
            refine ⟨us, hH, by rw [hvs'.length]; exact hlen, e5, σ2, F5, acc ++ [z], hl2, hw2, s.trans (gr.ff.trans (s4.trans s5)), r6.updF nF l0 ap no, .inr ⟨D, rfl, .lst upd_same (hvs'.append (.cons t5 .nil)), nF, l0, ap⟩, heq⟩
        · rw [if_neg hlen] at heq; cases heq
    · rw [if_neg hk] at heq
      rw [if_neg hk]
      obtain ⟨r6, fr6⟩ := back e4 σ2 F4 H4 (gr.ff.trans s4) r4
      exact ⟨e4, σ2, F4, acc, hl2, hw2, s.trans (gr.ff.trans s4), r6, fr6, heq⟩
  · rw [List.drop_length] at heq
    simp only [mLcGo] at heq
    cases heq
    refine P1 (.ref D) F H s (Rel.unwipe himm r1 s r hl hw) ?_
    rcases fr with ⟨sc', _⟩ | ⟨q, hq, ow, nF, l0, ap⟩
    · cases sc'
    refine .inr ⟨q, hq, ow, nF, l0, fun i w k hi si => ?_⟩
    rcases unwipe_get hi with ⟨h1, _⟩ | ⟨h1, hi⟩
    · exact k (himm i h1)
    · exact ap i w k hi (by rw [hw i h1]; exact si)
theorem sf_lc {ifs : List Expr} {scope : Scope} {own : List (Str × Nat)} {fi : M (List Val)} {bd : Bind} {ns : List Nat} (hi : SI Γ sc tg iter fi) (hk : blkC sc.N { scope with names := sc.names } scope own = true) (hown : (own.all fun p => decide (kdAt sc.kd p.2 = .imm)) = true) (hns : (ns.all fun i => decide (i ∈ own.map (·.2))) = true)
    (hg : SG Γ (sc.blk scope) tg bd ns) (ht : STs Γ (sc.blk scope) ifs ft) (he : SV Γ (sc.blk scope) elt fe) (hs : ∀ env x, foldedSetIterable iter env x = pure x := by intro _ _; rfl) :
    SF Γ sc (.ListComp elt [⟨tg, iter, ifs, 0⟩] scope pos) (mLc (own.map (·.2)) fi bd ft fe) := by
  intro n X cx W tk en e σ F H r Q P
  refine je (pe_lc cx.calm cx.nd JI.pi (blk_ok cx hk) BG.pg BT.pt BE.pe (hs _)) ?_
  exact lc_read hi hown hns hg ht he cx tk r P
theorem swapLc {env : PySem.Env} {y : Str} {py pos : Pos} {ln : Nat} {gens : List Comprehension} {scope : Scope} (hb : env.blockKind = .function) (hy : env.kindOf y = some .local) (hl : (py.line == pos.line) = true) (hn : (scope.names.any fun (n, k) => n == y && (k == .local || k == .cell)) = false) :
    swapsWith (.ListComp elt gens scope pos) (some (.Name y py)) ln env = pure true := by
  unfold swapsWith
  simp only [hb, hy, Expr.pos, hl, hn]
  rfl
/-- x = [..] on one line, x a plain local -/
theorem ss_setLc {i : Nat} {y : Str} {py spos : Pos} {ifs : List Expr} {scope : Scope} {own : List (Str × Nat)} {fi : M (List Val)} {bd : Bind} {ns : List Nat} (hy : LocN sc i y) (hkd : kdAt sc.kd i ≠ .io) (hl : (py.line == pos.line) = true) (hn : (scope.names.any fun (n, k) => n == y && (k == .local || k == .cell)) = false)
    (hi : SI Γ sc tg iter fi) (hk : blkC sc.N { scope with names := sc.names } scope own = true) (hown : (own.all fun p => decide (kdAt sc.kd p.2 = .imm)) = true) (hns : (ns.all fun i => decide (i ∈ own.map (·.2))) = true)
    (hg : SG Γ (sc.blk scope) tg bd ns) (ht : STs Γ (sc.blk scope) ifs ft) (he : SV Γ (sc.blk scope) elt fe) (hs : ∀ env x, foldedSetIterable iter env x = pure x := by intro _ _; rfl) :
    SS Γ sc fr (.Assign [.Name y py] (.ListComp elt [⟨tg, iter, ifs, 0⟩] scope pos) spos) (sAsg (bindName i) (mLc (own.map (·.2)) fi bd ft fe)) := by
  intro n X cx sx W tk en e σ F H r D P pins s0 I0
  refine js (ps_setLc cx.calm cx.nd (by rw [cx.N]; exact hy.1) (cx.lcl hy.2) (swapLc (by unfold PySem.Env.blockKind; rw [I0.ok.kind]; rfl) (cx.lcl hy.2) hl hn) JI.pi (blk_ok cx hk) BG.pg BT.pt BE.pe (hs _)) ?_ pins s0 I0
  refine lc_read hi hown hns hg ht he cx tk r (PostS.toS P fun v e1 u F1 H1 s1 r1 t1 P1 => ?_)
  unfold bindName at P1
  by_cases hl : i < e1.length
  · rw [if_pos hl] at P1
    rcases hkk : kdAt sc.kd i with _ | _ | _
    · obtain ⟨F2, s2, r2, v2⟩ := fresh_freeze r1 t1
      exact P1 _ F2 H1 s2 (r2.setImm hkk v2)
    · exact P1 _ F1 H1 (Same.refl _) (r1.setOwn hkk t1)
    · exact absurd hkk hkd
  · rw [if_neg hl] at P1; exact P1.elim
theorem swapC {env : PySem.Env} {y : Str} {py : Pos} {ln : Nat} {v : Expr} (hy : env.kindOf y = some .cell) : swapsWith v (some (.Name y py)) ln env = pure false := by
  unfold swapsWith
  simp only [hy]
  split
  · rename_i sc0 _
    show (pure _ : Sem Bool) = _
    rw [show (some NameKind.cell == some NameKind.local) = false from rfl]
    simp
  · rfl
end
end CG
end
section
set_option Elab.async false
set_option linter.all false
set_option maxRecDepth 100000
set_option autoImplicit false
/-! CG12: defs keep their promises. -/
namespace CG
open PySem PySem.Spec L2
def addrOf : List Bool → List Addr → Nat → Option Addr
  | [], _, _ => none
  | false :: _, _, 0 => none
  | false :: m, as, i + 1 => addrOf m as i
  | true :: _, [], _ => none
  | true :: _, a :: _, 0 => some a
  | true :: m, _ :: as, i + 1 => addrOf m as i
section
variable {K : PySem.W.Frag} {C : Str → Option Addr} {kd : Kds} {en : Ent} {e e1 e2 : Env} {σ σ' : L2.St} {F H F1 H1 F2 H2 : Hp}
theorem ArgsR.len {m : List Bool} {vs : List Val} {us : List V} {ios : List Addr} (h : ArgsR K C F H m vs us ios) : vs.length = m.length ∧ us.length = m.length := by
  induction h with
  | nil => exact ⟨rfl, rfl⟩
  | v _ _ ih => exact ⟨by simp [ih.1], by simp [ih.2]⟩
  | io _ _ _ _ ih => exact ⟨by simp [ih.1], by simp [ih.2]⟩
theorem ArgsR.at {m : List Bool} {vs : List Val} {us : List V} {ios : List Addr} (h : ArgsR K C F H m vs us ios) : ∀ {i : Nat} {v : Val}, vs[i]? = some v → ∃ u, us[i]? = some u ∧
    ((m[i]? = some false ∧ VR K C F v u) ∨ (m[i]? = some true ∧ ∃ a, u = .ref a ∧ addrOf m ios i = some a ∧ a ∈ ios ∧ OW K C F H (fun _ => True) v a ∧ F a = none)) := by
  induction h with
  | nil => intro i v h; simp at h
  | @v m v0 u vs us as hv _ ih =>
    intro i w h
    cases i with
    | zero => simp at h; subst h; exact ⟨u, rfl, .inl ⟨rfl, hv⟩⟩
    | succ i =>
      obtain ⟨u', h1, h2⟩ := ih (by simpa using h)
      refine ⟨u', by simpa using h1, ?_⟩
      rcases h2 with ⟨h2, h3⟩ | ⟨h2, a, h3, h4, h5, h6⟩
      · exact .inl ⟨by simpa using h2, h3⟩
      · exact .inr ⟨by simpa using h2, a, h3, h4, h5, h6⟩
  | @io m v0 a vs us as ow hF ha _ ih =>
    intro i w h
    cases i with
    | zero => simp at h; subst h; exact ⟨_, rfl, .inr ⟨rfl, a, rfl, rfl, List.mem_cons_self, ow, hF⟩⟩
    | succ i =>
      obtain ⟨u', h1, h2⟩ := ih (by simpa using h)
      refine ⟨u', by simpa using h1, ?_⟩
      rcases h2 with ⟨h2, h3⟩ | ⟨h2, b, h3, h4, h5, h6⟩
      · exact .inl ⟨by simpa using h2, h3⟩
      · exact .inr ⟨by simpa using h2, b, h3, h4, List.mem_cons_of_mem _ h5, h6⟩
theorem ArgsR.memAddr {m : List Bool} {vs : List Val} {us : List V} {ios : List Addr} (h : ArgsR K C F H m vs us ios) : ∀ a ∈ ios, H a ≠ none := by
  induction h with
  | nil => intro a h; cases h
  | v _ _ ih => exact ih
  | io ow _ _ _ ih =>
    intro b hb
    rcases List.mem_cons.mp hb with rfl | hb
    · exact ow.there
    · exact ih b hb
theorem addrOf_mem : ∀ {m : List Bool} {as : List Addr} {i : Nat} {a : Addr}, addrOf m as i = some a → a ∈ as
  | [], _, _, _, h => by simp [addrOf] at h
  | false :: _, _, 0, _, h => by simp [addrOf] at h
  | false :: m, as, i + 1, _, h => addrOf_mem (m := m) (i := i) (by simpa [addrOf] using h)
  | true :: _, [], _, _, h => by simp [addrOf] at h
  | true :: _, a :: _, 0, _, h => by simp [addrOf] at h; simp [h]
  | true :: m, _ :: as, i + 1, _, h => List.mem_cons_of_mem _ (addrOf_mem (m := m) (i := i) (by simpa [addrOf] using h))
theorem ArgsR.inj {m : List Bool} {vs : List Val} {us : List V} {ios : List Addr} (h : ArgsR K C F H m vs us ios) : ∀ {i j : Nat} {a : Addr}, i ≠ j → addrOf m ios i = some a → addrOf m ios j = some a → False := by
  induction h with
  | nil => intro i j a _ h; simp [addrOf] at h
  | v _ _ ih =>
    intro i j a hij h1 h2
    cases i <;> cases j <;> simp [addrOf] at h1 h2
    exact ih (by omega) h1 h2
  | io _ _ ha _ ih =>
    intro i j a hij h1 h2
    cases i <;> cases j <;> simp [addrOf] at h1 h2
    · exact hij rfl
    · subst h1; exact ha (addrOf_mem h2)
    · subst h2; exact ha (addrOf_mem h1)
    · exact ih (by omega) h1 h2
/-- which slots a def begins with -/
def kdOk (io : List Bool) (kd : Kds) : Bool := decide (kd.take io.length = io.map fun b => if b = true then Kd.io else Kd.imm)
theorem kdOk_at {io : List Bool} {kd : Kds} (h : kdOk io kd = true) {i : Nat} {b : Bool} (hi : io[i]? = some b) : kdAt kd i = if b = true then Kd.io else Kd.imm := by
  have h : kd.take io.length = io.map fun b => if b = true then Kd.io else Kd.imm := of_decide_eq_true h
  have hl : i < io.length := (List.getElem?_eq_some_iff.mp hi).1
  have q : (kd.take io.length)[i]? = some (if b = true then Kd.io else Kd.imm) := by rw [h, List.getElem?_map, hi]; rfl
  rw [List.getElem?_take_of_lt hl] at q
  unfold kdAt
  rw [List.getD_eq_getElem?_getD, q]; rfl
theorem start_get {N : List Str} {us : List V} {i : Nat} {u : V} (h : us[i]? = some u) : (L2.start N us)[i]? = some (some u) := by
  unfold L2.start
  have hl := (List.getElem?_eq_some_iff.mp h).1
  rw [List.getElem?_append_left (by simpa using hl), List.getElem?_map, h]; rfl
theorem e0_get {n : Nat} {vs : List Val} {i : Nat} {v : Val} (h : (vs.map some ++ List.replicate (n - vs.length) none)[i]? = some (some v)) : vs[i]? = some v := by
  by_cases hl : i < vs.length
  · rw [List.getElem?_append_left (by simpa using hl), List.getElem?_map] at h
    cases q : vs[i]? with
    | none => rw [q] at h; cases h
    | some w => rw [q] at h; cases h; rfl
  · rw [List.getElem?_append_right (by simpa using hl), List.getElem?_replicate] at h
    split at h <;> cases h
theorem rel_start {N : List Str} {m : List Bool} {vs : List Val} {us : List V} {ios : List Addr} (sm : Same F H) (h : ArgsR K C F H m vs us ios) (hk : kdOk m kd = true) (hN : m.length ≤ N.length) :
    Rel K C kd ⟨F, H, ios, addrOf m ios⟩ (vs.map some ++ List.replicate (N.length - vs.length) none) (L2.start N us) F H where
  sub := sm
  len := by
    unfold L2.start
    have := h.len
    simp [this.1, this.2]
  imm := fun i v k hi => by
    obtain ⟨u, hu, q⟩ := h.at (e0_get hi)
    refine ⟨u, start_get hu, ?_⟩
    rcases q with ⟨_, q⟩ | ⟨hm, _⟩
    · exact q
    · rw [kdOk_at hk hm] at k; cases k
  own := fun i v k hi => by
    obtain ⟨u, hu, q⟩ := h.at (e0_get hi)
    refine ⟨u, start_get hu, ?_⟩
    rcases q with ⟨hm, _⟩ | ⟨hm, a, rfl, h1, h2, ow, nF⟩
    · rw [kdOk_at hk hm] at k; exact absurd rfl k
    · have kk := kdOk_at hk hm
      rw [kk]
      exact .inr ⟨a, rfl, ow.any (fun dx C0 fs hb _ => ⟨fun z => (by cases z), fun _ => ⟨C0, fs, hb⟩⟩), nF, fun z => (by cases z), fun _ => ⟨h1, h2⟩⟩
  sep := fun i j a v w hij ki kj hi hj si sj => by
    obtain ⟨u, hu, q⟩ := h.at (e0_get hi)
    obtain ⟨u', hu', q'⟩ := h.at (e0_get hj)
    rw [start_get hu] at si; cases si
    rw [start_get hu'] at sj; cases sj
    rcases q with ⟨hm, _⟩ | ⟨hm, b, e1, h1, _⟩
    · rw [kdOk_at hk hm] at ki; exact ki rfl
    rcases q' with ⟨hm', _⟩ | ⟨hm', b', e2, h1', _⟩
    · rw [kdOk_at hk hm'] at kj; exact kj rfl
    cases e1; cases e2
    exact h.inj hij h1 h1'
  b1 := fun q o hq _ => hq
  b2 := fun q hq => .inl hq
  b3 := fun q hq => hq
  b4 := Same.refl _
  b5 := fun q hq => h.memAddr q hq
theorem Rel.stepBack (r : Rel K C kd en e σ F H) : Step en.F0 en.H0 F H en.io := ⟨r.b4, r.sub, r.b1, r.b2, r.b3⟩
theorem outs_of {P : Nat → Option Addr} {as0 : List Addr} (r : Rel K C kd en e σ F H) : ∀ {m : List Bool} {as : List Addr} {k : Nat} {vs : List Val} {us : List V} {F0 H0 : Hp} {outs : List Val}, ArgsR K C F0 H0 m vs us as → (∀ i, en.P (k + i) = addrOf m as i) → (∀ i, m[i]? = some true → kdAt kd (k + i) = .io) → ioOut e m k = some outs → Outs K C en.H0 F H outs as := by
  intro m as k vs us F0 H0 outs h
  induction h generalizing k outs with
  | nil => intro _ _ h; simp [ioOut] at h; subst h; exact .nil
  | v _ _ ih =>
    intro hP hm h
    refine ih (k := k + 1) (fun i => ?_) (fun i hi => ?_) (by simpa [ioOut] using h)
    · have := hP (i + 1); rw [show k + 1 + i = k + (i + 1) by omega]; exact this
    · rw [show k + 1 + i = k + (i + 1) by omega]; exact hm (i + 1) (by simpa using hi)
  | @io m v a vs us as _ _ _ _ ih =>
    intro hP hm h
    simp only [ioOut] at h
    split at h
    · rename_i v he
      split at h
      · cases h
      · rename_i hs
        obtain ⟨ws, h1, rfl⟩ := Option.map_eq_some_iff.mp h
        have kk : kdAt kd k = .io := by have := hm 0 rfl; simpa using this
        obtain ⟨u, su, q⟩ := r.own k v (by rw [kk]; decide) he
        rcases q with ⟨z, _⟩ | ⟨b, rfl, ow, n, _, p⟩
        · exact absurd z hs
        have pk := (p kk).1
        have pk0 := hP 0
        simp only [Nat.add_zero, addrOf] at pk0
        rw [pk] at pk0; cases pk0
        rw [kk] at ow
        refine .cons (ow.any fun dx C0 fs _ hd => hd.2 rfl) n (ih (k := k + 1) (fun i => ?_) (fun i hi => ?_) h1)
        · have := hP (i + 1); rw [show k + 1 + i = k + (i + 1) by omega]; exact this
        · rw [show k + 1 + i = k + (i + 1) by omega]; exact hm (i + 1) (by simpa using hi)
    · cases h
end
section
variable {Γ : GX} {sc : Sc}
/-- what a body's result means outside -/
theorem post_out {kd : Kds} {d : Def} {m : Nat} {F H : Hp} {vs : List Val} {us : List V} {ios : List Addr} {f : Fn} {Q : VK} {E : XK} {N : List Str} (h : ArgsR Γ.K Γ.C F H d.io vs us ios) (hk : kdOk d.io kd = true) (hG : Γ.G f = some d) (hN : d.nslots = N.length)
    (cp : CPost Γ d.fresh F H ios (callN Γ.G (m + 1) f vs) Q E) :
    PostS Γ kd ⟨F, H, ios, addrOf d.io ios⟩ F d.fresh (d.body (callN Γ.G m) (vs.map some ++ List.replicate (N.length - vs.length) none)) { nx := fun _ H' => Q .non H', rt := Q } (fun cls dd _ H' => E cls dd H') := by
  have hio : ∀ i, d.io[i]? = some true → kdAt kd (0 + i) = .io := fun i hi => by rw [Nat.zero_add, kdOk_at hk hi]; rfl
  simp only [callN, hG, runDef] at cp
  rw [if_pos h.len.1, hN] at cp
  cases hr : d.body (callN Γ.G m) (vs.map some ++ List.replicate (N.length - vs.length) none) with
  | no => rw [hr] at cp; exact cp.elim
  | exc c fs e => rw [hr] at cp; exact fun cls dd σ F' H' s r x => cp cls dd F' H' r.stepBack x
  | next e =>
    rw [hr] at cp
    intro σ F' H' s r
    simp only at cp
    split at cp
    · rename_i outs ho
      refine cp .non F' H' r.stepBack (outs_of (en := ⟨F, H, ios, addrOf d.io ios⟩) (P := addrOf d.io ios) (as0 := ios) r h (fun i => by rw [Nat.zero_add]) hio ho) ?_
      split
      · exact .inl ⟨rfl, .non⟩
      · exact .non
    · exact cp.elim
  | ret v e =>
    rw [hr] at cp
    intro u σ F' H' s r t
    simp only at cp
    split at cp
    · rename_i outs ho
      refine cp u F' H' r.stepBack (outs_of (en := ⟨F, H, ios, addrOf d.io ios⟩) (P := addrOf d.io ios) (as0 := ios) r h (fun i => by rw [Nat.zero_add]) hio ho) ?_
      split
      · rename_i hf
        rw [if_pos hf] at t
        rcases t with t | ⟨a, rfl, ow, n, l, ap⟩
        · exact .inl t
        · refine .inr ⟨a, rfl, ow.any fun dx _ _ _ hd => hd.1 rfl, n, l, fun hm => r.b5 a hm l⟩
      · rename_i hf
        rw [if_neg hf] at t
        exact t
    · exact cp.elim
theorem fn_sound {n : Nat} {f : Fn} {d : Def} {x qual : Str} {st : Stmt} {fa : Addr} {fd : FuncData} {ps : List Str} (F : L2.Fun Γ.K x qual st fa fd) (S : FnScope sc.N ps (defScope st)) (hnm : sc.names = (defScope st).names) (hcell : True) (hG : Γ.G f = some d) (hN : d.nslots = sc.N.length) (hio : d.io.length = ps.length) (hk : kdOk d.io sc.kd = true) (hkl : sc.kd.length = sc.N.length)
    (hb : SSs Γ sc d.fresh (defBody st) d.body) (hnb : ∀ x ∈ blNames, Γ.mg x = none) (ih : FnsOk Γ n) : FnOk Γ.P Γ.w Γ.K Γ.mg Γ.base (L2.CX Γ.P Γ.w) (2 * (n + 1) + 4) fa fd ps (spOf Γ (n + 1) f d) := by
  have hpl : ps.length ≤ sc.N.length := by have := congrArg List.length S.pre; rw [List.length_take] at this; omega
  refine Fun.okX (k := 2 * n + 5) F S (fun us H Q E ⟨F0, vs, ios, sm, har, _⟩ => ?_) (fun cdv A outer s H us Q E hr ⟨F0, vs, ios, sm, har, cp⟩ => ⟨JSs _ (defBody st), JSs.ps, ?_⟩)
  · rw [har.len.2, hio]
  · have cx : Compat Γ sc n (cxOf (L2.CX Γ.P Γ.w) Γ.P Γ.w Γ.K Γ.mg Γ.base sc.N qual (defScope st) fa cdv A outer s H E) :=
      ⟨rfl, rfl, rfl, rfl, rfl, rfl, S.nd, fun x k h => .inl (by rw [hnm] at h; exact h), rfl, hr, ih, hnb, hkl, fun _ _ => rfl⟩
    have tk : Takes (cxOf (L2.CX Γ.P Γ.w) Γ.P Γ.w Γ.K Γ.mg Γ.base sc.N qual (defScope st) fa cdv A outer s H E) (fun cls d _ H => E cls d H) := takes_of rfl rfl rfl rfl
    refine hb cx ⟨passes_of (K := fun e s'' => L2.CX Γ.P Γ.w outer H s E e s'') rfl, rfl, rfl, rfl⟩ tk (rel_start sm har hk (by rw [hio]; exact hpl)) ?_
    exact post_out har hk hG hN cp
/-- all defs of the table -/
theorem all_ok (h : ∀ n, FnsOk Γ n → ∀ f d a, Γ.G f = some d → Γ.loc f = some a → FnOk Γ.P Γ.w Γ.K Γ.mg Γ.base (L2.CX Γ.P Γ.w) (2 * (n + 1) + 4) a.addr a.fd a.ps (spOf Γ (n + 1) f d)) (hlen : ∀ f d a, Γ.G f = some d → Γ.loc f = some a → d.io.length = a.ps.length) : ∀ n, FnsOk Γ n
  | 0 => fun f d a hf ha => ⟨fun us H Q E ⟨F0, vs, ios, sm, har, cp⟩ => by rw [har.len.2, hlen f d a hf ha], fun A outer s H args us vs Q E _ _ _ _ ⟨F0, _, ios, sm, har, cp⟩ => cp.elim⟩
  | n + 1 => h n (all_ok h hlen n)
end
end CG
end
section
set_option Elab.async false
set_option linter.all false
set_option maxRecDepth 100000
set_option autoImplicit false
/-! CG13: short words; sums of two kinds; sorted, min, max over data; isinstance; fields. -/
namespace CG
open PySem PySem.Spec L2
section
variable {Γ : GX} {sc : Sc} {fr : Bool} {ex a b c : Expr} {f g h : M Val} {pos p : Pos} {st : Stmt} {rest : List Stmt} {u v : S}
theorem slotN_by {i : Nat} {x : Str} (hN : sc.N[i]? = some x) (hv : sc.names.lookup x = some .local ∨ sc.names.lookup x = some .cell ∨ sc.names.lookup x = some .free) (k : kdAt sc.kd i ≠ .imm) (hd : (x == ("__debug__" : Str)) = false := by decide) (hcd : (x == ("__classdict__" : Str)) = false := by decide) : SlotN sc i x := ⟨hN, hv, k, hd, hcd⟩
theorem blN_by {x : Str} {v : Value} (hg : sc.names.lookup x = some .globalImplicit) (hb : x ∈ blNames := by decide +kernel) (hv : bootBuiltins x = some v := by decide +kernel) (hn : x ≠ "__name__" := by decide) (hd : (x == ("__debug__" : Str)) = false := by decide) : BlN sc x v := ⟨hg, hb, hv, hn, hd⟩
theorem fvB {s : String} : (∃ id, (Value.builtin s) = .builtin id) ∨ ∃ T, (Value.builtin s) = .type T := .inl ⟨_, rfl⟩
theorem fvT {s : String} : (∃ id, (Value.type s) = .builtin id) ∨ ∃ T, (Value.type s) = .type T := .inr ⟨_, rfl⟩
def addA (a b : Val) : Option Val := match a, b with
  | .lst xs, .lst ys => catV (.lst xs) (.lst ys)
  | a, b => addV a b
theorem b2_addA : B2 Γ (binaryOp .Add) addA := by
  intro sc n X cx a b r ho F H sm x y ta tb Q q
  unfold addA at ho
  split at ho
  · exact b2f_cat cx ho sm ta tb (fun p us vs ev hp hv => q _ (upd F p (.lst us)) _ (Grow.alloc sm hp) (ev ▸ .lst upd_same (hv.mono (same_upd (sm.free hp)))))
  · exact b2_add cx ho sm ta tb q
def mulA (a b : Val) : Option Val := match a, b with
  | .lst xs, .int k => repV (.lst xs) (.int k)
  | a, b => mulV a b
theorem b2_mulA : B2 Γ (binaryOp .Mult) mulA := by
  intro sc n X cx a b r ho F H sm x y ta tb Q q
  unfold mulA at ho
  split at ho
  · exact b2f_rep cx ho sm ta tb (fun p us vs ev hp hv => q _ (upd F p (.lst us)) _ (Grow.alloc sm hp) (ev ▸ .lst upd_same (hv.mono (same_upd (sm.free hp)))))
  · exact b2_mul cx ho sm ta tb q
/-! ### fields -/
theorem FRs.lookup {K : PySem.W.Frag} {C : Str → Option Addr} {F : Hp} {k : Str} {v : Val} : ∀ {fs : List (Str × Val)} {fus : List (Str × V)}, FRs K C F fs fus → fs.lookup k = some v → ∃ u, fus.lookup k = some u ∧ VR K C F v u
  | _, _, .nil, h => by cases h
  | _, _, .cons (k := m) hv r, h => by
    rw [List.lookup_cons] at h ⊢
    cases hb : k == m with
    | true => rw [hb] at h; cases h; exact ⟨_, rfl, hv⟩
    | false => rw [hb] at h; exact FRs.lookup r h
def fldV (f : Str) : Val → Option Val
  | .obj _ fs => fs.lookup f
  | _ => none
/-- f is a plain field of the own classes -/
def FldOk (Γ : GX) (f : Str) : Prop := ∀ c Ca, Γ.C c = some Ca → Cls Γ.K Ca ∧ NoAttr Γ.K Ca f
theorem sv_fld {x : Str} (hf : FldOk Γ x) (ha : SV Γ sc a f) (hb : ∀ env, attributeBase a x env (eval a env) = eval a env := by intro _; rfl) : SV Γ sc (.Attribute a x pos) (mUn (fldV x) f) := by
  intro n X cx W tk en e σ F H r Q P
  refine je (pe_fld JE.pe (hb _)) ?_
  refine ha cx tk r (Post.seq P fun v e1 u F1 H1 s1 r1 t1 P1 => ?_)
  obtain ⟨z, hz, q⟩ := P1.ret
  cases t1 with
  | @obj q0 dx cn Ca fus fs hc h1 h2 hfs =>
    obtain ⟨k1, k2⟩ := hf cn Ca hc
    obtain ⟨uz, hu, hv⟩ := hfs.lookup hz
    exact ⟨q0, Ca, dx, fus, uz, rfl, r1.sub _ _ h1, by rw [cx.K]; exact k1, by rw [cx.K]; exact k2, hu, q _ F1 H1 (Same.refl _) r1 hv⟩
  | tup _ _ => cases hz
  | lst _ _ => cases hz
  | non => cases hz
  | bl _ => cases hz
  | int _ => cases hz
  | str _ => cases hz
  | dct _ _ => cases hz
  | scr _ => cases hz
/-! ### isinstance with a built-in type -/
def tyName : Val → Option String
  | .non => some "NoneType"
  | .bl _ => some "bool"
  | .int _ => some "int"
  | .str _ => some "str"
  | .tup _ => some "tuple"
  | .lst _ => some "list"
  | .dct _ => some "dict"
  | _ => none
def isTy (a T : String) : Bool := a == T || (a == "bool" && T == "int")
def isiV (T : String) (v : Val) : Option Val := (tyName v).map fun a => .bl (isTy a T)
theorem ty_of {K : PySem.W.Frag} {C : Str → Option Addr} {F H : Hp} (sm : Same F H) {v : Val} {u : V} {a : String} (h : VR K C F v u) (e : tyName v = some a) : TyX K H u (.type a) ∧ a ∈ ["NoneType", "bool", "int", "str", "tuple", "list", "dict"] := by
  cases h <;> simp [tyName] at e <;> subst e
  · exact ⟨.base .non, by decide⟩
  · exact ⟨.base (.bl _), by decide⟩
  · exact ⟨.base (.int _), by decide⟩
  · exact ⟨.base (.str _), by decide⟩
  · rename_i q us vs hs _
    rcases hs with (h | ⟨o, h⟩) | h
    · exact ⟨.base (.tup (sm _ _ h)), by decide⟩
    · exact ⟨.fTuple (sm _ _ h), by decide⟩
    · obtain ⟨o, _, _, hk, hc, _⟩ := h
      exact ⟨.kTuple hk hc, by decide⟩
  · rename_i q us vs h _
    exact ⟨.base (.lst (sm _ _ h)), by decide⟩
  · rename_i q kus kvs h _
    exact ⟨.base (.dK (sm _ _ h)), by decide⟩
/-- the built-in types that a text asks for -/
def tyList : List String := ["int", "bool", "str", "tuple", "list", "dict"]
theorem isTy_ok : ∀ a ∈ ["NoneType", "bool", "int", "str", "tuple", "list", "dict"], ∀ T ∈ tyList, kitB a T = some (isTy a T) := by decide +kernel
theorem sv_isi {T : String} {x : Str} {p2 : Pos} (hT : T ∈ tyList) (bi : BlN sc "isinstance" (.builtin "isinstance")) (bT : BlN sc x (.type T)) (ha : SV Γ sc a f)
    (hs : ∀ env, starEach [a, .Name x p2] env = (false, eval a env) :: starEach [.Name x p2] env := by intro _; rfl) : SV Γ sc (.Call (.Name "isinstance" p) [a, .Name x p2] [] pos) (mUn (isiV T) f) := by
  intro n X cx W tk en e σ F H r Q P
  have hn : X.mg ("isinstance" : Str) = none := by rw [cx.mg]; exact cx.nb _ bi.hb
  have hx : PE X (.Name x p2) (tC (.ty T)) := pe_bltn (cx.gl bT.hg) (by rw [cx.mg]; exact cx.nb _ bT.hb) bT.hv rfl bT.hn bT.hd
  refine je (pe_callV fvB call_isi (cx.gl bi.hg) hn bi.hv (pa_cons JE.pe (pa_cons hx pa_nil) (hs _)) bi.hn bi.hd (hs _) rfl) ?_
  refine ha cx tk r (Post.seq P fun v e1 u F1 H1 s1 r1 t1 P1 => ?_)
  obtain ⟨z, hz, q⟩ := P1.ret
  unfold isiV at hz
  obtain ⟨t, h1, rfl⟩ := Option.map_eq_some_iff.mp hz
  have t1 : VR Γ.K Γ.C F1 v u := t1
  obtain ⟨h2, h3⟩ := ty_of r1.sub t1 h1
  rw [← cx.K] at h2
  exact ⟨u, .ty T, _, _, _, rfl, .ty T, h2, kit_ty (isTy_ok _ h3 _ hT), q _ F1 H1 (Same.refl _) r1 (.bl _)⟩
/-! ### sorted, min, max -/
def encD (v : Val) : PyData := (toD v).getD .none
def dlt (a b : Val) : Bool := PySem.W.dataLt (encD a) (encD b)
def dle (a b : Val) : Bool := !dlt b a
def alikeB (ds : List PyData) : Bool := ds.all fun d => ds.all fun e => PySem.W.alike d e
def isTupB : PyData → Bool
  | .tuple (_ :: _) => true
  | _ => false
def notTupB : PyData → Bool
  | .none => false
  | .tuple _ => false
  | _ => true
def sortableB (ds : List PyData) : Bool := alikeB ds && (ds.all isTupB || ds.all notTupB) && decide (PyData.depthAll ds ≤ 40)
def sortV : Val → Option Val
  | .lst xs => (match toDs xs with
    | some ds => if sortableB ds && decide (xs.length ≤ line) then some (.lst (xs.mergeSort dle)) else none
    | none => none)
  | _ => none
theorem sortV_lst {vs : List Val} {r : Val} (h : op1 sortV vs = some r) : ∃ ws, r = .lst ws := by
  obtain ⟨v, rfl, hq⟩ := op1_some h
  clear h
  unfold sortV at hq
  split at hq
  · split at hq
    · split at hq
      · cases hq; exact ⟨_, rfl⟩
      · cases hq
    · cases hq
  · cases hq
theorem toDs_map : ∀ {xs : List Val} {ds : List PyData}, toDs xs = some ds → xs.map encD = ds
  | [], _, h => by simp only [toDs] at h; cases h; rfl
  | x :: xs, ds, h => by
    simp only [toDs] at h
    split at h
    · rename_i d hd
      obtain ⟨es, h1, rfl⟩ := Option.map_eq_some_iff.mp h
      rw [List.map_cons, toDs_map h1]
      simp [encD, hd]
    · cases h
theorem sortable_of {ds : List PyData} (h : sortableB ds = true) : PySem.W.AllAlike ds ∧ PySem.W.Sortable ds ∧ PyData.depthAll ds ≤ 40 := by
  unfold sortableB alikeB at h
  simp only [Bool.and_eq_true, Bool.or_eq_true, List.all_eq_true, decide_eq_true_eq] at h
  obtain ⟨⟨h1, h2⟩, h3⟩ := h
  refine ⟨fun d hd e he => h1 d hd e he, ?_, h3⟩
  rcases h2 with h2 | h2
  · refine .inl fun d hd => ?_
    have := h2 d hd
    unfold isTupB at this
    split at this
    · exact ⟨_, _, rfl⟩
    · cases this
  · refine .inr fun d hd => ?_
    have := h2 d hd
    unfold notTupB at this
    split at this
    · cases this
    · cases this
    · rename_i g1 g2; exact ⟨g1, g2⟩
theorem depth_mem : ∀ {ds : List PyData} {d : PyData}, d ∈ ds → d.depth ≤ PyData.depthAll ds
  | x :: xs, d, h => by
    rw [PyData.depthAll]
    rcases List.mem_cons.mp h with rfl | h
    · exact Nat.le_max_left _ _
    · exact Nat.le_trans (depth_mem h) (Nat.le_max_right _ _)
/-- values that lie as given -/
abbrev LiesAs (Γ : GX) (F : Hp) : Value → Val → Prop := fun v b => ∃ u, RelV u v ∧ VR Γ.K Γ.C F b u
theorem lies_each {F : Hp} : ∀ {bs : List Val} {us : List V} {vs : List Value}, VRs Γ.K Γ.C F bs us → Vals us vs → PySem.W.EachIs (LiesAs Γ F) vs bs
  | _, _, _, .nil, .nil => .nil
  | _, _, _, .cons h r, .cons q t => .cons ⟨_, q, h⟩ (lies_each r t)
theorem each_lies {F : Hp} : ∀ {bs : List Val} {vs : List Value}, PySem.W.EachIs (LiesAs Γ F) vs bs → ∃ us, VRs Γ.K Γ.C F bs us ∧ Vals us vs
  | _, _, .nil => ⟨[], .nil, .nil⟩
  | _, _, .cons ⟨u, h1, h2⟩ t => let ⟨us, g1, g2⟩ := each_lies t; ⟨u :: us, .cons h2 g1, .cons h1 g2⟩
theorem each_reads {n : Nat} {X : Cx} (cx : Compat Γ sc n X) {pins : List (Addr × Obj)} {σ : L2.St} {F H : Hp} {s : Shared} (I : L2.Inv X pins σ H s) (sm : Same F H) : ∀ {bs : List Val} {us : List V} {vs : List Value} {ds : List PyData}, VRs Γ.K Γ.C F bs us → Vals us vs → toDs bs = some ds → PySem.W.EachIs (fun v b => ∃ as, Reads s.heap v (encD b) as) vs bs
  | _, _, _, _, .nil, .nil, _ => .nil
  | _, _, _, _, .cons h r, .cons q t, e => by
    simp only [toDs] at e
    split at e
    · rename_i d hd
      obtain ⟨es, h1, rfl⟩ := Option.map_eq_some_iff.mp e
      have k := h.dp sm hd
      rw [← cx.K] at k
      refine .cons ?_ (each_reads cx I sm r t h1)
      have := Dp.reads I _ _ _ k q
      simpa [encD, hd] using this
    · cases e
theorem cnf_sorted : CNF Γ (.builtin "sorted") (op1 sortV) := by
  intro sc n X cx vs r ho F H sm xs tr Q q pins s σ us I rv
  obtain ⟨v, rfl, hq⟩ := op1_some ho
  clear ho
  unfold sortV at hq
  split at hq
  · rename_i ys
    split at hq
    · rename_i ds hds
      split at hq
      · rename_i hc
        cases hq
        simp only [Bool.and_eq_true, decide_eq_true_eq] at hc
        obtain ⟨hs, hl⟩ := hc
        obtain ⟨hal, hsr, hdp⟩ := sortable_of hs
        cases tr with
        | cons t1 tn =>
          cases tn
          obtain ⟨a, ws, rfl, ha, hw⟩ := t1.lst sm
          obtain ⟨its, n0, ri, ho, hz⟩ := I.lst ha
          rw [Vals.ref1 rv]
          have hil : s.heap.IsList a its.toArray := ⟨_, ho, rfl, n0, rfl⟩
          have hm := toDs_map hds
          have e := lies_each hw ri
          have hu := cx.room.un
          have er := each_reads cx I sm hw ri hds
          refine PySem.W.sorted_data (R := LiesAs Γ F) (enc := encD) hil e er (by rw [hm]; exact hal) (by rw [hm]; exact hsr) (by exact hl) (fun b hb => ?_) fun out hlen eo => ?_
          · have : encD b ∈ ds := by rw [← hm]; exact List.mem_map_of_mem hb
            have := depth_mem this
            omega
          · obtain ⟨us', g1, g2⟩ := each_lies eo
            obtain ⟨ep, he'⟩ := PyProof.Rows.sortedAll_at s.heap its out.toArray
            refine ⟨.ref (s.heap.objs.size + 1), upd H (s.heap.objs.size + 1) (.lst us'), I.laid (t' := s.toks) (fun _ _ => PyProof.Rows.sortedAll_old) (Nat.le_succ _) ⟨?_, out, ep, g2, he'⟩, rfl, q _ _ _ rfl (I.hok.fresh (Nat.le_succ _)) g1⟩
            rw [g2.length, hlen]; exact hl
      · cases hq
    · cases hq
  · cases hq
def bestOf (lt : Val → Val → Bool) (x : Val) (xs : List Val) : Val := xs.foldl (fun a y => if lt y a then y else a) x
def bestable (ds : List PyData) : Bool := alikeB ds && ds.all (fun d => match d with | .none => false | _ => true) && decide (PyData.depthAll ds ≤ 40)
def bestV (lt : Val → Val → Bool) (v : Val) : Option Val := match itemsOf v with
  | some (x :: xs) => (match toDs (x :: xs) with
    | some ds => if bestable ds then some (bestOf lt x xs) else none
    | none => none)
  | _ => none
def minV : Val → Option Val := bestV dlt
def maxV : Val → Option Val := bestV fun a b => dlt b a
theorem bestable_of {ds : List PyData} (h : bestable ds = true) : PySem.W.AlikeAll ds ∧ PyData.depthAll ds ≤ 40 := by
  unfold bestable alikeB at h
  simp only [Bool.and_eq_true, List.all_eq_true, decide_eq_true_eq] at h
  obtain ⟨⟨h1, h2⟩, h3⟩ := h
  refine ⟨⟨fun d hd e he => h1 d hd e he, fun d hd z => ?_⟩, h3⟩
  have := h2 d hd
  subst z
  cases this
theorem readsAll_of {h : Heap} : ∀ {vs : List Value} {bs : List Val}, PySem.W.EachIs (fun v b => ∃ as, Reads h v (encD b) as) vs bs → ∃ as, ReadsAll h vs (bs.map encD) as
  | _, _, .nil => ⟨[], .nil⟩
  | _, _, .cons ⟨_, h1⟩ t => let ⟨_, g⟩ := readsAll_of t; ⟨_, .cons h1 g⟩
theorem best_ix (f : PyData → PyData → Bool) (x : Val) (xs : List Val) (ds : List PyData) (h : (x :: xs).map encD = ds) :
    (fun i j => f (ds.getD i .none) (ds.getD j .none)) = fun i j => (fun a b => f (encD a) (encD b)) ((x :: xs).getD i .non) ((x :: xs).getD j .non) := by
  subst h
  funext i j
  have e : ∀ k, ((x :: xs).map encD).getD k .none = encD ((x :: xs).getD k .non) := fun k => by
    rw [List.getD_eq_getElem?_getD, List.getD_eq_getElem?_getD, List.getElem?_map]
    cases (x :: xs)[k]? <;> rfl
  rw [e, e]
theorem best_at {F : Hp} {us : List V} {vs : List Value} {x : Val} {xs : List Val} {lt : Val → Val → Bool} {v : Value} (hw : VRs Γ.K Γ.C F (x :: xs) us) (rv : Vals us vs)
    (hP : vs[PySem.argBest (fun i j => lt ((x :: xs).getD i .non) ((x :: xs).getD j .non)) xs.length]? = some v) : LiesAs Γ F v (bestOf lt x xs) := by
  obtain ⟨h1, h2⟩ := PySem.W.argBest_fold lt Val.non x xs xs.length (Nat.le_refl _)
  rw [List.take_length] at h2
  generalize hk : PySem.argBest (fun i j => lt ((x :: xs).getD i .non) ((x :: xs).getD j .non)) xs.length = k at h1 h2 hP
  have hl : k < (x :: xs).length := by simp; omega
  have hb : (x :: xs)[k]? = some (bestOf lt x xs) := by
    rw [List.getElem?_eq_getElem hl]
    rw [List.getD_eq_getElem?_getD, List.getElem?_eq_getElem hl] at h2
    exact congrArg some h2
  obtain ⟨u, hu, hv⟩ := hw.get hb
  obtain ⟨w, hw', rw'⟩ := rv.get hu
  rw [hP] at hw'; cases hw'
  exact ⟨u, rw', hv⟩
theorem cn_min : CN Γ (.builtin "min") (op1 minV) := by
  intro sc n X cx vs r ho F H sm xs tr Q q pins s σ us I rv
  obtain ⟨v, rfl, hq⟩ := op1_some ho
  clear ho
  unfold minV bestV at hq
  split at hq
  · rename_i y ys hi
    split at hq
    · rename_i ds hds
      split at hq
      · rename_i hc
        cases hq
        obtain ⟨hal, hdp⟩ := bestable_of hc
        have hm := toDs_map hds
        have hu := cx.room.un
        cases tr with
        | cons t1 tn =>
          cases tn
          have hh : X.A.handled = none := cx.room.hd
          have key : ∀ (its : List Value) (ws : List V), VRs Γ.K Γ.C F (y :: ys) ws → Vals ws its → (∃ as, ReadsAll s.heap its.toArray.toList ds as) ∧ its.toArray.size = ys.length + 1 ∧ ∀ (v : Value), its.toArray[PySem.argBest (fun i j => PySem.W.dataLt (ds.getD i .none) (ds.getD j .none)) (its.toArray.size - 1)]? = some v → LiesAs Γ F v (bestOf dlt y ys) := fun its ws hw ri => by
            have er := each_reads cx I sm hw ri hds
            obtain ⟨as, ra⟩ := readsAll_of er
            rw [hm] at ra
            have hsz : its.toArray.size = ys.length + 1 := by
              rw [List.size_toArray, ← ri.length, hw.length]; rfl
            refine ⟨⟨as, by simpa using ra⟩, hsz, fun v hv => ?_⟩
            rw [best_ix PySem.W.dataLt y ys ds hm, hsz] at hv
            refine best_at (lt := dlt) hw ri ?_
            rw [← List.getElem?_toArray]; exact hv
          have fin : ∀ {v : Value} {h' : Heap} {tk : Nat}, LiesAs Γ F v (bestOf dlt y ys) → (∀ b o, s.heap.get? b = some o → h'.get? b = some o) → EP X pins σ Q v { s with heap := h', toks := tk } := fun ⟨u, h1, h2⟩ hk =>
            ⟨u, H, I.kept hk, h1, q u F H (Grow.refl sm) h2⟩
          have go : ∀ {a : Addr} {its : List Value} {ws : List V}, us = [.ref a] → VRs Γ.K Γ.C F (y :: ys) ws → Vals ws its → (s.heap.IsList a its.toArray ∨ s.heap.IsTuple a its.toArray) → wpAny (model X.prog X.w) X.A (call (.builtin "min") us) (EP X pins σ Q) X.xe s := fun {a its ws} e hw ri ht => by
            subst e
            obtain ⟨⟨as, ra⟩, hsz, hb⟩ := key its ws hw ri
            rcases ht with hl | hl
            · refine PySem.call_min_walkH (PySem.W.iter_listW (A := X.A.in1) hh hl fun s₂ e W st hfp hw hk => ?_)
              refine ⟨_, _, _, _, _, _, _, s.heap, _, rfl, W, st, hfp, by omega, hw, hk, PySem.W.cmpIn_lt (A := X.A.in1) ra hal (by show X.A.units + 1 + _ < _; omega), fun v s' hP m => ?_⟩
              obtain ⟨h', tk, rfl, hk'⟩ := PySem.W.moved_old e rfl m
              exact fin (hb v hP) hk'
            · refine PySem.call_min_walkH (PySem.W.iter_tupleW (A := X.A.in1) hh hl fun s₂ e W st hfp hw hk => ?_)
              refine ⟨_, _, _, _, _, _, _, s.heap, _, rfl, W, st, hfp, by omega, hw, hk, PySem.W.cmpIn_lt (A := X.A.in1) ra hal (by show X.A.units + 1 + _ < _; omega), fun v s' hP m => ?_⟩
              obtain ⟨h', tk, rfl, hk'⟩ := PySem.W.moved_old e rfl m
              exact fin (hb v hP) hk'
          unfold itemsOf at hi
          split at hi
          · cases hi
            obtain ⟨a, ws, rfl, ha, hw⟩ := t1.tup sm
            rw [← cx.K] at ha
            obtain ⟨its, ri, ht, hz⟩ := I.tuple ha
            exact go (Vals.ref1 rv) hw ri (.inr ht)
          · cases hi
            obtain ⟨a, ws, rfl, ha, hw⟩ := t1.lst sm
            obtain ⟨its, n0, ri, ho, hz⟩ := I.lst ha
            exact go (Vals.ref1 rv) hw ri (.inl ⟨_, ho, rfl, n0, rfl⟩)
          · cases hi
      · cases hq
    · cases hq
  · cases hq

theorem cn_max : CN Γ (.builtin "max") (op1 maxV) := by
  intro sc n X cx vs r ho F H sm xs tr Q q pins s σ us I rv
  obtain ⟨v, rfl, hq⟩ := op1_some ho
  clear ho
  unfold maxV bestV at hq
  split at hq
  · rename_i y ys hi
    split at hq
    · rename_i ds hds
      split at hq
      · rename_i hc
        cases hq
        obtain ⟨hal, hdp⟩ := bestable_of hc
        have hm := toDs_map hds
        have hu := cx.room.un
        cases tr with
        | cons t1 tn =>
          cases tn
          have hh : X.A.handled = none := cx.room.hd
          have key : ∀ (its : List Value) (ws : List V), VRs Γ.K Γ.C F (y :: ys) ws → Vals ws its → (∃ as, ReadsAll s.heap its.toArray.toList ds as) ∧ its.toArray.size = ys.length + 1 ∧ ∀ (v : Value), its.toArray[PySem.argBest (fun i j => (fun a b => PySem.W.dataLt b a) (ds.getD i .none) (ds.getD j .none)) (its.toArray.size - 1)]? = some v → LiesAs Γ F v (bestOf (fun a b => dlt b a) y ys) := fun its ws hw ri => by
            have er := each_reads cx I sm hw ri hds
            obtain ⟨as, ra⟩ := readsAll_of er
            rw [hm] at ra
            have hsz : its.toArray.size = ys.length + 1 := by
              rw [List.size_toArray, ← ri.length, hw.length]; rfl
            refine ⟨⟨as, by simpa using ra⟩, hsz, fun v hv => ?_⟩
            rw [best_ix (fun a b => PySem.W.dataLt b a) y ys ds hm, hsz] at hv
            refine best_at (lt := fun a b => dlt b a) hw ri ?_
            rw [← List.getElem?_toArray]; exact hv
          have fin : ∀ {v : Value} {h' : Heap} {tk : Nat}, LiesAs Γ F v (bestOf (fun a b => dlt b a) y ys) → (∀ b o, s.heap.get? b = some o → h'.get? b = some o) → EP X pins σ Q v { s with heap := h', toks := tk } := fun ⟨u, h1, h2⟩ hk =>
            ⟨u, H, I.kept hk, h1, q u F H (Grow.refl sm) h2⟩
          have go : ∀ {a : Addr} {its : List Value} {ws : List V}, us = [.ref a] → VRs Γ.K Γ.C F (y :: ys) ws → Vals ws its → (s.heap.IsList a its.toArray ∨ s.heap.IsTuple a its.toArray) → wpAny (model X.prog X.w) X.A (call (.builtin "max") us) (EP X pins σ Q) X.xe s := fun {a its ws} e hw ri ht => by
            subst e
            obtain ⟨⟨as, ra⟩, hsz, hb⟩ := key its ws hw ri
            rcases ht with hl | hl
            · refine PySem.call_max_walkH (PySem.W.iter_listW (A := X.A.in1) hh hl fun s₂ e W st hfp hw hk => ?_)
              refine ⟨_, _, _, _, _, _, _, s.heap, _, rfl, W, st, hfp, by omega, hw, hk, PySem.W.cmpIn_gt (A := X.A.in1) ra hal (by show X.A.units + 1 + _ < _; omega), fun v s' hP m => ?_⟩
              obtain ⟨h', tk, rfl, hk'⟩ := PySem.W.moved_old e rfl m
              exact fin (hb v hP) hk'
            · refine PySem.call_max_walkH (PySem.W.iter_tupleW (A := X.A.in1) hh hl fun s₂ e W st hfp hw hk => ?_)
              refine ⟨_, _, _, _, _, _, _, s.heap, _, rfl, W, st, hfp, by omega, hw, hk, PySem.W.cmpIn_gt (A := X.A.in1) ra hal (by show X.A.units + 1 + _ < _; omega), fun v s' hP m => ?_⟩
              obtain ⟨h', tk, rfl, hk'⟩ := PySem.W.moved_old e rfl m
              exact fin (hb v hP) hk'
          unfold itemsOf at hi
          split at hi
          · cases hi
            obtain ⟨a, ws, rfl, ha, hw⟩ := t1.tup sm
            rw [← cx.K] at ha
            obtain ⟨its, ri, ht, hz⟩ := I.tuple ha
            exact go (Vals.ref1 rv) hw ri (.inr ht)
          · cases hi
            obtain ⟨a, ws, rfl, ha, hw⟩ := t1.lst sm
            obtain ⟨its, n0, ri, ho, hz⟩ := I.lst ha
            exact go (Vals.ref1 rv) hw ri (.inl ⟨_, ho, rfl, n0, rfl⟩)
          · cases hi
      · cases hq
    · cases hq
  · cases hq

end
end CG
end
section
set_option Elab.async false
set_option linter.all false
set_option maxRecDepth 100000
set_option autoImplicit false
/-! CG14: raise. -/
namespace CG
open PySem PySem.Spec L2
section
variable {X : Cx} {C : Addr} {bmB : List Value} {B newId initId : String}
/-- X() -/
theorem pmk_own0 {x : Str} {p pos : Pos} (F : ExcBaseFacts B newId initId bmB) (q : PySem.W.excIn X.K C bmB newId = true) (gC : X.mg x = some (.ref C)) (kC : PySem.W.keepIn X.K (.ref C) = true) (r : Raises X (.ref C)) (hg : Gl X x)
    (hdb : (x == ("__debug__" : Str)) = false := by decide) : PMk X (.Call (.Name x p) [] [] pos) (fun _ H Q => Q (.ref C) none H) := by
  intro pins s σ H Q I h
  refine wpAny_Call_Name_kw (ld_glob I hg gC ?_ hdb)
  refine PySem.W.callWith_K0 I.kIn kC ?_
  obtain ⟨bm, N, nm, qn, bs, hdct, sn, sub, ab, col, dd, k0, k1, k2, k3, k5, mN, hC, hN, hni, T⟩ := exc_obj I.kIn q
  refine wpAny_call_exc_subT F T hC hN hni (fun h' e hm => ?_) (by show 0 ≤ sizeLine; exact Nat.zero_le _)
  exact mk_of I hm r h (I.hok.gone hm.new)
end
section
variable {Γ : GX} {sc : Sc} {fr : Bool} {pos p p2 : Pos}
/-- an own exception class without own __init__ -/
structure ExcOk (Γ : GX) (x : Str) : Prop where
  ex : ∃ Ca, Γ.X x = some Ca ∧ Γ.mg x = some (.ref Ca) ∧ PySem.W.keepIn Γ.K (.ref Ca) = true ∧ PySem.W.excIn Γ.K Ca [.type "ValueError", .type "Exception", .type "BaseException", .type "object"] "ValueError.__new__" = true ∧ PySem.W.subIn Γ.K (.ref Ca) (.type "BaseException") = some true ∧ PySem.W.typeIn Γ.K (.ref Ca) = some (.type "type")
theorem ss_raise0 {x : Str} (hx : sc.names.lookup x = some .globalImplicit) (hr : ExcOk Γ x) (hdb : (x == ("__debug__" : Str)) = false := by decide) : SS Γ sc fr (.Raise (some (.Call (.Name x p) [] [] p2)) none pos) (sRaise x []) := by
  intro n X cx sx W tk en e σ F H r D P
  obtain ⟨Ca, h1, h2, h3, h4, h5, h6⟩ := hr.ex
  refine js (ps_raise cx.calm tk (pmk_own0 PySem.F.excBase_ValueError (by rw [cx.K]; exact h4) (by rw [cx.mg]; exact h2) (by rw [cx.K]; exact h3) (raises_own (by rw [cx.K]; exact h5) (by rw [cx.K]; exact h6)) (cx.gl hx) hdb)) ?_
  exact P (.ref Ca) none σ F H (Same.refl _) r ⟨Ca, h1, rfl, .inl ⟨rfl, rfl⟩⟩
/-! ### exceptions with fields -/
def spO1 (C : Addr) (f : Str) : Sp := fun us H Q _ => ∃ a y, us = [.ref a, y] ∧ OexC0 C H a ∧ ∀ d, H d = none → d ≠ a → Q .non (upd (upd H d (exd d [(f, y)])) a (exo a C (some d)))
where OexC0 (C : Addr) (H : Hp) (a : Addr) : Prop := H a = some (exo a C none)
def spO2 (C : Addr) (f g : Str) : Sp := fun us H Q _ => ∃ a y z, us = [.ref a, y, z] ∧ H a = some (exo a C none) ∧ ∀ d, H d = none → d ≠ a → Q .non (upd (upd (upd H d (exd d [(f, y)])) a (exo a C (some d))) d (exd d [(g, z), (f, y)]))
section
variable {P : Program} {w : World} {K : PySem.W.Frag} {mg : Str → Option Value} {base : Heap}
theorem ok_oex1 {qual f x : Str} {st : Stmt} {fa C : Addr} {fd : FuncData} {p1 p2 p3 p4 : Pos} (F : L2.Fun K "__init__" qual st fa fd) (S : FnScope ["self", x] ["self", x] (defScope st)) (hb : defBody st = [.Assign [.Attribute (.Name "self" p1) f p2] (.Name x p3) p4])
    (T : OexC K C) (hf : PySem.W.findIn K (.ref C) f = some none) (l0 : (defScope st).names.lookup ("self" : Str) = some .local) (l1 : (defScope st).names.lookup x = some .local) (hd : (x == ("__debug__" : Str)) = false := by decide) (hcd : (x == ("__classdict__" : Str)) = false := by decide) :
    FnOk P w K mg base CX0 1 fa fd ["self", x] (spO1 C f) := by
  refine Fun.ok (k := 0) F S (fun us H Q E ⟨a, y, e, _⟩ => by rw [e]; rfl) (fun cdv A outer s H us Q E hr ⟨a, y, e, ha, q⟩ => ?_)
  rw [hb]
  refine ⟨_, pss_one (ps_ost (pe_var (i := 0) rfl (.inl l0) (by decide) (by decide)) (pe_var (i := 1) rfl (.inl l1) hd hcd) rfl), ?_⟩
  subst e
  exact ⟨y, rfl, .ref a, rfl, a, C, rfl, T, hf, .inl ⟨ha, fun dx n ne => q dx n ne⟩⟩
theorem ok_oex2 {qual f g x z : Str} {st : Stmt} {fa C : Addr} {fd : FuncData} {p1 p2 p3 p4 p5 p6 p7 p8 : Pos} (F : L2.Fun K "__init__" qual st fa fd) (S : FnScope ["self", x, z] ["self", x, z] (defScope st)) (hb : defBody st = [.Assign [.Attribute (.Name "self" p1) f p2] (.Name x p3) p4, .Assign [.Attribute (.Name "self" p5) g p6] (.Name z p7) p8])
    (T : OexC K C) (hf : PySem.W.findIn K (.ref C) f = some none) (hg : PySem.W.findIn K (.ref C) g = some none) (l0 : (defScope st).names.lookup ("self" : Str) = some .local) (l1 : (defScope st).names.lookup x = some .local) (l2 : (defScope st).names.lookup z = some .local)
    (hd : (x == ("__debug__" : Str)) = false := by decide) (hcd : (x == ("__classdict__" : Str)) = false := by decide) (hd2 : (z == ("__debug__" : Str)) = false := by decide) (hcd2 : (z == ("__classdict__" : Str)) = false := by decide) :
    FnOk P w K mg base CX0 1 fa fd ["self", x, z] (spO2 C f g) := by
  refine Fun.ok (k := 0) F S (fun us H Q E ⟨a, y, y2, e, _⟩ => by rw [e]; rfl) (fun cdv A outer s H us Q E hr ⟨a, y, y2, e, ha, q⟩ => ?_)
  rw [hb]
  refine ⟨_, pss_cons (ps_ost (pe_var (i := 0) rfl (.inl l0) (by decide) (by decide)) (pe_var (i := 1) rfl (.inl l1) hd hcd) rfl) (pss_one (ps_ost (pe_var (i := 0) rfl (.inl l0) (by decide) (by decide)) (pe_var (i := 2) rfl (.inl l2) hd2 hcd2) rfl)), ?_⟩
  subst e
  refine ⟨y, rfl, .ref a, rfl, a, C, rfl, T, hf, .inl ⟨ha, fun dx n ne => ?_⟩⟩
  exact ⟨y2, rfl, .ref a, rfl, a, C, rfl, T, hg, .inr ⟨dx, [(f, y)], upd_same, by rw [L2.upd_ne ne]; exact upd_same, by simp, q dx n ne⟩⟩
end
/-- an own exception class whose __init__ keeps one, two arguments -/
structure ExcOk1 (Γ : GX) (x f : Str) : Prop where
  ex : ∃ Ca fI fd ps, Γ.X x = some Ca ∧ Γ.mg x = some (.ref Ca) ∧ OexC Γ.K Ca ∧ PySem.W.findIn Γ.K (.ref Ca) "__init__" = some (some (.ref fI)) ∧ PySem.W.typeIn Γ.K (.ref fI) = some (.type "function") ∧ FnOk Γ.P Γ.w Γ.K Γ.mg Γ.base CX0 1 fI fd ps (spO1 Ca f) ∧ Binds Γ.K fd ps []
structure ExcOk2 (Γ : GX) (x f g : Str) : Prop where
  ex : ∃ Ca fI fd ps, Γ.X x = some Ca ∧ Γ.mg x = some (.ref Ca) ∧ OexC Γ.K Ca ∧ PySem.W.findIn Γ.K (.ref Ca) "__init__" = some (some (.ref fI)) ∧ PySem.W.typeIn Γ.K (.ref fI) = some (.type "function") ∧ FnOk Γ.P Γ.w Γ.K Γ.mg Γ.base CX0 1 fI fd ps (spO2 Ca f g) ∧ Binds Γ.K fd ps []
def sRaise1 (c f : Str) (m : M Val) : S := fun cl e => (m cl e).toS fun v e1 => .exc c [(f, v)] e1
def sRaise2 (c f g : Str) (m k : M Val) : S := fun cl e => (m cl e).toS fun v e1 => (k cl e1).toS fun w e2 => .exc c [(g, w), (f, v)] e2
variable {a b : Expr} {m k : M Val}
theorem ss_raise1 {x f : Str} (hx : sc.names.lookup x = some .globalImplicit) (hr : ExcOk1 Γ x f) (ha : SV Γ sc a m) (hdb : (x == ("__debug__" : Str)) = false := by decide) (he : ∀ env, starEach [a] env = (false, eval a env) :: starEach [] env := by intro _; rfl) :
    SS Γ sc fr (.Raise (some (.Call (.Name x p) [a] [] p2)) none pos) (sRaise1 x f m) := by
  intro n X cx sx W tk en e σ F H r D P
  obtain ⟨Ca, fI, fd, ps, h1, h2, T, iC, tI, Fo, hb⟩ := hr.ex
  rw [← cx.prog, ← cx.w, ← cx.K, ← cx.mg, ← cx.base] at Fo
  rw [← cx.K] at T iC tI hb
  refine js (ps_raise cx.calm tk (pmk_oex (CX := CX0) T iC tI Fo (cx.room.mono (by omega)) hb .nil (fun _ _ _ _ _ _ _ h => h.elim) (cx.gl hx) (by rw [cx.mg]; exact h2) (pa_cons JE.pe pa_nil (he _)) hdb (he _) rfl)) ?_
  refine ha cx tk r (PostS.toS P fun v e1 u F1 H1 s1 r1 t1 P1 => ?_)
  refine ⟨by simp, fun q hq => ⟨q, u, rfl, upd_same, fun d nd ne => ⟨rfl, d, [(f, u)], upd_same, by rw [L2.upd_ne ne]; exact upd_same, ?_, ?_⟩⟩⟩
  · rw [L2.upd_ne ne] at nd; exact nd
  · rw [L2.upd_ne ne] at nd
    have e1 : upd (del (upd (upd (upd H1 q (exo q Ca none)) d (exd d [(f, u)])) q (exo q Ca (some d))) q) d (.xd [(f, u)]) = upd H1 d (.xd [(f, u)]) := by
      funext z
      by_cases hz : z = d
      · subst hz; rw [upd_same, upd_same]
      · rw [L2.upd_ne hz, L2.upd_ne hz]
        by_cases hq' : z = q
        · subst hq'; rw [del_same, hq]
        · rw [del_ne hq', L2.upd_ne hq', L2.upd_ne hz, L2.upd_ne hq']
    rw [e1]
    exact P1 (.ref Ca) (some d) σ F1 _ (Same.refl _) (r1.grow (Grow.allocH r1.sub nd)) ⟨Ca, h1, rfl, .inr ⟨d, [(f, u)], rfl, upd_same, .cons t1 .nil⟩⟩
end
end CG
end
section
set_option Elab.async false
set_option linter.all false
set_option maxRecDepth 100000
set_option autoImplicit false
/-! CG15: several clauses that give the exception a name. -/
namespace CG
open PySem PySem.Spec L2
/-- behind a suite its name is gone -/
def gone (D : Ends) (i : Nat) : Ends := { nx := fun τ G => D.nx (τ.set i none) G, rt := D.rt, bk := fun τ G => D.bk (τ.set i none) G, ct := fun τ G => D.ct (τ.set i none) G }
abbrev Suite := Addr → Value → Option Addr → TS
/-- the clauses' wishes: class, slot of the name, suite -/
def wNamed (K : PySem.W.Frag) (Wo : WX) (D : Ends) : List (Value × Nat × Suite) → WX
  | [] => Wo
  | (c, i, ts) :: r => fun cls d σ H => ∃ b, PySem.W.exmOne K cls c = some b ∧ (b = true → ∀ a, H a = none → ts a cls d (gone D i) (σ.set i (some (.ref a))) H) ∧ (b = false → wNamed K Wo D r cls d σ H)
inductive ClausesOk (X : Cx) : List ExceptHandler → List (Value × Nat × Suite) → Prop
  | nil : ClausesOk X [] []
  | cons {x n : Str} {c : Value} {i : Nat} {ts : Suite} {b₀ : Stmt} {suite : List Stmt} {np pos' : Pos} {hds : List ExceptHandler} {l : List (Value × Nat × Suite)} (hc : Names X x c) (hi : X.N[i]? = some n) (hn : X.env.kindOf n = some .local)
      (hsu : ∀ (a : Addr) (oe : Obj) (cls : Value) (d : Option Addr) (pn : List (Addr × Obj)), Zc cls d oe → (∃ vs, oe.data = .fields vs) → PSs (X.suite a ((a, oe) :: pn)) (b₀ :: suite) (ts a cls d)) (r : ClausesOk X hds l) :
      ClausesOk X (.ExceptHandler (some (.Name x np)) (some n) (b₀ :: suite) pos' :: hds) ((c, i, ts) :: l)
section
variable {X : Cx} {body : List Stmt} {h₀ : ExceptHandler} {hds : List ExceptHandler} {l : List (Value × Nat × Suite)} {pos : Pos} {tb : WX → TS} {Wo : WX}
/-- a result of the body's context is one of the def's -/
theorem sp_ofTry {xe : Value → Shared → Prop} {pins : List (Addr × Obj)} {D : Ends} {f : Flow} {s : Shared} (ok : X.Ok) (h : SP (X.tr (X.pn ++ pins) xe) [] D f s) : SP X pins D f s := by
  cases f with
  | ret u => obtain ⟨v, τ, G, J, rv, q⟩ := h; exact ⟨v, τ, G, J.ofTry ok, rv, q⟩
  | next => obtain ⟨τ, G, J, q⟩ := h; exact ⟨τ, G, J.ofTry ok, q⟩
  | brk => obtain ⟨τ, G, J, q⟩ := h; exact ⟨τ, G, J.ofTry ok, q⟩
  | cont => obtain ⟨τ, G, J, q⟩ := h; exact ⟨τ, G, J.ofTry ok, q⟩
theorem ps_try_named (hst : X.stack = X.env :: X.outer) (hfm : X.env.frame = some X.env.locals) (hN : X.N.Nodup) (tk : Takes X Wo)
    (hb : ∀ (W : WX) (pn : List (Addr × Obj)) (xe : Value → Shared → Prop), Takes (X.tr pn xe) W → PassesOwn (model X.prog X.w) X.A X.env xe → PSs (X.tr pn xe) body (tb W))
    (hk : ClausesOk X (h₀ :: hds) l) : PS X (.Try body (h₀ :: hds) [] [] pos) (fun D σ H => tb (wNamed X.K Wo D l) D σ H) := by
  refine ⟨fun pins s σ H D I hw => wpAny_Try_except (wpAny_mono ((hb (wNamed X.K Wo D l) (X.pn ++ pins) _ (fun u s2 xx => ?_) PassesOwn.looking).run [] s σ H D (I.toTry _) hw) (fun f s1 g => ?_) fun _ _ z => z)⟩
  · have ok := I.ok
    have frames : X.A.frames = some (X.env :: X.outer) := by rw [ok.frames, hst]
    obtain ⟨a, B, sI, pins', τ, G, cls, d, rfl, J0, nb, up, sky, na, hos, bare, w⟩ := xx
    have J : Inv X pins τ G sI := J0.ofTry ok
    show wpAny (model X.prog X.w) X.A (noteFrame (.ref a) X.env) _ _ _
    refine Sky.land Zc.steady frames hfm (by rw [← hst]; exact sky) fun g3 fl up3 => ?_
    have J3 : Inv X pins τ G { s2 with heap := g3 } := J.landed nb fl.1 (up.trans up3) hos bare
    obtain ⟨ox, ws, hx, zx, dx⟩ := fl.there
    have away : a ∉ frs (X.env :: X.outer) := fun hm => by
      obtain ⟨_, o', e', nof⟩ := fl.2.2.1.mem hm
      rw [hx] at e'; cases e'
      exact nof _ dx
    have a1 : a ≠ X.env.locals := fun z => away (List.mem_filterMap.mpr ⟨X.env, List.mem_cons_self, by rw [hfm, z]⟩)
    have a2 : a ∉ X.fs := fun hm => by
      obtain ⟨e, he, q⟩ := List.mem_filterMap.mp hm
      exact away (List.mem_filterMap.mpr ⟨e, List.mem_cons_of_mem _ he, q⟩)
    have S3 := J3.suite hx dx na a1 a2
    suffices go : ∀ {hs' : List ExceptHandler} {l' : List (Value × Nat × Suite)}, ClausesOk X hs' l' → wNamed X.K Wo D l' cls d τ G → wpAny (model X.prog X.w) X.A (handleBy (.ref a) X.env hs') (SP X pins D) X.xe { s2 with heap := g3 } from go hk w
    intro hs' l' hk'
    induction hk' with
    | nil =>
      intro w'
      obtain ⟨k1, k2, k3, oe, vs, T, oT, ts', he, hz, hd, h1, hr⟩ := id fl
      refine wpAny_handleBy_nil ?_
      unfold PySem.passOn
      refine wpAny_bind (wpAny_field he hd h1 ?_)
      rw [if_neg (show ¬ ((Value.ref T == Value.none) = true) from by simp)]
      have out : wpAny (model X.prog X.w) X.A (setFlight (.ref a) X.env.frame) (fun _ s4 => wpAny (model X.prog X.w) X.A (throw (.ref a) : Sem Flow) (SP X pins D) X.xe s4) X.xe { s2 with heap := g3 } := by
        rw [hfm]
        refine HandSPX.setFlight_upZ fl fun g4 hh up4 => wpAny_throw (tk _ _ ⟨a, B, sI, pins, τ, G, cls, d, rfl, J, nb, (up.trans up3).trans up4, .inr (.inr (by rw [hst]; exact hh)), na, hos, bare, w'⟩)
      first
        | exact wpAny_bind (wpAny_pure (wpAny_bind out))
        | exact wpAny_bind out
    | @cons x n c i ts b₀ suite np pos' hds2 l2 hc hi hn hsu _ ih =>
      intro w'
      obtain ⟨b, hm, yes, no⟩ := w'
      refine wpAny_handleBy_cons (codeAny_handlers_test ?_) (by intro q; cases q)
      have ty : PySem.W.Looks (model X.prog X.w) g3 (typeOf (.ref a)) cls := fun A Q E s k q => wpAny_typeOf_ref (k _ _ hx) (by rw [zx.1]; exact q)
      have mt := PySem.W.exm_one (M := model X.prog X.w) J3.kIn ty hm
      have nm : ∀ {Q : Value → Shared → Prop} {E : Value → Shared → Prop}, Q c { s2 with heap := g3 } → wpAny (model X.prog X.w) (X.A.mark (some (.ref a))) (eval (.Name x np) X.env) Q E { s2 with heap := g3 } := fun {Q E} q => by
        obtain ⟨gl, db, gm | ⟨gm, gv, gn⟩⟩ := hc
        · exact ld_glob (X := X.suite a ((a, ox) :: (X.pn ++ pins))) S3 gl gm q db
        · exact ld_blt (X := X.suite a ((a, ox) :: (X.pn ++ pins))) S3 gl gm gv q gn db
      refine nm (mt.here ?_)
      cases b with
      | false =>
        show wpAny _ X.A (handleBy (.ref a) X.env hds2) _ _ _
        exact ih (no rfl)
      | true =>
        refine codeAny_handlers_suite_as (HandSPX.lands_againZ fl fun g4 fl4 up4 => ?_)
        have J4 : Inv X pins τ G { s2 with heap := g4 } := J.landed nb fl4.1 ((up.trans up3).trans up4) hos bare
        obtain ⟨oy, vy, hy, zy, dy⟩ := fl4.there
        have S4 := J4.suite hy dy na a1 a2
        refine store_ok (X := X.suite a ((a, oy) :: (X.pn ++ pins))) (v := .ref a) S4 hN hi (.inl hn) rfl (fun s5 S5 => ?_) (.inr hn)
        refine wpAny_mono ((hsu a oy cls d (X.pn ++ pins) zy ⟨_, dy⟩).run [] s5 _ G _ S5 (yes rfl a na)) (fun f s6 g => ?_) (fun _ _ z => False.elim z)
        have fin : ∀ {τ6 : L2.St} {G6 : Hp} {R : Shared → Prop}, Inv (X.suite a ((a, oy) :: (X.pn ++ pins))) [] τ6 G6 s6 → (∀ s7, Inv X pins (τ6.set i none) G6 s7 → R s7) →
            wpAny (model X.prog X.w) X.A (do PySem.bindName X.env n .none; unbindBehindTheSuite X.env n pos') (fun _ s7 => R s7) X.xe s6 := fun {τ6 G6 R} S6 hq => gone_ok (S6.unsuite ok) hN hi hn hq
        cases f with
        | ret u => obtain ⟨v6, τ6, G6, S6, rv, q⟩ := g; exact fin S6 fun s7 J7 => ⟨_, _, _, J7, rv, q⟩
        | next => obtain ⟨τ6, G6, S6, q⟩ := g; exact fin S6 fun s7 J7 => ⟨_, _, J7, q⟩
        | brk => obtain ⟨τ6, G6, S6, q⟩ := g; exact fin S6 fun s7 J7 => ⟨_, _, J7, q⟩
        | cont => obtain ⟨τ6, G6, S6, q⟩ := g; exact fin S6 fun s7 J7 => ⟨_, _, J7, q⟩
  · cases f with
    | next =>
      have g' : SP X pins D .next s1 := sp_ofTry I.ok g
      obtain ⟨τ, G, J, q⟩ := g'
      exact wpAny_execs_nil ⟨τ, G, J, q⟩
    | brk => exact sp_ofTry I.ok g
    | cont => exact sp_ofTry I.ok g
    | ret u => exact sp_ofTry I.ok g
end
end CG
end
section
set_option Elab.async false
set_option linter.all false
set_option maxRecDepth 100000
set_option maxHeartbeats 4000000
set_option autoImplicit false
/-! CG16: isinstance of a caught exception that has a dict; try. -/
namespace CG
open PySem PySem.Spec L2
section
open PySem.W PySem.Calls PyProof.Rows
variable {prog : Program} {w : World} {A : Around} {E : Value → Shared → Prop} {s : Shared} {K : Frag} {x D : Addr} {ox od : Obj}
theorem exc_kin (C : ExcC K D) {Q : Option Value → Shared → Prop} (Y : K.In s.heap) (J : InstAt s.heap x ox D (some od)) (h : Q (some (.ref D)) { s with toks := s.toks + 1 }) : wpAny (model prog w) A (getAttr? (.ref x) "__class__") Q E s := by
  have fo : findObj K D (some od) "__class__" = some (.bind (.builtin "getset_descriptor.__get__") (.builtin "object.__class__")) := findObj_data (by obtain ⟨cd, hc, _⟩ := any_some C.hd; rw [hc]; rfl) C.ha C.hn C.ht
  obtain ⟨hp, gs, dr, tk, os⟩ := s
  have Lt := J.type (M := model prog w)
  have Lg := looks_findIn (M := model prog w) Y C.hg
  have La := looks_findIn (M := model prog w) Y C.hk
  have Lf := looks_find (M := model prog w) Y J fo
  have isb : Looks (model prog w) hp (isInstance (.ref x) (.type "BaseException")) true := Lt.andThen (looks_subIn Y C.hs)
  have e1 : (Value.builtin "BaseException.__getattribute__" == Value.builtin "object.__getattribute__") = false := by decide +kernel
  have e2 : (onTheHeap (Value.ref D) && Value.builtin "BaseException.__getattribute__" == Value.builtin "object.__getattribute__") = false := by rw [e1]; rfl
  unfold getAttr? getAttrBy? getAttrBy
  refine wpAny_bind (wpAny_mkText (wpAny_bind (wpAny_attempt (wpAny_holding (wpAny_bind (Lt.at (wpAny_bind (Lg.at ?_))))))))
  show wpAny _ _ (if (onTheHeap (Value.ref D) && Value.builtin "BaseException.__getattribute__" == Value.builtin "object.__getattribute__") = true then _ else _) _ _ _
  rw [e2, if_neg Bool.false_ne_true]
  unfold getAttrByItsOwn hookBefore
  refine wpAny_bind ?_
  rw [if_pos (show onTheHeap (Value.ref D) = true from rfl)]
  refine La.at ?_
  refine wpAny_bind (wpAny_attempt (wpAny_holding ?_))
  unfold callGetattribute
  rw [show (false && onTheHeap (Value.builtin "BaseException.__getattribute__")) = false from rfl, if_neg Bool.false_ne_true]
  unfold boundAndCalled
  rw [PySem.F.excAttr_ValueError.ga.bind (.ref x)]
  refine wpAny_bind (wpAny_pure ?_)
  show wpAny _ _ (call (.builtin "BaseException.__getattribute__") [.ref x, .str "__class__" tk]) _ _ _
  refine wpAny_call (codeAny_call_builtin PySem.F.excAttr_ValueError.ga.plain PySem.F.entry_bexc_ga ?_)
  refine @check_slot (model prog w) _ _ ⟨hp, gs, dr, tk + 1, os⟩ "BaseException.__getattribute__" "BaseException" "__getattribute__" (.ref x) [.str "__class__" tk] [] _ (by decide +kernel) (by decide +kernel) isb (PySem.F.args_bexc_ga (.ref x) (.str "__class__" tk)) ?_
  unfold Builtin.«object.__getattribute__»
  refine wpAny_bind (wpAny_of_eq (a := ((Value.ref x : Value), [Value.str "__class__" tk])) (by first | rfl | (simp only [slotArgs]; rfl)) ?_)
  refine wpAny_bind (wpAny_pure (wpAny_bind (Lt.at (wpAny_bind (Lf.at ?_)))))
  show wpAny _ _ (holding [Value.builtin "object.__class__"] (call (.builtin "getset_descriptor.__get__") [.builtin "object.__class__", .ref x, .ref D]) >>= PySem.ret) _ _ _
  refine wpAny_bind (wpAny_holding (wpAny_call (class_get (s := ⟨hp, gs, dr, tk + 1, os⟩) (ox := ox) (od := some od) Y J C.hm ?_)))
  refine wpAny_pure ?_
  show wpAny _ _ (handedOut (.ref D)) _ _ _
  rw [handedOut_of (v := .ref D) rfl]
  first
    | exact wpAny_pure (wpAny_pure h)
    | exact wpAny_pure h
    | exact wpAny_pure (wpAny_bind (wpAny_pure (wpAny_pure h)))
theorem kitx_exd (C : ExcC K D) : KitX K (.ref x) (.ref D) (fun h => InstAt h x ox D (some od)) where
  ty := fun _ _ _ J => J.type
  it := fun _ _ Y _ A Q E s k q => by
    obtain ⟨cd, hc, _⟩ := any_some C.hd
    unfold clsIn at hc
    split at hc
    · rename_i ho
      unfold isType loadHead
      exact wpAny_bind (wpAny_loadPart (k _ _ (Y _ _ ho)) (wpAny_pure q))
    · cases hc
  ne := fun h tp dd its n sl Y htp => by
    obtain ⟨cd, hc, _⟩ := any_some C.hd
    unfold clsIn at hc
    split at hc
    · rename_i ho
      have g := Y _ _ ho
      cases hb : (Value.ref D == Value.ref tp) with
      | false => rfl
      | true =>
        have e : D = tp := Value.ref.inj (beq_iff_eq.mp hb)
        rw [e, htp] at g
        cases g
    · cases hc
  ca := fun Y J k => exc_kin C Y J k
end
/-- isinstance(e, c) of the exception that a suite holds, with a dict or without one -/
theorem call_isX {X : Cx} {a D : Addr} {oe : Obj} {d : Option Addr} {pn : List (Addr × Obj)} (C : ExcC X.K D) (hz : Zc (.ref D) d oe) (hf : ∃ vs, oe.data = .fields vs) :
    CallR (X.suite a ((a, oe) :: pn)) (.builtin "isinstance") (fun xs H Q => (∀ dd, d = some dd → ∃ fs, H dd = some (.xd fs)) ∧ rIsE X.K D a xs H Q) := by
  cases d with
  | none => exact fun pins s σ H xs us Q I r h => call_isE C hz hf pins s σ H xs us Q I r h.2
  | some dd =>
    intro pins s σ H xs us Q I rv h
    obtain ⟨hdd, c, cv, b, rfl, hcv, e, q⟩ := h
    obtain ⟨fs, ea⟩ := hdd dd rfl
    obtain ⟨u1, u2, rfl, r1, r2⟩ := vals2 rv
    obtain rfl : u1 = Value.ref a := r1
    have ec := hcv _ r2
    subst ec
    obtain ⟨hget, _⟩ := I.pin (a, oe) (List.mem_append.mpr (.inl List.mem_cons_self))
    obtain ⟨vs, hv⟩ := hf
    obtain ⟨mA, hns, hr⟩ := (show ObjOk X.prog X.w H s.heap dd (.xd fs) from I.hok dd _ ea)
    obtain ⟨od, ho, hl⟩ := lookIn_ns hns
    have J : PySem.W.InstAt s.heap a oe D (some od) := ⟨hget, hz.1, by unfold PySem.W.notCls; rw [hv] <;> rfl, by rw [hz.2]; exact ho⟩
    exact PySem.W.kia_one (kitx_exd C) I.kIn J e (fun z => nomatch z) fun tk => ⟨.bl b, H, I.kept (t' := tk) fun _ _ z => z, rfl, q⟩
end CG
end
section
set_option Elab.async false
set_option linter.all false
set_option maxRecDepth 100000
set_option autoImplicit false
/-! CG17: try. -/
namespace CG
open PySem PySem.Spec L2
/-- which classes it catches; the slot of its name; what the suite stores -/
abbrev Clause := (Str → Bool) × Nat × (List (Str × Val) → Option Val)
def pickC (t : Nat) : List Clause → Str → List (Str × Val) → Env → RS
  | [], c, fs, e => .exc c fs e
  | (k, j, f) :: r, c, fs, e => if k c = true then (match f fs with
    | some v => if t < e.length ∧ j < e.length then .next ((e.set j none).set t (some v)) else .no
    | none => .no) else pickC t r c fs e
def sTry (body : S) (cs : List Clause) (t : Nat) : S := fun cl e => match body cl e with
  | .exc c fs e1 => pickC t cs c fs e1
  | r => r
section
variable {K : PySem.W.Frag} {C : Str → Option Addr} {kd : Kds} {en : Ent} {e : Env} {σ : L2.St} {F H : Hp}
/-- a dead slot may hold anything -/
theorem Rel.junk (r : Rel K C kd en e σ F H) (i : Nat) (x : Option V) : Rel K C kd en (e.set i none) (σ.set i x) F H where
  sub := r.sub
  len := by simp [r.len]
  imm := fun j w kj hj => by
    rcases getE_set hj with ⟨_, e1, _⟩ | ⟨hij, hj⟩
    · cases e1
    · rw [List.getElem?_set_ne hij]; exact r.imm j w kj hj
  own := fun j w kj hj => by
    rcases getE_set hj with ⟨_, e1, _⟩ | ⟨hij, hj⟩
    · cases e1
    · rw [List.getElem?_set_ne hij]; exact r.own j w kj hj
  sep := fun j l a v w hjl kj kl hj hl sj sl => by
    rcases getE_set hj with ⟨_, e1, _⟩ | ⟨h1, hj⟩
    · cases e1
    rcases getE_set hl with ⟨_, e1, _⟩ | ⟨h2, hl⟩
    · cases e1
    rw [List.getElem?_set_ne h1] at sj
    rw [List.getElem?_set_ne h2] at sl
    exact r.sep j l a v w hjl kj kl hj hl sj sl
  b1 := r.b1
  b2 := r.b2
  b3 := r.b3
  b4 := r.b4
  b5 := r.b5
end
section
variable {Γ : GX} {sc : Sc} {fr : Bool} {pos p p2 : Pos}
/-- a suite: the caught exception's class is c, its fields fs; it stores f fs in the slot t -/
def SU (Γ : GX) (sc : Sc) (t j : Nat) (suite : List Stmt) (f : List (Str × Val) → Option Val) : Prop := ∀ ⦃n : Nat⦄ ⦃X : Cx⦄, Compat Γ sc n X → ∀ {en : Ent} {e : Env} {σ : L2.St} {F H : Hp} {c : Str} {fs : List (Str × Val)} {v : Val} {a : Addr} {oe : Obj} {cls : Value} {d : Option Addr} {pn : List (Addr × Obj)},
  Rel Γ.K Γ.C sc.kd en (e.set j none) (σ.set j (some (.ref a))) F H → XR Γ F H c fs cls d → Zc cls d oe → (∃ vs, oe.data = .fields vs) → j < σ.length → f fs = some v → t ≠ j →
  ∀ {D : Ends}, (∀ u F' H', Same F F' → Rel Γ.K Γ.C sc.kd en (e.set j none) (σ.set j (some (.ref a))) F' H' → VR Γ.K Γ.C F' v u → D.nx ((σ.set j (some (.ref a))).set t (some u)) H') → JSs (X.suite a ((a, oe) :: pn)) suite D (σ.set j (some (.ref a))) H
inductive CLs (Γ : GX) (sc : Sc) (t : Nat) : List ExceptHandler → List Clause → Prop
  | nil : CLs Γ sc t [] []
  | cons {x n : Str} {j : Nat} {k : Str → Bool} {f : List (Str × Val) → Option Val} {b₀ : Stmt} {suite : List Stmt} {np pos' : Pos} {hds : List ExceptHandler} {l : List Clause} (hx : sc.names.lookup x = some .globalImplicit) (hd : (x == ("__debug__" : Str)) = false)
      (hj : LocN sc j n) (hjt : t ≠ j) (hcx : ∃ Cx, Γ.mg x = some (.ref Cx) ∧ ∀ c Ca, Γ.X c = some Ca → PySem.W.exmOne Γ.K (.ref Ca) (.ref Cx) = some (k c))
      (hsu : SU Γ sc t j (b₀ :: suite) f) (r : CLs Γ sc t hds l) : CLs Γ sc t (.ExceptHandler (some (.Name x np)) (some n) (b₀ :: suite) pos' :: hds) ((k, j, f) :: l)
/-- the suites' readings -/
def ClauseW (Γ : GX) (X : Cx) (suite : List Stmt) : Suite := fun a cls d D σ H => ∀ oe pn, Zc cls d oe → (∃ vs, oe.data = .fields vs) → JSs (X.suite a ((a, oe) :: pn)) suite D σ H
theorem CLs.ok {t : Nat} {hds : List ExceptHandler} {cs : List Clause} (h : CLs Γ sc t hds cs) {n : Nat} {X : Cx} (cx : Compat Γ sc n X) :
    ∃ l, ClausesOk X hds l ∧ ∀ {en : Ent} {e : Env} {σ : L2.St} {F H : Hp} {c : Str} {fs : List (Str × Val)} {cls : Value} {d : Option Addr} {W : WX} {D : Ends}, kdAt sc.kd t = .imm → Rel Γ.K Γ.C sc.kd en e σ F H → XR Γ F H c fs cls d →
      PostS Γ sc.kd en F fr (pickC t cs c fs e) D W → wNamed X.K W D l cls d σ H := by
  induction h with
  | nil => exact ⟨[], .nil, fun {en e σ F H c fs cls d W D} _ r x P => P cls d σ F H (Same.refl _) r x⟩
  | @cons x n0 j k f b₀ suite np pos' hds l hx hd hj hjt hcx hsu _ ih =>
    obtain ⟨l', ok', run⟩ := ih
    obtain ⟨Cx, m, em⟩ := hcx
    refine ⟨(.ref Cx, j, ClauseW Γ X (b₀ :: suite)) :: l', .cons ⟨cx.gl hx, hd, .inl (by rw [cx.mg]; exact m)⟩ (by rw [cx.N]; exact hj.1) (cx.lcl hj.2) (fun a oe cls d pn hz hf => ⟨fun pins s σ H D I h => h oe pn hz hf pins s I⟩) ok', fun {en e σ F H c fs cls d W D} kt r x P => ?_⟩
    obtain ⟨Ca, h1, rfl, h2⟩ := id x
    refine ⟨k c, by rw [cx.K]; exact em c Ca h1, fun hk a ha oe pn hz hf => ?_, fun hk => ?_⟩
    · simp only [pickC] at P
      rw [if_pos hk] at P
      split at P
      · rename_i v hv
        by_cases hlt : t < e.length ∧ j < e.length
        · rw [if_pos hlt] at P
          refine hsu cx (r.junk j _) x hz hf (by rw [← r.len]; exact hlt.2) hv hjt fun u F' H' s r' vr => ?_
          have r2 := r'.setImm kt vr
          have r3 := r2.junk j none
          refine P _ F' H' s ?_
          have e1 : (((e.set j none).set t (some v)).set j none) = (e.set j none).set t (some v) := by
            rw [List.set_comm _ _ (Ne.symm hjt), List.set_set, List.set_comm _ _ hjt]
          rw [e1] at r3
          exact r3
        · rw [if_neg hlt] at P; exact P.elim
      · exact P.elim
    · refine run kt r x ?_
      simp only [pickC] at P
      rw [if_neg (by rw [hk]; decide)] at P
      exact P
theorem Compat.tr {n : Nat} {X : Cx} (cx : Compat Γ sc n X) (pn : List (Addr × Obj)) (xe : Value → Shared → Prop) : Compat Γ sc n (X.tr pn xe) :=
  ⟨cx.prog, cx.w, cx.K, cx.mg, cx.base, cx.N, cx.nd, cx.nm, cx.calm, cx.room, cx.fns, cx.nb, cx.kdl, cx.fnc⟩
theorem ss_try {body : List Stmt} {h₀ : ExceptHandler} {hds : List ExceptHandler} {cs : List Clause} {t : Nat} {f : S} (kt : kdAt sc.kd t = .imm) (hb : SSs Γ sc fr body f) (hc : CLs Γ sc t (h₀ :: hds) cs) : SS Γ sc fr (.Try body (h₀ :: hds) [] [] pos) (sTry f cs t) := by
  intro n X cx sx W tk en e σ F H r D P pins s0 I0
  obtain ⟨l, ok, run⟩ := hc.ok (fr := fr) cx
  refine js (ps_try_named (tb := fun W D σ H => ∀ pn xe, Takes (X.tr pn xe) W → PassesOwn (model X.prog X.w) X.A X.env xe → JSs (X.tr pn xe) body D σ H) sx.stk sx.frm cx.nd tk (fun W pn xe tk' po => ⟨fun pins s σ H D I h => h pn xe tk' po pins s I⟩) ok) ?_ pins s0 I0
  intro pn xe tk' po
  refine hb (cx.tr pn xe) ⟨po, sx.stk, sx.frm, sx.ex⟩ tk' r ?_
  simp only [sTry] at P
  cases hr : f (callN Γ.G n) e with
  | next e1 => rw [hr] at P; exact P
  | ret v e1 => rw [hr] at P; exact P
  | no => rw [hr] at P; exact P
  | exc c fs e1 =>
    rw [hr] at P
    intro cls d σ' F' H' s r' x
    exact run kt r' x (PostS.mono P s)
/-! ### the suites of the texts -/
/-- all caught classes are known, and are ChannelErrors -/
structure ExcAll (Γ : GX) (base : Str) : Prop where
  ex : ∃ CB, Γ.mg base = some (.ref CB) ∧ ∀ c Ca, Γ.X c = some Ca → ExcC Γ.K Ca ∧ PySem.W.kitOne Γ.K (.ref Ca) (.ref CB) = some true
/-- what stands ahead of the if: an expression over the caught exception -/
def SE (Γ : GX) (sc : Sc) (j : Nat) (ex : Expr) (f : List (Str × Val) → Option Val) : Prop := ∀ ⦃n : Nat⦄ ⦃X : Cx⦄, Compat Γ sc n X → ∀ {en : Ent} {e : Env} {σ : L2.St} {F H : Hp} {c : Str} {fs : List (Str × Val)} {v : Val} {a : Addr} {oe : Obj} {cls : Value} {d : Option Addr} {pn : List (Addr × Obj)},
  Rel Γ.K Γ.C sc.kd en (e.set j none) (σ.set j (some (.ref a))) F H → XR Γ F H c fs cls d → Zc cls d oe → (∃ vs, oe.data = .fields vs) → j < σ.length → f fs = some v →
  ∀ {Q : VK}, (∀ u F' H', Same F F' → Rel Γ.K Γ.C sc.kd en (e.set j none) (σ.set j (some (.ref a))) F' H' → VR Γ.K Γ.C F' v u → Q u H') → JE (X.suite a ((a, oe) :: pn)) ex (σ.set j (some (.ref a))) H Q
/-- .. that leaves the heap as it is -/
def SE0 (Γ : GX) (sc : Sc) (j : Nat) (ex : Expr) (f : List (Str × Val) → Option Val) : Prop := ∀ ⦃n : Nat⦄ ⦃X : Cx⦄, Compat Γ sc n X → ∀ {en : Ent} {e : Env} {σ : L2.St} {F H : Hp} {c : Str} {fs : List (Str × Val)} {v : Val} {a : Addr} {oe : Obj} {cls : Value} {d : Option Addr} {pn : List (Addr × Obj)},
  Rel Γ.K Γ.C sc.kd en (e.set j none) (σ.set j (some (.ref a))) F H → XR Γ F H c fs cls d → Zc cls d oe → (∃ vs, oe.data = .fields vs) → j < σ.length → f fs = some v →
  ∀ {Q : VK}, (∀ u, VR Γ.K Γ.C F v u → Q u H) → JE (X.suite a ((a, oe) :: pn)) ex (σ.set j (some (.ref a))) H Q
theorem SE0.se {j : Nat} {ex : Expr} {f : List (Str × Val) → Option Val} (h : SE0 Γ sc j ex f) : SE Γ sc j ex f := by
  intro n X cx en e σ F H c fs v a oe cls d pn r x hz hf hl hv Q q
  exact h cx r x hz hf hl hv fun u vr => q u F H (Same.refl _) r vr
theorem se_str {j i1 : Nat} {s1 : Str} {p8 : Pos} : SE0 Γ sc j (.Constant (.str s1) i1 p8) (fun _ => some (.str s1)) := by
  intro n X cx en e σ F H c fs v a oe cls d pn r x hz hf hl hv Q q
  cases hv
  exact je pe_str (q _ (.str _))
/-- y = a if isinstance(e, B) else .. -/
theorem su_if {t j : Nat} {y n B : Str} {A O : Expr} {f : List (Str × Val) → Option Val} {p1 p3 p4 p5 p6 p7 : Pos} (hA : SE Γ sc j A f) (hO : ∃ s i q, O = .Constant (.str s) i q) (hy : LocC sc t y) (hj : LocN sc j n) (bi : BlN sc "isinstance" (.builtin "isinstance")) (hB : sc.names.lookup B = some .globalImplicit) (hE : ExcAll Γ B)
    (hd : (n == ("__debug__" : Str)) = false := by decide) (hcd : (n == ("__classdict__" : Str)) = false := by decide) (hBd : (B == ("__debug__" : Str)) = false := by decide)
    (hs : ∀ env, starEach [.Name n p6, .Name B p7] env = (false, eval (.Name n p6) env) :: starEach [.Name B p7] env := by intro _; rfl) :
    SU Γ sc t j [.Assign [.Name y p1] (.IfExp (.Call (.Name "isinstance" p4) [.Name n p6, .Name B p7] [] p5) A O p3) p] f := by
  intro n0 X cx en e σ F H c fs v a oe cls d pn r x hz hf hl hv htj D q
  obtain ⟨Ca, h1, rfl, h2⟩ := id x
  obtain ⟨CB, m, all⟩ := hE.ex
  obtain ⟨xc, kit⟩ := all c Ca h1
  obtain ⟨s2, i2, q2, rfl⟩ := hO
  have hN : (X.suite a ((a, oe) :: pn)).N[j]? = some n := by show X.N[j]? = _; rw [cx.N]; exact hj.1
  have hNt : (X.suite a ((a, oe) :: pn)).N[t]? = some y := by show X.N[t]? = _; rw [cx.N]; exact hy.1
  have pe : PE (X.suite a ((a, oe) :: pn)) (.Name n p6) (tVar j) := pe_var hN (.inl (cx.lcl hj.2)) hd hcd
  have pB : PE (X.suite a ((a, oe) :: pn)) (.Name B p7) (tC (.ref CB)) := pe_glob (cx.gl hB) (by show X.mg B = _; rw [cx.mg]; exact m) rfl hBd
  have isi := pe_callV (pos := p5) (p := p4) fvB (call_isX (X := X) (a := a) (pn := pn) (by rw [cx.K]; exact xc) hz hf) (cx.gl bi.hg) (by show X.mg _ = none; rw [cx.mg]; exact cx.nb _ bi.hb) bi.hv (pa_cons pe (pa_cons pB pa_nil) (hs _)) bi.hn bi.hd (hs _) rfl
  refine jss (pss_one (ps_set (i := t) cx.nd hNt (cx.locn hy.2) (pe_ifExp (pt_val isi) JE.pe pe_str) rfl (cx.fnl hy.2))) ?_
  have sj : (σ.set j (some (V.ref a)))[j]? = some (some (.ref a)) := List.getElem?_set_self hl
  refine ⟨.ref a, sj, fun dd hdd => ?_, .ref CB, .ref CB, true, rfl, fun u hu => hu, by show PySem.W.kitOne X.K _ _ = _; rw [cx.K]; exact kit, true, rfl, ?_⟩
  · rcases h2 with ⟨_, hn⟩ | ⟨dd', fus, hd', hH, _⟩
    · rw [hdd] at hn; cases hn
    · rw [hdd] at hd'; cases hd'; exact ⟨fus, hH⟩
  · exact hA cx r x hz hf hl hv fun u F' H' s r' vr => q u F' H' s r' vr
/-- a field of the caught exception -/
theorem se_fld {j : Nat} {n x B : Str} {p1 p2 : Pos} (hj : LocN sc j n) (hE : ExcAll Γ B) (hno : ∀ c Ca, Γ.X c = some Ca → PySem.W.findIn Γ.K (.ref Ca) x = some none) (hd : (n == ("__debug__" : Str)) = false := by decide) (hcd : (n == ("__classdict__" : Str)) = false := by decide)
    (hb : ∀ env, attributeBase (.Name n p1) x env (eval (.Name n p1) env) = eval (.Name n p1) env := by intro _; rfl) : SE0 Γ sc j (.Attribute (.Name n p1) x p2) (fun fs => fs.lookup x) := by
  intro n0 X cx en e σ F H c fs v a oe cls d pn r hx hz hf hl hv Q q
  obtain ⟨Ca, h1, rfl, h2⟩ := id hx
  obtain ⟨CB, m, all⟩ := hE.ex
  obtain ⟨xc, kit⟩ := all c Ca h1
  have hN : (X.suite a ((a, oe) :: pn)).N[j]? = some n := by show X.N[j]? = _; rw [cx.N]; exact hj.1
  have pe : PE (X.suite a ((a, oe) :: pn)) (.Name n p1) (tVar j) := pe_var hN (.inl (cx.lcl hj.2)) hd hcd
  refine je (pe_xf (C := Ca) (n := x) ⟨by rw [cx.K]; exact xc.hg, by rw [cx.K]; exact xc.hk, by rw [cx.K]; exact xc.hs, by rw [cx.K]; exact xc.hd⟩ (by rw [cx.K]; exact hno c Ca h1) hz hf pe (hb _)) ?_
  refine ⟨.ref a, List.getElem?_set_self hl, rfl, rfl, ?_⟩
  rcases h2 with ⟨rfl, hn⟩ | ⟨dd, fus, rfl, hH, hfr⟩
  · cases hv
  · obtain ⟨u, hu, hvr⟩ := hfr.lookup hv
    exact ⟨dd, fus, u, rfl, hH, hu, q u hvr⟩
/-- [a, b], [a, b, c] over the caught exception -/
theorem se_lst2 {j : Nat} {A B : Expr} {f g : List (Str × Val) → Option Val} {p1 : Pos} (ha : SE0 Γ sc j A f) (hb : SE0 Γ sc j B g) (hs : ∀ env, starEach [A, B] env = (false, eval A env) :: starEach [B] env := by intro _; rfl) (hs2 : ∀ env, starEach [B] env = (false, eval B env) :: starEach [] env := by intro _; rfl) :
    SE Γ sc j (.List [A, B] p1) (fun fs => (f fs).bind fun v => (g fs).bind fun w => some (.lst [v, w])) := by
  intro n0 X cx en e σ F H c fs v a oe cls d pn r hx hz hf hl hv Q q
  obtain ⟨v1, h1, hv⟩ := Option.bind_eq_some_iff.mp hv
  obtain ⟨v2, h2, hv⟩ := Option.bind_eq_some_iff.mp hv
  cases hv
  refine je (pe_lst (pa_cons JE.pe (pa_cons JE.pe pa_nil (hs2 _)) (hs _))) ?_
  refine ha cx r hx hz hf hl h1 fun u1 t1 => hb cx r hx hz hf hl h2 fun u2 t2 => ⟨by show 2 ≤ sizeLine; decide, fun p hp => ?_⟩
  have g := Grow.alloc (o := .lst [u1, u2]) r.sub hp
  exact q _ _ _ g.ff (r.grow g) (.lst upd_same (.cons (t1.mono g.ff) (.cons (t2.mono g.ff) .nil)))
theorem se_lst3 {j : Nat} {A B E : Expr} {f g h : List (Str × Val) → Option Val} {p1 : Pos} (ha : SE0 Γ sc j A f) (hb : SE0 Γ sc j B g) (hc : SE0 Γ sc j E h) (hs : ∀ env, starEach [A, B, E] env = (false, eval A env) :: starEach [B, E] env := by intro _; rfl) (hs2 : ∀ env, starEach [B, E] env = (false, eval B env) :: starEach [E] env := by intro _; rfl) (hs3 : ∀ env, starEach [E] env = (false, eval E env) :: starEach [] env := by intro _; rfl) :
    SE Γ sc j (.List [A, B, E] p1) (fun fs => (f fs).bind fun v => (g fs).bind fun w => (h fs).bind fun z => some (.lst [v, w, z])) := by
  intro n0 X cx en e σ F H c fs v a oe cls d pn r hx hz hf hl hv Q q
  obtain ⟨v1, h1, hv⟩ := Option.bind_eq_some_iff.mp hv
  obtain ⟨v2, h2, hv⟩ := Option.bind_eq_some_iff.mp hv
  obtain ⟨v3, h3, hv⟩ := Option.bind_eq_some_iff.mp hv
  cases hv
  refine je (pe_lst (pa_cons JE.pe (pa_cons JE.pe (pa_cons JE.pe pa_nil (hs3 _)) (hs2 _)) (hs _))) ?_
  refine ha cx r hx hz hf hl h1 fun u1 t1 => hb cx r hx hz hf hl h2 fun u2 t2 => hc cx r hx hz hf hl h3 fun u3 t3 => ⟨by show 3 ≤ sizeLine; decide, fun p hp => ?_⟩
  have g := Grow.alloc (o := .lst [u1, u2, u3]) r.sub hp
  exact q _ _ _ g.ff (r.grow g) (.lst upd_same (.cons (t1.mono g.ff) (.cons (t2.mono g.ff) (.cons (t3.mono g.ff) .nil))))
end
end CG
end
section
set_option Elab.async false
set_option linter.all false
set_option maxRecDepth 100000
set_option autoImplicit false
/-! CG18: own classes: a new instance, isinstance, a store of a field. -/
namespace CG
open PySem PySem.Spec L2
theorem run_makeS {X : Cx} {CX : CXT} {k : Nat} {f C : Addr} {fd : FuncData} {ps : List Str} {sp : Sp} {E : XK} {pins : List (Addr × Obj)} {σ : L2.St} {H : Hp} {s : Shared} {Q : VK} {us : List Value} {vs : List V} (M : Mk X.K C f) (F : FnOk X.prog X.w X.K X.mg X.base CX k f fd ps sp) (hr : Room (k + 1) X.A) (hb : Binds X.K fd ps [])
    (hx : PassesAt CX X σ E) (I : L2.Inv X pins σ H s) (r : Vals vs us)
    (h : ∀ x dx, H x = none → H dx = none → dx ≠ x → sp (.ref x :: vs) (upd (upd H dx (.own x)) x (.ins C dx [])) (fun v H2 => v = .non ∧ Q (.ref x) H2) E) :
    wpAny (model X.prog X.w) X.A (call (.ref C) us) (EP X pins σ Q) X.xe s := by
  have want := h (s.heap.objs.size + 1) s.heap.objs.size (I.hok.fresh (Nat.le_succ _)) (I.hok.fresh (Nat.le_refl _)) (Nat.ne_of_lt (Nat.lt_succ_self _))
  have J := Inv.made (C := C) I
  have rv : Vals (V.ref (s.heap.objs.size + 1) :: vs) (Value.ref (s.heap.objs.size + 1) :: us) := .cons rfl r
  have len : (Value.ref (s.heap.objs.size + 1) :: us).length = ps.length := by rw [← rv.length]; exact F.len _ _ _ _ want
  have bs := hb _ (Value.ref (s.heap.objs.size + 1) :: us) J.kIn (by rw [List.append_nil]; exact len)
  rw [List.append_nil] at bs
  refine wpAny_call (make_map (f := f) I.kIn M.makes M.init (beq_iff_eq.mp M.fn) (codeAny_mono (F.run _ X.stack _ _ ⟨Value.ref (s.heap.objs.size + 1) :: us, []⟩ _ _ _ E (hr.make C us []) (J.env0.make C us []) bs rv want) fun rs s' g => ?_))
  cases rs with
  | error er => exact hx pins _ _ er s' J g
  | ok fl =>
    cases fl with
    | ret u =>
      obtain ⟨v, H', J', ru, ev, q⟩ := J.after g
      subst ev
      exact ⟨ru, ⟨V.ref (s.heap.objs.size + 1), H', J', rfl, q⟩⟩
    | next => exact g.elim
    | brk => exact g.elim
    | cont => exact g.elim
/-- C(e, ..): k is its __init__ -/
def mNew (k : Fn) (c : Str) (r : M (List Val)) : M Val := fun cl e => (r cl e).bind fun vs e1 => match cl k (.obj c [] :: vs) with
  | .ok .non [o] => .ok o e1
  | .exc x fs => .exc x fs e1
  | _ => .no
section
variable {Γ : GX} {sc : Sc} {fr : Bool} {a b : Expr} {f g : M Val} {pos p p2 : Pos}
structure NewOk (Γ : GX) (x c : Str) (k : Fn) (d : Def) (l : FnAt) : Prop where
  hG : Γ.G k = some d
  hl : Γ.loc k = some l
  fr : d.fresh = false
  io : ∃ m, d.io = true :: List.replicate m false
  ex : ∃ Ca, Γ.mg x = some (.ref Ca) ∧ Γ.C c = some Ca ∧ Mk Γ.K Ca l.addr
  hb : Binds Γ.K l.fd l.ps []
theorem argsR_vals {K : PySem.W.Frag} {C : Str → Option Addr} {F H : Hp} : ∀ {vs : List Val} {us : List V}, VRs K C F vs us → ArgsR K C F H (List.replicate vs.length false) vs us []
  | _, _, .nil => .nil
  | _, _, .cons h r => .v h (argsR_vals r)
theorem sf_new {x c : Str} {k : Fn} {d : Def} {l : FnAt} {es : List Expr} {r : M (List Val)} (nk : NewOk Γ x c k d l) (hn : d.io = true :: List.replicate (es.length + 1) false) (hx : sc.names.lookup x = some .globalImplicit) (ha : SL Γ sc (a :: es) r)
    (hlen : ∀ (cl : Cl) (e e1 : Env) (vs : List Val), r cl e = .ok vs e1 → vs.length = es.length + 1)
    (hdb : (x == ("__debug__" : Str)) = false := by decide) (he : ∀ env, starEach (a :: es) env = (false, eval a env) :: starEach es env := by intro _; rfl) (hpl : ∀ env, (backTo pos (starEach es env)).any (·.1) = false := by intro _; rfl) :
    SF Γ sc (.Call (.Name x p) (a :: es) [] pos) (mNew k c r) := by
  intro n X cx W tk en e σ F H rl Q PP pins s I
  obtain ⟨Ca, h1, h2, mk⟩ := nk.ex
  have Fo : FnOk X.prog X.w X.K X.mg X.base (L2.CX X.prog X.w) (2 * n + 4) l.addr l.fd l.ps (spOf Γ n k d) := by
    rw [cx.prog, cx.w, cx.K, cx.mg, cx.base]; exact cx.fns _ _ _ nk.hG nk.hl
  refine wpAny_Call_Name_kw (ld_glob I (cx.gl hx) (by rw [cx.mg]; exact h1) ?_ hdb)
  refine PySem.W.callWith_K (h₀ := X.base) I.ok.mod.kin (by rw [cx.K]; exact mk.kp) (thn ((JA.pa (X := X) (es := a :: es)).run pos pins s σ H _ I (ha cx tk rl (Q := fun us H1 => ∀ x dx, H1 x = none → H1 dx = none → dx ≠ x → spOf Γ n k d (.ref x :: us) (upd (upd H1 dx (.own x)) x (.ins Ca dx [])) (fun v H2 => v = .non ∧ Q (.ref x) H2) (WE W σ)) ?_)) fun ws s1 ⟨vs, H1, I1, rv, q⟩ => ⟨I1.kIn, ?_⟩) (he _) (hpl _)
  · cases hr : r (callN Γ.G n) e with
    | no => simp only [mNew, hr] at PP; exact PP.elim
    | exc c' fs e1 => simp only [mNew, hr] at PP; exact PP
    | ok vs e1 =>
      intro us F1 H1 s1 r1 t1 q dx hq hdx hne
      have vl := hlen _ _ _ _ hr
      simp only [mNew, hr] at PP
      have PP : Post Γ sc.kd en σ F (match callN Γ.G n k (.obj c [] :: vs) with
        | .ok .non [o] => .ok o e1
        | .exc x fs => .exc x fs e1
        | _ => .no) (TF Γ sc.kd en σ) Q W := PP
      have g1 := Grow.allocH (o := .own q) r1.sub hdx
      have hq1 : upd H1 dx (.own q) q = none := by rw [L2.upd_ne (Ne.symm hne)]; exact hq
      have g2 := Grow.allocH (o := .ins Ca dx []) g1.fh hq1
      have r2 := (r1.grow g1).grow g2
      generalize hH2 : upd (upd H1 dx (.own q)) q (.ins Ca dx []) = H2 at r2 g2
      have hqi : H2 q = some (.ins Ca dx []) := by rw [← hH2]; exact upd_same
      have hdo : H2 dx = some (.own q) := by rw [← hH2, L2.upd_ne hne]; exact upd_same
      have old : ∀ z, H1 z = none → en.H0 z = none := fun z hz => by
        cases w : en.H0 z with
        | none => rfl
        | some o => exact absurd hz (r1.b3 z (by rw [w]; simp))
      have liveNe : ∀ (i : Nat) (w : Val), kdAt sc.kd i ≠ .imm → e1[i]? = some (some w) → σ[i]? ≠ some (some (.ref q)) := fun i w ki hi si => by
        obtain ⟨u, su, oq⟩ := r1.own i w ki hi
        rw [si] at su; cases su
        rcases oq with ⟨z, oq⟩ | ⟨b, eb, ow, _⟩
        · exact absurd rfl ((scalar_of oq z).1 q)
        · cases eb; exact absurd hq ow.there
      have back : ∀ {F' H' : Hp}, Step F1 H2 F' H' [q] → Rel Γ.K Γ.C sc.kd en e1 σ F' H' := fun {F' H'} st => r2.step st (fun i v b ki hi si hm => by
          have := List.mem_singleton.mp hm; subst this; exact liveNe i v ki hi si) (fun b hb => by
          have := List.mem_singleton.mp hb; subst this
          exact ⟨.inl (old b hq), fun y hy => by rw [hqi] at hy; cases hy⟩)
      refine ⟨F1, .obj c [] :: vs, [q], r2.sub, ?_, ?_⟩
      · rw [hn, ← vl]
        exact .io (.obj h2 hqi hdo (r1.sub.free hdx) trivial .nil) (r1.sub.free hq) (by simp) (argsR_vals t1)
      · cases hc : callN Γ.G n k (.obj c [] :: vs) with
        | no => rw [hc] at PP; exact PP.elim
        | exc c' fs => rw [hc] at PP; exact fun cls d' F' H' st x => PP cls d' F' H' (s1.trans st.ff) (back st) x
        | ok v outs =>
          rw [hc] at PP
          intro u F' H' st ho hv
          cases ho with
          | cons ow hF ho2 =>
            cases ho2
            cases v with
            | non =>
              have PP : Post Γ sc.kd en σ F (.ok _ e1) (TF Γ sc.kd en σ) Q W := PP
              rw [nk.fr] at hv
              have hv : VR Γ.K Γ.C F' .non u := hv
              cases hv
              refine ⟨rfl, PP (.ref q) F' H' (s1.trans st.ff) (back st) (.inr ⟨q, rfl, ow.any fun dz _ _ _ ⟨C0, fs0, hs⟩ => ⟨fun _ => ?_, fun z => nomatch z⟩, hF, old q hq, liveNe⟩)⟩
              rw [hqi] at hs; cases hs; exact old dx hdx
            | _ => exact PP.elim
  · exact run_makeS (by rw [cx.K]; exact mk) Fo (cx.room.mono (by omega)) (by rw [cx.K]; exact nk.hb) (passAt tk σ) I1 rv q
/-- so many items are written -/
def ILen (k : Nat) (r : M (List Val)) : Prop := ∀ (cl : Cl) (e e1 : Env) (vs : List Val), r cl e = .ok vs e1 → vs.length = k
theorem il_nil : ILen 0 iNil := fun cl e e1 vs h => by cases h; rfl
theorem il_cons {k : Nat} {r : M (List Val)} (h : ILen k r) : ILen (k + 1) (iCons f r) := fun cl e e1 vs hh => by
  unfold iCons at hh
  cases h1 : f cl e with
  | no => rw [h1] at hh; cases hh
  | exc _ _ _ => rw [h1] at hh; cases hh
  | ok v e2 =>
    rw [h1] at hh
    simp only [R.bind] at hh
    cases h2 : r cl e2 with
    | no => rw [h2] at hh; cases hh
    | exc _ _ _ => rw [h2] at hh; cases hh
    | ok ws e3 =>
      rw [h2] at hh
      cases hh
      simp [h _ _ _ _ h2]
/-! ### isinstance with an own class -/
def isiO (c : Str) : Val → Option Val
  | .obj c' _ => some (.bl (c' == c))
  | v => (tyName v).map fun _ => .bl false
structure IsiOk (Γ : GX) (x c : Str) : Prop where
  ex : ∃ Ca, Γ.mg x = some (.ref Ca) ∧ (∀ a ∈ ["NoneType", "bool", "int", "str", "tuple", "list", "dict"], PySem.W.kitOne Γ.K (.type a) (.ref Ca) = some false) ∧
    ∀ c' Cb, Γ.C c' = some Cb → Cls Γ.K Cb ∧ PySem.W.findIn Γ.K (.ref Cb) "__class__" = some (some (.builtin "object.__class__")) ∧ PySem.W.specialIn Γ.K (.builtin "object.__class__") "__get__" = some (some (.builtin "getset_descriptor.__get__")) ∧
      PySem.W.takesIn Γ.K (.builtin "object.__class__") = some true ∧ PySem.W.mroIn Γ.K Cb (.type "object") = some true ∧ PySem.W.kitOne Γ.K (.ref Cb) (.ref Ca) = some (c' == c)
theorem sv_isiO {x c : Str} {p2 : Pos} (bi : BlN sc "isinstance" (.builtin "isinstance")) (hx : sc.names.lookup x = some .globalImplicit) (ok : IsiOk Γ x c) (ha : SV Γ sc a f) (hdb : (x == ("__debug__" : Str)) = false := by decide)
    (hs : ∀ env, starEach [a, .Name x p2] env = (false, eval a env) :: starEach [.Name x p2] env := by intro _; rfl) : SV Γ sc (.Call (.Name "isinstance" p) [a, .Name x p2] [] pos) (mUn (isiO c) f) := by
  intro n X cx W tk en e σ F H r Q P
  obtain ⟨Ca, m, bt, ow⟩ := ok.ex
  have hn : X.mg ("isinstance" : Str) = none := by rw [cx.mg]; exact cx.nb _ bi.hb
  have hxx : PE X (.Name x p2) (tC (.ref Ca)) := pe_glob (cx.gl hx) (by rw [cx.mg]; exact m) rfl hdb
  refine je (pe_callV fvB call_isi (cx.gl bi.hg) hn bi.hv (pa_cons JE.pe (pa_cons hxx pa_nil) (hs _)) bi.hn bi.hd (hs _) rfl) ?_
  refine ha cx tk r (Post.seq P fun v e1 u F1 H1 s1 r1 t1 P1 => ?_)
  obtain ⟨z, hz, q⟩ := P1.ret
  have t1 : VR Γ.K Γ.C F1 v u := t1
  have plain : ∀ t, tyName v = some t → z = .bl false → rIsi X.K [u, .ref Ca] H1 Q := fun t ht e => by
    subst e
    obtain ⟨h2, h3⟩ := ty_of r1.sub t1 ht
    rw [← cx.K] at h2
    exact ⟨u, .ref Ca, _, _, false, rfl, .own Ca, h2, by rw [cx.K]; exact bt _ h3, q _ F1 H1 (Same.refl _) r1 (.bl _)⟩
  cases t1 with
  | @obj q0 dx c' Cb fus fs hc h1 h2 hfs =>
    cases hz
    obtain ⟨k1, k2, k3, k4, k5, k6⟩ := ow c' Cb hc
    rw [← cx.K] at k1 k2 k3 k4 k5 k6
    exact ⟨_, .ref Ca, _, _, _, rfl, .own Ca, .base (.ins (r1.sub _ _ h1) k1 k2 k3 k4 k5), k6, q _ F1 H1 (Same.refl _) r1 (.bl _)⟩
  | tup _ _ => exact plain _ rfl (by cases hz; rfl)
  | lst _ _ => exact plain _ rfl (by cases hz; rfl)
  | non => exact plain _ rfl (by cases hz; rfl)
  | bl _ => exact plain _ rfl (by cases hz; rfl)
  | int _ => exact plain _ rfl (by cases hz; rfl)
  | str _ => exact plain _ rfl (by cases hz; rfl)
  | dct _ _ => exact plain _ rfl (by cases hz; rfl)
  | scr _ => cases hz
/-! ### o.f = e -/
def putFV (f : Str) (v : Val) : List (Str × Val) → List (Str × Val)
  | [] => [(f, v)]
  | (g, x) :: r => if g = f then (g, v) :: r else (g, x) :: putFV f v r
theorem FRs.put {K : PySem.W.Frag} {C : Str → Option Addr} {F : Hp} {x : Str} {v : Val} {u : V} (hv : VR K C F v u) : ∀ {fs : List (Str × Val)} {fus : List (Str × V)}, FRs K C F fs fus → FRs K C F (putFV x v fs) (putF x u fus)
  | _, _, .nil => .cons hv .nil
  | _, _, .cons (k := m) h r => by
    unfold putFV putF
    by_cases hm : m = x
    · rw [if_pos hm, if_pos hm]; exact .cons hv r
    · rw [if_neg hm, if_neg hm]; exact .cons h (FRs.put hv r)
theorem FRs.length {K : PySem.W.Frag} {C : Str → Option Addr} {F : Hp} : ∀ {fs : List (Str × Val)} {fus : List (Str × V)}, FRs K C F fs fus → fus.length = fs.length
  | _, _, .nil => rfl
  | _, _, .cons _ r => by simp [FRs.length r]
def sFldV (i : Nat) (x : Str) (f : M Val) : S := fun cl e => (f cl e).toS fun v e1 => match e1[i]? with
  | some (some (.obj c fs)) => if fs.length < 1000 then .next (e1.set i (some (.obj c (putFV x v fs)))) else .no
  | _ => .no
theorem ss_fld {i : Nat} {y x : Str} {py p2 : Pos} (s : SlotN sc i y) (hf : FldOk Γ x) (ha : SV Γ sc a f) (hs : ∀ env, swapsWith a (some (.Attribute (.Name y py) x p2)) pos.line env = pure false := by intro _; rfl) : SS Γ sc fr (.Assign [.Attribute (.Name y py) x p2] a pos) (sFldV i x f) := by
  intro n X cx sx W tk en e σ F H r D P
  refine js (ps_fld (s.pe cx) JE.pe (hs _)) ?_
  refine ha cx tk r (PostS.toS P fun v e1 u F1 H1 s1 r1 t1 P1 => ?_)
  split at P1
  · rename_i c fs he
    by_cases hl : fs.length < 1000
    · rw [if_pos hl] at P1
      obtain ⟨q, sq, ow, nq⟩ := r1.ownA s.k he rfl
      have no := ow.noOwn
      cases ow with
      | @obj _ dx _ Ca fus _ hc h1 h2 h3 h4 hfs =>
        obtain ⟨k1, k2⟩ := hf c Ca hc
        have hne : dx ≠ q := by rintro rfl; rw [h1] at h2; cases h2
        refine ⟨.ref q, sq, q, Ca, dx, fus, rfl, h1, by rw [cx.K]; exact k1, by rw [cx.K]; exact k2, by rw [hfs.length]; exact hl, ?_⟩
        have ow2 : OW Γ.K Γ.C F1 (upd H1 q (.ins Ca dx (putF x u fus))) (Nw en (kdAt sc.kd i) q) (.obj c (putFV x v fs)) q := .obj hc upd_same (by rw [L2.upd_ne hne]; exact h2) h3 h4 (FRs.put t1 hfs)
        exact P1 σ F1 _ (Same.refl _) (r1.mutate s.k he sq ow2 no)
    · rw [if_neg hl] at P1; exact P1.elim
  · exact P1.elim
end
end CG
end
section
set_option Elab.async false
set_option linter.all false
set_option maxRecDepth 100000
set_option autoImplicit false
/-! CG19: further assigns; dict displays. -/
namespace CG
open PySem PySem.Spec L2
section
variable {Γ : GX} {sc : Sc} {fr : Bool} {ex a b c : Expr} {f g h : M Val} {pos p : Pos}
theorem Compat.kinds {n : Nat} {X : Cx} (cx : Compat Γ sc n X) {x : Str} {k : NameKind} (h : sc.names.lookup x = some k) (hk : k ≠ .free) : X.env.kindOf x = some k := by
  rcases cx.nm x _ h with q | ⟨q, _⟩
  · exact q
  · exact absurd q hk
theorem ss_setC {i : Nat} {x : Str} (hN : sc.N[i]? = some x) (hc : sc.names.lookup x = some .cell) (hf : SX Γ sc i ex f) : SS Γ sc fr (.Assign [.Name x p] ex pos) (sAsg (bindName i) f) := by
  intro n X cx sx W tk en e σ F H r D P
  refine js (ps_set cx.nd (by rw [cx.N]; exact hN) (cx.locn (.inr hc)) JE.pe (swapC (cx.kinds hc (by decide))) (cx.fnl (.inr hc))) ?_
  refine hf.run cx tk r (PostS.toS P fun v e1 u F1 H1 s1 r1 t1 P1 => ?_)
  unfold bindName at P1
  by_cases hl : i < e1.length
  · rw [if_pos hl] at P1
    exact P1 _ F1 H1 (Same.refl _) (r1.store t1)
  · rw [if_neg hl] at P1; exact P1.elim
/-- a folded tuple of constants -/
theorem ss_asgF {ts vs : List Expr} {kt k2 : Nat} {pt pt2 : Pos} {b1 : Bind} {ns : List Nat} (hg : SG Γ sc (.Tuple ts kt pt) b1 ns) (hf : SV Γ sc (.Tuple vs k2 pt2) f) (hfo : vs.all (foldedForSure 8) = true)
    (h1 : ∀ env, (assignEach [.Tuple ts kt pt] env).map (·.2) = [assign (.Tuple ts kt pt) env] := by intro _; rfl) : SS Γ sc fr (.Assign [.Tuple ts kt pt] (.Tuple vs k2 pt2) pos) (sAsg b1 f) :=
  ss_asg hg hf (by intro _; rfl) (fun env => swapF hfo) h1
theorem swapM2 {env : PySem.Env} {x y : Str} {px py pt pt2 : Pos} {kt k2 : Nat} (hk : env.kindOf x = some .cell ∨ env.kindOf y = some .cell) : swappedStores [.Tuple [.Name x px, .Name y py] kt pt] (.Tuple [a, b] k2 pt2) env = pure none := by
  have n0 : ∀ (l : List Str), l.length ≤ 1 → (l.length != 2) = true := fun l hl => by simp; omega
  unfold swappedStores
  simp only [List.filterMap_cons, List.filterMap_nil]
  rcases hk with hk | hk
  · simp only [hk]
    repeat' (first | rfl | split)
    all_goals simp_all
  · simp only [hk]
    repeat' (first | rfl | split)
    all_goals simp_all
theorem swapM3 {env : PySem.Env} {x y z : Str} {px py pz pt pt2 : Pos} {kt k2 : Nat} (hk : env.kindOf x = some .cell ∨ env.kindOf y = some .cell ∨ env.kindOf z = some .cell) : swappedStores [.Tuple [.Name x px, .Name y py, .Name z pz] kt pt] (.Tuple [a, b, c] k2 pt2) env = pure none := by
  unfold swappedStores
  simp only [List.filterMap_cons, List.filterMap_nil]
  rcases hk with hk | hk | hk
  · simp only [hk]
    repeat' (first | rfl | split)
    all_goals simp_all
  · simp only [hk]
    repeat' (first | rfl | split)
    all_goals simp_all
  · simp only [hk]
    repeat' (first | rfl | split)
    all_goals simp_all
/-- a, b = x, y where a name is seen by a comprehension: by the pair -/
theorem ss_parT2 {i j : Nat} {x y : Str} {px py pt : Pos} {kt k2 : Nat} {pt2 : Pos} (hi : LocC sc i x) (hj : LocC sc j y) (hij : i ≠ j) (hf : SX Γ sc i a f) (hg : SX Γ sc j b g)
    (hk : sc.names.lookup x = some .cell ∨ sc.names.lookup y = some .cell)
    (hs : ∀ env, starEach [a, b] env = [(false, eval a env), (false, eval b env)] := by intro _; rfl)
    (hs1 : ∀ env, starEach [b] env = [(false, eval b env)] := by intro _; rfl)
    (hsw : ∀ env, swapsWithSole [.Tuple [.Name x px, .Name y py] kt pt] (.Tuple [a, b] k2 pt2) pos.line env = pure false := by intro _; rfl) :
    SS Γ sc fr (.Assign [.Tuple [.Name x px, .Name y py] kt pt] (.Tuple [a, b] k2 pt2) pos) (sPar2 i j f g) := by
  intro n X cx sx W tk en e σ F H r D P
  have hi' : X.N[i]? = some x := by rw [cx.N]; exact hi.1
  have hj' : X.N[j]? = some y := by rw [cx.N]; exact hj.1
  refine js (ps_asg (pe_tup (pa_cons JE.pe (pa_cons JE.pe pa_nil (by rw [hs1]; rfl)) (by rw [hs, hs1]))) (pg_tup cx.calm (pgs_cons (pg_name cx.nd hi' (cx.locn hi.2) (cx.fnl hi.2)) (pgs_cons (pg_name cx.nd hj' (cx.locn hj.2) (cx.fnl hj.2)) pgs_nil))) (hsw _) (swapM2 (hk.imp (fun h => cx.kinds h (by decide)) fun h => cx.kinds h (by decide)))) ?_
  refine hf.run cx tk r (PostS.toS P fun v e1 u F1 H1 s1 r1 t1 P1 => ?_)
  obtain ⟨en', r1', back⟩ := r1.hold t1
  refine hg.run cx tk r1' ?_
  cases hr : g (callN Γ.G n) e1 with
  | no => rw [hr] at P1; exact P1.elim
  | exc c fs e2 => rw [hr] at P1; exact fun cls d F2 H2 s2 r2 x2 => P1 cls d σ F2 H2 s2 (back _ _ _ _ s2 r2).1 x2
  | ok w e2 =>
    rw [hr] at P1
    intro u2 F2 H2 s2 r2 t2
    have P1 : PostS Γ sc.kd en F1 fr (if i < e2.length ∧ j < e2.length then .next ((e2.set j (some w)).set i (some v)) else .no) D W := P1
    by_cases hl : i < e2.length ∧ j < e2.length
    · rw [if_pos hl] at P1
      refine ⟨by show 2 ≤ sizeLine; decide, fun q hq => ⟨q, [u, u2], rfl, .inl (.inl upd_same), rfl, u, [u2], rfl, u2, [], rfl, rfl, ?_⟩⟩
      obtain ⟨r4, t4⟩ := back _ _ _ _ s2 (r2.store t2)
      have r5 := (r4.store t4).grow (Grow.allocH (o := .tup [u, u2]) r2.sub hq)
      show D.nx ((σ.set i (some u)).set j (some u2)) _
      rw [List.set_comm _ _ hij]
      exact P1 _ F2 _ s2 r5
    · rw [if_neg hl] at P1; exact P1.elim
/-! ### dict displays -/
theorem fresh_newD {e : Env} {σ : L2.St} {F H : Hp} {kd : Kds} {en : Ent} {q : Addr} {kus : List (Key × V)} {kvs : List (Key × Val)} (r : Rel Γ.K Γ.C kd en e σ F H) (hq : H q = none) (h : KRs Γ.K Γ.C F kvs kus) :
    Rel Γ.K Γ.C kd en e σ F (upd H q (.dK kus)) ∧ Fresh Γ.K Γ.C kd en e σ F (upd H q (.dK kus)) (.dct kvs) (.ref q) := by
  refine ⟨r.grow (Grow.allocH r.sub hq), .inr ⟨q, rfl, .dct upd_same h, r.sub.free hq, ?_, fun i w k hi si => ?_⟩⟩
  · cases z : en.H0 q with
    | none => rfl
    | some o => exact absurd hq (r.b3 q (by rw [z]; simp))
  · obtain ⟨u, su, oq⟩ := r.own i w k hi
    rw [si] at su; cases su
    rcases oq with ⟨s, oq⟩ | ⟨b, e1, ow, _⟩
    · exact (scalar_of oq s).1 q rfl
    · cases e1; exact ow.there hq
/-- {} -/
theorem sf_dict0 : SF Γ sc (.Dict [] [] pos) (mLit (.dct [])) := by
  intro n X cx W tk en e σ F H r Q P
  refine je pe_dnewK fun q hq => ?_
  obtain ⟨r2, fr⟩ := fresh_newD r hq (.nil : KRs Γ.K Γ.C F [] [])
  exact P _ F _ (Same.refl _) r2 fr
/-- {k: v} -/
def mDict1 (f g : M Val) : M Val := fun cl e => (f cl e).bind fun a e1 => (g cl e1).bind fun b e2 => match keyOf a with
  | some k => .ok (.dct [(k, b)]) e2
  | none => .no
theorem sf_dict1 (ha : SV Γ sc a f) (hb : SV Γ sc b g) : SF Γ sc (.Dict [some a] [b] pos) (mDict1 f g) := by
  intro n X cx W tk en e σ F H r Q P
  refine je (pe_disp (pps_cons JE.pe JE.pe pps_nil) rfl rfl (by simp) (by simp)) fun q hq => ?_
  obtain ⟨r0, fr⟩ := fresh_newD r hq (.nil : KRs Γ.K Γ.C F [] [])
  obtain ⟨en', r0', back⟩ := r0.holdF fr
  refine ha cx tk r0' ?_
  cases hr : f (callN Γ.G n) e with
  | no => simp only [mDict1, hr] at P; exact P.elim
  | exc c fs e1 => simp only [mDict1, hr] at P; exact fun cls d F1 H1 s1 r1 x1 => P cls d F1 H1 s1 (back _ _ _ _ s1 r1).1 x1
  | ok v e1 =>
    simp only [mDict1, hr, R.bind] at P
    intro u F1 H1 s1 r1 t1
    refine hb cx tk r1 ?_
    cases hr2 : g (callN Γ.G n) e1 with
    | no => simp only [hr2] at P; exact P.elim
    | exc c fs e2 => simp only [hr2] at P; exact fun cls d F2 H2 s2 r2 x2 => P cls d F2 H2 (s1.trans s2) (back _ _ _ _ (s1.trans s2) r2).1 x2
    | ok w e2 =>
      simp only [hr2] at P
      intro u2 F2 H2 s2 r2 t2
      split at P
      · rename_i k hk
        obtain ⟨r3, fr3⟩ := back _ _ _ _ (s1.trans s2) r2
        have t1 : VR Γ.K Γ.C F1 v u := t1
        have hu := keyOf_vr (t1.mono s2) hk
        rcases fr3 with ⟨z, _⟩ | ⟨q', eq, ow, nF, l0, ap⟩
        · cases z
        cases eq
        have no := ow.noOwn
        cases ow with
        | dct hH hv =>
          cases hv
          refine ⟨hH, [(k, u2)], by simp [hu], by simp, ?_⟩
          have e1' : mergeK [] [(k, u2)] = [(k, u2)] := rfl
          rw [e1']
          exact P (.ref q) F2 _ (s1.trans s2) (r3.updF nF l0 ap no) (.inr ⟨q, rfl, .dct upd_same (.cons t2 .nil), nF, l0, ap⟩)
      · exact P.elim
end
end CG
end
section
set_option Elab.async false
set_option linter.all false
set_option maxRecDepth 100000
set_option autoImplicit false
/-! CG20: enumerate over a tuple. -/
namespace CG
open PySem PySem.Spec L2
section
open PySem.Calls PyProof.Rows
set_option maxHeartbeats 1000000 in
/-- enumerate(v): its two cells -/
theorem meets_enum1 {v : Value} {o : Obj} {H : Heap → Prop} (B : Begins v o H) :
    Meets (Builtin.«enumerate.__new__» ⟨[.type "enumerate", v], []⟩) (fun _ R s => H s.heap ∧
      R (.ok (.ret (.ref (s.heap.push o).objs.size))) { s with heap := (s.heap.push o).push { cls := .type "enumerate", data := .fields #[.none, .bool false, .ref s.heap.objs.size, rawInt 0, .none, .none] } }) :=
  .of_wp fun prog w A R s hyp => by
    obtain ⟨h1, h2⟩ := hyp
    obtain ⟨hp, gs, dr, tks, osx⟩ := s
    have hsub := sub_enumerate
    have step : ∀ {A' : Around} {E : Value → Shared → Prop} {Q : Value → Shared → Prop}, Q (.ref hp.objs.size) ⟨hp.push o, gs, dr, tks, osx⟩ → wpAny (model prog w) A' (pyIter v) Q E ⟨hp, gs, dr, tks, osx⟩ :=
      fun q => B.iter prog w _ _ ⟨hp, gs, dr, tks, osx⟩ _ h1 q
    wp_walk using step
    refine wpAny_stack_any fun frames => wpAny_pure ?_
    split
    · rename_i cl _ _ _ _ _
      cases (cl == Value.type "enumerate") <;> (wp_walk using step; exact ⟨_, rfl, h2⟩)
    · wp_walk using step
      exact ⟨_, rfl, h2⟩
theorem call_enum1 {prog : Program} {w : World} {A : Around} {E : Value → Shared → Prop} {s : Shared} {v : Value} {o : Obj} {H : Heap → Prop} {Q : Value → Shared → Prop} (B : Begins v o H) (h1 : H s.heap)
    (h : ∀ h', IsEnum h' (s.heap.objs.size + 1) s.heap.objs.size 0 .none → h'.get? s.heap.objs.size = some o → (∀ b ob, s.heap.get? b = some ob → h'.get? b = some ob) → Q (.ref (s.heap.objs.size + 1)) { s with heap := h' }) :
    wpAny (model prog w) A (call (.type "enumerate") [v]) Q E s := by
  refine callType_new F.called_enumerate (by decide) (F.typeCall_enumerate_1 _) (F.newCall_enumerate_1 _) (fun obj => F.args_object_init_2 obj _) F.entry_enumerate_new (meets_enum1 B) ⟨h1, ?_⟩
  have sz : (s.heap.push o).objs.size = s.heap.objs.size + 1 := Heap.size_push ..
  show _ ∧ _
  rw [sz]
  have isE : IsEnum ((s.heap.push o).push { cls := .type "enumerate", data := .fields #[.none, .bool false, .ref s.heap.objs.size, rawInt 0, .none, .none] }) (s.heap.objs.size + 1) s.heap.objs.size 0 .none := by
    have q := Heap.get?_push_size (s.heap.push o) (o := { cls := .type "enumerate", data := .fields #[.none, .bool false, .ref s.heap.objs.size, rawInt 0, .none, .none] }) rfl
    rw [sz] at q; exact q
  exact ⟨⟨_, isE, rfl⟩, h _ isE (Heap.get?_push_of_some _ (Heap.get?_push_size _ B.free)) fun b ob x => Heap.get?_push_of_some _ (Heap.get?_push_of_some _ x)⟩
end
/-- a tuple's items in new pairs with their places -/
def ItE (K : PySem.W.Frag) (a : Addr) : It :=
  ⟨fun i H => ∃ (xs : List V) (x : V), SqT K H a xs ∧ xs[i]? = some x, fun i H v H' => ∃ T x, v = .ref T ∧ H T = none ∧ H' = upd H T (.tup [.int (i : Nat), x]) ∧ ∀ xs, SqT K H a xs → xs[i]? = some x, fun i H => ∃ xs : List V, SqT K H a xs ∧ xs.length = i⟩
section
open PyProof.Rows
theorem turn_enumTup {P : Program} {w : World} {K : PySem.W.Frag} {elts : List Expr} {kk : Nat} {tpos : Pos} (a e it : Addr) :
    Turn P w K (.Tuple elts kk tpos) (ItE K a) [e, it] e (fun i h => (∃ old, IsEnum h e it ((i : Nat) : Int) old) ∧ h.IsTupleIter it a i ∧ e ≠ it ∧ e ≠ a ∧ a ≠ it) where
  mem := by simp
  obj := fun i h st b hb => by
    obtain ⟨⟨old, he⟩, ⟨o, ho, hc, hd⟩, _⟩ := st
    rcases (by simpa using hb : b = e ∨ b = it) with rfl | rfl
    · exact ⟨_, he, fun v q => nomatch q⟩
    · exact ⟨o, ho, fun v q => by rw [hd] at q; cases q⟩
  keep := fun i h h' st k => let ⟨⟨old, he⟩, hi, n1, n2, n3⟩ := st; ⟨⟨old, k e (by simp) _ he⟩, hi.at fun o q => k it (by simp) o q, n1, n2, n3⟩
  item := by
    intro X hP hw hK hc i pins s σ H E I hf st hg
    subst hP hw hK
    obtain ⟨⟨old, he⟩, hit, n1, n2, n3⟩ := st
    obtain ⟨xs, x, hq, hx⟩ := hg
    obtain ⟨its, rv, ht, hz⟩ := I.tuple hq
    obtain ⟨u, hu, ru⟩ := rv.get hx
    have le : e < s.heap.objs.size := Heap.lt_size he
    have li : it < s.heap.objs.size := by obtain ⟨_, q, _⟩ := hit; exact Heap.lt_size q
    have D := Draws.tuple (prog := X.prog) (w := X.w) (A := X.A.in1) (by show X.A.handled = none; exact I.ok.hd hc) it a n3 its.toArray
    have hi : i < its.toArray.size := by
      rcases Nat.lt_or_ge i its.length with h | h
      · simpa using h
      · rw [List.getElem?_eq_none h] at hu; cases hu
    refine wpAny_pyNext_enum_itemD D he ⟨hit, show s.heap.IsTuple a its.toArray from ht⟩ hi n1 (by simp [n1, n2]) fun y h' tk hy ho hst' hT hsz hk => ?_
    have ey : y = u := by
      have hy : its.toArray[i]? = some y := hy
      have : its[i]? = some y := by simpa using hy
      rw [hu] at this; exact (Option.some.inj this).symm
    subst ey
    refine ⟨_, rfl, wpAny_letOwnedTupleGo_enum (s := { s with heap := h', toks := tk + 1 }) ho fun h2 he2 sb => ?_⟩
    have hT2 : h2.get? s.heap.objs.size = some { cls := .type "tuple", data := .seq #[.int i tk, y] } := (sb.2 _ (Nat.ne_of_gt le)).trans hT
    have new : ObjOk X.prog X.w (upd H s.heap.objs.size (.tup [.int (i : Nat), x])) h2 s.heap.objs.size (.tup [.int (i : Nat), x]) :=
      ⟨by show 2 ≤ sizeLine; decide, [.int i tk, y], .cons ⟨_, rfl⟩ (.cons ru .nil), ⟨_, hT2, rfl, _, rfl⟩⟩
    have J : Inv X pins σ (upd H s.heap.objs.size (.tup [.int (i : Nat), x])) { s with heap := h2, toks := tk + 1 } :=
      I.turnedNew (ch := [e, it]) (fun b ob hb q => (sb.2 b (fun z => hb (by simp [z]))).trans (hk b ob (fun z => hb (by simp [z])) (fun z => hb (by simp [z])) q)) hf (Nat.le_refl _) new
    refine ⟨.ref s.heap.objs.size, _, J, rfl, ⟨_, x, rfl, I.hok.fresh (Nat.le_refl _), rfl, fun ys hy' => by rw [I.tuple_inj hy' hq]; exact hx⟩, ⟨⟨y, ?_⟩, hst'.1.at fun o q => (sb.2 it (Ne.symm n1)).trans q, n1, n2, n3⟩, fun b hb => ?_⟩
    · have e1 : ((i + 1 : Nat) : Int) = (i : Int) + 1 := by omega
      rw [e1]; exact he2
    · have hb' : b < s.heap.objs.size := by
        rcases (by simpa using hb : b = e ∨ b = it) with rfl | rfl
        · exact le
        · exact li
      rw [L2.upd_ne (Nat.ne_of_lt hb')]
      exact (hf b hb).1
  done := by
    intro X hP hw hK hc i pins s σ H E I hf st hg
    subst hP hw hK
    obtain ⟨⟨old, he⟩, hit, n1, n2, n3⟩ := st
    obtain ⟨xs, hq, hx⟩ := hg
    obtain ⟨its, rv, ht, hz⟩ := I.tuple hq
    obtain ⟨f0, f1, f2, f3, f4, f5⟩ := hf it (by simp)
    have D := Draws.tuple (prog := X.prog) (w := X.w) (A := X.A.in1) (by show X.A.handled = none; exact I.ok.hd hc) it a n3 its.toArray
    have hn : i = its.toArray.size := by have := rv.length; simp; omega
    subst hn
    exact wpAny_pyNext_enum_endD D he ⟨hit, show s.heap.IsTuple a its.toArray from ht⟩ fun h' eb => ⟨rfl, I.turned (t' := s.toks) (fun b o hb q => eb b o hb q) f0 f1 f3 f4 f5⟩
  self := fun A i s Q E st h => let ⟨⟨_, he⟩, _⟩ := st; wpAny_pyIter_enum he h
theorem walk_enumTup {K : PySem.W.Frag} {a : Addr} {xs : List V} : L2.Walk (ItE K a) xs.length (fun H => SqT K H a xs) (YPair (fun i => some (.int (i : Nat))) (fun i => xs[i]?)) := by
  refine ⟨fun i _ hi q => ⟨xs, xs[i], q, by simp [hi]⟩, fun _ q => ⟨xs, q, rfl⟩, fun i H v H' _ q y => ?_⟩
  obtain ⟨T, x, h1, h2, h3, h4⟩ := y
  exact ⟨T, .int (i : Nat), x, h1, h2, h3, rfl, h4 xs q⟩
theorem pi_enumTup {X : Cx} {e : Expr} {ta : TA} {p pos tpos : Pos} {elts : List Expr} {kk : Nat} (hg : Gl X "enumerate") (hm : X.mg "enumerate" = none) (ha : PA X [e] ta) (hs : starEach [e] X.env = [(false, eval e X.env)] := by rfl) :
    PI X (.Tuple elts kk tpos) (.Call (.Name "enumerate" p) [e] [] pos) (fun σ H R => ta σ H fun vs H1 => ∃ a xs, vs = [.ref a] ∧ SqT X.K H1 a xs ∧ R (ItE X.K a) H1) := by
  refine ⟨fun pins s σ H R I h => Call_ (ld_blt I hg hm boot_enumerate (PyProof.Rows.callWith_type1 (thn (ha.run pos pins s σ H _ I h) fun us s1 ⟨vs, H1, I1, rv1, a, xs, ev, hq, q⟩ => ?_) hs rfl))⟩
  subst ev
  rw [Vals.ref1 rv1]
  obtain ⟨its, rv, ht, hz⟩ := I1.tuple hq
  have lt : a < s1.heap.objs.size := by obtain ⟨o, q, _⟩ := ht; exact Heap.lt_size q
  refine call_enum1 (begins_tuple a its.toArray) (show s1.heap.IsTuple a its.toArray from ht) fun h' isE hit hk => wpAny_pyIter_enum isE ?_
  have J : Inv X pins σ H1 { s1 with heap := h' } := I1.kept (t' := s1.toks) hk
  refine ⟨s1.heap.objs.size + 1, [s1.heap.objs.size + 1, s1.heap.objs.size], _, _, H1, rfl, J, turn_enumTup a (s1.heap.objs.size + 1) s1.heap.objs.size, ⟨⟨.none, isE⟩, ⟨_, hit, rfl, rfl⟩, Nat.succ_ne_self _, Nat.ne_of_gt (Nat.lt_succ_of_lt lt), Nat.ne_of_lt lt⟩, fun b hb => ?_, q⟩
  have le : s1.heap.objs.size ≤ b := by
    rcases (by simpa using hb : b = s1.heap.objs.size + 1 ∨ b = s1.heap.objs.size) with rfl | rfl <;> omega
  exact I1.fpOk le (I1.hok.fresh le)
end
section
variable {Γ : GX} {sc : Sc} {a : Expr} {f : M Val} {pos p tpos : Pos}
/-- items in pairs with their places -/
theorem walkV_pair {J : It} {xs : List Val} {us : List V} {F1 : Hp} {G : Hp → Prop} (w : L2.Walk J us.length G (YPair (fun i => some (.int (i : Nat))) (fun i => us[i]?))) (hG : ∀ F H, Same F1 F → Same F H → G H) (h : VRs Γ.K Γ.C F1 xs us) : WalkV Γ J (enumV 0 xs) F1 := by
  have len : (enumV 0 xs).length = us.length := by
    rw [h.length]
    generalize (0 : Nat) = k
    clear h w
    induction xs generalizing k with
    | nil => rfl
    | cons x xs ih => simp [enumV, ih]
  have at_ : ∀ i v, xs[i]? = some v → (enumV 0 xs)[i]? = some (Val.tup [.int (i : Nat), v]) := by
    have g : ∀ (xs : List Val) (k i : Nat) (v : Val), xs[i]? = some v → (enumV k xs)[i]? = some (Val.tup [.int ((k + i : Nat) : Int), v]) := by
      intro xs
      induction xs with
      | nil => intro k i v h; simp at h
      | cons x xs ih =>
        intro k i v h
        cases i with
        | zero => simp at h; subst h; simp [enumV]
        | succ i =>
          have := ih (k + 1) i v (by simpa using h)
          rw [show k + 1 + i = k + (i + 1) by omega] at this
          simpa [enumV] using this
    intro i v h
    have := g xs 0 i v h
    rwa [Nat.zero_add] at this
  unfold WalkV
  rw [len]
  refine ⟨fun i H hi ⟨F, s1, s2⟩ => w.goes i H hi (hG F H s1 s2), fun H ⟨F, s1, s2⟩ => w.stops H (hG F H s1 s2), fun i H x H' hi ⟨F, s1, s2⟩ y F2 t1 t2 => ?_⟩
  obtain ⟨T, x1, y1, rfl, hT, rfl, hx, hy⟩ := w.yields i H x H' hi (hG F H s1 s2) y
  cases hx
  obtain ⟨v, hv, r⟩ := h.get' hy
  have g := Grow.alloc (o := .tup [.int (i : Nat), y1]) t2 hT
  exact ⟨_, _, at_ i v hv, g, .tup (.inl (.inl upd_same)) (.cons (.int _) (.cons ((r.mono t1).mono g.ff) .nil))⟩
theorem si_enumT {elts : List Expr} {kk : Nat} (hx : sc.names.lookup ("enumerate" : Str) = some .globalImplicit) (hf : SV Γ sc a f) (hs : ∀ env, starEach [a] env = [(false, eval a env)] := by intro _; rfl) : SI Γ sc (.Tuple elts kk tpos) (.Call (.Name "enumerate" p) [a] [] pos) (wEnumT f) := by
  intro n X cx W tk en e σ F H r R P
  refine ji (pi_enumTup (cx.gl hx) (by rw [cx.mg]; exact cx.nb _ (by decide)) (pa_cons JE.pe pa_nil (by rw [hs]; rfl)) (hs _)) ?_
  refine hf cx tk r (Post.seq P fun v e1 u F1 H1 s1 r1 t1 P1 => ?_)
  cases t1 with
  | @tup q us vs h hv =>
    refine ⟨q, us, rfl, by rw [cx.K]; exact sqT_mono r1.sub h, P1.ok _ F1 H1 (Same.refl _) r1 ?_⟩
    rw [cx.K]
    exact walkV_pair walk_enumTup (fun F H s1 s2 => sqT_mono s2 (sqT_mono s1 h)) hv
  | lst _ _ => exact P1.elim
  | non => exact P1.elim
  | int _ => exact P1.elim
  | bl _ => exact P1.elim
  | str _ => exact P1.elim
  | dct _ _ => exact P1.elim
  | obj _ _ _ _ => exact P1.elim
  | scr _ => exact P1.elim
theorem si_enum {elts : List Expr} {kk : Nat} (hx : sc.names.lookup ("enumerate" : Str) = some .globalImplicit) (hf : SV Γ sc a f) (hs : ∀ env, starEach [a] env = [(false, eval a env)] := by intro _; rfl) : SI Γ sc (.Tuple elts kk tpos) (.Call (.Name "enumerate" p) [a] [] pos) (wEnum f) := by
  intro n X cx W tk en e σ F H r R P
  refine ji (pi_enum (cx.gl hx) (by rw [cx.mg]; exact cx.nb _ (by decide)) (pa_cons JE.pe pa_nil (by rw [hs]; rfl)) (hs _)) ?_
  refine hf cx tk r (Post.seq P fun v e1 u F1 H1 s1 r1 t1 P1 => ?_)
  cases t1 with
  | @lst q us vs h hv =>
    refine ⟨q, us, rfl, SqL.of (r1.sub _ _ h), P1.ok _ F1 H1 (Same.refl _) r1 ?_⟩
    rw [cx.K]
    exact walkV_pair walk_enum (fun F H s1 s2 => SqL.of (s2 _ _ (s1 _ _ h))) hv
  | tup _ _ => exact P1.elim
  | non => exact P1.elim
  | int _ => exact P1.elim
  | bl _ => exact P1.elim
  | str _ => exact P1.elim
  | dct _ _ => exact P1.elim
  | obj _ _ _ _ => exact P1.elim
  | scr _ => exact P1.elim
def wEnumA (f : M Val) : M (List Val) := fun cl e => (f cl e).bind fun a e1 => match a with
  | .lst xs => .ok (enumV 0 xs) e1
  | .tup xs => .ok (enumV 0 xs) e1
  | _ => .no
theorem si_enumA {elts : List Expr} {kk : Nat} (hx : sc.names.lookup ("enumerate" : Str) = some .globalImplicit) (hf : SV Γ sc a f) (hs : ∀ env, starEach [a] env = [(false, eval a env)] := by intro _; rfl) : SI Γ sc (.Tuple elts kk tpos) (.Call (.Name "enumerate" p) [a] [] pos) (wEnumA f) := by
  intro n X cx W tk en e σ F H r R P
  cases hr : f (callN Γ.G n) e with
  | no => simp only [wEnumA, hr] at P; exact P.elim
  | exc c fs e1 =>
    simp only [wEnumA, hr] at P
    exact si_enum hx hf hs cx tk r (by simp only [wEnum, hr]; exact P)
  | ok v e1 =>
    simp only [wEnumA, hr] at P
    cases v with
    | lst xs => exact si_enum hx hf hs cx tk r (by simp only [wEnum, hr]; exact P)
    | tup xs => exact si_enumT hx hf hs cx tk r (by simp only [wEnumT, hr]; exact P)
    | _ => exact P.elim
end
end CG
end
section
set_option Elab.async false
set_option linter.all false
set_option maxRecDepth 100000
set_option autoImplicit false
/-! CG21: raise with two fields. -/
namespace CG
open PySem PySem.Spec L2
section
variable {Γ : GX} {sc : Sc} {fr : Bool} {pos p p2 : Pos} {a b : Expr} {m k : M Val}
theorem ss_raise2 {x f g : Str} (hx : sc.names.lookup x = some .globalImplicit) (hr : ExcOk2 Γ x f g) (ha : SV Γ sc a m) (hk : SV Γ sc b k) (hdb : (x == ("__debug__" : Str)) = false := by decide)
    (he : ∀ env, starEach [a, b] env = (false, eval a env) :: starEach [b] env := by intro _; rfl) (he2 : ∀ env, starEach [b] env = (false, eval b env) :: starEach [] env := by intro _; rfl) (hpl : ∀ env, (backTo p2 (starEach [b] env)).any (·.1) = false := by intro _; rfl) :
    SS Γ sc fr (.Raise (some (.Call (.Name x p) [a, b] [] p2)) none pos) (sRaise2 x f g m k) := by
  intro n X cx sx W tk en e σ F H r D P
  obtain ⟨Ca, fI, fd, ps, h1, h2, T, iC, tI, Fo, hb⟩ := hr.ex
  rw [← cx.prog, ← cx.w, ← cx.K, ← cx.mg, ← cx.base] at Fo
  rw [← cx.K] at T iC tI hb
  refine js (ps_raise cx.calm tk (pmk_oex (CX := CX0) T iC tI Fo (cx.room.mono (by omega)) hb .nil (fun _ _ _ _ _ _ _ h => h.elim) (cx.gl hx) (by rw [cx.mg]; exact h2) (pa_cons JE.pe (pa_cons JE.pe pa_nil (he2 _)) (he _)) hdb (he _) (hpl _))) ?_
  refine ha cx tk r (PostS.toS P fun v e1 u F1 H1 s1 r1 t1 P1 => hk cx tk r1 (PostS.toS P1 fun w e2 u2 F2 H2 s2 r2 t2 P2 => ?_))
  refine ⟨by simp, fun q hq => ⟨q, u, u2, rfl, upd_same, fun d nd ne => ⟨rfl, d, [(g, u2), (f, u)], ?_, upd_same, ?_, ?_⟩⟩⟩
  · rw [L2.upd_ne (Ne.symm ne)]; exact upd_same
  · rw [L2.upd_ne ne] at nd; exact nd
  · rw [L2.upd_ne ne] at nd
    have e1 : upd (del (upd (upd (upd (upd H2 q (exo q Ca none)) d (exd d [(f, u)])) q (exo q Ca (some d))) d (exd d [(g, u2), (f, u)])) q) d (.xd [(g, u2), (f, u)]) = upd H2 d (.xd [(g, u2), (f, u)]) := by
      funext z
      by_cases hz : z = d
      · subst hz; rw [upd_same, upd_same]
      · rw [L2.upd_ne hz, L2.upd_ne hz]
        by_cases hq' : z = q
        · subst hq'; rw [del_same, hq]
        · rw [del_ne hq', L2.upd_ne hz, L2.upd_ne hq', L2.upd_ne hz, L2.upd_ne hq']
    rw [e1]
    have t1 : VR Γ.K Γ.C F1 v u := t1
    exact P2 (.ref Ca) (some d) σ F2 _ (Same.refl _) (r2.grow (Grow.allocH r2.sub nd)) ⟨Ca, h1, rfl, .inr ⟨d, [(g, u2), (f, u)], rfl, upd_same, .cons t2 (.cons (t1.mono s2) .nil)⟩⟩
end
end CG
end
section
set_option Elab.async false
set_option linter.all false
set_option maxRecDepth 100000
set_option autoImplicit false
/-! CG22: properties that hand out a field. -/
namespace CG
open PySem PySem.Spec L2
section
variable {Γ : GX} {sc : Sc} {fr : Bool} {pos p p2 : Pos} {a b : Expr} {f g : M Val}
def propV (c x : Str) : Val → Option Val
  | .obj c' fs => if c' = c then fs.lookup x else none
  | _ => none
/-- the class c has the property y that hands out the field x -/
structure PropOk (Γ : GX) (c y x : Str) : Prop where
  ex : ∃ Ca pa ga fd, Γ.C c = some Ca ∧ Cls Γ.K Ca ∧ PropOf Γ.K Ca y pa ga ∧ FnOk Γ.P Γ.w Γ.K Γ.mg Γ.base CX0 1 ga fd ["self"] (getSp Ca x) ∧ Binds Γ.K fd ["self"] []
theorem sv_prop {c y x : Str} (ok : PropOk Γ c y x) (ha : SV Γ sc a f) (hb : ∀ env, attributeBase a y env (eval a env) = eval a env := by intro _; rfl) : SV Γ sc (.Attribute a y pos) (mUn (propV c x) f) := by
  intro n X cx W tk en e σ F H r Q P
  obtain ⟨Ca, pa, ga, fd, hc, cl, po, fo, bi⟩ := ok.ex
  rw [← cx.prog, ← cx.w, ← cx.K, ← cx.mg, ← cx.base] at fo
  rw [← cx.K] at cl po bi
  refine je (pe_prop (E := E0) JE.pe cl po fo (cx.room.mono (by omega)) bi .nil (fun _ _ _ _ _ _ _ h => h.elim) (hb _)) ?_
  refine ha cx tk r (Post.seq P fun v e1 u F1 H1 s1 r1 t1 P1 => ?_)
  obtain ⟨z, hz, q⟩ := P1.ret
  cases t1 with
  | @obj q0 dx c' Cb fus fs hcb h1 h2 hfs =>
    have hz : (if c' = c then fs.lookup x else none) = some z := hz
    by_cases hcc : c' = c
    · subst hcc
      rw [if_pos rfl] at hz
      rw [hc] at hcb; cases hcb
      obtain ⟨w, hw, vw⟩ := hfs.lookup hz
      exact ⟨q0, dx, fus, rfl, r1.sub _ _ h1, q0, dx, fus, w, rfl, r1.sub _ _ h1, hw, q _ F1 H1 (Same.refl _) r1 vw⟩
    · rw [if_neg hcc] at hz; cases hz
  | lst _ _ => cases hz
  | tup _ _ => cases hz
  | non => cases hz
  | int _ => cases hz
  | bl _ => cases hz
  | str _ => cases hz
  | dct _ _ => cases hz
  | scr _ => cases hz
end
end CG
end
section
set_option Elab.async false
set_option linter.all false
set_option maxRecDepth 100000
set_option autoImplicit false
/-! CG23: the lists of neighbours that a field makes of its ties. -/
namespace CG
open PySem PySem.Spec L2
/-- row i gets j behind it -/
def addRow (rows : List (List Int)) (i j : Int) : Option (List (List Int)) :=
  if 0 ≤ i ∧ i.toNat < rows.length ∧ (rows.getD i.toNat []).length < line then some (rows.set i.toNat (rows.getD i.toNat [] ++ [j])) else none
def nearGo : List Val → List (List Int) → Option (List (List Int))
  | [], rows => some rows
  | .tup [.int i, .int j] :: r, rows => (addRow rows i j).bind fun r1 => (addRow r1 j i).bind fun r2 => nearGo r r2
  | _, _ => none
def rowsV (rows : List (List Int)) : Val := .lst (rows.map fun r => .lst (r.map .int))
def sNear (s m t q o1 o2 : Nat) : S := fun _ e => match e[s]?, e[m]?, e[t]? with
  | some (some (.obj c fs)), some (some (.int n)), some (some (.tup ts)) => if small n ∧ n.toNat ≤ line ∧ fs.length < 1000 ∧ o1 < e.length ∧ o2 < e.length then (match nearGo ts (List.replicate n.toNat []) with
    | some rows => .next (((e.set s (some (.obj c (putFV "near" (rowsV rows) fs)))).set o1 none).set o2 none)
    | none => .no) else .no
  | _, _, _ => .no
theorem addr_ix {N : List Addr} (hN : N.Nodup) {i j : Nat} {x : Addr} (a : N[i]? = some x) (b : N[j]? = some x) : i = j := by
  have hi := (List.getElem?_eq_some_iff.mp a).1
  exact (List.getElem?_inj hi hN).mp (a.trans b.symm)
/-- the new lists in the heap: D holds the refs ps, each of which holds its row; all else as in H0 -/
structure Rows (H0 H : Hp) (D : Addr) (ps : List Addr) (rows : List (List Int)) : Prop where
  len : ps.length = rows.length
  nd : ps.Nodup
  dn : D ∉ ps
  d0 : H0 D = none
  p0 : ∀ p ∈ ps, H0 p = none
  hD : H D = some (.lst (ps.map V.ref))
  hp : ∀ (i : Nat) (p : Addr) (r : List Int), ps[i]? = some p → rows[i]? = some r → H p = some (.lst (r.map V.int))
  rest : ∀ q, q ≠ D → q ∉ ps → H q = H0 q
theorem Rows.push {H0 H : Hp} {D : Addr} {ps : List Addr} {n : Nat} {p : Addr} (R : Rows H0 H D ps (List.replicate n [])) (hp : H p = none) : Rows H0 (upd (upd H p (.lst [])) D (.lst ((ps ++ [p]).map V.ref))) D (ps ++ [p]) (List.replicate (n + 1) []) := by
  have hpD : p ≠ D := by rintro rfl; rw [R.hD] at hp; cases hp
  have hpp : p ∉ ps := fun hm => by
    obtain ⟨i, hi⟩ := List.getElem?_of_mem hm
    have hl : i < n := by have := R.len; simp at this; have := (List.getElem?_eq_some_iff.mp hi).1; omega
    have := R.hp i p [] hi (by simp [hl])
    rw [this] at hp; cases hp
  refine ⟨by have := R.len; simp at this ⊢; omega, ?_, ?_, R.d0, fun q hq => ?_, upd_same, fun i q r h1 h2 => ?_, fun q h1 h2 => ?_⟩
  · rw [List.nodup_append]
    exact ⟨R.nd, by simp, fun a ha b hb => by simp at hb; subst hb; rintro rfl; exact hpp ha⟩
  · simp [R.dn, Ne.symm hpD]
  · rcases List.mem_append.mp hq with hq | hq
    · exact R.p0 q hq
    · have := List.mem_singleton.mp hq; subst this
      rw [← R.rest q hpD hpp]; exact hp
  · have hl := R.len
    simp at hl
    have hr : r = [] := by
      rw [List.getElem?_replicate] at h2
      split at h2 <;> cases h2
      rfl
    subst hr
    by_cases hi : i < ps.length
    · rw [List.getElem?_append_left hi] at h1
      have hq := List.mem_of_getElem? h1
      rw [L2.upd_ne (by rintro rfl; exact R.dn hq), L2.upd_ne (by rintro rfl; exact hpp hq)]
      exact R.hp i q [] h1 (List.getElem?_replicate_of_lt (by omega))
    · rw [List.getElem?_append_right (by omega)] at h1
      have : i - ps.length = 0 := by
        rcases Nat.eq_zero_or_pos (i - ps.length) with h | h
        · exact h
        · rw [List.getElem?_eq_none (by simp; omega)] at h1; cases h1
      rw [this] at h1
      simp at h1
      subst h1
      rw [L2.upd_ne hpD]; exact upd_same
  · rw [L2.upd_ne h1, L2.upd_ne (fun z => h2 (by simp [z]))]
    exact R.rest q h1 fun z => h2 (List.mem_append_left _ z)
theorem Rows.app {H0 H : Hp} {D : Addr} {ps : List Addr} {rows rows' : List (List Int)} {i j : Int} (R : Rows H0 H D ps rows) (h : addRow rows i j = some rows') :
    0 ≤ i ∧ i.toNat < ps.length ∧ (rows.getD i.toNat []).length < line ∧ ∃ p, ps[i.toNat]? = some p ∧ H p = some (.lst ((rows.getD i.toNat []).map V.int)) ∧ Rows H0 (upd H p (.lst ((rows.getD i.toNat []).map V.int ++ [.int j]))) D ps rows' := by
  unfold addRow at h
  split at h
  · rename_i hc
    obtain ⟨h0, h1, h2⟩ := hc
    cases h
    have hl : i.toNat < ps.length := by rw [R.len]; exact h1
    have hp : ps[i.toNat]? = some ps[i.toNat] := List.getElem?_eq_getElem hl
    have hr : rows[i.toNat]? = some (rows.getD i.toNat []) := by rw [List.getD_eq_getElem?_getD, List.getElem?_eq_getElem h1]; rfl
    have hm := List.mem_of_getElem? hp
    have hpD : ps[i.toNat] ≠ D := fun z => R.dn (z ▸ hm)
    refine ⟨h0, hl, h2, ps[i.toNat], hp, R.hp _ _ _ hp hr, ⟨by rw [List.length_set]; exact R.len, R.nd, R.dn, R.d0, R.p0, ?_, fun k q r hk hr' => ?_, fun q hq1 hq2 => ?_⟩⟩
    · rw [L2.upd_ne (Ne.symm hpD)]; exact R.hD
    · by_cases hki : k = i.toNat
      · subst hki
        rw [hp] at hk; cases hk
        rw [List.getElem?_set_self h1] at hr'
        cases hr'
        rw [upd_same]; simp
      · rw [List.getElem?_set_ne (Ne.symm hki)] at hr'
        have hq : q ≠ ps[i.toNat] := fun z => hki (addr_ix R.nd hk (by rw [z]; exact hp))
        rw [L2.upd_ne hq]
        exact R.hp k q r hk hr'
    · rw [L2.upd_ne (fun z => hq2 (by rw [z]; exact hm))]
      exact R.rest q hq1 hq2
  · cases h
end CG
end
section
set_option Elab.async false
set_option linter.all false
set_option maxRecDepth 100000
set_option autoImplicit false
/-! CG24: dict comprehensions of two clauses. -/
namespace CG
open PySem PySem.Spec L2
abbrev dcE2 (kx vx ta ia tb ib : Expr) (fa fb : List Expr) (scope : Scope) (pos : Pos) : Expr := .DictComp kx vx [⟨ta, ia, fa, 0⟩, ⟨tb, ib, fb, 0⟩] scope pos
theorem turnD_out (kx vx ta ia tb ib : Expr) (fa fb : List Expr) (scope : Scope) (pos : Pos) (it acc : Value) (env : PySem.Env) : compTurn (dcE2 kx vx ta ia tb ib fa fb scope pos) 0 it acc env = (do
    standAt ia.pos
    match ← pyNext it with
    | none => pure (.done .next)
    | some v =>
      letOwnedTupleGo ta it v
      assign ta env v
      let mut ok := true
      for c in fa do
        if ok then ok ← isTrue c env (eval c env)
      if ok then
        let x ← eval ib env
        standAt ib.pos
        let x ← foldedSetIterable ib env x
        let _ ← runOwn (.compStart (dcE2 kx vx ta ia tb ib fa fb scope pos) 1 (← holding [x] (pyIter x)) acc env) env
      again (.compLoop (dcE2 kx vx ta ia tb ib fa fb scope pos) 0 it acc env)) := by rfl
theorem turnD_in (kx vx ta ia tb ib : Expr) (fa fb : List Expr) (scope : Scope) (pos : Pos) (it : Value) (D : Addr) (env : PySem.Env) : compTurn (dcE2 kx vx ta ia tb ib fa fb scope pos) 1 it (.ref D) env = (do
    standAt ib.pos
    match ← pyNext it with
    | none => pure (.done .next)
    | some v =>
      letOwnedTupleGo tb it v
      assign tb env v
      let mut ok := true
      for c in fb do
        if ok then ok ← isTrue c env (eval c env)
      if ok then
        (do
          let kv ← eval kx env
          let vv ← holding [kv] (eval vx env)
          standAt { kx.pos with endLine := vx.pos.endLine, endCol := vx.pos.endCol }
          holding [kv, vv] (dictSet D kv vv))
      again (.compLoop (dcE2 kx vx ta ia tb ib fa fb scope pos) 1 it (.ref D) env)) := by rfl
section
variable {prog : Program} {w : World} {A : Around} {R : Result → Shared → Prop} {s : Shared} {kx vx ta ia tb ib : Expr} {fa fb : List Expr} {scope : Scope} {pos : Pos} {it acc : Value} {env : PySem.Env} {D : Addr}
abbrev NB (prog : Program) (w : World) (A : Around) (env : PySem.Env) (R : Result → Shared → Prop) : Value → Shared → Prop := notedBy (model prog w) A env fun e s' => R (.error e) s'
abbrev ifsOf (fs : List Expr) (env : PySem.Env) : Sem Bool := forIn fs true fun c r => if r = true then do let ok ← isTrue c env (eval c env); pure (ForInStep.yield ok) else pure (ForInStep.yield r)
theorem loopD_out (hs : ∀ x, foldedSetIterable ib env x = pure x) (I : Nat → Shared → Prop)
    (turn : ∀ n s, I n s → wpAny (model prog w) A (pyNext it) (fun r s1 => match r with
      | none => R (.ok .next) s1
      | some v => wpAny (model prog w) A (letOwnedTupleGo ta it v) (fun _ s2 => wpAny (model prog w) A (assign ta env v) (fun _ s3 => wpAny (model prog w) A (ifsOf fa env) (fun ok s4 =>
            if ok = true then wpAny (model prog w) A (eval ib env) (fun x s5 => wpAny (model prog w) A (pyIter x) (fun it1 s6 => codeAny (model prog w) A (.compStart (dcE2 kx vx ta ia tb ib fa fb scope pos) 1 it1 acc env) (fun r s' => match r with
                | .ok _ => ∃ m, m < n ∧ I m s'
                | .error _ => False) s6) (NB prog w A env R) s5) (NB prog w A env R) s4
            else ∃ m, m < n ∧ I m s4) (NB prog w A env R) s3) (NB prog w A env R) s2) (NB prog w A env R) s1) (NB prog w A env R) s)
    (n : Nat) (h : I n s) : codeAny (model prog w) A (.compLoop (dcE2 kx vx ta ia tb ib fa fb scope pos) 0 it acc env) R s := by
  refine codeAny_loop rfl I (fun n s hI => ?_) n h
  show wpAny _ A ((compTurn (dcE2 kx vx ta ia tb ib fa fb scope pos) 0 it acc env).onRaise (fun x => do noteFrame x env; theTreesLotGoes x)) _ _ s
  refine wpAny_noted ?_
  rw [turnD_out]
  refine wpAny_bind (wpAny_standAt (wpAny_bind (wpAny_mono (turn n s hI) (fun r s1 h1 => ?_) fun _ _ q => q)))
  match r, h1 with
  | none, h1 => exact wpAny_pure h1
  | some v, h1 =>
    refine wpAny_bind (wpAny_mono h1 (fun _ s2 h2 => wpAny_bind (wpAny_mono h2 (fun _ s3 h3 => wpAny_bind (wpAny_mono h3 (fun ok s4 h4 => ?_) fun _ _ q => q)) fun _ _ q => q)) fun _ _ q => q)
    match ok, h4 with
    | false, h4 => exact wpAny_pure ⟨rfl, h4⟩
    | true, h4 =>
      refine wpAny_bind (wpAny_mono h4 (fun x s5 h5 => wpAny_bind (wpAny_standAt (wpAny_bind (wpAny_of_eq (hs x) (wpAny_bind (wpAny_holding (wpAny_mono h5 (fun it1 s6 h6 => ?_) fun _ _ q => q))))))) fun _ _ q => q)
      refine wpAny_bind (wpAny_runOwn ?_)
      rw [Around.mark_none]
      refine codeAny_mono h6 fun r s' hr => ?_
      match r, hr with
      | .ok f, hr => first | exact wpAny_pure ⟨rfl, hr⟩ | exact wpAny_bind (wpAny_pure (wpAny_pure ⟨rfl, hr⟩))
      | .error e, hr => exact hr.elim
theorem loopD_in (I : Nat → Shared → Prop)
    (turn : ∀ n s, I n s → wpAny (model prog w) A (pyNext it) (fun r s1 => match r with
      | none => R (.ok .next) s1
      | some v => wpAny (model prog w) A (letOwnedTupleGo tb it v) (fun _ s2 => wpAny (model prog w) A (assign tb env v) (fun _ s3 => wpAny (model prog w) A (ifsOf fb env) (fun ok s4 =>
            if ok = true then wpAny (model prog w) A (eval kx env) (fun kv s5 => wpAny (model prog w) A (eval vx env) (fun vv s6 => wpAny (model prog w) A (dictSet D kv vv) (fun _ s7 => ∃ m, m < n ∧ I m s7) (NB prog w A env R) s6) (NB prog w A env R) s5) (NB prog w A env R) s4
            else ∃ m, m < n ∧ I m s4) (NB prog w A env R) s3) (NB prog w A env R) s2) (NB prog w A env R) s1) (NB prog w A env R) s)
    (n : Nat) (h : I n s) : codeAny (model prog w) A (.compLoop (dcE2 kx vx ta ia tb ib fa fb scope pos) 1 it (.ref D) env) R s := by
  refine codeAny_loop rfl I (fun n s hI => ?_) n h
  show wpAny _ A ((compTurn (dcE2 kx vx ta ia tb ib fa fb scope pos) 1 it (.ref D) env).onRaise (fun x => do noteFrame x env; theTreesLotGoes x)) _ _ s
  refine wpAny_noted ?_
  rw [turnD_in]
  refine wpAny_bind (wpAny_standAt (wpAny_bind (wpAny_mono (turn n s hI) (fun r s1 h1 => ?_) fun _ _ q => q)))
  match r, h1 with
  | none, h1 => exact wpAny_pure h1
  | some v, h1 =>
    refine wpAny_bind (wpAny_mono h1 (fun _ s2 h2 => wpAny_bind (wpAny_mono h2 (fun _ s3 h3 => wpAny_bind (wpAny_mono h3 (fun ok s4 h4 => ?_) fun _ _ q => q)) fun _ _ q => q)) fun _ _ q => q)
    match ok, h4 with
    | false, h4 => exact wpAny_pure ⟨rfl, h4⟩
    | true, h4 =>
      exact wpAny_bind (wpAny_bind (wpAny_mono h4 (fun kv s5 h5 => wpAny_bind (wpAny_holding (wpAny_mono h5 (fun vv s6 h6 => wpAny_bind (wpAny_standAt (wpAny_holding (wpAny_mono h6 (fun _ s7 h7 => wpAny_pure ⟨rfl, h7⟩) fun _ _ q => q)))) fun _ _ q => q))) fun _ _ q => q))
theorem startD1_ok (h0 : codeAny (model prog w) A (.compLoop (dcE2 kx vx ta ia tb ib fa fb scope pos) 1 it acc env) R s)
    (h : wpAny (model prog w) A (pyIter it) (fun it' s' => codeAny (model prog w) A (.compLoop (dcE2 kx vx ta ia tb ib fa fb scope pos) 1 it' acc env) R s') (NB prog w A env R) s) : codeAny (model prog w) A (.compStart (dcE2 kx vx ta ia tb ib fa fb scope pos) 1 it acc env) R s := by
  refine codeAny_of_tree ?_
  show wpAny _ _ ((compStart (dcE2 kx vx ta ia tb ib fa fb scope pos) 1 it acc env).onRaise (fun x => do noteFrame x env; standAt theWindowsPlace)) _ _ s
  refine wpAny_notedAt ?_
  unfold compStart
  show wpAny _ _ (ask >>= _) _ _ s
  refine wpAny_bind (wpAny_askSetting (wpAny_ite ?_))
  split
  · first | exact wpAny_bind (wpAny_pure (wpAny_pure ⟨rfl, h0⟩)) | exact wpAny_pure ⟨rfl, h0⟩
  · first
      | exact wpAny_bind (wpAny_rule (wpAny_bind (wpAny_standAt (wpAny_bind (wpAny_mono h (fun _ _ q => wpAny_pure ⟨rfl, q⟩) fun _ _ x => x)))))
      | (refine wpAny_bind (wpAny_rule ?_); show wpAny _ _ (standAt ib.pos >>= _) _ _ s; exact wpAny_bind (wpAny_standAt (wpAny_bind (wpAny_mono h (fun _ _ q => wpAny_pure ⟨rfl, q⟩) fun _ _ x => x))))
end
section
variable {X : Cx}
/-- the walk of a dict comprehension of two clauses -/
def tDc2 (wi : TI) (g : TG) (tt : TT) (wi1 : TI) (g1 : TG) (tt1 : TT) (tk tv : TE) (vs vs1 : List Nat) : TE := fun σ H Q => wi σ H fun J H1 => ∀ D, H1 D = none → ∃ W : Nat → Nat → Hp → Prop, (∃ m, W 0 m (upd H1 D (.dK []))) ∧ ∀ i m H, W i m H →
  (J.stop i H ∧ Q (.ref D) H) ∨ (J.go i H ∧ ∃ Nx : Hp → Prop, (∀ H', Nx H' → ∃ m', m' < m ∧ W (i + 1) m' H') ∧ ∀ x H', J.yld i H x H' → g x (wipe σ vs) H' fun σ2 H2 => wipe σ2 vs = wipe σ vs ∧ tt σ2 H2 fun b H3 =>
    if b = true then wi1 σ2 H3 fun J1 H4 => ∃ W1 : Nat → Nat → Hp → Prop, (∃ m, W1 0 m H4) ∧ ∀ j k H, W1 j k H → (J1.stop j H ∧ Nx H) ∨ (J1.go j H ∧ ∃ Nx1 : Hp → Prop, (∀ H', Nx1 H' → ∃ k', k' < k ∧ W1 (j + 1) k' H') ∧ ∀ x H', J1.yld j H x H' → g1 x (wipe σ2 vs1) H' fun σ3 H5 => wipe σ3 vs1 = wipe σ2 vs1 ∧ tt1 σ3 H5 fun b H6 =>
        if b = true then tk σ3 H6 fun y H7 => tv σ3 H7 fun z H8 => ∃ kvs k, y = kV k ∧ H8 D = some (.dK kvs) ∧ kvs.length < sizeLine ∧ Nx1 (upd H8 D (.dK (L2.putK kvs k z))) else Nx1 H6)
    else Nx H3)
abbrev inBlk {α : Sort 1} (P : Cx → α → Prop) (X : Cx) (scope : Scope) (t : α) : Prop := ∀ (s : Shared) (H : Hp) (C : Addr) (cl : List (Str × Addr)) (fp : List Addr), P (X.blk s H scope (compEnvC scope cl C X.env) fp) t
theorem pe_dc2 {kx vx ta ia tb ib : Expr} {fa fb : List Expr} {scope : Scope} {own : List (Str × Nat)} {vs1 : List Nat} {pos : Pos} {wi wi1 : TI} {g g1 : TG} {tt tt1 : TT} {tk tv : TE} (hc : X.calm = true) (hN : X.N.Nodup) (hi : PI X ta ia wi) (ok : BlkOk X.N X.env.scope scope own) (hv : ∀ i ∈ vs1, i ∈ own.map (·.2))
    (hg : inBlk (fun X => PG X ta) X scope g) (ht : inBlk (fun X => PTs X fa) X scope tt) (hi1 : inBlk (fun X => PI X tb ib) X scope wi1) (hg1 : inBlk (fun X => PG X tb) X scope g1) (ht1 : inBlk (fun X => PTs X fb) X scope tt1) (hk : inBlk (fun X => PE X kx) X scope tk) (he : inBlk (fun X => PE X vx) X scope tv)
    (hs : ∀ x, foldedSetIterable ia X.env x = pure x := by intro _; rfl) (hs1 : ∀ env x, foldedSetIterable ib env x = pure x := by intro _ _; rfl) :
    PE X (dcE2 kx vx ta ia tb ib fa fb scope pos) (tDc2 wi g tt wi1 g1 tt1 tk tv (own.map (·.2)) vs1) := by
  refine ⟨fun pins s σ H Q I h => ?_⟩
  rw [arm_eval_DictComp]
  have fr : ∀ y ∈ scope.names, y.2 = .free → ∃ c, X.env.cells.lookup y.1 = some c := fun y hy e => (ok.free y hy e).elim (fun k => I.ok.has _ (.inl k)) fun k => I.ok.has _ (.inr k)
  refine wpAny_comprehension_free (use := none) rfl hs (closure_ok fr) ok.kind (fun y hy e => by rw [ok.uniq y hy, e]) (thn (hi.run pins s σ H _ I h) fun xv s1 hx => thn hx fun itv s2 h2 => ?_)
  obtain ⟨it, fp, tn, J, H2, e, I2, T, st2, f2, q⟩ := h2
  subst e
  refine wpAny_newObj_type (newEnv_comp ?_)
  generalize hD : s2.heap.objs.size = D
  obtain ⟨W, ⟨m0, w0⟩, turn⟩ := q D (I2.hok.fresh (Nat.le_of_eq hD))
  generalize hs3 : ({ s2 with heap := s2.heap.push { cls := .type "dict", data := .dict #[] } } : Shared) = s3
  have I3 : Inv X pins σ (upd H2 D (.dK [])) s3 := by
    subst hs3 hD
    exact I2.laid (t' := s2.toks) (fun b o e => Heap.get?_push_of_some _ e) (Nat.le_refl _) (dk_empty s2.heap I2.big)
  have h3 : s3.heap = s2.heap.push { cls := .type "dict", data := .dict #[] } := by rw [← hs3]
  have f3 : ∀ b ∈ fp, FpOk X pins (upd H2 D (.dK [])) b ∧ b < s3.heap.objs.size := fun b hb => by
    obtain ⟨o, e, _⟩ := T.obj _ _ st2 b hb
    have lt := Heap.lt_size e
    exact ⟨⟨(upd_ne (by rw [← hD]; exact Nat.ne_of_lt lt)).trans (f2 b hb).1, (f2 b hb).2⟩, by rw [h3, Heap.size_push]; exact Nat.lt_succ_of_lt lt⟩
  have st3 : tn 0 s3.heap := T.keep _ _ _ st2 fun b _ o e => by rw [h3]; exact Heap.get?_push_of_some _ e
  have I4 := block_start I3 ok hN f3
  generalize hcl : cellsFrom (s3.heap.objs.size + 1) scope.names (cloFrom X.env.cells scope.names []) = cl at I4
  have pg := hg s3 (upd H2 D (.dK [])) s3.heap.objs.size cl fp
  have pt := ht s3 (upd H2 D (.dK [])) s3.heap.objs.size cl fp
  have pk := hk s3 (upd H2 D (.dK [])) s3.heap.objs.size cl fp
  have pe := he s3 (upd H2 D (.dK [])) s3.heap.objs.size cl fp
  have pi1 := hi1 s3 (upd H2 D (.dK [])) s3.heap.objs.size cl fp
  have pg1 := hg1 s3 (upd H2 D (.dK [])) s3.heap.objs.size cl fp
  have pt1 := ht1 s3 (upd H2 D (.dK [])) s3.heap.objs.size cl fp
  show codeAny _ _ (.compStart (dcE2 kx vx ta ia tb ib fa fb scope pos) 0 (.ref it) (.ref D) (compEnvC scope cl s3.heap.objs.size X.env)) (compPost (model X.prog X.w) X.A X.xe none (EP X pins σ Q) (.ref D) s3.heap.objs.size) { s3 with heap := pushCells (s3.heap.push { cls := .type "dict", data := .dict #[] }) scope.names }
  have nfp : ∀ b ∈ fp, (upd H2 D (.dK [])) b = none := fun b hb => (f3 b hb).1.1
  generalize hce : compEnvC scope cl s3.heap.objs.size X.env = ce at I4 pg pt pk pe pi1 pg1 pt1 ⊢
  have cL : ce.locals = s3.heap.objs.size := by subst hce; rfl
  generalize hH3 : upd H2 D (.dK []) = H3 at I3 I4 pg pt pk pe pi1 pg1 pt1 w0 nfp f3
  generalize hs4 : ({ s3 with heap := pushCells (s3.heap.push { cls := .type "dict", data := .dict #[] }) scope.names } : Shared) = s4 at I4 ⊢
  have st4 : tn 0 s4.heap := T.keep _ _ _ st3 fun b _ o e => by rw [← hs4]; exact pushCells_keeps _ _ _ _ (Heap.get?_push_of_some _ e)
  have stat : ∀ {σ' : L2.St} {H' : Hp} {s' : Shared}, Inv (X.blk s3 H3 scope ce fp) [] σ' H' s' → (∀ b ∈ fp, H' b = none) → ∀ b ∈ fp, FpOk (X.blk s3 H3 scope ce fp) [] H' b := fun {σ' H' s'} I' hn b hb =>
    ⟨hn b hb, (I'.ok.exf b hb).1, I'.ok.exfs b hb, .inl hb, fun x c e => (I'.ok.exf b hb).2 x c e, fun p hp => absurd (show p ∈ ([] : List (Addr × Obj)) ++ [] from hp) (by simp)⟩
  have loop : codeAny (model X.prog X.w) X.A (.compLoop (dcE2 kx vx ta ia tb ib fa fb scope pos) 0 (.ref it) (.ref D) ce) (compPost (model X.prog X.w) X.A X.xe none (EP X pins σ Q) (.ref D) s3.heap.objs.size) s4 := by
    refine loopD_out (hs1 ce) (fun n s' => ∃ i H', Inv (X.blk s3 H3 scope ce fp) [] (wipe σ (own.map (·.2))) H' s' ∧ tn i s'.heap ∧ (∀ b ∈ fp, H' b = none) ∧ W i n H') ?_ m0 ⟨0, H3, I4, st4, nfp, w0⟩
    rintro n s5 ⟨i, H5, I5, st5, n5, w5⟩
    rcases turn i n H5 w5 with ⟨stop, qq⟩ | ⟨go, Nx, hNx, step⟩
    · refine thnF (T.done (X.blk s3 H3 scope ce fp) rfl rfl rfl hc i [] s5 _ H5 (fun _ _ => False) I5 (stat I5 n5) st5 stop) fun r s6 ⟨hr, I6⟩ => ?_
      subst hr
      have I7 : Inv X pins σ H5 s6 := I3.call' (ch := fp) I6.os I6.base I6.hok I6.bare fun b hb => ⟨(f3 b hb).1.2.2.2.1, (f3 b hb).1.2.1, (f3 b hb).1.2.2.2.2.1, (f3 b hb).1.2.2.2.2.2⟩
      have nC : H5 s3.heap.objs.size = none := by rw [← cL]; exact I6.free
      obtain ⟨m, hn, _⟩ := I6.loc
      have hn : s6.heap.Ns ce.locals m := hn
      rw [cL] at hn
      obtain ⟨f0, f1, f3', f4, f5, f6⟩ := I3.fpOk (Nat.le_refl _) nC
      exact ⟨m, hn, fun h'' sb => ⟨.ref D, H5, I7.turned (t' := s6.toks) (fun b o hb e => (sb.2 b hb).trans e) f0 f1 f4 f5 f6, rfl, qq⟩⟩
    · refine thnF (T.item (X.blk s3 H3 scope ce fp) rfl rfl rfl hc i [] s5 _ H5 (fun _ _ => False) I5 (stat I5 n5) st5 go) fun r s6 ⟨u, hr, h6⟩ => ?_
      subst hr
      refine thnF h6 fun _ s7 ⟨x, H7, I7, r7, y7, st7, n7⟩ => ?_
      refine thnF (pg.run _ s7 _ H7 x u _ (I7.pinned (stat I7 n7) (T.obj _ _ st7)) r7 (step x H7 y7)) fun _ s8 ⟨σ8, H8, I8, hw8, q8⟩ => thnF (pt.run _ s8 σ8 H8 _ I8 q8) fun b s9 ⟨H9, I9, q9⟩ => ?_
      have fin : ∀ {σ9 : L2.St} {s' : Shared} {H' : Hp}, Inv (X.blk s3 H3 scope ce fp) ([] ++ pinsAt fp s7.heap) σ9 H' s' → (wipe σ (own.map (·.2))).length = σ9.length → (∀ (j : Nat) v, (wipe σ (own.map (·.2)))[j]? = some (some v) → σ9[j]? = some (some v)) → Nx H' →
          ∃ m, m < n ∧ ∃ i H', Inv (X.blk s3 H3 scope ce fp) [] (wipe σ (own.map (·.2))) H' s' ∧ tn i s'.heap ∧ (∀ b ∈ fp, H' b = none) ∧ W i m H' := fun {σ9 s' H'} I' hl hk nx => by
        obtain ⟨m', hm, w'⟩ := hNx H' nx
        have pin' : ∀ b ∈ fp, ∀ o, s7.heap.get? b = some o → s'.heap.get? b = some o ∧ H' b = none := fun b hb o e =>
          let z := I'.pin (b, o) (List.mem_append_right _ (List.mem_append_right _ (mem_pinsAt hb e))); ⟨z.1, z.2.1⟩
        exact ⟨m', hm, i + 1, H', (I'.unpinned (pins := [])).weak hl hk, T.keep _ _ _ st7 fun b hb o e => (pin' b hb o e).1, fun b hb => let ⟨o, e, _⟩ := T.obj _ _ st7 b hb; (pin' b hb o e).2, w'⟩
      have hl8 : (wipe σ (own.map (·.2))).length = σ8.length := by rw [← hw8, wipe_length]
      have hk8 : ∀ (j : Nat) v, (wipe σ (own.map (·.2)))[j]? = some (some v) → σ8[j]? = some (some v) := fun j v e => by rw [← hw8] at e; exact (wipe_some e).1
      have hk9 : ∀ (j : Nat) v, (wipe σ (own.map (·.2)))[j]? = some (some v) → (wipe σ8 vs1)[j]? = some (some v) := fun j v e => by
        rw [← hw8] at e
        rw [wipe_out fun z => (wipe_some e).2 (hv j z)]
        exact (wipe_some e).1
      match b, q9 with
      | false, q9 => simp only [Bool.false_eq_true, if_false] at q9 ⊢; exact fin I9 hl8 hk8 q9
      | true, q9 =>
        simp only [if_true] at q9 ⊢
        refine thnF (pi1.run _ s9 σ8 H9 _ I9 q9) fun xv s10 hx => thnF hx fun itv s11 ⟨it1, fp1, tn1, J1, H11, e1, I11, T1, st11, f11, W1, ⟨m1, w1⟩, turn1⟩ => ?_
        subst e1
        have stat1 : ∀ {H' : Hp}, (∀ b ∈ fp1, H' b = none) → ∀ b ∈ fp1, FpOk (X.blk s3 H3 scope ce fp) ([] ++ pinsAt fp s7.heap) H' b := fun hn b hb => ⟨hn b hb, (f11 b hb).2⟩
        have loop1 : codeAny (model X.prog X.w) X.A (.compLoop (dcE2 kx vx ta ia tb ib fa fb scope pos) 1 (.ref it1) (.ref D) ce)
            (fun r s' => match r with
              | .ok _ => ∃ m, m < n ∧ ∃ i H', Inv (X.blk s3 H3 scope ce fp) [] (wipe σ (own.map (·.2))) H' s' ∧ tn i s'.heap ∧ (∀ b ∈ fp, H' b = none) ∧ W i m H'
              | .error _ => False) s11 := by
          refine loopD_in (fun k s' => ∃ j H', Inv (X.blk s3 H3 scope ce fp) ([] ++ pinsAt fp s7.heap) (wipe σ8 vs1) H' s' ∧ tn1 j s'.heap ∧ (∀ b ∈ fp1, H' b = none) ∧ W1 j k H') ?_ m1 ⟨0, H11, I11.weak (wipe_length _ _) (fun j v e => (wipe_some e).1), st11, fun b hb => (f11 b hb).1, w1⟩
          rintro k s12 ⟨j, H12, I12, st12, n12, w12⟩
          rcases turn1 j k H12 w12 with ⟨stop1, nx1⟩ | ⟨go1, Nx1, hNx1, step1⟩
          · refine thnF (T1.done (X.blk s3 H3 scope ce fp) rfl rfl rfl hc j _ s12 (wipe σ8 vs1) H12 (fun _ _ => False) I12 (stat1 n12) st12 stop1) fun r s13 ⟨hr, I13⟩ => ?_
            subst hr
            exact fin I13 (hl8.trans (wipe_length σ8 vs1).symm) hk9 nx1
          · refine thnF (T1.item (X.blk s3 H3 scope ce fp) rfl rfl rfl hc j _ s12 (wipe σ8 vs1) H12 (fun _ _ => False) I12 (stat1 n12) st12 go1) fun r s13 ⟨u1, hr, h13⟩ => ?_
            subst hr
            refine thnF h13 fun _ s14 ⟨x1, H14, I14, r14, y14, st14, n14⟩ => ?_
            refine thnF (pg1.run _ s14 (wipe σ8 vs1) H14 x1 u1 _ (I14.pinned (stat1 n14) (T1.obj _ _ st14)) r14 (step1 x1 H14 y14)) fun _ s15 ⟨σ15, H15, I15, hw15, q15⟩ => thnF (pt1.run _ s15 σ15 H15 _ I15 q15) fun b1 s16 ⟨H16, I16, q16⟩ => ?_
            have fin1 : ∀ {s' : Shared} {H' : Hp}, Inv (X.blk s3 H3 scope ce fp) (([] ++ pinsAt fp s7.heap) ++ pinsAt fp1 s14.heap) σ15 H' s' → Nx1 H' → ∃ m, m < k ∧ ∃ j H', Inv (X.blk s3 H3 scope ce fp) ([] ++ pinsAt fp s7.heap) (wipe σ8 vs1) H' s' ∧ tn1 j s'.heap ∧ (∀ b ∈ fp1, H' b = none) ∧ W1 j m H' := fun {s' H'} I' nx => by
              obtain ⟨m', hm, w'⟩ := hNx1 H' nx
              have pin' : ∀ b ∈ fp1, ∀ o, s14.heap.get? b = some o → s'.heap.get? b = some o ∧ H' b = none := fun b hb o e =>
                let z := I'.pin (b, o) (List.mem_append_right _ (List.mem_append_right _ (mem_pinsAt hb e))); ⟨z.1, z.2.1⟩
              exact ⟨m', hm, j + 1, H', I'.unpinned.weak (by rw [← hw15, wipe_length]) (fun j v e => by rw [← hw15] at e; exact (wipe_some e).1), T1.keep _ _ _ st14 fun b hb o e => (pin' b hb o e).1, fun b hb => let ⟨o, e, _⟩ := T1.obj _ _ st14 b hb; (pin' b hb o e).2, w'⟩
            match b1, q16 with
            | false, q16 => simp only [Bool.false_eq_true, if_false] at q16 ⊢; exact fin1 I16 q16
            | true, q16 =>
              simp only [if_true] at q16 ⊢
              refine thnF (pk.run _ s16 σ15 H16 _ I16 q16) fun z s17 ⟨yk, H17, I17, r17, q17⟩ => thnF (pe.run _ s17 σ15 H17 _ I17 q17) fun z2 s18 ⟨yv, H18, I18, r18, kvs, k0, ek, hD18, hz18, nx⟩ => ?_
              subst ek
              exact d_dictSet (X := X.blk s3 H3 scope ce fp) I18 hD18 hz18 r17 r18 fun s19 I19 => fin1 I19 nx
        exact startD1_ok loop1 (T1.self X.A 0 _ _ _ st11 loop1)
  exact codeAny_compStart_dict loop (T.self X.A 0 _ _ _ st4 loop)
end
end CG
end
section
set_option Elab.async false
set_option linter.all false
set_option maxRecDepth 100000
set_option autoImplicit false
/-! CG25: comprehensions of two clauses; dict comprehensions. -/
namespace CG
open PySem PySem.Spec L2
def mDcGo (own : List Nat) (b : Bind) (t k f : M Val) : List Val → List (Key × Val) → M (List (Key × Val))
  | [], acc => fun _ e => .ok acc e
  | x :: xs, acc => fun cl e => match b x (wipeE e own) with
    | none => .no
    | some e1 => match asB (t cl e1) with
      | .ok c e2 => if c = true then (match k cl e2 with
        | .ok q e3 => (match f cl e3 with
          | .ok y e4 => (match keyOf q with
            | some kk => if acc.length < line then mDcGo own b t k f xs (putK acc kk y) cl e4 else .no
            | none => .no)
          | _ => .no)
        | _ => .no) else mDcGo own b t k f xs acc cl e2
      | _ => .no
def mDc (own : List Nat) (it : M (List Val)) (b : Bind) (t k f : M Val) : M Val := fun cl e => (it cl e).bind fun xs e1 =>
  match mDcGo own b t k f xs [] cl (wipeE e1 own) with
  | .ok ys e2 => .ok (.dct ys) (unwipe e1 e2 own)
  | _ => .no
def mDc2Go (own own1 : List Nat) (b : Bind) (t : M Val) (it1 : M (List Val)) (b1 : Bind) (t1 k f : M Val) : List Val → List (Key × Val) → M (List (Key × Val))
  | [], acc => fun _ e => .ok acc e
  | x :: xs, acc => fun cl e => match b x (wipeE e own) with
    | none => .no
    | some e1 => match asB (t cl e1) with
      | .ok c e2 => if c = true then (match it1 cl e2 with
        | .ok zs e3 => (match mDcGo own1 b1 t1 k f zs acc cl e3 with
          | .ok acc' e4 => mDc2Go own own1 b t it1 b1 t1 k f xs acc' cl e4
          | _ => .no)
        | _ => .no) else mDc2Go own own1 b t it1 b1 t1 k f xs acc cl e2
      | _ => .no
def mDc2 (own own1 : List Nat) (it : M (List Val)) (b : Bind) (t : M Val) (it1 : M (List Val)) (b1 : Bind) (t1 k f : M Val) : M Val := fun cl e => (it cl e).bind fun xs e1 =>
  match mDc2Go own own1 b t it1 b1 t1 k f xs [] cl (wipeE e1 own) with
  | .ok ys e2 => .ok (.dct ys) (unwipe e1 e2 own)
  | _ => .no
/-- a walk whose turn is any step -/
theorem it_go {J : It} {n : Nat} {G : Hp → Prop} {Y : Nat → Hp → V → Hp → Prop} (w : L2.Walk J n G Y) {H0 : Hp} {Qd : Hp → Prop} (St : V → Hp → (Hp → Prop) → Prop) (Pv : Nat → Hp → Prop) (h0 : Pv 0 H0) (hG : ∀ i H, i ≤ n → Pv i H → G H)
    (hs : ∀ i x H H', i < n → Pv i H → Y i H x H' → St x H' (Pv (i + 1))) (hd : ∀ H, Pv n H → Qd H) :
    ∃ W : Nat → Nat → Hp → Prop, (∃ m, W 0 m H0) ∧ ∀ i m H, W i m H → (J.stop i H ∧ Qd H) ∨ (J.go i H ∧ ∃ Nx : Hp → Prop, (∀ H', Nx H' → ∃ m', m' < m ∧ W (i + 1) m' H') ∧ ∀ x H', J.yld i H x H' → St x H' Nx) := by
  refine ⟨fun i m H => m = n - i ∧ i ≤ n ∧ Pv i H, ⟨n, by simp, Nat.zero_le _, h0⟩, ?_⟩
  rintro i m H ⟨rfl, hi, p⟩
  have q := hG i H hi p
  by_cases hlt : i < n
  · exact .inr ⟨w.goes i H hlt q, Pv (i + 1), fun H' p' => ⟨n - (i + 1), by omega, rfl, hlt, p'⟩, fun x H' y => hs i x H H' hlt p (w.yields i H x H' hlt q y)⟩
  · obtain rfl : i = n := by omega
    exact .inl ⟨w.stops H q, hd H p⟩
section
variable {Γ : GX} {sc : Sc} {fr : Bool} {a b c elt kx vx tg iter tg1 iter1 : Expr} {f g h ft fe fk ft1 : M Val} {pos p : Pos}
def BI (X : Cx) (scope : Scope) (tg it : Expr) : TI := fun σ H R => ∀ s H0 C cl fp, JI (X.blk s H0 scope (compEnvC scope cl C X.env) fp) tg it σ H R
theorem BI.pi {X : Cx} {scope : Scope} {tg it : Expr} (s : Shared) (H : Hp) (C : Addr) (cl : List (Str × Addr)) (fp : List Addr) : PI (X.blk s H scope (compEnvC scope cl C X.env) fp) tg it (BI X scope tg it) := ⟨fun pins s' _ _ _ I h => h s H C cl fp pins s' I⟩
/-- a new thing at D that all turns fill: what holds of it between the turns -/
structure Fill (Γ : GX) (kd : Kds) (en : Ent) (e : Env) (σ : L2.St) (F H : Hp) (v : Val) (D : Addr) : Prop where
  r : Rel Γ.K Γ.C kd en e σ F H
  f : Fresh Γ.K Γ.C kd en e σ F H v (.ref D)
theorem unwipe_fresh {en : Ent} {vs : List Nat} {e1 e2 : Env} {σ σ' : L2.St} {F H : Hp} {v : Val} {u : V} (himm : ∀ i ∈ vs, kdAt sc.kd i = .imm) (hw : ∀ j, j ∉ vs → σ'[j]? = σ[j]?) (fr : Fresh Γ.K Γ.C sc.kd en e2 σ' F H v u) : Fresh Γ.K Γ.C sc.kd en (CG.unwipe e1 e2 vs) σ F H v u := by
  rcases fr with fr | ⟨q, hq, ow, nF, l0, ap⟩
  · exact .inl fr
  · refine .inr ⟨q, hq, ow, nF, l0, fun i w k hi si => ?_⟩
    rcases unwipe_get hi with ⟨h1, _⟩ | ⟨h1, hi⟩
    · exact k (himm i h1)
    · exact ap i w k hi (by rw [hw i h1]; exact si)
theorem ownImm {own : List (Str × Nat)} {vs : List Nat} (hvs : own.map (·.2) = vs) (hown : (own.all fun p => decide (kdAt sc.kd p.2 = .imm)) = true) : ∀ i ∈ vs, kdAt sc.kd i = .imm := by
  intro i hi
  rw [← hvs] at hi
  obtain ⟨p, hp, rfl⟩ := List.mem_map.mp hi
  exact of_decide_eq_true (List.all_eq_true.mp hown p hp)
theorem drop_at {α : Type} {xs : List α} {i : Nat} {v : α} (hv : xs[i]? = some v) : xs.drop i = v :: xs.drop (i + 1) := by
  obtain ⟨hl, e2⟩ := List.getElem?_eq_some_iff.mp hv
  rw [← e2]; exact List.drop_eq_getElem_cons hl
/-- one turn's head: the item is stored and tested -/
theorem turn_head {ifs : List Expr} {scope : Scope} {bd : Bind} {ns vs : List Nat} {tg : Expr} (hns : ∀ i ∈ ns, i ∈ vs) (hg : SG Γ (sc.blk scope) tg bd ns) (ht : STs Γ (sc.blk scope) ifs ft) {n : Nat} {X : Cx} (cx : Compat Γ sc n X)
    {en : Ent} {ew e3 e4 : Env} {σ σw : L2.St} {F F' H H' : Hp} {v0 : Val} {D : Addr} {v : Val} {x : V} {k : Bool} {R1 : Bool → L2.St → Hp → Prop} (hl : σw.length = σ.length) (hw : ∀ j, j ∉ vs → σw[j]? = σ[j]?) (fl : Fill Γ sc.kd en ew σw F H v0 D) (gr : Grow F H F' H') (hx : VR Γ.K Γ.C F' v x)
    (hb : bd v (wipeE ew vs) = some e3) (ht' : asB (ft (callN Γ.G n) e3) = .ok k e4)
    (go : ∀ (en' : Ent) (σ2 : L2.St) (F4 H4 : Hp), σ2.length = σ.length → (∀ j, j ∉ vs → σ2[j]? = σ[j]?) → Same F F4 → Rel Γ.K Γ.C sc.kd en' e4 σ2 F4 H4 → (∀ (e' : Env) (σ' : L2.St) (F' H' : Hp), Same F4 F' → Rel Γ.K Γ.C sc.kd en' e' σ' F' H' → Fill Γ sc.kd en e' σ' F' H' v0 D) → R1 k σ2 H4) :
    BG X scope tg x (wipe σ vs) H' fun σ2 H2 => wipe σ2 vs = wipe σ vs ∧ BT X scope ifs σ2 H2 fun b H3 => R1 b σ2 H3 := by
  obtain ⟨en', r', back⟩ := fl.r.holdF fl.f
  have r2 := (r'.grow gr).wipe vs
  rw [wipe_eq hl hw] at r2
  intro sB HB CB clB fpB
  refine hg (cx.blk sB HB CB clB fpB) r2 hx hb fun σ2 sm r3 => ?_
  have hl2 : σ2.length = σ.length := sm.1.trans (wipe_length _ _)
  have hw2 : ∀ j, j ∉ vs → σ2[j]? = σ[j]? := fun j hj => (sm.2 j fun z => hj (hns j z)).trans (wipe_ne hj)
  refine ⟨wipe_eq hl2 hw2, ?_⟩
  intro sC HC CC clC fpC
  refine ht (cx.blk sC HC CC clC fpC) takes0 r3 ?_
  rw [ht']
  intro kk F4 H4 s4 r4 hkk
  have hkk : k = kk := hkk
  subst hkk
  exact go en' σ2 F4 H4 hl2 hw2 (gr.ff.trans s4) r4 fun e' σ' F'' H'' s' rr => let q := back e' σ' F'' H'' (gr.ff.trans (s4.trans s')) rr; ⟨q.1, q.2⟩
theorem Fill.push {en : Ent} {e : Env} {σ : L2.St} {F H : Hp} {acc : List Val} {D : Addr} {z : Val} {u : V} (fl : Fill Γ sc.kd en e σ F H (.lst acc) D) (t : VR Γ.K Γ.C F z u) : ∃ us, H D = some (.lst us) ∧ us.length = acc.length ∧ Fill Γ sc.kd en e σ F (upd H D (.lst (us ++ [u]))) (.lst (acc ++ [z])) D := by
  obtain ⟨r, fr⟩ := fl
  rcases fr with ⟨sc', _⟩ | ⟨q, hq, ow, nF, l0, ap⟩
  · cases sc'
  cases hq
  have no := ow.noOwn
  cases ow with
  | @lst _ us _ hH hvs' => exact ⟨us, hH, hvs'.length, r.updF nF l0 ap no, .inr ⟨D, rfl, .lst upd_same (hvs'.append (.cons t .nil)), nF, l0, ap⟩⟩
theorem Fill.put {en : Ent} {e : Env} {σ : L2.St} {F H : Hp} {acc : List (Key × Val)} {D : Addr} {z : Val} {u : V} {k : Key} (fl : Fill Γ sc.kd en e σ F H (.dct acc) D) (t : VR Γ.K Γ.C F z u) : ∃ us, H D = some (.dK us) ∧ us.length = acc.length ∧ Fill Γ sc.kd en e σ F (upd H D (.dK (L2.putK us k u))) (.dct (putK acc k z)) D := by
  obtain ⟨r, fr⟩ := fl
  rcases fr with ⟨sc', _⟩ | ⟨q, hq, ow, nF, l0, ap⟩
  · cases sc'
  cases hq
  have no := ow.noOwn
  cases ow with
  | @dct _ us _ hH hvs' => exact ⟨us, hH, hvs'.length, r.updF nF l0 ap no, .inr ⟨D, rfl, .dct upd_same (hvs'.put t), nF, l0, ap⟩⟩
/-- the list's own turn -/
theorem lcGo_step {ifs : List Expr} {scope : Scope} {bd : Bind} {ns vs : List Nat} {tg : Expr} (hns : ∀ i ∈ ns, i ∈ vs) (hg : SG Γ (sc.blk scope) tg bd ns) (ht : STs Γ (sc.blk scope) ifs ft) (he : SV Γ (sc.blk scope) elt fe) {n : Nat} {X : Cx} (cx : Compat Γ sc n X)
    {en : Ent} {ew eF : Env} {σ σw : L2.St} {F0 F F' H H' : Hp} {acc ys : List Val} {D : Addr} {v : Val} {vr : List Val} {x : V} {Nx : Hp → Prop} (hl : σw.length = σ.length) (hw : ∀ j, j ∉ vs → σw[j]? = σ[j]?) (s : Same F0 F) (fl : Fill Γ sc.kd en ew σw F H (.lst acc) D) (gr : Grow F H F' H') (hx : VR Γ.K Γ.C F' v x)
    (heq : mLcGo vs bd ft fe (v :: vr) acc (callN Γ.G n) ew = .ok ys eF)
    (nx : ∀ (e' : Env) (σ' : L2.St) (F2 H2 : Hp) (acc' : List Val), σ'.length = σ.length → (∀ j, j ∉ vs → σ'[j]? = σ[j]?) → Same F0 F2 → Fill Γ sc.kd en e' σ' F2 H2 (.lst acc') D → mLcGo vs bd ft fe vr acc' (callN Γ.G n) e' = .ok ys eF → Nx H2) :
    BG X scope tg x (wipe σ vs) H' fun σ2 H2 => wipe σ2 vs = wipe σ vs ∧ BT X scope ifs σ2 H2 fun b H3 =>
      if b = true then BE X scope elt σ2 H3 fun y H4 => ∃ acc, H4 D = some (.lst acc) ∧ acc.length < sizeLine ∧ Nx (upd H4 D (.lst (acc ++ [y]))) else Nx H3 := by
  simp only [mLcGo] at heq
  cases hb : bd v (wipeE ew vs) with
  | none => rw [hb] at heq; cases heq
  | some e3 =>
  rw [hb] at heq
  simp only at heq
  cases ht' : asB (ft (callN Γ.G n) e3) with
  | exc c fs e4 => rw [ht'] at heq; cases heq
  | no => rw [ht'] at heq; cases heq
  | ok k e4 =>
  rw [ht'] at heq
  simp only at heq
  refine turn_head hns hg ht cx hl hw fl gr hx hb ht' (R1 := fun b σ2 H3 => if b = true then BE X scope elt σ2 H3 fun y H4 => ∃ acc, H4 D = some (.lst acc) ∧ acc.length < sizeLine ∧ Nx (upd H4 D (.lst (acc ++ [y]))) else Nx H3) fun en' σ2 F4 H4 hl2 hw2 s4 r4 back => ?_
  by_cases hk : k = true
  · rw [if_pos hk] at heq ⊢
    intro sE HE CE clE fpE
    refine he (cx.blk sE HE CE clE fpE) takes0 r4 ?_
    cases hf' : fe (callN Γ.G n) e4 with
    | exc c fs e5 => rw [hf'] at heq; cases heq
    | no => rw [hf'] at heq; cases heq
    | ok z e5 =>
      rw [hf'] at heq
      simp only at heq
      intro u F5 H5 s5 r5 t5
      by_cases hlen : acc.length < line
      · rw [if_pos hlen] at heq
        obtain ⟨us, h1, h2, h3⟩ := (back e5 σ2 F5 H5 s5 r5).push t5
        exact ⟨us, h1, by rw [h2]; exact hlen, nx e5 σ2 F5 _ _ hl2 hw2 (s.trans (s4.trans s5)) h3 heq⟩
      · rw [if_neg hlen] at heq; cases heq
  · rw [if_neg hk] at heq ⊢
    exact nx e4 σ2 F4 H4 _ hl2 hw2 (s.trans s4) (back e4 σ2 F4 H4 (Same.refl _) r4) heq
theorem dcGo_step {ifs : List Expr} {scope : Scope} {bd : Bind} {ns vs : List Nat} {tg : Expr} (hns : ∀ i ∈ ns, i ∈ vs) (hg : SG Γ (sc.blk scope) tg bd ns) (ht : STs Γ (sc.blk scope) ifs ft) (hk : SV Γ (sc.blk scope) kx fk) (he : SV Γ (sc.blk scope) vx fe) {n : Nat} {X : Cx} (cx : Compat Γ sc n X)
    {en : Ent} {ew eF : Env} {σ σw : L2.St} {F0 F F' H H' : Hp} {acc ys : List (Key × Val)} {D : Addr} {v : Val} {vr : List Val} {x : V} {Nx : Hp → Prop} (hl : σw.length = σ.length) (hw : ∀ j, j ∉ vs → σw[j]? = σ[j]?) (s : Same F0 F) (fl : Fill Γ sc.kd en ew σw F H (.dct acc) D) (gr : Grow F H F' H') (hx : VR Γ.K Γ.C F' v x)
    (heq : mDcGo vs bd ft fk fe (v :: vr) acc (callN Γ.G n) ew = .ok ys eF)
    (nx : ∀ (e' : Env) (σ' : L2.St) (F2 H2 : Hp) (acc' : List (Key × Val)), σ'.length = σ.length → (∀ j, j ∉ vs → σ'[j]? = σ[j]?) → Same F0 F2 → Fill Γ sc.kd en e' σ' F2 H2 (.dct acc') D → mDcGo vs bd ft fk fe vr acc' (callN Γ.G n) e' = .ok ys eF → Nx H2) :
    BG X scope tg x (wipe σ vs) H' fun σ2 H2 => wipe σ2 vs = wipe σ vs ∧ BT X scope ifs σ2 H2 fun b H3 =>
      if b = true then BE X scope kx σ2 H3 fun y H4 => BE X scope vx σ2 H4 fun z H5 => ∃ kvs k, y = kV k ∧ H5 D = some (.dK kvs) ∧ kvs.length < sizeLine ∧ Nx (upd H5 D (.dK (L2.putK kvs k z))) else Nx H3 := by
  simp only [mDcGo] at heq
  cases hb : bd v (wipeE ew vs) with
  | none => rw [hb] at heq; cases heq
  | some e3 =>
  rw [hb] at heq
  simp only at heq
  cases ht' : asB (ft (callN Γ.G n) e3) with
  | exc c fs e4 => rw [ht'] at heq; cases heq
  | no => rw [ht'] at heq; cases heq
  | ok c e4 =>
  rw [ht'] at heq
  simp only at heq
  refine turn_head hns hg ht cx hl hw fl gr hx hb ht' (R1 := fun b σ2 H3 => if b = true then BE X scope kx σ2 H3 fun y H4 => BE X scope vx σ2 H4 fun z H5 => ∃ kvs k, y = kV k ∧ H5 D = some (.dK kvs) ∧ kvs.length < sizeLine ∧ Nx (upd H5 D (.dK (L2.putK kvs k z))) else Nx H3) fun en' σ2 F4 H4 hl2 hw2 s4 r4 back => ?_
  by_cases hc : c = true
  · rw [if_pos hc] at heq ⊢
    intro sE HE CE clE fpE
    refine hk (cx.blk sE HE CE clE fpE) takes0 r4 ?_
    cases hf' : fk (callN Γ.G n) e4 with
    | exc c fs e5 => rw [hf'] at heq; cases heq
    | no => rw [hf'] at heq; cases heq
    | ok q e5 =>
      rw [hf'] at heq
      simp only at heq
      intro uq F5 H5 s5 r5 t5
      intro sG HG CG clG fpG
      refine he (cx.blk sG HG CG clG fpG) takes0 r5 ?_
      cases hg' : fe (callN Γ.G n) e5 with
      | exc c fs e6 => rw [hg'] at heq; cases heq
      | no => rw [hg'] at heq; cases heq
      | ok y e6 =>
        rw [hg'] at heq
        simp only at heq
        intro uy F6 H6 s6 r6 t6
        cases hkk : keyOf q with
        | none => rw [hkk] at heq; cases heq
        | some kk =>
          rw [hkk] at heq
          simp only at heq
          by_cases hlen : acc.length < line
          · rw [if_pos hlen] at heq
            obtain ⟨us, h1, h2, h3⟩ := (back e6 σ2 F6 H6 (s5.trans s6) r6).put (k := kk) t6
            exact ⟨us, kk, keyOf_vr t5 hkk, h1, by rw [h2]; exact hlen, nx e6 σ2 F6 _ _ hl2 hw2 (s.trans (s4.trans (s5.trans s6))) h3 heq⟩
          · rw [if_neg hlen] at heq; cases heq
  · rw [if_neg hc] at heq ⊢
    exact nx e4 σ2 F4 H4 _ hl2 hw2 (s.trans s4) (back e4 σ2 F4 H4 (Same.refl _) r4) heq
theorem lc2_read {ifs ifs1 : List Expr} {scope : Scope} {own : List (Str × Nat)} {fi fi1 : M (List Val)} {bd bd1 : Bind} {ns ns1 vs1 : List Nat} (hi : SI Γ sc tg iter fi) (hown : (own.all fun p => decide (kdAt sc.kd p.2 = .imm)) = true) (hns : (ns.all fun i => decide (i ∈ own.map (·.2))) = true) (hns1 : (ns1.all fun i => decide (i ∈ vs1)) = true) (hv1 : ∀ i ∈ vs1, i ∈ own.map (·.2))
    (hg : SG Γ (sc.blk scope) tg bd ns) (ht : STs Γ (sc.blk scope) ifs ft) (hi1 : SI Γ (sc.blk scope) tg1 iter1 fi1) (hg1 : SG Γ (sc.blk scope) tg1 bd1 ns1) (ht1 : STs Γ (sc.blk scope) ifs1 ft1) (he : SV Γ (sc.blk scope) elt fe) {n : Nat} {X : Cx} (cx : Compat Γ sc n X) {W : WX} (tk : Takes X W) {en : Ent} {e : Env} {σ : L2.St} {F H : Hp} (r : Rel Γ.K Γ.C sc.kd en e σ F H) {Q : VK}
    (P : Post Γ sc.kd en σ F (mLc2 (own.map (·.2)) vs1 fi bd ft fi1 bd1 ft1 fe (callN Γ.G n) e) (TF Γ sc.kd en σ) Q W) :
    tLc2 (JI X tg iter) (BG X scope tg) (BT X scope ifs) (BI X scope tg1 iter1) (BG X scope tg1) (BT X scope ifs1) (BE X scope elt) (own.map (·.2)) vs1 σ H Q := by
  generalize hvs : own.map (·.2) = vs at P hns hv1 ⊢
  have himm := ownImm hvs hown
  have hns' : ∀ i ∈ ns, i ∈ vs := fun i hi => of_decide_eq_true (List.all_eq_true.mp hns i hi)
  have hns1' : ∀ i ∈ ns1, i ∈ vs1 := fun i hi => of_decide_eq_true (List.all_eq_true.mp hns1 i hi)
  refine hi cx tk r (Post.seq P fun xs e1 J F1 H1 s1 r1 t1 P1 => ?_)
  intro D hD
  cases htot : mLc2Go vs vs1 bd ft fi1 bd1 ft1 fe xs [] (callN Γ.G n) (wipeE e1 vs) with
  | exc c fs e2 => rw [htot] at P1; exact P1.elim
  | no => rw [htot] at P1; exact P1.elim
  | ok ys eF =>
  rw [htot] at P1
  obtain ⟨rw1, fr1⟩ := fresh_new (r1.wipe vs) hD (.nil : VRs Γ.K Γ.C F1 [] [])
  refine it_go t1 (fun x H' Nx => BG X scope tg x (wipe σ vs) H' fun σ2 H2 => wipe σ2 vs = wipe σ vs ∧ BT X scope ifs σ2 H2 fun b H3 =>
    if b = true then BI X scope tg1 iter1 σ2 H3 fun J1 H4 => ∃ W1 : Nat → Nat → Hp → Prop, (∃ m, W1 0 m H4) ∧ ∀ j k H, W1 j k H →
      (J1.stop j H ∧ Nx H) ∨ (J1.go j H ∧ ∃ Nx1 : Hp → Prop, (∀ H', Nx1 H' → ∃ k', k' < k ∧ W1 (j + 1) k' H') ∧ ∀ x H', J1.yld j H x H' → BG X scope tg1 x (wipe σ2 vs1) H' fun σ3 H5 => wipe σ3 vs1 = wipe σ2 vs1 ∧ BT X scope ifs1 σ3 H5 fun b H6 =>
        if b = true then BE X scope elt σ3 H6 fun y H7 => ∃ acc, H7 D = some (.lst acc) ∧ acc.length < sizeLine ∧ Nx1 (upd H7 D (.lst (acc ++ [y]))) else Nx1 H6)
    else Nx H3)
    (fun i H => ∃ ew σw F acc, σw.length = σ.length ∧ (∀ j, j ∉ vs → σw[j]? = σ[j]?) ∧ Same F1 F ∧ Fill Γ sc.kd en ew σw F H (.lst acc) D ∧ mLc2Go vs vs1 bd ft fi1 bd1 ft1 fe (xs.drop i) acc (callN Γ.G n) ew = .ok ys eF)
    ⟨wipeE e1 vs, wipe σ vs, F1, [], wipe_length _ _, fun j hj => wipe_ne hj, Same.refl _, ⟨rw1, fr1⟩, by simpa using htot⟩ (fun i H _ ⟨_, _, F, _, _, _, s, fl, _⟩ => ⟨F, s, fl.r.sub⟩)
    (fun i x H H' hi' ⟨ew, σw, F, acc, hl, hw, s, fl, heq⟩ y => ?_) (fun H ⟨ew, σw, F, acc, hl, hw, s, fl, heq⟩ => ?_)
  · obtain ⟨v, F', hv, gr, hx⟩ := y F s fl.r.sub
    rw [drop_at hv] at heq
    simp only [mLc2Go] at heq
    cases hb : bd v (wipeE ew vs) with
    | none => rw [hb] at heq; cases heq
    | some e3 =>
    rw [hb] at heq
    simp only at heq
    cases ht' : asB (ft (callN Γ.G n) e3) with
    | exc c fs e4 => rw [ht'] at heq; cases heq
    | no => rw [ht'] at heq; cases heq
    | ok k e4 =>
    rw [ht'] at heq
    simp only at heq
    refine turn_head hns' hg ht cx hl hw fl gr hx hb ht' (R1 := fun b σ2 H3 => if b = true then _ else _) fun en' σ2 F4 H4 hl2 hw2 s4 r4 back => ?_
    by_cases hk : k = true
    · rw [if_pos hk] at heq
      show (if k = true then _ else _)
      rw [if_pos hk]
      intro sI HI CI clI fpI
      refine hi1 (cx.blk sI HI CI clI fpI) takes0 r4 ?_
      cases hz : fi1 (callN Γ.G n) e4 with
      | exc c fs e5 => rw [hz] at heq; cases heq
      | no => rw [hz] at heq; cases heq
      | ok zs e5 =>
      rw [hz] at heq
      simp only at heq
      intro J1 F5 H5 s5 r5 t5
      cases hin : mLcGo vs1 bd1 ft1 fe zs acc (callN Γ.G n) e5 with
      | exc c fs e6 => rw [hin] at heq; cases heq
      | no => rw [hin] at heq; cases heq
      | ok acc' e6 =>
      rw [hin] at heq
      simp only at heq
      refine it_go t5 (fun x H' Nx1 => BG X scope tg1 x (wipe σ2 vs1) H' fun σ3 H5 => wipe σ3 vs1 = wipe σ2 vs1 ∧ BT X scope ifs1 σ3 H5 fun b H6 =>
          if b = true then BE X scope elt σ3 H6 fun y H7 => ∃ acc, H7 D = some (.lst acc) ∧ acc.length < sizeLine ∧ Nx1 (upd H7 D (.lst (acc ++ [y]))) else Nx1 H6)
        (fun j H => ∃ ew σw F acc1, σw.length = σ2.length ∧ (∀ j, j ∉ vs1 → σw[j]? = σ2[j]?) ∧ Same F5 F ∧ Fill Γ sc.kd en ew σw F H (.lst acc1) D ∧ mLcGo vs1 bd1 ft1 fe (zs.drop j) acc1 (callN Γ.G n) ew = .ok acc' e6)
        ⟨e5, σ2, F5, acc, rfl, fun _ _ => rfl, Same.refl _, back e5 σ2 F5 H5 s5 r5, by simpa using hin⟩ (fun j H _ ⟨_, _, F, _, _, _, s, fl, _⟩ => ⟨F, s, fl.r.sub⟩)
        (fun j x H H' hj ⟨ew1, σw1, Fw, acc1, hl1, hw1, sw, fl1, heq1⟩ y1 => ?_) (fun H ⟨ew1, σw1, Fw, acc1, hl1, hw1, sw, fl1, heq1⟩ => ?_)
      · obtain ⟨v1, F6, hv1', gr1, hx1⟩ := y1 Fw sw fl1.r.sub
        rw [drop_at hv1'] at heq1
        exact lcGo_step hns1' hg1 ht1 he cx hl1 hw1 sw fl1 gr1 hx1 heq1 fun e' σ' F2 H2 acc2 a1 a2 a3 a4 a5 => ⟨e', σ', F2, acc2, a1, a2, a3, a4, a5⟩
      · rw [List.drop_length] at heq1
        simp only [mLcGo] at heq1
        cases heq1
        exact ⟨_, σw1, Fw, _, hl1.trans hl2, fun j hj => (hw1 j fun z => hj (hv1 j z)).trans (hw2 j hj), s.trans (s4.trans (s5.trans sw)), fl1, heq⟩
    · rw [if_neg hk] at heq
      show (if k = true then _ else _)
      rw [if_neg hk]
      exact ⟨e4, σ2, F4, acc, hl2, hw2, s.trans s4, back e4 σ2 F4 H4 (Same.refl _) r4, heq⟩
  · rw [List.drop_length] at heq
    simp only [mLc2Go] at heq
    cases heq
    exact P1 (.ref D) F H s (Rel.unwipe himm r1 s fl.r hl hw) (unwipe_fresh himm hw fl.f)
theorem dc2_read {ifs ifs1 : List Expr} {scope : Scope} {own : List (Str × Nat)} {fi fi1 : M (List Val)} {bd bd1 : Bind} {ns ns1 vs1 : List Nat} (hi : SI Γ sc tg iter fi) (hown : (own.all fun p => decide (kdAt sc.kd p.2 = .imm)) = true) (hns : (ns.all fun i => decide (i ∈ own.map (·.2))) = true) (hns1 : (ns1.all fun i => decide (i ∈ vs1)) = true) (hv1 : ∀ i ∈ vs1, i ∈ own.map (·.2))
    (hg : SG Γ (sc.blk scope) tg bd ns) (ht : STs Γ (sc.blk scope) ifs ft) (hi1 : SI Γ (sc.blk scope) tg1 iter1 fi1) (hg1 : SG Γ (sc.blk scope) tg1 bd1 ns1) (ht1 : STs Γ (sc.blk scope) ifs1 ft1) (hkx : SV Γ (sc.blk scope) kx fk) (he : SV Γ (sc.blk scope) vx fe) {n : Nat} {X : Cx} (cx : Compat Γ sc n X) {W : WX} (tk : Takes X W) {en : Ent} {e : Env} {σ : L2.St} {F H : Hp} (r : Rel Γ.K Γ.C sc.kd en e σ F H) {Q : VK}
    (P : Post Γ sc.kd en σ F (mDc2 (own.map (·.2)) vs1 fi bd ft fi1 bd1 ft1 fk fe (callN Γ.G n) e) (TF Γ sc.kd en σ) Q W) :
    tDc2 (JI X tg iter) (BG X scope tg) (BT X scope ifs) (BI X scope tg1 iter1) (BG X scope tg1) (BT X scope ifs1) (BE X scope kx) (BE X scope vx) (own.map (·.2)) vs1 σ H Q := by
  generalize hvs : own.map (·.2) = vs at P hns hv1 ⊢
  have himm := ownImm hvs hown
  have hns' : ∀ i ∈ ns, i ∈ vs := fun i hi => of_decide_eq_true (List.all_eq_true.mp hns i hi)
  have hns1' : ∀ i ∈ ns1, i ∈ vs1 := fun i hi => of_decide_eq_true (List.all_eq_true.mp hns1 i hi)
  refine hi cx tk r (Post.seq P fun xs e1 J F1 H1 s1 r1 t1 P1 => ?_)
  intro D hD
  cases htot : mDc2Go vs vs1 bd ft fi1 bd1 ft1 fk fe xs [] (callN Γ.G n) (wipeE e1 vs) with
  | exc c fs e2 => rw [htot] at P1; exact P1.elim
  | no => rw [htot] at P1; exact P1.elim
  | ok ys eF =>
  rw [htot] at P1
  obtain ⟨rw1, fr1⟩ := fresh_newD (r1.wipe vs) hD (.nil : KRs Γ.K Γ.C F1 [] [])
  refine it_go t1 (fun x H' Nx => BG X scope tg x (wipe σ vs) H' fun σ2 H2 => wipe σ2 vs = wipe σ vs ∧ BT X scope ifs σ2 H2 fun b H3 =>
    if b = true then BI X scope tg1 iter1 σ2 H3 fun J1 H4 => ∃ W1 : Nat → Nat → Hp → Prop, (∃ m, W1 0 m H4) ∧ ∀ j k H, W1 j k H →
      (J1.stop j H ∧ Nx H) ∨ (J1.go j H ∧ ∃ Nx1 : Hp → Prop, (∀ H', Nx1 H' → ∃ k', k' < k ∧ W1 (j + 1) k' H') ∧ ∀ x H', J1.yld j H x H' → BG X scope tg1 x (wipe σ2 vs1) H' fun σ3 H5 => wipe σ3 vs1 = wipe σ2 vs1 ∧ BT X scope ifs1 σ3 H5 fun b H6 =>
        if b = true then BE X scope kx σ3 H6 fun y H7 => BE X scope vx σ3 H7 fun z H8 => ∃ kvs k, y = kV k ∧ H8 D = some (.dK kvs) ∧ kvs.length < sizeLine ∧ Nx1 (upd H8 D (.dK (L2.putK kvs k z))) else Nx1 H6)
    else Nx H3)
    (fun i H => ∃ ew σw F acc, σw.length = σ.length ∧ (∀ j, j ∉ vs → σw[j]? = σ[j]?) ∧ Same F1 F ∧ Fill Γ sc.kd en ew σw F H (.dct acc) D ∧ mDc2Go vs vs1 bd ft fi1 bd1 ft1 fk fe (xs.drop i) acc (callN Γ.G n) ew = .ok ys eF)
    ⟨wipeE e1 vs, wipe σ vs, F1, [], wipe_length _ _, fun j hj => wipe_ne hj, Same.refl _, ⟨rw1, fr1⟩, by simpa using htot⟩ (fun i H _ ⟨_, _, F, _, _, _, s, fl, _⟩ => ⟨F, s, fl.r.sub⟩)
    (fun i x H H' hi' ⟨ew, σw, F, acc, hl, hw, s, fl, heq⟩ y => ?_) (fun H ⟨ew, σw, F, acc, hl, hw, s, fl, heq⟩ => ?_)
  · obtain ⟨v, F', hv, gr, hx⟩ := y F s fl.r.sub
    rw [drop_at hv] at heq
    simp only [mDc2Go] at heq
    cases hb : bd v (wipeE ew vs) with
    | none => rw [hb] at heq; cases heq
    | some e3 =>
    rw [hb] at heq
    simp only at heq
    cases ht' : asB (ft (callN Γ.G n) e3) with
    | exc c fs e4 => rw [ht'] at heq; cases heq
    | no => rw [ht'] at heq; cases heq
    | ok k e4 =>
    rw [ht'] at heq
    simp only at heq
    refine turn_head hns' hg ht cx hl hw fl gr hx hb ht' (R1 := fun b σ2 H3 => if b = true then _ else _) fun en' σ2 F4 H4 hl2 hw2 s4 r4 back => ?_
    by_cases hk : k = true
    · rw [if_pos hk] at heq
      show (if k = true then _ else _)
      rw [if_pos hk]
      intro sI HI CI clI fpI
      refine hi1 (cx.blk sI HI CI clI fpI) takes0 r4 ?_
      cases hz : fi1 (callN Γ.G n) e4 with
      | exc c fs e5 => rw [hz] at heq; cases heq
      | no => rw [hz] at heq; cases heq
      | ok zs e5 =>
      rw [hz] at heq
      simp only at heq
      intro J1 F5 H5 s5 r5 t5
      cases hin : mDcGo vs1 bd1 ft1 fk fe zs acc (callN Γ.G n) e5 with
      | exc c fs e6 => rw [hin] at heq; cases heq
      | no => rw [hin] at heq; cases heq
      | ok acc' e6 =>
      rw [hin] at heq
      simp only at heq
      refine it_go t5 (fun x H' Nx1 => BG X scope tg1 x (wipe σ2 vs1) H' fun σ3 H5 => wipe σ3 vs1 = wipe σ2 vs1 ∧ BT X scope ifs1 σ3 H5 fun b H6 =>
          if b = true then BE X scope kx σ3 H6 fun y H7 => BE X scope vx σ3 H7 fun z H8 => ∃ kvs k, y = kV k ∧ H8 D = some (.dK kvs) ∧ kvs.length < sizeLine ∧ Nx1 (upd H8 D (.dK (L2.putK kvs k z))) else Nx1 H6)
        (fun j H => ∃ ew σw F acc1, σw.length = σ2.length ∧ (∀ j, j ∉ vs1 → σw[j]? = σ2[j]?) ∧ Same F5 F ∧ Fill Γ sc.kd en ew σw F H (.dct acc1) D ∧ mDcGo vs1 bd1 ft1 fk fe (zs.drop j) acc1 (callN Γ.G n) ew = .ok acc' e6)
        ⟨e5, σ2, F5, acc, rfl, fun _ _ => rfl, Same.refl _, back e5 σ2 F5 H5 s5 r5, by simpa using hin⟩ (fun j H _ ⟨_, _, F, _, _, _, s, fl, _⟩ => ⟨F, s, fl.r.sub⟩)
        (fun j x H H' hj ⟨ew1, σw1, Fw, acc1, hl1, hw1, sw, fl1, heq1⟩ y1 => ?_) (fun H ⟨ew1, σw1, Fw, acc1, hl1, hw1, sw, fl1, heq1⟩ => ?_)
      · obtain ⟨v1, F6, hv1', gr1, hx1⟩ := y1 Fw sw fl1.r.sub
        rw [drop_at hv1'] at heq1
        exact dcGo_step hns1' hg1 ht1 hkx he cx hl1 hw1 sw fl1 gr1 hx1 heq1 fun e' σ' F2 H2 acc2 a1 a2 a3 a4 a5 => ⟨e', σ', F2, acc2, a1, a2, a3, a4, a5⟩
      · rw [List.drop_length] at heq1
        simp only [mDcGo] at heq1
        cases heq1
        exact ⟨_, σw1, Fw, _, hl1.trans hl2, fun j hj => (hw1 j fun z => hj (hv1 j z)).trans (hw2 j hj), s.trans (s4.trans (s5.trans sw)), fl1, heq⟩
    · rw [if_neg hk] at heq
      show (if k = true then _ else _)
      rw [if_neg hk]
      exact ⟨e4, σ2, F4, acc, hl2, hw2, s.trans s4, back e4 σ2 F4 H4 (Same.refl _) r4, heq⟩
  · rw [List.drop_length] at heq
    simp only [mDc2Go] at heq
    cases heq
    exact P1 (.ref D) F H s (Rel.unwipe himm r1 s fl.r hl hw) (unwipe_fresh himm hw fl.f)
theorem dc_read {ifs : List Expr} {scope : Scope} {own : List (Str × Nat)} {fi : M (List Val)} {bd : Bind} {ns : List Nat} (hi : SI Γ sc tg iter fi) (hown : (own.all fun p => decide (kdAt sc.kd p.2 = .imm)) = true) (hns : (ns.all fun i => decide (i ∈ own.map (·.2))) = true)
    (hg : SG Γ (sc.blk scope) tg bd ns) (ht : STs Γ (sc.blk scope) ifs ft) (hkx : SV Γ (sc.blk scope) kx fk) (he : SV Γ (sc.blk scope) vx fe) {n : Nat} {X : Cx} (cx : Compat Γ sc n X) {W : WX} (tk : Takes X W) {en : Ent} {e : Env} {σ : L2.St} {F H : Hp} (r : Rel Γ.K Γ.C sc.kd en e σ F H) {Q : VK}
    (P : Post Γ sc.kd en σ F (mDc (own.map (·.2)) fi bd ft fk fe (callN Γ.G n) e) (TF Γ sc.kd en σ) Q W) :
    tDc (JI X tg iter) (BG X scope tg) (BT X scope ifs) (BE X scope kx) (BE X scope vx) (own.map (·.2)) σ H Q := by
  generalize hvs : own.map (·.2) = vs at P hns ⊢
  have himm := ownImm hvs hown
  have hns' : ∀ i ∈ ns, i ∈ vs := fun i hi => of_decide_eq_true (List.all_eq_true.mp hns i hi)
  refine hi cx tk r (Post.seq P fun xs e1 J F1 H1 s1 r1 t1 P1 => ?_)
  intro D hD
  cases htot : mDcGo vs bd ft fk fe xs [] (callN Γ.G n) (wipeE e1 vs) with
  | exc c fs e2 => rw [htot] at P1; exact P1.elim
  | no => rw [htot] at P1; exact P1.elim
  | ok ys eF =>
  rw [htot] at P1
  obtain ⟨rw1, fr1⟩ := fresh_newD (r1.wipe vs) hD (.nil : KRs Γ.K Γ.C F1 [] [])
  refine it_go t1 (fun x H' Nx => BG X scope tg x (wipe σ vs) H' fun σ2 H2 => wipe σ2 vs = wipe σ vs ∧ BT X scope ifs σ2 H2 fun b H3 =>
        if b = true then BE X scope kx σ2 H3 fun y H7 => BE X scope vx σ2 H7 fun z H8 => ∃ kvs k, y = kV k ∧ H8 D = some (.dK kvs) ∧ kvs.length < sizeLine ∧ Nx (upd H8 D (.dK (L2.putK kvs k z))) else Nx H3)
    (fun i H => ∃ ew σw F acc, σw.length = σ.length ∧ (∀ j, j ∉ vs → σw[j]? = σ[j]?) ∧ Same F1 F ∧ Fill Γ sc.kd en ew σw F H (.dct acc) D ∧ mDcGo vs bd ft fk fe (xs.drop i) acc (callN Γ.G n) ew = .ok ys eF)
    ⟨wipeE e1 vs, wipe σ vs, F1, [], wipe_length _ _, fun j hj => wipe_ne hj, Same.refl _, ⟨rw1, fr1⟩, by simpa using htot⟩ (fun i H _ ⟨_, _, F, _, _, _, s, fl, _⟩ => ⟨F, s, fl.r.sub⟩)
    (fun i x H H' hi' ⟨ew, σw, F, acc, hl, hw, s, fl, heq⟩ y => ?_) (fun H ⟨ew, σw, F, acc, hl, hw, s, fl, heq⟩ => ?_)
  · obtain ⟨v, F', hv, gr, hx⟩ := y F s fl.r.sub
    rw [drop_at hv] at heq
    exact dcGo_step hns' hg ht hkx he cx hl hw s fl gr hx heq fun e' σ' F2 H2 acc2 a1 a2 a3 a4 a5 => ⟨e', σ', F2, acc2, a1, a2, a3, a4, a5⟩
  · rw [List.drop_length] at heq
    simp only [mDcGo] at heq
    cases heq
    exact P1 (.ref D) F H s (Rel.unwipe himm r1 s fl.r hl hw) (unwipe_fresh himm hw fl.f)
theorem sf_lc2 {ifs ifs1 : List Expr} {scope : Scope} {own : List (Str × Nat)} {fi fi1 : M (List Val)} {bd bd1 : Bind} {ns ns1 vs1 : List Nat} (hi : SI Γ sc tg iter fi) (hk : blkC sc.N { scope with names := sc.names } scope own = true) (hown : (own.all fun p => decide (kdAt sc.kd p.2 = .imm)) = true) (hns : (ns.all fun i => decide (i ∈ own.map (·.2))) = true) (hns1 : (ns1.all fun i => decide (i ∈ vs1)) = true) (hv1 : ∀ i ∈ vs1, i ∈ own.map (·.2))
    (hg : SG Γ (sc.blk scope) tg bd ns) (ht : STs Γ (sc.blk scope) ifs ft) (hi1 : SI Γ (sc.blk scope) tg1 iter1 fi1) (hg1 : SG Γ (sc.blk scope) tg1 bd1 ns1) (ht1 : STs Γ (sc.blk scope) ifs1 ft1) (he : SV Γ (sc.blk scope) elt fe) (hs : ∀ env x, foldedSetIterable iter env x = pure x := by intro _ _; rfl) (hs1 : ∀ env x, foldedSetIterable iter1 env x = pure x := by intro _ _; rfl) :
    SF Γ sc (.ListComp elt [⟨tg, iter, ifs, 0⟩, ⟨tg1, iter1, ifs1, 0⟩] scope pos) (mLc2 (own.map (·.2)) vs1 fi bd ft fi1 bd1 ft1 fe) := by
  intro n X cx W tk en e σ F H r Q P
  refine je (pe_lc2 cx.calm cx.nd JI.pi (blk_ok cx hk) hv1 BG.pg BT.pt BI.pi BG.pg BT.pt BE.pe (hs _) hs1) ?_
  exact lc2_read hi hown hns hns1 hv1 hg ht hi1 hg1 ht1 he cx tk r P
theorem sf_dc2 {ifs ifs1 : List Expr} {scope : Scope} {own : List (Str × Nat)} {fi fi1 : M (List Val)} {bd bd1 : Bind} {ns ns1 vs1 : List Nat} (hi : SI Γ sc tg iter fi) (hk : blkC sc.N { scope with names := sc.names } scope own = true) (hown : (own.all fun p => decide (kdAt sc.kd p.2 = .imm)) = true) (hns : (ns.all fun i => decide (i ∈ own.map (·.2))) = true) (hns1 : (ns1.all fun i => decide (i ∈ vs1)) = true) (hv1 : ∀ i ∈ vs1, i ∈ own.map (·.2))
    (hg : SG Γ (sc.blk scope) tg bd ns) (ht : STs Γ (sc.blk scope) ifs ft) (hi1 : SI Γ (sc.blk scope) tg1 iter1 fi1) (hg1 : SG Γ (sc.blk scope) tg1 bd1 ns1) (ht1 : STs Γ (sc.blk scope) ifs1 ft1) (hkx : SV Γ (sc.blk scope) kx fk) (he : SV Γ (sc.blk scope) vx fe) (hs : ∀ env x, foldedSetIterable iter env x = pure x := by intro _ _; rfl) (hs1 : ∀ env x, foldedSetIterable iter1 env x = pure x := by intro _ _; rfl) :
    SF Γ sc (.DictComp kx vx [⟨tg, iter, ifs, 0⟩, ⟨tg1, iter1, ifs1, 0⟩] scope pos) (mDc2 (own.map (·.2)) vs1 fi bd ft fi1 bd1 ft1 fk fe) := by
  intro n X cx W tk en e σ F H r Q P
  refine je (pe_dc2 cx.calm cx.nd JI.pi (blk_ok cx hk) hv1 BG.pg BT.pt BI.pi BG.pg BT.pt BE.pe BE.pe (hs _) hs1) ?_
  exact dc2_read hi hown hns hns1 hv1 hg ht hi1 hg1 ht1 hkx he cx tk r P
theorem sf_dc {ifs : List Expr} {scope : Scope} {own : List (Str × Nat)} {fi : M (List Val)} {bd : Bind} {ns : List Nat} (hi : SI Γ sc tg iter fi) (hk : blkC sc.N { scope with names := sc.names } scope own = true) (hown : (own.all fun p => decide (kdAt sc.kd p.2 = .imm)) = true) (hns : (ns.all fun i => decide (i ∈ own.map (·.2))) = true)
    (hg : SG Γ (sc.blk scope) tg bd ns) (ht : STs Γ (sc.blk scope) ifs ft) (hkx : SV Γ (sc.blk scope) kx fk) (he : SV Γ (sc.blk scope) vx fe) (hs : ∀ env x, foldedSetIterable iter env x = pure x := by intro _ _; rfl) :
    SF Γ sc (.DictComp kx vx [⟨tg, iter, ifs, 0⟩] scope pos) (mDc (own.map (·.2)) fi bd ft fk fe) := by
  intro n X cx W tk en e σ F H r Q P
  refine je (pe_dc cx.calm cx.nd JI.pi (blk_ok cx hk) BG.pg BT.pt BE.pe BE.pe (hs _)) ?_
  exact dc_read hi hown hns hg ht hkx he cx tk r P
end
end CG
end
section
set_option Elab.async false
set_option linter.all false
set_option maxRecDepth 100000
set_option autoImplicit false
/-! CG26: sorted of a dict's keys, zip, list and tuple of a range. -/
namespace CG
open PySem PySem.Spec L2
def keysI : List (Key × Val) → Option (List Int)
  | [] => some []
  | (.inl i, _) :: r => (keysI r).map (i :: ·)
  | _ => none
def sortDV : Val → Option Val
  | .dct kvs => (match keysI kvs with
    | some ks => if ks.length < 64 then some (.lst ((ks.mergeSort fun a b => decide (a ≤ b)).map .int)) else none
    | none => none)
  | _ => none
theorem keysI_krs {K : PySem.W.Frag} {C : Str → Option Addr} {F : Hp} : ∀ {kvs : List (Key × Val)} {kus : List (Key × V)} {ks : List Int}, KRs K C F kvs kus → keysI kvs = some ks → kus.map (·.1) = ks.map Sum.inl
  | [], _, ks, .nil, h => by simp [keysI] at h; subst h; rfl
  | (.inl i, v) :: r, _, ks, .cons hv t, h => by
    simp only [keysI] at h
    obtain ⟨ls, h1, rfl⟩ := Option.map_eq_some_iff.mp h
    simp [keysI_krs t h1]
  | (.inr i, v) :: r, _, ks, .cons hv t, h => by simp [keysI] at h
theorem msort_uniq {ys ks : List Int} (hp : ys.Perm ks) (hs : ys.Pairwise (· ≤ ·)) : ys = ks.mergeSort fun a b => decide (a ≤ b) := by
  refine List.Perm.eq_of_pairwise (le := (· ≤ ·)) (fun a b _ _ h1 h2 => Int.le_antisymm h1 h2) hs ?_ (hp.trans (List.mergeSort_perm ks _).symm)
  exact (List.pairwise_mergeSort (le := fun a b => decide (a ≤ b)) (fun a b c => by simp; omega) (fun a b => by simp; omega) ks).imp (by simp)
theorem sortDV_lst {vs : List Val} {r : Val} (h : op1 sortDV vs = some r) : ∃ ws, r = .lst ws := by
  obtain ⟨v, rfl, hq⟩ := op1_some h
  clear h
  unfold sortDV at hq
  split at hq
  · split at hq
    · split at hq
      · cases hq; exact ⟨_, rfl⟩
      · cases hq
    · cases hq
  · cases hq
section
variable {Γ : GX} {sc : Sc} {fr : Bool} {a b : Expr} {f g : M Val} {pos p p2 tpos : Pos}
theorem cnf_sortD : CNF Γ (.builtin "sorted") (op1 sortDV) := by
  intro sc n X cx vs r ho F H sm xs tr Q q pins s σ us I rv
  obtain ⟨v, rfl, hq⟩ := op1_some ho
  clear ho
  obtain ⟨u, rfl, t⟩ := tr.one
  unfold sortDV at hq
  split at hq
  · rename_i kvs
    split at hq
    · rename_i ks hks
      split at hq
      · rename_i hl
        cases hq
        obtain ⟨p1, ws, rfl, h1, v1⟩ := t.dct sm
        refine call_sortedDI cx.calm pins s σ H _ us Q I rv ⟨p1, ws, ks, rfl, .inl h1, keysI_krs v1 hks, hl, fun ys q1 hp hs hq1 => ?_⟩
        rw [msort_uniq hp hs]
        exact q q1 _ _ rfl hq1 (vrs_ints _)
      · cases hq
    · cases hq
  · cases hq
/-! ### zip -/
def wZip (f g : M Val) : M (List Val) := fun cl e => (f cl e).bind fun a e1 => (g cl e1).bind fun b e2 => match a, b with
  | .lst xs, .lst ys => .ok (zipV xs ys) e2
  | .tup xs, .tup ys => .ok (zipV xs ys) e2
  | _, _ => .no
theorem zipV_len : ∀ {xs ys : List Val}, (zipV xs ys).length = min xs.length ys.length
  | [], _ => by simp [zipV]
  | _ :: _, [] => by simp [zipV]
  | x :: xs, y :: ys => by simp [zipV, zipV_len]
theorem zipV_get : ∀ {xs ys : List Val} {i : Nat} {v w : Val}, xs[i]? = some v → ys[i]? = some w → (zipV xs ys)[i]? = some (Val.tup [v, w])
  | [], _, _, _, _, h, _ => by simp at h
  | _ :: _, [], _, _, _, _, h => by simp at h
  | x :: xs, y :: ys, 0, _, _, h1, h2 => by simp at h1 h2; simp [zipV, h1, h2]
  | x :: xs, y :: ys, i + 1, _, _, h1, h2 => by simp [zipV]; exact zipV_get (by simpa using h1) (by simpa using h2)
theorem walk_zipTup {K : PySem.W.Frag} {a b : Addr} {xs ys : List V} : L2.Walk (RZ.ItzT K a b) (min xs.length ys.length) (fun H => SqT K H a xs ∧ SqT K H b ys) (YPair (fun i => xs[i]?) (fun i => ys[i]?)) := by
  refine ⟨fun i _ hi q => ⟨xs, ys, xs[i]'(by omega), ys[i]'(by omega), q.1, q.2, by simp [show i < xs.length by omega], by simp [show i < ys.length by omega]⟩, fun _ q => ⟨xs, ys, q.1, q.2, by omega⟩, fun i H v H' _ q ⟨T, x, z, h1, h2, h3, h4, h5⟩ => ⟨T, x, z, h1, h2, h3, h4 xs q.1, h5 ys q.2⟩⟩
theorem walkV_zip {J : It} {xs ys : List Val} {us ws : List V} {F1 : Hp} {G : Hp → Prop} (w : L2.Walk J (min us.length ws.length) G (YPair (fun i => us[i]?) (fun i => ws[i]?))) (hG : ∀ F H, Same F1 F → Same F H → G H) (h : VRs Γ.K Γ.C F1 xs us) (h2 : VRs Γ.K Γ.C F1 ys ws) : WalkV Γ J (zipV xs ys) F1 := by
  unfold WalkV
  rw [zipV_len, ← h.length, ← h2.length]
  refine ⟨fun i H hi ⟨F, s1, s2⟩ => w.goes i H hi (hG F H s1 s2), fun H ⟨F, s1, s2⟩ => w.stops H (hG F H s1 s2), fun i H x H' hi ⟨F, s1, s2⟩ y F2 t1 t2 => ?_⟩
  obtain ⟨T, x1, y1, rfl, hT, rfl, hx, hy⟩ := w.yields i H x H' hi (hG F H s1 s2) y
  obtain ⟨v, hv, rv⟩ := h.get' hx
  obtain ⟨v', hv', rv'⟩ := h2.get' hy
  have g := Grow.alloc (o := .tup [x1, y1]) t2 hT
  exact ⟨_, _, zipV_get hv hv', g, .tup (.inl (.inl upd_same)) (.cons ((rv.mono t1).mono g.ff) (.cons ((rv'.mono t1).mono g.ff) .nil))⟩
theorem si_zip {elts : List Expr} {kk : Nat} (hx : sc.names.lookup ("zip" : Str) = some .globalImplicit) (hf : SV Γ sc a f) (hg : SV Γ sc b g) (hs : ∀ env, starEach [a, b] env = (false, eval a env) :: starEach [b] env := by intro _; rfl)
    (hs2 : ∀ env, starEach [b] env = (false, eval b env) :: starEach [] env := by intro _; rfl) (hpl : ∀ env, (backTo pos (starEach [b] env)).any (·.1) = false := by intro _; rfl) : SI Γ sc (.Tuple elts kk tpos) (.Call (.Name "zip" p) [a, b] [] pos) (wZip f g) := by
  intro n X cx W tk en e σ F H r R P
  refine ji (RZ.pi_zipA (cx.gl hx) (by rw [cx.mg]; exact cx.nb _ (by decide)) (pa_cons JE.pe (pa_cons JE.pe pa_nil (hs2 _)) (hs _)) (hs _) (hpl _)) ?_
  refine hf cx tk r (Post.seq P fun v e1 u F1 H1 s1 r1 t1 P1 => hg cx tk r1 (Post.seq P1 fun w e2 u2 F2 H2 s2 r2 t2 P2 => ?_))
  have key : (∃ xs ys, v = .lst xs ∧ w = .lst ys) ∨ ∃ xs ys, v = .tup xs ∧ w = .tup ys := by
    cases v <;> cases w <;> first | exact .inl ⟨_, _, rfl, rfl⟩ | exact .inr ⟨_, _, rfl, rfl⟩ | exact P2.elim
  rcases key with ⟨xs, ys, rfl, rfl⟩ | ⟨xs, ys, rfl, rfl⟩
  · cases t1 with
    | @lst q us _ hq hv =>
    cases t2 with
    | @lst q2 us2 _ hq2 hv2 =>
      have e1 := hq
      refine ⟨q, q2, us, us2, rfl, .inl ⟨SqL.of (r2.sub _ _ (s2 _ _ hq)), SqL.of (r2.sub _ _ hq2), P2.ok _ F2 H2 (Same.refl _) r2 ?_⟩⟩
      rw [cx.K]
      exact walkV_zip (walk_zip rfl) (fun F H s3 s4 => ⟨SqL.of (s4 _ _ (s3 _ _ (s2 _ _ hq))), SqL.of (s4 _ _ (s3 _ _ hq2))⟩) (hv.mono s2) hv2
  · cases t1 with
    | @tup q us _ hq hv =>
    cases t2 with
    | @tup q2 us2 _ hq2 hv2 =>
      refine ⟨q, q2, us, us2, rfl, .inr ⟨by rw [cx.K]; exact sqT_mono r2.sub (sqT_mono s2 hq), by rw [cx.K]; exact sqT_mono r2.sub hq2, P2.ok _ F2 H2 (Same.refl _) r2 ?_⟩⟩
      rw [cx.K]
      exact walkV_zip walk_zipTup (fun F H s3 s4 => ⟨sqT_mono s4 (sqT_mono s3 (sqT_mono s2 hq)), sqT_mono s4 (sqT_mono s3 hq2)⟩) (hv.mono s2) hv2
/-! ### list(range(n)), tuple(range(n)) -/
def mLstRg (f : M Val) : M Val := fun cl e => (f cl e).bind fun a e1 => match a with
  | .int j => if 0 ≤ j ∧ j ≤ 16777216 then .ok (.lst (rangeV 0 j.toNat)) e1 else .no
  | _ => .no
def mTupRg (f : M Val) : M Val := fun cl e => (f cl e).bind fun a e1 => match a with
  | .int j => if 0 ≤ j ∧ j ≤ 16777216 then .ok (.tup (rangeV 0 j.toNat)) e1 else .no
  | _ => .no
theorem vrs_range {F : Hp} {j : Int} : VRs Γ.K Γ.C F (rangeV 0 j.toNat) (rgV 0 j) := by
  unfold rangeV rgV
  rw [Int.sub_zero]
  generalize List.range j.toNat = l
  induction l with
  | nil => exact .nil
  | cons x l ih => exact .cons (.int _) ih
theorem sf_lstRg (bn : BlN sc "list" (.type "list")) (hr : sc.names.lookup ("range" : Str) = some .globalImplicit) {q : Pos} (hf : SV Γ sc a f) (hs : ∀ env, starEach [a] env = (false, eval a env) :: starEach [] env := by intro _; rfl)
    (hs2 : ∀ env, starEach [.Call (.Name "range" p2) [a] [] q] env = (false, eval (.Call (.Name "range" p2) [a] [] q) env) :: starEach [] env := by intro _; rfl) : SF Γ sc (.Call (.Name "list" p) [.Call (.Name "range" p2) [a] [] q] [] pos) (mLstRg f) := by
  intro n X cx W tk en e σ F H r Q P
  refine je (pe_listRg cx.calm (cx.gl bn.hg) (by rw [cx.mg]; exact cx.nb _ bn.hb) (prg_1 (cx.gl hr) (by rw [cx.mg]; exact cx.nb _ (by decide)) JE.pe (hs _)) (hs2 _)) ?_
  refine hf cx tk r (Post.seq P fun v e1 u F1 H1 s1 r1 t1 P1 => ?_)
  cases v with
  | int j =>
    cases t1
    simp only at P1
    by_cases hj : 0 ≤ j ∧ j ≤ 16777216
    · rw [if_pos hj] at P1
      refine ⟨j, rfl, RgOk.of_le (by omega) hj.2 (by omega) hj.1, fun q hq => ?_⟩
      obtain ⟨r2, fr⟩ := fresh_new r1 hq (vrs_range (j := j))
      exact P1.ok _ _ _ (Same.refl _) r2 fr
    · rw [if_neg hj] at P1; exact P1.elim
  | _ => exact P1.elim
theorem sv_tupRg (bn : BlN sc "tuple" (.type "tuple")) (hr : sc.names.lookup ("range" : Str) = some .globalImplicit) {q : Pos} (hf : SV Γ sc a f) (hs : ∀ env, starEach [a] env = (false, eval a env) :: starEach [] env := by intro _; rfl)
    (hs2 : ∀ env, starEach [.Call (.Name "range" p2) [a] [] q] env = (false, eval (.Call (.Name "range" p2) [a] [] q) env) :: starEach [] env := by intro _; rfl) : SV Γ sc (.Call (.Name "tuple" p) [.Call (.Name "range" p2) [a] [] q] [] pos) (mTupRg f) := by
  intro n X cx W tk en e σ F H r Q P
  refine je (pe_tupRg cx.calm (cx.gl bn.hg) (by rw [cx.mg]; exact cx.nb _ bn.hb) (prg_1 (cx.gl hr) (by rw [cx.mg]; exact cx.nb _ (by decide)) JE.pe (hs _)) (hs2 _)) ?_
  refine hf cx tk r (Post.seq P fun v e1 u F1 H1 s1 r1 t1 P1 => ?_)
  cases v with
  | int j =>
    cases t1
    simp only at P1
    by_cases hj : 0 ≤ j ∧ j ≤ 16777216
    · rw [if_pos hj] at P1
      refine ⟨j, rfl, RgOk.of_le (by omega) hj.2 (by omega) hj.1, fun q hq => ?_⟩
      refine new_tup (Γ := Γ) r1.sub (vrs_range (j := j)) (fun u F' H' g hv => ?_) q hq
      exact P1.ok _ F' H' g.ff (r1.grow g) hv
    · rw [if_neg hj] at P1; exact P1.elim
  | _ => exact P1.elim
end
end CG
end
section
set_option Elab.async false
set_option linter.all false
set_option maxRecDepth 100000
set_option autoImplicit false
/-! CG27: a field's lists of neighbours. -/
namespace CG
open PySem PySem.Spec L2
def sNear2 (s m t o1 o2 : Nat) : S := fun _ e => match e[s]?, e[m]?, e[t]? with
  | some (some (.obj c fs)), some (some (.int n)), some (some (.tup ts)) => if small n ∧ n.toNat ≤ line ∧ fs.length < 1000 ∧ o1 < e.length ∧ o2 < e.length then (match nearGo ts (List.replicate n.toNat []) with
    | some rows => .next ((((e.set s none).set o1 none).set o2 none).set s (some (.obj c (putFV "near" (rowsV rows) fs))))
    | none => .no) else .no
  | _, _, _ => .no
section
variable {K : PySem.W.Frag} {C : Str → Option Addr} {kd : Kds} {en : Ent} {e : Env} {σ : L2.St} {F H F' : Hp}
/-- not any owned slot's thing, and no old one -/
structure Priv (kd : Kds) (en : Ent) (e : Env) (σ : L2.St) (F : Hp) (p : Addr) : Prop where
  f : F p = none
  h0 : en.H0 p = none
  ap : ∀ (i : Nat) (w : Val), kdAt kd i ≠ .imm → e[i]? = some (some w) → σ[i]? ≠ some (some (.ref p))
theorem Rel.priv {p : Addr} (r : Rel K C kd en e σ F H) (hp : H p = none) : Priv kd en e σ F p where
  f := r.sub.free hp
  h0 := by
    cases z : en.H0 p with
    | none => rfl
    | some o => exact absurd hp (r.b3 p (by rw [z]; simp))
  ap := fun i w k hi si => by
    obtain ⟨u, su, q⟩ := r.own i w k hi
    rw [si] at su; cases su
    rcases q with ⟨s, q⟩ | ⟨a, e1, ow, _⟩
    · exact (scalar_of q s).1 p rfl
    · cases e1; exact ow.there hp
theorem Rel.updP {a : Addr} {o : HO} (r : Rel K C kd en e σ F H) (pv : Priv kd en e σ F a) (hno : ∀ x, H a ≠ some (.own x)) : Rel K C kd en e σ F (upd H a o) := r.updF pv.f pv.h0 pv.ap hno
/-- a dead in/out slot's thing is changed -/
theorem Rel.updK {a : Addr} {o : HO} (r : Rel K C kd en e σ F H) (hF : F a = none) (h0 : a ∈ en.io) (ap : ∀ (i : Nat) (w : Val), kdAt kd i ≠ .imm → e[i]? = some (some w) → σ[i]? ≠ some (some (.ref a))) (hno : ∀ x, H a ≠ some (.own x)) : Rel K C kd en e σ F (upd H a o) where
  sub := fun q o' hq => by
    by_cases hqa : q = a
    · subst hqa; rw [hF] at hq; cases hq
    · rw [L2.upd_ne hqa]; exact r.sub q o' hq
  len := r.len
  imm := r.imm
  own := fun j w kj hj => by
    obtain ⟨u, su, q⟩ := r.own j w kj hj
    refine ⟨u, su, ?_⟩
    rcases q with q | ⟨b, rfl, ob, nb, lb, pb⟩
    · exact .inl q
    · exact .inr ⟨b, rfl, ob.upd_ne (fun z => ap j w kj hj (by rw [← z]; exact su)) hno, nb, lb, pb⟩
  sep := r.sep
  b1 := fun q o' hq hn => by
    by_cases hqa : q = a
    · subst hqa; exact absurd h0 hn
    · rw [L2.upd_ne hqa]; exact r.b1 q o' hq hn
  b2 := r.b2
  b3 := fun q hq => by
    by_cases hqa : q = a
    · subst hqa; rw [upd_same]; simp
    · rw [L2.upd_ne hqa]; exact r.b3 q hq
  b4 := r.b4
  b5 := r.b5
/-- private lists are frozen -/
theorem Rel.freeze (r : Rel K C kd en e σ F H) (h1 : Same F F') (h2 : Same F' H) (h3 : ∀ q, F' q ≠ none → F q ≠ none ∨ (Priv kd en e σ F q ∧ ∀ x, H q ≠ some (.own x))) : Rel K C kd en e σ F' H where
  sub := h2
  len := r.len
  imm := fun i v k h => let ⟨u, a, b⟩ := r.imm i v k h; ⟨u, a, b.mono h1⟩
  own := fun i v k h => by
    obtain ⟨u, s, q⟩ := r.own i v k h
    refine ⟨u, s, ?_⟩
    rcases q with ⟨z, q⟩ | ⟨b, rfl, ob, nb, lb, pb⟩
    · exact .inl ⟨z, q.mono h1⟩
    · have nF : ∀ x, F x = none → (Priv kd en e σ F x ∧ (∀ y, H x ≠ some (.own y)) → False) → F' x = none := fun x hx hc => by
        cases z : F' x with
        | none => rfl
        | some o =>
          rcases h3 x (by rw [z]; simp) with w | w
          · exact absurd hx w
          · exact (hc w).elim
      refine .inr ⟨b, rfl, ob.mono h1 (fun _ z => z) (fun dx d nd => ⟨d, nF dx nd fun w => w.2 _ d⟩), nF b nb fun w => w.1.ap i v k h s, lb, pb⟩
  sep := r.sep
  b1 := r.b1
  b2 := fun q hq => by
    rcases h3 q hq with w | w
    · exact r.b2 q w
    · exact .inr w.1.h0
  b3 := r.b3
  b4 := r.b4.trans h1
  b5 := r.b5
theorem vrs_ix : ∀ {vs : List Val} {us : List V}, vs.length = us.length → (∀ (i : Nat) (v : Val) (u : V), vs[i]? = some v → us[i]? = some u → VR K C F v u) → VRs K C F vs us
  | [], [], _, _ => .nil
  | [], _ :: _, h, _ => by simp at h
  | _ :: _, [], h, _ => by simp at h
  | v :: vs, u :: us, h, g => .cons (g 0 v u rfl rfl) (vrs_ix (by simpa using h) fun i v u h1 h2 => g (i + 1) v u (by simpa using h1) (by simpa using h2))
theorem Rows.upd {H0 H : Hp} {D : Addr} {ps : List Addr} {rows : List (List Int)} (R : Rows H0 H D ps rows) {q : Addr} {o : HO} (h : H0 q ≠ none) : Rows (upd H0 q o) (upd H q o) D ps rows := by
  have qD : q ≠ D := by rintro rfl; exact h R.d0
  have qp : q ∉ ps := fun z => h (R.p0 q z)
  refine ⟨R.len, R.nd, R.dn, (L2.upd_ne (Ne.symm qD)).trans R.d0, fun p hp => (L2.upd_ne (by rintro rfl; exact qp hp)).trans (R.p0 p hp), (L2.upd_ne (Ne.symm qD)).trans R.hD, fun i p r h1 h2 => (L2.upd_ne (by rintro rfl; exact qp (List.mem_of_getElem? h1))).trans (R.hp i p r h1 h2), fun x h1 h2 => ?_⟩
  by_cases hx : x = q
  · subst hx; rw [upd_same, upd_same]
  · rw [L2.upd_ne hx, L2.upd_ne hx]; exact R.rest x h1 h2
open Classical in
/-- all rows frozen at once -/
theorem Rel.freezeRows {H0 : Hp} {D : Addr} {ps : List Addr} {rows : List (List Int)} (r : Rel K C kd en e σ F H) (R : Rows H0 H D ps rows) (pD : Priv kd en e σ F D) (pp : ∀ p ∈ ps, Priv kd en e σ F p) : ∃ F', Same F F' ∧ Rel K C kd en e σ F' H ∧ VR K C F' (rowsV rows) (.ref D) ∧ (∀ q, F q = none → q ≠ D → q ∉ ps → F' q = none) := by
  have hH : ∀ q, q = D ∨ q ∈ ps → ∃ us, H q = some (.lst us) := fun q hq => by
    rcases hq with rfl | hq
    · exact ⟨_, R.hD⟩
    · obtain ⟨i, hi⟩ := List.getElem?_of_mem hq
      have hl : i < rows.length := by rw [← R.len]; exact (List.getElem?_eq_some_iff.mp hi).1
      exact ⟨_, R.hp i q _ hi (List.getElem?_eq_getElem hl)⟩
  have nF : ∀ q, q = D ∨ q ∈ ps → F q = none := fun q hq => by
    rcases hq with rfl | hq
    · exact pD.f
    · exact (pp q hq).f
  refine ⟨fun q => if q = D ∨ q ∈ ps then H q else F q, fun q o hq => ?_, ?_, ?_, fun q h1 h2 h3 => ?_⟩
  · show (if q = D ∨ q ∈ ps then H q else F q) = _
    rw [if_neg fun z => by rw [nF q z] at hq; cases hq]; exact hq
  · refine r.freeze (fun q o hq => ?_) (fun q o hq => ?_) fun q hq => ?_
    · show (if q = D ∨ q ∈ ps then H q else F q) = _
      rw [if_neg fun z => by rw [nF q z] at hq; cases hq]; exact hq
    · have hq : (if q = D ∨ q ∈ ps then H q else F q) = _ := hq
      split at hq
      · exact hq
      · exact r.sub q o hq
    · have hq : (if q = D ∨ q ∈ ps then H q else F q) ≠ none := hq
      split at hq
      · rename_i z
        obtain ⟨us, hu⟩ := hH q z
        refine .inr ⟨?_, fun x hx => by rw [hu] at hx; cases hx⟩
        rcases z with rfl | z
        · exact pD
        · exact pp q z
      · exact .inl hq
  · refine .lst (us := ps.map V.ref) ((if_pos (.inl rfl)).trans R.hD) (vrs_ix (by simp [R.len]) fun i v u h1 h2 => ?_)
    rw [List.getElem?_map] at h1 h2
    cases h3 : rows[i]? with
    | none => rw [h3] at h1; cases h1
    | some row =>
    cases h4 : ps[i]? with
    | none => rw [h4] at h2; cases h2
    | some p =>
    rw [h3] at h1; rw [h4] at h2
    cases h1; cases h2
    exact .lst ((if_pos (.inr (List.mem_of_getElem? h4))).trans (R.hp i p row h4 h3)) (vrs_ints row)
  · show (if q = D ∨ q ∈ ps then H q else F q) = _
    rw [if_neg (by simp [h2, h3])]; exact h1
end
section
variable {Γ : GX} {sc : Sc}
theorem near_step {s t : List Val} {v : Val} {rows out : List (List Int)} (h : nearGo (v :: t) rows = some out) : ∃ i j r1 r2, v = .tup [.int i, .int j] ∧ addRow rows i j = some r1 ∧ addRow r1 j i = some r2 ∧ nearGo t r2 = some out := by
  unfold nearGo at h
  split at h
  · rename_i e; cases e
  · rename_i i j r e1
    cases e1
    obtain ⟨r1, h1, h⟩ := Option.bind_eq_some_iff.mp h
    obtain ⟨r2, h2, h⟩ := Option.bind_eq_some_iff.mp h
    exact ⟨i, j, r1, r2, rfl, h1, h2, h⟩
  · cases h
theorem set_get {α : Type} {l : List α} {i : Nat} {x : α} (h : i < l.length) : (l.set i x)[i]? = some x := List.getElem?_set_self h
theorem lookup_putF {x : Str} {u : V} : ∀ {fs : List (Str × V)}, (putF x u fs).lookup x = some u
  | [] => by simp [putF]
  | (g, y) :: r => by
    unfold putF
    by_cases hg : g = x
    · subst hg; simp
    · rw [if_neg hg, List.lookup_cons]
      have : (x == g) = false := by simp [Ne.symm hg]
      rw [this]; exact lookup_putF

theorem ix_lt {n i : Nat} (h : i < n) : L2.ixN n (i : Int) = some i := by
  unfold L2.ixN
  have h1 : ¬ ((i : Int) < 0) := by omega
  have h2 : ¬ ((n : Int) ≤ (i : Int)) := by omega
  simp [h1, h2]
  try omega
theorem app_step {n : Nat} {X : Cx} (cx : Compat Γ sc n X) {is oi oj : Nat} {xs xi xj : Str} {p1 p2 p3 p4 p5 p6 p7 p8 : Pos} (ss : SlotN sc is xs) (si : Seen sc oi xi) (sj : Seen sc oj xj) (di : (xi == ("__debug__" : Str)) = false ∧ (xi == ("__classdict__" : Str)) = false) (dj : (xj == ("__debug__" : Str)) = false ∧ (xj == ("__classdict__" : Str)) = false)
    {σ : L2.St} {H H0 : Hp} {Dn : Ends} {q D Ca dx : Addr} {fus : List (Str × V)} {ps : List Addr} {rows rows' : List (List Int)} {i j : Int} (hq : σ[is]? = some (some (.ref q))) (hH : H q = some (.ins Ca dx fus)) (hc : Cls Γ.K Ca) (hn : NoAttr Γ.K Ca "near") (hl : fus.lookup ("near" : Str) = some (.ref D))
    (R : Rows H0 H D ps rows) (hi : σ[oi]? = some (some (.int i))) (hj : σ[oj]? = some (some (.int j))) (ha : addRow rows i j = some rows') (hline : (p5.endLine == p7.line) = true) (h : ∀ p o, p ∈ ps → Rows H0 (upd H p (.lst o)) D ps rows' → Dn.nx σ (upd H p (.lst o))) :
    JS X (.Expr (.Call (.Attribute (.Subscript (.Attribute (.Name xs p1) "near" p2) (.Name xi p3) p4) "append" p5) [.Name xj p6] [] p7) p8) Dn σ H := by
  have vi : PE X (.Name xi p3) (tVar oi) := pe_var (by rw [cx.N]; exact si.1) (cx.vis si.2) di.1 di.2
  have vj : PE X (.Name xj p6) (tVar oj) := pe_var (by rw [cx.N]; exact sj.1) (cx.vis sj.2) dj.1 dj.2
  obtain ⟨h0, h1, h2, p, hp, hpH, R'⟩ := R.app ha
  refine js (ps_expr (pe_bm PySem.F.plainAttrs_list PySem.F.slot_list_append PySem.F.type_list_append mt_append (pe_ix ix_list (pe_fld (ss.pe cx) rfl) vi (fun _ _ => rfl)) (pa_cons vj pa_nil rfl) rfl rfl hline rfl rfl) rfl) ?_
  refine ⟨_, hq, q, Ca, dx, fus, _, rfl, hH, by rw [cx.K]; exact hc, by rw [cx.K]; exact hn, hl, _, hi, D, _, i, .ref p, rfl, rfl, SqL.of R.hD, ?_, ?_⟩
  · obtain ⟨k, rfl⟩ := Int.eq_ofNat_of_zero_le h0
    exact atI_nat (by simp at hp ⊢; exact hp)
  · refine ⟨.inl ⟨rfl, _, SqL.of hpH⟩, _, hj, p, _, _, rfl, rfl, hpH, ?_, ?_⟩
    · rw [List.length_map]; exact h2
    · exact h p _ (List.mem_of_getElem? hp) R'
theorem near_lc {n : Nat} {X : Cx} (cx : Compat Γ sc n X) {im i0 : Nat} {xm x0 : Str} {p3 p4 p5 p6 p7 p8 : Pos} {scope : Scope} (hm : Seen sc im xm) (dm : (xm == ("__debug__" : Str)) = false ∧ (xm == ("__classdict__" : Str)) = false) (hr : sc.names.lookup ("range" : Str) = some .globalImplicit) (hk : blkC sc.N { scope with names := sc.names } scope [(x0, i0)] = true) (l0 : LocC (sc.blk scope) i0 x0)
    {σ : L2.St} {H : Hp} {k : Int} (hs : σ[im]? = some (some (.int k))) (sm : small k = true) (hk2 : k.toNat ≤ line) {Q : VK} (h : ∀ D H' ps, Rows H H' D ps (List.replicate k.toNat []) → Q (.ref D) H') :
    JE X (.ListComp (.List [] p3) [⟨.Name x0 p4, .Call (.Name "range" p5) [.Name xm p6] [] p7, [], 0⟩] scope p8) σ H Q := by
  have vm : PE X (.Name xm p6) (tVar im) := pe_var (by rw [cx.N]; exact hm.1) (cx.vis hm.2) dm.1 dm.2
  have pg : ∀ (s : Shared) (H : Hp) (C : Addr) (cl : List (Str × Addr)) (fp : List Addr), PG (X.blk s H scope (compEnvC scope cl C X.env) fp) (.Name x0 p4) (gName i0) := fun s H C cl fp => by
    have cb := cx.blk (scope := scope) s H C cl fp
    exact pg_name cb.nd (by rw [cb.N]; exact l0.1) (cb.locn l0.2) (cb.fnl l0.2)
  refine je (pe_lc cx.calm cx.nd (pi_range1 (cx.gl hr) (by rw [cx.mg]; exact cx.nb _ (by decide)) (pa_cons vm pa_nil rfl) rfl) (blk_ok cx hk) pg (fun _ _ _ _ _ => pts_nil) (fun _ _ _ _ _ => pe_lst pa_nil) (fun _ => rfl)) ?_
  have s2 := small_iff.mp sm
  refine ⟨_, hs, k, rfl, s2.1, s2.2, fun D hD => ?_⟩
  refine lc_it walk_range (fun i H' => ∃ ps, Rows H H' D ps (List.replicate i [])) ⟨[], ?_⟩ (fun _ _ _ _ => trivial) (fun i x H1 H2 hi ⟨ps, R⟩ ⟨e1, e2⟩ => ?_) (fun H' ⟨ps, R⟩ => h D H' ps R)
  · exact ⟨rfl, List.nodup_nil, by simp, hD, by simp, upd_same, fun i p r h => by simp at h, fun q h1 _ => L2.upd_ne h1⟩
  · subst e1 e2
    refine ⟨?_, ?_⟩
    · show wipe ((wipe σ [i0]).set i0 _) [i0] = wipe σ [i0]
      simp [wipe, List.set_set]
    · simp only [tYes, if_true]
      refine ⟨by show 0 ≤ sizeLine; decide, fun l hl => ?_⟩
      have hlen := R.len
      simp at hlen
      refine ⟨ps.map V.ref, ?_, by rw [List.length_map, hlen]; exact Nat.lt_of_lt_of_le hi hk2, ps ++ [l], ?_⟩
      · rw [L2.upd_ne (by rintro rfl; rw [R.hD] at hl; cases hl)]; exact R.hD
      · have := R.push hl
        simpa using this
theorem Rel.slots {kd : Kds} {en : Ent} {e : Env} {σ : L2.St} {F H : Hp} (r : Rel Γ.K Γ.C kd en e σ F H) {e' : Env} (hl : e'.length = e.length) (h : ∀ (j : Nat) (v : Val), e'[j]? = some (some v) → e[j]? = some (some v)) : Rel Γ.K Γ.C kd en e' σ F H where
  sub := r.sub
  len := hl.trans r.len
  imm := fun i v k hi => r.imm i v k (h i v hi)
  own := fun i v k hi => r.own i v k (h i v hi)
  sep := fun i j a v w hij ki kj hi hj si sj => r.sep i j a v w hij ki kj (h i v hi) (h j w hj) si sj
  b1 := r.b1
  b2 := r.b2
  b3 := r.b3
  b4 := r.b4
  b5 := r.b5
set_option maxHeartbeats 1000000 in
theorem sss_near {is im it_ o1 o2 i0 : Nat} {xself xm xt x1 x2 x0 : Str} {scope : Scope} {a1 a2 a3 a4 a5 a6 a7 a8 a9 b1 b2 b3 b4 b5 c1 c2 c3 c4 c5 c6 c7 c8 d1 d2 d3 d4 d5 d6 d7 d8 : Pos} {kk : Nat}
    (ss : SlotN sc is xself) (hio : kdAt sc.kd is = .io) (hm : Seen sc im xm) (km : kdAt sc.kd im = .imm) (ht : Seen sc it_ xt) (kt : kdAt sc.kd it_ = .imm) (h1 : LocC sc o1 x1) (k1 : kdAt sc.kd o1 = .imm) (h2 : LocC sc o2 x2) (k2 : kdAt sc.kd o2 = .imm) (h12 : o1 ≠ o2)
    (v1 : Seen sc o1 x1) (v2 : Seen sc o2 x2) (dm : (xm == ("__debug__" : Str)) = false ∧ (xm == ("__classdict__" : Str)) = false) (dt : (xt == ("__debug__" : Str)) = false ∧ (xt == ("__classdict__" : Str)) = false) (dd1 : (x1 == ("__debug__" : Str)) = false ∧ (x1 == ("__classdict__" : Str)) = false) (dd2 : (x2 == ("__debug__" : Str)) = false ∧ (x2 == ("__classdict__" : Str)) = false)
    (hr : sc.names.lookup ("range" : Str) = some .globalImplicit) (hk : blkC sc.N { scope with names := sc.names } scope [(x0, i0)] = true) (l0 : LocC (sc.blk scope) i0 x0) (hf : FldOk Γ "near") (hl1 : (c5.endLine == c7.line) = true) (hl2 : (d5.endLine == d7.line) = true) {fr : Bool} :
    SSs Γ sc fr [.Assign [.Attribute (.Name xself a1) "near" a2] (.ListComp (.List [] a3) [⟨.Name x0 a4, .Call (.Name "range" a5) [.Name xm a6] [] a7, [], 0⟩] scope a8) a9,
      .For (.Tuple [.Name x1 b1, .Name x2 b2] kk b3) (.Name xt b4)
        [.Expr (.Call (.Attribute (.Subscript (.Attribute (.Name xself c1) "near" c2) (.Name x1 c3) c4) "append" c5) [.Name x2 c6] [] c7) c8,
         .Expr (.Call (.Attribute (.Subscript (.Attribute (.Name xself d1) "near" d2) (.Name x2 d3) d4) "append" d5) [.Name x1 d6] [] d7) d8] [] b5] (sNear2 is im it_ o1 o2) := by
  intro n X cx sx W tk en e σ F H r Dn P
  unfold sNear2 at P
  split at P
  · rename_i c fs k ts hes hem het
    split at P
    · rename_i hc
      obtain ⟨sm, hkl, hfl, ho1, ho2⟩ := hc
      split at P
      · rename_i rows hn
        have kio : kdAt sc.kd is ≠ .imm := by rw [hio]; decide
        have nio1 : is ≠ o1 := by rintro rfl; exact kio k1
        have nio2 : is ≠ o2 := by rintro rfl; exact kio k2
        obtain ⟨u, su, oq⟩ := r.own is _ kio hes
        rcases oq with ⟨z, _⟩ | ⟨q, rfl, ow, nq, lq, pq⟩
        · cases z
        have hqio := (pq hio).2
        have no := ow.noOwn
        have hisl := lt_of_get hes
        cases ow with
        | @obj _ dx _ Ca fus _ hC hHq hdx hdF hNw hfs =>
        obtain ⟨kc, kn⟩ := hf c Ca hC
        obtain ⟨um, sum, vm⟩ := r.imm im _ km hem
        cases vm
        obtain ⟨ut, sut, vt⟩ := r.imm it_ _ kt het
        cases vt with
        | @tup ta tus _ hta hts =>
        have qdx : dx ≠ q := by rintro rfl; rw [hHq] at hdx; cases hdx
        -- the slot self dead meanwhile
        have r0 := r.kill is
        have apq : ∀ (i : Nat) (w : Val), kdAt sc.kd i ≠ .imm → (e.set is none)[i]? = some (some w) → σ[i]? ≠ some (some (.ref q)) := fun i w ki hi si => by
          rcases getE_set hi with ⟨_, z, _⟩ | ⟨hij, hi⟩
          · cases z
          · exact r.sep is i q _ w hij kio ki hes hi su si
        refine jss (pss_cons (ps_fld (ss.pe cx) JE.pe rfl) (pss_one (ps_for sx.own cx.calm (pi_seq (pe_var (by rw [cx.N]; exact ht.1) (cx.vis ht.2) dt.1 dt.2)) JG.pg (pss_cons JS.ps (pss_one JS.ps)) (fun _ => rfl)))) ?_
        refine near_lc cx hm dm hr hk l0 sum sm hkl fun D H1 ps R => ?_
        have pvD : Priv sc.kd en (e.set is none) σ F D := r0.priv R.d0
        have pvp : ∀ p ∈ ps, Priv sc.kd en (e.set is none) σ F p := fun p hp => r0.priv (R.p0 p hp)
        have hqD : q ≠ D := by rintro rfl; rw [R.d0] at hHq; cases hHq
        have hqp : q ∉ ps := fun z => by rw [R.p0 q z] at hHq; cases hHq
        have hdD : dx ≠ D := by rintro rfl; rw [R.d0] at hdx; cases hdx
        have hdp : dx ∉ ps := fun z => by rw [R.p0 dx z] at hdx; cases hdx
        have hH1q : H1 q = some (.ins Ca dx fus) := (R.rest q hqD hqp).trans hHq
        refine ⟨.ref q, su, q, Ca, dx, fus, rfl, hH1q, by rw [cx.K]; exact kc, by rw [cx.K]; exact kn, by rw [hfs.length]; exact hfl, ?_⟩
        have R1 := R.upd (q := q) (o := .ins Ca dx (putF "near" (.ref D) fus)) (by rw [hHq]; simp)
        generalize hHb : upd H q (.ins Ca dx (putF "near" (.ref D) fus)) = Hb at R1
        generalize hH2 : upd H1 q (.ins Ca dx (putF "near" (.ref D) fus)) = H2 at R1
        -- what Rel becomes while the lists change
        have relR : ∀ (Hc : Hp) (rws : List (List Int)), Rows Hb Hc D ps rws → ∀ (e' : Env) (σ' : L2.St) (Fh : Hp), Rel Γ.K Γ.C sc.kd en e' σ' F Hb → Rel Γ.K Γ.C sc.kd en e' σ' F Hc := fun Hc rws Rc e' σ' Fh rr => by
          have keepO : ∀ x o, Hb x = some o → Hc x = some o := fun x o hx => by
            have x1 : x ≠ D := by rintro rfl; rw [Rc.d0] at hx; cases hx
            have x2 : x ∉ ps := fun z => by rw [Rc.p0 x z] at hx; cases hx
            exact (Rc.rest x x1 x2).trans hx
          have g : Grow F Hb F Hc := ⟨Same.refl _, fun x o hx => keepO x o (rr.sub x o hx), fun x o hx => keepO x o hx, fun x hx => .inl hx⟩
          exact rr.grow g
        have rb : Rel Γ.K Γ.C sc.kd en (e.set is none) σ F Hb := by rw [← hHb]; exact r0.updK nq hqio apq no
        have hHbq : Hb q = some (.ins Ca dx (putF "near" (.ref D) fus)) := by rw [← hHb]; exact upd_same
        have rowq : ∀ (Hc : Hp) (rws : List (List Int)), Rows Hb Hc D ps rws → Hc q = some (.ins Ca dx (putF "near" (.ref D) fus)) := fun Hc rws Rc => (Rc.rest q hqD hqp).trans hHbq
        have r2 := relR H2 _ R1 _ σ F rb
        refine ⟨.ref ta, sut, .inr ⟨ta, rfl, ⟨tus, by rw [cx.K]; exact sqT_mono r2.sub hta⟩, ?_⟩⟩
        rw [cx.K]
        refine for_it (g := JG X (.Tuple [.Name x1 b1, .Name x2 b2] kk b3)) walk_tup (fun i σ' H' => ∃ x y rws, Rel Γ.K Γ.C sc.kd en (((e.set is none).set o1 x).set o2 y) σ' F Hb ∧ σ'[is]? = some (some (.ref q)) ∧ (∀ j, j ≠ o1 → j ≠ o2 → σ'[j]? = σ[j]?) ∧ Rows Hb H' D ps rws ∧ nearGo (ts.drop i) rws = some rows)
          ?_ (fun i σ' H' _ ⟨x, y, rws, rr, _, _, Rc, _⟩ => sqT_mono (relR H' rws Rc _ σ' F rr).sub hta) (fun i x σ' H' H'' hi ⟨x0, y0, rws, rr, sq, hσ, Rc, hgo⟩ ⟨e1, hx⟩ => ?_) (fun σ' H' ⟨x0, y0, rws, rr, sq, hσ, Rc, hgo⟩ => ?_)
        · refine ⟨(e.set is none)[o1]'(by simpa using ho1), (e.set is none)[o2]'(by simpa using ho2), _, ?_, su, fun _ _ _ => rfl, R1, by simpa using hn⟩
          have e1 : (e.set is none).set o1 ((e.set is none)[o1]'(by simpa using ho1)) = e.set is none := List.set_getElem_self _
          rw [e1, List.set_getElem_self]
          exact rb
        · subst e1
          obtain ⟨v, hv, hvr⟩ := hts.get' hx
          rw [drop_at hv] at hgo
          obtain ⟨i1, j1, r1', r2', rfl, ha1, ha2, hgo2⟩ := near_step (s := []) hgo
          have sg : SG Γ sc (.Tuple [.Name x1 b1, .Name x2 b2] kk b3) (bindTup [bindName o1, bindName o2]) ([o1] ++ ([o2] ++ [])) := sg_tup (sgs_cons (sg_name h1 k1) (sgs_cons (sg_name h2 k2) sgs_nil))
          have l1 : o1 < (((e.set is none).set o1 x0).set o2 y0).length := by simpa using ho1
          have l2 : o2 < ((((e.set is none).set o1 x0).set o2 y0).set o1 (some (.int i1))).length := by simpa using ho2
          have hb : bindTup [bindName o1, bindName o2] (.tup [.int i1, .int j1]) (((e.set is none).set o1 x0).set o2 y0) = some (((((e.set is none).set o1 x0).set o2 y0).set o1 (some (.int i1))).set o2 (some (.int j1))) := by
            simp only [bindTup, bindTup.go, bindName]
            rw [if_pos l1]
            simp only
            rw [if_pos l2]
          refine sg cx (relR H'' rws Rc _ σ' F rr) hvr hb fun σ2 sm2 r3 => ?_
          -- back to the base heap
          have rr2 : Rel Γ.K Γ.C sc.kd en (((e.set is none).set o1 (some (.int i1))).set o2 (some (.int j1))) σ2 F Hb := by
            have eqe : ((((e.set is none).set o1 x0).set o2 y0).set o1 (some (.int i1))).set o2 (some (.int j1)) = ((e.set is none).set o1 (some (.int i1))).set o2 (some (.int j1)) := by
              rw [List.set_comm _ _ (Ne.symm h12), List.set_set, List.set_set]
            rw [eqe] at r3
            refine ⟨rb.sub, r3.len, fun i v k h => r3.imm i v k h, fun i v k h => ?_, r3.sep, rb.b1, r3.b2, rb.b3, r3.b4, r3.b5⟩
            have hi1 : i ≠ o1 := by rintro rfl; exact k k1
            have hi2 : i ≠ o2 := by rintro rfl; exact k k2
            rw [List.getElem?_set_ne (Ne.symm hi2), List.getElem?_set_ne (Ne.symm hi1)] at h
            obtain ⟨u', a, b⟩ := rb.own i v k h
            refine ⟨u', ?_, b⟩
            rw [sm2.2 i (by simp [hi1, hi2]), hσ i hi1 hi2]; exact a
          have g1 : σ2[o1]? = some (some (.int i1)) := by
            obtain ⟨u', a, b⟩ := rr2.imm o1 (.int i1) k1 (by rw [List.getElem?_set_ne (Ne.symm h12)]; exact set_get (by simpa using ho1))
            cases b; exact a
          have g2 : σ2[o2]? = some (some (.int j1)) := by
            obtain ⟨u', a, b⟩ := rr2.imm o2 (.int j1) k2 (set_get (by simpa using ho2))
            cases b; exact a
          have sq2 : σ2[is]? = some (some (.ref q)) := by rw [sm2.2 is (by simp [nio1, nio2])]; exact sq
          have hlk : (putF "near" (V.ref D) fus).lookup ("near" : Str) = some (.ref D) := lookup_putF
          refine app_step cx ss v1 v2 dd1 dd2 sq2 (rowq _ _ Rc) kc kn hlk Rc g1 g2 ha1 hl1 fun p o hp Rc1 => ?_
          refine app_step cx ss v2 v1 dd2 dd1 sq2 (rowq _ _ Rc1) kc kn hlk Rc1 g2 g1 ha2 hl2 fun p' o' hp' Rc2 => ?_
          exact ⟨some (.int i1), some (.int j1), r2', rr2, sq2, fun j hj1 hj2 => (sm2.2 j (by simp [hj1, hj2])).trans (hσ j hj1 hj2), Rc2, hgo2⟩
        · have hlt : tus.length = ts.length := hts.length
          rw [hlt, List.drop_length] at hgo
          simp only [nearGo] at hgo
          cases hgo
          have r4 := relR H' _ Rc _ σ' F rr
          have r5 : Rel Γ.K Γ.C sc.kd en (((e.set is none).set o1 none).set o2 none) σ' F H' := by
            have := (r4.kill o1).kill o2
            rw [List.set_comm _ _ (Ne.symm h12), List.set_set, List.set_set] at this
            exact this
          have pvs : ∀ p, Priv sc.kd en (e.set is none) σ F p → Priv sc.kd en (((e.set is none).set o1 none).set o2 none) σ' F p := fun p pv => ⟨pv.f, pv.h0, fun i w ki hi => by
            have hi1 : i ≠ o1 := by rintro rfl; exact ki k1
            have hi2 : i ≠ o2 := by rintro rfl; exact ki k2
            rw [List.getElem?_set_ne (Ne.symm hi2), List.getElem?_set_ne (Ne.symm hi1)] at hi
            rw [hσ i hi1 hi2]; exact pv.ap i w ki hi⟩
          obtain ⟨F', s', r6, hv, hno⟩ := r5.freezeRows Rc (pvs D pvD) fun p hp => pvs p (pvp p hp)
          have hq' := rowq _ _ Rc
          have hdx' : H' dx = some (.own q) := by
            rw [Rc.rest dx hdD hdp, ← hHb, L2.upd_ne qdx]; exact hdx
          refine P σ' F' H' s' (r6.revive kio (by simpa using hisl) sq (.obj hC hq' hdx' (hno dx hdF hdD hdp) hNw (FRs.put hv (hfs.mono s'))) (hno q nq hqD hqp) (fun z => by rw [hio] at z; cases z) (fun _ => pq hio) fun j w hj kj hw sj => ?_)
          have hi1 : j ≠ o1 := by rintro rfl; exact kj k1
          have hi2 : j ≠ o2 := by rintro rfl; exact kj k2
          rw [List.getElem?_set_ne (Ne.symm hi2), List.getElem?_set_ne (Ne.symm hi1)] at hw
          rw [hσ j hi1 hi2] at sj
          exact apq j w kj hw sj
      · exact P.elim
    · exact P.elim
  · exact P.elim
end
end CG
end
section
set_option Elab.async false
set_option linter.all false
set_option maxRecDepth 100000
set_option autoImplicit false
/-! CG28: xs[::-1] of a list or a tuple. -/
namespace CG
open PySem PySem.Spec L2 PyProof.Rows
def revV : Val → Option Val
  | .lst xs => some (.lst xs.reverse)
  | .tup xs => some (.tup xs.reverse)
  | _ => none
theorem adjust_rev (n : Nat) : Builtin.Slice.sliceAdjust none none (-1) (n : Int) = ((n : Int) - 1, -1) := by
  unfold Builtin.Slice.sliceAdjust
  simp
theorem places_rev (n : Nat) : Builtin.Slice.slicePlaces ((n : Int) - 1) (-1) (-1) = n := by
  unfold Builtin.Slice.slicePlaces
  simp
  try omega
theorem pick_rev (xs : Array Value) : ((List.range xs.size).filterMap fun (m : Nat) => xs[(((xs.size : Int) - 1) + (m : Int) * (-1)).toNat]?).toArray = xs.toList.reverse.toArray := by
  congr 1
  have e : ∀ m ∈ List.range xs.size, xs[(((xs.size : Int) - 1) + (m : Int) * (-1)).toNat]? = some (xs.toList.reverse.getD m .none) := fun m hm => by
    have hm : m < xs.size := List.mem_range.mp hm
    have h1 : (((xs.size : Int) - 1) + (m : Int) * (-1)).toNat = xs.size - 1 - m := by omega
    rw [h1, List.getD_eq_getElem?_getD, List.getElem?_reverse (by simpa using hm)]
    simp
    rw [Array.getElem?_eq_getElem (by omega)]; rfl
  have fc : ∀ (l : List Nat), (∀ m ∈ l, xs[(((xs.size : Int) - 1) + (m : Int) * (-1)).toNat]? = some (xs.toList.reverse.getD m .none)) → (l.filterMap fun (m : Nat) => xs[(((xs.size : Int) - 1) + (m : Int) * (-1)).toNat]?) = l.map fun m => xs.toList.reverse.getD m .none := by
    intro l
    induction l with
    | nil => intro _; rfl
    | cons m l ih =>
      intro h
      rw [List.filterMap_cons, h m List.mem_cons_self, List.map_cons, ih fun k hk => h k (List.mem_cons_of_mem _ hk)]
  rw [fc _ e]
  refine List.ext_getElem? fun i => ?_
  rw [List.getElem?_map]
  by_cases hi : i < xs.size
  · rw [List.getElem?_range hi]
    simp [List.getD_eq_getElem?_getD, hi]
  · rw [List.getElem?_eq_none (by simpa using hi), List.getElem?_eq_none (by simpa using hi)]; rfl
section
variable {prog : Program} {w : World} {A : Around} {E : Value → Shared → Prop} {s : Shared}
open PyProof.Rows in
theorem getItem_tuple_rev {t sl : Addr} {items : Array Value} {vl vu vs : Value} {Q : Value → Shared → Prop} (ht : IsTup s.heap t items) (hs : s.heap.IsSliceOf sl vl vu vs) (pl : IsPart vl none) (pu : IsPart vu none) (ps : IsPart vs (some (-1)))
    (h : Q (.ref s.heap.objs.size) { s with heap := s.heap.push { cls := .type "tuple", data := .seq items.toList.reverse.toArray } }) (hsz : items.size ≤ sizeLine) : wpAny (model prog w) A (getItem (.ref t) (.ref sl)) Q E s := by
  obtain ⟨os, hos, hcs, hds⟩ := id hs
  have hTs : s.TypeIs (.ref sl) "slice" := ⟨os, hos, hcs⟩
  unfold getItem
  try with_reducible refine wpAny_holding ?_
  first | refine wpAny_bind (wpAny_pure ?_) | skip
  refine wpAny_bind (wpAny_sequenceKey ht.typeIs (by decide) (wpAny_bind (wpAny_callSpecial?_slot (name := Str.ofString "__getitem__") ht.typeIs slot_tuple_getitem (wpAny_call_entry slot_tuple_getitem ht.typeIs entry_tuple_getitem ?_ (args_tuple_getitem _ _)))))
  show wpAny _ _ (Builtin.Tuple.tupleItemsOf (.ref t) >>= _) _ _ s
  refine wpAny_bind (tupleItemsOf_ ht (wpAny_bind (wpAny_typeOf hTs ?_)))
  rw [if_pos (by decide)]
  refine wpAny_bind ?_
  · unfold Builtin.Slice.sliceApplied Builtin.Slice.sliceFields
    refine wpAny_bind (wpAny_bind (wpAny_field hos hds (x := vl) rfl (wpAny_bind (wpAny_field hos hds (x := vu) rfl (wpAny_bind (wpAny_field hos hds (x := vs) rfl (wpAny_pure ?_)))))))
    refine wpAny_bind (HT.slicePart_ ps ?_)
    show wpAny _ _ (if ((-1 : Int) == 0) = true then _ else _) _ _ s
    rw [if_neg (by decide)]
    refine wpAny_bind (HT.slicePart_ pl (wpAny_bind (HT.slicePart_ pu (wpAny_bind (wpAny_pure ?_)))))
    show wpAny _ _ (match Builtin.Slice.sliceAdjust none none (-1) (items.size : Int) with | (lo, hi) => pure (lo, (-1 : Int), Builtin.Slice.slicePlaces lo hi (-1))) _ _ s
    rw [adjust_rev]
    show wpAny _ _ (pure ((items.size : Int) - 1, (-1 : Int), Builtin.Slice.slicePlaces ((items.size : Int) - 1) (-1) (-1))) _ _ s
    rw [places_rev]
    refine wpAny_pure ?_
    show wpAny _ _ (if (((items.size : Int) - 1) == 0 && (-1 : Int) == 1 && items.size == items.size) = true then _ else _) _ _ s
    rw [if_neg (by simp), pick_rev]
    have htake : sizeOk (.seq items.toList.reverse.toArray) := by
      show items.toList.reverse.toArray.size ≤ sizeLine
      simpa using hsz
    first
      | exact wpAny_bind (m := Builtin.Tuple.tupleExact _) (wpAny_newObj_type (wpAny_pure ⟨_, rfl, wpAny_pure h⟩) htake)
      | exact wpAny_bind (m := Builtin.Tuple.tupleExact _) (wpAny_newObj_type (wpAny_bind (wpAny_pure (wpAny_pure ⟨_, rfl, wpAny_pure h⟩))) htake)
      | exact wpAny_bind (wpAny_bind (m := Builtin.Tuple.tupleExact _) (wpAny_newObj_type (wpAny_pure (wpAny_pure ⟨_, rfl, wpAny_pure h⟩)) htake))
      | exact wpAny_bind (wpAny_bind (m := Builtin.Tuple.tupleExact _) (wpAny_newObj_type (wpAny_pure ⟨_, rfl, wpAny_pure h⟩) htake))
end
section
variable {Γ : GX} {sc : Sc} {a : Expr} {f : M Val} {pos p1 p2 p3 : Pos}
theorem sv_rev {k : Nat} (ha : SV Γ sc a f) : SV Γ sc (.Subscript a (.Slice none none (some (.UnaryOp .USub (.Constant (.int 1) k p1) p2)) p3) pos) (mUn revV f) := by
  intro n X cx W tk en e σ F H r Q P pins s I
  refine Subscript_ (thn (ha cx tk r (Q := fun x H1 => ∃ v z F1, revV v = some z ∧ Same F1 H1 ∧ VR Γ.K Γ.C F1 v x ∧ ∀ u F' H', Grow F1 H1 F' H' → VR Γ.K Γ.C F' z u → Q u H') (Post.seq P fun v e1 u F1 H1 s1 r1 t1 P1 => ?_) pins s I) fun v s1 ⟨x, H1, I1, rx, v0, z, F1, hz, sm, hv, q⟩ => ?_)
  · obtain ⟨z, hz, q⟩ := P1.ret
    exact ⟨v, z, F1, hz, r1.sub, t1, fun u F' H' g hv => q u F' H' g.ff (r1.grow g) hv⟩
  have hst : PO X (some (.UnaryOp .USub (.Constant (.int 1) k p1) p2)) (tPart (tUn (rU fun i => .int (-i)) (tC (.int 1)))) := po_some (pe_un un_neg pe_int)
  refine wpAny_Slice (thn (po_none.run pins s1 σ H1 (fun o H2 => o = none ∧ H2 = H1) I1 ⟨rfl, rfl⟩) fun vl s2 ⟨l, H2, I2, pl, el, e2⟩ => thn (po_none.run pins s2 σ H2 (fun o H3 => o = none ∧ H3 = H2) I2 ⟨rfl, rfl⟩) fun vu s3 ⟨u, H3, I3, pu, eu, e3⟩ => thn (hst.run pins s3 σ H3 (fun o H4 => o = some (-1) ∧ H4 = H3) I3 ⟨1, rfl, -1, rfl, rfl, rfl⟩) fun vs s4 ⟨o, H4, I4, ps, eo, e4⟩ => ?_)
  subst el e2 eu e3 eo e4
  have I5 : Inv X pins σ H4 { s4 with heap := s4.heap.push { cls := .type "slice", data := .fields #[vl, vu, vs] } } := I4.kept (t' := s4.toks) fun b ob q => Heap.get?_push_of_some _ q
  show wpAny (model X.prog X.w) X.A (subscriptTail a (.Slice none none (some (.UnaryOp .USub (.Constant (.int 1) k p1) p2)) p3) v (.ref s4.heap.objs.size)) (EP X pins σ Q) X.xe { s4 with heap := s4.heap.push { cls := .type "slice", data := .fields #[vl, vu, vs] } }
  cases hv with
  | @lst q0 us vs0 hq hus =>
    cases hz
    cases rx
    obtain ⟨its, ri, ht, hsz⟩ := I5.list (SqL.of (sm _ _ hq))
    have hlen := ri.length
    refine tail_any (ops := [.ref q0, .ref s4.heap.objs.size]) ht.isList.typeIs (PySem.slot_list_getitem.lookup) ?_ (by with_unfolding_all rfl)
    refine wpAny_getItem_list_slice ht.isList (Heap.IsSliceOf.new _ vl vu vs) pl pu ps (by decide) ?_ (by rw [List.size_toArray]; omega)
    rw [PySem.W.krv_pick]
    have I6 := I5.laid (t' := s4.toks) (o := .lst us.reverse) (fun b ob q => Heap.get?_push_of_some { cls := .type "list", data := .seq its.reverse.toArray } q) (Nat.le_refl _) ⟨by rw [List.length_reverse]; exact hsz, _, 0, ri.reverse, Heap.get?_push_size _ rfl⟩
    exact ⟨.ref _, _, I6, rfl, new_lst sm (hus.reverse) q _ (I5.hok.fresh (Nat.le_refl _))⟩
  | @tup q0 us vs0 hq hus =>
    cases hz
    cases rx
    obtain ⟨its, ri, ht, hsz⟩ := I5.tuple (by rw [cx.K]; exact sqT_mono sm hq)
    have hlen := ri.length
    refine tail_any (ops := [.ref q0, .ref s4.heap.objs.size]) ht.typeIs (PyProof.Rows.slot_tuple_getitem.lookup) ?_ (by with_unfolding_all rfl)
    refine getItem_tuple_rev ht (Heap.IsSliceOf.new _ vl vu vs) pl pu ps ?_ (by rw [List.size_toArray]; omega)
    have I6 := I5.laid (t' := s4.toks) (o := .tup us.reverse) (fun b ob q => Heap.get?_push_of_some { cls := .type "tuple", data := .seq its.reverse.toArray } q) (Nat.le_refl _) ⟨by rw [List.length_reverse]; exact hsz, _, ri.reverse, IsTup.new _ _⟩
    exact ⟨.ref _, _, I6, rfl, new_tup sm (hus.reverse) q _ (I5.hok.fresh (Nat.le_refl _))⟩
  | non => cases hz
  | bl _ => cases hz
  | int _ => cases hz
  | str _ => cases hz
  | dct _ _ => cases hz
  | obj _ _ _ _ => cases hz
  | scr _ => cases hz
end
end CG
end
section
set_option Elab.async false
set_option linter.all false
set_option maxRecDepth 100000
set_option autoImplicit false
/-! CG29: tuples stored in names of which one is seen by a comprehension. -/
namespace CG
open PySem PySem.Spec L2
section
variable {Γ : GX} {sc : Sc} {fr : Bool} {ex a b c : Expr} {f g h : M Val} {pos p : Pos}
theorem ss_asgK {tg : Expr} {b1 : Bind} {ns : List Nat} (hg : SG Γ sc tg b1 ns) (hf : SV Γ sc ex f) (hw : ∀ {n : Nat} {X : Cx}, Compat Γ sc n X → swappedStores [tg] ex X.env = pure none) (hs : ∀ env, swapsWithSole [tg] ex pos.line env = pure false := by intro _; rfl)
    (h1 : ∀ env, (assignEach [tg] env).map (·.2) = [assign tg env] := by intro _; rfl) : SS Γ sc fr (.Assign [tg] ex pos) (sAsg b1 f) := by
  intro n X cx sx W tk en e σ F H r D P
  refine js (ps_asg JE.pe JG.pg (hs _) (hw cx) (h1 _)) ?_
  refine hf cx tk r (PostS.toS P fun v e1 u F1 H1 s1 r1 t1 P1 => ?_)
  split at P1
  · rename_i e2 he
    exact hg cx r1 t1 he fun σ' _ r' => P1 σ' F1 H1 (Same.refl _) r'
  · exact P1.elim
theorem ss_asgM2 {x y : Str} {px py pt pt2 : Pos} {kt k2 : Nat} {b1 : Bind} {ns : List Nat} (hg : SG Γ sc (.Tuple [.Name x px, .Name y py] kt pt) b1 ns) (hf : SV Γ sc (.Tuple [a, b] k2 pt2) f) (hk : sc.names.lookup x = some .cell ∨ sc.names.lookup y = some .cell)
    (hs : ∀ env, swapsWithSole [.Tuple [.Name x px, .Name y py] kt pt] (.Tuple [a, b] k2 pt2) pos.line env = pure false := by intro _; rfl) : SS Γ sc fr (.Assign [.Tuple [.Name x px, .Name y py] kt pt] (.Tuple [a, b] k2 pt2) pos) (sAsg b1 f) :=
  ss_asgK hg hf (fun cx => swapM2 (hk.imp (fun h => cx.kinds h (by decide)) fun h => cx.kinds h (by decide))) hs
theorem ss_asgM3 {x y z : Str} {px py pz pt pt2 : Pos} {kt k2 : Nat} {b1 : Bind} {ns : List Nat} (hg : SG Γ sc (.Tuple [.Name x px, .Name y py, .Name z pz] kt pt) b1 ns) (hf : SV Γ sc (.Tuple [a, b, c] k2 pt2) f) (hk : sc.names.lookup x = some .cell ∨ sc.names.lookup y = some .cell ∨ sc.names.lookup z = some .cell)
    (hs : ∀ env, swapsWithSole [.Tuple [.Name x px, .Name y py, .Name z pz] kt pt] (.Tuple [a, b, c] k2 pt2) pos.line env = pure false := by intro _; rfl) : SS Γ sc fr (.Assign [.Tuple [.Name x px, .Name y py, .Name z pz] kt pt] (.Tuple [a, b, c] k2 pt2) pos) (sAsg b1 f) :=
  ss_asgK hg hf (fun cx => swapM3 (hk.imp (fun h => cx.kinds h (by decide)) (Or.imp (fun h => cx.kinds h (by decide)) fun h => cx.kinds h (by decide)))) hs
/-! ### items that aren't starred, told without a look into them -/
def isStarE : Expr → Bool
  | .Starred _ _ => true
  | _ => false
theorem starEach_plain {a : Expr} {es : List Expr} (h : isStarE a = false) (env : PySem.Env) : starEach (a :: es) env = (false, eval a env) :: starEach es env := by
  cases a <;> first | rfl | cases h
theorem slc {es : List Expr} {r : M (List Val)} (ha : SV Γ sc a f) (hr : SL Γ sc es r) (hs : isStarE a = false := by rfl) : SL Γ sc (a :: es) (iCons f r) := sl_cons ha hr (starEach_plain hs)
theorem sac {es : List Expr} {P : List (Option Nat)} {r : M (List Arg)} (ha : SV Γ sc a f) (hr : SA Γ sc es P r) (hs : isStarE a = false := by rfl) : SA Γ sc (a :: es) (none :: P) (aVal f r) := sa_v ha hr (starEach_plain hs)
end
end CG
end
section
set_option Elab.async false
set_option linter.all false
set_option maxRecDepth 100000
set_option autoImplicit false
/-! CG30: what the ends need. -/
namespace CG
open PySem PySem.Spec L2
/-- a small table by names -/
def lk {β : Type} : List (Str × β) → Str → Option β
  | [], _ => none
  | (k, v) :: r, x => if k = x then some v else lk r x
def lkN {β : Type} : List (Nat × β) → Nat → Option β
  | [], _ => none
  | (k, v) :: r, x => if k = x then some v else lkN r x
def AllP {β : Type} (P : Str → β → Prop) : List (Str × β) → Prop
  | [] => True
  | (k, v) :: r => P k v ∧ AllP P r
def AllN {β : Type} (P : Nat → β → Prop) : List (Nat × β) → Prop
  | [] => True
  | (k, v) :: r => P k v ∧ AllN P r
theorem lk_all {β : Type} {P : Str → β → Prop} : ∀ {l : List (Str × β)}, AllP P l → ∀ c a, lk l c = some a → P c a
  | [], _, _, _, h => by cases h
  | (k, v) :: r, hp, c, a, h => by
    unfold lk at h
    by_cases hk : k = c
    · rw [if_pos hk] at h; cases h; exact hk ▸ hp.1
    · rw [if_neg hk] at h; exact lk_all hp.2 c a h
theorem lkN_all {β : Type} {P : Nat → β → Prop} : ∀ {l : List (Nat × β)}, AllN P l → ∀ c a, lkN l c = some a → P c a
  | [], _, _, _, h => by cases h
  | (k, v) :: r, hp, c, a, h => by
    unfold lkN at h
    by_cases hk : k = c
    · rw [if_pos hk] at h; cases h; exact hk ▸ hp.1
    · rw [if_neg hk] at h; exact lkN_all hp.2 c a h
abbrev mkG (P : Program) (w : World) (K : PySem.W.Frag) (mg : Str → Option Value) (base : Heap) (CL XL : List (Str × Addr)) (G : Table) (LL : List (Nat × FnAt)) : GX := ⟨P, w, K, mg, base, lk CL, lk XL, G, lkN LL⟩
section
variable {Γ : GX}
/-- one def of the table keeps its promise, and has as many parameters as the text says -/
structure Good (Γ : GX) (n : Nat) (f : Fn) (a : FnAt) : Prop where
  ok : ∀ d, Γ.G f = some d → FnOk Γ.P Γ.w Γ.K Γ.mg Γ.base (L2.CX Γ.P Γ.w) (2 * (n + 1) + 4) a.addr a.fd a.ps (spOf Γ (n + 1) f d)
theorem good_of {n : Nat} {sc : Sc} {f : Fn} {d : Def} {x qual : Str} {st : Stmt} {fa : Addr} {fd : FuncData} {ps : List Str} (F : L2.Fun Γ.K x qual st fa fd) (S : FnScope sc.N ps (defScope st)) (hnm : sc.names = (defScope st).names) (hG : Γ.G f = some d) (hN : d.nslots = sc.N.length) (hio : d.io.length = ps.length) (hk : kdOk d.io sc.kd = true) (hkl : sc.kd.length = sc.N.length)
    (hb : SSs Γ sc d.fresh (defBody st) d.body) (hnb : ∀ x ∈ blNames, Γ.mg x = none) (ih : FnsOk Γ n) : Good Γ n f ⟨fa, fd, ps⟩ :=
  ⟨fun d' hd => by
    rw [hG] at hd; cases hd
    exact fn_sound F S hnm trivial hG hN hio hk hkl hb hnb ih⟩
theorem fns_ok {LL : List (Nat × FnAt)} (hl : Γ.loc = lkN LL) (h : ∀ n, FnsOk Γ n → AllN (Good Γ n) LL) (hlen : AllN (fun f a => ∀ d, Γ.G f = some d → d.io.length = a.ps.length) LL) : ∀ n, FnsOk Γ n :=
  all_ok (fun n ih f d a hf ha => (lkN_all (h n ih) f a (by rw [← hl]; exact ha)).ok d hf) (fun f d a hf ha => lkN_all hlen f a (by rw [← hl]; exact ha) d hf)
theorem len_of {f : Fn} {d0 : Def} {a : FnAt} (hG : Γ.G f = some d0) (h : d0.io.length = a.ps.length) : ∀ d, Γ.G f = some d → d.io.length = a.ps.length := fun d hd => by
  rw [hG] at hd; cases hd; exact h
/-- the law's own promise -/
def spLaw (K : PySem.W.Frag) : Sp := fun us H Q _ => ∃ (a : Addr) (ns : List Int), us = [.ref a] ∧ SqL K H a (ns.map V.int) ∧ ns.length ≤ 63 ∧ ∀ H', Q (.bl true) H'
theorem law_fn {n : Nat} {f : Fn} {d : Def} {a : FnAt} (hG : Γ.G f = some d) (hio : d.io = [false]) (hfr : d.fresh = false) (ha : Γ.loc f = some a) (hF : FnsOk Γ n) (hlaw : ∀ ns : List Int, ns.length ≤ 63 → callN Γ.G n f [.scr ns] = .ok (.bl true) []) :
    FnOk Γ.P Γ.w Γ.K Γ.mg Γ.base (L2.CX Γ.P Γ.w) (2 * n + 4) a.addr a.fd a.ps (spLaw Γ.K) := by
  refine (hF f d a hG ha).imp fun us H Q E ⟨p, ns, e, hs, hl, q⟩ => ?_
  subst e
  refine ⟨H, [.scr ns], [], Same.refl _, ?_, ?_⟩
  · rw [hio]; exact .v (.scr hs) .nil
  · rw [hlaw ns hl]
    intro u F' H' st ho hv
    rw [hfr] at hv
    have hv : VR Γ.K Γ.C F' (.bl true) u := hv
    cases hv
    exact q H'
theorem noCX {P : Program} {w : World} (H : Hp) (s : Shared) (e : Value) (s' : Shared) (h : L2.CX P w [] H s (fun _ _ _ => False) e s') : False := by
  obtain ⟨_, _, _, _, _, _, _, _, _, _, _, _, z⟩ := h; exact z
theorem at_of {x : Str} {f : Fn} {d : Def} {fa : Addr} {fd : FuncData} {ps : List Str} {q : Str} {st : Stmt} (hG : Γ.G f = some d) (hl : Γ.loc f = some ⟨fa, fd, ps⟩) (hm : Γ.mg x = some (.ref fa)) (F : L2.Fun Γ.K x q st fa fd) (hb : Binds Γ.K fd ps []) : ∃ l, At Γ x f d l := ⟨⟨fa, fd, ps⟩, hG, hl, hm, F.kp, hb⟩
theorem fld_of {CL : List (Str × Addr)} (hC : Γ.C = lk CL) {f : Str} (h : AllP (fun _ Ca => Cls Γ.K Ca ∧ NoAttr Γ.K Ca f) CL) : FldOk Γ f := fun c Ca hc => lk_all h c Ca (by rw [← hC]; exact hc)
theorem exc_all {XL : List (Str × Addr)} (hX : Γ.X = lk XL) {P : Str → Addr → Prop} (h : AllP P XL) : ∀ c Ca, Γ.X c = some Ca → P c Ca := fun c Ca hc => lk_all h c Ca (by rw [← hX]; exact hc)
theorem cls_all {CL : List (Str × Addr)} (hX : Γ.C = lk CL) {P : Str → Addr → Prop} (h : AllP P CL) : ∀ c Ca, Γ.C c = some Ca → P c Ca := fun c Ca hc => lk_all h c Ca (by rw [← hX]; exact hc)
theorem bl_none {mg : Str → Option Value} (h : AllP (fun x (_ : Unit) => mg x = none) (blNames.map fun x => (x, ()))) : ∀ x ∈ blNames, mg x = none := by
  intro x hx
  have g : ∀ l : List Str, AllP (fun x (_ : Unit) => mg x = none) (l.map fun x => (x, ())) → x ∈ l → mg x = none := by
    intro l
    induction l with
    | nil => intro _ h; cases h
    | cons y l ih =>
      intro h hm
      rcases List.mem_cons.mp hm with rfl | hm
      · exact h.1
      · exact ih h.2 hm
  exact g _ h hx
theorem getter_of {P : Program} {w : World} {K : PySem.W.Frag} {mg : Str → Option Value} {base : Heap} {fa C : Addr} {fd : FuncData} {name qual f : Str} {st : Stmt} {N : List Str} {p1 p2 p3 : Pos} (F : L2.Fun K name qual st fa fd) (S : FnScope N ["self"] (defScope st)) (hN : N[0]? = some ("self" : Str)) (hb : defBody st = [.Return (some (.Attribute (.Name "self" p1) f p2)) p3]) (c : Cls K C) (n : NoAttr K C f) :
    FnOk P w K mg base CX0 1 fa fd ["self"] (getSp C f) := by
  obtain ⟨oc, od, kV, doc, pm, an, cdv, ct, osl, rfl, l, cd⟩ := F.ex
  exact fn_getter (k := 0) l cd S hN hb c n
theorem kit_ref {K : PySem.W.Frag} {t : Value} {C : Addr} {b : Bool} (ei : PySem.W.isClsIn K C = true) (et : PySem.W.typeIn K (.ref C) = some (.type "type")) (es : PySem.W.subIn K t (.ref C) = some b) (eh : b = true ∨ (t == Value.ref C) = false) : PySem.W.kitOne K t (.ref C) = some b := by
  have k : PySem.W.kitCls K t (.ref C) = some b := by
    show (if ((PySem.W.clsIn K C).isSome && PySem.W.typeIn K (.ref C) == some (.type "type")) = true then PySem.W.subIn K t (.ref C) else none) = some b
    have ei : (PySem.W.clsIn K C).isSome = true := ei
    rw [ei, et, if_pos (by simp), es]
  unfold PySem.W.kitOne
  rcases eh with rfl | h
  · split
    · rfl
    · exact k
  · rw [h, if_neg (by decide)]; exact k
theorem exm_ref {K : PySem.W.Frag} {t : Value} {C : Addr} {b : Bool} (eb : PySem.W.subIn K (.ref C) (.type "BaseException") = some true) (ei : PySem.W.isClsIn K C = true) (et : PySem.W.typeIn K (.ref C) = some (.type "type")) (es : PySem.W.subIn K t (.ref C) = some b) : PySem.W.exmOne K t (.ref C) = some b := by
  unfold PySem.W.exmOne
  rw [eb, if_pos (by simp)]
  show (if ((PySem.W.clsIn K C).isSome && PySem.W.typeIn K (.ref C) == some (.type "type")) = true then PySem.W.subIn K t (.ref C) else none) = some b
  have ei : (PySem.W.clsIn K C).isSome = true := ei
  rw [ei, et, if_pos (by simp), es]
end
end CG
end
section
set_option Elab.async false
set_option linter.all false
set_option maxRecDepth 100000
set_option autoImplicit false
/-! CG31: sorted(set(xs)), xs a list of pairs of small ints. -/
namespace CG
open PySem PySem.Spec L2
def pairsI : List Val → Option (List (Int × Int))
  | [] => some []
  | .tup [.int x, .int y] :: r => (pairsI r).map ((x, y) :: ·)
  | _ => none
def okP (p : Int × Int) : Bool := decide (0 ≤ p.1 ∧ p.1 < 64 ∧ 0 ≤ p.2 ∧ p.2 < 64)
def codeP (p : Int × Int) : Int := p.1 * 64 + p.2
def dd : List (Int × Int) → List (Int × Int)
  | [] => []
  | p :: ps => if p ∈ ps then dd ps else p :: dd ps
theorem mem_dd {q : Int × Int} : ∀ {ps : List (Int × Int)}, q ∈ dd ps ↔ q ∈ ps
  | [] => Iff.rfl
  | p :: ps => by
    unfold dd
    by_cases h : p ∈ ps
    · rw [if_pos h, mem_dd, List.mem_cons]
      exact ⟨.inr, fun k => k.elim (fun e => e ▸ h) id⟩
    · rw [if_neg h, List.mem_cons, mem_dd, List.mem_cons]
theorem nodup_dd : ∀ (ps : List (Int × Int)), (dd ps).Nodup
  | [] => List.nodup_nil
  | p :: ps => by
    unfold dd
    by_cases h : p ∈ ps
    · rw [if_pos h]; exact nodup_dd ps
    · rw [if_neg h]; exact List.nodup_cons.mpr ⟨fun k => h (mem_dd.mp k), nodup_dd ps⟩
def setSort (ps : List (Int × Int)) : List (Int × Int) := (dd ps).mergeSort fun a b => decide (codeP a ≤ codeP b)
def pairV (p : Int × Int) : Val := .tup [.int p.1, .int p.2]
def sortSetP : Val → Option Val
  | .lst xs => (match pairsI xs with
    | some ps => if decide (ps.length < 64) && ps.all okP then some (.lst ((setSort ps).map pairV)) else none
    | none => none)
  | _ => none
theorem pairsI_eq : ∀ {xs : List Val} {ps : List (Int × Int)}, pairsI xs = some ps → xs = ps.map pairV
  | [], ps, h => by simp only [pairsI, Option.some.injEq] at h; subst h; rfl
  | x :: xs, ps, h => by
    unfold pairsI at h
    split at h
    · rename_i e; cases e
    · rename_i a b r e
      cases e
      obtain ⟨qs, h1, rfl⟩ := Option.map_eq_some_iff.mp h
      rw [pairsI_eq h1]
      rfl
    · cases h
theorem codeP_inj {a b : Int × Int} (ha : okP a = true) (hb : okP b = true) (h1 : codeP a ≤ codeP b) (h2 : codeP b ≤ codeP a) : a = b := by
  obtain ⟨a1, a2⟩ := a
  obtain ⟨b1, b2⟩ := b
  unfold okP at ha hb
  unfold codeP at h1 h2
  simp only [decide_eq_true_eq] at ha hb h1 h2
  have : a1 = b1 := by omega
  subst this
  have : a2 = b2 := by omega
  subst this
  rfl
theorem setSort_uniq {ps ys : List (Int × Int)} (hok : ∀ p ∈ ps, okP p = true) (hn : ys.Nodup) (hm : ∀ p, p ∈ ys ↔ p ∈ ps) (hs : ys.Pairwise fun a b => codeP a ≤ codeP b) : ys = setSort ps := by
  have hp : ys.Perm (dd ps) := by
    rw [List.perm_ext_iff_of_nodup hn (nodup_dd ps)]
    intro p
    rw [hm, mem_dd]
  have hq : ys.Perm (setSort ps) := hp.trans (List.mergeSort_perm _ _).symm
  refine List.Perm.eq_of_pairwise (le := fun a b => codeP a ≤ codeP b) (fun a b ha hb h1 h2 => codeP_inj (hok a ((hm a).mp ha)) (hok b ?_) h1 h2) hs ?_ hq
  · exact (hm b).mp (hq.mem_iff.mpr hb)
  · exact (List.pairwise_mergeSort (le := fun a b => decide (codeP a ≤ codeP b)) (fun a b c => by simp; omega) (fun a b => by simp; omega) _).imp (by simp)
/-- the cells of the pairs -/
theorem pairs_cells {K : PySem.W.Frag} {C : Str → Option Addr} {F : Hp} : ∀ {ps : List (Int × Int)} {us : List V}, VRs K C F (ps.map pairV) us → ∃ ks : List (Addr × List Int), us = ks.map (fun p => V.ref p.1) ∧ ks.map (·.2) = ps.map (fun p => [p.1, p.2]) ∧ ∀ p ∈ ks, SqT K F p.1 (p.2.map V.int)
  | [], _, .nil => ⟨[], rfl, rfl, fun p h => by cases h⟩
  | p :: ps, _, .cons h r => by
    obtain ⟨ks, rfl, e, hk⟩ := pairs_cells r
    cases h with
    | @tup a us vs hq hv =>
      have : us = [V.int p.1, V.int p.2] := by
        cases hv with | cons h1 h2 => cases h2 with | cons h3 h4 => cases h4; cases h1; cases h3; rfl
      subst this
      refine ⟨(a, [p.1, p.2]) :: ks, rfl, by rw [List.map_cons, List.map_cons, e], fun q hq' => ?_⟩
      rcases List.mem_cons.mp hq' with rfl | hq'
      · exact hq
      · exact hk q hq'
theorem cells_pairs {K : PySem.W.Frag} {C : Str → Option Addr} {F : Hp} : ∀ {qs : List (Int × Int)} {L : List (Addr × List Int)}, L.map (·.2) = qs.map (fun p => [p.1, p.2]) → (∀ p ∈ L, SqT K F p.1 (p.2.map V.int)) → VRs K C F (qs.map pairV) (L.map fun q => V.ref q.1)
  | [], [], _, _ => .nil
  | [], _ :: _, e, _ => by simp at e
  | _ :: _, [], e, _ => by simp at e
  | q :: qs, p :: L, e, h => by
    rw [List.map_cons, List.map_cons, List.cons.injEq] at e
    refine .cons ?_ (cells_pairs e.2 fun p hp => h p (List.mem_cons_of_mem _ hp))
    have h1 := h p List.mem_cons_self
    rw [e.1] at h1
    exact .tup h1 (.cons (.int _) (.cons (.int _) .nil))
theorem pair_list {qs : List (List Int)} {ps : List (Int × Int)} (h : ∀ q ∈ qs, q ∈ ps.map fun p => [p.1, p.2]) : ∃ ys : List (Int × Int), qs = ys.map fun p => [p.1, p.2] := by
  induction qs with
  | nil => exact ⟨[], rfl⟩
  | cons q qs ih =>
    obtain ⟨ys, hy⟩ := ih fun r hr => h r (List.mem_cons_of_mem _ hr)
    obtain ⟨p, _, hp⟩ := List.mem_map.mp (h q List.mem_cons_self)
    exact ⟨p :: ys, by rw [List.map_cons, hy, hp]⟩
section
variable {Γ : GX} {sc : Sc} {a b : Expr} {f g : M Val} {pos p p2 p3 q : Pos}
theorem sortSetP_some {v r : Val} (h : sortSetP v = some r) : ∃ ps, v = .lst (ps.map pairV) ∧ ps.length < 64 ∧ (∀ p ∈ ps, okP p = true) ∧ r = .lst ((setSort ps).map pairV) := by
  unfold sortSetP at h
  split at h
  · split at h
    · rename_i ps hps
      split at h
      · rename_i hc
        cases h
        rw [Bool.and_eq_true, decide_eq_true_eq, List.all_eq_true] at hc
        exact ⟨ps, by rw [pairsI_eq hps], hc.1, hc.2, rfl⟩
      · cases h
    · cases h
  · cases h
/-- set(xs), then sorted of it -/
theorem set_then {n : Nat} {X : Cx} (cx : Compat Γ sc n X) {ps : List (Int × Int)} {u : V} {F H : Hp} (hl : ps.length < 64) (hok : ∀ p ∈ ps, okP p = true) (sm : Same F H) (t : TR Γ.K Γ.C F H (.lst (ps.map pairV)) u) {Q : VK}
    (q : ∀ a w us, H a = none → ∀ o, (upd H a o) w = none → VRs Γ.K Γ.C F ((setSort ps).map pairV) us → Q (.ref w) (upd (upd H a o) w (.lst us))) :
    rSetOfT X.K X.prog X.w [u] H fun x H1 => rSortedT X.K X.prog X.w [x] H1 Q := by
  obtain ⟨l, us, rfl, hH, hv⟩ := t.lst sm
  obtain ⟨ks, rfl, e, hk⟩ := pairs_cells hv
  have hK : ∀ p ∈ ks, SqT X.K H p.1 (p.2.map V.int) := fun p hp => by rw [cx.K]; exact sqT_mono sm (hk p hp)
  have hlen : ks.length = ps.length := by rw [← List.length_map (f := fun p => p.2), e, List.length_map]
  refine ⟨l, ks, rfl, .inl (.inl hH), hK, by omega, fun a L ha h1 h2 => ?_⟩
  have hin : ∀ p ∈ L, p.2 ∈ ps.map fun p => [p.1, p.2] := fun p hp => by rw [← e]; exact List.mem_map_of_mem (h1 p hp)
  refine ⟨a, L, 2, 64, rfl, upd_same, fun p hp => ?_, by omega, fun p hp => ?_, fun L' w pm nd _ pw hw => ?_⟩
  · exact sqT_mono (same_upd ha) (hK p (h1 p hp))
  · obtain ⟨r, hr, er⟩ := List.mem_map.mp (hin p hp)
    have := hok r hr
    unfold okP at this
    simp only [decide_eq_true_eq] at this
    rw [← er]
    refine ⟨rfl, fun m hm => ?_⟩
    simp only [List.mem_cons, List.not_mem_nil, or_false] at hm
    rcases hm with rfl | rfl <;> omega
  · obtain ⟨ys, hys⟩ := pair_list (qs := L'.map (·.2)) (ps := ps) fun r hr => by
      obtain ⟨p, hp, rfl⟩ := List.mem_map.mp hr
      exact hin p (pm.mem_iff.mp hp)
    have hinj : ∀ a b : Int × Int, [a.1, a.2] = [b.1, b.2] → a = b := fun a b h => by
      simp only [List.cons.injEq, and_true] at h
      exact Prod.ext h.1 h.2
    have hn : ys.Nodup := by
      rw [hys] at nd
      exact List.Pairwise.of_map _ (fun _ _ h e => h (by rw [e])) nd
    have hm : ∀ p, p ∈ ys ↔ p ∈ ps := fun p => by
      have m1 : [p.1, p.2] ∈ L'.map (·.2) ↔ p ∈ ys := by
        rw [hys]
        exact ⟨fun h => by obtain ⟨r, hr, er⟩ := List.mem_map.mp h; rw [← hinj r p er]; exact hr, fun h => List.mem_map_of_mem h⟩
      rw [← m1]
      constructor
      · intro h
        obtain ⟨r, hr, er⟩ := List.mem_map.mp h
        have := hin r (pm.mem_iff.mp hr)
        rw [er] at this
        obtain ⟨z, hz, ez⟩ := List.mem_map.mp this
        rw [← hinj z p ez]; exact hz
      · intro h
        have h3 : [p.1, p.2] ∈ ks.map (·.2) := by rw [e]; exact List.mem_map_of_mem h
        obtain ⟨k, hk1, hk2⟩ := List.mem_map.mp h3
        have := h2 k hk1
        rw [hk2] at this
        exact (pm.map (·.2)).mem_iff.mpr this
    have hs : ys.Pairwise fun a b => codeP a ≤ codeP b := by
      have pw2 : (L'.map (·.2)).Pairwise fun q r => TS.code 64 q ≤ TS.code 64 r := List.pairwise_map.mpr pw
      rw [hys, List.pairwise_map] at pw2
      exact pw2.imp fun {a b} h => by rw [code_pair, code_pair] at h; exact h
    refine q a w _ ha _ hw ?_
    rw [← setSort_uniq hok hn hm hs]
    refine cells_pairs hys fun p hp => ?_
    obtain hp := h1 p (pm.mem_iff.mp hp)
    exact hk p hp
/-- sorted(set(xs)) -/
theorem sf_sortSet (b1 : BlN sc "sorted" (.builtin "sorted")) (b2 : BlN sc "set" (.type "set")) (ha : SV Γ sc a f)
    (hs : ∀ env, starEach [a] env = (false, eval a env) :: starEach [] env := by intro _; rfl) : SF Γ sc (.Call (.Name "sorted" p) [.Call (.Name "set" p2) [a] [] q] [] pos) (mUn sortSetP f) := by
  intro n X cx W tk en e σ F H rl Q P
  have hu := cx.room.un
  refine je (pe_callV (.inl ⟨_, rfl⟩) (cr_sortedT cx.calm) (cx.gl b1.hg) (by rw [cx.mg]; exact cx.nb _ b1.hb) b1.hv (pa_cons (pe_callV (.inr ⟨_, rfl⟩) (cr_setOfT cx.calm (by omega)) (cx.gl b2.hg) (by rw [cx.mg]; exact cx.nb _ b2.hb) b2.hv (pa_cons JE.pe pa_nil (hs := hs _)) b2.hn b2.hd (hs _) rfl) pa_nil) b1.hn b1.hd rfl rfl) ?_
  refine ha cx tk rl (Post.seq P fun v e2 u F2 H2 s2 r2 t2 P2 => ?_)
  obtain ⟨z, hz, k⟩ := P2.ret
  obtain ⟨ps, rfl, hl, hok, rfl⟩ := sortSetP_some hz
  refine set_then cx hl hok r2.sub (.inl t2) fun a1 w us ha1 o hw hv => ?_
  obtain ⟨r4, fr⟩ := fresh_new (r2.grow (Grow.allocH (o := o) r2.sub ha1)) hw hv
  exact k _ F2 _ (Same.refl _) r4 fr
/-- .. of an owned slot -/
theorem sf_sortSetS {y : Str} {i : Nat} (b1 : BlN sc "sorted" (.builtin "sorted")) (b2 : BlN sc "set" (.type "set")) (s : SlotN sc i y) : SF Γ sc (.Call (.Name "sorted" p) [.Call (.Name "set" p2) [.Name y p3] [] q] [] pos) (mUnS sortSetP i) := by
  intro n X cx W tk en e σ F H rl Q P
  have hu := cx.room.un
  refine je (pe_callV (.inl ⟨_, rfl⟩) (cr_sortedT cx.calm) (cx.gl b1.hg) (by rw [cx.mg]; exact cx.nb _ b1.hb) b1.hv (pa_cons (pe_callV (.inr ⟨_, rfl⟩) (cr_setOfT cx.calm (by omega)) (cx.gl b2.hg) (by rw [cx.mg]; exact cx.nb _ b2.hb) b2.hv (pa_cons (s.pe cx) pa_nil) b2.hn b2.hd rfl rfl) pa_nil) b1.hn b1.hd rfl rfl) ?_
  obtain ⟨v, hv, P1⟩ := P.slot
  obtain ⟨z, hz, k⟩ := P1.ret
  obtain ⟨u, hs⟩ := rl.slotU s.k hv
  obtain ⟨ps, rfl, hl, hok, rfl⟩ := sortSetP_some hz
  refine ⟨u, hs, ?_⟩
  refine set_then cx hl hok rl.sub (rl.tr s.k hv hs) fun a1 w us ha1 o hw hv2 => ?_
  obtain ⟨r4, fr⟩ := fresh_new (rl.grow (Grow.allocH (o := o) rl.sub ha1)) hw hv2
  exact k _ F _ (Same.refl _) r4 fr
end
end CG
end
section
set_option Elab.async false
set_option linter.all false
set_option maxRecDepth 100000
set_option autoImplicit false
/-! PB: the bodies of all defs, printed by wip/gen/reg.py. -/
namespace T0
open PySem CG
def catch_ChannelError (c : Str) : Bool := [("ChannelError" : Str), ("BadSenders" : Str), ("BadTies" : Str), ("BadApart" : Str), ("BadMost" : Str), ("BadChannels" : Str), ("BadSender" : Str), ("BadWeights" : Str), ("BadTold" : Str), ("BadNumber" : Str), ("BadOrder" : Str), ("NotTree" : Str), ("NotClose" : Str), ("TooWide" : Str), ("NoRoom" : Str), ("BadLine" : Str)].contains c
def catch_BadSenders (c : Str) : Bool := [("BadSenders" : Str)].contains c
def catch_BadTies (c : Str) : Bool := [("BadTies" : Str)].contains c
def catch_BadApart (c : Str) : Bool := [("BadApart" : Str)].contains c
def catch_BadMost (c : Str) : Bool := [("BadMost" : Str)].contains c
def catch_BadChannels (c : Str) : Bool := [("BadChannels" : Str)].contains c
def catch_BadSender (c : Str) : Bool := [("BadSender" : Str)].contains c
def catch_BadWeights (c : Str) : Bool := [("BadWeights" : Str)].contains c
def catch_BadTold (c : Str) : Bool := [("BadTold" : Str)].contains c
def catch_BadNumber (c : Str) : Bool := [("BadNumber" : Str)].contains c
def catch_BadOrder (c : Str) : Bool := [("BadOrder" : Str)].contains c
def catch_NotTree (c : Str) : Bool := [("NotTree" : Str)].contains c
def catch_NotClose (c : Str) : Bool := [("NotClose" : Str)].contains c
def catch_TooWide (c : Str) : Bool := [("TooWide" : Str)].contains c
def catch_NoRoom (c : Str) : Bool := [("NoRoom" : Str)].contains c
def catch_BadLine (c : Str) : Bool := [("BadLine" : Str)].contains c
abbrev k_BadTies_init : Nat := 0
-- 0 self, 1 index
def b_BadTies_init : S := (sFldV 0 "index" (mVar 1))
def d_BadTies_init : Def := { nslots := 2, io := [false, false], fresh := false, body := b_BadTies_init }
abbrev k_is_from : Nat := 1
-- 0 value, 1 low, 2 high
def b_is_from : S := (sRet (mAnd (mUn (isiV "int") (mVar 0)) (mAnd (mNot (mUn (isiV "bool") (mVar 0))) (mChain leV leV (mVar 1) (mVar 0) (mVar 2)))))
def d_is_from : Def := { nslots := 3, io := [false, false, false], fresh := false, body := b_is_from }
abbrev k_is_tie : Nat := 2
-- 0 senders, 1 value, 2 one
def b_is_tie : S := (sSeq (sIf (mOr (mNot (mUn (isiV "tuple") (mVar 1))) (mOr (mBin neV (mCallB (op1 lenV) (iCons (mVar 1) iNil)) (mLit (.int 2))) (mNot (mCallB (op1 allV) (iCons (mLc [2] (wSeq (mVar 1)) (bindName 2) (mLit (.bl true)) (mCall 1 (aVal (mVar 2) (aVal (mLit (.int 0)) (aVal (mBin subV (mVar 0) (mLit (.int 1))) aNil))))) iNil))))) (sRet (mLit (.bl false))) sPass) (sRet (mBin ltV (mBin itemV (mVar 1) (mLit (.int 0))) (mBin itemV (mVar 1) (mLit (.int 1))))))
def d_is_tie : Def := { nslots := 3, io := [false, false], fresh := false, body := b_is_tie }
abbrev k_Field_init : Nat := 3
-- 0 self, 1 senders, 2 ties, 3 index, 4 tie, 5 one, 6 other, 7 sender
def b_Field_init : S := (sSeq (sIf (mNot (mCall 1 (aVal (mVar 1) (aVal (mLit (.int 1)) (aVal (mLit (.int 40)) aNil))))) (sRaise "BadSenders" []) sPass) (sSeq (sIf (mOr (mNot (mUn (isiV "tuple") (mVar 2))) (mBin gtV (mCallB (op1 lenV) (iCons (mVar 2) iNil)) (mLit (.int 60)))) (sRaise1 "BadTies" "index" (mLit .non)) sPass) (sSeq (sFor (wEnumA (mVar 2)) (bindTup [(bindName 3), (bindName 4)]) (sIf (mOr (mNot (mCall 2 (aVal (mVar 1) (aVal (mVar 4) aNil)))) (mAnd (mBin gtV (mVar 3) (mLit (.int 0))) (mBin leV (mVar 4) (mBin itemV (mVar 2) (mBin subV (mVar 3) (mLit (.int 1))))))) (sRaise1 "BadTies" "index" (mVar 3)) sPass)) (sSeq (sFldV 0 "many" (mVar 1)) (sSeq (sFldV 0 "rows" (mVar 2)) (sNear2 0 1 2 5 6))))))
def d_Field_init : Def := { nslots := 8, io := [true, false, false], fresh := false, body := b_Field_init }
abbrev k_Field_senders : Nat := 4
-- 0 self
def b_Field_senders : S := (sRet (mUn (fldV "many") (mVar 0)))
def d_Field_senders : Def := { nslots := 1, io := [false], fresh := false, body := b_Field_senders }
abbrev k_Field_ties : Nat := 5
-- 0 self
def b_Field_ties : S := (sRet (mUn (fldV "rows") (mVar 0)))
def d_Field_ties : Def := { nslots := 1, io := [false], fresh := false, body := b_Field_ties }
abbrev k_Field_eq : Nat := 6
-- 0 self, 1 other
def b_Field_eq : S := (sRet (mAnd (mUn (isiO "Field") (mVar 1)) (mAnd (mBin eqV (mUn (fldV "many") (mVar 0)) (mUn (fldV "many") (mVar 1))) (mBin eqV (mUn (fldV "rows") (mVar 0)) (mUn (fldV "rows") (mVar 1))))))
def d_Field_eq : Def := { nslots := 2, io := [false, false], fresh := false, body := b_Field_eq }
abbrev k_l_draws : Nat := 7
-- 0 _law_script
def b_l_draws : S := (sRet (mLst (iCons (mCallB (op1 listV) (iCons (mVar 0) iNil)) (iCons (mLit (.int 0)) (iCons (mLit (.int 0)) (iCons (mLit (.int 7)) iNil))))))
def d_l_draws : Def := { nslots := 1, io := [false], fresh := true, body := b_l_draws }
abbrev k_l_pick : Nat := 8
-- 0 _law_draws_here, 1 _law_many, 2 _law_cell, 3 _law_found
def b_l_pick : S := (sSeq (sIf (mBin eqV (mBinS itemV 0 (mLit (.int 2))) (mLit (.int 0))) (sIf (mBin ltV (mBinS itemV 0 (mLit (.int 1))) (mCallB (op1 lenV) (iCons (mBinS itemV 0 (mLit (.int 0))) iNil))) (sSeq (sAsg (bindName 2) (mBin itemV (mBinS itemV 0 (mLit (.int 0))) (mBinS itemV 0 (mLit (.int 1))))) (sSeq (sSet 0 (mLit (.int 1)) (mBin addA (mBinS itemV 0 (mLit (.int 1))) (mLit (.int 1)))) (sIf (mBin geV (mVar 2) (mBin powV (mLit (.int 10)) (mLit (.int 18)))) (sSet 0 (mLit (.int 2)) (mVar 2)) (sSet 0 (mLit (.int 3)) (mBin modV (mCallB (op1 intV) (iCons (mBin addA (mBin addA (mBin mulA (mBinS itemV 0 (mLit (.int 3))) (mLit (.int 48271))) (mBin mulA (mVar 2) (mLit (.int 69621)))) (mLit (.int 11))) iNil)) (mLit (.int 2147483647))))))) (sSet 0 (mLit (.int 3)) (mBin modV (mCallB (op1 intV) (iCons (mBin addA (mBin mulA (mBinS itemV 0 (mLit (.int 3))) (mLit (.int 48271))) (mLit (.int 7))) iNil)) (mLit (.int 2147483647))))) sPass) (sSeq (sIf (mBin gtV (mBinS itemV 0 (mLit (.int 2))) (mLit (.int 0))) (sSeq (sAsg (bindName 3) (mBin modV (mCallB (op1 intV) (iCons (mBinS itemV 0 (mLit (.int 2))) iNil)) (mVar 1))) (sSeq (sSet 0 (mLit (.int 2)) (mBin fdivV (mBinS itemV 0 (mLit (.int 2))) (mVar 1))) (sRet (mVar 3)))) sPass) (sRet (mBin modV (mBin modV (mCallB (op1 intV) (iCons (mBin mulA (mBinS itemV 0 (mLit (.int 3))) (mLit (.int 16807))) iNil)) (mLit (.int 2147483629))) (mVar 1)))))
def d_l_pick : Def := { nslots := 4, io := [true, false], fresh := false, body := b_l_pick }
abbrev k_l_field : Nat := 9
-- 0 _law_draws_here, 1 _law_most, 2 _law_many, 3 _law_ties, 4 _law_thick, 5 _law_one, 6 _law_other
def b_l_field : S := (sSeq (sPar2 2 3 (mBin addA (mLit (.int 1)) (mCall 8 (aIo 0 (aVal (mVar 1) aNil)))) (mTup iNil)) (sSeq (sAsg (bindName 4) (mBin addA (mLit (.int 1)) (mCall 8 (aIo 0 (aVal (mLit (.int 4)) aNil))))) (sSeq (sFor (wRng1 (mVar 2)) (bindName 5) (sFor (wRng2 (mBin addA (mVar 5) (mLit (.int 1))) (mVar 2)) (bindName 6) (sIf (mBin leV (mCall 8 (aIo 0 (aVal (mLit (.int 6)) aNil))) (mVar 4)) (sAsg (bindName 3) (mBin addA (mVar 3) (mTup (iCons (mTup (iCons (mVar 5) (iCons (mVar 6) iNil))) iNil)))) sPass))) (sRet (mTup (iCons (mVar 2) (iCons (mVar 3) iNil)))))))
def d_l_field : Def := { nslots := 7, io := [true, false], fresh := false, body := b_l_field }
abbrev k_l_tree : Nat := 10
-- 0 _law_draws_here, 1 _law_most, 2 _law_many, 3 _law_sort, 4 _law_names, 5 _law_ties, 6 _law_k, 7 _law_at, 8 _law_low, 9 _law_other
def b_l_tree : S := (sSeq (sPar2 2 3 (mBin addA (mLit (.int 1)) (mCall 8 (aIo 0 (aVal (mVar 1) aNil)))) (mCall 8 (aIo 0 (aVal (mLit (.int 3)) aNil)))) (sSeq (sPar2 4 5 (mLst (iCons (mLit (.int 0)) iNil)) (mLst iNil)) (sSeq (sFor (wRng2 (mLit (.int 1)) (mVar 2)) (bindName 6) (sSeq (sAsg (bindName 7) (mCall 8 (aIo 0 (aVal (mBin addA (mVar 6) (mLit (.int 1))) aNil)))) (sAsg (bindName 4) (mBin addA (mBin addA (mSlice sliceV (mVar 4) oNone (oSome (mVar 7))) (mLst (iCons (mVar 6) iNil))) (mSlice sliceV (mVar 4) (oSome (mVar 7)) oNone))))) (sSeq (sFor (wRng2 (mLit (.int 1)) (mVar 2)) (bindName 6) (sSeq (sAsg (bindName 8) (mBin itemV (mLst (iCons (mLit (.int 0)) (iCons (mCallB max2V (iCons (mLit (.int 0)) (iCons (mBin subV (mVar 6) (mLit (.int 2))) iNil))) (iCons (mBin fdivV (mVar 6) (mLit (.int 3))) iNil)))) (mVar 3))) (sSeq (sAsg (bindName 9) (mBin addA (mVar 8) (mCall 8 (aIo 0 (aVal (mBin subV (mVar 6) (mVar 8)) aNil))))) (sApp 5 (mTup (iCons (mCallB min2V (iCons (mBin itemV (mVar 4) (mVar 6)) (iCons (mBin itemV (mVar 4) (mVar 9)) iNil))) (iCons (mCallB max2V (iCons (mBin itemV (mVar 4) (mVar 6)) (iCons (mBin itemV (mVar 4) (mVar 9)) iNil))) iNil))))))) (sRet (mTup (iCons (mVar 2) (iCons (mCallB (op1 tupleV) (iCons (mUnS sortV 5) iNil)) iNil))))))))
def d_l_tree : Def := { nslots := 10, io := [true, false], fresh := false, body := b_l_tree }
abbrev k_l_told_there : Nat := 11
-- 0 _law_senders, 1 _law_ties, 2 _law_told_there_here, 3 e
def b_l_told_there : S := (sSeq (sAsg (bindName 2) (mLit .non)) (sSeq (sTry (sAsg (bindName 2) (mNew 3 "Field" (iCons (mVar 0) (iCons (mVar 1) iNil)))) [(catch_BadSenders, 3, (fun _ => some (Val.str "senders"))), (catch_BadTies, 3, (fun fs => ((fun _ => some (Val.str "ties")) fs).bind fun v => ((fun fs => List.lookup ("index" : Str) fs) fs).bind fun w => some (Val.lst [v, w])))] 2) (sRet (mVar 2))))
def d_l_told_there : Def := { nslots := 4, io := [false, false], fresh := false, body := b_l_told_there }
abbrev k_l_is_whole : Nat := 12
-- 0 _law_value, 1 _law_low, 2 _law_high
def b_l_is_whole : S := (sRet (mAnd (mUn (isiV "int") (mVar 0)) (mAnd (mNot (mUn (isiV "bool") (mVar 0))) (mChain leV leV (mVar 1) (mVar 0) (mVar 2)))))
def d_l_is_whole : Def := { nslots := 3, io := [false, false, false], fresh := false, body := b_l_is_whole }
abbrev k_l_due : Nat := 13
-- 0 _law_senders, 1 _law_ties, 2 _law_k, 3 _law_one
def b_l_due : S := (sSeq (sIf (mNot (mCall 12 (aVal (mVar 0) (aVal (mLit (.int 1)) (aVal (mLit (.int 40)) aNil))))) (sRet (mLit (.str "senders"))) sPass) (sSeq (sIf (mOr (mNot (mUn (isiV "tuple") (mVar 1))) (mBin gtV (mCallB (op1 lenV) (iCons (mVar 1) iNil)) (mLit (.int 60)))) (sRet (mLst (iCons (mLit (.str "ties")) (iCons (mLit .non) iNil)))) sPass) (sSeq (sFor (wRng1 (mCallB (op1 lenV) (iCons (mVar 1) iNil))) (bindName 2) (sSeq (sAsg (bindName 3) (mBin itemV (mVar 1) (mVar 2))) (sSeq (sIf (mOr (mNot (mUn (isiV "tuple") (mVar 3))) (mOr (mBin neV (mCallB (op1 lenV) (iCons (mVar 3) iNil)) (mLit (.int 2))) (mNot (mCall 12 (aVal (mBin itemV (mVar 3) (mLit (.int 0))) (aVal (mLit (.int 0)) (aVal (mBin subV (mVar 0) (mLit (.int 1))) aNil))))))) (sRet (mLst (iCons (mLit (.str "ties")) (iCons (mVar 2) iNil)))) sPass) (sIf (mOr (mNot (mCall 12 (aVal (mBin itemV (mVar 3) (mLit (.int 1))) (aVal (mBin addA (mBin itemV (mVar 3) (mLit (.int 0))) (mLit (.int 1))) (aVal (mBin subV (mVar 0) (mLit (.int 1))) aNil))))) (mAnd (mBin gtV (mVar 2) (mLit (.int 0))) (mBin leV (mVar 3) (mBin itemV (mVar 1) (mBin subV (mVar 2) (mLit (.int 1))))))) (sRet (mLst (iCons (mLit (.str "ties")) (iCons (mVar 2) iNil)))) sPass)))) (sRet (mLit .non)))))
def d_l_due : Def := { nslots := 4, io := [false, false], fresh := false, body := b_l_due }
abbrev k_neighbours_of : Nat := 15
-- 0 field, 1 sender
def b_neighbours_of : S := (sRet (mCallB (op1 sortV) (iCons (mBin itemV (mUn (fldV "near") (mVar 0)) (mVar 1)) iNil)))
def d_neighbours_of : Def := { nslots := 2, io := [false, false], fresh := false, body := b_neighbours_of }
abbrev k_seconds_of : Nat := 16
-- 0 field, 1 sender, 2 near, 3 found, 4 one, 5 other
def b_seconds_of : S := (sSeq (sAsg (bindName 2) (mCall 15 (aVal (mVar 0) (aVal (mVar 1) aNil)))) (sSeq (sAsg (bindName 3) (mCallB (op1 sortDV) (iCons (mDc2 [4, 5] [5] (wSeq (mVar 2)) (bindName 4) (mLit (.bl true)) (wSeq (mBin itemV (mUn (fldV "near") (mVar 0)) (mVar 4))) (bindName 5) (mLit (.bl true)) (mVar 5) (mLit (.bl true))) iNil))) (sRet (mLc [5] (wSeq (mVar 3)) (bindName 5) (mAnd (mBin neV (mVar 5) (mVar 1)) (mBin notinV (mVar 5) (mVar 2))) (mVar 5)))))
def d_seconds_of : Def := { nslots := 6, io := [false, false], fresh := false, body := b_seconds_of }
abbrev k_seconds : Nat := 17
-- 0 field, 1 one, 2 other
def b_seconds : S := (sRet (mLc2 [1, 2] [2] (wRng1 (mUn (fldV "many") (mVar 0))) (bindName 1) (mLit (.bl true)) (wSeq (mCall 16 (aVal (mVar 0) (aVal (mVar 1) aNil)))) (bindName 2) (mBin ltV (mVar 1) (mVar 2)) (mTup (iCons (mVar 1) (iCons (mVar 2) iNil)))))
def d_seconds : Def := { nslots := 3, io := [false], fresh := false, body := b_seconds }
abbrev k_degree_of : Nat := 18
-- 0 field, 1 near
def b_degree_of : S := (sRet (mCallB (op1 maxV) (iCons (mLc [1] (wSeq (mUn (fldV "near") (mVar 0))) (bindName 1) (mLit (.bl true)) (mCallB (op1 lenV) (iCons (mVar 1) iNil))) iNil)))
def d_degree_of : Def := { nslots := 2, io := [false], fresh := false, body := b_degree_of }
abbrev k_degree : Nat := 19
-- 0 field
def b_degree : S := (sRet (mCall 18 (aVal (mVar 0) aNil)))
def d_degree : Def := { nslots := 1, io := [false], fresh := false, body := b_degree }
abbrev k_reached_from : Nat := 20
-- 0 field, 1 sender, 2 found, 3 one, 4 other
def b_reached_from : S := (sSeq (sAsg (bindName 2) (mLst (iCons (mVar 1) iNil))) (sSeq (sFor (wRng1 (mUn (fldV "many") (mVar 0))) (bindName 3) (sFor (wSeq (mIf (mBin ltV (mVar 3) (mUnS lenV 2)) (mCall 15 (aVal (mVar 0) (aVal (mBinS itemV 2 (mVar 3)) aNil))) (mLst iNil))) (bindName 4) (sIf (mBinR notinV (mVar 4) 2) (sApp 2 (mVar 4)) sPass))) (sRet (mMv 2))))
def d_reached_from : Def := { nslots := 5, io := [false, false], fresh := false, body := b_reached_from }
abbrev k_is_a_tree : Nat := 21
-- 0 field
def b_is_a_tree : S := (sRet (mAnd (mBin eqV (mCallB (op1 lenV) (iCons (mUn (fldV "rows") (mVar 0)) iNil)) (mBin subV (mUn (fldV "many") (mVar 0)) (mLit (.int 1)))) (mBin eqV (mCallB (op1 lenV) (iCons (mCall 20 (aVal (mVar 0) (aVal (mLit (.int 0)) aNil))) iNil)) (mUn (fldV "many") (mVar 0)))))
def d_is_a_tree : Def := { nslots := 1, io := [false], fresh := false, body := b_is_a_tree }
abbrev k_is_tree : Nat := 22
-- 0 field
def b_is_tree : S := (sRet (mCall 21 (aVal (mVar 0) aNil)))
def d_is_tree : Def := { nslots := 1, io := [false], fresh := false, body := b_is_tree }
abbrev k_l_made : Nat := 23
-- 0 _law_f
def b_l_made : S := (sRet (mNew 3 "Field" (iCons (mBin itemV (mVar 0) (mLit (.int 0))) (iCons (mBin itemV (mVar 0) (mLit (.int 1))) iNil))))
def d_l_made : Def := { nslots := 1, io := [false], fresh := false, body := b_l_made }
abbrev k_l_near : Nat := 24
-- 0 _law_f, 1 _law_sender, 2 _law_found, 3 _law_one, 4 _law_other
def b_l_near : S := (sSeq (sAsg (bindName 2) (mLst iNil)) (sSeq (sFor (wSeq (mBin itemV (mVar 0) (mLit (.int 1)))) (bindTup [(bindName 3), (bindName 4)]) (sSeq (sIf (mBin eqV (mVar 3) (mVar 1)) (sApp 2 (mVar 4)) sPass) (sIf (mBin eqV (mVar 4) (mVar 1)) (sApp 2 (mVar 3)) sPass))) (sRet (mUnS sortV 2))))
def d_l_near : Def := { nslots := 5, io := [false, false], fresh := false, body := b_l_near }
abbrev k_l_seconds : Nat := 25
-- 0 _law_f, 1 _law_near_here, 2 _law_found, 3 _law_one, 4 _law_other, 5 _law_sender, 6 _law_k
def b_l_seconds : S := (sSeq (sPar2 1 2 (mLc [5] (wRng1 (mBin itemV (mVar 0) (mLit (.int 0)))) (bindName 5) (mLit (.bl true)) (mCall 24 (aVal (mVar 0) (aVal (mVar 5) aNil)))) (mLst iNil)) (sSeq (sFor (wRng1 (mBin itemV (mVar 0) (mLit (.int 0)))) (bindName 3) (sFor (wRng2 (mBin addA (mVar 3) (mLit (.int 1))) (mBin itemV (mVar 0) (mLit (.int 0)))) (bindName 4) (sIf (mAnd (mBin notinV (mVar 4) (mBin itemV (mVar 1) (mVar 3))) (mBin neV (mLc [6] (wSeq (mBin itemV (mVar 1) (mVar 3))) (bindName 6) (mBin inV (mVar 6) (mBin itemV (mVar 1) (mVar 4))) (mVar 6)) (mLst iNil))) (sApp 2 (mTup (iCons (mVar 3) (iCons (mVar 4) iNil)))) sPass))) (sRet (mMv 2))))
def d_l_seconds : Def := { nslots := 7, io := [false], fresh := false, body := b_l_seconds }
abbrev k_l_parents : Nat := 26
-- 0 _law_f, 1 _law_found, 2 _law_layer, 3 _law_later, 4 _law_sender, 5 _law_other
def b_l_parents : S := (sSeq (sPar2 1 2 (mDict1 (mLit (.int 0)) (mLit .non)) (mLst (iCons (mLit (.int 0)) iNil))) (sSeq (sWhile (mBin neV (mVar 2) (mLst iNil)) (sSeq (sAsg (bindName 3) (mLst iNil)) (sSeq (sFor (wSeq (mVar 2)) (bindName 4) (sFor (wSeq (mCall 24 (aVal (mVar 0) (aVal (mVar 4) aNil)))) (bindName 5) (sIf (mBinR notinV (mVar 5) 1) (sSeq (sSet 1 (mVar 5) (mVar 4)) (sApp 3 (mVar 5))) sPass))) (sAsg (bindName 2) (mMv 3)))) 100000) (sRet (mMv 1))))
def d_l_parents : Def := { nslots := 6, io := [false], fresh := false, body := b_l_parents }
abbrev k_law_k02 : Nat := 27
-- 0 _law_script, 1 _law_draws_here, 2 _law_turn, 3 _law_f, 4 _law_at, 5 _law_one, 6 _law_other, 7 _law_ties, 8 _law_field_here, 9 _law_due, 10 _law_sender
def b_law_k02 : S := (sSeq (sAsg (bindName 1) (mCall 7 (aVal (mVar 0) aNil))) (sSeq (sFor (wRng1 (mLit (.int 3))) (bindName 2) (sSeq (sAsg (bindName 3) (mBin itemV (mLst (iCons (mCall 9 (aIo 1 (aVal (mLit (.int 8)) aNil))) (iCons (mCall 10 (aIo 1 (aVal (mLit (.int 20)) aNil))) (iCons (mCall 10 (aIo 1 (aVal (mLit (.int 40)) aNil))) iNil)))) (mCall 8 (aIo 1 (aVal (mLit (.int 3)) aNil))))) (sSeq (sIf (mAnd (mBin eqV (mCall 8 (aIo 1 (aVal (mLit (.int 3)) aNil))) (mLit (.int 0))) (mBin neV (mBin itemV (mVar 3) (mLit (.int 1))) (mTup iNil))) (sSeq (sPar3 4 5 6 (mCall 8 (aIo 1 (aVal (mCallB (op1 lenV) (iCons (mBin itemV (mVar 3) (mLit (.int 1))) iNil)) aNil))) (mCall 8 (aIo 1 (aVal (mBin itemV (mVar 3) (mLit (.int 0))) aNil))) (mCall 8 (aIo 1 (aVal (mBin itemV (mVar 3) (mLit (.int 0))) aNil)))) (sSeq (sAsg (bindName 7) (mCallB (op1 listV) (iCons (mBin addA (mSlice sliceV (mBin itemV (mVar 3) (mLit (.int 1))) oNone (oSome (mVar 4))) (mSlice sliceV (mBin itemV (mVar 3) (mLit (.int 1))) (oSome (mBin addA (mVar 4) (mLit (.int 1)))) oNone)) iNil))) (sSeq (sIf (mBin neV (mVar 5) (mVar 6)) (sApp 7 (mTup (iCons (mCallB min2V (iCons (mVar 5) (iCons (mVar 6) iNil))) (iCons (mCallB max2V (iCons (mVar 5) (iCons (mVar 6) iNil))) iNil)))) sPass) (sAsg (bindName 3) (mTup (iCons (mBin itemV (mVar 3) (mLit (.int 0))) (iCons (mCallB (op1 tupleV) (iCons (mUnS sortSetP 7) iNil)) iNil))))))) sPass) (sSeq (sAsg (bindName 8) (mCall 23 (aVal (mVar 3) aNil))) (sSeq (sAsg (bindName 9) (mAnd (mBin eqV (mCallB (op1 lenV) (iCons (mCall 26 (aVal (mVar 3) aNil)) iNil)) (mBin itemV (mVar 3) (mLit (.int 0)))) (mBin eqV (mCallB (op1 lenV) (iCons (mBin itemV (mVar 3) (mLit (.int 1))) iNil)) (mBin subV (mBin itemV (mVar 3) (mLit (.int 0))) (mLit (.int 1)))))) (sSeq (sIf (mOr (mBin neV (mCall 17 (aVal (mVar 8) aNil)) (mCall 25 (aVal (mVar 3) aNil))) (mBin neV (mCall 22 (aVal (mVar 8) aNil)) (mVar 9))) (sRet (mLit (.bl false))) sPass) (sIf (mBin neV (mCall 19 (aVal (mVar 8) aNil)) (mCallB (op1 maxV) (iCons (mLc [10] (wRng1 (mBin itemV (mVar 3) (mLit (.int 0)))) (bindName 10) (mLit (.bl true)) (mCallB (op1 lenV) (iCons (mCall 24 (aVal (mVar 3) (aVal (mVar 10) aNil))) iNil))) iNil))) (sRet (mLit (.bl false))) sPass))))))) (sRet (mLit (.bl true)))))
def d_law_k02 : Def := { nslots := 11, io := [false], fresh := false, body := b_law_k02 }
abbrev k_check_apart : Nat := 28
-- 0 near, 1 far
def b_check_apart : S := (sIf (mOr (mNot (mCall 1 (aVal (mVar 0) (aVal (mLit (.int 1)) (aVal (mLit (.int 5)) aNil))))) (mNot (mCall 1 (aVal (mVar 1) (aVal (mLit (.int 0)) (aVal (mVar 0) aNil)))))) (sRaise "BadApart" []) sPass)
def d_check_apart : Def := { nslots := 2, io := [false, false], fresh := false, body := b_check_apart }
abbrev k_are_channels : Nat := 29
-- 0 field, 1 value, 2 one
def b_are_channels : S := (sSeq (sIf (mOr (mNot (mUn (isiV "tuple") (mVar 1))) (mBin neV (mCallB (op1 lenV) (iCons (mVar 1) iNil)) (mUn (fldV "many") (mVar 0)))) (sRet (mLit (.bl false))) sPass) (sRet (mCallB (op1 allV) (iCons (mLc [2] (wSeq (mVar 1)) (bindName 2) (mLit (.bl true)) (mCall 1 (aVal (mVar 2) (aVal (mLit (.int 0)) (aVal (mLit (.int 99)) aNil))))) iNil))))
def d_are_channels : Def := { nslots := 3, io := [false, false], fresh := false, body := b_are_channels }
abbrev k_check_channels : Nat := 30
-- 0 field, 1 value
def b_check_channels : S := (sIf (mNot (mCall 29 (aVal (mVar 0) (aVal (mVar 1) aNil)))) (sRaise "BadChannels" []) sPass)
def d_check_channels : Def := { nslots := 2, io := [false, false], fresh := false, body := b_check_channels }
abbrev k_clash_of : Nat := 31
-- 0 field, 1 channels, 2 near, 3 far, 4 pairs, 5 some, 6 one, 7 other, 8 apart
def b_clash_of : S := (sSeq (sAsg (bindName 4) (mBin addA (mLc [6, 7] (wSeq (mUn (fldV "rows") (mVar 0))) (bindTup [(bindName 6), (bindName 7)]) (mLit (.bl true)) (mTup (iCons (mVar 6) (iCons (mVar 7) (iCons (mVar 2) iNil))))) (mLc [6, 7] (wSeq (mCall 17 (aVal (mVar 0) aNil))) (bindTup [(bindName 6), (bindName 7)]) (mLit (.bl true)) (mTup (iCons (mVar 6) (iCons (mVar 7) (iCons (mVar 3) iNil))))))) (sSeq (sAsg (bindName 5) (mLc [6, 7, 8] (wSeq (mVar 4)) (bindTup [(bindName 6), (bindName 7), (bindName 8)]) (mBin ltV (mCallB (op1 absV) (iCons (mBin subV (mBin itemV (mVar 1) (mVar 6)) (mBin itemV (mVar 1) (mVar 7))) iNil)) (mVar 8)) (mTup (iCons (mVar 6) (iCons (mVar 7) iNil))))) (sRet (mIf (mBin neV (mVar 5) (mLst iNil)) (mCallB (op1 minV) (iCons (mVar 5) iNil)) (mLit .non)))))
def d_clash_of : Def := { nslots := 9, io := [false, false, false, false], fresh := false, body := b_clash_of }
abbrev k_first_clash : Nat := 32
-- 0 field, 1 channels, 2 near, 3 far
def b_first_clash : S := (sSeq (sExpr (mCall 30 (aVal (mVar 0) (aVal (mVar 1) aNil)))) (sSeq (sExpr (mCall 28 (aVal (mVar 2) (aVal (mVar 3) aNil)))) (sRet (mCall 31 (aVal (mVar 0) (aVal (mVar 1) (aVal (mVar 2) (aVal (mVar 3) aNil))))))))
def d_first_clash : Def := { nslots := 4, io := [false, false, false, false], fresh := false, body := b_first_clash }
abbrev k_l_odd_apart : Nat := 33
-- 0 _law_draws_here
def b_l_odd_apart : S := (sRet (mBin itemV (mLst (iCons (mTup (iCons (mLit (.int 0)) (iCons (mLit (.int 0)) iNil))) (iCons (mTup (iCons (mLit (.int 6)) (iCons (mLit (.int 1)) iNil))) (iCons (mTup (iCons (mLit (.int 2)) (iCons (mLit (.int 3)) iNil))) (iCons (mTup (iCons (mLit (.int 2)) (iCons (mUn negV (mLit (.int 1))) iNil))) (iCons (mTup (iCons (mLit (.bl true)) (iCons (mLit (.int 0)) iNil))) (iCons (mTup (iCons (mLit (.int 2)) (iCons (mLit (.bl true)) iNil))) (iCons (mTup (iCons (mLit .non) (iCons (mLit (.int 1)) iNil))) (iCons (mTup (iCons (mLit (.int 2)) (iCons (mLit .non) iNil))) (iCons (mTup (iCons (mLit (.str "2")) (iCons (mLit (.int 1)) iNil))) iNil)))))))))) (mCall 8 (aIo 0 (aVal (mLit (.int 9)) aNil)))))
def d_l_odd_apart : Def := { nslots := 1, io := [true], fresh := false, body := b_l_odd_apart }
abbrev k_l_wrong : Nat := 34
-- 0 _law_field_here, 1 _law_channels_there, 2 _law_near_here, 3 _law_far, 4 _law_told_there, 5 e
def b_l_wrong : S := (sSeq (sAsg (bindName 4) (mLit .non)) (sSeq (sTry (sAsg (bindName 4) (mCall 32 (aVal (mVar 0) (aVal (mVar 1) (aVal (mVar 2) (aVal (mVar 3) aNil)))))) [(catch_BadChannels, 5, (fun _ => some (Val.str "channels"))), (catch_BadApart, 5, (fun _ => some (Val.str "apart")))] 4) (sRet (mVar 4))))
def d_l_wrong : Def := { nslots := 6, io := [false, false, false, false], fresh := false, body := b_l_wrong }
abbrev k_law_k03 : Nat := 35
-- 0 _law_script, 1 _law_draws_here, 2 _law_turn, 3 _law_f, 4 _law_field_here, 5 _law_near_here, 6 _law_wide, 7 _law_far, 8 _law_some, 9 _law_due, 10 _law_odd, 11 _law_spot, 12 _law_bad, 13 _law_wrong_here, 14 _law_sender, 15 _law_one, 16 _law_other
def b_law_k03 : S := (sSeq (sAsg (bindName 1) (mCall 7 (aVal (mVar 0) aNil))) (sSeq (sFor (wRng1 (mLit (.int 4))) (bindName 2) (sSeq (sAsg (bindName 3) (mBin itemV (mLst (iCons (mCall 9 (aIo 1 (aVal (mLit (.int 8)) aNil))) (iCons (mCall 10 (aIo 1 (aVal (mLit (.int 30)) aNil))) iNil))) (mCall 8 (aIo 1 (aVal (mLit (.int 2)) aNil))))) (sSeq (sAsg (bindTup [(bindName 4), (bindName 5), (bindName 6)]) (mTup (iCons (mCall 23 (aVal (mVar 3) aNil)) (iCons (mBin addA (mLit (.int 1)) (mCall 8 (aIo 1 (aVal (mLit (.int 5)) aNil)))) (iCons (mBin itemV (mLst (iCons (mLit (.int 8)) (iCons (mLit (.int 100)) iNil))) (mCall 8 (aIo 1 (aVal (mLit (.int 2)) aNil)))) iNil))))) (sSeq (sAsg (bindTup [(bindName 7), (bindName 8)]) (mTup (iCons (mCall 8 (aIo 1 (aVal (mBin addA (mVar 5) (mLit (.int 1))) aNil))) (iCons (mCallB (op1 tupleV) (iCons (mLc [14] (wRng1 (mBin itemV (mVar 3) (mLit (.int 0)))) (bindName 14) (mLit (.bl true)) (mCall 8 (aIo 1 (aVal (mVar 6) aNil)))) iNil)) iNil)))) (sSeq (sAsg (bindName 9) (mLc [15, 16] (wSeq (mBin itemV (mVar 3) (mLit (.int 1)))) (bindTup [(bindName 15), (bindName 16)]) (mBin ltV (mCallB (op1 absV) (iCons (mBin subV (mBin itemV (mVar 8) (mVar 15)) (mBin itemV (mVar 8) (mVar 16))) iNil)) (mVar 5)) (mTup (iCons (mVar 15) (iCons (mVar 16) iNil))))) (sSeq (sAsg (bindName 9) (mBin addA (mVar 9) (mLc [15, 16] (wSeq (mCall 25 (aVal (mVar 3) aNil))) (bindTup [(bindName 15), (bindName 16)]) (mBin ltV (mCallB (op1 absV) (iCons (mBin subV (mBin itemV (mVar 8) (mVar 15)) (mBin itemV (mVar 8) (mVar 16))) iNil)) (mVar 7)) (mTup (iCons (mVar 15) (iCons (mVar 16) iNil)))))) (sSeq (sIf (mBin neV (mCall 32 (aVal (mVar 4) (aVal (mVar 8) (aVal (mVar 5) (aVal (mVar 7) aNil))))) (mIf (mBin neV (mVar 9) (mLst iNil)) (mCallB (op1 minV) (iCons (mVar 9) iNil)) (mLit .non))) (sRet (mLit (.bl false))) sPass) (sSeq (sAsg (bindName 10) (mLst (iCons (mLit .non) (iCons (mCallB (op1 listV) (iCons (mVar 8) iNil)) (iCons (mBin addA (mVar 8) (mTup (iCons (mLit (.int 0)) iNil))) (iCons (mSlice sliceV (mVar 8) (oSome (mLit (.int 1))) oNone) (iCons (mBin addA (mTup (iCons (mLit (.int 100)) iNil)) (mSlice sliceV (mVar 8) (oSome (mLit (.int 1))) oNone)) (iCons (mBin addA (mTup (iCons (mUn negV (mLit (.int 1))) iNil)) (mSlice sliceV (mVar 8) (oSome (mLit (.int 1))) oNone)) (iCons (mBin addA (mTup (iCons (mLit (.bl true)) iNil)) (mSlice sliceV (mVar 8) (oSome (mLit (.int 1))) oNone)) (iCons (mLit (.str "0")) iNil)))))))))) (sSeq (sPar2 11 12 (mCall 8 (aIo 1 (aVal (mBin itemV (mVar 3) (mLit (.int 0))) aNil))) (mBin itemV (mLst (iCons (mLit (.int 100)) (iCons (mUn negV (mLit (.int 1))) (iCons (mLit (.bl true)) (iCons (mLit .non) (iCons (mLit (.str "1")) (iCons (mTup (iCons (mLit (.int 1)) iNil)) iNil))))))) (mCall 8 (aIo 1 (aVal (mLit (.int 6)) aNil))))) (sSeq (sAsg (bindName 13) (mBin itemV (mBin addA (mVar 10) (mBin mulA (mLst (iCons (mBin addA (mBin addA (mSlice sliceV (mVar 8) oNone (oSome (mVar 11))) (mTup (iCons (mVar 12) iNil))) (mSlice sliceV (mVar 8) (oSome (mBin addA (mVar 11) (mLit (.int 1)))) oNone)) iNil)) (mLit (.int 5)))) (mCall 8 (aIo 1 (aVal (mLit (.int 13)) aNil))))) (sSeq (sIf (mBin neV (mCall 34 (aVal (mVar 4) (aVal (mVar 13) (aVal (mLit .non) (aVal (mLit .non) aNil))))) (mLit (.str "channels"))) (sRet (mLit (.bl false))) sPass) (sSeq (sAsg (bindName 13) (mCall 33 (aIo 1 aNil))) (sIf (mBin neV (mCall 34 (aVal (mVar 4) (aVal (mVar 8) (aVal (mBin itemV (mVar 13) (mLit (.int 0))) (aVal (mBin itemV (mVar 13) (mLit (.int 1))) aNil))))) (mLit (.str "apart"))) (sRet (mLit (.bl false))) sPass))))))))))))) (sRet (mLit (.bl true)))))
def d_law_k03 : Def := { nslots := 17, io := [false], fresh := false, body := b_law_k03 }
abbrev k_check_tree : Nat := 36
-- 0 field
def b_check_tree : S := (sIf (mNot (mCall 21 (aVal (mVar 0) aNil))) (sRaise "NotTree" []) sPass)
def d_check_tree : Def := { nslots := 1, io := [false], fresh := false, body := b_check_tree }
abbrev k_check_most : Nat := 37
-- 0 value
def b_check_most : S := (sIf (mNot (mCall 1 (aVal (mVar 0) (aVal (mLit (.int 0)) (aVal (mLit (.int 20)) aNil))))) (sRaise "BadMost" []) sPass)
def d_check_most : Def := { nslots := 1, io := [false], fresh := false, body := b_check_most }
abbrev k_parents_of : Nat := 38
-- 0 field, 1 found, 2 sender, 3 other
def b_parents_of : S := (sSeq (sAsg (bindName 1) (mBin repV (mLst (iCons (mLit .non) iNil)) (mUn (fldV "many") (mVar 0)))) (sSeq (sFor (wSeq (mCall 20 (aVal (mVar 0) (aVal (mLit (.int 0)) aNil)))) (bindName 2) (sFor (wSeq (mCall 15 (aVal (mVar 0) (aVal (mVar 2) aNil)))) (bindName 3) (sIf (mBin neV (mVar 3) (mBinS itemV 1 (mVar 2))) (sSet 1 (mVar 3) (mVar 2)) sPass))) (sRet (mMv 1))))
def d_parents_of : Def := { nslots := 4, io := [false], fresh := false, body := b_parents_of }
abbrev k_children_of : Nat := 39
-- 0 field, 1 parents, 2 sender, 3 other
def b_children_of : S := (sRet (mLc [3] (wSeq (mCall 15 (aVal (mVar 0) (aVal (mVar 2) aNil)))) (bindName 3) (mBin eqV (mBin itemV (mVar 1) (mVar 3)) (mVar 2)) (mVar 3)))
def d_children_of : Def := { nslots := 4, io := [false, false, false], fresh := false, body := b_children_of }
abbrev k_give : Nat := 40
-- 0 rooms, 1 child, 2 held, 3 seen, 4 room
def b_give : S := (sSeq (sFor (wSeq (mBin itemV (mVar 0) (mVar 1))) (bindName 4) (sIf (mBinR notinV (mVar 4) 3) (sSeq (sSet 3 (mVar 4) (mLit (.bl true))) (sIf (mOr (mBinR notinV (mVar 4) 2) (mCall 40 (aVal (mVar 0) (aVal (mBinS itemV 2 (mVar 4)) (aIo 2 (aIo 3 aNil)))))) (sSeq (sSet 2 (mVar 4) (mVar 1)) (sRet (mLit (.bl true)))) sPass)) sPass)) (sRet (mLit (.bl false))))
def d_give : Def := { nslots := 5, io := [false, false, true, true], fresh := false, body := b_give }
abbrev k_rooms_of : Nat := 42
-- 0 tables, 1 children, 2 above, 3 own, 4 child, 5 channel, 6 room
def b_rooms_of : S := (sRet (mLc [4] (wSeq (mVar 1)) (bindName 4) (mLit (.bl true)) (mLc [5, 6] (wSeq (mBin itemV (mVar 0) (mVar 4))) (bindTup [(bindName 5), (bindName 6)]) (mAnd (mBin eqV (mVar 5) (mVar 3)) (mBin neV (mVar 6) (mVar 2))) (mVar 6))))
def d_rooms_of : Def := { nslots := 7, io := [false, false, false, false], fresh := false, body := b_rooms_of }
abbrev k_pairs_of : Nat := 43
-- 0 field, 1 parents, 2 tables, 3 sender, 4 most, 5 children, 6 found, 7 above, 8 own
def b_pairs_of : S := (sSeq (sPar2 5 6 (mCall 39 (aVal (mVar 0) (aVal (mVar 1) (aVal (mVar 3) aNil)))) (mLst iNil)) (sSeq (sFor (wRng1 (mBin addA (mVar 4) (mLit (.int 1)))) (bindName 7) (sFor (wRng1 (mBin addA (mVar 4) (mLit (.int 1)))) (bindName 8) (sIf (mAnd (mBin gtV (mCallB (op1 absV) (iCons (mBin subV (mVar 7) (mVar 8)) iNil)) (mLit (.int 1))) (mBin isnotV (mCall 41 (aVal (mCall 42 (aVal (mVar 2) (aVal (mVar 5) (aVal (mVar 7) (aVal (mVar 8) aNil))))) aNil)) (mLit .non))) (sApp 6 (mTup (iCons (mVar 7) (iCons (mVar 8) iNil)))) sPass))) (sRet (mMv 6))))
def d_pairs_of : Def := { nslots := 9, io := [false, false, false, false, false], fresh := false, body := b_pairs_of }
abbrev k_table : Nat := 45
-- 0 field, 1 most, 2 tables, 3 sender
def b_table : S := (sSeq (sExpr (mCall 36 (aVal (mVar 0) aNil))) (sSeq (sExpr (mCall 37 (aVal (mVar 1) aNil))) (sSeq (sAsg (bindName 2) (mCall 44 (aVal (mVar 0) (aVal (mVar 1) aNil)))) (sRet (mTup (iCons (mBin itemV (mVar 2) (mLit (.int 0))) (iCons (mLc [3] (wRng2 (mLit (.int 1)) (mUn (fldV "many") (mVar 0))) (bindName 3) (mLit (.bl true)) (mBin itemV (mVar 2) (mVar 3))) iNil)))))))
def d_table : Def := { nslots := 4, io := [false, false], fresh := false, body := b_table }
abbrev k_check_many : Nat := 46
-- 0 value, 1 low
def b_check_many : S := (sIf (mNot (mCall 1 (aVal (mVar 0) (aVal (mVar 1) (aVal (mLit (.int 40)) aNil))))) (sRaise "BadNumber" []) sPass)
def d_check_many : Def := { nslots := 2, io := [false, false], fresh := false, body := b_check_many }
abbrev k_ring : Nat := 47
-- 0 many, 1 at
def b_ring : S := (sSeq (sExpr (mCall 46 (aVal (mVar 0) (aVal (mLit (.int 3)) aNil)))) (sRet (mNew 3 "Field" (iCons (mVar 0) (iCons (mCallB (op1 tupleV) (iCons (mCallB (op1 sortV) (iCons (mBin addA (mLc [1] (wRng1 (mBin subV (mVar 0) (mLit (.int 1)))) (bindName 1) (mLit (.bl true)) (mTup (iCons (mVar 1) (iCons (mBin addA (mVar 1) (mLit (.int 1))) iNil)))) (mLst (iCons (mTup (iCons (mLit (.int 0)) (iCons (mBin subV (mVar 0) (mLit (.int 1))) iNil))) iNil))) iNil)) iNil)) iNil)))))
def d_ring : Def := { nslots := 2, io := [false], fresh := false, body := b_ring }
abbrev k_l_odd_most : Nat := 48
-- 0 _law_draws_here
def b_l_odd_most : S := (sRet (mBin itemV (mLst (iCons (mUn negV (mLit (.int 1))) (iCons (mLit (.int 21)) (iCons (mLit (.bl true)) (iCons (mLit .non) (iCons (mLit (.str "1")) (iCons (mTup (iCons (mLit (.int 1)) iNil)) iNil))))))) (mCall 8 (aIo 0 (aVal (mLit (.int 6)) aNil)))))
def d_l_odd_most : Def := { nslots := 1, io := [true], fresh := false, body := b_l_odd_most }
abbrev k_l_wrong_k04 : Nat := 52
-- 0 _law_field, 1 _law_most, 2 _law_told_there, 3 e
def b_l_wrong_k04 : S := (sSeq (sAsg (bindName 2) (mLit .non)) (sSeq (sTry (sAsg (bindName 2) (mCall 45 (aVal (mVar 0) (aVal (mVar 1) aNil)))) [(catch_NotTree, 3, (fun _ => some (Val.str "tree"))), (catch_BadMost, 3, (fun _ => some (Val.str "most")))] 2) (sRet (mVar 2))))
def d_l_wrong_k04 : Def := { nslots := 4, io := [false, false], fresh := false, body := b_l_wrong_k04 }
abbrev k_law_k04 : Nat := 53
-- 0 _law_script, 1 _law_draws_here, 2 _law_f, 3 _law_most, 4 _law_field
def b_law_k04 : S := (sSeq (sAsg (bindName 1) (mCall 7 (aVal (mVar 0) aNil))) (sSeq (sPar2 2 3 (mCall 10 (aIo 1 (aVal (mLit (.int 12)) aNil))) (mCall 8 (aIo 1 (aVal (mLit (.int 7)) aNil)))) (sSeq (sAsg (bindName 4) (mCall 23 (aVal (mVar 2) aNil))) (sSeq (sIf (mBin neV (mCall 45 (aVal (mVar 4) (aVal (mVar 3) aNil))) (mCall 51 (aVal (mVar 2) (aVal (mVar 3) aNil)))) (sRet (mLit (.bl false))) sPass) (sSeq (sIf (mOr (mBin neV (mCall 52 (aVal (mNew 3 "Field" (iCons (mBin addA (mBin itemV (mVar 2) (mLit (.int 0))) (mLit (.int 1))) (iCons (mBin itemV (mVar 2) (mLit (.int 1))) iNil))) (aVal (mLit .non) aNil))) (mLit (.str "tree"))) (mBin neV (mCall 52 (aVal (mCall 47 (aVal (mBin addA (mLit (.int 3)) (mBin itemV (mVar 2) (mLit (.int 0)))) aNil)) (aVal (mLit (.int 4)) aNil))) (mLit (.str "tree")))) (sRet (mLit (.bl false))) sPass) (sRet (mBin eqV (mCall 52 (aVal (mVar 4) (aVal (mCall 48 (aIo 1 aNil)) aNil))) (mLit (.str "most")))))))))
def d_law_k04 : Def := { nslots := 5, io := [false], fresh := false, body := b_law_k04 }
abbrev k_least_of : Nat := 54
-- 0 field, 1 most
def b_least_of : S := (sSeq (sIf (mBin eqV (mUn (fldV "many") (mVar 0)) (mLit (.int 1))) (sRet (mLit (.int 0))) sPass) (sSeq (sAsg (bindName 1) (mBin addA (mCall 18 (aVal (mVar 0) aNil)) (mLit (.int 1)))) (sRet (mIf (mBin neV (mBin itemV (mCall 44 (aVal (mVar 0) (aVal (mVar 1) aNil))) (mLit (.int 0))) (mLst iNil)) (mVar 1) (mBin addA (mVar 1) (mLit (.int 1)))))))
def d_least_of : Def := { nslots := 2, io := [false], fresh := false, body := b_least_of }
abbrev k_least_tree : Nat := 55
-- 0 field
def b_least_tree : S := (sSeq (sExpr (mCall 36 (aVal (mVar 0) aNil))) (sRet (mCall 54 (aVal (mVar 0) aNil))))
def d_least_tree : Def := { nslots := 1, io := [false], fresh := false, body := b_least_tree }
abbrev k_laid : Nat := 56
-- 0 field, 1 most, 2 tables, 3 parents, 4 found, 5 sender, 6 children, 7 above, 8 child, 9 room
def b_laid : S := (sSeq (sPar2 2 3 (mCall 44 (aVal (mVar 0) (aVal (mVar 1) aNil))) (mCall 38 (aVal (mVar 0) aNil))) (sSeq (sIf (mBin eqV (mBin itemV (mVar 2) (mLit (.int 0))) (mLst iNil)) (sRet (mLit .non)) sPass) (sSeq (sAsg (bindName 4) (mBin repV (mLst (iCons (mLit .non) iNil)) (mUn (fldV "many") (mVar 0)))) (sSeq (sSet 4 (mLit (.int 0)) (mBin itemV (mBin itemV (mVar 2) (mLit (.int 0))) (mLit (.int 0)))) (sSeq (sFor (wSeq (mCall 20 (aVal (mVar 0) (aVal (mLit (.int 0)) aNil)))) (bindName 5) (sSeq (sAsg (bindName 6) (mCall 39 (aVal (mVar 0) (aVal (mVar 3) (aVal (mVar 5) aNil))))) (sSeq (sAsg (bindName 7) (mIf (mBin isV (mBin itemV (mVar 3) (mVar 5)) (mLit .non)) (mLit .non) (mBinS itemV 4 (mBin itemV (mVar 3) (mVar 5))))) (sFor (wZip (mVar 6) (mCall 41 (aVal (mCall 42 (aVal (mVar 2) (aVal (mVar 6) (aVal (mVar 7) (aVal (mBinS itemV 4 (mVar 5)) aNil))))) aNil))) (bindTup [(bindName 8), (bindName 9)]) (sSet 4 (mVar 8) (mVar 9)))))) (sRet (mUnS tupleV 4)))))))
def d_laid : Def := { nslots := 10, io := [false, false], fresh := false, body := b_laid }
abbrev k_tree_channels : Nat := 57
-- 0 field
def b_tree_channels : S := (sSeq (sExpr (mCall 36 (aVal (mVar 0) aNil))) (sRet (mCall 56 (aVal (mVar 0) (aVal (mCall 54 (aVal (mVar 0) aNil)) aNil)))))
def d_tree_channels : Def := { nslots := 1, io := [false], fresh := false, body := b_tree_channels }
abbrev k_paper : Nat := 58
-- 0 field, 1 most, 2 found, 3 tables, 4 sender
def b_paper : S := (sSeq (sExpr (mCall 36 (aVal (mVar 0) aNil))) (sSeq (sExpr (mCall 37 (aVal (mVar 1) aNil))) (sSeq (sAsg (bindName 2) (mCall 56 (aVal (mVar 0) (aVal (mVar 1) aNil)))) (sSeq (sIf (mBin isnotV (mVar 2) (mLit .non)) (sRet (mTup (iCons (mLit (.str "channels")) (iCons (mVar 2) iNil)))) sPass) (sSeq (sAsg (bindName 3) (mCall 44 (aVal (mVar 0) (aVal (mVar 1) aNil)))) (sRet (mTup (iCons (mLit (.str "pairs")) (iCons (mLc [4] (wRng2 (mLit (.int 1)) (mUn (fldV "many") (mVar 0))) (bindName 4) (mLit (.bl true)) (mBin itemV (mVar 3) (mVar 4))) iNil)))))))))
def d_paper : Def := { nslots := 5, io := [false, false], fresh := false, body := b_paper }
abbrev k_is_pair : Nat := 59
-- 0 most, 1 value, 2 one
def b_is_pair : S := (sRet (mAnd (mUn (isiV "tuple") (mVar 1)) (mAnd (mBin eqV (mCallB (op1 lenV) (iCons (mVar 1) iNil)) (mLit (.int 2))) (mCallB (op1 allV) (iCons (mLc [2] (wSeq (mVar 1)) (bindName 2) (mLit (.bl true)) (mCall 1 (aVal (mVar 2) (aVal (mLit (.int 0)) (aVal (mVar 0) aNil))))) iNil)))))
def d_is_pair : Def := { nslots := 3, io := [false, false], fresh := false, body := b_is_pair }
abbrev k_are_pairs : Nat := 60
-- 0 most, 1 value, 2 pair
def b_are_pairs : S := (sRet (mAnd (mUn (isiV "list") (mVar 1)) (mCallB (op1 allV) (iCons (mLc [2] (wSeq (mVar 1)) (bindName 2) (mLit (.bl true)) (mCall 59 (aVal (mVar 0) (aVal (mVar 2) aNil)))) iNil))))
def d_are_pairs : Def := { nslots := 3, io := [false, false], fresh := false, body := b_are_pairs }
abbrev k_is_barred : Nat := 61
-- 0 field, 1 parents, 2 tables, 3 sender, 4 most, 5 children, 6 own_pairs, 7 above, 8 own
def b_is_barred : S := (sSeq (sPar2 5 6 (mCall 39 (aVal (mVar 0) (aVal (mVar 1) (aVal (mVar 3) aNil)))) (mBin itemV (mVar 2) (mVar 3))) (sSeq (sFor (wRng1 (mBin addA (mVar 4) (mLit (.int 1)))) (bindName 7) (sFor (wRng1 (mBin addA (mVar 4) (mLit (.int 1)))) (bindName 8) (sIf (mAnd (mBin notinV (mTup (iCons (mVar 7) (iCons (mVar 8) iNil))) (mVar 6)) (mBin gtV (mCallB (op1 absV) (iCons (mBin subV (mVar 7) (mVar 8)) iNil)) (mLit (.int 1)))) (sIf (mBin isnotV (mCall 41 (aVal (mCall 42 (aVal (mVar 2) (aVal (mVar 5) (aVal (mVar 7) (aVal (mVar 8) aNil))))) aNil)) (mLit .non)) (sRet (mLit (.bl false))) sPass) sPass))) (sRet (mLit (.bl true)))))
def d_is_barred : Def := { nslots := 9, io := [false, false, false, false, false], fresh := false, body := b_is_barred }
abbrev k_shows : Nat := 63
-- 0 field, 1 most, 2 value
def b_shows : S := (sSeq (sExpr (mCall 36 (aVal (mVar 0) aNil))) (sSeq (sExpr (mCall 37 (aVal (mVar 1) aNil))) (sSeq (sIf (mOr (mNot (mUn (isiV "tuple") (mVar 2))) (mOr (mBin neV (mCallB (op1 lenV) (iCons (mVar 2) iNil)) (mLit (.int 2))) (mNot (mUn (isiV "str") (mBin itemV (mVar 2) (mLit (.int 0))))))) (sRet (mLit (.bl false))) sPass) (sSeq (sIf (mBin eqV (mBin itemV (mVar 2) (mLit (.int 0))) (mLit (.str "channels"))) (sRet (mAnd (mCall 29 (aVal (mVar 0) (aVal (mBin itemV (mVar 2) (mLit (.int 1))) aNil))) (mAnd (mBin leV (mCallB (op1 maxV) (iCons (mBin itemV (mVar 2) (mLit (.int 1))) iNil)) (mVar 1)) (mBin isV (mCall 31 (aVal (mVar 0) (aVal (mBin itemV (mVar 2) (mLit (.int 1))) (aVal (mLit (.int 2)) (aVal (mLit (.int 1)) aNil))))) (mLit .non))))) sPass) (sRet (mAnd (mBin eqV (mBin itemV (mVar 2) (mLit (.int 0))) (mLit (.str "pairs"))) (mCall 62 (aVal (mVar 0) (aVal (mVar 1) (aVal (mBin itemV (mVar 2) (mLit (.int 1))) aNil))))))))))
def d_shows : Def := { nslots := 3, io := [false, false, false], fresh := false, body := b_shows }
abbrev k_l_suits : Nat := 64
-- 0 _law_f, 1 _law_channels_there, 2 _law_near_here, 3 _law_far, 4 _law_one, 5 _law_other
def b_l_suits : S := (sSeq (sFor (wSeq (mBin itemV (mVar 0) (mLit (.int 1)))) (bindTup [(bindName 4), (bindName 5)]) (sIf (mBin ltV (mCallB (op1 absV) (iCons (mBin subV (mBin itemV (mVar 1) (mVar 4)) (mBin itemV (mVar 1) (mVar 5))) iNil)) (mVar 2)) (sRet (mLit (.bl false))) sPass)) (sSeq (sFor (wSeq (mCall 25 (aVal (mVar 0) aNil))) (bindTup [(bindName 4), (bindName 5)]) (sIf (mBin ltV (mCallB (op1 absV) (iCons (mBin subV (mBin itemV (mVar 1) (mVar 4)) (mBin itemV (mVar 1) (mVar 5))) iNil)) (mVar 3)) (sRet (mLit (.bl false))) sPass)) (sRet (mLit (.bl true)))))
def d_l_suits : Def := { nslots := 6, io := [false, false, false, false], fresh := false, body := b_l_suits }
abbrev k_l_rows : Nat := 65
-- 0 _law_f, 1 _law_near_here, 2 _law_far, 3 _law_most, 4 _law_beyond, 5 _law_found, 6 _law_sender, 7 _law_close, 8 _law_wide, 9 _law_longer, 10 _law_one, 11 _law_barred, 12 _law_other, 13 _law_k, 14 _law_a
def b_l_rows : S := (sSeq (sPar2 4 5 (mCall 25 (aVal (mVar 0) aNil)) (mLst (iCons (mTup iNil) iNil))) (sSeq (sFor (wRng1 (mBin itemV (mVar 0) (mLit (.int 0)))) (bindName 6) (sSeq (sAsg (bindName 7) (mLc [10, 12] (wSeq (mBin itemV (mVar 0) (mLit (.int 1)))) (bindTup [(bindName 10), (bindName 12)]) (mBin eqV (mVar 12) (mVar 6)) (mVar 10))) (sSeq (sAsg (bindName 8) (mLc [10, 12] (wSeq (mVar 4)) (bindTup [(bindName 10), (bindName 12)]) (mBin eqV (mVar 12) (mVar 6)) (mVar 10))) (sSeq (sAsg (bindName 9) (mLst iNil)) (sSeq (sFor (wSeq (mVar 5)) (bindName 10) (sSeq (sAsg (bindName 11) (mLc [13] (wRng1 (mBin addA (mVar 3) (mLit (.int 1)))) (bindName 13) (mBin neV (mLc [14] (wSeq (mVar 7)) (bindName 14) (mBin ltV (mCallB (op1 absV) (iCons (mBin subV (mBin itemV (mVar 10) (mVar 14)) (mVar 13)) iNil)) (mVar 1)) (mVar 14)) (mLst iNil)) (mVar 13))) (sSeq (sAsg (bindName 11) (mBin addA (mVar 11) (mLc [13] (wRng1 (mBin addA (mVar 3) (mLit (.int 1)))) (bindName 13) (mBin neV (mLc [14] (wSeq (mVar 8)) (bindName 14) (mBin ltV (mCallB (op1 absV) (iCons (mBin subV (mBin itemV (mVar 10) (mVar 14)) (mVar 13)) iNil)) (mVar 2)) (mVar 14)) (mLst iNil)) (mVar 13)))) (sAsg (bindName 9) (mBin addA (mVar 9) (mLc [13] (wRng1 (mBin addA (mVar 3) (mLit (.int 1)))) (bindName 13) (mBin notinV (mVar 13) (mVar 11)) (mBin addA (mVar 10) (mTup (iCons (mVar 13) iNil))))))))) (sAsg (bindName 5) (mVar 9))))))) (sRet (mVar 5))))
def d_l_rows : Def := { nslots := 15, io := [false, false, false, false], fresh := false, body := b_l_rows }
abbrev k_l_least : Nat := 66
-- 0 _law_f, 1 _law_near_here, 2 _law_far, 3 _law_most, 4 _law_turn
def b_l_least : S := (sSeq (sAsg (bindName 3) (mLit (.int 0))) (sSeq (sFor (wRng1 (mLit (.int 31))) (bindName 4) (sSeq (sIf (mBin neV (mCall 65 (aVal (mVar 0) (aVal (mVar 1) (aVal (mVar 2) (aVal (mVar 3) aNil))))) (mLst iNil)) (sRet (mVar 3)) sPass) (sAsg (bindName 3) (mBin addA (mVar 3) (mLit (.int 1)))))) (sRet (mLit .non))))
def d_l_least : Def := { nslots := 5, io := [false, false, false], fresh := false, body := b_l_least }
abbrev k_l_bars : Nat := 67
-- 0 _law_f, 1 _law_most, 2 _law_lists, 3 _law_parents_here, 4 _law_sender, 5 _law_above, 6 _law_own
def b_l_bars : S := (sSeq (sAsg (bindName 3) (mCall 26 (aVal (mVar 0) aNil))) (sSeq (sFor (wRng2 (mLit (.int 1)) (mBin itemV (mVar 0) (mLit (.int 0)))) (bindName 4) (sFor (wRng1 (mBin addA (mVar 1) (mLit (.int 1)))) (bindName 5) (sFor (wRng1 (mBin addA (mVar 1) (mLit (.int 1)))) (bindName 6) (sIf (mAnd (mBin gtV (mCallB (op1 absV) (iCons (mBin subV (mVar 5) (mVar 6)) iNil)) (mLit (.int 1))) (mBin notinV (mTup (iCons (mVar 5) (iCons (mVar 6) iNil))) (mBin itemV (mVar 2) (mBin subV (mVar 4) (mLit (.int 1)))))) (sIf (mCall 50 (aVal (mVar 0) (aVal (mVar 3) (aVal (mVar 2) (aVal (mVar 4) (aVal (mVar 5) (aVal (mVar 6) aNil))))))) (sRet (mLit (.bl false))) sPass) sPass)))) (sRet (mNot (mCallB (op1 anyV) (iCons (mLc [6] (wRng1 (mBin addA (mVar 1) (mLit (.int 1)))) (bindName 6) (mLit (.bl true)) (mCall 50 (aVal (mVar 0) (aVal (mVar 3) (aVal (mVar 2) (aVal (mLit (.int 0)) (aVal (mLit .non) (aVal (mVar 6) aNil)))))))) iNil))))))
def d_l_bars : Def := { nslots := 7, io := [false, false, false], fresh := false, body := b_l_bars }
abbrev k_law_k05 : Nat := 68
-- 0 _law_script, 1 _law_draws_here, 2 _law_f, 3 _law_field, 4 _law_d, 5 _law_need, 6 _law_found, 7 _law_value, 8 _law_sender
def b_law_k05 : S := (sSeq (sAsg (bindName 1) (mCall 7 (aVal (mVar 0) aNil))) (sSeq (sAsg (bindName 2) (mBin itemV (mLst (iCons (mCall 10 (aIo 1 (aVal (mLit (.int 6)) aNil))) (iCons (mCall 10 (aIo 1 (aVal (mLit (.int 25)) aNil))) iNil))) (mCall 8 (aIo 1 (aVal (mLit (.int 2)) aNil))))) (sSeq (sPar2 3 4 (mCall 23 (aVal (mVar 2) aNil)) (mCallB (op1 maxV) (iCons (mLc [8] (wRng1 (mBin itemV (mVar 2) (mLit (.int 0)))) (bindName 8) (mLit (.bl true)) (mCallB (op1 lenV) (iCons (mCall 24 (aVal (mVar 2) (aVal (mVar 8) aNil))) iNil))) iNil))) (sSeq (sPar2 5 6 (mCall 55 (aVal (mVar 3) aNil)) (mCall 57 (aVal (mVar 3) aNil))) (sSeq (sIf (mOr (mAnd (mBin ltV (mBin itemV (mVar 2) (mLit (.int 0))) (mLit (.int 7))) (mBin neV (mVar 5) (mCall 66 (aVal (mVar 2) (aVal (mLit (.int 2)) (aVal (mLit (.int 1)) aNil)))))) (mOr (mNot (mUn (isiV "tuple") (mVar 6))) (mBin neV (mCallB (op1 lenV) (iCons (mVar 6) iNil)) (mBin itemV (mVar 2) (mLit (.int 0)))))) (sRet (mLit (.bl false))) sPass) (sSeq (sIf (mOr (mBin ltV (mCallB (op1 minV) (iCons (mVar 6) iNil)) (mLit (.int 0))) (mOr (mBin neV (mCallB (op1 maxV) (iCons (mVar 6) iNil)) (mVar 5)) (mNot (mCall 64 (aVal (mVar 2) (aVal (mVar 6) (aVal (mLit (.int 2)) (aVal (mLit (.int 1)) aNil)))))))) (sRet (mLit (.bl false))) sPass) (sSeq (sIf (mOr (mAnd (mBin gtV (mBin itemV (mVar 2) (mLit (.int 0))) (mLit (.int 1))) (mBin notinV (mVar 5) (mLst (iCons (mBin addA (mVar 4) (mLit (.int 1))) (iCons (mBin addA (mVar 4) (mLit (.int 2))) iNil))))) (mAnd (mBin eqV (mBin itemV (mVar 2) (mLit (.int 0))) (mLit (.int 1))) (mBin neV (mVar 5) (mLit (.int 0))))) (sRet (mLit (.bl false))) sPass) (sSeq (sIf (mBin eqV (mVar 5) (mLit (.int 0))) (sRet (mLit (.bl true))) sPass) (sSeq (sIf (mAnd (mBin gtV (mVar 5) (mBin addA (mVar 4) (mLit (.int 1)))) (mBin ltV (mVar 5) (mLit (.int 10)))) (sSeq (sAsg (bindName 7) (mCall 58 (aVal (mVar 3) (aVal (mBin subV (mVar 5) (mLit (.int 1))) aNil)))) (sRet (mAnd (mBin eqV (mBin itemV (mVar 7) (mLit (.int 0))) (mLit (.str "pairs"))) (mCall 67 (aVal (mVar 2) (aVal (mBin subV (mVar 5) (mLit (.int 1))) (aVal (mBin itemV (mVar 7) (mLit (.int 1))) aNil))))))) sPass) (sRet (mOr (mBin gtV (mVar 5) (mLit (.int 20))) (mAnd (mNot (mCall 63 (aVal (mVar 3) (aVal (mBin subV (mVar 5) (mLit (.int 1))) (aVal (mTup (iCons (mLit (.str "channels")) (iCons (mVar 6) iNil))) aNil))))) (mCall 63 (aVal (mVar 3) (aVal (mVar 5) (aVal (mTup (iCons (mLit (.str "channels")) (iCons (mVar 6) iNil))) aNil))))))))))))))))
def d_law_k05 : Def := { nslots := 9, io := [false], fresh := false, body := b_law_k05 }
abbrev k_l_is_row : Nat := 69
-- 0 _law_f, 1 _law_most, 2 _law_value, 3 _law_one
def b_l_is_row : S := (sSeq (sIf (mOr (mNot (mUn (isiV "tuple") (mVar 2))) (mBin neV (mCallB (op1 lenV) (iCons (mVar 2) iNil)) (mBin itemV (mVar 0) (mLit (.int 0))))) (sRet (mLit (.bl false))) sPass) (sSeq (sIf (mBin neV (mLc [3] (wSeq (mVar 2)) (bindName 3) (mOr (mNot (mUn (isiV "int") (mVar 3))) (mOr (mUn (isiV "bool") (mVar 3)) (mNot (mChain leV leV (mLit (.int 0)) (mVar 3) (mVar 1))))) (mVar 3)) (mLst iNil)) (sRet (mLit (.bl false))) sPass) (sRet (mCall 64 (aVal (mVar 0) (aVal (mVar 2) (aVal (mLit (.int 2)) (aVal (mLit (.int 1)) aNil))))))))
def d_l_is_row : Def := { nslots := 4, io := [false, false, false], fresh := false, body := b_l_is_row }
abbrev k_l_are_pairs : Nat := 70
-- 0 _law_most, 1 _law_value, 2 _law_one, 3 _law_k
def b_l_are_pairs : S := (sSeq (sIf (mNot (mUn (isiV "list") (mVar 1))) (sRet (mLit (.bl false))) sPass) (sSeq (sFor (wSeq (mVar 1)) (bindName 2) (sSeq (sIf (mOr (mNot (mUn (isiV "tuple") (mVar 2))) (mBin neV (mCallB (op1 lenV) (iCons (mVar 2) iNil)) (mLit (.int 2)))) (sRet (mLit (.bl false))) sPass) (sIf (mBin neV (mLc [3] (wSeq (mVar 2)) (bindName 3) (mOr (mNot (mUn (isiV "int") (mVar 3))) (mOr (mUn (isiV "bool") (mVar 3)) (mNot (mChain leV leV (mLit (.int 0)) (mVar 3) (mVar 0))))) (mVar 3)) (mLst iNil)) (sRet (mLit (.bl false))) sPass))) (sRet (mLit (.bl true)))))
def d_l_are_pairs : Def := { nslots := 4, io := [false, false], fresh := false, body := b_l_are_pairs }
abbrev k_l_shows : Nat := 71
-- 0 _law_f, 1 _law_most, 2 _law_value, 3 _law_one
def b_l_shows : S := (sSeq (sIf (mOr (mNot (mUn (isiV "tuple") (mVar 2))) (mOr (mBin neV (mCallB (op1 lenV) (iCons (mVar 2) iNil)) (mLit (.int 2))) (mNot (mUn (isiV "str") (mBin itemV (mVar 2) (mLit (.int 0))))))) (sRet (mLit (.bl false))) sPass) (sSeq (sIf (mBin eqV (mBin itemV (mVar 2) (mLit (.int 0))) (mLit (.str "channels"))) (sRet (mCall 69 (aVal (mVar 0) (aVal (mVar 1) (aVal (mBin itemV (mVar 2) (mLit (.int 1))) aNil))))) sPass) (sSeq (sIf (mOr (mBin neV (mBin itemV (mVar 2) (mLit (.int 0))) (mLit (.str "pairs"))) (mOr (mNot (mUn (isiV "list") (mBin itemV (mVar 2) (mLit (.int 1))))) (mBin neV (mCallB (op1 lenV) (iCons (mBin itemV (mVar 2) (mLit (.int 1))) iNil)) (mBin subV (mBin itemV (mVar 0) (mLit (.int 0))) (mLit (.int 1)))))) (sRet (mLit (.bl false))) sPass) (sRet (mAnd (mCallB (op1 allV) (iCons (mLc [3] (wSeq (mBin itemV (mVar 2) (mLit (.int 1)))) (bindName 3) (mLit (.bl true)) (mCall 70 (aVal (mVar 1) (aVal (mVar 3) aNil)))) iNil)) (mCall 67 (aVal (mVar 0) (aVal (mVar 1) (aVal (mBin itemV (mVar 2) (mLit (.int 1))) aNil)))))))))
def d_l_shows : Def := { nslots := 4, io := [false, false, false], fresh := false, body := b_l_shows }
abbrev k_l_wrong_k06 : Nat := 72
-- 0 _law_field, 1 _law_most, 2 _law_is_told, 3 _law_told_there, 4 e
def b_l_wrong_k06 : S := (sSeq (sAsg (bindName 3) (mLit .non)) (sSeq (sTry (sAsg (bindName 3) (mIf (mVar 2) (mCall 58 (aVal (mVar 0) (aVal (mVar 1) aNil))) (mCall 63 (aVal (mVar 0) (aVal (mVar 1) (aVal (mLit .non) aNil)))))) [(catch_NotTree, 4, (fun _ => some (Val.str "tree"))), (catch_BadMost, 4, (fun _ => some (Val.str "most")))] 3) (sRet (mVar 3))))
def d_l_wrong_k06 : Def := { nslots := 5, io := [false, false, false], fresh := false, body := b_l_wrong_k06 }
abbrev k_l_spoilt : Nat := 73
-- 0 _law_draws_here, 1 _law_f, 2 _law_most, 3 _law_value, 4 _law_word, 5 _law_told_of, 6 _law_at, 7 _law_odd, 8 _law_some, 9 _law_lists, 10 _law_one
def b_l_spoilt : S := (sSeq (sAsg (bindTup [(bindName 4), (bindName 5)]) (mVar 3)) (sSeq (sIf (mBin eqV (mVar 4) (mLit (.str "channels"))) (sSeq (sAsg (bindName 6) (mCall 8 (aIo 0 (aVal (mBin itemV (mVar 1) (mLit (.int 0))) aNil)))) (sSeq (sAsg (bindName 7) (mBin itemV (mLst (iCons (mLit .non) (iCons (mUn negV (mLit (.int 1))) (iCons (mLit (.bl true)) (iCons (mCall 8 (aIo 0 (aVal (mBin addA (mVar 2) (mLit (.int 2))) aNil))) (iCons (mBin addA (mVar 2) (mLit (.int 1))) iNil)))))) (mCall 8 (aIo 0 (aVal (mLit (.int 5)) aNil))))) (sSeq (sAsg (bindName 8) (mLst (iCons (mBin addA (mBin addA (mSlice sliceV (mVar 5) oNone (oSome (mVar 6))) (mTup (iCons (mVar 7) iNil))) (mSlice sliceV (mVar 5) (oSome (mBin addA (mVar 6) (mLit (.int 1)))) oNone)) (iCons (mCallB (op1 listV) (iCons (mVar 5) iNil)) (iCons (mBin addA (mVar 5) (mTup (iCons (mLit (.int 0)) iNil))) iNil))))) (sRet (mTup (iCons (mVar 4) (iCons (mBin itemV (mVar 8) (mCallB max2V (iCons (mLit (.int 0)) (iCons (mBin subV (mCall 8 (aIo 0 (aVal (mLit (.int 6)) aNil))) (mLit (.int 3))) iNil)))) iNil))))))) sPass) (sSeq (sAsg (bindName 9) (mLc [10] (wSeq (mVar 5)) (bindName 10) (mLit (.bl true)) (mCallB (op1 listV) (iCons (mVar 10) iNil)))) (sSeq (sIf (mOr (mBin eqV (mVar 9) (mLst iNil)) (mBin eqV (mCall 8 (aIo 0 (aVal (mLit (.int 6)) aNil))) (mLit (.int 0)))) (sRet (mTup (iCons (mVar 4) (iCons (mBin itemV (mLst (iCons (mBin addA (mVar 9) (mLst (iCons (mLst iNil) iNil))) (iCons (mCallB (op1 tupleV) (iCons (mVar 9) iNil)) (iCons (mSlice sliceV (mVar 9) (oSome (mLit (.int 1))) oNone) (iCons (mLit .non) iNil))))) (mCall 8 (aIo 0 (aVal (mLit (.int 4)) aNil)))) iNil)))) sPass) (sSeq (sAsg (bindName 6) (mCall 8 (aIo 0 (aVal (mCallB (op1 lenV) (iCons (mVar 9) iNil)) aNil)))) (sSeq (sAsg (bindName 10) (mTup (iCons (mCall 8 (aIo 0 (aVal (mBin addA (mVar 2) (mLit (.int 1))) aNil))) (iCons (mCall 8 (aIo 0 (aVal (mBin addA (mVar 2) (mLit (.int 1))) aNil))) iNil)))) (sSeq (sAsg (bindName 8) (mLst (iCons (mBin addA (mBin itemV (mVar 9) (mVar 6)) (mLst (iCons (mVar 10) iNil))) (iCons (mSlice sliceV (mBin itemV (mVar 9) (mVar 6)) (oSome (mLit (.int 1))) oNone) (iCons (mUn revV (mBin itemV (mVar 9) (mVar 6))) (iCons (mCallB (op1 tupleV) (iCons (mBin itemV (mVar 9) (mVar 6)) iNil)) (iCons (mBin addA (mBin itemV (mVar 9) (mVar 6)) (mLst (iCons (mLst (iCons (mLit (.int 0)) (iCons (mLit (.int 2)) iNil))) iNil))) iNil))))))) (sSeq (sAsg (bindName 8) (mBin addA (mVar 8) (mLst (iCons (mBin addA (mBin itemV (mVar 9) (mVar 6)) (mLst (iCons (mTup (iCons (mLit (.int 0)) (iCons (mLit (.bl true)) iNil))) iNil))) (iCons (mSlice sliceV (mBin itemV (mVar 9) (mVar 6)) oNone (oSome (mUn negV (mLit (.int 1))))) (iCons (mBin addA (mBin itemV (mVar 9) (mVar 6)) (mLst (iCons (mTup (iCons (mBin addA (mVar 2) (mLit (.int 1))) (iCons (mLit (.int 0)) iNil))) iNil))) (iCons (mBin mulA (mBin itemV (mVar 9) (mVar 6)) (mLit (.int 2))) iNil))))))) (sRet (mTup (iCons (mVar 4) (iCons (mBin addA (mBin addA (mSlice sliceV (mVar 9) oNone (oSome (mVar 6))) (mLst (iCons (mBin itemV (mVar 8) (mCall 8 (aIo 0 (aVal (mLit (.int 9)) aNil)))) iNil))) (mSlice sliceV (mVar 9) (oSome (mBin addA (mVar 6) (mLit (.int 1)))) oNone)) iNil))))))))))))
def d_l_spoilt : Def := { nslots := 11, io := [true, false, false, false], fresh := false, body := b_l_spoilt }
abbrev k_law_k06 : Nat := 74
-- 0 _law_script, 1 _law_draws_here, 2 _law_f, 3 _law_most, 4 _law_field, 5 _law_value, 6 _law_wrong_here, 7 _law_is_told, 8 _law_odd
def b_law_k06 : S := (sSeq (sAsg (bindName 1) (mCall 7 (aVal (mVar 0) aNil))) (sSeq (sPar2 2 3 (mCall 10 (aIo 1 (aVal (mLit (.int 9)) aNil))) (mCall 8 (aIo 1 (aVal (mLit (.int 6)) aNil)))) (sSeq (sAsg (bindName 4) (mCall 23 (aVal (mVar 2) aNil))) (sSeq (sAsg (bindName 5) (mCall 58 (aVal (mVar 4) (aVal (mVar 3) aNil)))) (sSeq (sIf (mOr (mNot (mCall 71 (aVal (mVar 2) (aVal (mVar 3) (aVal (mVar 5) aNil))))) (mNot (mCall 63 (aVal (mVar 4) (aVal (mVar 3) (aVal (mVar 5) aNil)))))) (sRet (mLit (.bl false))) sPass) (sSeq (sIf (mBin neV (mBin eqV (mBin itemV (mVar 5) (mLit (.int 0))) (mLit (.str "channels"))) (mBin geV (mVar 3) (mCall 55 (aVal (mVar 4) aNil)))) (sRet (mLit (.bl false))) sPass) (sSeq (sIf (mAnd (mBin eqV (mBin itemV (mVar 5) (mLit (.int 0))) (mLit (.str "pairs"))) (mBin neV (mBin itemV (mVar 5) (mLit (.int 1))) (mBin itemV (mCall 45 (aVal (mVar 4) (aVal (mVar 3) aNil))) (mLit (.int 1))))) (sRet (mLit (.bl false))) sPass) (sSeq (sAsg (bindName 5) (mCall 73 (aIo 1 (aVal (mVar 2) (aVal (mVar 3) (aVal (mVar 5) aNil)))))) (sSeq (sIf (mBin neV (mCall 63 (aVal (mVar 4) (aVal (mVar 3) (aVal (mVar 5) aNil)))) (mCall 71 (aVal (mVar 2) (aVal (mVar 3) (aVal (mVar 5) aNil))))) (sRet (mLit (.bl false))) sPass) (sSeq (sAsg (bindName 6) (mLst (iCons (mLit .non) (iCons (mTup iNil) (iCons (mLit (.str "pairs")) (iCons (mTup (iCons (mLit (.str "pairs")) iNil)) (iCons (mTup (iCons (mLit (.str "pair")) (iCons (mLst iNil) iNil))) (iCons (mLst (iCons (mLit .non) iNil)) (iCons (mTup (iCons (mLit .non) (iCons (mLst iNil) iNil))) (iCons (mTup (iCons (mLit (.str "channels")) (iCons (mBin mulA (mTup (iCons (mLst (iCons (mLit (.int 0)) iNil)) iNil)) (mBin itemV (mVar 2) (mLit (.int 0)))) iNil))) iNil)))))))))) (sSeq (sAsg (bindName 6) (mBin addA (mVar 6) (mLst (iCons (mTup (iCons (mLit (.str "pairs")) (iCons (mBin mulA (mLst (iCons (mLst (iCons (mTup (iCons (mLst (iCons (mLit (.int 0)) iNil)) (iCons (mLit (.int 0)) iNil))) iNil)) iNil)) (mCallB max2V (iCons (mLit (.int 1)) (iCons (mBin subV (mBin itemV (mVar 2) (mLit (.int 0))) (mLit (.int 1))) iNil)))) iNil))) (iCons (mTup (iCons (mLit (.str "pairs")) (iCons (mLit (.dct [])) iNil))) (iCons (mTup (iCons (mLst iNil) (iCons (mLst iNil) iNil))) (iCons (mTup (iCons (mLit (.dct [])) (iCons (mBin mulA (mTup (iCons (mLit (.int 0)) iNil)) (mBin itemV (mVar 2) (mLit (.int 0)))) iNil))) iNil))))))) (sSeq (sAsg (bindName 6) (mBin itemV (mVar 6) (mCall 8 (aIo 1 (aVal (mLit (.int 12)) aNil))))) (sSeq (sPar2 7 8 (mBin eqV (mCall 8 (aIo 1 (aVal (mLit (.int 2)) aNil))) (mLit (.int 0))) (mCall 48 (aIo 1 aNil))) (sSeq (sIf (mOr (mCall 63 (aVal (mVar 4) (aVal (mVar 3) (aVal (mVar 6) aNil)))) (mBin neV (mCall 72 (aVal (mVar 4) (aVal (mVar 8) (aVal (mVar 7) aNil)))) (mLit (.str "most")))) (sRet (mLit (.bl false))) sPass) (sRet (mBin eqV (mCall 72 (aVal (mNew 3 "Field" (iCons (mBin addA (mBin itemV (mVar 2) (mLit (.int 0))) (mLit (.int 1))) (iCons (mBin itemV (mVar 2) (mLit (.int 1))) iNil))) (aVal (mVar 8) (aVal (mVar 7) aNil)))) (mLit (.str "tree"))))))))))))))))))
def d_law_k06 : Def := { nslots := 9, io := [false], fresh := false, body := b_law_k06 }
abbrev k_check_few : Nat := 75
-- 0 field
def b_check_few : S := (sIf (mBin gtV (mUn (fldV "many") (mVar 0)) (mLit (.int 6))) (sRaise "TooWide" []) sPass)
def d_check_few : Def := { nslots := 1, io := [false], fresh := false, body := b_check_few }
abbrev k_check_small : Nat := 76
-- 0 value
def b_check_small : S := (sIf (mNot (mCall 1 (aVal (mVar 0) (aVal (mLit (.int 0)) (aVal (mLit (.int 20)) aNil))))) (sRaise "BadMost" []) sPass)
def d_check_small : Def := { nslots := 1, io := [false], fresh := false, body := b_check_small }
abbrev k_check_all : Nat := 77
-- 0 field, 1 near, 2 far, 3 most
def b_check_all : S := (sSeq (sExpr (mCall 75 (aVal (mVar 0) aNil))) (sSeq (sExpr (mCall 28 (aVal (mVar 1) (aVal (mVar 2) aNil)))) (sExpr (mCall 76 (aVal (mVar 3) aNil)))))
def d_check_all : Def := { nslots := 4, io := [false, false, false, false], fresh := false, body := b_check_all }
abbrev k_bars_of : Nat := 78
-- 0 field, 1 near, 2 far, 3 pairs, 4 one, 5 other, 6 sender, 7 apart
def b_bars_of : S := (sSeq (sAsg (bindName 3) (mBin addA (mLc [4, 5] (wSeq (mUn (fldV "rows") (mVar 0))) (bindTup [(bindName 4), (bindName 5)]) (mLit (.bl true)) (mTup (iCons (mVar 4) (iCons (mVar 5) (iCons (mVar 1) iNil))))) (mLc [4, 5] (wSeq (mCall 17 (aVal (mVar 0) aNil))) (bindTup [(bindName 4), (bindName 5)]) (mLit (.bl true)) (mTup (iCons (mVar 4) (iCons (mVar 5) (iCons (mVar 2) iNil))))))) (sRet (mLc [6] (wRng1 (mUn (fldV "many") (mVar 0))) (bindName 6) (mLit (.bl true)) (mLc [4, 5, 7] (wSeq (mVar 3)) (bindTup [(bindName 4), (bindName 5), (bindName 7)]) (mBin eqV (mVar 5) (mVar 6)) (mTup (iCons (mVar 4) (iCons (mVar 7) iNil)))))))
def d_bars_of : Def := { nslots := 8, io := [false, false, false], fresh := false, body := b_bars_of }
abbrev k_can_have : Nat := 79
-- 0 bars, 1 channels, 2 channel, 3 other, 4 apart
def b_can_have : S := (sRet (mCallB (op1 allV) (iCons (mLc [3, 4] (wSeq (mBin itemV (mVar 0) (mCallB (op1 lenV) (iCons (mVar 1) iNil)))) (bindTup [(bindName 3), (bindName 4)]) (mLit (.bl true)) (mBin geV (mCallB (op1 absV) (iCons (mBin subV (mBin itemV (mVar 1) (mVar 3)) (mVar 2)) iNil)) (mVar 4))) iNil)))
def d_can_have : Def := { nslots := 5, io := [false, false, false], fresh := false, body := b_can_have }
abbrev k_choices_of : Nat := 80
-- 0 told, 1 most
def b_choices_of : S := (sRet (mIf (mBin isV (mVar 0) (mLit .non)) (mLstRg (mBin addA (mVar 1) (mLit (.int 1)))) (mLst (iCons (mVar 0) iNil))))
def d_choices_of : Def := { nslots := 2, io := [false, false], fresh := false, body := b_choices_of }
abbrev k_first_row : Nat := 81
-- 0 bars, 1 told, 2 channels, 3 most, 4 place, 5 channel, 6 found
def b_first_row : S := (sSeq (sAsg (bindName 4) (mCallB (op1 lenV) (iCons (mVar 2) iNil))) (sSeq (sIf (mBin eqV (mVar 4) (mCallB (op1 lenV) (iCons (mVar 0) iNil))) (sRet (mVar 2)) sPass) (sSeq (sFor (wSeq (mCall 80 (aVal (mBin itemV (mVar 1) (mVar 4)) (aVal (mVar 3) aNil)))) (bindName 5) (sIf (mCall 79 (aVal (mVar 0) (aVal (mVar 2) (aVal (mVar 5) aNil)))) (sSeq (sAsg (bindName 6) (mCall 81 (aVal (mVar 0) (aVal (mVar 1) (aVal (mTup (iStar (mVar 2) (iCons (mVar 5) iNil))) (aVal (mVar 3) aNil)))))) (sIf (mBin isnotV (mVar 6) (mLit .non)) (sRet (mVar 6)) sPass)) sPass)) (sRet (mLit .non)))))
def d_first_row : Def := { nslots := 7, io := [false, false, false, false], fresh := false, body := b_first_row }
abbrev k_no_told : Nat := 82
-- 0 field
def b_no_told : S := (sRet (mBin mulA (mTup (iCons (mLit .non) iNil)) (mUn (fldV "many") (mVar 0))))
def d_no_told : Def := { nslots := 1, io := [false], fresh := false, body := b_no_told }
abbrev k_least_few : Nat := 83
-- 0 field, 1 near, 2 far, 3 bars, 4 most
def b_least_few : S := (sSeq (sPar2 3 4 (mCall 78 (aVal (mVar 0) (aVal (mVar 1) (aVal (mVar 2) aNil)))) (mLit (.int 0))) (sSeq (sWhile (mBin isV (mCall 81 (aVal (mVar 3) (aVal (mCall 82 (aVal (mVar 0) aNil)) (aVal (mTup iNil) (aVal (mVar 4) aNil))))) (mLit .non)) (sAug addI 4 (mLit (.int 1))) 100000) (sRet (mVar 4))))
def d_least_few : Def := { nslots := 5, io := [false, false, false], fresh := false, body := b_least_few }
abbrev k_least : Nat := 84
-- 0 field, 1 near, 2 far
def b_least : S := (sSeq (sExpr (mCall 75 (aVal (mVar 0) aNil))) (sSeq (sExpr (mCall 28 (aVal (mVar 1) (aVal (mVar 2) aNil)))) (sRet (mCall 83 (aVal (mVar 0) (aVal (mVar 1) (aVal (mVar 2) aNil)))))))
def d_least : Def := { nslots := 3, io := [false, false, false], fresh := false, body := b_least }
abbrev k_channels : Nat := 85
-- 0 field, 1 near, 2 far, 3 most
def b_channels : S := (sSeq (sExpr (mCall 77 (aVal (mVar 0) (aVal (mVar 1) (aVal (mVar 2) (aVal (mVar 3) aNil)))))) (sRet (mCall 81 (aVal (mCall 78 (aVal (mVar 0) (aVal (mVar 1) (aVal (mVar 2) aNil)))) (aVal (mCall 82 (aVal (mVar 0) aNil)) (aVal (mTup iNil) (aVal (mVar 3) aNil)))))))
def d_channels : Def := { nslots := 4, io := [false, false, false, false], fresh := false, body := b_channels }
abbrev k_rows_of : Nat := 86
-- 0 bars, 1 told, 2 channels, 3 most, 4 place, 5 found, 6 channel
def b_rows_of : S := (sSeq (sAsg (bindName 4) (mCallB (op1 lenV) (iCons (mVar 2) iNil))) (sSeq (sIf (mBin eqV (mVar 4) (mCallB (op1 lenV) (iCons (mVar 0) iNil))) (sRet (mLst (iCons (mVar 2) iNil))) sPass) (sSeq (sAsg (bindName 5) (mLst iNil)) (sSeq (sFor (wSeq (mCall 80 (aVal (mBin itemV (mVar 1) (mVar 4)) (aVal (mVar 3) aNil)))) (bindName 6) (sIf (mCall 79 (aVal (mVar 0) (aVal (mVar 2) (aVal (mVar 6) aNil)))) (sExt 5 (mCall 86 (aVal (mVar 0) (aVal (mVar 1) (aVal (mTup (iStar (mVar 2) (iCons (mVar 6) iNil))) (aVal (mVar 3) aNil)))))) sPass)) (sRet (mMv 5))))))
def d_rows_of : Def := { nslots := 7, io := [false, false, false, false], fresh := false, body := b_rows_of }
abbrev k_all_best : Nat := 87
-- 0 field, 1 near, 2 far
def b_all_best : S := (sSeq (sExpr (mCall 75 (aVal (mVar 0) aNil))) (sSeq (sExpr (mCall 28 (aVal (mVar 1) (aVal (mVar 2) aNil)))) (sRet (mCall 86 (aVal (mCall 78 (aVal (mVar 0) (aVal (mVar 1) (aVal (mVar 2) aNil)))) (aVal (mCall 82 (aVal (mVar 0) aNil)) (aVal (mTup iNil) (aVal (mCall 83 (aVal (mVar 0) (aVal (mVar 1) (aVal (mVar 2) aNil)))) aNil))))))))
def d_all_best : Def := { nslots := 3, io := [false, false, false], fresh := false, body := b_all_best }
abbrev k_fewest_holes : Nat := 89
-- 0 field, 1 near, 2 far, 3 row
def b_fewest_holes : S := (sRet (mCallB (op1 minV) (iCons (mLc [3] (wSeq (mCall 87 (aVal (mVar 0) (aVal (mVar 1) (aVal (mVar 2) aNil))))) (bindName 3) (mLit (.bl true)) (mTup (iCons (mCall 88 (aVal (mVar 3) aNil)) (iCons (mVar 3) iNil)))) iNil)))
def d_fewest_holes : Def := { nslots := 4, io := [false, false, false], fresh := false, body := b_fewest_holes }
abbrev k_l_rows_k07 : Nat := 90
-- 0 _law_f, 1 _law_near_here, 2 _law_far, 3 _law_most, 4 _law_beyond, 5 _law_found, 6 _law_sender, 7 _law_close, 8 _law_wide_here, 9 _law_longer, 10 _law_one, 11 _law_barred, 12 _law_other, 13 _law_k, 14 _law_a
def b_l_rows_k07 : S := (sSeq (sPar2 4 5 (mCall 25 (aVal (mVar 0) aNil)) (mLst (iCons (mTup iNil) iNil))) (sSeq (sFor (wRng1 (mBin itemV (mVar 0) (mLit (.int 0)))) (bindName 6) (sSeq (sAsg (bindName 7) (mLc [10, 12] (wSeq (mBin itemV (mVar 0) (mLit (.int 1)))) (bindTup [(bindName 10), (bindName 12)]) (mBin eqV (mVar 12) (mVar 6)) (mVar 10))) (sSeq (sAsg (bindName 8) (mLc [10, 12] (wSeq (mVar 4)) (bindTup [(bindName 10), (bindName 12)]) (mBin eqV (mVar 12) (mVar 6)) (mVar 10))) (sSeq (sAsg (bindName 9) (mLst iNil)) (sSeq (sFor (wSeq (mVar 5)) (bindName 10) (sSeq (sAsg (bindName 11) (mLc [13] (wRng1 (mBin addA (mVar 3) (mLit (.int 1)))) (bindName 13) (mBin neV (mLc [14] (wSeq (mVar 7)) (bindName 14) (mBin ltV (mCallB (op1 absV) (iCons (mBin subV (mBin itemV (mVar 10) (mVar 14)) (mVar 13)) iNil)) (mVar 1)) (mVar 14)) (mLst iNil)) (mVar 13))) (sSeq (sAsg (bindName 11) (mBin addA (mVar 11) (mLc [13] (wRng1 (mBin addA (mVar 3) (mLit (.int 1)))) (bindName 13) (mBin neV (mLc [14] (wSeq (mVar 8)) (bindName 14) (mBin ltV (mCallB (op1 absV) (iCons (mBin subV (mBin itemV (mVar 10) (mVar 14)) (mVar 13)) iNil)) (mVar 2)) (mVar 14)) (mLst iNil)) (mVar 13)))) (sAsg (bindName 9) (mBin addA (mVar 9) (mLc [13] (wRng1 (mBin addA (mVar 3) (mLit (.int 1)))) (bindName 13) (mBin notinV (mVar 13) (mVar 11)) (mBin addA (mVar 10) (mTup (iCons (mVar 13) iNil))))))))) (sAsg (bindName 5) (mVar 9))))))) (sRet (mVar 5))))
def d_l_rows_k07 : Def := { nslots := 15, io := [false, false, false, false], fresh := false, body := b_l_rows_k07 }
abbrev k_l_least_k07 : Nat := 91
-- 0 _law_f, 1 _law_near_here, 2 _law_far, 3 _law_most, 4 _law_turn
def b_l_least_k07 : S := (sSeq (sAsg (bindName 3) (mLit (.int 0))) (sSeq (sFor (wRng1 (mLit (.int 31))) (bindName 4) (sSeq (sIf (mBin neV (mCall 90 (aVal (mVar 0) (aVal (mVar 1) (aVal (mVar 2) (aVal (mVar 3) aNil))))) (mLst iNil)) (sRet (mVar 3)) sPass) (sAsg (bindName 3) (mBin addA (mVar 3) (mLit (.int 1)))))) (sRet (mLit .non))))
def d_l_least_k07 : Def := { nslots := 5, io := [false, false, false], fresh := false, body := b_l_least_k07 }
abbrev k_l_apart : Nat := 92
-- 0 _law_draws_here, 1 _law_near_here
def b_l_apart : S := (sSeq (sAsg (bindName 1) (mBin itemV (mLst (iCons (mLit (.int 1)) (iCons (mLit (.int 2)) (iCons (mLit (.int 3)) (iCons (mLit (.int 1)) (iCons (mLit (.int 2)) (iCons (mLit (.int 3)) (iCons (mLit (.int 4)) (iCons (mLit (.int 5)) iNil))))))))) (mCall 8 (aIo 0 (aVal (mLit (.int 8)) aNil))))) (sRet (mTup (iCons (mVar 1) (iCons (mCall 8 (aIo 0 (aVal (mBin addA (mVar 1) (mLit (.int 1))) aNil))) iNil)))))
def d_l_apart : Def := { nslots := 2, io := [true], fresh := false, body := b_l_apart }
abbrev k_l_wide : Nat := 93
-- 
def b_l_wide : S := (sRet (mNew 3 "Field" (iCons (mLit (.int 7)) (iCons (mTup iNil) iNil))))
def d_l_wide : Def := { nslots := 0, io := [], fresh := false, body := b_l_wide }
abbrev k_l_wrong_k07 : Nat := 94
-- 0 _law_field_here, 1 _law_near_here, 2 _law_far, 3 _law_most, 4 _law_which, 5 _law_told_there, 6 e
def b_l_wrong_k07 : S := (sSeq (sAsg (bindName 5) (mLit .non)) (sSeq (sTry (sIf (mBin eqV (mVar 4) (mLit (.int 0))) (sAsg (bindName 5) (mCall 84 (aVal (mVar 0) (aVal (mVar 1) (aVal (mVar 2) aNil))))) (sIf (mBin eqV (mVar 4) (mLit (.int 1))) (sAsg (bindName 5) (mCall 87 (aVal (mVar 0) (aVal (mVar 1) (aVal (mVar 2) aNil))))) (sIf (mBin eqV (mVar 4) (mLit (.int 2))) (sAsg (bindName 5) (mCall 89 (aVal (mVar 0) (aVal (mVar 1) (aVal (mVar 2) aNil))))) (sAsg (bindName 5) (mCall 85 (aVal (mVar 0) (aVal (mVar 1) (aVal (mVar 2) (aVal (mVar 3) aNil))))))))) [(catch_TooWide, 6, (fun _ => some (Val.str "wide"))), (catch_BadApart, 6, (fun _ => some (Val.str "apart"))), (catch_BadMost, 6, (fun _ => some (Val.str "most")))] 5) (sRet (mVar 5))))
def d_l_wrong_k07 : Def := { nslots := 7, io := [false, false, false, false, false], fresh := false, body := b_l_wrong_k07 }
abbrev k_law_k07 : Nat := 95
-- 0 _law_script, 1 _law_draws_here, 2 _law_f, 3 _law_near_here, 4 _law_far, 5 _law_field_here, 6 _law_need, 7 _law_rows_here, 8 _law_holes, 9 _law_most, 10 _law_some, 11 _law_which, 12 _law_odd, 13 _law_one, 14 _law_k
def b_law_k07 : S := (sSeq (sAsg (bindName 1) (mCall 7 (aVal (mVar 0) aNil))) (sSeq (sAsg (bindTup [(bindName 2), (bindTup [(bindName 3), (bindName 4)])]) (mTup (iCons (mCall 9 (aIo 1 (aVal (mBin itemV (mLst (iCons (mLit (.int 5)) (iCons (mLit (.int 5)) (iCons (mLit (.int 5)) (iCons (mLit (.int 5)) (iCons (mLit (.int 6)) iNil)))))) (mCall 8 (aIo 1 (aVal (mLit (.int 5)) aNil)))) aNil))) (iCons (mCall 92 (aIo 1 aNil)) iNil)))) (sSeq (sIf (mBin gtV (mBin itemV (mVar 2) (mLit (.int 0))) (mLit (.int 5))) (sPar2 3 4 (mCallB min2V (iCons (mVar 3) (iCons (mLit (.int 3)) iNil))) (mCallB min2V (iCons (mVar 4) (iCons (mLit (.int 3)) iNil)))) sPass) (sSeq (sAsg (bindTup [(bindName 5), (bindName 6)]) (mTup (iCons (mCall 23 (aVal (mVar 2) aNil)) (iCons (mCall 91 (aVal (mVar 2) (aVal (mVar 3) (aVal (mVar 4) aNil)))) iNil)))) (sSeq (sAsg (bindName 7) (mCall 90 (aVal (mVar 2) (aVal (mVar 3) (aVal (mVar 4) (aVal (mVar 6) aNil)))))) (sSeq (sIf (mOr (mBin neV (mCall 84 (aVal (mVar 5) (aVal (mVar 3) (aVal (mVar 4) aNil)))) (mVar 6)) (mBin neV (mCall 87 (aVal (mVar 5) (aVal (mVar 3) (aVal (mVar 4) aNil)))) (mVar 7))) (sRet (mLit (.bl false))) sPass) (sSeq (sAsg (bindName 8) (mLc [13] (wSeq (mVar 7)) (bindName 13) (mLit (.bl true)) (mTup (iCons (mCallB (op1 lenV) (iCons (mLc [14] (wRng1 (mVar 6)) (bindName 14) (mBin notinV (mVar 14) (mVar 13)) (mVar 14)) iNil)) (iCons (mVar 13) iNil))))) (sSeq (sIf (mBin neV (mCall 89 (aVal (mVar 5) (aVal (mVar 3) (aVal (mVar 4) aNil)))) (mCallB (op1 minV) (iCons (mVar 8) iNil))) (sRet (mLit (.bl false))) sPass) (sSeq (sAsg (bindName 9) (mCall 8 (aIo 1 (aVal (mIf (mBin ltV (mBin itemV (mVar 2) (mLit (.int 0))) (mLit (.int 4))) (mLit (.int 21)) (mCallB min2V (iCons (mLit (.int 21)) (iCons (mBin addA (mVar 6) (mLit (.int 2))) iNil)))) aNil)))) (sSeq (sAsg (bindName 10) (mCall 90 (aVal (mVar 2) (aVal (mVar 3) (aVal (mVar 4) (aVal (mVar 9) aNil)))))) (sSeq (sIf (mBin neV (mCall 85 (aVal (mVar 5) (aVal (mVar 3) (aVal (mVar 4) (aVal (mVar 9) aNil))))) (mIf (mBin neV (mVar 10) (mLst iNil)) (mBin itemV (mVar 10) (mLit (.int 0))) (mLit .non))) (sRet (mLit (.bl false))) sPass) (sSeq (sPar2 11 12 (mCall 8 (aIo 1 (aVal (mLit (.int 4)) aNil))) (mCall 33 (aIo 1 aNil))) (sSeq (sIf (mBin neV (mCall 94 (aVal (mCall 93 aNil) (aVal (mBin itemV (mVar 12) (mLit (.int 0))) (aVal (mBin itemV (mVar 12) (mLit (.int 1))) (aVal (mLit .non) (aVal (mVar 11) aNil)))))) (mLit (.str "wide"))) (sRet (mLit (.bl false))) sPass) (sSeq (sIf (mBin neV (mCall 94 (aVal (mVar 5) (aVal (mBin itemV (mVar 12) (mLit (.int 0))) (aVal (mBin itemV (mVar 12) (mLit (.int 1))) (aVal (mLit .non) (aVal (mVar 11) aNil)))))) (mLit (.str "apart"))) (sRet (mLit (.bl false))) sPass) (sRet (mBin eqV (mCall 94 (aVal (mVar 5) (aVal (mVar 3) (aVal (mVar 4) (aVal (mCall 48 (aIo 1 aNil)) (aVal (mLit (.int 3)) aNil)))))) (mLit (.str "most"))))))))))))))))))
def d_law_k07 : Def := { nslots := 15, io := [false], fresh := false, body := b_law_k07 }
abbrev k_are_told : Nat := 96
-- 0 field, 1 most, 2 value, 3 one
def b_are_told : S := (sSeq (sIf (mOr (mNot (mUn (isiV "tuple") (mVar 2))) (mBin neV (mCallB (op1 lenV) (iCons (mVar 2) iNil)) (mUn (fldV "many") (mVar 0)))) (sRet (mLit (.bl false))) sPass) (sRet (mCallB (op1 allV) (iCons (mLc [3] (wSeq (mVar 2)) (bindName 3) (mLit (.bl true)) (mOr (mBin isV (mVar 3) (mLit .non)) (mCall 1 (aVal (mVar 3) (aVal (mLit (.int 0)) (aVal (mVar 1) aNil)))))) iNil))))
def d_are_told : Def := { nslots := 4, io := [false, false, false], fresh := false, body := b_are_told }
abbrev k_check_told : Nat := 97
-- 0 field, 1 most, 2 value
def b_check_told : S := (sIf (mNot (mCall 96 (aVal (mVar 0) (aVal (mVar 1) (aVal (mVar 2) aNil))))) (sRaise "BadTold" []) sPass)
def d_check_told : Def := { nslots := 3, io := [false, false, false], fresh := false, body := b_check_told }
abbrev k_kept : Nat := 98
-- 0 field, 1 near, 2 far, 3 most, 4 told
def b_kept : S := (sSeq (sExpr (mCall 77 (aVal (mVar 0) (aVal (mVar 1) (aVal (mVar 2) (aVal (mVar 3) aNil)))))) (sSeq (sExpr (mCall 97 (aVal (mVar 0) (aVal (mVar 3) (aVal (mVar 4) aNil))))) (sRet (mCall 81 (aVal (mCall 78 (aVal (mVar 0) (aVal (mVar 1) (aVal (mVar 2) aNil)))) (aVal (mVar 4) (aVal (mTup iNil) (aVal (mVar 3) aNil))))))))
def d_kept : Def := { nslots := 5, io := [false, false, false, false, false], fresh := false, body := b_kept }
abbrev k_open_channels : Nat := 99
-- 0 field, 1 near, 2 far, 3 most, 4 told, 5 sender, 6 bars, 7 found, 8 channel, 9 more
def b_open_channels : S := (sSeq (sExpr (mCall 77 (aVal (mVar 0) (aVal (mVar 1) (aVal (mVar 2) (aVal (mVar 3) aNil)))))) (sSeq (sExpr (mCall 97 (aVal (mVar 0) (aVal (mVar 3) (aVal (mVar 4) aNil))))) (sSeq (sIf (mNot (mCall 1 (aVal (mVar 5) (aVal (mLit (.int 0)) (aVal (mBin subV (mUn (fldV "many") (mVar 0)) (mLit (.int 1))) aNil))))) (sRaise "BadSender" []) sPass) (sSeq (sPar2 6 7 (mCall 78 (aVal (mVar 0) (aVal (mVar 1) (aVal (mVar 2) aNil)))) (mLst iNil)) (sSeq (sFor (wSeq (mCall 80 (aVal (mBin itemV (mVar 4) (mVar 5)) (aVal (mVar 3) aNil)))) (bindName 8) (sSeq (sAsg (bindName 9) (mTup (iStar (mSlice sliceV (mVar 4) oNone (oSome (mVar 5))) (iCons (mVar 8) (iStar (mSlice sliceV (mVar 4) (oSome (mBin addA (mVar 5) (mLit (.int 1)))) oNone) iNil))))) (sIf (mBin isnotV (mCall 81 (aVal (mVar 6) (aVal (mVar 9) (aVal (mTup iNil) (aVal (mVar 3) aNil))))) (mLit .non)) (sApp 7 (mVar 8)) sPass))) (sRet (mMv 7)))))))
def d_open_channels : Def := { nslots := 10, io := [false, false, false, false, false, false], fresh := false, body := b_open_channels }
abbrev k_l_wrong_k08 : Nat := 100
-- 0 _law_field_here, 1 _law_apart_here, 2 _law_most, 3 _law_told_of, 4 _law_sender, 5 _law_told_there, 6 e
def b_l_wrong_k08 : S := (sSeq (sAsg (bindName 5) (mLit .non)) (sSeq (sTry (sIf (mBin eqV (mVar 4) (mLit (.str "kept"))) (sAsg (bindName 5) (mCall 98 (aVal (mVar 0) (aVal (mBin itemV (mVar 1) (mLit (.int 0))) (aVal (mBin itemV (mVar 1) (mLit (.int 1))) (aVal (mVar 2) (aVal (mVar 3) aNil))))))) (sAsg (bindName 5) (mCall 99 (aVal (mVar 0) (aVal (mBin itemV (mVar 1) (mLit (.int 0))) (aVal (mBin itemV (mVar 1) (mLit (.int 1))) (aVal (mVar 2) (aVal (mVar 3) (aVal (mVar 4) aNil))))))))) [(catch_TooWide, 6, (fun _ => some (Val.str "wide"))), (catch_BadApart, 6, (fun _ => some (Val.str "apart"))), (catch_BadMost, 6, (fun _ => some (Val.str "most"))), (catch_BadTold, 6, (fun _ => some (Val.str "told"))), (catch_BadSender, 6, (fun _ => some (Val.str "sender")))] 5) (sRet (mVar 5))))
def d_l_wrong_k08 : Def := { nslots := 7, io := [false, false, false, false, false], fresh := false, body := b_l_wrong_k08 }
abbrev k_law_k08 : Nat := 101
-- 0 _law_script, 1 _law_draws_here, 2 _law_f, 3 _law_apart_here, 4 _law_field_here, 5 _law_most, 6 _law_told_of, 7 _law_rows_here, 8 _law_k, 9 _law_sender, 10 _law_due, 11 _law_which, 12 _law_odd, 13 _law_spot, 14 _law_bad, 15 _law_one
def b_law_k08 : S := (sSeq (sAsg (bindName 1) (mCall 7 (aVal (mVar 0) aNil))) (sSeq (sPar2 2 3 (mCall 9 (aIo 1 (aVal (mBin itemV (mLst (iCons (mLit (.int 5)) (iCons (mLit (.int 5)) (iCons (mLit (.int 5)) (iCons (mLit (.int 5)) (iCons (mLit (.int 6)) iNil)))))) (mCall 8 (aIo 1 (aVal (mLit (.int 5)) aNil)))) aNil))) (mCall 92 (aIo 1 aNil))) (sSeq (sAsg (bindTup [(bindName 4), (bindName 5)]) (mTup (iCons (mCall 23 (aVal (mVar 2) aNil)) (iCons (mCall 8 (aIo 1 (aVal (mIf (mBin ltV (mBin itemV (mVar 2) (mLit (.int 0))) (mLit (.int 4))) (mLit (.int 21)) (mBin subV (mLit (.int 8)) (mBin fdivV (mBin itemV (mVar 2) (mLit (.int 0))) (mLit (.int 3))))) aNil))) iNil)))) (sSeq (sAsg (bindName 6) (mCallB (op1 tupleV) (iCons (mLc [9] (wRng1 (mBin itemV (mVar 2) (mLit (.int 0)))) (bindName 9) (mLit (.bl true)) (mBin itemV (mLst (iCons (mLit .non) (iCons (mLit .non) (iCons (mCall 8 (aIo 1 (aVal (mBin addA (mVar 5) (mLit (.int 1))) aNil))) iNil)))) (mCall 8 (aIo 1 (aVal (mLit (.int 3)) aNil))))) iNil))) (sSeq (sAsg (bindName 7) (mCall 90 (aVal (mVar 2) (aVal (mBin itemV (mVar 3) (mLit (.int 0))) (aVal (mBin itemV (mVar 3) (mLit (.int 1))) (aVal (mVar 5) aNil)))))) (sSeq (sFor (wRng1 (mBin itemV (mVar 2) (mLit (.int 0)))) (bindName 8) (sAsg (bindName 7) (mLc [15] (wSeq (mVar 7)) (bindName 15) (mOr (mBin isV (mBin itemV (mVar 6) (mVar 8)) (mLit .non)) (mBin eqV (mBin itemV (mVar 15) (mVar 8)) (mBin itemV (mVar 6) (mVar 8)))) (mVar 15)))) (sSeq (sAsg (bindName 9) (mCall 8 (aIo 1 (aVal (mBin itemV (mVar 2) (mLit (.int 0))) aNil)))) (sSeq (sIf (mBin neV (mCall 98 (aVal (mVar 4) (aVal (mBin itemV (mVar 3) (mLit (.int 0))) (aVal (mBin itemV (mVar 3) (mLit (.int 1))) (aVal (mVar 5) (aVal (mVar 6) aNil)))))) (mIf (mBin neV (mVar 7) (mLst iNil)) (mBin itemV (mVar 7) (mLit (.int 0))) (mLit .non))) (sRet (mLit (.bl false))) sPass) (sSeq (sAsg (bindName 10) (mUn sortSetP (mLc [15] (wSeq (mVar 7)) (bindName 15) (mLit (.bl true)) (mBin itemV (mVar 15) (mVar 9))))) (sSeq (sIf (mBin neV (mCall 99 (aVal (mVar 4) (aVal (mBin itemV (mVar 3) (mLit (.int 0))) (aVal (mBin itemV (mVar 3) (mLit (.int 1))) (aVal (mVar 5) (aVal (mVar 6) (aVal (mVar 9) aNil))))))) (mVar 10)) (sRet (mLit (.bl false))) sPass) (sSeq (sAsg (bindName 11) (mBin itemV (mLst (iCons (mLit (.str "kept")) (iCons (mLit .non) iNil))) (mCall 8 (aIo 1 (aVal (mLit (.int 2)) aNil))))) (sSeq (sIf (mBin neV (mCall 100 (aVal (mCall 93 aNil) (aVal (mTup (iCons (mLit (.int 0)) (iCons (mLit (.int 0)) iNil))) (aVal (mLit .non) (aVal (mLit .non) (aVal (mVar 11) aNil)))))) (mLit (.str "wide"))) (sRet (mLit (.bl false))) sPass) (sSeq (sIf (mBin neV (mCall 100 (aVal (mVar 4) (aVal (mCall 33 (aIo 1 aNil)) (aVal (mLit .non) (aVal (mLit .non) (aVal (mVar 11) aNil)))))) (mLit (.str "apart"))) (sRet (mLit (.bl false))) sPass) (sSeq (sIf (mBin neV (mCall 100 (aVal (mVar 4) (aVal (mVar 3) (aVal (mCall 48 (aIo 1 aNil)) (aVal (mLit .non) (aVal (mVar 11) aNil)))))) (mLit (.str "most"))) (sRet (mLit (.bl false))) sPass) (sSeq (sAsg (bindName 12) (mLst (iCons (mLit .non) (iCons (mCallB (op1 listV) (iCons (mVar 6) iNil)) (iCons (mBin addA (mVar 6) (mTup (iCons (mLit .non) iNil))) (iCons (mSlice sliceV (mVar 6) (oSome (mLit (.int 1))) oNone) (iCons (mBin addA (mTup (iCons (mBin addA (mVar 5) (mLit (.int 1))) iNil)) (mSlice sliceV (mVar 6) (oSome (mLit (.int 1))) oNone)) (iCons (mBin addA (mTup (iCons (mLit (.bl true)) iNil)) (mSlice sliceV (mVar 6) (oSome (mLit (.int 1))) oNone)) iNil)))))))) (sSeq (sAsg (bindName 12) (mBin addA (mVar 12) (mLst (iCons (mBin addA (mTup (iCons (mLit (.str "0")) iNil)) (mSlice sliceV (mVar 6) (oSome (mLit (.int 1))) oNone)) (iCons (mBin addA (mTup (iCons (mUn negV (mLit (.int 1))) iNil)) (mSlice sliceV (mVar 6) (oSome (mLit (.int 1))) oNone)) iNil))))) (sSeq (sPar2 13 14 (mCall 8 (aIo 1 (aVal (mBin itemV (mVar 2) (mLit (.int 0))) aNil))) (mBin itemV (mLst (iCons (mBin addA (mVar 5) (mLit (.int 1))) (iCons (mUn negV (mLit (.int 1))) (iCons (mLit (.bl true)) (iCons (mLit (.str "0")) (iCons (mTup (iCons (mLit (.int 0)) iNil)) iNil)))))) (mCall 8 (aIo 1 (aVal (mLit (.int 5)) aNil))))) (sSeq (sAsg (bindName 12) (mBin addA (mVar 12) (mBin mulA (mLst (iCons (mBin addA (mBin addA (mSlice sliceV (mVar 6) oNone (oSome (mVar 13))) (mTup (iCons (mVar 14) iNil))) (mSlice sliceV (mVar 6) (oSome (mBin addA (mVar 13) (mLit (.int 1)))) oNone)) iNil)) (mLit (.int 5))))) (sSeq (sIf (mBin neV (mCall 100 (aVal (mVar 4) (aVal (mVar 3) (aVal (mVar 5) (aVal (mBin itemV (mVar 12) (mCall 8 (aIo 1 (aVal (mLit (.int 13)) aNil)))) (aVal (mVar 11) aNil)))))) (mLit (.str "told"))) (sRet (mLit (.bl false))) sPass) (sRet (mBin eqV (mCall 100 (aVal (mVar 4) (aVal (mVar 3) (aVal (mVar 5) (aVal (mVar 6) (aVal (mBin itemV (mLst (iCons (mUn negV (mLit (.int 1))) (iCons (mBin itemV (mVar 2) (mLit (.int 0))) (iCons (mLit (.bl true)) (iCons (mLit .non) (iCons (mLit (.str "0")) iNil)))))) (mCall 8 (aIo 1 (aVal (mLit (.int 5)) aNil)))) aNil)))))) (mLit (.str "sender")))))))))))))))))))))))
def d_law_k08 : Def := { nslots := 16, io := [false], fresh := false, body := b_law_k08 }
abbrev k_weight_of : Nat := 102
-- 0 row, 1 weights, 2 one, 3 weight
def b_weight_of : S := (sRet (mCallB (op1 sumV) (iCons (mLc [2, 3] (wZip (mVar 0) (mVar 1)) (bindTup [(bindName 2), (bindName 3)]) (mLit (.bl true)) (mBin mulA (mVar 2) (mVar 3))) iNil)))
def d_weight_of : Def := { nslots := 4, io := [false, false], fresh := false, body := b_weight_of }
abbrev k_lighter : Nat := 103
-- 0 bars, 1 weights, 2 row, 3 most, 4 best, 5 total, 6 channel
def b_lighter : S := (sSeq (sAsg (bindName 5) (mCall 102 (aVal (mVar 2) (aVal (mVar 1) aNil)))) (sSeq (sIf (mAnd (mBin isnotV (mVar 4) (mLit .non)) (mBin geV (mVar 5) (mBin itemV (mVar 4) (mLit (.int 0))))) (sRet (mVar 4)) sPass) (sSeq (sIf (mBin eqV (mCallB (op1 lenV) (iCons (mVar 2) iNil)) (mCallB (op1 lenV) (iCons (mVar 0) iNil))) (sRet (mTup (iCons (mVar 5) (iCons (mVar 2) iNil)))) sPass) (sSeq (sFor (wRng1 (mBin addA (mVar 3) (mLit (.int 1)))) (bindName 6) (sIf (mCall 79 (aVal (mVar 0) (aVal (mVar 2) (aVal (mVar 6) aNil)))) (sAsg (bindName 4) (mCall 103 (aVal (mVar 0) (aVal (mVar 1) (aVal (mTup (iStar (mVar 2) (iCons (mVar 6) iNil))) (aVal (mVar 3) (aVal (mVar 4) aNil))))))) sPass)) (sRet (mVar 4))))))
def d_lighter : Def := { nslots := 7, io := [false, false, false, false, false], fresh := false, body := b_lighter }
abbrev k_lightest : Nat := 104
-- 0 field, 1 near, 2 far, 3 most, 4 weights, 5 found, 6 one
def b_lightest : S := (sSeq (sExpr (mCall 77 (aVal (mVar 0) (aVal (mVar 1) (aVal (mVar 2) (aVal (mVar 3) aNil)))))) (sSeq (sIf (mOr (mNot (mUn (isiV "tuple") (mVar 4))) (mBin neV (mCallB (op1 lenV) (iCons (mVar 4) iNil)) (mUn (fldV "many") (mVar 0)))) (sRaise "BadWeights" []) sPass) (sSeq (sIf (mNot (mCallB (op1 allV) (iCons (mLc [6] (wSeq (mVar 4)) (bindName 6) (mLit (.bl true)) (mCall 1 (aVal (mVar 6) (aVal (mLit (.int 0)) (aVal (mLit (.int 9)) aNil))))) iNil))) (sRaise "BadWeights" []) sPass) (sSeq (sAsg (bindName 5) (mCall 103 (aVal (mCall 78 (aVal (mVar 0) (aVal (mVar 1) (aVal (mVar 2) aNil)))) (aVal (mVar 4) (aVal (mTup iNil) (aVal (mVar 3) (aVal (mLit .non) aNil))))))) (sSeq (sIf (mBin isV (mVar 5) (mLit .non)) (sRaise "NoRoom" []) sPass) (sRet (mVar 5)))))))
def d_lightest : Def := { nslots := 7, io := [false, false, false, false, false], fresh := false, body := b_lightest }
abbrev k_l_told_there_k09 : Nat := 105
-- 0 _law_field_here, 1 _law_apart_here, 2 _law_most, 3 _law_weights, 4 _law_told_there_here, 5 e
def b_l_told_there_k09 : S := (sSeq (sAsg (bindName 4) (mLit .non)) (sSeq (sTry (sAsg (bindName 4) (mCall 104 (aVal (mVar 0) (aVal (mBin itemV (mVar 1) (mLit (.int 0))) (aVal (mBin itemV (mVar 1) (mLit (.int 1))) (aVal (mVar 2) (aVal (mVar 3) aNil))))))) [(catch_TooWide, 5, (fun _ => some (Val.str "wide"))), (catch_BadApart, 5, (fun _ => some (Val.str "apart"))), (catch_BadMost, 5, (fun _ => some (Val.str "most"))), (catch_BadWeights, 5, (fun _ => some (Val.str "weights"))), (catch_NoRoom, 5, (fun _ => some (Val.str "room")))] 4) (sRet (mVar 4))))
def d_l_told_there_k09 : Def := { nslots := 6, io := [false, false, false, false], fresh := false, body := b_l_told_there_k09 }
abbrev k_law_k09 : Nat := 106
-- 0 _law_script, 1 _law_draws_here, 2 _law_f, 3 _law_apart_here, 4 _law_field_here, 5 _law_most, 6 _law_weights, 7 _law_rows_here, 8 _law_one, 9 _law_odd, 10 _law_spot, 11 _law_bad, 12 _law_wrong, 13 _law_sender, 14 _law_k
def b_law_k09 : S := (sSeq (sAsg (bindName 1) (mCall 7 (aVal (mVar 0) aNil))) (sSeq (sPar2 2 3 (mCall 9 (aIo 1 (aVal (mBin itemV (mLst (iCons (mLit (.int 5)) (iCons (mLit (.int 5)) (iCons (mLit (.int 5)) (iCons (mLit (.int 5)) (iCons (mLit (.int 6)) iNil)))))) (mCall 8 (aIo 1 (aVal (mLit (.int 5)) aNil)))) aNil))) (mCall 92 (aIo 1 aNil))) (sSeq (sPar2 4 5 (mCall 23 (aVal (mVar 2) aNil)) (mCall 8 (aIo 1 (aVal (mIf (mBin ltV (mBin itemV (mVar 2) (mLit (.int 0))) (mLit (.int 4))) (mLit (.int 21)) (mBin subV (mLit (.int 8)) (mBin fdivV (mBin itemV (mVar 2) (mLit (.int 0))) (mLit (.int 3))))) aNil)))) (sSeq (sAsg (bindName 6) (mCallB (op1 tupleV) (iCons (mLc [13] (wRng1 (mBin itemV (mVar 2) (mLit (.int 0)))) (bindName 13) (mLit (.bl true)) (mCall 8 (aIo 1 (aVal (mLit (.int 10)) aNil)))) iNil))) (sSeq (sAsg (bindName 7) (mLst iNil)) (sSeq (sFor (wSeq (mCall 90 (aVal (mVar 2) (aVal (mBin itemV (mVar 3) (mLit (.int 0))) (aVal (mBin itemV (mVar 3) (mLit (.int 1))) (aVal (mVar 5) aNil)))))) (bindName 8) (sApp 7 (mTup (iCons (mCallB (op1 sumV) (iCons (mLc [14] (wRng1 (mBin itemV (mVar 2) (mLit (.int 0)))) (bindName 14) (mLit (.bl true)) (mBin mulA (mBin itemV (mVar 8) (mVar 14)) (mBin itemV (mVar 6) (mVar 14)))) iNil)) (iCons (mVar 8) iNil))))) (sSeq (sIf (mBin neV (mCall 105 (aVal (mVar 4) (aVal (mVar 3) (aVal (mVar 5) (aVal (mVar 6) aNil))))) (mIf (mBinS neV 7 (mLst iNil)) (mUnS minV 7) (mLit (.str "room")))) (sRet (mLit (.bl false))) sPass) (sSeq (sAsg (bindName 9) (mLst (iCons (mLit .non) (iCons (mCallB (op1 listV) (iCons (mVar 6) iNil)) (iCons (mBin addA (mVar 6) (mTup (iCons (mLit (.int 0)) iNil))) (iCons (mSlice sliceV (mVar 6) (oSome (mLit (.int 1))) oNone) (iCons (mBin addA (mTup (iCons (mLit (.int 10)) iNil)) (mSlice sliceV (mVar 6) (oSome (mLit (.int 1))) oNone)) (iCons (mBin addA (mTup (iCons (mUn negV (mLit (.int 1))) iNil)) (mSlice sliceV (mVar 6) (oSome (mLit (.int 1))) oNone)) iNil)))))))) (sSeq (sPar2 10 11 (mCall 8 (aIo 1 (aVal (mBin itemV (mVar 2) (mLit (.int 0))) aNil))) (mBin itemV (mLst (iCons (mLit (.int 10)) (iCons (mUn negV (mLit (.int 1))) (iCons (mLit (.bl true)) (iCons (mLit .non) (iCons (mLit (.str "1")) iNil)))))) (mCall 8 (aIo 1 (aVal (mLit (.int 5)) aNil))))) (sSeq (sAsg (bindName 9) (mBin addA (mVar 9) (mBin mulA (mLst (iCons (mBin addA (mBin addA (mSlice sliceV (mVar 6) oNone (oSome (mVar 10))) (mTup (iCons (mVar 11) iNil))) (mSlice sliceV (mVar 6) (oSome (mBin addA (mVar 10) (mLit (.int 1)))) oNone)) iNil)) (mLit (.int 5))))) (sSeq (sAsg (bindName 12) (mBin itemV (mBin addA (mVar 9) (mLst (iCons (mBin addA (mTup (iCons (mLit (.bl true)) iNil)) (mSlice sliceV (mVar 6) (oSome (mLit (.int 1))) oNone)) iNil))) (mCall 8 (aIo 1 (aVal (mLit (.int 12)) aNil))))) (sSeq (sIf (mBin neV (mCall 105 (aVal (mVar 4) (aVal (mVar 3) (aVal (mVar 5) (aVal (mVar 12) aNil))))) (mLit (.str "weights"))) (sRet (mLit (.bl false))) sPass) (sSeq (sIf (mBin neV (mCall 105 (aVal (mCall 93 aNil) (aVal (mVar 3) (aVal (mVar 5) (aVal (mVar 12) aNil))))) (mLit (.str "wide"))) (sRet (mLit (.bl false))) sPass) (sSeq (sIf (mBin neV (mCall 105 (aVal (mVar 4) (aVal (mCall 33 (aIo 1 aNil)) (aVal (mLit .non) (aVal (mVar 12) aNil))))) (mLit (.str "apart"))) (sRet (mLit (.bl false))) sPass) (sRet (mBin eqV (mCall 105 (aVal (mVar 4) (aVal (mVar 3) (aVal (mCall 48 (aIo 1 aNil)) (aVal (mVar 12) aNil))))) (mLit (.str "most"))))))))))))))))))
def d_law_k09 : Def := { nslots := 15, io := [false], fresh := false, body := b_law_k09 }
abbrev k_round_gap : Nat := 107
-- 0 one, 1 other, 2 size, 3 gap
def b_round_gap : S := (sSeq (sAsg (bindName 3) (mCallB (op1 absV) (iCons (mBin subV (mVar 0) (mVar 1)) iNil))) (sRet (mCallB min2V (iCons (mVar 3) (iCons (mBin subV (mVar 2) (mVar 3)) iNil)))))
def d_round_gap : Def := { nslots := 4, io := [false, false, false], fresh := false, body := b_round_gap }
abbrev k_pairs_of_k10 : Nat := 108
-- 0 field, 1 near, 2 far, 3 one, 4 other
def b_pairs_of_k10 : S := (sRet (mBin addA (mLc [3, 4] (wSeq (mUn (fldV "rows") (mVar 0))) (bindTup [(bindName 3), (bindName 4)]) (mLit (.bl true)) (mTup (iCons (mVar 3) (iCons (mVar 4) (iCons (mVar 1) iNil))))) (mLc [3, 4] (wSeq (mCall 17 (aVal (mVar 0) aNil))) (bindTup [(bindName 3), (bindName 4)]) (mLit (.bl true)) (mTup (iCons (mVar 3) (iCons (mVar 4) (iCons (mVar 2) iNil)))))))
def d_pairs_of_k10 : Def := { nslots := 5, io := [false, false, false], fresh := false, body := b_pairs_of_k10 }
abbrev k_row_on : Nat := 109
-- 0 pairs, 1 many, 2 size, 3 row, 4 place, 5 bars, 6 channel, 7 found, 8 one, 9 other, 10 apart
def b_row_on : S := (sSeq (sAsg (bindName 4) (mCallB (op1 lenV) (iCons (mVar 3) iNil))) (sSeq (sIf (mBin eqV (mVar 4) (mVar 1)) (sRet (mVar 3)) sPass) (sSeq (sAsg (bindName 5) (mLc [8, 9, 10] (wSeq (mVar 0)) (bindTup [(bindName 8), (bindName 9), (bindName 10)]) (mBin eqV (mVar 9) (mVar 4)) (mTup (iCons (mVar 8) (iCons (mVar 10) iNil))))) (sSeq (sFor (wRng1 (mVar 2)) (bindName 6) (sIf (mCallB (op1 allV) (iCons (mLc [8, 10] (wSeq (mVar 5)) (bindTup [(bindName 8), (bindName 10)]) (mLit (.bl true)) (mBin geV (mCall 107 (aVal (mBin itemV (mVar 3) (mVar 8)) (aVal (mVar 6) (aVal (mVar 2) aNil)))) (mVar 10))) iNil)) (sSeq (sAsg (bindName 7) (mCall 109 (aVal (mVar 0) (aVal (mVar 1) (aVal (mVar 2) (aVal (mTup (iStar (mVar 3) (iCons (mVar 6) iNil))) aNil)))))) (sIf (mBin isnotV (mVar 7) (mLit .non)) (sRet (mVar 7)) sPass)) sPass)) (sRet (mLit .non))))))
def d_row_on : Def := { nslots := 11, io := [false, false, false, false], fresh := false, body := b_row_on }
abbrev k_check_size : Nat := 110
-- 0 value
def b_check_size : S := (sIf (mNot (mCall 1 (aVal (mVar 0) (aVal (mLit (.int 1)) (aVal (mLit (.int 24)) aNil))))) (sRaise "BadNumber" []) sPass)
def d_check_size : Def := { nslots := 1, io := [false], fresh := false, body := b_check_size }
abbrev k_dial_channels : Nat := 111
-- 0 field, 1 near, 2 far, 3 size
def b_dial_channels : S := (sSeq (sExpr (mCall 75 (aVal (mVar 0) aNil))) (sSeq (sExpr (mCall 28 (aVal (mVar 1) (aVal (mVar 2) aNil)))) (sSeq (sExpr (mCall 110 (aVal (mVar 3) aNil))) (sRet (mCall 109 (aVal (mCall 108 (aVal (mVar 0) (aVal (mVar 1) (aVal (mVar 2) aNil)))) (aVal (mUn (fldV "many") (mVar 0)) (aVal (mVar 3) (aVal (mTup iNil) aNil)))))))))
def d_dial_channels : Def := { nslots := 4, io := [false, false, false, false], fresh := false, body := b_dial_channels }
abbrev k_least_dial : Nat := 112
-- 0 field, 1 near, 2 far, 3 size
def b_least_dial : S := (sSeq (sExpr (mCall 75 (aVal (mVar 0) aNil))) (sSeq (sExpr (mCall 28 (aVal (mVar 1) (aVal (mVar 2) aNil)))) (sSeq (sAsg (bindName 3) (mLit (.int 1))) (sSeq (sWhile (mBin isV (mCall 109 (aVal (mCall 108 (aVal (mVar 0) (aVal (mVar 1) (aVal (mVar 2) aNil)))) (aVal (mUn (fldV "many") (mVar 0)) (aVal (mVar 3) (aVal (mTup iNil) aNil))))) (mLit .non)) (sAug addI 3 (mLit (.int 1))) 100000) (sRet (mVar 3))))))
def d_least_dial : Def := { nslots := 4, io := [false, false, false], fresh := false, body := b_least_dial }
abbrev k_is_dialled : Nat := 113
-- 0 field, 1 near, 2 far, 3 size, 4 value, 5 pairs, 6 one, 7 other, 8 apart
def b_is_dialled : S := (sSeq (sExpr (mCall 75 (aVal (mVar 0) aNil))) (sSeq (sExpr (mCall 28 (aVal (mVar 1) (aVal (mVar 2) aNil)))) (sSeq (sExpr (mCall 110 (aVal (mVar 3) aNil))) (sSeq (sIf (mOr (mNot (mUn (isiV "tuple") (mVar 4))) (mBin neV (mCallB (op1 lenV) (iCons (mVar 4) iNil)) (mUn (fldV "many") (mVar 0)))) (sRet (mLit (.bl false))) sPass) (sSeq (sIf (mNot (mCallB (op1 allV) (iCons (mLc [6] (wSeq (mVar 4)) (bindName 6) (mLit (.bl true)) (mCall 1 (aVal (mVar 6) (aVal (mLit (.int 0)) (aVal (mBin subV (mVar 3) (mLit (.int 1))) aNil))))) iNil))) (sRet (mLit (.bl false))) sPass) (sSeq (sAsg (bindName 5) (mCall 108 (aVal (mVar 0) (aVal (mVar 1) (aVal (mVar 2) aNil))))) (sRet (mCallB (op1 allV) (iCons (mLc [6, 7, 8] (wSeq (mVar 5)) (bindTup [(bindName 6), (bindName 7), (bindName 8)]) (mLit (.bl true)) (mBin geV (mCall 107 (aVal (mBin itemV (mVar 4) (mVar 6)) (aVal (mBin itemV (mVar 4) (mVar 7)) (aVal (mVar 3) aNil)))) (mVar 8))) iNil)))))))))
def d_is_dialled : Def := { nslots := 9, io := [false, false, false, false, false], fresh := false, body := b_is_dialled }
abbrev k_l_on : Nat := 114
-- 0 _law_f, 1 _law_near_here, 2 _law_far, 3 _law_size, 4 _law_beyond, 5 _law_found, 6 _law_sender, 7 _law_bars, 8 _law_longer, 9 _law_one, 10 _law_k, 11 _law_other, 12 _law_a, 13 _law_apart_here
def b_l_on : S := (sSeq (sPar2 4 5 (mCall 25 (aVal (mVar 0) aNil)) (mLst (iCons (mTup iNil) iNil))) (sSeq (sFor (wRng1 (mBin itemV (mVar 0) (mLit (.int 0)))) (bindName 6) (sSeq (sAsg (bindName 7) (mLc [9, 11] (wSeq (mBin itemV (mVar 0) (mLit (.int 1)))) (bindTup [(bindName 9), (bindName 11)]) (mBin eqV (mVar 11) (mVar 6)) (mTup (iCons (mVar 9) (iCons (mVar 1) iNil))))) (sSeq (sAsg (bindName 7) (mBin addA (mVar 7) (mLc [9, 11] (wSeq (mVar 4)) (bindTup [(bindName 9), (bindName 11)]) (mBin eqV (mVar 11) (mVar 6)) (mTup (iCons (mVar 9) (iCons (mVar 2) iNil)))))) (sSeq (sAsg (bindName 8) (mLst iNil)) (sSeq (sFor (wSeq (mVar 5)) (bindName 9) (sFor (wRng1 (mVar 3)) (bindName 10) (sIf (mCallB (op1 allV) (iCons (mLc [12, 13] (wSeq (mVar 7)) (bindTup [(bindName 12), (bindName 13)]) (mBin gtV (mVar 13) (mLit (.int 0))) (mChain leV leV (mVar 13) (mBin modV (mBin subV (mBin itemV (mVar 9) (mVar 12)) (mVar 10)) (mVar 3)) (mBin subV (mVar 3) (mVar 13)))) iNil)) (sApp 8 (mBin addA (mVar 9) (mTup (iCons (mVar 10) iNil)))) sPass))) (sAsg (bindName 5) (mMv 8))))))) (sRet (mVar 5))))
def d_l_on : Def := { nslots := 14, io := [false, false, false, false], fresh := false, body := b_l_on }
abbrev k_l_wrong_k10 : Nat := 115
-- 0 _law_field_here, 1 _law_apart_here, 2 _law_size, 3 _law_which, 4 _law_told_there, 5 e
def b_l_wrong_k10 : S := (sSeq (sAsg (bindName 4) (mLit .non)) (sSeq (sTry (sIf (mBin eqV (mVar 3) (mLit (.int 0))) (sAsg (bindName 4) (mCall 111 (aVal (mVar 0) (aVal (mBin itemV (mVar 1) (mLit (.int 0))) (aVal (mBin itemV (mVar 1) (mLit (.int 1))) (aVal (mVar 2) aNil)))))) (sIf (mBin eqV (mVar 3) (mLit (.int 1))) (sAsg (bindName 4) (mCall 113 (aVal (mVar 0) (aVal (mBin itemV (mVar 1) (mLit (.int 0))) (aVal (mBin itemV (mVar 1) (mLit (.int 1))) (aVal (mVar 2) (aVal (mLit .non) aNil))))))) (sAsg (bindName 4) (mCall 112 (aVal (mVar 0) (aVal (mBin itemV (mVar 1) (mLit (.int 0))) (aVal (mBin itemV (mVar 1) (mLit (.int 1))) aNil))))))) [(catch_TooWide, 5, (fun _ => some (Val.str "wide"))), (catch_BadApart, 5, (fun _ => some (Val.str "apart"))), (catch_BadNumber, 5, (fun _ => some (Val.str "number")))] 4) (sRet (mVar 4))))
def d_l_wrong_k10 : Def := { nslots := 6, io := [false, false, false, false], fresh := false, body := b_l_wrong_k10 }
abbrev k_law_k10 : Nat := 116
-- 0 _law_script, 1 _law_draws_here, 2 _law_f, 3 _law_near_here, 4 _law_far, 5 _law_most_there, 6 _law_field_here, 7 _law_size, 8 _law_rows, 9 _law_need, 10 _law_some, 11 _law_at, 12 _law_odd, 13 _law_value, 14 _law_one, 15 _law_good, 16 _law_which, 17 _law_wrong_here, 18 _law_sender, 19 _law_k
def b_law_k10 : S := (sSeq (sAsg (bindName 1) (mCall 7 (aVal (mVar 0) aNil))) (sSeq (sAsg (bindTup [(bindName 2), (bindTup [(bindName 3), (bindName 4)]), (bindName 5)]) (mTup (iCons (mCall 9 (aIo 1 (aVal (mLit (.int 4)) aNil))) (iCons (mCall 92 (aIo 1 aNil)) (iCons (mLit (.int 8)) iNil))))) (sSeq (sIf (mBin eqV (mCall 8 (aIo 1 (aVal (mLit (.int 6)) aNil))) (mLit (.int 0))) (sAsg (bindTup [(bindName 2), (bindName 3), (bindName 4), (bindName 5)]) (mTup (iCons (mCall 9 (aIo 1 (aVal (mLit (.int 6)) aNil))) (iCons (mBin addA (mLit (.int 1)) (mBin fdivV (mVar 3) (mLit (.int 3)))) (iCons (mBin fdivV (mVar 4) (mLit (.int 3))) (iCons (mLit (.int 5)) iNil)))))) sPass) (sSeq (sIf (mAnd (mBin ltV (mBin itemV (mVar 2) (mLit (.int 0))) (mLit (.int 4))) (mBin eqV (mCall 8 (aIo 1 (aVal (mLit (.int 3)) aNil))) (mLit (.int 0)))) (sAsg (bindName 5) (mLit (.int 24))) sPass) (sSeq (sAsg (bindTup [(bindName 6), (bindName 7)]) (mTup (iCons (mCall 23 (aVal (mVar 2) aNil)) (iCons (mBin addA (mLit (.int 1)) (mCall 8 (aIo 1 (aVal (mVar 5) aNil)))) iNil)))) (sSeq (sAsg (bindName 8) (mCall 114 (aVal (mVar 2) (aVal (mVar 3) (aVal (mVar 4) (aVal (mVar 7) aNil)))))) (sSeq (sIf (mBin neV (mCall 111 (aVal (mVar 6) (aVal (mVar 3) (aVal (mVar 4) (aVal (mVar 7) aNil))))) (mIf (mBin neV (mVar 8) (mLst iNil)) (mBin itemV (mVar 8) (mLit (.int 0))) (mLit .non))) (sRet (mLit (.bl false))) sPass) (sSeq (sAsg (bindName 9) (mCall 112 (aVal (mVar 6) (aVal (mVar 3) (aVal (mVar 4) aNil))))) (sSeq (sIf (mBin neV (mBin neV (mVar 8) (mLst iNil)) (mBin geV (mVar 7) (mVar 9))) (sRet (mLit (.bl false))) sPass) (sSeq (sIf (mOr (mAnd (mBin gtV (mVar 9) (mLit (.int 1))) (mBin neV (mCall 114 (aVal (mVar 2) (aVal (mVar 3) (aVal (mVar 4) (aVal (mBin subV (mVar 9) (mLit (.int 1))) aNil))))) (mLst iNil))) (mBin eqV (mSlice sliceV (mCall 114 (aVal (mVar 2) (aVal (mVar 3) (aVal (mVar 4) (aVal (mVar 9) aNil))))) oNone (oSome (mLit (.int 1)))) (mLst iNil))) (sRet (mLit (.bl false))) sPass) (sSeq (sAsg (bindName 10) (mBin itemV (mBin addA (mVar 8) (mLst (iCons (mBin mulA (mTup (iCons (mLit (.int 0)) iNil)) (mBin itemV (mVar 2) (mLit (.int 0)))) iNil))) (mCall 8 (aIo 1 (aVal (mBin addA (mCallB (op1 lenV) (iCons (mVar 8) iNil)) (mLit (.int 1))) aNil))))) (sSeq (sPar2 11 12 (mCall 8 (aIo 1 (aVal (mBin itemV (mVar 2) (mLit (.int 0))) aNil))) (mBin itemV (mLst (iCons (mCall 8 (aIo 1 (aVal (mLit (.int 9)) aNil))) (iCons (mVar 7) (iCons (mUn negV (mLit (.int 1))) (iCons (mLit .non) (iCons (mLit (.bl true)) iNil)))))) (mCall 8 (aIo 1 (aVal (mLit (.int 5)) aNil))))) (sSeq (sAsg (bindName 13) (mBin addA (mBin addA (mSlice sliceV (mVar 10) oNone (oSome (mVar 11))) (mTup (iCons (mVar 12) iNil))) (mSlice sliceV (mVar 10) (oSome (mBin addA (mVar 11) (mLit (.int 1)))) oNone))) (sSeq (sFor (wSeq (mLst (iCons (mVar 10) (iCons (mVar 13) (iCons (mCallB (op1 tupleV) (iCons (mLc [18] (wRng1 (mBin itemV (mVar 2) (mLit (.int 0)))) (bindName 18) (mLit (.bl true)) (mCall 8 (aIo 1 (aVal (mVar 7) aNil)))) iNil)) iNil))))) (bindName 14) (sSeq (sAsg (bindName 15) (mAnd (mBin inV (mVar 14) (mVar 8)) (mBin eqV (mLc [19] (wSeq (mVar 14)) (bindName 19) (mUn (isiV "bool") (mVar 19)) (mVar 19)) (mLst iNil)))) (sIf (mBin neV (mCall 113 (aVal (mVar 6) (aVal (mVar 3) (aVal (mVar 4) (aVal (mVar 7) (aVal (mVar 14) aNil)))))) (mVar 15)) (sRet (mLit (.bl false))) sPass))) (sSeq (sAsg (bindName 12) (mBin itemV (mLst (iCons (mLit .non) (iCons (mCallB (op1 listV) (iCons (mVar 10) iNil)) (iCons (mBin addA (mVar 10) (mTup (iCons (mLit (.int 0)) iNil))) (iCons (mSlice sliceV (mVar 10) (oSome (mLit (.int 1))) oNone) (iCons (mLit (.str "0")) (iCons (mBin mulA (mTup (iCons (mLst (iCons (mLit (.int 0)) iNil)) iNil)) (mBin itemV (mVar 2) (mLit (.int 0)))) (iCons (mBin addA (mSlice sliceV (mVar 10) (oSome (mLit (.int 1))) oNone) (mTup (iCons (mLit (.dct [])) iNil))) iNil)))))))) (mCall 8 (aIo 1 (aVal (mLit (.int 7)) aNil))))) (sSeq (sIf (mCall 113 (aVal (mVar 6) (aVal (mVar 3) (aVal (mVar 4) (aVal (mVar 7) (aVal (mVar 12) aNil)))))) (sRet (mLit (.bl false))) sPass) (sSeq (sPar2 16 17 (mCall 8 (aIo 1 (aVal (mLit (.int 3)) aNil))) (mCall 33 (aIo 1 aNil))) (sSeq (sIf (mOr (mBin neV (mCall 115 (aVal (mCall 93 aNil) (aVal (mVar 17) (aVal (mLit .non) (aVal (mVar 16) aNil))))) (mLit (.str "wide"))) (mBin neV (mCall 115 (aVal (mVar 6) (aVal (mVar 17) (aVal (mLit .non) (aVal (mVar 16) aNil))))) (mLit (.str "apart")))) (sRet (mLit (.bl false))) sPass) (sRet (mBin eqV (mCall 115 (aVal (mVar 6) (aVal (mTup (iCons (mVar 3) (iCons (mVar 4) iNil))) (aVal (mBin itemV (mLst (iCons (mLit (.int 0)) (iCons (mLit (.int 25)) (iCons (mLit (.bl true)) (iCons (mLit .non) (iCons (mLit (.str "1")) iNil)))))) (mCall 8 (aIo 1 (aVal (mLit (.int 5)) aNil)))) (aVal (mBin modV (mVar 16) (mLit (.int 2))) aNil))))) (mLit (.str "number"))))))))))))))))))))))
def d_law_k10 : Def := { nslots := 20, io := [false], fresh := false, body := b_law_k10 }
abbrev k_row : Nat := 117
-- 0 many, 1 at
def b_row : S := (sSeq (sExpr (mCall 46 (aVal (mVar 0) (aVal (mLit (.int 1)) aNil)))) (sRet (mNew 3 "Field" (iCons (mVar 0) (iCons (mCallB (op1 tupleV) (iCons (mLc [1] (wRng1 (mBin subV (mVar 0) (mLit (.int 1)))) (bindName 1) (mLit (.bl true)) (mTup (iCons (mVar 1) (iCons (mBin addA (mVar 1) (mLit (.int 1))) iNil)))) iNil)) iNil)))))
def d_row : Def := { nslots := 2, io := [false], fresh := false, body := b_row }
abbrev k_star : Nat := 118
-- 0 many, 1 at
def b_star : S := (sSeq (sIf (mNot (mCall 1 (aVal (mVar 0) (aVal (mLit (.int 0)) (aVal (mBin subV (mLit (.int 40)) (mLit (.int 1))) aNil))))) (sRaise "BadNumber" []) sPass) (sRet (mNew 3 "Field" (iCons (mBin addA (mVar 0) (mLit (.int 1))) (iCons (mCallB (op1 tupleV) (iCons (mLc [1] (wRng1 (mVar 0)) (bindName 1) (mLit (.bl true)) (mTup (iCons (mLit (.int 0)) (iCons (mBin addA (mVar 1) (mLit (.int 1))) iNil)))) iNil)) iNil)))))
def d_star : Def := { nslots := 2, io := [false], fresh := false, body := b_star }
abbrev k_row_need : Nat := 119
-- 0 many
def b_row_need : S := (sSeq (sExpr (mCall 46 (aVal (mVar 0) (aVal (mLit (.int 1)) aNil)))) (sRet (mIf (mBin ltV (mVar 0) (mLit (.int 5))) (mBin itemV (mTup (iCons (mLit (.int 0)) (iCons (mLit (.int 2)) (iCons (mLit (.int 3)) (iCons (mLit (.int 3)) iNil))))) (mBin subV (mVar 0) (mLit (.int 1)))) (mLit (.int 4)))))
def d_row_need : Def := { nslots := 1, io := [false], fresh := false, body := b_row_need }
abbrev k_star_need : Nat := 121
-- 0 many
def b_star_need : S := (sSeq (sIf (mNot (mCall 1 (aVal (mVar 0) (aVal (mLit (.int 0)) (aVal (mBin subV (mLit (.int 40)) (mLit (.int 1))) aNil))))) (sRaise "BadNumber" []) sPass) (sRet (mIf (mBin gtV (mVar 0) (mLit (.int 0))) (mBin addA (mVar 0) (mLit (.int 1))) (mLit (.int 0)))))
def d_star_need : Def := { nslots := 1, io := [false], fresh := false, body := b_star_need }
abbrev k_l_told_there_k11 : Nat := 122
-- 0 _law_which, 1 _law_many, 2 _law_told_there_here, 3 e
def b_l_told_there_k11 : S := (sSeq (sAsg (bindName 2) (mLit .non)) (sSeq (sTry (sIf (mBin eqV (mVar 0) (mLit (.int 0))) (sAsg (bindName 2) (mCall 117 (aVal (mVar 1) aNil))) (sIf (mBin eqV (mVar 0) (mLit (.int 1))) (sAsg (bindName 2) (mCall 47 (aVal (mVar 1) aNil))) (sIf (mBin eqV (mVar 0) (mLit (.int 2))) (sAsg (bindName 2) (mCall 118 (aVal (mVar 1) aNil))) (sIf (mBin eqV (mVar 0) (mLit (.int 3))) (sAsg (bindName 2) (mCall 119 (aVal (mVar 1) aNil))) (sIf (mBin eqV (mVar 0) (mLit (.int 4))) (sAsg (bindName 2) (mCall 120 (aVal (mVar 1) aNil))) (sAsg (bindName 2) (mCall 121 (aVal (mVar 1) aNil)))))))) [(catch_BadNumber, 3, (fun _ => some (Val.str "number")))] 2) (sRet (mVar 2))))
def d_l_told_there_k11 : Def := { nslots := 4, io := [false, false], fresh := false, body := b_l_told_there_k11 }
abbrev k_sets_of : Nat := 124
-- 0 things, 1 size, 2 found, 3 at, 4 thing, 5 rest
def b_sets_of : S := (sSeq (sIf (mBin eqV (mVar 1) (mLit (.int 0))) (sRet (mLst (iCons (mTup iNil) iNil))) sPass) (sSeq (sAsg (bindName 2) (mLst iNil)) (sSeq (sFor (wEnumA (mVar 0)) (bindTup [(bindName 3), (bindName 4)]) (sExt 2 (mLc [5] (wSeq (mCall 124 (aVal (mSlice sliceV (mVar 0) (oSome (mBin addA (mVar 3) (mLit (.int 1)))) oNone) (aVal (mBin subV (mVar 1) (mLit (.int 1))) aNil)))) (bindName 5) (mLit (.bl true)) (mTup (iCons (mVar 4) (iStar (mVar 5) iNil)))))) (sRet (mMv 2)))))
def d_sets_of : Def := { nslots := 6, io := [false, false], fresh := false, body := b_sets_of }
abbrev k_nearest : Nat := 125
-- 0 bars, 1 before, 2 most, 3 size, 4 rows, 5 some, 6 told, 7 row, 8 at, 9 channel
def b_nearest : S := (sSeq (sFor (wRng1 (mBin addA (mCallB (op1 lenV) (iCons (mVar 1) iNil)) (mLit (.int 1)))) (bindName 3) (sSeq (sAsg (bindName 4) (mLst iNil)) (sSeq (sFor (wSeq (mCall 124 (aVal (mLstRg (mCallB (op1 lenV) (iCons (mVar 1) iNil))) (aVal (mVar 3) aNil)))) (bindName 5) (sSeq (sAsg (bindName 6) (mLc [8, 9] (wEnumA (mVar 1)) (bindTup [(bindName 8), (bindName 9)]) (mLit (.bl true)) (mIf (mBin inV (mVar 8) (mVar 5)) (mLit .non) (mVar 9)))) (sSeq (sAsg (bindName 7) (mCall 81 (aVal (mVar 0) (aVal (mLst (iStar (mVar 6) (iStar (mBin mulA (mLst (iCons (mLit .non) iNil)) (mBin subV (mCallB (op1 lenV) (iCons (mVar 0) iNil)) (mCallB (op1 lenV) (iCons (mVar 1) iNil)))) iNil))) (aVal (mTup iNil) (aVal (mVar 2) aNil)))))) (sIf (mBin isnotV (mVar 7) (mLit .non)) (sApp 4 (mVar 7)) sPass)))) (sIf (mBinS neV 4 (mLst iNil)) (sRet (mUnS minV 4)) sPass)))) (sRet (mLit .non)))
def d_nearest : Def := { nslots := 10, io := [false, false, false], fresh := false, body := b_nearest }
abbrev k_Desk_init : Nat := 126
-- 0 self, 1 field, 2 near, 3 far, 4 most, 5 found
def b_Desk_init : S := (sSeq (sExpr (mCall 77 (aVal (mVar 1) (aVal (mVar 2) (aVal (mVar 3) (aVal (mVar 4) aNil)))))) (sSeq (sAsg (bindName 5) (mCall 81 (aVal (mCall 78 (aVal (mVar 1) (aVal (mVar 2) (aVal (mVar 3) aNil)))) (aVal (mCall 82 (aVal (mVar 1) aNil)) (aVal (mTup iNil) (aVal (mVar 4) aNil)))))) (sSeq (sIf (mBin isV (mVar 5) (mLit .non)) (sRaise "NoRoom" []) sPass) (sSeq (sFldV 0 "close" (mVar 2)) (sSeq (sFldV 0 "wide" (mVar 3)) (sSeq (sFldV 0 "limit" (mVar 4)) (sFldV 0 "states" (mTup (iCons (mTup (iCons (mVar 1) (iCons (mVar 5) iNil))) iNil)))))))))
def d_Desk_init : Def := { nslots := 6, io := [true, false, false, false, false], fresh := false, body := b_Desk_init }
abbrev k_Desk_field : Nat := 127
-- 0 self
def b_Desk_field : S := (sRet (mBin itemV (mBin itemV (mUn (fldV "states") (mVar 0)) (mUn negV (mLit (.int 1)))) (mLit (.int 0))))
def d_Desk_field : Def := { nslots := 1, io := [false], fresh := false, body := b_Desk_field }
abbrev k_Desk_now : Nat := 128
-- 0 self
def b_Desk_now : S := (sRet (mBin itemV (mBin itemV (mUn (fldV "states") (mVar 0)) (mUn negV (mLit (.int 1)))) (mLit (.int 1))))
def d_Desk_now : Def := { nslots := 1, io := [false], fresh := false, body := b_Desk_now }
abbrev k_Desk_copy : Nat := 133
-- 0 self, 1 found
def b_Desk_copy : S := (sSeq (sAsg (bindName 1) (mNew 126 "Desk" (iCons (mBin itemV (mBin itemV (mUn (fldV "states") (mVar 0)) (mLit (.int 0))) (mLit (.int 0))) (iCons (mUn (fldV "close") (mVar 0)) (iCons (mUn (fldV "wide") (mVar 0)) (iCons (mUn (fldV "limit") (mVar 0)) iNil)))))) (sSeq (sFldV 1 "states" (mUn (fldV "states") (mVar 0))) (sRet (mMv 1))))
def d_Desk_copy : Def := { nslots := 2, io := [false], fresh := false, body := b_Desk_copy }
abbrev k_Desk_len : Nat := 134
-- 0 self
def b_Desk_len : S := (sRet (mCallB (op1 lenV) (iCons (mSlice sliceV (mUn (fldV "states") (mVar 0)) (oSome (mLit (.int 1))) oNone) iNil)))
def d_Desk_len : Def := { nslots := 1, io := [false], fresh := false, body := b_Desk_len }
abbrev k_l_begun : Nat := 136
-- 0 _law_field_here, 1 _law_apart_here, 2 _law_most, 3 _law_told_there, 4 e
def b_l_begun : S := (sSeq (sAsg (bindName 3) (mLit .non)) (sSeq (sTry (sAsg (bindName 3) (mNew 126 "Desk" (iCons (mVar 0) (iCons (mBin itemV (mVar 1) (mLit (.int 0))) (iCons (mBin itemV (mVar 1) (mLit (.int 1))) (iCons (mVar 2) iNil)))))) [(catch_TooWide, 4, (fun _ => some (Val.str "wide"))), (catch_BadApart, 4, (fun _ => some (Val.str "apart"))), (catch_BadMost, 4, (fun _ => some (Val.str "most"))), (catch_NoRoom, 4, (fun _ => some (Val.str "room")))] 3) (sRet (mVar 3))))
def d_l_begun : Def := { nslots := 5, io := [false, false, false], fresh := false, body := b_l_begun }
abbrev k_l_behind : Nat := 137
-- 0 _law_f, 1 _law_before, 2 _law_apart_here, 3 _law_most, 4 _law_rows_here, 5 _law_one, 6 _law_k
def b_l_behind : S := (sSeq (sAsg (bindName 4) (mLst iNil)) (sSeq (sFor (wSeq (mCall 90 (aVal (mVar 0) (aVal (mBin itemV (mVar 2) (mLit (.int 0))) (aVal (mBin itemV (mVar 2) (mLit (.int 1))) (aVal (mVar 3) aNil)))))) (bindName 5) (sApp 4 (mTup (iCons (mCallB (op1 lenV) (iCons (mLc [6] (wRng1 (mCallB (op1 lenV) (iCons (mVar 1) iNil))) (bindName 6) (mBin neV (mBin itemV (mVar 1) (mVar 6)) (mBin itemV (mVar 5) (mVar 6))) (mVar 6)) iNil)) (iCons (mVar 5) iNil))))) (sSeq (sIf (mBinS eqV 4 (mLst iNil)) (sRet (mLst (iCons (mLit (.str "room")) (iCons (mLit .non) iNil)))) sPass) (sSeq (sAsg (bindName 5) (mBin itemV (mUnS minV 4) (mLit (.int 1)))) (sRet (mLst (iCons (mLc [6] (wRng1 (mCallB (op1 lenV) (iCons (mVar 1) iNil))) (bindName 6) (mBin neV (mBin itemV (mVar 1) (mVar 6)) (mBin itemV (mVar 5) (mVar 6))) (mVar 6)) (iCons (mVar 5) iNil))))))))
def d_l_behind : Def := { nslots := 7, io := [false, false, false, false], fresh := false, body := b_l_behind }
abbrev k_l_step : Nat := 138
-- 0 _law_draws_here, 1 _law_stood, 2 _law_apart_here, 3 _law_most, 4 _law_now, 5 _law_before, 6 _law_value, 7 _law_later, 8 _law_due, 9 _law_one, 10 _law_other, 11 _law_good, 12 _law_k
def b_l_step : S := (sSeq (sAsg (bindTup [(bindName 4), (bindName 5)]) (mVar 1)) (sSeq (sIf (mBin eqV (mCall 8 (aIo 0 (aVal (mLit (.int 2)) aNil))) (mLit (.int 0))) (sSeq (sAsg (bindName 6) (mCallB (op1 tupleV) (iCons (mLc [12] (wRng1 (mBin itemV (mVar 4) (mLit (.int 0)))) (bindName 12) (mBin eqV (mCall 8 (aIo 0 (aVal (mLit (.int 3)) aNil))) (mLit (.int 0))) (mVar 12)) iNil))) (sSeq (sAsg (bindName 7) (mTup (iCons (mBin addA (mBin itemV (mVar 4) (mLit (.int 0))) (mLit (.int 1))) (iCons (mCallB (op1 tupleV) (iCons (mCallB (op1 sortV) (iCons (mBin addA (mBin itemV (mVar 4) (mLit (.int 1))) (mCallB (op1 tupleV) (iCons (mLc [12] (wSeq (mVar 6)) (bindName 12) (mLit (.bl true)) (mTup (iCons (mVar 12) (iCons (mBin itemV (mVar 4) (mLit (.int 0))) iNil)))) iNil))) iNil)) iNil)) iNil)))) (sSeq (sAsg (bindName 8) (mIf (mBin eqV (mBin itemV (mVar 4) (mLit (.int 0))) (mLit (.int 6))) (mLst (iCons (mLit (.str "wide")) (iCons (mLit .non) iNil))) (mCall 137 (aVal (mVar 7) (aVal (mVar 5) (aVal (mVar 2) (aVal (mVar 3) aNil))))))) (sRet (mLst (iCons (mLit (.str "add")) (iCons (mVar 6) (iCons (mVar 7) (iCons (mVar 8) iNil))))))))) sPass) (sSeq (sPar2 9 10 (mCall 8 (aIo 0 (aVal (mBin itemV (mVar 4) (mLit (.int 0))) aNil))) (mCall 8 (aIo 0 (aVal (mBin itemV (mVar 4) (mLit (.int 0))) aNil)))) (sSeq (sAsg (bindName 6) (mTup (iCons (mCallB min2V (iCons (mVar 9) (iCons (mVar 10) iNil))) (iCons (mCallB max2V (iCons (mVar 9) (iCons (mVar 10) iNil))) iNil)))) (sSeq (sAsg (bindName 7) (mTup (iCons (mBin itemV (mVar 4) (mLit (.int 0))) (iCons (mCallB (op1 tupleV) (iCons (mCallB (op1 sortV) (iCons (mBin addA (mBin itemV (mVar 4) (mLit (.int 1))) (mTup (iCons (mVar 6) iNil))) iNil)) iNil)) iNil)))) (sSeq (sAsg (bindName 11) (mAnd (mBin neV (mVar 9) (mVar 10)) (mBin notinV (mVar 6) (mBin itemV (mVar 4) (mLit (.int 1)))))) (sRet (mLst (iCons (mLit (.str "join")) (iCons (mVar 6) (iCons (mVar 7) (iCons (mIf (mVar 11) (mCall 137 (aVal (mVar 7) (aVal (mVar 5) (aVal (mVar 2) (aVal (mVar 3) aNil))))) (mLst (iCons (mLst (iCons (mLit (.str "ties")) (iCons (mLit .non) iNil))) (iCons (mLit .non) iNil)))) iNil))))))))))))
def d_l_step : Def := { nslots := 13, io := [true, false, false, false], fresh := false, body := b_l_step }
abbrev k_BadLine_init : Nat := 142
-- 0 self, 1 line, 2 word
def b_BadLine_init : S := (sSeq (sFldV 0 "line" (mVar 1)) (sFldV 0 "word" (mVar 2)))
def d_BadLine_init : Def := { nslots := 3, io := [false, false, false], fresh := false, body := b_BadLine_init }
abbrev k_number_in : Nat := 144
-- 0 words, 1 at, 2 line, 3 low, 4 high, 5 number
def b_number_in : S := (sSeq (sIf (mOr (mBin geV (mVar 1) (mCallB (op1 lenV) (iCons (mVar 0) iNil))) (mBin notinV (mBin itemV (mVar 0) (mVar 1)) (mLc [5] (wRng2 (mVar 3) (mBin addA (mVar 4) (mLit (.int 1)))) (bindName 5) (mLit (.bl true)) (mCallB (op1 strV) (iCons (mVar 5) iNil))))) (sRaise2 "BadLine" "line" "word" (mVar 2) (mBin addA (mVar 1) (mLit (.int 1)))) sPass) (sRet (mCallB (op1 intV) (iCons (mBin itemV (mVar 0) (mVar 1)) iNil))))
def d_number_in : Def := { nslots := 6, io := [false, false, false, false, false], fresh := false, body := b_number_in }
abbrev k_check_head : Nat := 145
-- 0 words, 1 head, 2 line
def b_check_head : S := (sIf (mBin neV (mSlice sliceV (mVar 0) oNone (oSome (mLit (.int 1)))) (mLst (iCons (mVar 1) iNil))) (sRaise2 "BadLine" "line" "word" (mVar 2) (mLit (.int 1))) sPass)
def d_check_head : Def := { nslots := 3, io := [false, false, false], fresh := false, body := b_check_head }
abbrev k_check_end : Nat := 146
-- 0 words, 1 many, 2 line
def b_check_end : S := (sIf (mBin gtV (mCallB (op1 lenV) (iCons (mVar 0) iNil)) (mVar 1)) (sRaise2 "BadLine" "line" "word" (mVar 2) (mBin addA (mVar 1) (mLit (.int 1)))) sPass)
def d_check_end : Def := { nslots := 3, io := [false, false, false], fresh := false, body := b_check_end }
abbrev k_tie_in : Nat := 147
-- 0 words, 1 line, 2 senders, 3 last, 4 one, 5 other
def b_tie_in : S := (sSeq (sExpr (mCall 145 (aVal (mVar 0) (aVal (mLit (.str "tie")) (aVal (mVar 1) aNil))))) (sSeq (sAsg (bindName 4) (mCall 144 (aVal (mVar 0) (aVal (mLit (.int 1)) (aVal (mVar 1) (aVal (mBin itemV (mVar 3) (mLit (.int 0))) (aVal (mBin subV (mVar 2) (mLit (.int 2))) aNil))))))) (sSeq (sAsg (bindName 5) (mCall 144 (aVal (mVar 0) (aVal (mLit (.int 2)) (aVal (mVar 1) (aVal (mBin addA (mCallB max2V (iCons (mVar 4) (iCons (mIf (mBin eqV (mVar 4) (mBin itemV (mVar 3) (mLit (.int 0)))) (mBin itemV (mVar 3) (mLit (.int 1))) (mVar 4)) iNil))) (mLit (.int 1))) (aVal (mBin subV (mVar 2) (mLit (.int 1))) aNil))))))) (sSeq (sExpr (mCall 146 (aVal (mVar 0) (aVal (mLit (.int 3)) (aVal (mVar 1) aNil))))) (sRet (mTup (iCons (mVar 4) (iCons (mVar 5) iNil))))))))
def d_tie_in : Def := { nslots := 6, io := [false, false, false, false], fresh := false, body := b_tie_in }
abbrev k_l_words : Nat := 150
-- 0 _law_low, 1 _law_high, 2 _law_k
def b_l_words : S := (sRet (mLc [2] (wRng2 (mVar 0) (mBin addA (mVar 1) (mLit (.int 1)))) (bindName 2) (mLit (.bl true)) (mCallB (op1 strV) (iCons (mVar 2) iNil))))
def d_l_words : Def := { nslots := 3, io := [false, false], fresh := false, body := b_l_words }
abbrev k_l_fault : Nat := 151
-- 0 _law_words_here, 1 _law_many, 2 _law_ties, 3 _law_ahead, 4 _law_low
def b_l_fault : S := (sSeq (sIf (mBin eqV (mVar 1) (mLit (.int 0))) (sSeq (sIf (mOr (mBin eqV (mVar 0) (mLst iNil)) (mBin neV (mBin itemV (mVar 0) (mLit (.int 0))) (mLit (.str "senders")))) (sRet (mLit (.int 1))) sPass) (sSeq (sIf (mOr (mBin ltV (mCallB (op1 lenV) (iCons (mVar 0) iNil)) (mLit (.int 2))) (mBin notinV (mBin itemV (mVar 0) (mLit (.int 1))) (mCall 150 (aVal (mLit (.int 1)) (aVal (mLit (.int 40)) aNil))))) (sRet (mLit (.int 2))) sPass) (sRet (mIf (mBin gtV (mCallB (op1 lenV) (iCons (mVar 0) iNil)) (mLit (.int 2))) (mLit (.int 3)) (mLit (.int 0)))))) sPass) (sSeq (sAsg (bindName 3) (mIf (mBin neV (mVar 2) (mTup iNil)) (mBin itemV (mVar 2) (mUn negV (mLit (.int 1)))) (mTup (iCons (mLit (.int 0)) (iCons (mLit (.int 0)) iNil))))) (sSeq (sIf (mOr (mBin eqV (mVar 0) (mLst iNil)) (mOr (mBin neV (mBin itemV (mVar 0) (mLit (.int 0))) (mLit (.str "tie"))) (mBin eqV (mCallB (op1 lenV) (iCons (mVar 2) iNil)) (mLit (.int 60))))) (sRet (mLit (.int 1))) sPass) (sSeq (sIf (mOr (mBin ltV (mCallB (op1 lenV) (iCons (mVar 0) iNil)) (mLit (.int 2))) (mBin notinV (mBin itemV (mVar 0) (mLit (.int 1))) (mCall 150 (aVal (mBin itemV (mVar 3) (mLit (.int 0))) (aVal (mBin subV (mVar 1) (mLit (.int 2))) aNil))))) (sRet (mLit (.int 2))) sPass) (sSeq (sAsg (bindName 4) (mBin addA (mCallB (op1 intV) (iCons (mBin itemV (mVar 0) (mLit (.int 1))) iNil)) (mLit (.int 1)))) (sSeq (sIf (mBin eqV (mCallB (op1 intV) (iCons (mBin itemV (mVar 0) (mLit (.int 1))) iNil)) (mBin itemV (mVar 3) (mLit (.int 0)))) (sAsg (bindName 4) (mCallB max2V (iCons (mVar 4) (iCons (mBin addA (mBin itemV (mVar 3) (mLit (.int 1))) (mLit (.int 1))) iNil)))) sPass) (sSeq (sIf (mOr (mBin ltV (mCallB (op1 lenV) (iCons (mVar 0) iNil)) (mLit (.int 3))) (mBin notinV (mBin itemV (mVar 0) (mLit (.int 2))) (mCall 150 (aVal (mVar 4) (aVal (mBin subV (mVar 1) (mLit (.int 1))) aNil))))) (sRet (mLit (.int 3))) sPass) (sRet (mIf (mBin gtV (mCallB (op1 lenV) (iCons (mVar 0) iNil)) (mLit (.int 3))) (mLit (.int 4)) (mLit (.int 0)))))))))))
def d_l_fault : Def := { nslots := 5, io := [false, false, false], fresh := false, body := b_l_fault }
abbrev k_l_told_there_k14 : Nat := 153
-- 0 _law_text, 1 _law_told_there_here, 2 e
def b_l_told_there_k14 : S := (sSeq (sAsg (bindName 1) (mLit .non)) (sSeq (sTry (sAsg (bindName 1) (mCall 148 (aVal (mVar 0) aNil))) [(catch_BadLine, 2, (fun fs => ((fun _ => some (Val.str "line")) fs).bind fun v => ((fun fs => List.lookup ("line" : Str) fs) fs).bind fun w => ((fun fs => List.lookup ("word" : Str) fs) fs).bind fun z => some (Val.lst [v, w, z])))] 1) (sRet (mVar 1))))
def d_l_told_there_k14 : Def := { nslots := 3, io := [false], fresh := false, body := b_l_told_there_k14 }
abbrev k_l_apart_k15 : Nat := 156
-- 0 _law_draws_here, 1 _law_near
def b_l_apart_k15 : S := (sSeq (sAsg (bindName 1) (mBin itemV (mLst (iCons (mLit (.int 1)) (iCons (mLit (.int 2)) (iCons (mLit (.int 3)) (iCons (mLit (.int 1)) (iCons (mLit (.int 2)) (iCons (mLit (.int 3)) (iCons (mLit (.int 4)) (iCons (mLit (.int 5)) iNil))))))))) (mCall 8 (aIo 0 (aVal (mLit (.int 8)) aNil))))) (sRet (mTup (iCons (mVar 1) (iCons (mCall 8 (aIo 0 (aVal (mBin addA (mVar 1) (mLit (.int 1))) aNil))) iNil)))))
def d_l_apart_k15 : Def := { nslots := 2, io := [true], fresh := false, body := b_l_apart_k15 }
abbrev k_law_k15 : Nat := 157
-- 0 _law_script, 1 _law_draws_here, 2 _law_f, 3 _law_near, 4 _law_far, 5 _law_field_here, 6 _law_need, 7 _law_size, 8 _law_some, 9 _law_turned, 10 _law_one, 11 _law_other, 12 _law_tie, 13 _law_t, 14 _law_tree_here, 15 _law_d
def b_law_k15 : S := (sSeq (sAsg (bindName 1) (mCall 7 (aVal (mVar 0) aNil))) (sSeq (sAsg (bindTup [(bindName 2), (bindTup [(bindName 3), (bindName 4)])]) (mTup (iCons (mCall 9 (aIo 1 (aVal (mLit (.int 5)) aNil))) (iCons (mCall 156 (aIo 1 aNil)) iNil)))) (sSeq (sAsg (bindTup [(bindName 5), (bindName 6)]) (mTup (iCons (mCall 23 (aVal (mVar 2) aNil)) (iCons (mCall 84 (aVal (mCall 23 (aVal (mVar 2) aNil)) (aVal (mVar 3) (aVal (mVar 4) aNil)))) iNil)))) (sSeq (sIf (mBin gtV (mVar 6) (mLit (.int 19))) (sRet (mLit (.bl true))) sPass) (sSeq (sPar2 7 8 (mCall 112 (aVal (mVar 5) (aVal (mVar 3) (aVal (mVar 4) aNil)))) (mCall 85 (aVal (mVar 5) (aVal (mVar 3) (aVal (mVar 4) (aVal (mVar 6) aNil)))))) (sSeq (sIf (mOr (mNot (mChain leV leV (mBin addA (mVar 6) (mLit (.int 1))) (mVar 7) (mBin addA (mVar 6) (mVar 3)))) (mOr (mBin isV (mVar 8) (mLit .non)) (mBin isnotV (mCall 32 (aVal (mVar 5) (aVal (mVar 8) (aVal (mVar 3) (aVal (mVar 4) aNil))))) (mLit .non)))) (sRet (mLit (.bl false))) sPass) (sSeq (sIf (mAnd (mBin gtV (mVar 6) (mLit (.int 0))) (mAnd (mBin leV (mVar 6) (mLit (.int 20))) (mBin isnotV (mCall 85 (aVal (mVar 5) (aVal (mVar 3) (aVal (mVar 4) (aVal (mBin subV (mVar 6) (mLit (.int 1))) aNil))))) (mLit .non)))) (sRet (mLit (.bl false))) sPass) (sSeq (sAsg (bindName 9) (mCallB (op1 tupleV) (iCons (mLc [10] (wSeq (mVar 8)) (bindName 10) (mLit (.bl true)) (mBin subV (mVar 6) (mVar 10))) iNil))) (sSeq (sIf (mOr (mBin isnotV (mCall 32 (aVal (mVar 5) (aVal (mVar 9) (aVal (mVar 3) (aVal (mVar 4) aNil))))) (mLit .non)) (mBin notinV (mVar 9) (mCall 87 (aVal (mVar 5) (aVal (mVar 3) (aVal (mVar 4) aNil)))))) (sRet (mLit (.bl false))) sPass) (sSeq (sIf (mBin isnotV (mCall 32 (aVal (mVar 5) (aVal (mCall 111 (aVal (mVar 5) (aVal (mVar 3) (aVal (mVar 4) (aVal (mVar 7) aNil))))) (aVal (mVar 3) (aVal (mVar 4) aNil))))) (mLit .non)) (sRet (mLit (.bl false))) sPass) (sSeq (sPar2 10 11 (mCall 8 (aIo 1 (aVal (mBin itemV (mVar 2) (mLit (.int 0))) aNil))) (mCall 8 (aIo 1 (aVal (mBin itemV (mVar 2) (mLit (.int 0))) aNil)))) (sSeq (sAsg (bindName 12) (mTup (iCons (mCallB min2V (iCons (mVar 10) (iCons (mVar 11) iNil))) (iCons (mCallB max2V (iCons (mVar 10) (iCons (mVar 11) iNil))) iNil)))) (sSeq (sIf (mAnd (mBin neV (mVar 10) (mVar 11)) (mBin notinV (mVar 12) (mBin itemV (mVar 2) (mLit (.int 1))))) (sIf (mBin ltV (mCall 84 (aVal (mCall 23 (aVal (mTup (iCons (mBin itemV (mVar 2) (mLit (.int 0))) (iCons (mCallB (op1 tupleV) (iCons (mCallB (op1 sortV) (iCons (mBin addA (mBin itemV (mVar 2) (mLit (.int 1))) (mTup (iCons (mVar 12) iNil))) iNil)) iNil)) iNil))) aNil)) (aVal (mVar 3) (aVal (mVar 4) aNil)))) (mVar 6)) (sRet (mLit (.bl false))) sPass) sPass) (sSeq (sAsg (bindName 13) (mCall 10 (aIo 1 (aVal (mLit (.int 6)) aNil)))) (sSeq (sPar2 14 15 (mCall 23 (aVal (mVar 13) aNil)) (mCall 19 (aVal (mCall 23 (aVal (mVar 13) aNil)) aNil))) (sSeq (sIf (mAnd (mBin gtV (mBin itemV (mVar 13) (mLit (.int 0))) (mLit (.int 1))) (mBin notinV (mCall 55 (aVal (mVar 14) aNil)) (mLst (iCons (mBin addA (mVar 15) (mLit (.int 1))) (iCons (mBin addA (mVar 15) (mLit (.int 2))) iNil))))) (sRet (mLit (.bl false))) sPass) (sRet (mAnd (mBin eqV (mCall 55 (aVal (mVar 14) aNil)) (mCall 84 (aVal (mVar 14) (aVal (mLit (.int 2)) (aVal (mLit (.int 1)) aNil))))) (mBin isV (mCall 32 (aVal (mVar 14) (aVal (mCall 57 (aVal (mVar 14) aNil)) (aVal (mLit (.int 2)) (aVal (mLit (.int 1)) aNil))))) (mLit .non))))))))))))))))))))
def d_law_k15 : Def := { nslots := 16, io := [false], fresh := false, body := b_law_k15 }
abbrev k_l_full : Nat := 158
-- 0 _law_many, 1 _law_near, 2 _law_ties, 3 _law_one, 4 _law_field, 5 _law_total, 6 _law_k, 7 _law_best_there, 8 _law_other
def b_l_full : S := (sSeq (sAsg (bindName 2) (mTup iNil)) (sSeq (sFor (wRng1 (mVar 0)) (bindName 3) (sAsg (bindName 2) (mBin addA (mVar 2) (mCallB (op1 tupleV) (iCons (mLc [8] (wRng2 (mBin addA (mVar 3) (mLit (.int 1))) (mVar 0)) (bindName 8) (mLit (.bl true)) (mTup (iCons (mVar 3) (iCons (mVar 8) iNil)))) iNil))))) (sSeq (sPar2 4 5 (mNew 3 "Field" (iCons (mVar 0) (iCons (mVar 2) iNil))) (mLit (.int 1))) (sSeq (sFor (wRng1 (mVar 0)) (bindName 6) (sAsg (bindName 5) (mBin mulA (mVar 5) (mBin addA (mVar 6) (mLit (.int 1)))))) (sSeq (sIf (mBin neV (mCall 84 (aVal (mVar 4) (aVal (mVar 1) (aVal (mLit (.int 0)) aNil)))) (mBin mulA (mVar 1) (mBin subV (mVar 0) (mLit (.int 1))))) (sRet (mLit (.bl false))) sPass) (sSeq (sIf (mBin neV (mCall 112 (aVal (mVar 4) (aVal (mVar 1) (aVal (mVar 1) aNil)))) (mCallB max2V (iCons (mLit (.int 1)) (iCons (mBin mulA (mBin mulA (mVar 1) (mVar 0)) (mCallB (op1 intV) (iCons (mBin gtV (mVar 0) (mLit (.int 1))) iNil))) iNil)))) (sRet (mLit (.bl false))) sPass) (sSeq (sIf (mOr (mBin neV (mCallB (op1 lenV) (iCons (mCall 87 (aVal (mVar 4) (aVal (mVar 1) (aVal (mVar 1) aNil)))) iNil)) (mVar 5)) (mBin neV (mBin itemV (mCall 89 (aVal (mVar 4) (aVal (mVar 1) (aVal (mLit (.int 0)) aNil)))) (mLit (.int 0))) (mBin mulA (mBin subV (mVar 1) (mLit (.int 1))) (mBin subV (mVar 0) (mLit (.int 1)))))) (sRet (mLit (.bl false))) sPass) (sSeq (sAsg (bindName 7) (mCallB (op1 tupleV) (iCons (mLc [6] (wRng1 (mVar 0)) (bindName 6) (mLit (.bl true)) (mBin mulA (mVar 1) (mVar 6))) iNil))) (sRet (mBin eqV (mCall 104 (aVal (mVar 4) (aVal (mVar 1) (aVal (mLit (.int 0)) (aVal (mLit (.int 20)) (aVal (mBin mulA (mTup (iCons (mLit (.int 1)) iNil)) (mVar 0)) aNil)))))) (mTup (iCons (mCallB (op1 sumV) (iCons (mVar 7) iNil)) (iCons (mVar 7) iNil)))))))))))))
def d_l_full : Def := { nslots := 9, io := [false, false], fresh := false, body := b_l_full }
abbrev k_l_legs : Nat := 159
-- 0 _law_many, 1 _law_ties, 2 _law_field, 3 _law_k
def b_l_legs : S := (sSeq (sAsg (bindName 1) (mBin addA (mCallB (op1 tupleV) (iCons (mLc [3] (wRng1 (mVar 0)) (bindName 3) (mLit (.bl true)) (mTup (iCons (mLit (.int 0)) (iCons (mBin addA (mVar 3) (mLit (.int 1))) iNil)))) iNil)) (mCallB (op1 tupleV) (iCons (mLc [3] (wRng1 (mVar 0)) (bindName 3) (mLit (.bl true)) (mTup (iCons (mBin addA (mVar 3) (mLit (.int 1))) (iCons (mBin addA (mBin addA (mVar 0) (mVar 3)) (mLit (.int 1))) iNil)))) iNil)))) (sSeq (sAsg (bindName 2) (mNew 3 "Field" (iCons (mBin addA (mBin mulA (mLit (.int 2)) (mVar 0)) (mLit (.int 1))) (iCons (mCallB (op1 tupleV) (iCons (mCallB (op1 sortV) (iCons (mVar 1) iNil)) iNil)) iNil)))) (sRet (mAnd (mBin eqV (mCall 55 (aVal (mVar 2) aNil)) (mBin itemV (mLst (iCons (mLit (.int 0)) (iCons (mLit (.int 3)) (iCons (mLit (.int 4)) (iCons (mLit (.int 4)) (iCons (mLit (.int 5)) (iCons (mLit (.int 6)) (iCons (mLit (.int 7)) iNil)))))))) (mVar 0))) (mBin eqV (mCall 19 (aVal (mVar 2) aNil)) (mCallB max2V (iCons (mVar 0) (iCons (mBin subV (mLit (.int 2)) (mBin mulA (mCallB (op1 intV) (iCons (mBin eqV (mVar 0) (mLit (.int 0))) iNil)) (mLit (.int 2)))) iNil))))))))
def d_l_legs : Def := { nslots := 4, io := [false], fresh := false, body := b_l_legs }
abbrev k_l_twins : Nat := 160
-- 0 _law_many, 1 _law_ties, 2 _law_field, 3 _law_k
def b_l_twins : S := (sSeq (sAsg (bindName 1) (mBin addA (mCallB (op1 tupleV) (iCons (mLc [3] (wRng1 (mVar 0)) (bindName 3) (mLit (.bl true)) (mTup (iCons (mLit (.int 0)) (iCons (mBin addA (mVar 3) (mLit (.int 2))) iNil)))) iNil)) (mCallB (op1 tupleV) (iCons (mLc [3] (wRng1 (mVar 0)) (bindName 3) (mLit (.bl true)) (mTup (iCons (mLit (.int 1)) (iCons (mBin addA (mBin addA (mVar 3) (mVar 0)) (mLit (.int 2))) iNil)))) iNil)))) (sSeq (sAsg (bindName 2) (mNew 3 "Field" (iCons (mBin addA (mBin mulA (mLit (.int 2)) (mVar 0)) (mLit (.int 2))) (iCons (mCallB (op1 tupleV) (iCons (mCallB (op1 sortV) (iCons (mBin addA (mVar 1) (mTup (iCons (mTup (iCons (mLit (.int 0)) (iCons (mLit (.int 1)) iNil))) iNil))) iNil)) iNil)) iNil)))) (sRet (mBin eqV (mCall 55 (aVal (mVar 2) aNil)) (mBin addA (mVar 0) (mLit (.int 2)))))))
def d_l_twins : Def := { nslots := 4, io := [false], fresh := false, body := b_l_twins }
abbrev k_l_alone : Nat := 161
-- 0 _law_many, 1 _law_field
def b_l_alone : S := (sSeq (sAsg (bindName 1) (mNew 3 "Field" (iCons (mVar 0) (iCons (mTup iNil) iNil)))) (sSeq (sIf (mOr (mBin neV (mCall 84 (aVal (mVar 1) (aVal (mLit (.int 5)) (aVal (mLit (.int 5)) aNil)))) (mLit (.int 0))) (mOr (mBin neV (mCall 112 (aVal (mVar 1) (aVal (mLit (.int 5)) (aVal (mLit (.int 5)) aNil)))) (mLit (.int 1))) (mBin neV (mCall 87 (aVal (mVar 1) (aVal (mLit (.int 3)) (aVal (mLit (.int 1)) aNil)))) (mLst (iCons (mBin mulA (mTup (iCons (mLit (.int 0)) iNil)) (mVar 0)) iNil))))) (sRet (mLit (.bl false))) sPass) (sRet (mBin eqV (mCall 99 (aVal (mVar 1) (aVal (mLit (.int 2)) (aVal (mLit (.int 1)) (aVal (mLit (.int 4)) (aVal (mBin mulA (mTup (iCons (mLit .non) iNil)) (mVar 0)) (aVal (mLit (.int 0)) aNil))))))) (mLst (iCons (mLit (.int 0)) (iCons (mLit (.int 1)) (iCons (mLit (.int 2)) (iCons (mLit (.int 3)) (iCons (mLit (.int 4)) iNil))))))))))
def d_l_alone : Def := { nslots := 2, io := [false], fresh := false, body := b_l_alone }
abbrev k_law_k16 : Nat := 162
-- 0 _law_script, 1 _law_row_there
def b_law_k16 : S := (sSeq (sAsg (bindName 1) (mCall 7 (aVal (mVar 0) aNil))) (sSeq (sIf (mNot (mCall 158 (aVal (mBin addA (mLit (.int 1)) (mCall 8 (aIo 1 (aVal (mLit (.int 4)) aNil)))) (aVal (mBin addA (mLit (.int 1)) (mCall 8 (aIo 1 (aVal (mLit (.int 5)) aNil)))) aNil)))) (sRet (mLit (.bl false))) sPass) (sSeq (sIf (mOr (mNot (mCall 159 (aVal (mBin addA (mLit (.int 1)) (mCall 8 (aIo 1 (aVal (mLit (.int 6)) aNil)))) aNil))) (mNot (mCall 160 (aVal (mBin addA (mLit (.int 1)) (mCall 8 (aIo 1 (aVal (mLit (.int 5)) aNil)))) aNil)))) (sRet (mLit (.bl false))) sPass) (sRet (mAnd (mCall 161 (aVal (mBin addA (mLit (.int 1)) (mCall 8 (aIo 1 (aVal (mLit (.int 6)) aNil)))) aNil)) (mBin eqV (mCall 45 (aVal (mNew 3 "Field" (iCons (mLit (.int 1)) (iCons (mTup iNil) iNil))) (aVal (mLit (.int 3)) aNil))) (mTup (iCons (mLst (iCons (mLit (.int 0)) (iCons (mLit (.int 1)) (iCons (mLit (.int 2)) (iCons (mLit (.int 3)) iNil))))) (iCons (mLst iNil) iNil)))))))))
def d_law_k16 : Def := { nslots := 2, io := [false], fresh := false, body := b_law_k16 }
abbrev k_Desk_add_k17 : Nat := 164
-- 0 self, 1 others
def b_Desk_add_k17 : S := (sExpr (mCall 163 (aVal (mLit (.int 0)) aNil)))
def d_Desk_add_k17 : Def := { nslots := 2, io := [false, false], fresh := false, body := b_Desk_add_k17 }
abbrev k_Desk_undo_k17 : Nat := 165
-- 0 self
def b_Desk_undo_k17 : S := (sExpr (mCall 163 (aVal (mLit (.int 1)) aNil)))
def d_Desk_undo_k17 : Def := { nslots := 1, io := [false], fresh := false, body := b_Desk_undo_k17 }
abbrev k_Desk_copy_k17 : Nat := 166
-- 0 self
def b_Desk_copy_k17 : S := (sExpr (mCall 163 (aVal (mLit (.int 2)) aNil)))
def d_Desk_copy_k17 : Def := { nslots := 1, io := [false], fresh := false, body := b_Desk_copy_k17 }
abbrev k_Desk_now_k18 : Nat := 169
-- 0 self
def b_Desk_now_k18 : S := (sExpr (mCall 163 (aVal (mLit (.int 0)) aNil)))
def d_Desk_now_k18 : Def := { nslots := 1, io := [false], fresh := false, body := b_Desk_now_k18 }
abbrev k_Desk_join_k18 : Nat := 170
-- 0 self, 1 tie
def b_Desk_join_k18 : S := (sExpr (mCall 163 (aVal (mLit (.int 1)) aNil)))
def d_Desk_join_k18 : Def := { nslots := 2, io := [false, false], fresh := false, body := b_Desk_join_k18 }
abbrev k_Desk_undo_k18 : Nat := 171
-- 0 self
def b_Desk_undo_k18 : S := (sExpr (mCall 163 (aVal (mLit (.int 2)) aNil)))
def d_Desk_undo_k18 : Def := { nslots := 1, io := [false], fresh := false, body := b_Desk_undo_k18 }
abbrev k_Desk_copy_k18 : Nat := 172
-- 0 self
def b_Desk_copy_k18 : S := (sExpr (mCall 163 (aVal (mLit (.int 3)) aNil)))
def d_Desk_copy_k18 : Def := { nslots := 1, io := [false], fresh := false, body := b_Desk_copy_k18 }
abbrev k_given_by : Nat := 179
-- 0 bars, 1 order, 2 told, 3 sender, 4 channel, 5 other, 6 apart
def b_given_by : S := (sSeq (sAsg (bindName 2) (mLit (.dct []))) (sSeq (sFor (wSeq (mVar 1)) (bindName 3) (sSeq (sAsg (bindName 4) (mLit (.int 0))) (sSeq (sWhile (mNot (mCallB (op1 allV) (iCons (mLc [5, 6] (wSeq (mBin itemV (mVar 0) (mVar 3))) (bindTup [(bindName 5), (bindName 6)]) (mBinR inV (mVar 5) 2) (mBin geV (mCallB (op1 absV) (iCons (mBin subV (mBinS itemV 2 (mVar 5)) (mVar 4)) iNil)) (mVar 6))) iNil))) (sAug addI 4 (mLit (.int 1))) 100000) (sSet 2 (mVar 3) (mVar 4))))) (sRet (mCallB (op1 tupleV) (iCons (mLc [3] (wRng1 (mCallB (op1 lenV) (iCons (mVar 0) iNil))) (bindName 3) (mLit (.bl true)) (mBinS itemV 2 (mVar 3))) iNil)))))
def d_given_by : Def := { nslots := 7, io := [false, false], fresh := false, body := b_given_by }
abbrev k_by_order : Nat := 180
-- 0 field, 1 near, 2 far, 3 order, 4 sender
def b_by_order : S := (sSeq (sExpr (mCall 28 (aVal (mVar 1) (aVal (mVar 2) aNil)))) (sSeq (sIf (mOr (mNot (mUn (isiV "tuple") (mVar 3))) (mBin neV (mCallB (op1 lenV) (iCons (mVar 3) iNil)) (mUn (fldV "many") (mVar 0)))) (sRaise "BadOrder" []) sPass) (sSeq (sIf (mNot (mCallB (op1 allV) (iCons (mLc [4] (wSeq (mVar 3)) (bindName 4) (mLit (.bl true)) (mCall 1 (aVal (mVar 4) (aVal (mLit (.int 0)) (aVal (mBin subV (mUn (fldV "many") (mVar 0)) (mLit (.int 1))) aNil))))) iNil))) (sRaise "BadOrder" []) sPass) (sSeq (sIf (mBin ltV (mCallB (op1 lenV) (iCons (mDc [4] (wSeq (mVar 3)) (bindName 4) (mLit (.bl true)) (mVar 4) (mLit (.bl true))) iNil)) (mUn (fldV "many") (mVar 0))) (sRaise "BadOrder" []) sPass) (sRet (mCall 179 (aVal (mCall 178 (aVal (mVar 0) (aVal (mVar 1) (aVal (mVar 2) aNil)))) (aVal (mVar 3) aNil))))))))
def d_by_order : Def := { nslots := 5, io := [false, false, false, false], fresh := false, body := b_by_order }
abbrev k_greatest_of : Nat := 182
-- 0 field, 1 near, 2 far, 3 bars, 4 order
def b_greatest_of : S := (sSeq (sAsg (bindName 3) (mCall 178 (aVal (mVar 0) (aVal (mVar 1) (aVal (mVar 2) aNil))))) (sRet (mLc [4] (wSeq (mCall 181 (aVal (mUn (fldV "many") (mVar 0)) aNil))) (bindName 4) (mLit (.bl true)) (mTup (iCons (mCallB (op1 maxV) (iCons (mCall 179 (aVal (mVar 3) (aVal (mVar 4) aNil))) iNil)) (iCons (mVar 4) iNil))))))
def d_greatest_of : Def := { nslots := 5, io := [false, false, false], fresh := false, body := b_greatest_of }
abbrev k_best_order : Nat := 183
-- 0 field, 1 near, 2 far
def b_best_order : S := (sSeq (sExpr (mCall 75 (aVal (mVar 0) aNil))) (sSeq (sExpr (mCall 28 (aVal (mVar 1) (aVal (mVar 2) aNil)))) (sRet (mCallB (op1 minV) (iCons (mCall 182 (aVal (mVar 0) (aVal (mVar 1) (aVal (mVar 2) aNil)))) iNil)))))
def d_best_order : Def := { nslots := 3, io := [false, false, false], fresh := false, body := b_best_order }
abbrev k_worst_order : Nat := 184
-- 0 field, 1 near, 2 far, 3 rows, 4 most, 5 channel, 6 order, 7 told
def b_worst_order : S := (sSeq (sExpr (mCall 75 (aVal (mVar 0) aNil))) (sSeq (sExpr (mCall 28 (aVal (mVar 1) (aVal (mVar 2) aNil)))) (sSeq (sAsg (bindName 3) (mCall 182 (aVal (mVar 0) (aVal (mVar 1) (aVal (mVar 2) aNil))))) (sSeq (sAsg (bindName 4) (mCallB (op1 maxV) (iCons (mLc [5, 6] (wSeq (mVar 3)) (bindTup [(bindName 5), (bindName 6)]) (mLit (.bl true)) (mVar 5)) iNil))) (sRet (mBin itemV (mLc [7] (wSeq (mVar 3)) (bindName 7) (mBin eqV (mBin itemV (mVar 7) (mLit (.int 0))) (mVar 4)) (mVar 7)) (mLit (.int 0))))))))
def d_worst_order : Def := { nslots := 8, io := [false, false, false], fresh := false, body := b_worst_order }
abbrev k_l_wrong_k20 : Nat := 185
-- 0 _law_field_here, 1 _law_near_here, 2 _law_far, 3 _law_order, 4 _law_which, 5 _law_told_there, 6 e
def b_l_wrong_k20 : S := (sSeq (sAsg (bindName 5) (mLit .non)) (sSeq (sTry (sIf (mBin eqV (mVar 4) (mLit (.int 0))) (sAsg (bindName 5) (mCall 180 (aVal (mVar 0) (aVal (mVar 1) (aVal (mVar 2) (aVal (mVar 3) aNil)))))) (sAsg (bindName 5) (mIf (mBin eqV (mVar 4) (mLit (.int 1))) (mCall 183 (aVal (mVar 0) (aVal (mVar 1) (aVal (mVar 2) aNil)))) (mCall 184 (aVal (mVar 0) (aVal (mVar 1) (aVal (mVar 2) aNil))))))) [(catch_TooWide, 6, (fun _ => some (Val.str "wide"))), (catch_BadApart, 6, (fun _ => some (Val.str "apart"))), (catch_BadOrder, 6, (fun _ => some (Val.str "order")))] 5) (sRet (mVar 5))))
def d_l_wrong_k20 : Def := { nslots := 7, io := [false, false, false, false, false], fresh := false, body := b_l_wrong_k20 }
abbrev k_l_orders : Nat := 187
-- 0 _law_many, 1 _law_found, 2 _law_k, 3 _law_longer, 4 _law_one, 5 _law_j
def b_l_orders : S := (sSeq (sAsg (bindName 1) (mLst (iCons (mTup iNil) iNil))) (sSeq (sFor (wRng1 (mVar 0)) (bindName 2) (sSeq (sAsg (bindName 3) (mLst iNil)) (sSeq (sFor (wSeq (mVar 1)) (bindName 4) (sAsg (bindName 3) (mBin addA (mVar 3) (mLc [5] (wRng1 (mVar 0)) (bindName 5) (mBin notinV (mVar 5) (mVar 4)) (mBin addA (mVar 4) (mTup (iCons (mVar 5) iNil))))))) (sAsg (bindName 1) (mVar 3))))) (sRet (mVar 1))))
def d_l_orders : Def := { nslots := 6, io := [false], fresh := false, body := b_l_orders }
abbrev k_law_k20 : Nat := 188
-- 0 _law_script, 1 _law_draws_here, 2 _law_f, 3 _law_apart_here, 4 _law_order, 5 _law_field_here, 6 _law_rows, 7 _law_most, 8 _law_which, 9 _law_wrong_here, 10 _law_good, 11 _law_spot, 12 _law_odd, 13 _law_k, 14 _law_drawn, 15 _law_one, 16 _law_channel, 17 _law_told_of
def b_law_k20 : S := (sSeq (sAsg (bindName 1) (mCall 7 (aVal (mVar 0) aNil))) (sSeq (sAsg (bindTup [(bindName 2), (bindName 3)]) (mTup (iCons (mCall 9 (aIo 1 (aVal (mLit (.int 9)) aNil))) (iCons (mCall 92 (aIo 1 aNil)) iNil)))) (sSeq (sAsg (bindName 4) (mCallB (op1 tupleV) (iCons (mLc [13, 14] (wSeq (mCallB (op1 sortV) (iCons (mLc [13] (wRng1 (mBin itemV (mVar 2) (mLit (.int 0)))) (bindName 13) (mLit (.bl true)) (mTup (iCons (mCall 8 (aIo 1 (aVal (mLit (.int 50)) aNil))) (iCons (mVar 13) iNil)))) iNil))) (bindTup [(bindName 14), (bindName 13)]) (mLit (.bl true)) (mVar 13)) iNil))) (sSeq (sIf (mBin neV (mCall 180 (aVal (mCall 23 (aVal (mVar 2) aNil)) (aVal (mBin itemV (mVar 3) (mLit (.int 0))) (aVal (mBin itemV (mVar 3) (mLit (.int 1))) (aVal (mVar 4) aNil))))) (mCall 186 (aVal (mVar 2) (aVal (mBin itemV (mVar 3) (mLit (.int 0))) (aVal (mBin itemV (mVar 3) (mLit (.int 1))) (aVal (mVar 4) aNil)))))) (sRet (mLit (.bl false))) sPass) (sSeq (sAsg (bindName 2) (mCall 9 (aIo 1 (aVal (mBin addA (mLit (.int 4)) (mBin mulA (mLit (.int 2)) (mCallB (op1 intV) (iCons (mBin eqV (mCall 8 (aIo 1 (aVal (mLit (.int 24)) aNil))) (mLit (.int 0))) iNil)))) aNil)))) (sSeq (sAsg (bindName 5) (mCall 23 (aVal (mVar 2) aNil))) (sSeq (sAsg (bindName 6) (mLc [15] (wSeq (mCall 187 (aVal (mBin itemV (mVar 2) (mLit (.int 0))) aNil))) (bindName 15) (mLit (.bl true)) (mTup (iCons (mCallB (op1 maxV) (iCons (mCall 186 (aVal (mVar 2) (aVal (mBin itemV (mVar 3) (mLit (.int 0))) (aVal (mBin itemV (mVar 3) (mLit (.int 1))) (aVal (mVar 15) aNil))))) iNil)) (iCons (mVar 15) iNil))))) (sSeq (sAsg (bindName 7) (mCallB (op1 maxV) (iCons (mLc [15, 16] (wSeq (mVar 6)) (bindTup [(bindName 16), (bindName 15)]) (mLit (.bl true)) (mVar 16)) iNil))) (sSeq (sIf (mBin neV (mCall 183 (aVal (mVar 5) (aVal (mBin itemV (mVar 3) (mLit (.int 0))) (aVal (mBin itemV (mVar 3) (mLit (.int 1))) aNil)))) (mCallB (op1 minV) (iCons (mVar 6) iNil))) (sRet (mLit (.bl false))) sPass) (sSeq (sIf (mBin neV (mCall 184 (aVal (mVar 5) (aVal (mBin itemV (mVar 3) (mLit (.int 0))) (aVal (mBin itemV (mVar 3) (mLit (.int 1))) aNil)))) (mBin itemV (mLc [17] (wSeq (mVar 6)) (bindName 17) (mBin eqV (mBin itemV (mVar 17) (mLit (.int 0))) (mVar 7)) (mVar 17)) (mLit (.int 0)))) (sRet (mLit (.bl false))) sPass) (sSeq (sAsg (bindName 8) (mBin addA (mLit (.int 1)) (mCall 8 (aIo 1 (aVal (mLit (.int 2)) aNil))))) (sSeq (sIf (mBin neV (mCall 185 (aVal (mCall 93 aNil) (aVal (mLit .non) (aVal (mLit .non) (aVal (mLit .non) (aVal (mVar 8) aNil)))))) (mLit (.str "wide"))) (sRet (mLit (.bl false))) sPass) (sSeq (sPar2 9 8 (mCall 33 (aIo 1 aNil)) (mCall 8 (aIo 1 (aVal (mLit (.int 3)) aNil)))) (sSeq (sIf (mBin neV (mCall 185 (aVal (mVar 5) (aVal (mBin itemV (mVar 9) (mLit (.int 0))) (aVal (mBin itemV (mVar 9) (mLit (.int 1))) (aVal (mLit .non) (aVal (mVar 8) aNil)))))) (mLit (.str "apart"))) (sRet (mLit (.bl false))) sPass) (sSeq (sAsg (bindName 10) (mTupRg (mBin itemV (mVar 2) (mLit (.int 0))))) (sSeq (sAsg (bindName 11) (mCall 8 (aIo 1 (aVal (mBin itemV (mVar 2) (mLit (.int 0))) aNil)))) (sSeq (sAsg (bindName 12) (mLst (iCons (mLit .non) (iCons (mCallB (op1 listV) (iCons (mVar 10) iNil)) (iCons (mBin addA (mVar 10) (mTup (iCons (mLit (.int 0)) iNil))) (iCons (mSlice sliceV (mVar 10) (oSome (mLit (.int 1))) oNone) (iCons (mBin addA (mBin addA (mSlice sliceV (mVar 10) oNone (oSome (mVar 11))) (mTup (iCons (mBin itemV (mVar 2) (mLit (.int 0))) iNil))) (mSlice sliceV (mVar 10) (oSome (mBin addA (mVar 11) (mLit (.int 1)))) oNone)) (iCons (mLit (.str "0")) (iCons (mLit (.int 5)) iNil))))))))) (sSeq (sAsg (bindName 12) (mBin addA (mVar 12) (mLst (iCons (mBin addA (mBin addA (mSlice sliceV (mVar 10) oNone (oSome (mVar 11))) (mTup (iCons (mBin itemV (mLst (iCons (mLit (.bl true)) (iCons (mLit .non) (iCons (mLit (.str "0")) iNil)))) (mCall 8 (aIo 1 (aVal (mLit (.int 3)) aNil)))) iNil))) (mSlice sliceV (mVar 10) (oSome (mBin addA (mVar 11) (mLit (.int 1)))) oNone)) (iCons (mBin addA (mVar 10) (mTup (iCons (mBin itemV (mVar 2) (mLit (.int 0))) iNil))) iNil))))) (sRet (mBin eqV (mCall 185 (aVal (mVar 5) (aVal (mBin itemV (mVar 3) (mLit (.int 0))) (aVal (mBin itemV (mVar 3) (mLit (.int 1))) (aVal (mBin itemV (mVar 12) (mCall 8 (aIo 1 (aVal (mLit (.int 9)) aNil)))) (aVal (mLit (.int 0)) aNil)))))) (mLit (.str "order"))))))))))))))))))))))
def d_law_k20 : Def := { nslots := 18, io := [false], fresh := false, body := b_law_k20 }
abbrev k_cut_up : Nat := 189
-- 0 field, 1 order, 2 found, 3 sender
def b_cut_up : S := (sSeq (sAsg (bindName 2) (mLst iNil)) (sSeq (sFor (wSeq (mVar 1)) (bindName 3) (sIf (mAnd (mBinS neV 2 (mLst iNil)) (mBin notinV (mBin itemV (mBinS itemV 2 (mUn negV (mLit (.int 1)))) (mUn negV (mLit (.int 1)))) (mBin itemV (mUn (fldV "near") (mVar 0)) (mVar 3)))) (sSet 2 (mUn negV (mLit (.int 1))) (mTup (iStar (mBinS itemV 2 (mUn negV (mLit (.int 1)))) (iCons (mVar 3) iNil)))) (sApp 2 (mTup (iCons (mVar 3) iNil))))) (sRet (mMv 2))))
def d_cut_up : Def := { nslots := 4, io := [false, false], fresh := false, body := b_cut_up }
abbrev k_fewest_rows : Nat := 191
-- 0 field
def b_fewest_rows : S := (sSeq (sExpr (mCall 75 (aVal (mVar 0) aNil))) (sRet (mCallB (op1 lenV) (iCons (mCall 190 (aVal (mVar 0) aNil)) iNil))))
def d_fewest_rows : Def := { nslots := 1, io := [false], fresh := false, body := b_fewest_rows }
abbrev k_cover : Nat := 192
-- 0 field
def b_cover : S := (sSeq (sExpr (mCall 75 (aVal (mVar 0) aNil))) (sRet (mCall 190 (aVal (mVar 0) aNil))))
def d_cover : Def := { nslots := 1, io := [false], fresh := true, body := b_cover }
abbrev k_l_is_cover : Nat := 194
-- 0 _law_f, 1 _law_value, 2 _law_every, 3 _law_one, 4 _law_k
def b_l_is_cover : S := (sSeq (sIf (mNot (mUn (isiV "list") (mVar 1))) (sRet (mLit (.bl false))) sPass) (sSeq (sAsg (bindName 2) (mLst iNil)) (sSeq (sFor (wSeq (mVar 1)) (bindName 3) (sSeq (sIf (mOr (mNot (mUn (isiV "tuple") (mVar 3))) (mBin eqV (mVar 3) (mTup iNil))) (sRet (mLit (.bl false))) sPass) (sSeq (sIf (mBin neV (mLc [4] (wSeq (mVar 3)) (bindName 4) (mOr (mNot (mUn (isiV "int") (mVar 4))) (mUn (isiV "bool") (mVar 4))) (mVar 4)) (mLst iNil)) (sRet (mLit (.bl false))) sPass) (sSeq (sFor (wRng1 (mBin subV (mCallB (op1 lenV) (iCons (mVar 3) iNil)) (mLit (.int 1)))) (bindName 4) (sIf (mBin inV (mCallB (op1 tupleV) (iCons (mCallB (op1 sortV) (iCons (mLst (iCons (mBin itemV (mVar 3) (mVar 4)) (iCons (mBin itemV (mVar 3) (mBin addA (mVar 4) (mLit (.int 1)))) iNil))) iNil)) iNil)) (mBin itemV (mVar 0) (mLit (.int 1)))) (sRet (mLit (.bl false))) sPass)) (sAsg (bindName 2) (mBin addA (mVar 2) (mCallB (op1 listV) (iCons (mVar 3) iNil)))))))) (sRet (mBin eqV (mCallB (op1 sortV) (iCons (mVar 2) iNil)) (mLstRg (mBin itemV (mVar 0) (mLit (.int 0)))))))))
def d_l_is_cover : Def := { nslots := 5, io := [false, false], fresh := false, body := b_l_is_cover }
abbrev k_l_wrong_k21 : Nat := 196
-- 0 _law_field_here, 1 _law_which, 2 _law_told_there, 3 e
def b_l_wrong_k21 : S := (sSeq (sAsg (bindName 2) (mLit .non)) (sSeq (sTry (sIf (mBin eqV (mVar 1) (mLit (.int 0))) (sAsg (bindName 2) (mCall 191 (aVal (mVar 0) aNil))) (sAsg (bindName 2) (mIf (mBin eqV (mVar 1) (mLit (.int 1))) (mCall 192 (aVal (mVar 0) aNil)) (mCall 193 (aVal (mVar 0) (aVal (mLst iNil) aNil)))))) [(catch_TooWide, 3, (fun _ => some (Val.str "wide")))] 2) (sRet (mVar 2))))
def d_l_wrong_k21 : Def := { nslots := 4, io := [false, false], fresh := false, body := b_l_wrong_k21 }
abbrev k_law_k21 : Nat := 197
-- 0 _law_script, 1 _law_draws_here, 2 _law_f, 3 _law_field_here, 4 _law_due, 5 _law_found, 6 _law_spot, 7 _law_bad, 8 _law_some, 9 _law_value, 10 _law_k
def b_law_k21 : S := (sSeq (sAsg (bindName 1) (mCall 7 (aVal (mVar 0) aNil))) (sSeq (sAsg (bindName 2) (mCall 9 (aIo 1 (aVal (mLit (.int 6)) aNil)))) (sSeq (sPar2 3 4 (mCall 23 (aVal (mVar 2) aNil)) (mCall 195 (aVal (mVar 2) aNil))) (sSeq (sAsg (bindName 5) (mCall 192 (aVal (mVar 3) aNil))) (sSeq (sIf (mOr (mBin neV (mCall 191 (aVal (mVar 3) aNil)) (mVar 4)) (mBin neV (mCallB (op1 lenV) (iCons (mVar 5) iNil)) (mVar 4))) (sRet (mLit (.bl false))) sPass) (sSeq (sIf (mOr (mNot (mCall 194 (aVal (mVar 2) (aVal (mVar 5) aNil)))) (mNot (mCall 193 (aVal (mVar 3) (aVal (mVar 5) aNil))))) (sRet (mLit (.bl false))) sPass) (sSeq (sAsg (bindName 6) (mCall 8 (aIo 1 (aVal (mCallB (op1 lenV) (iCons (mVar 5) iNil)) aNil)))) (sSeq (sAsg (bindName 7) (mLst (iCons (mBin addA (mBin itemV (mVar 5) (mVar 6)) (mTup (iCons (mLit (.int 0)) iNil))) (iCons (mTup iNil) (iCons (mLit .non) (iCons (mCallB (op1 listV) (iCons (mBin itemV (mVar 5) (mVar 6)) iNil)) (iCons (mUn revV (mBin itemV (mVar 5) (mVar 6))) (iCons (mTup (iCons (mLit (.bl true)) iNil)) (iCons (mTup (iCons (mBin itemV (mVar 2) (mLit (.int 0))) iNil)) (iCons (mTup (iCons (mUn negV (mLit (.int 1))) iNil)) iNil)))))))))) (sSeq (sAsg (bindName 7) (mBin itemV (mBin addA (mVar 7) (mLst (iCons (mTup (iCons (mLst (iCons (mLit (.int 0)) iNil)) iNil)) (iCons (mTup (iCons (mLit (.int 0)) (iCons (mLit (.dct [])) iNil))) iNil)))) (mCall 8 (aIo 1 (aVal (mLit (.int 10)) aNil))))) (sSeq (sAsg (bindName 8) (mLst (iCons (mBin addA (mBin addA (mSlice sliceV (mVar 5) oNone (oSome (mVar 6))) (mLst (iCons (mVar 7) iNil))) (mSlice sliceV (mVar 5) (oSome (mBin addA (mVar 6) (mLit (.int 1)))) oNone)) (iCons (mBin addA (mSlice sliceV (mVar 5) oNone (oSome (mVar 6))) (mSlice sliceV (mVar 5) (oSome (mBin addA (mVar 6) (mLit (.int 1)))) oNone)) (iCons (mCallB (op1 tupleV) (iCons (mVar 5) iNil)) iNil))))) (sSeq (sApp 8 (mBin addA (mVar 5) (mLst (iCons (mTup (iCons (mLit (.int 0)) iNil)) iNil)))) (sSeq (sAsg (bindName 8) (mBinS catV 8 (mLst (iCons (mUn revV (mVar 5)) (iCons (mLst (iCons (mTupRg (mBin itemV (mVar 2) (mLit (.int 0)))) iNil)) (iCons (mLc [10] (wRng1 (mBin itemV (mVar 2) (mLit (.int 0)))) (bindName 10) (mLit (.bl true)) (mTup (iCons (mVar 10) iNil))) (iCons (mLit .non) (iCons (mLit (.str "x")) (iCons (mLst iNil) (iCons (mLit (.int 5)) iNil)))))))))) (sSeq (sFor (wSeq (mLst (iCons (mBinS itemV 8 (mCall 8 (aIo 1 (aVal (mLit (.int 11)) aNil)))) (iCons (mBinS itemV 8 (mLit (.int 0))) iNil)))) (bindName 9) (sIf (mBin neV (mCall 193 (aVal (mVar 3) (aVal (mVar 9) aNil))) (mCall 194 (aVal (mVar 2) (aVal (mVar 9) aNil)))) (sRet (mLit (.bl false))) sPass)) (sRet (mBin eqV (mCall 196 (aVal (mCall 93 aNil) (aVal (mCall 8 (aIo 1 (aVal (mLit (.int 3)) aNil))) aNil))) (mLit (.str "wide")))))))))))))))))
def d_law_k21 : Def := { nslots := 11, io := [false], fresh := false, body := b_law_k21 }
abbrev k_is_close_of : Nat := 198
-- 0 field
def b_is_close_of : S := (sRet (mBin eqV (mBin addA (mCallB (op1 lenV) (iCons (mUn (fldV "rows") (mVar 0)) iNil)) (mCallB (op1 lenV) (iCons (mCall 17 (aVal (mVar 0) aNil)) iNil))) (mBin fdivV (mBin mulA (mUn (fldV "many") (mVar 0)) (mBin subV (mUn (fldV "many") (mVar 0)) (mLit (.int 1)))) (mLit (.int 2)))))
def d_is_close_of : Def := { nslots := 1, io := [false], fresh := false, body := b_is_close_of }
abbrev k_is_close : Nat := 199
-- 0 field
def b_is_close : S := (sRet (mCall 198 (aVal (mVar 0) aNil)))
def d_is_close : Def := { nslots := 1, io := [false], fresh := false, body := b_is_close }
abbrev k_row_channels : Nat := 200
-- 0 field, 1 told, 2 channel, 3 row, 4 sender
def b_row_channels : S := (sSeq (sExpr (mCall 75 (aVal (mVar 0) aNil))) (sSeq (sIf (mNot (mCall 198 (aVal (mVar 0) aNil))) (sRaise "NotClose" []) sPass) (sSeq (sPar2 1 2 (mLit (.dct [])) (mLit (.int 0))) (sSeq (sFor (wSeq (mCall 190 (aVal (mVar 0) aNil))) (bindName 3) (sSeq (sFor (wSeq (mVar 3)) (bindName 4) (sSeq (sSet 1 (mVar 4) (mVar 2)) (sAug addI 2 (mLit (.int 1))))) (sAug addI 2 (mLit (.int 1))))) (sRet (mCallB (op1 tupleV) (iCons (mLc [4] (wRng1 (mUn (fldV "many") (mVar 0))) (bindName 4) (mLit (.bl true)) (mBinS itemV 1 (mVar 4))) iNil)))))))
def d_row_channels : Def := { nslots := 5, io := [false], fresh := false, body := b_row_channels }
abbrev k_l_wrong_k22 : Nat := 201
-- 0 _law_field_here, 1 _law_told_there, 2 e
def b_l_wrong_k22 : S := (sSeq (sAsg (bindName 1) (mLit .non)) (sSeq (sTry (sAsg (bindName 1) (mCall 200 (aVal (mVar 0) aNil))) [(catch_TooWide, 2, (fun _ => some (Val.str "wide"))), (catch_NotClose, 2, (fun _ => some (Val.str "close")))] 1) (sRet (mVar 1))))
def d_l_wrong_k22 : Def := { nslots := 3, io := [false], fresh := false, body := b_l_wrong_k22 }
abbrev k_law_k22 : Nat := 202
-- 0 _law_script, 1 _law_draws_here, 2 _law_turn, 3 _law_f, 4 _law_ties, 5 _law_field_here, 6 _law_does, 7 _law_some, 8 _law_k, 9 _law_tie
def b_law_k22 : S := (sSeq (sAsg (bindName 1) (mCall 7 (aVal (mVar 0) aNil))) (sSeq (sFor (wRng1 (mLit (.int 3))) (bindName 2) (sSeq (sAsg (bindName 3) (mCall 9 (aIo 1 (aVal (mLit (.int 6)) aNil)))) (sSeq (sIf (mBin eqV (mCall 8 (aIo 1 (aVal (mLit (.int 2)) aNil))) (mLit (.int 0))) (sSeq (sAsg (bindName 4) (mBin addA (mLc [8] (wRng2 (mLit (.int 1)) (mBin itemV (mVar 3) (mLit (.int 0)))) (bindName 8) (mLit (.bl true)) (mTup (iCons (mLit (.int 0)) (iCons (mVar 8) iNil)))) (mLc [9] (wSeq (mBin itemV (mVar 3) (mLit (.int 1)))) (bindName 9) (mBin gtV (mBin itemV (mVar 9) (mLit (.int 0))) (mLit (.int 0))) (mVar 9)))) (sAsg (bindName 3) (mTup (iCons (mBin itemV (mVar 3) (mLit (.int 0))) (iCons (mCallB (op1 tupleV) (iCons (mCallB (op1 sortV) (iCons (mVar 4) iNil)) iNil)) iNil))))) sPass) (sSeq (sAsg (bindName 5) (mCall 23 (aVal (mVar 3) aNil))) (sSeq (sAsg (bindName 6) (mBin eqV (mBin addA (mCallB (op1 lenV) (iCons (mBin itemV (mVar 3) (mLit (.int 1))) iNil)) (mCallB (op1 lenV) (iCons (mCall 25 (aVal (mVar 3) aNil)) iNil))) (mBin fdivV (mBin mulA (mBin itemV (mVar 3) (mLit (.int 0))) (mBin subV (mBin itemV (mVar 3) (mLit (.int 0))) (mLit (.int 1)))) (mLit (.int 2))))) (sSeq (sIf (mBin neV (mCall 199 (aVal (mVar 5) aNil)) (mVar 6)) (sRet (mLit (.bl false))) sPass) (sIf (mNot (mVar 6)) (sIf (mBin neV (mCall 201 (aVal (mVar 5) aNil)) (mLit (.str "close"))) (sRet (mLit (.bl false))) sPass) (sSeq (sAsg (bindName 7) (mCall 200 (aVal (mVar 5) aNil))) (sSeq (sIf (mOr (mNot (mUn (isiV "tuple") (mVar 7))) (mOr (mBin neV (mCallB (op1 lenV) (iCons (mVar 7) iNil)) (mBin itemV (mVar 3) (mLit (.int 0)))) (mBin isnotV (mCall 32 (aVal (mVar 5) (aVal (mVar 7) (aVal (mLit (.int 2)) (aVal (mLit (.int 1)) aNil))))) (mLit .non)))) (sRet (mLit (.bl false))) sPass) (sIf (mOr (mBin neV (mCallB (op1 maxV) (iCons (mVar 7) iNil)) (mBin subV (mBin addA (mBin itemV (mVar 3) (mLit (.int 0))) (mCall 191 (aVal (mVar 5) aNil))) (mLit (.int 2)))) (mBin neV (mCallB (op1 maxV) (iCons (mVar 7) iNil)) (mCall 91 (aVal (mVar 3) (aVal (mLit (.int 2)) (aVal (mLit (.int 1)) aNil)))))) (sRet (mLit (.bl false))) sPass)))))))))) (sRet (mBin eqV (mCall 201 (aVal (mCall 93 aNil) aNil)) (mLit (.str "wide"))))))
def d_law_k22 : Def := { nslots := 10, io := [false], fresh := false, body := b_law_k22 }
abbrev k_l_star : Nat := 206
-- 0 _law_leaves, 1 _law_most, 2 _law_field, 3 _law_ends_there, 4 _law_every, 5 _law_one, 6 _law_due, 7 _law_value, 8 _law_other
def b_l_star : S := (sSeq (sAsg (bindTup [(bindName 2), (bindName 3)]) (mTup (iCons (mCall 118 (aVal (mVar 0) aNil)) (iCons (mTup (iCons (mLit (.int 0)) (iCons (mVar 1) iNil))) iNil)))) (sSeq (sAsg (bindName 4) (mLst iNil)) (sSeq (sFor (wRng1 (mBin addA (mVar 1) (mLit (.int 1)))) (bindName 5) (sAsg (bindName 4) (mBin addA (mVar 4) (mLc [8] (wRng1 (mBin addA (mVar 1) (mLit (.int 1)))) (bindName 8) (mBin gtV (mCallB (op1 absV) (iCons (mBin subV (mVar 5) (mVar 8)) iNil)) (mLit (.int 1))) (mTup (iCons (mVar 5) (iCons (mVar 8) iNil))))))) (sSeq (sAsg (bindName 6) (mLc [5] (wRng1 (mBin addA (mVar 1) (mLit (.int 1)))) (bindName 5) (mBin geV (mBin addA (mBin subV (mVar 1) (mLit (.int 2))) (mCallB (op1 intV) (iCons (mBin inV (mVar 5) (mVar 3)) iNil))) (mVar 0)) (mVar 5))) (sSeq (sIf (mOr (mBin neV (mCall 45 (aVal (mVar 2) (aVal (mVar 1) aNil))) (mTup (iCons (mVar 6) (iCons (mBin mulA (mLst (iCons (mVar 4) iNil)) (mVar 0)) iNil)))) (mBin neV (mCall 55 (aVal (mVar 2) aNil)) (mBin addA (mVar 0) (mLit (.int 1))))) (sRet (mLit (.bl false))) sPass) (sSeq (sAsg (bindName 7) (mCall 58 (aVal (mVar 2) (aVal (mVar 1) aNil)))) (sRet (mAnd (mBin eqV (mBin itemV (mVar 7) (mLit (.int 0))) (mBin itemV (mLst (iCons (mLit (.str "pairs")) (iCons (mLit (.str "channels")) iNil))) (mCallB (op1 intV) (iCons (mBin neV (mVar 6) (mLst iNil)) iNil)))) (mCall 63 (aVal (mVar 2) (aVal (mVar 1) (aVal (mVar 7) aNil))))))))))))
def d_l_star : Def := { nslots := 9, io := [false, false], fresh := false, body := b_l_star }
abbrev k_l_seen_apart : Nat := 208
-- 0 _law_many, 1 _law_ties, 2 _law_found, 3 _law_one, 4 _law_other, 5 _law_mine, 6 _law_both, 7 _law_k
def b_l_seen_apart : S := (sSeq (sAsg (bindName 2) (mLst iNil)) (sSeq (sFor (wRng1 (mVar 0)) (bindName 3) (sFor (wRng2 (mBin addA (mVar 3) (mLit (.int 1))) (mVar 0)) (bindName 4) (sSeq (sAsg (bindName 5) (mLc [7] (wRng1 (mVar 0)) (bindName 7) (mBin inV (mTup (iCons (mCallB min2V (iCons (mVar 3) (iCons (mVar 7) iNil))) (iCons (mCallB max2V (iCons (mVar 3) (iCons (mVar 7) iNil))) iNil))) (mVar 1)) (mVar 7))) (sSeq (sAsg (bindName 6) (mLc [7] (wSeq (mVar 5)) (bindName 7) (mBin inV (mTup (iCons (mCallB min2V (iCons (mVar 4) (iCons (mVar 7) iNil))) (iCons (mCallB max2V (iCons (mVar 4) (iCons (mVar 7) iNil))) iNil))) (mVar 1)) (mVar 7))) (sIf (mAnd (mBin notinV (mTup (iCons (mVar 3) (iCons (mVar 4) iNil))) (mVar 1)) (mBin neV (mVar 6) (mLst iNil))) (sApp 2 (mTup (iCons (mVar 3) (iCons (mVar 4) iNil)))) sPass))))) (sRet (mMv 2))))
def d_l_seen_apart : Def := { nslots := 8, io := [false, false], fresh := false, body := b_l_seen_apart }
def GTL : List (Nat × Def) := [(0, d_BadTies_init), (1, d_is_from), (2, d_is_tie), (3, d_Field_init), (4, d_Field_senders), (5, d_Field_ties), (6, d_Field_eq), (7, d_l_draws), (8, d_l_pick), (9, d_l_field), (10, d_l_tree), (11, d_l_told_there), (12, d_l_is_whole), (13, d_l_due), (15, d_neighbours_of), (16, d_seconds_of), (17, d_seconds), (18, d_degree_of), (19, d_degree), (20, d_reached_from), (21, d_is_a_tree), (22, d_is_tree), (23, d_l_made), (24, d_l_near), (25, d_l_seconds), (26, d_l_parents), (27, d_law_k02), (28, d_check_apart), (29, d_are_channels), (30, d_check_channels), (31, d_clash_of), (32, d_first_clash), (33, d_l_odd_apart), (34, d_l_wrong), (35, d_law_k03), (36, d_check_tree), (37, d_check_most), (38, d_parents_of), (39, d_children_of), (40, d_give), (42, d_rooms_of), (43, d_pairs_of), (45, d_table), (46, d_check_many), (47, d_ring), (48, d_l_odd_most), (52, d_l_wrong_k04), (53, d_law_k04), (54, d_least_of), (55, d_least_tree), (56, d_laid), (57, d_tree_channels), (58, d_paper), (59, d_is_pair), (60, d_are_pairs), (61, d_is_barred), (63, d_shows), (64, d_l_suits), (65, d_l_rows), (66, d_l_least), (67, d_l_bars), (68, d_law_k05), (69, d_l_is_row), (70, d_l_are_pairs), (71, d_l_shows), (72, d_l_wrong_k06), (73, d_l_spoilt), (74, d_law_k06), (75, d_check_few), (76, d_check_small), (77, d_check_all), (78, d_bars_of), (79, d_can_have), (80, d_choices_of), (81, d_first_row), (82, d_no_told), (83, d_least_few), (84, d_least), (85, d_channels), (86, d_rows_of), (87, d_all_best), (89, d_fewest_holes), (90, d_l_rows_k07), (91, d_l_least_k07), (92, d_l_apart), (93, d_l_wide), (94, d_l_wrong_k07), (95, d_law_k07), (96, d_are_told), (97, d_check_told), (98, d_kept), (99, d_open_channels), (100, d_l_wrong_k08), (101, d_law_k08), (102, d_weight_of), (103, d_lighter), (104, d_lightest), (105, d_l_told_there_k09), (106, d_law_k09), (107, d_round_gap), (108, d_pairs_of_k10), (109, d_row_on), (110, d_check_size), (111, d_dial_channels), (112, d_least_dial), (113, d_is_dialled), (114, d_l_on), (115, d_l_wrong_k10), (116, d_law_k10), (117, d_row), (118, d_star), (119, d_row_need), (121, d_star_need), (122, d_l_told_there_k11), (124, d_sets_of), (125, d_nearest), (126, d_Desk_init), (127, d_Desk_field), (128, d_Desk_now), (133, d_Desk_copy), (134, d_Desk_len), (136, d_l_begun), (137, d_l_behind), (138, d_l_step), (142, d_BadLine_init), (144, d_number_in), (145, d_check_head), (146, d_check_end), (147, d_tie_in), (150, d_l_words), (151, d_l_fault), (153, d_l_told_there_k14), (156, d_l_apart_k15), (157, d_law_k15), (158, d_l_full), (159, d_l_legs), (160, d_l_twins), (161, d_l_alone), (162, d_law_k16), (164, d_Desk_add_k17), (165, d_Desk_undo_k17), (166, d_Desk_copy_k17), (169, d_Desk_now_k18), (170, d_Desk_join_k18), (171, d_Desk_undo_k18), (172, d_Desk_copy_k18), (179, d_given_by), (180, d_by_order), (182, d_greatest_of), (183, d_best_order), (184, d_worst_order), (185, d_l_wrong_k20), (187, d_l_orders), (188, d_law_k20), (189, d_cut_up), (191, d_fewest_rows), (192, d_cover), (194, d_l_is_cover), (196, d_l_wrong_k21), (197, d_law_k21), (198, d_is_close_of), (199, d_is_close), (200, d_row_channels), (201, d_l_wrong_k22), (202, d_law_k22), (206, d_l_star), (208, d_l_seen_apart)]
def GT : Table := fun k => (GTL.find? fun p => p.1 == k).map (·.2)
end T0
end
section
set_option Elab.async false
set_option linter.all false
set_option maxRecDepth 100000
set_option maxHeartbeats 4000000
set_option autoImplicit false
namespace T0
open PySem PySem.Spec L2 CG
abbrev top (j : Nat) : Stmt := PySem.Challenge.pw_channelgaps_k02_shapes_of_fields.main.body.getD j (.Pass ⟨0, 0, 0, 0⟩)
abbrev s_BadTies_init : Stmt := inClass (top 3) 0
abbrev sc_BadTies_init : Sc := { N := ["self", "index"], kd := [.io, .imm], names := (defScope s_BadTies_init).names }
abbrev s_is_from : Stmt := top 7
abbrev sc_is_from : Sc := { N := ["value", "low", "high"], kd := [.imm, .imm, .imm], names := (defScope s_is_from).names }
abbrev s_is_tie : Stmt := top 8
abbrev sc_is_tie : Sc := { N := ["senders", "value", "one"], kd := [.imm, .imm, .imm], names := (defScope s_is_tie).names }
abbrev s_Field_init : Stmt := inClass (top 9) 0
abbrev sc_Field_init : Sc := { N := ["self", "senders", "ties", "index", "tie", "one", "other", "sender"], kd := [.io, .imm, .imm, .imm, .imm, .imm, .imm, .imm], names := (defScope s_Field_init).names }
abbrev s_Field_senders : Stmt := inClass (top 9) 1
abbrev sc_Field_senders : Sc := { N := ["self"], kd := [.imm], names := (defScope s_Field_senders).names }
abbrev s_Field_ties : Stmt := inClass (top 9) 2
abbrev sc_Field_ties : Sc := { N := ["self"], kd := [.imm], names := (defScope s_Field_ties).names }
abbrev s_Field_eq : Stmt := inClass (top 9) 3
abbrev sc_Field_eq : Sc := { N := ["self", "other"], kd := [.imm, .imm], names := (defScope s_Field_eq).names }
abbrev s_neighbours_of : Stmt := top 10
abbrev sc_neighbours_of : Sc := { N := ["field", "sender"], kd := [.imm, .imm], names := (defScope s_neighbours_of).names }
abbrev s_seconds_of : Stmt := top 11
abbrev sc_seconds_of : Sc := { N := ["field", "sender", "near", "found", "one", "other"], kd := [.imm, .imm, .imm, .imm, .imm, .imm], names := (defScope s_seconds_of).names }
abbrev s_seconds : Stmt := top 12
abbrev sc_seconds : Sc := { N := ["field", "one", "other"], kd := [.imm, .imm, .imm], names := (defScope s_seconds).names }
abbrev s_degree_of : Stmt := top 13
abbrev sc_degree_of : Sc := { N := ["field", "near"], kd := [.imm, .imm], names := (defScope s_degree_of).names }
abbrev s_degree : Stmt := top 14
abbrev sc_degree : Sc := { N := ["field"], kd := [.imm], names := (defScope s_degree).names }
abbrev s_reached_from : Stmt := top 15
abbrev sc_reached_from : Sc := { N := ["field", "sender", "found", "one", "other"], kd := [.imm, .imm, .loc, .imm, .imm], names := (defScope s_reached_from).names }
abbrev s_is_a_tree : Stmt := top 16
abbrev sc_is_a_tree : Sc := { N := ["field"], kd := [.imm], names := (defScope s_is_a_tree).names }
abbrev s_is_tree : Stmt := top 17
abbrev sc_is_tree : Sc := { N := ["field"], kd := [.imm], names := (defScope s_is_tree).names }
abbrev s_l_draws : Stmt := top 19
abbrev sc_l_draws : Sc := { N := ["_law_script"], kd := [.imm], names := (defScope s_l_draws).names }
abbrev s_l_pick : Stmt := top 20
abbrev sc_l_pick : Sc := { N := ["_law_draws_here", "_law_many", "_law_cell", "_law_found"], kd := [.io, .imm, .imm, .imm], names := (defScope s_l_pick).names }
abbrev s_l_field : Stmt := top 21
abbrev sc_l_field : Sc := { N := ["_law_draws_here", "_law_most", "_law_many", "_law_ties", "_law_thick", "_law_one", "_law_other"], kd := [.io, .imm, .imm, .imm, .imm, .imm, .imm], names := (defScope s_l_field).names }
abbrev s_l_tree : Stmt := top 22
abbrev sc_l_tree : Sc := { N := ["_law_draws_here", "_law_most", "_law_many", "_law_sort", "_law_names", "_law_ties", "_law_k", "_law_at", "_law_low", "_law_other"], kd := [.io, .imm, .imm, .imm, .imm, .loc, .imm, .imm, .imm, .imm], names := (defScope s_l_tree).names }
abbrev s_l_made : Stmt := top 23
abbrev sc_l_made : Sc := { N := ["_law_f"], kd := [.imm], names := (defScope s_l_made).names }
abbrev s_l_near : Stmt := top 24
abbrev sc_l_near : Sc := { N := ["_law_f", "_law_sender", "_law_found", "_law_one", "_law_other"], kd := [.imm, .imm, .loc, .imm, .imm], names := (defScope s_l_near).names }
abbrev s_l_seconds : Stmt := top 25
abbrev sc_l_seconds : Sc := { N := ["_law_f", "_law_near_here", "_law_found", "_law_one", "_law_other", "_law_sender", "_law_k"], kd := [.imm, .imm, .loc, .imm, .imm, .imm, .imm], names := (defScope s_l_seconds).names }
abbrev s_l_parents : Stmt := top 26
abbrev sc_l_parents : Sc := { N := ["_law_f", "_law_found", "_law_layer", "_law_later", "_law_sender", "_law_other"], kd := [.imm, .loc, .imm, .loc, .imm, .imm], names := (defScope s_l_parents).names }
abbrev s_law_k02 : Stmt := top 27
abbrev sc_law_k02 : Sc := { N := ["_law_script", "_law_draws_here", "_law_turn", "_law_f", "_law_at", "_law_one", "_law_other", "_law_ties", "_law_field_here", "_law_due", "_law_sender"], kd := [.imm, .loc, .imm, .imm, .imm, .imm, .imm, .loc, .imm, .imm, .imm], names := (defScope s_law_k02).names }
structure Txt (Γ : GX) : Prop where
  a_is_from : ∃ l, At Γ "is_from" 1 d_is_from l
  a_is_tie : ∃ l, At Γ "is_tie" 2 d_is_tie l
  a_neighbours_of : ∃ l, At Γ "neighbours_of" 15 d_neighbours_of l
  a_seconds_of : ∃ l, At Γ "seconds_of" 16 d_seconds_of l
  a_degree_of : ∃ l, At Γ "degree_of" 18 d_degree_of l
  a_reached_from : ∃ l, At Γ "reached_from" 20 d_reached_from l
  a_is_a_tree : ∃ l, At Γ "is_a_tree" 21 d_is_a_tree l
  a_law_pick : ∃ l, At Γ "_law_pick" 8 d_l_pick l
  a_law_near : ∃ l, At Γ "_law_near" 24 d_l_near l
  a_law_tree : ∃ l, At Γ "_law_tree" 10 d_l_tree l
  a_law_made : ∃ l, At Γ "_law_made" 23 d_l_made l
  a_is_tree : ∃ l, At Γ "is_tree" 22 d_is_tree l
  a_law_parents : ∃ l, At Γ "_law_parents" 26 d_l_parents l
  a_seconds : ∃ l, At Γ "seconds" 17 d_seconds l
  a_law_seconds : ∃ l, At Γ "_law_seconds" 25 d_l_seconds l
  a_degree : ∃ l, At Γ "degree" 19 d_degree l
  a_law_draws : ∃ l, At Γ "_law_draws" 7 d_l_draws l
  a_law_field : ∃ l, At Γ "_law_field" 9 d_l_field l
  g_MOST_SENDERS : ∃ u w, Γ.mg "MOST_SENDERS" = some u ∧ RelV w u ∧ ∀ F, VR Γ.K Γ.C F (.int 40) w
  g_MOST_TIES : ∃ u w, Γ.mg "MOST_TIES" = some u ∧ RelV w u ∧ ∀ F, VR Γ.K Γ.C F (.int 60) w
  fld_index : FldOk Γ "index"
  fld_many : FldOk Γ "many"
  fld_near : FldOk Γ "near"
  fld_rows : FldOk Γ "rows"
  new_Field : ∃ l, NewOk Γ "Field" "Field" 3 d_Field_init l
  isi_Field : IsiOk Γ "Field" "Field"
  exc_BadSenders : ExcOk Γ "BadSenders"
  exc_BadTies : ExcOk1 Γ "BadTies" "index"
section
variable {Γ : GX} {sc : Sc}
theorem v_BadTies_init (T : Txt Γ) : SSs Γ sc_BadTies_init false (defBody s_BadTies_init) b_BadTies_init := by
  exact (sss_one (ss_fld (slotN_by (i := 0) (x := "self") rfl (.inl rfl) (by decide)) T.fld_index (sv_var (i := 1) rfl (.inl rfl) rfl)))
theorem v_is_from (T : Txt Γ) : SSs Γ sc_is_from false (defBody s_is_from) b_is_from := by
  exact (sss_one (ss_ret (sv_and (sv_isi (T := "int") (by decide) (blN_by (x := "isinstance") rfl) (blN_by (x := "int") rfl) (sv_var (i := 0) rfl (.inl rfl) rfl)) (sv_and (sv_not (sv_isi (T := "bool") (by decide) (blN_by (x := "isinstance") rfl) (blN_by (x := "bool") rfl) (sv_var (i := 0) rfl (.inl rfl) rfl))) (sv_one (sv_chain b2_le b2_le (sv_var (i := 1) rfl (.inl rfl) rfl) (sv_var (i := 0) rfl (.inl rfl) rfl) (sv_var (i := 2) rfl (.inl rfl) rfl)))))))
theorem v_is_tie (T : Txt Γ) : SSs Γ sc_is_tie false (defBody s_is_tie) b_is_tie := by
  obtain ⟨l_is_from, at_is_from⟩ := T.a_is_from
  exact (sss_cons (ss_if (SW.st (sw_or (st_not (st_val (sv_isi (T := "tuple") (by decide) (blN_by (x := "isinstance") rfl) (blN_by (x := "tuple") rfl) (sv_var (i := 1) rfl (.inl rfl) rfl)))) (sw_or (st_cmp b2_ne (sv_callB cn_len fvB (blN_by (x := "len") rfl) (slc (sv_var (i := 1) rfl (.inl rfl) rfl) sl_nil)) sv_int) (sw_or1 (st_not (st_val (sv_callB cn_all fvB (blN_by (x := "all") rfl) (slc (SF.sv (sf_lc (own := [("one", 2)]) (si_seq (sv_var (i := 1) rfl (.inl rfl) rfl)) rfl rfl rfl (sg_name (i := 2) ⟨rfl, (.inl rfl)⟩ rfl) sts_nil (sv_call at_is_from rfl (by decide) rfl rfl (sac (sv_var (i := 2) rfl (.inl rfl) rfl) (sac sv_int (sac (sv_bin b2_sub (sv_var (i := 0) rfl (.inr (.inr rfl)) rfl) sv_int) sa_nil)))))) sl_nil)))))))) (sss_one (ss_ret sv_bl)) sss_nil)
  (sss_one (ss_ret (sv_cmp b2_lt (sv_sub (sv_var (i := 1) rfl (.inl rfl) rfl) sv_int) (sv_sub (sv_var (i := 1) rfl (.inl rfl) rfl) sv_int)))))
theorem v_Field_init (T : Txt Γ) : SSs Γ sc_Field_init false (defBody s_Field_init) b_Field_init := by
  obtain ⟨l_is_from, at_is_from⟩ := T.a_is_from
  obtain ⟨l_is_tie, at_is_tie⟩ := T.a_is_tie
  exact (sss_cons (ss_if (st_not (st_val (sv_call at_is_from rfl (by decide) rfl rfl (sac (sv_var (i := 1) rfl (.inl rfl) rfl) (sac sv_int (sac (sv_glob rfl T.g_MOST_SENDERS) sa_nil)))))) (sss_one (ss_raise0 rfl T.exc_BadSenders)) sss_nil)
  (sss_cons (ss_if (SW.st (sw_or (st_not (st_val (sv_isi (T := "tuple") (by decide) (blN_by (x := "isinstance") rfl) (blN_by (x := "tuple") rfl) (sv_var (i := 2) rfl (.inl rfl) rfl)))) (sw_or1 (st_cmp b2_gt (sv_callB cn_len fvB (blN_by (x := "len") rfl) (slc (sv_var (i := 2) rfl (.inl rfl) rfl) sl_nil)) (sv_glob rfl T.g_MOST_TIES))))) (sss_one (ss_raise1 rfl T.exc_BadTies sv_non)) sss_nil)
  (sss_cons (ss_for (si_enumA rfl (sv_var (i := 2) rfl (.inl rfl) rfl)) (sg_tup (sgs_cons (sg_name (i := 3) ⟨rfl, (.inl rfl)⟩ rfl) (sgs_cons (sg_name (i := 4) ⟨rfl, (.inl rfl)⟩ rfl) sgs_nil))) (sss_one (ss_if (SW.st (sw_or (st_not (st_val (sv_call at_is_tie rfl (by decide) rfl rfl (sac (sv_var (i := 1) rfl (.inl rfl) rfl) (sac (sv_var (i := 4) rfl (.inl rfl) rfl) sa_nil))))) (sw_or1 (SW.st (sw_and (st_cmp b2_gt (sv_var (i := 3) rfl (.inl rfl) rfl) sv_int) (sw_and1 (st_cmp b2_le (sv_var (i := 4) rfl (.inl rfl) rfl) (sv_sub (sv_var (i := 2) rfl (.inl rfl) rfl) (sv_bin b2_sub (sv_var (i := 3) rfl (.inl rfl) rfl) sv_int))))))))) (sss_one (ss_raise1 rfl T.exc_BadTies (sv_var (i := 3) rfl (.inl rfl) rfl))) sss_nil)))
  (sss_cons (ss_fld (slotN_by (i := 0) (x := "self") rfl (.inl rfl) (by decide)) T.fld_many (sv_var (i := 1) rfl (.inl rfl) rfl))
  (sss_cons (ss_fld (slotN_by (i := 0) (x := "self") rfl (.inl rfl) (by decide)) T.fld_rows (sv_var (i := 2) rfl (.inl rfl) rfl))
  (sss_near (is := 0) (im := 1) (it_ := 2) (o1 := 5) (o2 := 6) (i0 := 7) (x0 := "sender") (slotN_by (i := 0) (x := "self") rfl (.inl rfl) (by decide)) rfl ⟨rfl, (.inl rfl)⟩ rfl ⟨rfl, (.inl rfl)⟩ rfl ⟨rfl, (.inl rfl)⟩ rfl ⟨rfl, (.inl rfl)⟩ rfl (by decide) ⟨rfl, (.inl rfl)⟩ ⟨rfl, (.inl rfl)⟩ ⟨by decide, by decide⟩ ⟨by decide, by decide⟩ ⟨by decide, by decide⟩ ⟨by decide, by decide⟩ rfl rfl ⟨rfl, .inl rfl⟩ T.fld_near rfl rfl))))))
theorem v_Field_senders (T : Txt Γ) : SSs Γ sc_Field_senders false (defBody s_Field_senders) b_Field_senders := by
  exact (sss_one (ss_ret (sv_fld T.fld_many (sv_var (i := 0) rfl (.inl rfl) rfl))))
theorem v_Field_ties (T : Txt Γ) : SSs Γ sc_Field_ties false (defBody s_Field_ties) b_Field_ties := by
  exact (sss_one (ss_ret (sv_fld T.fld_rows (sv_var (i := 0) rfl (.inl rfl) rfl))))
theorem v_Field_eq (T : Txt Γ) : SSs Γ sc_Field_eq false (defBody s_Field_eq) b_Field_eq := by
  exact (sss_one (ss_ret (sv_and (sv_isiO (blN_by (x := "isinstance") rfl) rfl T.isi_Field (sv_var (i := 1) rfl (.inl rfl) rfl)) (sv_and (sv_cmp b2_eq (sv_fld T.fld_many (sv_var (i := 0) rfl (.inl rfl) rfl)) (sv_fld T.fld_many (sv_var (i := 1) rfl (.inl rfl) rfl))) (sv_one (sv_cmp b2_eq (sv_fld T.fld_rows (sv_var (i := 0) rfl (.inl rfl) rfl)) (sv_fld T.fld_rows (sv_var (i := 1) rfl (.inl rfl) rfl))))))))
theorem v_neighbours_of (T : Txt Γ) : SSs Γ sc_neighbours_of false (defBody s_neighbours_of) b_neighbours_of := by
  exact (sss_one (ss_ret (SF.sv (sf_callB cnf_sorted sortV_lst fvB (blN_by (x := "sorted") rfl) (slc (sv_sub (sv_fld T.fld_near (sv_var (i := 0) rfl (.inl rfl) rfl)) (sv_var (i := 1) rfl (.inl rfl) rfl)) sl_nil)))))
theorem v_seconds_of (T : Txt Γ) : SSs Γ sc_seconds_of false (defBody s_seconds_of) b_seconds_of := by
  obtain ⟨l_neighbours_of, at_neighbours_of⟩ := T.a_neighbours_of
  exact (sss_cons (ss_set (i := 2) ⟨rfl, (.inr rfl)⟩ (.inl ⟨rfl, (sv_call at_neighbours_of rfl (by decide) rfl rfl (sac (sv_var (i := 0) rfl (.inr (.inl rfl)) rfl) (sac (sv_var (i := 1) rfl (.inr (.inl rfl)) rfl) sa_nil)))⟩))
  (sss_cons (ss_set (i := 3) ⟨rfl, (.inl rfl)⟩ (.inl ⟨rfl, (SF.sv (sf_callB cnf_sortD sortDV_lst fvB (blN_by (x := "sorted") rfl) (slc (SF.sv (sf_dc2 (own := [("one", 4), ("other", 5)]) (vs1 := [5]) (si_seq (sv_var (i := 2) rfl (.inr (.inl rfl)) rfl)) rfl rfl rfl rfl (by decide) (sg_name (i := 4) ⟨rfl, (.inl rfl)⟩ rfl) sts_nil (si_seq (sv_sub (sv_fld T.fld_near (sv_var (i := 0) rfl (.inr (.inr rfl)) rfl)) (sv_var (i := 4) rfl (.inl rfl) rfl))) (sg_name (i := 5) ⟨rfl, (.inl rfl)⟩ rfl) sts_nil (sv_var (i := 5) rfl (.inl rfl) rfl) sv_bl)) sl_nil)))⟩))
  (sss_one (ss_ret (SF.sv (sf_lc (own := [("other", 5)]) (si_seq (sv_var (i := 3) rfl (.inl rfl) rfl)) rfl rfl rfl (sg_name (i := 5) ⟨rfl, (.inl rfl)⟩ rfl) (sts_one (SW.st (sw_and (st_cmp b2_ne (sv_var (i := 5) rfl (.inl rfl) rfl) (sv_var (i := 1) rfl (.inr (.inr rfl)) rfl)) (sw_and1 (st_cmp b2_notin (sv_var (i := 5) rfl (.inl rfl) rfl) (sv_var (i := 2) rfl (.inr (.inr rfl)) rfl)))))) (sv_var (i := 5) rfl (.inl rfl) rfl)))))))
theorem v_seconds (T : Txt Γ) : SSs Γ sc_seconds false (defBody s_seconds) b_seconds := by
  obtain ⟨l_seconds_of, at_seconds_of⟩ := T.a_seconds_of
  exact (sss_one (ss_ret (SF.sv (sf_lc2 (own := [("one", 1), ("other", 2)]) (vs1 := [2]) (si_range1 rfl (sv_fld T.fld_many (sv_var (i := 0) rfl (.inr (.inl rfl)) rfl))) rfl rfl rfl rfl (by decide) (sg_name (i := 1) ⟨rfl, (.inl rfl)⟩ rfl) sts_nil (si_seq (sv_call at_seconds_of rfl (by decide) rfl rfl (sac (sv_var (i := 0) rfl (.inr (.inr rfl)) rfl) (sac (sv_var (i := 1) rfl (.inl rfl) rfl) sa_nil)))) (sg_name (i := 2) ⟨rfl, (.inl rfl)⟩ rfl) (sts_one (st_cmp b2_lt (sv_var (i := 1) rfl (.inl rfl) rfl) (sv_var (i := 2) rfl (.inl rfl) rfl))) (sv_tup (slc (sv_var (i := 1) rfl (.inl rfl) rfl) (slc (sv_var (i := 2) rfl (.inl rfl) rfl) sl_nil)))))))
theorem v_degree_of (T : Txt Γ) : SSs Γ sc_degree_of false (defBody s_degree_of) b_degree_of := by
  exact (sss_one (ss_ret (sv_callB cn_max fvB (blN_by (x := "max") rfl) (slc (SF.sv (sf_lc (own := [("near", 1)]) (si_seq (sv_fld T.fld_near (sv_var (i := 0) rfl (.inl rfl) rfl))) rfl rfl rfl (sg_name (i := 1) ⟨rfl, (.inl rfl)⟩ rfl) sts_nil (sv_callB cn_len fvB (blN_by (x := "len") rfl) (slc (sv_var (i := 1) rfl (.inl rfl) rfl) sl_nil)))) sl_nil))))
theorem v_degree (T : Txt Γ) : SSs Γ sc_degree false (defBody s_degree) b_degree := by
  obtain ⟨l_degree_of, at_degree_of⟩ := T.a_degree_of
  exact (sss_one (ss_ret (sv_call at_degree_of rfl (by decide) rfl rfl (sac (sv_var (i := 0) rfl (.inl rfl) rfl) sa_nil))))
theorem v_reached_from (T : Txt Γ) : SSs Γ sc_reached_from false (defBody s_reached_from) b_reached_from := by
  obtain ⟨l_neighbours_of, at_neighbours_of⟩ := T.a_neighbours_of
  exact (sss_cons (ss_set (i := 2) ⟨rfl, (.inl rfl)⟩ (.inr ⟨rfl, (sf_lst (slc (sv_var (i := 1) rfl (.inl rfl) rfl) sl_nil))⟩))
  (sss_cons (ss_for (si_range1 rfl (sv_fld T.fld_many (sv_var (i := 0) rfl (.inl rfl) rfl))) (sg_name (i := 3) ⟨rfl, (.inl rfl)⟩ rfl) (sss_one (ss_for (si_seq (sv_if (st_cmp b2_lt (sv_var (i := 3) rfl (.inl rfl) rfl) (sv_callBS cn_len fvB (blN_by (x := "len") rfl) (slotN_by (i := 2) (x := "found") rfl (.inl rfl) (by decide)))) (sv_call at_neighbours_of rfl (by decide) rfl rfl (sac (sv_var (i := 0) rfl (.inl rfl) rfl) (sac (sv_subS (slotN_by (i := 2) (x := "found") rfl (.inl rfl) (by decide)) (sv_var (i := 3) rfl (.inl rfl) rfl)) sa_nil))) (SF.sv (sf_lst sl_nil)))) (sg_name (i := 4) ⟨rfl, (.inl rfl)⟩ rfl) (sss_one (ss_if (st_cmpR b2_notin (sv_var (i := 4) rfl (.inl rfl) rfl) (slotN_by (i := 2) (x := "found") rfl (.inl rfl) (by decide))) (sss_one (ss_app (slotN_by (i := 2) (x := "found") rfl (.inl rfl) (by decide)) (sv_var (i := 4) rfl (.inl rfl) rfl))) sss_nil)))))
  (sss_one (ss_ret (SF.sv (sf_mv (i := 2) rfl (.inl rfl) rfl))))))
theorem v_is_a_tree (T : Txt Γ) : SSs Γ sc_is_a_tree false (defBody s_is_a_tree) b_is_a_tree := by
  obtain ⟨l_reached_from, at_reached_from⟩ := T.a_reached_from
  exact (sss_one (ss_ret (sv_and (sv_cmp b2_eq (sv_callB cn_len fvB (blN_by (x := "len") rfl) (slc (sv_fld T.fld_rows (sv_var (i := 0) rfl (.inl rfl) rfl)) sl_nil)) (sv_bin b2_sub (sv_fld T.fld_many (sv_var (i := 0) rfl (.inl rfl) rfl)) sv_int)) (sv_one (sv_cmp b2_eq (sv_callB cn_len fvB (blN_by (x := "len") rfl) (slc (sv_call at_reached_from rfl (by decide) rfl rfl (sac (sv_var (i := 0) rfl (.inl rfl) rfl) (sac sv_int sa_nil))) sl_nil)) (sv_fld T.fld_many (sv_var (i := 0) rfl (.inl rfl) rfl)))))))
theorem v_is_tree (T : Txt Γ) : SSs Γ sc_is_tree false (defBody s_is_tree) b_is_tree := by
  obtain ⟨l_is_a_tree, at_is_a_tree⟩ := T.a_is_a_tree
  exact (sss_one (ss_ret (sv_call at_is_a_tree rfl (by decide) rfl rfl (sac (sv_var (i := 0) rfl (.inl rfl) rfl) sa_nil))))
theorem v_l_draws (T : Txt Γ) : SSs Γ sc_l_draws true (defBody s_l_draws) b_l_draws := by
  exact (sss_one (ss_retF (sf_lst (slc (SF.sv (sf_callB cnf_list listV_lst fvT (blN_by (x := "list") rfl) (slc (sv_var (i := 0) rfl (.inl rfl) rfl) sl_nil))) (slc sv_int (slc sv_int (slc sv_int sl_nil)))))))
theorem v_l_pick (T : Txt Γ) : SSs Γ sc_l_pick false (defBody s_l_pick) b_l_pick := by
  exact (sss_cons (ss_if (st_cmp b2_eq (sv_subS (slotN_by (i := 0) (x := "_law_draws_here") rfl (.inl rfl) (by decide)) sv_int) sv_int) (sss_one (ss_if (st_cmp b2_lt (sv_subS (slotN_by (i := 0) (x := "_law_draws_here") rfl (.inl rfl) (by decide)) sv_int) (sv_callB cn_len fvB (blN_by (x := "len") rfl) (slc (sv_subS (slotN_by (i := 0) (x := "_law_draws_here") rfl (.inl rfl) (by decide)) sv_int) sl_nil))) (sss_cons (ss_set (i := 2) ⟨rfl, (.inl rfl)⟩ (.inl ⟨rfl, (sv_sub (sv_subS (slotN_by (i := 0) (x := "_law_draws_here") rfl (.inl rfl) (by decide)) sv_int) (sv_subS (slotN_by (i := 0) (x := "_law_draws_here") rfl (.inl rfl) (by decide)) sv_int))⟩))
  (sss_cons (ss_setI (slotN_by (i := 0) (x := "_law_draws_here") rfl (.inl rfl) (by decide)) sv_int (sv_bin b2_addA (sv_subS (slotN_by (i := 0) (x := "_law_draws_here") rfl (.inl rfl) (by decide)) sv_int) sv_int))
  (sss_one (ss_if (st_cmp b2_ge (sv_var (i := 2) rfl (.inl rfl) rfl) (sv_bin b2_pow sv_int sv_int)) (sss_one (ss_setI (slotN_by (i := 0) (x := "_law_draws_here") rfl (.inl rfl) (by decide)) sv_int (sv_var (i := 2) rfl (.inl rfl) rfl))) (sss_one (ss_setI (slotN_by (i := 0) (x := "_law_draws_here") rfl (.inl rfl) (by decide)) sv_int (sv_bin b2_mod (sv_callB cn_int fvT (blN_by (x := "int") rfl) (slc (sv_bin b2_addA (sv_bin b2_addA (sv_bin b2_mulA (sv_subS (slotN_by (i := 0) (x := "_law_draws_here") rfl (.inl rfl) (by decide)) sv_int) sv_int) (sv_bin b2_mulA (sv_var (i := 2) rfl (.inl rfl) rfl) sv_int)) sv_int) sl_nil)) sv_int))))))) (sss_one (ss_setI (slotN_by (i := 0) (x := "_law_draws_here") rfl (.inl rfl) (by decide)) sv_int (sv_bin b2_mod (sv_callB cn_int fvT (blN_by (x := "int") rfl) (slc (sv_bin b2_addA (sv_bin b2_mulA (sv_subS (slotN_by (i := 0) (x := "_law_draws_here") rfl (.inl rfl) (by decide)) sv_int) sv_int) sv_int) sl_nil)) sv_int))))) sss_nil)
  (sss_cons (ss_if (st_cmp b2_gt (sv_subS (slotN_by (i := 0) (x := "_law_draws_here") rfl (.inl rfl) (by decide)) sv_int) sv_int) (sss_cons (ss_set (i := 3) ⟨rfl, (.inl rfl)⟩ (.inl ⟨rfl, (sv_bin b2_mod (sv_callB cn_int fvT (blN_by (x := "int") rfl) (slc (sv_subS (slotN_by (i := 0) (x := "_law_draws_here") rfl (.inl rfl) (by decide)) sv_int) sl_nil)) (sv_var (i := 1) rfl (.inl rfl) rfl))⟩))
  (sss_cons (ss_setI (slotN_by (i := 0) (x := "_law_draws_here") rfl (.inl rfl) (by decide)) sv_int (sv_bin b2_fdiv (sv_subS (slotN_by (i := 0) (x := "_law_draws_here") rfl (.inl rfl) (by decide)) sv_int) (sv_var (i := 1) rfl (.inl rfl) rfl)))
  (sss_one (ss_ret (sv_var (i := 3) rfl (.inl rfl) rfl))))) sss_nil)
  (sss_one (ss_ret (sv_bin b2_mod (sv_bin b2_mod (sv_callB cn_int fvT (blN_by (x := "int") rfl) (slc (sv_bin b2_mulA (sv_subS (slotN_by (i := 0) (x := "_law_draws_here") rfl (.inl rfl) (by decide)) sv_int) sv_int) sl_nil)) sv_int) (sv_var (i := 1) rfl (.inl rfl) rfl))))))
theorem v_l_field (T : Txt Γ) : SSs Γ sc_l_field false (defBody s_l_field) b_l_field := by
  obtain ⟨l_law_pick, at_law_pick⟩ := T.a_law_pick
  exact (sss_cons (ss_par2 (i := 2) (j := 3) ⟨rfl, rfl⟩ ⟨rfl, rfl⟩ (by decide) (.inl ⟨rfl, (sv_bin b2_addA sv_int (sv_call at_law_pick rfl (by decide) rfl rfl (sa_io (slotN_by (i := 0) (x := "_law_draws_here") rfl (.inl rfl) (by decide)) (sac (sv_var (i := 1) rfl (.inl rfl) rfl) sa_nil))))⟩) (.inl ⟨rfl, (sv_tup sl_nil)⟩) rfl rfl (by decide) (by decide) (by decide))
  (sss_cons (ss_set (i := 4) ⟨rfl, (.inl rfl)⟩ (.inl ⟨rfl, (sv_bin b2_addA sv_int (sv_call at_law_pick rfl (by decide) rfl rfl (sa_io (slotN_by (i := 0) (x := "_law_draws_here") rfl (.inl rfl) (by decide)) (sac sv_int sa_nil))))⟩))
  (sss_cons (ss_for (si_range1 rfl (sv_var (i := 2) rfl (.inl rfl) rfl)) (sg_name (i := 5) ⟨rfl, (.inl rfl)⟩ rfl) (sss_one (ss_for (si_range2 rfl (sv_bin b2_addA (sv_var (i := 5) rfl (.inl rfl) rfl) sv_int) (sv_var (i := 2) rfl (.inl rfl) rfl)) (sg_name (i := 6) ⟨rfl, (.inl rfl)⟩ rfl) (sss_one (ss_if (st_cmp b2_le (sv_call at_law_pick rfl (by decide) rfl rfl (sa_io (slotN_by (i := 0) (x := "_law_draws_here") rfl (.inl rfl) (by decide)) (sac sv_int sa_nil))) (sv_var (i := 4) rfl (.inl rfl) rfl)) (sss_one (ss_set (i := 3) ⟨rfl, (.inl rfl)⟩ (.inl ⟨rfl, (sv_bin b2_addA (sv_var (i := 3) rfl (.inl rfl) rfl) (sv_tup (slc (sv_tup (slc (sv_var (i := 5) rfl (.inl rfl) rfl) (slc (sv_var (i := 6) rfl (.inl rfl) rfl) sl_nil))) sl_nil)))⟩))) sss_nil)))))
  (sss_one (ss_ret (sv_tup (slc (sv_var (i := 2) rfl (.inl rfl) rfl) (slc (sv_var (i := 3) rfl (.inl rfl) rfl) sl_nil))))))))
theorem v_l_tree (T : Txt Γ) : SSs Γ sc_l_tree false (defBody s_l_tree) b_l_tree := by
  obtain ⟨l_law_pick, at_law_pick⟩ := T.a_law_pick
  exact (sss_cons (ss_par2 (i := 2) (j := 3) ⟨rfl, rfl⟩ ⟨rfl, rfl⟩ (by decide) (.inl ⟨rfl, (sv_bin b2_addA sv_int (sv_call at_law_pick rfl (by decide) rfl rfl (sa_io (slotN_by (i := 0) (x := "_law_draws_here") rfl (.inl rfl) (by decide)) (sac (sv_var (i := 1) rfl (.inl rfl) rfl) sa_nil))))⟩) (.inl ⟨rfl, (sv_call at_law_pick rfl (by decide) rfl rfl (sa_io (slotN_by (i := 0) (x := "_law_draws_here") rfl (.inl rfl) (by decide)) (sac sv_int sa_nil)))⟩) rfl rfl (by decide) (by decide) (by decide))
  (sss_cons (ss_par2 (i := 4) (j := 5) ⟨rfl, rfl⟩ ⟨rfl, rfl⟩ (by decide) (.inl ⟨rfl, (SF.sv (sf_lst (slc sv_int sl_nil)))⟩) (.inr ⟨rfl, (sf_lst sl_nil)⟩) rfl rfl (by decide) (by decide) (by decide))
  (sss_cons (ss_for (si_range2 rfl sv_int (sv_var (i := 2) rfl (.inl rfl) rfl)) (sg_name (i := 6) ⟨rfl, (.inl rfl)⟩ rfl) (sss_cons (ss_set (i := 7) ⟨rfl, (.inl rfl)⟩ (.inl ⟨rfl, (sv_call at_law_pick rfl (by decide) rfl rfl (sa_io (slotN_by (i := 0) (x := "_law_draws_here") rfl (.inl rfl) (by decide)) (sac (sv_bin b2_addA (sv_var (i := 6) rfl (.inl rfl) rfl) sv_int) sa_nil)))⟩))
  (sss_one (ss_set (i := 4) ⟨rfl, (.inl rfl)⟩ (.inl ⟨rfl, (sv_bin b2_addA (sv_bin b2_addA (sv_slice (sv_var (i := 4) rfl (.inl rfl) rfl) so_none (so_some (sv_var (i := 7) rfl (.inl rfl) rfl))) (SF.sv (sf_lst (slc (sv_var (i := 6) rfl (.inl rfl) rfl) sl_nil)))) (sv_slice (sv_var (i := 4) rfl (.inl rfl) rfl) (so_some (sv_var (i := 7) rfl (.inl rfl) rfl)) so_none))⟩)))))
  (sss_cons (ss_for (si_range2 rfl sv_int (sv_var (i := 2) rfl (.inl rfl) rfl)) (sg_name (i := 6) ⟨rfl, (.inl rfl)⟩ rfl) (sss_cons (ss_set (i := 8) ⟨rfl, (.inl rfl)⟩ (.inl ⟨rfl, (sv_sub (SF.sv (sf_lst (slc sv_int (slc (sv_callB cn_max2 fvB (blN_by (x := "max") rfl) (slc sv_int (slc (sv_bin b2_sub (sv_var (i := 6) rfl (.inl rfl) rfl) sv_int) sl_nil))) (slc (sv_bin b2_fdiv (sv_var (i := 6) rfl (.inl rfl) rfl) sv_int) sl_nil))))) (sv_var (i := 3) rfl (.inl rfl) rfl))⟩))
  (sss_cons (ss_set (i := 9) ⟨rfl, (.inl rfl)⟩ (.inl ⟨rfl, (sv_bin b2_addA (sv_var (i := 8) rfl (.inl rfl) rfl) (sv_call at_law_pick rfl (by decide) rfl rfl (sa_io (slotN_by (i := 0) (x := "_law_draws_here") rfl (.inl rfl) (by decide)) (sac (sv_bin b2_sub (sv_var (i := 6) rfl (.inl rfl) rfl) (sv_var (i := 8) rfl (.inl rfl) rfl)) sa_nil))))⟩))
  (sss_one (ss_app (slotN_by (i := 5) (x := "_law_ties") rfl (.inl rfl) (by decide)) (sv_tup (slc (sv_callB cn_min2 fvB (blN_by (x := "min") rfl) (slc (sv_sub (sv_var (i := 4) rfl (.inl rfl) rfl) (sv_var (i := 6) rfl (.inl rfl) rfl)) (slc (sv_sub (sv_var (i := 4) rfl (.inl rfl) rfl) (sv_var (i := 9) rfl (.inl rfl) rfl)) sl_nil))) (slc (sv_callB cn_max2 fvB (blN_by (x := "max") rfl) (slc (sv_sub (sv_var (i := 4) rfl (.inl rfl) rfl) (sv_var (i := 6) rfl (.inl rfl) rfl)) (slc (sv_sub (sv_var (i := 4) rfl (.inl rfl) rfl) (sv_var (i := 9) rfl (.inl rfl) rfl)) sl_nil))) sl_nil))))))))
  (sss_one (ss_ret (sv_tup (slc (sv_var (i := 2) rfl (.inl rfl) rfl) (slc (sv_callB cn_tuple fvT (blN_by (x := "tuple") rfl) (slc (SF.sv (sf_callBS cnf_sorted fvB (blN_by (x := "sorted") rfl) (slotN_by (i := 5) (x := "_law_ties") rfl (.inl rfl) (by decide)))) sl_nil)) sl_nil)))))))))
theorem v_l_made (T : Txt Γ) : SSs Γ sc_l_made false (defBody s_l_made) b_l_made := by
  obtain ⟨ln_Field, new_Field⟩ := T.new_Field
  exact (sss_one (ss_ret (SF.sv (sf_new new_Field rfl rfl (slc (sv_sub (sv_var (i := 0) rfl (.inl rfl) rfl) sv_int) (slc (sv_sub (sv_var (i := 0) rfl (.inl rfl) rfl) sv_int) sl_nil)) (il_cons (il_cons il_nil))))))
theorem v_l_near (T : Txt Γ) : SSs Γ sc_l_near false (defBody s_l_near) b_l_near := by
  exact (sss_cons (ss_set (i := 2) ⟨rfl, (.inl rfl)⟩ (.inr ⟨rfl, (sf_lst sl_nil)⟩))
  (sss_cons (ss_for (si_seq (sv_sub (sv_var (i := 0) rfl (.inl rfl) rfl) sv_int)) (sg_tup (sgs_cons (sg_name (i := 3) ⟨rfl, (.inl rfl)⟩ rfl) (sgs_cons (sg_name (i := 4) ⟨rfl, (.inl rfl)⟩ rfl) sgs_nil))) (sss_cons (ss_if (st_cmp b2_eq (sv_var (i := 3) rfl (.inl rfl) rfl) (sv_var (i := 1) rfl (.inl rfl) rfl)) (sss_one (ss_app (slotN_by (i := 2) (x := "_law_found") rfl (.inl rfl) (by decide)) (sv_var (i := 4) rfl (.inl rfl) rfl))) sss_nil)
  (sss_one (ss_if (st_cmp b2_eq (sv_var (i := 4) rfl (.inl rfl) rfl) (sv_var (i := 1) rfl (.inl rfl) rfl)) (sss_one (ss_app (slotN_by (i := 2) (x := "_law_found") rfl (.inl rfl) (by decide)) (sv_var (i := 3) rfl (.inl rfl) rfl))) sss_nil))))
  (sss_one (ss_ret (SF.sv (sf_callBS cnf_sorted fvB (blN_by (x := "sorted") rfl) (slotN_by (i := 2) (x := "_law_found") rfl (.inl rfl) (by decide))))))))
theorem v_l_seconds (T : Txt Γ) : SSs Γ sc_l_seconds false (defBody s_l_seconds) b_l_seconds := by
  obtain ⟨l_law_near, at_law_near⟩ := T.a_law_near
  exact (sss_cons (ss_parT2 (i := 1) (j := 2) ⟨rfl, (.inr rfl)⟩ ⟨rfl, (.inl rfl)⟩ (by decide) (.inl ⟨rfl, (SF.sv (sf_lc (own := [("_law_sender", 5)]) (si_range1 rfl (sv_sub (sv_var (i := 0) rfl (.inr (.inl rfl)) rfl) sv_int)) rfl rfl rfl (sg_name (i := 5) ⟨rfl, (.inl rfl)⟩ rfl) sts_nil (sv_call at_law_near rfl (by decide) rfl rfl (sac (sv_var (i := 0) rfl (.inr (.inr rfl)) rfl) (sac (sv_var (i := 5) rfl (.inl rfl) rfl) sa_nil)))))⟩) (.inr ⟨rfl, (sf_lst sl_nil)⟩) (.inl rfl))
  (sss_cons (ss_for (si_range1 rfl (sv_sub (sv_var (i := 0) rfl (.inr (.inl rfl)) rfl) sv_int)) (sg_name (i := 3) ⟨rfl, (.inl rfl)⟩ rfl) (sss_one (ss_for (si_range2 rfl (sv_bin b2_addA (sv_var (i := 3) rfl (.inl rfl) rfl) sv_int) (sv_sub (sv_var (i := 0) rfl (.inr (.inl rfl)) rfl) sv_int)) (sg_name (i := 4) ⟨rfl, (.inr rfl)⟩ rfl) (sss_one (ss_if (SW.st (sw_and (st_cmp b2_notin (sv_var (i := 4) rfl (.inr (.inl rfl)) rfl) (sv_sub (sv_var (i := 1) rfl (.inr (.inl rfl)) rfl) (sv_var (i := 3) rfl (.inl rfl) rfl))) (sw_and1 (st_cmp b2_ne (SF.sv (sf_lc (own := [("_law_k", 6)]) (si_seq (sv_sub (sv_var (i := 1) rfl (.inr (.inl rfl)) rfl) (sv_var (i := 3) rfl (.inl rfl) rfl))) rfl rfl rfl (sg_name (i := 6) ⟨rfl, (.inl rfl)⟩ rfl) (sts_one (st_cmp b2_in (sv_var (i := 6) rfl (.inl rfl) rfl) (sv_sub (sv_var (i := 1) rfl (.inr (.inr rfl)) rfl) (sv_var (i := 4) rfl (.inr (.inr rfl)) rfl)))) (sv_var (i := 6) rfl (.inl rfl) rfl))) (SF.sv (sf_lst sl_nil)))))) (sss_one (ss_app (slotN_by (i := 2) (x := "_law_found") rfl (.inl rfl) (by decide)) (sv_tup (slc (sv_var (i := 3) rfl (.inl rfl) rfl) (slc (sv_var (i := 4) rfl (.inr (.inl rfl)) rfl) sl_nil))))) sss_nil)))))
  (sss_one (ss_ret (SF.sv (sf_mv (i := 2) rfl (.inl rfl) rfl))))))
theorem v_l_parents (T : Txt Γ) : SSs Γ sc_l_parents false (defBody s_l_parents) b_l_parents := by
  obtain ⟨l_law_near, at_law_near⟩ := T.a_law_near
  exact (sss_cons (ss_par2 (i := 1) (j := 2) ⟨rfl, rfl⟩ ⟨rfl, rfl⟩ (by decide) (.inr ⟨rfl, (sf_dict1 sv_int sv_non)⟩) (.inl ⟨rfl, (SF.sv (sf_lst (slc sv_int sl_nil)))⟩) rfl rfl (by decide) (by decide) (by decide))
  (sss_cons (ss_while (st_cmp b2_ne (sv_var (i := 2) rfl (.inl rfl) rfl) (SF.sv (sf_lst sl_nil))) (sss_cons (ss_set (i := 3) ⟨rfl, (.inl rfl)⟩ (.inr ⟨rfl, (sf_lst sl_nil)⟩))
  (sss_cons (ss_for (si_seq (sv_var (i := 2) rfl (.inl rfl) rfl)) (sg_name (i := 4) ⟨rfl, (.inl rfl)⟩ rfl) (sss_one (ss_for (si_seq (sv_call at_law_near rfl (by decide) rfl rfl (sac (sv_var (i := 0) rfl (.inl rfl) rfl) (sac (sv_var (i := 4) rfl (.inl rfl) rfl) sa_nil)))) (sg_name (i := 5) ⟨rfl, (.inl rfl)⟩ rfl) (sss_one (ss_if (st_cmpR b2_notin (sv_var (i := 5) rfl (.inl rfl) rfl) (slotN_by (i := 1) (x := "_law_found") rfl (.inl rfl) (by decide))) (sss_cons (ss_setI (slotN_by (i := 1) (x := "_law_found") rfl (.inl rfl) (by decide)) (sv_var (i := 5) rfl (.inl rfl) rfl) (sv_var (i := 4) rfl (.inl rfl) rfl))
  (sss_one (ss_app (slotN_by (i := 3) (x := "_law_later") rfl (.inl rfl) (by decide)) (sv_var (i := 5) rfl (.inl rfl) rfl)))) sss_nil)))))
  (sss_one (ss_set (i := 2) ⟨rfl, (.inl rfl)⟩ (.inl ⟨rfl, (SF.sv (sf_mv (i := 3) rfl (.inl rfl) rfl))⟩))))))
  (sss_one (ss_ret (SF.sv (sf_mv (i := 1) rfl (.inl rfl) rfl))))))
theorem v_law_k02 (T : Txt Γ) : SSs Γ sc_law_k02 false (defBody s_law_k02) b_law_k02 := by
  obtain ⟨l_law_draws, at_law_draws⟩ := T.a_law_draws
  obtain ⟨l_law_field, at_law_field⟩ := T.a_law_field
  obtain ⟨l_law_made, at_law_made⟩ := T.a_law_made
  obtain ⟨l_law_near, at_law_near⟩ := T.a_law_near
  obtain ⟨l_law_parents, at_law_parents⟩ := T.a_law_parents
  obtain ⟨l_law_pick, at_law_pick⟩ := T.a_law_pick
  obtain ⟨l_law_seconds, at_law_seconds⟩ := T.a_law_seconds
  obtain ⟨l_law_tree, at_law_tree⟩ := T.a_law_tree
  obtain ⟨l_degree, at_degree⟩ := T.a_degree
  obtain ⟨l_is_tree, at_is_tree⟩ := T.a_is_tree
  obtain ⟨l_seconds, at_seconds⟩ := T.a_seconds
  exact (sss_cons (ss_set (i := 1) ⟨rfl, (.inl rfl)⟩ (.inr ⟨rfl, (sf_call at_law_draws rfl (by decide) rfl rfl (sac (sv_var (i := 0) rfl (.inl rfl) rfl) sa_nil))⟩))
  (sss_cons (ss_for (si_range1 rfl sv_int) (sg_name (i := 2) ⟨rfl, (.inl rfl)⟩ rfl) (sss_cons (ss_set (i := 3) ⟨rfl, (.inr rfl)⟩ (.inl ⟨rfl, (sv_sub (SF.sv (sf_lst (slc (sv_call at_law_field rfl (by decide) rfl rfl (sa_io (slotN_by (i := 1) (x := "_law_draws_here") rfl (.inl rfl) (by decide)) (sac sv_int sa_nil))) (slc (sv_call at_law_tree rfl (by decide) rfl rfl (sa_io (slotN_by (i := 1) (x := "_law_draws_here") rfl (.inl rfl) (by decide)) (sac sv_int sa_nil))) (slc (sv_call at_law_tree rfl (by decide) rfl rfl (sa_io (slotN_by (i := 1) (x := "_law_draws_here") rfl (.inl rfl) (by decide)) (sac sv_int sa_nil))) sl_nil))))) (sv_call at_law_pick rfl (by decide) rfl rfl (sa_io (slotN_by (i := 1) (x := "_law_draws_here") rfl (.inl rfl) (by decide)) (sac sv_int sa_nil))))⟩))
  (sss_cons (ss_if (SW.st (sw_and (st_cmp b2_eq (sv_call at_law_pick rfl (by decide) rfl rfl (sa_io (slotN_by (i := 1) (x := "_law_draws_here") rfl (.inl rfl) (by decide)) (sac sv_int sa_nil))) sv_int) (sw_and1 (st_cmp b2_ne (sv_sub (sv_var (i := 3) rfl (.inr (.inl rfl)) rfl) sv_int) (sv_tup sl_nil))))) (sss_cons (ss_par3 (i := 4) (j := 5) (l := 6) ⟨rfl, rfl⟩ ⟨rfl, rfl⟩ ⟨rfl, rfl⟩ (by decide) (by decide) (by decide) (.inl ⟨rfl, (sv_call at_law_pick rfl (by decide) rfl rfl (sa_io (slotN_by (i := 1) (x := "_law_draws_here") rfl (.inl rfl) (by decide)) (sac (sv_callB cn_len fvB (blN_by (x := "len") rfl) (slc (sv_sub (sv_var (i := 3) rfl (.inr (.inl rfl)) rfl) sv_int) sl_nil)) sa_nil)))⟩) (.inl ⟨rfl, (sv_call at_law_pick rfl (by decide) rfl rfl (sa_io (slotN_by (i := 1) (x := "_law_draws_here") rfl (.inl rfl) (by decide)) (sac (sv_sub (sv_var (i := 3) rfl (.inr (.inl rfl)) rfl) sv_int) sa_nil)))⟩) (.inl ⟨rfl, (sv_call at_law_pick rfl (by decide) rfl rfl (sa_io (slotN_by (i := 1) (x := "_law_draws_here") rfl (.inl rfl) (by decide)) (sac (sv_sub (sv_var (i := 3) rfl (.inr (.inl rfl)) rfl) sv_int) sa_nil)))⟩) rfl rfl rfl rfl rfl (by decide) (by decide) (by decide))
  (sss_cons (ss_set (i := 7) ⟨rfl, (.inl rfl)⟩ (.inr ⟨rfl, (sf_callB cnf_list listV_lst fvT (blN_by (x := "list") rfl) (slc (sv_bin b2_addA (sv_slice (sv_sub (sv_var (i := 3) rfl (.inr (.inl rfl)) rfl) sv_int) so_none (so_some (sv_var (i := 4) rfl (.inl rfl) rfl))) (sv_slice (sv_sub (sv_var (i := 3) rfl (.inr (.inl rfl)) rfl) sv_int) (so_some (sv_bin b2_addA (sv_var (i := 4) rfl (.inl rfl) rfl) sv_int)) so_none)) sl_nil))⟩))
  (sss_cons (ss_if (st_cmp b2_ne (sv_var (i := 5) rfl (.inl rfl) rfl) (sv_var (i := 6) rfl (.inl rfl) rfl)) (sss_one (ss_app (slotN_by (i := 7) (x := "_law_ties") rfl (.inl rfl) (by decide)) (sv_tup (slc (sv_callB cn_min2 fvB (blN_by (x := "min") rfl) (slc (sv_var (i := 5) rfl (.inl rfl) rfl) (slc (sv_var (i := 6) rfl (.inl rfl) rfl) sl_nil))) (slc (sv_callB cn_max2 fvB (blN_by (x := "max") rfl) (slc (sv_var (i := 5) rfl (.inl rfl) rfl) (slc (sv_var (i := 6) rfl (.inl rfl) rfl) sl_nil))) sl_nil))))) sss_nil)
  (sss_one (ss_set (i := 3) ⟨rfl, (.inr rfl)⟩ (.inl ⟨rfl, (sv_tup (slc (sv_sub (sv_var (i := 3) rfl (.inr (.inl rfl)) rfl) sv_int) (slc (sv_callB cn_tuple fvT (blN_by (x := "tuple") rfl) (slc (SF.sv (sf_sortSetS (blN_by (x := "sorted") rfl) (blN_by (x := "set") rfl) (slotN_by (i := 7) (x := "_law_ties") rfl (.inl rfl) (by decide)))) sl_nil)) sl_nil)))⟩)))))) sss_nil)
  (sss_cons (ss_set (i := 8) ⟨rfl, (.inl rfl)⟩ (.inl ⟨rfl, (sv_call at_law_made rfl (by decide) rfl rfl (sac (sv_var (i := 3) rfl (.inr (.inl rfl)) rfl) sa_nil))⟩))
  (sss_cons (ss_set (i := 9) ⟨rfl, (.inl rfl)⟩ (.inl ⟨rfl, (sv_and (sv_cmp b2_eq (sv_callB cn_len fvB (blN_by (x := "len") rfl) (slc (sv_call at_law_parents rfl (by decide) rfl rfl (sac (sv_var (i := 3) rfl (.inr (.inl rfl)) rfl) sa_nil)) sl_nil)) (sv_sub (sv_var (i := 3) rfl (.inr (.inl rfl)) rfl) sv_int)) (sv_one (sv_cmp b2_eq (sv_callB cn_len fvB (blN_by (x := "len") rfl) (slc (sv_sub (sv_var (i := 3) rfl (.inr (.inl rfl)) rfl) sv_int) sl_nil)) (sv_bin b2_sub (sv_sub (sv_var (i := 3) rfl (.inr (.inl rfl)) rfl) sv_int) sv_int))))⟩))
  (sss_cons (ss_if (SW.st (sw_or (st_cmp b2_ne (sv_call at_seconds rfl (by decide) rfl rfl (sac (sv_var (i := 8) rfl (.inl rfl) rfl) sa_nil)) (sv_call at_law_seconds rfl (by decide) rfl rfl (sac (sv_var (i := 3) rfl (.inr (.inl rfl)) rfl) sa_nil))) (sw_or1 (st_cmp b2_ne (sv_call at_is_tree rfl (by decide) rfl rfl (sac (sv_var (i := 8) rfl (.inl rfl) rfl) sa_nil)) (sv_var (i := 9) rfl (.inl rfl) rfl))))) (sss_one (ss_ret sv_bl)) sss_nil)
  (sss_one (ss_if (st_cmp b2_ne (sv_call at_degree rfl (by decide) rfl rfl (sac (sv_var (i := 8) rfl (.inl rfl) rfl) sa_nil)) (sv_callB cn_max fvB (blN_by (x := "max") rfl) (slc (SF.sv (sf_lc (own := [("_law_sender", 10)]) (si_range1 rfl (sv_sub (sv_var (i := 3) rfl (.inr (.inl rfl)) rfl) sv_int)) rfl rfl rfl (sg_name (i := 10) ⟨rfl, (.inl rfl)⟩ rfl) sts_nil (sv_callB cn_len fvB (blN_by (x := "len") rfl) (slc (sv_call at_law_near rfl (by decide) rfl rfl (sac (sv_var (i := 3) rfl (.inr (.inr rfl)) rfl) (sac (sv_var (i := 10) rfl (.inl rfl) rfl) sa_nil))) sl_nil)))) sl_nil))) (sss_one (ss_ret sv_bl)) sss_nil))))))))
  (sss_one (ss_ret sv_bl))))
end
end T0
end
section
set_option Elab.async false
set_option linter.all false
set_option maxRecDepth 100000
set_option autoImplicit false
/-! M0: how combinators run; short lemmas for the mathematics. -/
namespace CG
open PySem T0
section
variable {α β : Type} {cl : Cl} {e e1 : Env} {f g h : M Val} {r : M (List Val)} {v w : Val}
@[simp] theorem bind_ok (a : α) (e : Env) (k : α → Env → R β) : (R.ok a e).bind k = k a e := rfl
@[simp] theorem bind_exc (c : Str) (fs : List (Str × Val)) (e : Env) (k : α → Env → R β) : (R.exc c fs e).bind k = .exc c fs e := rfl
@[simp] theorem bind_no (k : α → Env → R β) : (R.no : R α).bind k = .no := rfl
@[simp] theorem toS_ok (a : α) (e : Env) (k : α → Env → RS) : (R.ok a e).toS k = k a e := rfl
@[simp] theorem toS_exc (c : Str) (fs : List (Str × Val)) (e : Env) (k : α → Env → RS) : (R.exc c fs e).toS k = .exc c fs e := rfl
@[simp] theorem toS_no (k : α → Env → RS) : (R.no : R α).toS k = .no := rfl
@[simp] theorem then_next (e : Env) (k : Env → RS) : (RS.next e).then k = k e := rfl
@[simp] theorem then_ret (v : Val) (e : Env) (k : Env → RS) : (RS.ret v e).then k = .ret v e := rfl
@[simp] theorem then_exc (c : Str) (fs : List (Str × Val)) (e : Env) (k : Env → RS) : (RS.exc c fs e).then k = .exc c fs e := rfl
@[simp] theorem then_no (k : Env → RS) : (RS.no).then k = .no := rfl
@[simp] theorem asB_ok (b : Bool) (e : Env) : asB (.ok (.bl b) e) = .ok b e := rfl
@[simp] theorem asB_exc (c : Str) (fs : List (Str × Val)) (e : Env) : asB (.exc c fs e) = .exc c fs e := rfl
@[simp] theorem ret_some (a : α) (e : Env) : CG.ret (some a) e = .ok a e := rfl
@[simp] theorem ret_none (e : Env) : CG.ret (none : Option α) e = .no := rfl
@[simp] theorem mLit_ap : mLit v cl e = .ok v e := rfl
theorem var_at {i : Nat} (h : e[i]? = some (some v)) : mVar i cl e = .ok v e := by simp [mVar, h]
@[simp] theorem mVar_ap (i : Nat) : mVar i cl e = (match e[i]? with | some (some v) => .ok v e | _ => .no) := rfl
@[simp] theorem mMv_ap (i : Nat) : mMv i cl e = (match e[i]? with | some (some v) => .ok v (e.set i none) | _ => .no) := rfl
@[simp] theorem mUn_ap (op : Val → Option Val) : mUn op f cl e = (f cl e).bind fun a e1 => CG.ret (op a) e1 := rfl
@[simp] theorem mBin_ap (op : Val → Val → Option Val) : mBin op f g cl e = (f cl e).bind fun a e1 => (g cl e1).bind fun b e2 => CG.ret (op a b) e2 := rfl
@[simp] theorem mUnS_ap (op : Val → Option Val) (i : Nat) : mUnS op i cl e = (match e[i]? with | some (some v) => CG.ret (op v) e | _ => .no) := rfl
@[simp] theorem mBinS_ap (op : Val → Val → Option Val) (i : Nat) : mBinS op i g cl e = (match e[i]? with | some (some _) => (g cl e).bind fun b e1 => (match e1[i]? with | some (some v) => CG.ret (op v b) e1 | _ => .no) | _ => .no) := rfl
@[simp] theorem mBinR_ap (op : Val → Val → Option Val) (i : Nat) : mBinR op f i cl e = (f cl e).bind fun a e1 => (match e1[i]? with | some (some v) => CG.ret (op a v) e1 | _ => .no) := rfl
@[simp] theorem mAnd_ap : mAnd f g cl e = (asB (f cl e)).bind fun a e1 => if a = true then g cl e1 else .ok (.bl false) e1 := rfl
@[simp] theorem mOr_ap : mOr f g cl e = (asB (f cl e)).bind fun a e1 => if a = true then .ok (.bl true) e1 else g cl e1 := rfl
@[simp] theorem mNot_ap : mNot f cl e = (asB (f cl e)).bind fun a e1 => .ok (.bl (!a)) e1 := rfl
@[simp] theorem mIf_ap : mIf f g h cl e = (asB (f cl e)).bind fun a e1 => if a = true then g cl e1 else h cl e1 := rfl
@[simp] theorem mChain_ap (op op' : Val → Val → Option Val) : mChain op op' f g h cl e = (f cl e).bind fun a e1 => (g cl e1).bind fun b e2 => (asB (CG.ret (op a b) e2)).bind fun k e3 => if k = true then (h cl e3).bind fun c e4 => CG.ret (op' b c) e4 else .ok (.bl false) e3 := rfl
@[simp] theorem iNil_ap : iNil cl e = .ok [] e := rfl
@[simp] theorem iCons_ap : iCons f r cl e = (f cl e).bind fun a e1 => (r cl e1).bind fun as e2 => .ok (a :: as) e2 := rfl
@[simp] theorem iStar_ap : iStar f r cl e = (f cl e).bind fun a e1 => (CG.ret (itemsOf a) e1).bind fun xs e2 => (r cl e2).bind fun as e3 => .ok (xs ++ as) e3 := rfl
@[simp] theorem mTup_ap : mTup r cl e = (r cl e).bind fun xs e1 => if xs.length ≤ line then .ok (.tup xs) e1 else .no := rfl
@[simp] theorem mLst_ap : mLst r cl e = (r cl e).bind fun xs e1 => if xs.length ≤ line then .ok (.lst xs) e1 else .no := rfl
@[simp] theorem oNone_ap : oNone cl e = .ok none e := rfl
@[simp] theorem oSome_ap : oSome f cl e = (f cl e).bind fun a e1 => match a with | .int i => .ok (some i) e1 | _ => .no := rfl
@[simp] theorem mSlice_ap (op : Val → Option Int → Option Int → Option Val) (lo hi : M (Option Int)) : mSlice op f lo hi cl e = (f cl e).bind fun a e1 => (lo cl e1).bind fun l e2 => (hi cl e2).bind fun h e3 => CG.ret (op a l h) e3 := rfl
@[simp] theorem mCallB_ap (op : List Val → Option Val) : mCallB op r cl e = (r cl e).bind fun vs e1 => CG.ret (op vs) e1 := rfl
@[simp] theorem aNil_ap : aNil cl e = .ok [] e := rfl
@[simp] theorem aVal_ap (as : M (List Arg)) : aVal f as cl e = (f cl e).bind fun a e1 => (as cl e1).bind fun al e2 => .ok (.v a :: al) e2 := rfl
@[simp] theorem aIo_ap (i : Nat) (as : M (List Arg)) : aIo i as cl e = (match e[i]? with | some (some _) => (as cl e).bind fun al e2 => .ok (.io i :: al) e2 | _ => .no) := rfl
@[simp] theorem mCall_ap (k : Fn) (as : M (List Arg)) : mCall k as cl e = (as cl e).bind fun al e1 => match argVals e1 al with
  | none => .no
  | some vs => match cl k vs with
    | .ok v ios => if lentOk e1 al v then (CG.ret (ioSet e1 al ios) e1).bind fun e2 _ => .ok v e2 else .no
    | .exc c fs => .exc c fs (ioKill e1 al)
    | .no => .no := rfl
@[simp] theorem argVals_nil : argVals e [] = some [] := rfl
@[simp] theorem argVals_v (a : Val) (l : List Arg) : argVals e (.v a :: l) = (argVals e l).map (a :: ·) := rfl
@[simp] theorem argVals_io (i : Nat) (l : List Arg) : argVals e (.io i :: l) = (match e[i]? with | some (some v) => if scalarV v then none else (argVals e l).map (v :: ·) | _ => none) := rfl
@[simp] theorem lentOk_nil : lentOk e [] v = true := rfl
@[simp] theorem lentOk_v (a : Val) (l : List Arg) : lentOk e (.v a :: l) v = lentOk e l v := rfl
@[simp] theorem lentOk_io (i : Nat) (l : List Arg) : lentOk e (.io i :: l) v = lentOk e l v := rfl
@[simp] theorem ioSet_nil : ioSet e [] [] = some e := rfl
@[simp] theorem ioSet_io (i : Nat) (l : List Arg) (v : Val) (vs : List Val) : ioSet e (.io i :: l) (v :: vs) = ioSet (e.set i (some v)) l vs := rfl
@[simp] theorem ioSet_v (a : Val) (l : List Arg) (vs : List Val) : ioSet e (.v a :: l) vs = ioSet e l vs := by cases vs <;> rfl
@[simp] theorem ioKill_nil : ioKill e [] = e := rfl
@[simp] theorem ioKill_io (i : Nat) (l : List Arg) : ioKill e (.io i :: l) = ioKill (e.set i none) l := rfl
@[simp] theorem ioKill_v (a : Val) (l : List Arg) : ioKill e (.v a :: l) = ioKill e l := rfl
@[simp] theorem mNew_ap (k : Fn) (c : Str) : mNew k c r cl e = (r cl e).bind fun vs e1 => match cl k (.obj c [] :: vs) with
  | .ok .non [o] => .ok o e1
  | .exc x fs => .exc x fs e1
  | _ => .no := rfl
-- statements
@[simp] theorem sPass_ap : sPass cl e = .next e := rfl
@[simp] theorem sSeq_ap (a b : S) : sSeq a b cl e = (a cl e).then fun e1 => b cl e1 := rfl
@[simp] theorem sExpr_ap : sExpr f cl e = (f cl e).toS fun _ e1 => .next e1 := rfl
@[simp] theorem sRet_ap : sRet f cl e = (f cl e).toS fun v e1 => .ret v e1 := rfl
@[simp] theorem sAsg_ap (b : Bind) : sAsg b f cl e = (f cl e).toS fun v e1 => match b v e1 with | some e2 => .next e2 | none => .no := rfl
@[simp] theorem sIf_ap (a b : S) : sIf f a b cl e = (asB (f cl e)).toS fun v e1 => if v = true then a cl e1 else b cl e1 := rfl
@[simp] theorem bindName_ap (i : Nat) : bindName i v e = if i < e.length then some (e.set i (some v)) else none := rfl
@[simp] theorem sRaise0_ap (c : Str) : sRaise c [] cl e = .exc c [] e := rfl
@[simp] theorem sRaise1_ap (c x : Str) : sRaise1 c x f cl e = (f cl e).toS fun v e1 => .exc c [(x, v)] e1 := rfl
@[simp] theorem sRaise2_ap (c x y : Str) : sRaise2 c x y f g cl e = (f cl e).toS fun v e1 => (g cl e1).toS fun w e2 => .exc c [(y, w), (x, v)] e2 := rfl
@[simp] theorem sApp_ap (i : Nat) : sApp i f cl e = (match e[i]? with
  | some (some (.lst _)) => (f cl e).toS fun v e1 => (match e1[i]? with
    | some (some (.lst xs)) => if xs.length < line then .next (e1.set i (some (.lst (xs ++ [v])))) else .no
    | _ => .no)
  | _ => .no) := rfl
@[simp] theorem sSet_ap (i : Nat) : sSet i g f cl e = (f cl e).toS fun v e1 => match e1[i]? with
  | some (some _) => (g cl e1).toS fun q e2 => (match e2[i]? with
    | some (some x) => (match setItem x q v with
      | some x' => .next (e2.set i (some x'))
      | none => .no)
    | _ => .no)
  | _ => .no := rfl
@[simp] theorem sAug_ap (op : Val → Val → Option Val) (i : Nat) : sAug op i f cl e = (match e[i]? with
  | some (some x) => (f cl e).toS fun v e1 => (match op x v with
    | some y => .next (e1.set i (some y))
    | none => .no)
  | _ => .no) := rfl
@[simp] theorem sFldV_ap (i : Nat) (x : Str) : sFldV i x f cl e = (f cl e).toS fun v e1 => match e1[i]? with
  | some (some (.obj c fs)) => if fs.length < 1000 then .next (e1.set i (some (.obj c (putFV x v fs)))) else .no
  | _ => .no := rfl
@[simp] theorem sPar2_ap (i j : Nat) : sPar2 i j f g cl e = sPar2 i j f g cl e := rfl
theorem sFor_ok {it : M (List Val)} {b : Bind} {body : S} {xs : List Val} (h : it cl e = .ok xs e1) : sFor it b body cl e = sForGo b body xs cl e1 := by unfold sFor; rw [h]
@[simp] theorem wSeq_ap : wSeq f cl e = (f cl e).bind fun a e1 => CG.ret (itemsOf a) e1 := rfl
theorem wRng1_run {i : Int} (h1 : f cl e = .ok (.int i) e1) (s1 : small i = true) : wRng1 f cl e = .ok (rangeV 0 i.toNat) e1 := by
  unfold wRng1
  rw [h1, bind_ok]
  simp only [s1, if_true]
theorem wRng2_run {e2 : Env} {i j : Int} (h1 : f cl e = .ok (.int i) e1) (h2 : g cl e1 = .ok (.int j) e2) (s1 : small i = true) (s2 : small j = true) : wRng2 f g cl e = .ok (rangeV i (j - i).toNat) e2 := by
  unfold wRng2
  rw [h1, bind_ok, h2, bind_ok]
  simp only [s1, s2, Bool.and_self, if_true]
@[simp] theorem bt_nil : bindTup.go [] [] e = some e := rfl
@[simp] theorem bt_cons (b : Bind) (bs : List Bind) (x : Val) (xs : List Val) : bindTup.go (b :: bs) (x :: xs) e = (match b x e with | some e' => bindTup.go bs xs e' | none => none) := rfl
@[simp] theorem bt_tup (bs : List Bind) (xs : List Val) : bindTup bs (.tup xs) e = bindTup.go bs xs e := rfl
end
/-- a call of the table, one level down -/
theorem call_of {k : Fn} {d : Def} (h : GT k = some d) (n : Nat) (vs : List Val) : callN GT (n + 1) k vs = runDef d (callN GT n) vs := by
  show (match GT k with | some d => runDef d (callN GT n) vs | none => .no) = _
  rw [h]
/-- a loop by an invariant: what each turn does -/
theorem for_inv {b : Bind} {body : S} {cl : Cl} (P : Nat → Env → Prop) : ∀ (xs : List Val) (k : Nat) (e : Env), P k e → (∀ (i : Nat) (x : Val) (e : Env), xs[i]? = some x → P (k + i) e → ∃ e1 e2, b x e = some e1 ∧ body cl e1 = .next e2 ∧ P (k + i + 1) e2) → ∃ e', sForGo b body xs cl e = .next e' ∧ P (k + xs.length) e'
  | [], k, e, h, _ => ⟨e, rfl, h⟩
  | x :: xs, k, e, h, hs => by
    obtain ⟨e1, e2, h1, h2, h3⟩ := hs 0 x e rfl h
    obtain ⟨e', h4, h5⟩ := for_inv P xs (k + 1) e2 h3 fun i y e hi hp => by
      have := hs (i + 1) y e (by simpa using hi) (by rw [show k + (i + 1) = k + 1 + i by omega]; exact hp)
      rwa [show k + (i + 1) + 1 = k + 1 + i + 1 by omega] at this
    refine ⟨e', ?_, by rw [List.length_cons, show k + (xs.length + 1) = k + 1 + xs.length by omega]; exact h5⟩
    simp only [sForGo, h1, h2, then_next, h4]
/-- a comprehension of one clause: what is kept and what becomes of it -/
theorem lc_go {own : List Nat} {b : Bind} {t f : M Val} {cl : Cl} (P : Env → Prop) (keep : Val → Bool) (out : Val → Val) (hP : ∀ (x : Val) (e : Env), P e → ∃ e1 e2, b x (wipeE e own) = some e1 ∧ t cl e1 = .ok (.bl (keep x)) e2 ∧ (keep x = false → P e2) ∧ (keep x = true → ∃ e3, f cl e2 = .ok (out x) e3 ∧ P e3)) :
    ∀ (xs acc : List Val) (e : Env), P e → acc.length + xs.length ≤ line → ∃ e', mLcGo own b t f xs acc cl e = .ok (acc ++ (xs.filter keep).map out) e' ∧ P e'
  | [], acc, e, h, _ => ⟨e, by simp [mLcGo], h⟩
  | x :: xs, acc, e, h, hl => by
    obtain ⟨e1, e2, h1, h2, h3, h4⟩ := hP x e h
    rw [List.length_cons] at hl
    cases hk : keep x with
    | false =>
      obtain ⟨e', h5, h6⟩ := lc_go P keep out hP xs acc e2 (h3 hk) (by omega)
      refine ⟨e', ?_, h6⟩
      simp only [mLcGo, h1, h2, asB_ok, hk, Bool.false_eq_true, if_false, h5, List.filter_cons]
    | true =>
      obtain ⟨e3, h7, h8⟩ := h4 hk
      obtain ⟨e', h5, h6⟩ := lc_go P keep out hP xs (acc ++ [out x]) e3 h8 (by simp; omega)
      refine ⟨e', ?_, h6⟩
      have hlt : acc.length < line := by omega
      simp only [mLcGo, h1, h2, asB_ok, hk, if_true, h7, hlt, h5, List.filter_cons, List.append_assoc, List.map_cons, List.singleton_append]
theorem run_ret {d : Def} {cl : Cl} {vs : List Val} {e0 e : Env} {v : Val} {ios : List Val} (h : vs.length = d.io.length) (he : vs.map some ++ List.replicate (d.nslots - vs.length) none = e0) (hb : d.body cl e0 = .ret v e) (ho : ioOut e d.io 0 = some ios) : runDef d cl vs = .ok v ios := by
  unfold runDef
  rw [if_pos h, he, hb]
  simp only [ho]
theorem run_next {d : Def} {cl : Cl} {vs : List Val} {e0 e : Env} {ios : List Val} (h : vs.length = d.io.length) (he : vs.map some ++ List.replicate (d.nslots - vs.length) none = e0) (hb : d.body cl e0 = .next e) (ho : ioOut e d.io 0 = some ios) : runDef d cl vs = .ok .non ios := by
  unfold runDef
  rw [if_pos h, he, hb]
  simp only [ho]
theorem run_exc {d : Def} {cl : Cl} {vs : List Val} {e0 e : Env} {c : Str} {fs : List (Str × Val)} (h : vs.length = d.io.length) (he : vs.map some ++ List.replicate (d.nslots - vs.length) none = e0) (hb : d.body cl e0 = .exc c fs e) : runDef d cl vs = .exc c fs := by
  unfold runDef
  rw [if_pos h, he, hb]
theorem seq_next {a b : S} {cl : Cl} {e e1 : Env} (h : a cl e = .next e1) : sSeq a b cl e = b cl e1 := by rw [sSeq_ap, h, then_next]
end CG
end
section
set_option Elab.async false
set_option linter.all false
set_option maxRecDepth 100000
set_option autoImplicit false
/-! M1: numbers, ties, draws. -/
namespace CG
open PySem T0
/-- an int (no bool) from lo to hi -/
def isFrom (v : Val) (lo hi : Int) : Bool := match v with
  | .int i => decide (lo ≤ i) && decide (i ≤ hi)
  | _ => false
/-- what isinstance serves -/
def plainV : Val → Bool
  | .obj _ _ => false
  | .scr _ => false
  | _ => true
@[simp] theorem is_from_call (n : Nat) {v : Val} (hv : plainV v = true) (lo hi : Int) : callN GT (n + 1) k_is_from [v, .int lo, .int hi] = .ok (.bl (isFrom v lo hi)) [] := by
  rw [call_of (d := d_is_from) rfl]
  cases v <;> simp [runDef, d_is_from, b_is_from, isiV, tyName, isTy, isFrom, ioOut, leV, plainV] at hv ⊢
  rename_i i
  by_cases h : lo ≤ i <;> simp [h]

/-- a draws list: the script's ints, the place, a great number, a state -/
def Dr (v : Val) : Prop := ∃ (ns : List Int) (a : Nat) (b s : Int), v = .lst [.lst (ns.map .int), .int a, .int b, .int s] ∧ 0 ≤ b
theorem atI_nat {xs : List Val} {i : Nat} {v : Val} (h : xs[i]? = some v) : L2.atI xs (i : Int) = some v := L2.atI_nat h
@[simp] theorem eqV_int (i j : Int) : eqV (.int i) (.int j) = some (.bl (decide (i = j))) := by
  simp [eqV, eqD, toD, SeqAt.shaped, PyData.canLay0, PyData.depth, PyData.eqv]
  rfl
@[simp] theorem neV_int (i j : Int) : neV (.int i) (.int j) = some (.bl (decide (i ≠ j))) := by
  simp [neV, eqD, toD, SeqAt.shaped, PyData.canLay0, PyData.depth, PyData.eqv]
  by_cases h : i = j <;> simp [h]
@[simp] theorem ltV_int (i j : Int) : ltV (.int i) (.int j) = some (.bl (decide (i < j))) := rfl
@[simp] theorem gtV_int (i j : Int) : gtV (.int i) (.int j) = some (.bl (decide (j < i))) := rfl
@[simp] theorem geV_int (i j : Int) : geV (.int i) (.int j) = some (.bl (decide (j ≤ i))) := rfl
@[simp] theorem leV_int (i j : Int) : leV (.int i) (.int j) = some (.bl (decide (i ≤ j))) := rfl
@[simp] theorem addA_int (i j : Int) : addA (.int i) (.int j) = some (.int (i + j)) := rfl
@[simp] theorem subV_int (i j : Int) : subV (.int i) (.int j) = some (.int (i - j)) := rfl
@[simp] theorem op1_ap (op : Val → Option Val) (v : Val) : op1 op [v] = op v := rfl
@[simp] theorem lenV_lst (xs : List Val) : lenV (.lst xs) = some (.int xs.length) := rfl
@[simp] theorem lenV_tup (xs : List Val) : lenV (.tup xs) = some (.int xs.length) := rfl
@[simp] theorem intV_int (i : Int) : intV (.int i) = some (.int i) := rfl
@[simp] theorem itemV_lst (xs : List Val) (i : Int) : itemV (.lst xs) (.int i) = L2.atI xs i := rfl
@[simp] theorem itemV_tup (xs : List Val) (i : Int) : itemV (.tup xs) (.int i) = L2.atI xs i := rfl
theorem atI_lit {xs : List Val} {i : Nat} {v : Val} (h : xs[i]? = some v) : L2.atI xs (OfNat.ofNat i : Int) = some v := L2.atI_nat h
@[simp] theorem atI_0 (a : Val) (xs : List Val) : L2.atI (a :: xs) 0 = some a := L2.atI_nat (j := 0) rfl
@[simp] theorem atI_1 (a b : Val) (xs : List Val) : L2.atI (a :: b :: xs) 1 = some b := L2.atI_nat (j := 1) rfl
@[simp] theorem atI_2 (a b c : Val) (xs : List Val) : L2.atI (a :: b :: c :: xs) 2 = some c := L2.atI_nat (j := 2) rfl
@[simp] theorem atI_3 (a b c d : Val) (xs : List Val) : L2.atI (a :: b :: c :: d :: xs) 3 = some d := L2.atI_nat (j := 3) rfl
theorem mulA_lit {i j : Int} (h : in64 j = true) : mulA (.int i) (.int j) = some (.int (i * j)) := by simp [mulA, mulV, h]
@[simp] theorem set4_1 (a b c d v : Val) : setItem (.lst [a, b, c, d]) (.int 1) v = some (.lst [a, v, c, d]) := by simp [setItem, L2.ixN]
@[simp] theorem set4_2 (a b c d v : Val) : setItem (.lst [a, b, c, d]) (.int 2) v = some (.lst [a, b, v, d]) := by simp [setItem, L2.ixN]
@[simp] theorem set4_3 (a b c d v : Val) : setItem (.lst [a, b, c, d]) (.int 3) v = some (.lst [a, b, c, v]) := by simp [setItem, L2.ixN]
theorem modV_pos {i j : Int} (h : 0 < j) : modV (.int i) (.int j) = some (.int (i % j)) := by simp [modV, h]
theorem fdivV_pos {i j : Int} (h : 0 < j) (h2 : j < 1073741824) : fdivV (.int i) (.int j) = some (.int (i / j)) := by simp [fdivV, h, h2]
theorem nat_of {i m : Int} (h : 0 < m) : ∃ r : Nat, (r : Int) < m ∧ i % m = (r : Int) := by
  have h1 := Int.emod_nonneg i (by omega : m ≠ 0)
  have h2 := Int.emod_lt_of_pos i h
  exact ⟨(i % m).toNat, by omega, by omega⟩
theorem dr_mk (ns : List Int) (a : Nat) (b s : Int) (h : 0 ≤ b) : Dr (.lst [.lst (ns.map .int), .int a, .int b, .int s]) := ⟨ns, a, b, s, rfl, h⟩
@[simp] theorem line_val : line = 16777216 := rfl
theorem pick_call (n : Nat) {v : Val} (hv : Dr v) {m : Int} (h0 : 0 < m) (h1 : m < 1073741824) : ∃ (r : Nat) (v' : Val), (r : Int) < m ∧ Dr v' ∧ callN GT (n + 1) k_l_pick [v, .int m] = .ok (.int r) [v'] := by
  obtain ⟨ns, a, b, s, rfl, hb⟩ := hv
  rw [call_of (d := d_l_pick) rfl]
  have m1 : ∀ i : Int, mulA (.int i) (.int 48271) = some (.int (i * 48271)) := fun i => mulA_lit rfl
  have m2 : ∀ i : Int, mulA (.int i) (.int 69621) = some (.int (i * 69621)) := fun i => mulA_lit rfl
  have m3 : ∀ i : Int, mulA (.int i) (.int 16807) = some (.int (i * 16807)) := fun i => mulA_lit rfl
  have m4 : ∀ i : Int, modV (.int i) (.int 2147483647) = some (.int (i % 2147483647)) := fun i => modV_pos (by decide)
  have m5 : ∀ i : Int, modV (.int i) (.int 2147483629) = some (.int (i % 2147483629)) := fun i => modV_pos (by decide)
  have m6 : ∀ i : Int, modV (.int i) (.int m) = some (.int (i % m)) := fun i => modV_pos h0
  have m7 : ∀ i : Int, fdivV (.int i) (.int m) = some (.int (i / m)) := fun i => fdivV_pos h0 h1
  have m8 : powV (.int 10) (.int 18) = some (.int 1000000000000000000) := by simp [powV, in64]
  by_cases hb0 : b = 0
  · subst hb0
    by_cases ha : a < ns.length
    · have hc : L2.atI (ns.map Val.int) (a : Int) = some (.int ns[a]) := L2.atI_nat (by simp [ha])
      have ha' : (a : Int) < (ns.length : Int) := by omega
      by_cases hg : (1000000000000000000 : Int) ≤ ns[a]
      · obtain ⟨r, hr, er⟩ := nat_of (i := ns[a]) h0
        have hpos : 0 < ns[a] := by omega
        refine ⟨r, .lst [.lst (ns.map .int), .int ((a + 1 : Nat) : Int), .int (ns[a] / m), .int s], hr, dr_mk _ _ _ _ (Int.ediv_nonneg (by omega) (by omega)), ?_⟩
        simp [runDef, d_l_pick, b_l_pick, ha', hc, hg, hpos, m1, m2, m3, m4, m5, m6, m7, m8, ioOut, scalarV, er]
      · obtain ⟨r, hr, er⟩ := nat_of (i := ((s * 48271 + ns[a] * 69621 + 11) % 2147483647 * 16807) % 2147483629) h0
        refine ⟨r, .lst [.lst (ns.map .int), .int ((a + 1 : Nat) : Int), .int 0, .int ((s * 48271 + ns[a] * 69621 + 11) % 2147483647)], hr, dr_mk _ _ _ _ (by omega), ?_⟩
        simp [runDef, d_l_pick, b_l_pick, ha', hc, hg, m1, m2, m3, m4, m5, m6, m7, m8, ioOut, scalarV, er]
    · have ha' : ¬ (a : Int) < (ns.length : Int) := by omega
      obtain ⟨r, hr, er⟩ := nat_of (i := ((s * 48271 + 7) % 2147483647 * 16807) % 2147483629) h0
      refine ⟨r, .lst [.lst (ns.map .int), .int a, .int 0, .int ((s * 48271 + 7) % 2147483647)], hr, dr_mk _ _ _ _ (by omega), ?_⟩
      simp [runDef, d_l_pick, b_l_pick, ha', m1, m2, m3, m4, m5, m6, m7, m8, ioOut, scalarV, er]
  · have hpos : 0 < b := by omega
    obtain ⟨r, hr, er⟩ := nat_of (i := b) h0
    refine ⟨r, .lst [.lst (ns.map .int), .int a, .int (b / m), .int s], hr, dr_mk _ _ _ _ (Int.ediv_nonneg (by omega) (by omega)), ?_⟩
    simp [runDef, d_l_pick, b_l_pick, hb0, hpos, m1, m2, m3, m4, m5, m6, m7, m8, ioOut, scalarV, er]
theorem draws_call (n : Nat) (ns : List Int) : ∃ v, Dr v ∧ callN GT (n + 1) k_l_draws [.scr ns] = .ok v [] := by
  refine ⟨.lst [.lst (ns.map .int), .int 0, .int 0, .int 7], ⟨ns, 0, 0, 7, rfl, by omega⟩, ?_⟩
  rw [call_of (d := d_l_draws) rfl]
  simp [runDef, d_l_draws, b_l_draws, listV, ioOut]
end CG
end
section
set_option Elab.async false
set_option linter.all false
set_option maxRecDepth 100000
set_option autoImplicit false
/-! M2: drawn fields. -/
namespace CG
open PySem T0
abbrev Tie := Nat × Nat
def plt (p q : Tie) : Prop := p.1 < q.1 ∨ (p.1 = q.1 ∧ p.2 < q.2)
def tieV (p : Tie) : Val := .tup [.int p.1, .int p.2]
def tiesV (ts : List Tie) : Val := .tup (ts.map tieV)
/-- the values of a field as the law has it -/
def fV (m : Nat) (ts : List Tie) : Val := .tup [.int m, tiesV ts]
structure Part (m a b : Nat) (ts : List Tie) : Prop where
  asc : ts.Pairwise plt
  ok : ∀ p ∈ ts, p.1 < p.2 ∧ p.2 < m ∧ plt p (a, b)
/-- a field that may be made -/
structure FOk (m : Nat) (ts : List Tie) : Prop where
  m0 : 1 ≤ m
  m1 : m ≤ 40
  asc : ts.Pairwise plt
  ok : ∀ p ∈ ts, p.1 < p.2 ∧ p.2 < m
  len : ts.length ≤ 60
theorem Part.add {m a b : Nat} {ts : List Tie} (h : Part m a b ts) (h1 : a < b) (h2 : b < m) : Part m a (b + 1) (ts ++ [(a, b)]) := by
  refine ⟨List.pairwise_append.mpr ⟨h.asc, List.pairwise_singleton _ _, fun p hp q hq => ?_⟩, fun p hp => ?_⟩
  · rw [List.mem_singleton.mp hq]; exact (h.ok p hp).2.2
  · rcases List.mem_append.mp hp with hp | hp
    · obtain ⟨g1, g2, g3⟩ := h.ok p hp
      exact ⟨g1, g2, by unfold plt at g3 ⊢; simp only at g3 ⊢; omega⟩
    · rw [List.mem_singleton.mp hp]; exact ⟨h1, h2, .inr ⟨rfl, Nat.lt_succ_self _⟩⟩
theorem Part.up {m a b b' : Nat} {ts : List Tie} (h : Part m a b ts) (hb : b ≤ b') : Part m a b' ts := ⟨h.asc, fun p hp => by
  obtain ⟨g1, g2, g3⟩ := h.ok p hp
  exact ⟨g1, g2, by unfold plt at g3 ⊢; simp only at g3 ⊢; omega⟩⟩
theorem Part.next {m a b : Nat} {ts : List Tie} (h : Part m a b ts) : Part m (a + 1) 0 ts := ⟨h.asc, fun p hp => by
  obtain ⟨g1, g2, g3⟩ := h.ok p hp
  exact ⟨g1, g2, by unfold plt at g3 ⊢; simp only at g3 ⊢; omega⟩⟩
def cnt (m : Nat) : Nat → Nat
  | 0 => 0
  | k + 1 => cnt m k + (m - 1 - k)
theorem cnt_le : ∀ m, m ≤ 9 → cnt m m ≤ 36 := by decide
theorem small_nat {i : Nat} (h : i ≤ 1000) : small (i : Int) = true := by simp [small]; omega
theorem range_get {lo : Int} {n i : Nat} {x : Val} (h : (rangeV lo n)[i]? = some x) : i < n ∧ x = .int (lo + i) := by
  unfold rangeV at h
  rw [List.getElem?_map] at h
  by_cases hi : i < n
  · rw [List.getElem?_range hi] at h; cases h; exact ⟨hi, rfl⟩
  · rw [List.getElem?_eq_none (by simpa using hi)] at h; cases h
theorem range_len {lo : Int} {n : Nat} : (rangeV lo n).length = n := by simp [rangeV]
theorem tiesV_app (ts : List Tie) (p : Tie) (h : ts.length < 100) : addA (tiesV ts) (.tup [.tup [.int p.1, .int p.2]]) = some (tiesV (ts ++ [p])) := by
  simp [addA, tiesV, addV, tieV]
  omega
theorem Dr.sc {v : Val} (h : Dr v) : scalarV v = false := by obtain ⟨_, _, _, _, rfl, _⟩ := h; rfl
/-- a draw within a text: slot i holds the draws -/
theorem draw_at {cl : Cl} {e : Env} {i : Nat} {v v' : Val} {f : M Val} {m : Int} {r : Nat} (he : e[i]? = some (some v)) (hs : scalarV v = false) (hf : f cl e = .ok (.int m) e) (hc : cl 8 [v, .int m] = .ok (.int r) [v']) : mCall 8 (aIo i (aVal f aNil)) cl e = .ok (.int r) (e.set i (some v')) := by
  simp [he, hf, hs, hc]
def fIn : S := sIf (mBin leV (mCall 8 (aIo 0 (aVal (mLit (.int 6)) aNil))) (mVar 4)) (sAsg (bindName 3) (mBin addA (mVar 3) (mTup (iCons (mTup (iCons (mVar 5) (iCons (mVar 6) iNil))) iNil)))) sPass
def fOut : S := sFor (wRng2 (mBin addA (mVar 5) (mLit (.int 1))) (mVar 2)) (bindName 6) fIn
abbrev fE (v : Val) (most m : Nat) (ts : List Tie) (th : Int) (x5 x6 : Option Val) : Env := [some v, some (.int most), some (.int m), some (tiesV ts), some (.int th), x5, x6]
theorem fIn_run (n : Nat) {v : Val} (hv : Dr v) {most m i b : Nat} {ts : List Tie} {th : Int} (hl : ts.length < 100) : ∃ v' ts', fIn (callN GT (n + 1)) (fE v most m ts th (some (.int i)) (some (.int b))) = .next (fE v' most m ts' th (some (.int i)) (some (.int b))) ∧ Dr v' ∧ (ts' = ts ∨ ts' = ts ++ [(i, b)]) := by
  obtain ⟨r, v5, hr, hv5, e5⟩ := pick_call n hv (m := 6) (by omega) (by omega)
  have hd := draw_at (cl := callN GT (n + 1)) (e := fE v most m ts th (some (.int i)) (some (.int b))) (i := 0) (f := mLit (.int 6)) rfl hv.sc rfl e5
  have ea := tiesV_app ts (i, b) hl
  by_cases hc : (r : Int) ≤ th
  · refine ⟨v5, ts ++ [(i, b)], ?_, hv5, .inr rfl⟩
    simp only [fIn, sIf_ap, mBin_ap, hd]
    simp [hc]
    simp at ea
    simp [ea]
  · refine ⟨v5, ts, ?_, hv5, .inl rfl⟩
    simp only [fIn, sIf_ap, mBin_ap, hd]
    simp [hc]
theorem fOut_run (n : Nat) {v : Val} (hv : Dr v) {most m i : Nat} {ts : List Tie} {th : Int} {x6 : Option Val} (hi : i < m) (hm : m ≤ 9) (hp : Part m i 0 ts) (hl : ts.length ≤ cnt m i) (hc : cnt m i ≤ 81) :
    ∃ v' ts' x6', fOut (callN GT (n + 1)) (fE v most m ts th (some (.int i)) x6) = .next (fE v' most m ts' th (some (.int i)) x6') ∧ Dr v' ∧ Part m (i + 1) 0 ts' ∧ ts'.length ≤ cnt m (i + 1) := by
  unfold fOut
  have s1 : small ((i : Int) + 1) = true := by
    rw [show (i : Int) + 1 = ((i + 1 : Nat) : Int) by omega]; exact small_nat (by omega)
  have s2 : small (m : Int) = true := small_nat (by omega)
  have s3 : ((m : Int) - ((i : Int) + 1)).toNat = m - (i + 1) := by omega
  rw [sFor_ok (xs := rangeV ((i : Int) + 1) (m - (i + 1))) (e1 := fE v most m ts th (some (.int i)) x6) (by rw [← s3]; exact wRng2_run (i := (i : Int) + 1) (j := (m : Int)) (e1 := fE v most m ts th (some (.int i)) x6) (by simp) (by simp) s1 s2)]
  obtain ⟨e', h1, v', ts', x6', rfl, hv', hp', hl'⟩ := for_inv (b := bindName 6) (body := fIn) (cl := callN GT (n + 1)) (fun k e => ∃ v' ts' x6, e = fE v' most m ts' th (some (.int i)) x6 ∧ Dr v' ∧ Part m i (i + 1 + k) ts' ∧ ts'.length ≤ ts.length + k) (rangeV ((i : Int) + 1) (m - (i + 1))) 0 (fE v most m ts th (some (.int i)) x6) ⟨v, ts, x6, rfl, hv, hp.up (Nat.zero_le _), by omega⟩ (by
    rintro j x e hx ⟨v4, ts', x6', rfl, hv4, hp', hl'⟩
    obtain ⟨hj, rfl⟩ := range_get hx
    rw [Nat.zero_add] at hp' hl'
    obtain ⟨v5, ts5, h5, hv5, ht⟩ := fIn_run n hv4 (most := most) (m := m) (i := i) (b := i + 1 + j) (ts := ts') (th := th) (by omega)
    refine ⟨fE v4 most m ts' th (some (.int i)) (some (.int ((i + 1 + j : Nat) : Int))), _, by simp, h5, v5, ts5, _, rfl, hv5, ?_, ?_⟩
    · rw [Nat.zero_add]
      rcases ht with rfl | rfl
      · exact hp'.up (by omega)
      · exact hp'.add (by omega) (by omega)
    · rcases ht with rfl | rfl
      · omega
      · simp; omega)
  rw [range_len, Nat.zero_add] at hp' hl'
  exact ⟨v', ts', x6', h1, hv', hp'.next, by simp only [cnt]; omega⟩
theorem cnt_cap {m k : Nat} (hm : m ≤ 9) (hk : k ≤ 9) : cnt m k ≤ 81 := by
  have g : ∀ k, k ≤ 9 → cnt m k ≤ 9 * k := by
    intro k
    induction k with
    | zero => intro _; simp [cnt]
    | succ k ih => intro hk; simp only [cnt]; have := ih (by omega); omega
  have := g k hk; omega
theorem fFor_run (n : Nat) {v : Val} (hv : Dr v) {most m : Nat} {th : Int} (h0 : 1 ≤ m) (hm : m ≤ 9) : ∃ v' ts x5 x6, sFor (wRng1 (mVar 2)) (bindName 5) fOut (callN GT (n + 1)) (fE v most m [] th none none) = .next (fE v' most m ts th x5 x6) ∧ Dr v' ∧ FOk m ts := by
  have s2 : small (m : Int) = true := small_nat (by omega)
  rw [sFor_ok (xs := rangeV 0 m) (e1 := fE v most m [] th none none) (wRng1_run (i := (m : Int)) (by simp) s2)]
  obtain ⟨e', h1, v', ts, x5, x6, rfl, hv', hp, hl⟩ := for_inv (b := bindName 5) (body := fOut) (cl := callN GT (n + 1)) (fun k e => ∃ v' ts x5 x6, e = fE v' most m ts th x5 x6 ∧ Dr v' ∧ Part m k 0 ts ∧ ts.length ≤ cnt m k) (rangeV 0 m) 0 (fE v most m [] th none none) ⟨v, [], none, none, rfl, hv, ⟨List.Pairwise.nil, by simp⟩, by simp [cnt]⟩ (by
    rintro i x e hx ⟨v3, ts, x5, x6, rfl, hv3, hp, hl⟩
    obtain ⟨hi, rfl⟩ := range_get hx
    rw [Nat.zero_add] at hp hl
    obtain ⟨v4, ts4, x64, h4, hv4, hp4, hl4⟩ := fOut_run n hv3 (most := most) (th := th) (x6 := x6) hi hm hp hl (cnt_cap hm (by omega))
    exact ⟨fE v3 most m ts th (some (.int i)) x6, _, by simp, h4, v4, ts4, _, x64, rfl, hv4, by rw [Nat.zero_add]; exact hp4, by rw [Nat.zero_add]; exact hl4⟩)
  rw [range_len, Nat.zero_add] at hp hl
  refine ⟨v', ts, x5, x6, h1, hv', ⟨h0, by omega, hp.asc, fun p hp' => ⟨(hp.ok p hp').1, (hp.ok p hp').2.1⟩, ?_⟩⟩
  have := cnt_le m hm
  omega
theorem field_call (n : Nat) {v : Val} (hv : Dr v) {most : Nat} (h0 : 0 < most) (h1 : most ≤ 9) : ∃ (m : Nat) (ts : List Tie) (v' : Val), FOk m ts ∧ m ≤ most ∧ Dr v' ∧ callN GT (n + 2) k_l_field [v, .int most] = .ok (fV m ts) [v'] := by
  rw [call_of (d := d_l_field) rfl]
  obtain ⟨r1, v1, hr1, hv1, e1⟩ := pick_call n hv (m := most) (by omega) (by omega)
  obtain ⟨r2, v2, hr2, hv2, e2⟩ := pick_call n hv1 (m := 4) (by omega) (by omega)
  obtain ⟨v', ts, x5, x6, hk, hv', hf⟩ := fFor_run n hv2 (most := most) (m := 1 + r1) (th := 1 + (r2 : Int)) (by omega) (by omega)
  refine ⟨1 + r1, ts, v', hf, by omega, hv', ?_⟩
  have hb : d_l_field.body = sSeq (sPar2 2 3 (mBin addA (mLit (.int 1)) (mCall 8 (aIo 0 (aVal (mVar 1) aNil)))) (mTup iNil)) (sSeq (sAsg (bindName 4) (mBin addA (mLit (.int 1)) (mCall 8 (aIo 0 (aVal (mLit (.int 4)) aNil))))) (sSeq (sFor (wRng1 (mVar 2)) (bindName 5) fOut) (sRet (mTup (iCons (mVar 2) (iCons (mVar 3) iNil)))))) := rfl
  have ec : ((1 + r1 : Nat) : Int) = 1 + (r1 : Int) := by omega
  have q1 : sPar2 2 3 (mBin addA (mLit (.int 1)) (mCall 8 (aIo 0 (aVal (mVar 1) aNil)))) (mTup iNil) (callN GT (n + 1)) [some v, some (.int most), none, none, none, none, none] = .next [some v1, some (.int most), some (.int (1 + (r1 : Int))), some (.tup []), none, none, none] := by
    simp [sPar2, e1, hv.sc]
  have q2 : sAsg (bindName 4) (mBin addA (mLit (.int 1)) (mCall 8 (aIo 0 (aVal (mLit (.int 4)) aNil)))) (callN GT (n + 1)) [some v1, some (.int most), some (.int (1 + (r1 : Int))), some (.tup []), none, none, none] = .next (fE v2 most (1 + r1) [] (1 + (r2 : Int)) none none) := by
    simp [e2, hv1.sc, ec, tiesV]
  have q3 : d_l_field.body (callN GT (n + 1)) [some v, some (.int most), none, none, none, none, none] = .ret (fV (1 + r1) ts) (fE v' most (1 + r1) ts (1 + (r2 : Int)) x5 x6) := by
    rw [hb, sSeq_ap, q1, then_next, sSeq_ap, q2, then_next, sSeq_ap, hk, then_next]
    simp [fV]
  exact run_ret rfl rfl q3 (by simp [d_l_field, ioOut, hv'.sc])
end CG
end
section
set_option Elab.async false
set_option linter.all false
set_option maxRecDepth 100000
set_option autoImplicit false
/-! M3: sorted, min, max of ints and of ties. -/
namespace CG
open PySem T0
section
variable {α : Type} {f : α → Val} {g : α → PyData} {lt : α → α → Bool}
theorem toDs_of (h : ∀ a, toD (f a) = some (g a)) : ∀ l : List α, toDs (l.map f) = some (l.map g)
  | [] => by simp [toDs]
  | x :: l => by simp [toDs, h x, toDs_of h l]
theorem depth_of {k : Nat} (h : ∀ a, (g a).depth ≤ k) : ∀ l : List α, PyData.depthAll (l.map g) ≤ k
  | [] => by simp [PyData.depthAll]
  | x :: l => by rw [List.map_cons, PyData.depthAll]; exact Nat.max_le.mpr ⟨h x, depth_of h l⟩
theorem alikeB_of (h : ∀ a b, PySem.W.alike (g a) (g b) = true) (l : List α) : alikeB (l.map g) = true := by
  unfold alikeB
  simp [h]
/-- a kind of data that Python's < orders as lt -/
structure Kind (f : α → Val) (g : α → PyData) (lt : α → α → Bool) : Prop where
  d : ∀ a, toD (f a) = some (g a)
  al : ∀ a b, PySem.W.alike (g a) (g b) = true
  dp : ∀ a, (g a).depth ≤ 40
  nn : (∀ a, isTupB (g a) = true) ∨ (∀ a, notTupB (g a) = true)
  lt : ∀ a b, dlt (f a) (f b) = lt a b
theorem Kind.sortable (k : Kind f g lt) (l : List α) : sortableB (l.map g) = true := by
  unfold sortableB
  rw [alikeB_of k.al, Bool.true_and, Bool.and_eq_true]
  refine ⟨?_, by simpa using depth_of k.dp l⟩
  rcases k.nn with h | h
  · simp [h]
  · simp [h]
theorem Kind.sort (k : Kind f g lt) (l : List α) (hl : l.length ≤ 1000) : sortV (.lst (l.map f)) = some (.lst ((l.mergeSort fun a b => !lt b a).map f)) := by
  unfold sortV
  simp only [toDs_of k.d, k.sortable, Bool.true_and, List.length_map]
  rw [if_pos (by simp; omega)]
  congr 2
  rw [List.map_mergeSort (r := fun a b => !lt b a) (s := dle)]
  intro a _ b _
  unfold dle
  rw [k.lt]
theorem Kind.bestable (k : Kind f g lt) (hn : ∀ a, g a ≠ .none) (l : List α) : bestable (l.map g) = true := by
  unfold CG.bestable
  rw [alikeB_of k.al, Bool.true_and, Bool.and_eq_true]
  refine ⟨?_, by simpa using depth_of k.dp l⟩
  simp only [List.all_map, List.all_eq_true]
  intro a _
  have := hn a
  show (match g a with | .none => false | _ => true) = true
  cases hg : g a <;> simp_all
theorem best_map (k : Kind f g lt) : ∀ (l : List α) (a : α), bestOf dlt (f a) (l.map f) = f (l.foldl (fun a y => if lt y a then y else a) a)
  | [], a => rfl
  | b :: l, a => by
    show bestOf dlt (if dlt (f b) (f a) = true then f b else f a) (l.map f) = _
    rw [k.lt]
    have := best_map k l (if lt b a = true then b else a)
    rw [List.foldl_cons, ← this]
    split <;> rfl
theorem Kind.min (k : Kind f g lt) (hn : ∀ a, g a ≠ .none) (a : α) (l : List α) : minV (.lst (f a :: l.map f)) = some (f (l.foldl (fun a y => if lt y a then y else a) a)) := by
  unfold minV bestV
  simp only [itemsOf]
  rw [show f a :: l.map f = (a :: l).map f from rfl, toDs_of k.d]
  simp only [List.map_cons]
  rw [show g a :: l.map g = (a :: l).map g from rfl, k.bestable hn, if_pos rfl, best_map k]
end
theorem kindI : Kind (fun i : Int => Val.int i) .int (fun a b => decide (a < b)) := ⟨fun _ => by simp [toD], fun _ _ => by simp [PySem.W.alike], fun _ => by simp [PyData.depth], .inr fun _ => rfl, fun a b => by simp [dlt, encD, toD, PySem.W.dataLt_int]⟩
instance (p q : Tie) : Decidable (plt p q) := by unfold plt; exact inferInstance
def tieD (p : Tie) : PyData := .tuple [.int p.1, .int p.2]
theorem tie_d (p : Tie) : toD (tieV p) = some (tieD p) := by simp [tieV, tieD, toD, toDs]
theorem tie_lt (p q : Tie) : dlt (tieV p) (tieV q) = decide (plt p q) := by
  unfold dlt encD
  rw [tie_d, tie_d]
  show PySem.W.dataLt (tieD p) (tieD q) = _
  unfold tieD
  rw [PySem.W.dataLt_tuple]
  have al : ∀ a b : Int, PySem.W.alike (.int a) (.int b) = true := fun _ _ => by simp [PySem.W.alike]
  by_cases h1 : p.1 = q.1
  · rw [PySem.W.dataLt_all_yes (al _ _) (by simp [PyData.eqv, h1])]
    by_cases h2 : p.2 = q.2
    · rw [PySem.W.dataLt_all_yes (al _ _) (by simp [PyData.eqv, h2])]
      rw [show PyProof.Rows.lexLt PyProof.Rows.itemOrd (PySem.W.keyToksAll []) (PySem.W.keyToksAll []) = false by decide +kernel]
      simp [plt, h1, h2]
    · rw [PySem.W.dataLt_all_no (al _ _) (by simp [PyData.eqv]; omega), PySem.W.dataLt_int]
      simp [plt, h1]
  · rw [PySem.W.dataLt_all_no (al _ _) (by simp [PyData.eqv]; omega), PySem.W.dataLt_int]
    simp only [plt, h1, false_and, or_false]
    simp
theorem kindT : Kind tieV tieD (fun a b => decide (plt a b)) := ⟨tie_d, fun _ _ => by simp [tieD, PySem.W.alike, PySem.W.alikeAll], fun _ => by simp [tieD, PyData.depth, PyData.depthAll], .inl fun _ => rfl, tie_lt⟩
theorem plt_irr (p : Tie) : ¬ plt p p := by unfold plt; omega
theorem plt_trans {p q r : Tie} (h1 : plt p q) (h2 : plt q r) : plt p r := by unfold plt at *; omega
theorem plt_tot (p q : Tie) : plt p q ∨ p = q ∨ plt q p := by
  obtain ⟨a, b⟩ := p; obtain ⟨c, d⟩ := q
  unfold plt; simp only [Prod.mk.injEq]; omega
/-- the sorted list of unlike ties ascends -/
theorem sort_asc {l : List Tie} (h : l.Nodup) : (l.mergeSort fun a b => !decide (plt b a)).Pairwise plt := by
  have h1 := List.pairwise_mergeSort (le := fun a b => !decide (plt b a)) (fun a b c h1 h2 => by
    simp at h1 h2 ⊢
    intro h3
    rcases plt_tot a b with h | rfl | h
    · exact h2 (plt_trans h3 h)
    · exact h2 h3
    · exact h1 h) (fun a b => by
    simp
    rcases plt_tot a b with h | rfl | h
    · exact .inl fun z => plt_irr _ (plt_trans h z)
    · exact .inl (plt_irr _)
    · exact .inr fun z => plt_irr _ (plt_trans h z)) l
  have h2 : (l.mergeSort fun a b => !decide (plt b a)).Nodup := (List.mergeSort_perm l _).nodup_iff.mpr h
  refine (h1.and h2).imp fun {a b} ⟨h3, h4⟩ => ?_
  simp at h3
  rcases plt_tot a b with h | rfl | h
  · exact h
  · exact absurd rfl h4
  · exact absurd h h3
theorem asc_nodup {l : List Tie} (h : l.Pairwise plt) : l.Nodup := h.imp fun {a b} h => by rintro rfl; exact plt_irr _ h
/-- two ascending lists with the same ties -/
theorem asc_eq {l m : List Tie} (hl : l.Pairwise plt) (hm : m.Pairwise plt) (h : ∀ p, p ∈ l ↔ p ∈ m) : l = m := by
  have hp : l.Perm m := (List.perm_ext_iff_of_nodup (asc_nodup hl) (asc_nodup hm)).mpr h
  exact hp.eq_of_pairwise (le := plt) (fun a b _ _ h1 h2 => (plt_irr _ (plt_trans h1 h2)).elim) hl hm
end CG
end
section
set_option Elab.async false
set_option linter.all false
set_option maxRecDepth 100000
set_option autoImplicit false
/-! M4: drawn trees. -/
namespace CG
open PySem T0
theorem cut_take {xs : List Val} {k : Nat} (h : k ≤ xs.length) : cutL xs none (some (k : Int)) = xs.take k := by
  unfold cutL
  rw [HT.sIx_none, HT.sIx_nat, Nat.min_eq_left h]
  simp
theorem cut_drop {xs : List Val} {k : Nat} (h : k ≤ xs.length) : cutL xs (some (k : Int)) none = xs.drop k := by
  unfold cutL
  rw [HT.sIx_none, HT.sIx_nat, Nat.min_eq_left h, List.take_of_length_le (by simp)]
def intsV (l : List Nat) : Val := .lst (l.map fun (k : Nat) => .int k)
def mkT (a b : Nat) : Tie := if a < b then (a, b) else (b, a)
/-- ties of a tree, as they are drawn -/
def TreeE (nm : List Nat) (es : List Tie) : Prop := ∀ j, j < es.length → ∃ o, o ≤ j ∧ es[j]? = some (mkT (nm.getD (j + 1) 0) (nm.getD o 0))
theorem mkT_eq {a b c d : Nat} (h : mkT a b = mkT c d) : (a = c ∧ b = d) ∨ (a = d ∧ b = c) := by
  unfold mkT at h
  split at h <;> split at h <;> (simp only [Prod.mk.injEq] at h; omega)
theorem nm_inj {nm : List Nat} (hn : nm.Nodup) {i j : Nat} (hi : i < nm.length) (hj : j < nm.length) (h : nm.getD i 0 = nm.getD j 0) : i = j := by
  rw [List.getD_eq_getElem?_getD, List.getD_eq_getElem?_getD, List.getElem?_eq_getElem hi, List.getElem?_eq_getElem hj] at h
  exact (List.getElem?_inj hi hn).mp (by rw [List.getElem?_eq_getElem hi, List.getElem?_eq_getElem hj]; exact congrArg some h)
theorem TreeE.nodup {nm : List Nat} {es : List Tie} (h : TreeE nm es) (hn : nm.Nodup) (hl : nm.length = es.length + 1) : es.Nodup := by
  rw [List.nodup_iff_pairwise_ne, List.pairwise_iff_getElem]
  intro i j hi hj hij he
  obtain ⟨o, h1, h2⟩ := h i hi
  obtain ⟨o', h1', h2'⟩ := h j hj
  rw [List.getElem?_eq_getElem hi] at h2
  rw [List.getElem?_eq_getElem hj] at h2'
  have e : mkT (nm.getD (i + 1) 0) (nm.getD o 0) = mkT (nm.getD (j + 1) 0) (nm.getD o' 0) := by
    rw [← Option.some.inj h2, ← Option.some.inj h2', he]
  rcases mkT_eq e with ⟨g, _⟩ | ⟨g1, g2⟩
  · have := nm_inj hn (by omega) (by omega) g; omega
  · have a1 := nm_inj hn (by omega) (by omega) g1
    have a2 := nm_inj hn (by omega) (by omega) g2
    omega
theorem TreeE.ok {nm : List Nat} {es : List Tie} {m : Nat} (h : TreeE nm es) (hn : nm.Nodup) (hl : nm.length = es.length + 1) (hm : ∀ x ∈ nm, x < m) : ∀ p ∈ es, p.1 < p.2 ∧ p.2 < m := by
  intro p hp
  obtain ⟨j, hj⟩ := List.getElem?_of_mem hp
  have hjl := (List.getElem?_eq_some_iff.mp hj).1
  obtain ⟨o, h1, h2⟩ := h j hjl
  rw [hj] at h2
  cases h2
  have n1 : nm.getD (j + 1) 0 < m := by
    rw [List.getD_eq_getElem?_getD, List.getElem?_eq_getElem (by omega)]
    exact hm _ (List.getElem_mem _)
  have n2 : nm.getD o 0 < m := by
    rw [List.getD_eq_getElem?_getD, List.getElem?_eq_getElem (by omega)]
    exact hm _ (List.getElem_mem _)
  have ne : nm.getD (j + 1) 0 ≠ nm.getD o 0 := fun z => by have := nm_inj hn (by omega) (by omega) z; omega
  unfold mkT
  split
  · exact ⟨by assumption, n1 |> fun _ => n2⟩
  · refine ⟨?_, n1⟩
    show nm.getD o 0 < nm.getD (j + 1) 0
    omega
def tA : S := sSeq (sAsg (bindName 7) (mCall 8 (aIo 0 (aVal (mBin addA (mVar 6) (mLit (.int 1))) aNil)))) (sAsg (bindName 4) (mBin addA (mBin addA (mSlice sliceV (mVar 4) oNone (oSome (mVar 7))) (mLst (iCons (mVar 6) iNil))) (mSlice sliceV (mVar 4) (oSome (mVar 7)) oNone)))
def tB : S := sSeq (sAsg (bindName 8) (mBin itemV (mLst (iCons (mLit (.int 0)) (iCons (mCallB max2V (iCons (mLit (.int 0)) (iCons (mBin subV (mVar 6) (mLit (.int 2))) iNil))) (iCons (mBin fdivV (mVar 6) (mLit (.int 3))) iNil)))) (mVar 3))) (sSeq (sAsg (bindName 9) (mBin addA (mVar 8) (mCall 8 (aIo 0 (aVal (mBin subV (mVar 6) (mVar 8)) aNil))))) (sApp 5 (mTup (iCons (mCallB min2V (iCons (mBin itemV (mVar 4) (mVar 6)) (iCons (mBin itemV (mVar 4) (mVar 9)) iNil))) (iCons (mCallB max2V (iCons (mBin itemV (mVar 4) (mVar 6)) (iCons (mBin itemV (mVar 4) (mVar 9)) iNil))) iNil)))))
abbrev tE (v : Val) (most m so : Nat) (nm : List Nat) (es : List Tie) (x6 x7 x8 x9 : Option Val) : Env := [some v, some (.int most), some (.int m), some (.int so), some (intsV nm), some (.lst (es.map tieV)), x6, x7, x8, x9]
theorem tA_run (n : Nat) {v : Val} (hv : Dr v) {most m so k : Nat} {nm : List Nat} {es : List Tie} {x7 x8 x9 : Option Val} (hk : k ≤ 100) (hl : nm.length = k) : ∃ v' at_ x7', tA (callN GT (n + 1)) (tE v most m so nm es (some (.int k)) x7 x8 x9) = .next (tE v' most m so (nm.take at_ ++ [k] ++ nm.drop at_) es (some (.int k)) x7' x8 x9) ∧ Dr v' ∧ at_ ≤ k := by
  obtain ⟨r, v', hr, hv', e⟩ := pick_call n hv (m := (k : Int) + 1) (by omega) (by omega)
  have hrk : r ≤ k := by omega
  have hd := draw_at (cl := callN GT (n + 1)) (e := tE v most m so nm es (some (.int k)) x7 x8 x9) (i := 0) (f := mBin addA (mVar 6) (mLit (.int 1))) rfl hv.sc (by simp) e
  refine ⟨v', r, some (.int r), ?_, hv', hrk⟩
  have q1 : sAsg (bindName 7) (mCall 8 (aIo 0 (aVal (mBin addA (mVar 6) (mLit (.int 1))) aNil))) (callN GT (n + 1)) (tE v most m so nm es (some (.int k)) x7 x8 x9) = .next (tE v' most m so nm es (some (.int k)) (some (.int r)) x8 x9) := by
    rw [sAsg_ap, hd]; simp
  unfold tA
  rw [seq_next q1]
  have c1 : cutL (nm.map fun (k : Nat) => Val.int k) none (some (r : Int)) = (nm.map fun (k : Nat) => Val.int k).take r := cut_take (by simp; omega)
  have c2 : cutL (nm.map fun (k : Nat) => Val.int k) (some (r : Int)) none = (nm.map fun (k : Nat) => Val.int k).drop r := cut_drop (by simp; omega)
  have a1 : ∀ xs ys : List Val, xs.length + ys.length ≤ 1000 → addA (.lst xs) (.lst ys) = some (.lst (xs ++ ys)) := fun xs ys h => by
    have h2 : xs.length + ys.length ≤ line := by simp; omega
    simp only [addA, catV, if_pos h2]
  simp [sliceV, intsV, c1, c2]
  rw [a1 _ _ (by simp; omega)]
  simp [sliceV, intsV, c1, c2]
  rw [a1 _ _ (by simp; omega)]
  simp [intsV]
theorem ix_get {nm : List Nat} {i : Nat} (h : i < nm.length) : L2.atI (nm.map fun (k : Nat) => Val.int (k : Int)) (i : Int) = some (.int (nm.getD i 0 : Nat)) := by
  refine L2.atI_nat ?_
  rw [List.getElem?_map, List.getElem?_eq_getElem h, List.getD_eq_getElem?_getD, List.getElem?_eq_getElem h]
  rfl
theorem tB_run (n : Nat) {v : Val} (hv : Dr v) {most m so k : Nat} {nm : List Nat} {es : List Tie} {x7 x8 x9 : Option Val} (hso : so < 3) (hk : k ≤ 100) (hk1 : 1 ≤ k) (hl : k < nm.length) (hes : es.length ≤ 100) : ∃ v' o x8' x9', tB (callN GT (n + 1)) (tE v most m so nm es (some (.int k)) x7 x8 x9) = .next (tE v' most m so nm (es ++ [mkT (nm.getD k 0) (nm.getD o 0)]) (some (.int k)) x7 x8' x9') ∧ Dr v' ∧ o < k := by
  obtain ⟨low, hlow, q1⟩ : ∃ low : Nat, low < k ∧ sAsg (bindName 8) (mBin itemV (mLst (iCons (mLit (.int 0)) (iCons (mCallB max2V (iCons (mLit (.int 0)) (iCons (mBin subV (mVar 6) (mLit (.int 2))) iNil))) (iCons (mBin fdivV (mVar 6) (mLit (.int 3))) iNil)))) (mVar 3)) (callN GT (n + 1)) (tE v most m so nm es (some (.int k)) x7 x8 x9) = .next (tE v most m so nm es (some (.int k)) x7 (some (.int low)) x9) := by
    have f3 : fdivV (.int (k : Int)) (.int 3) = some (.int ((k : Int) / 3)) := fdivV_pos (by omega) (by omega)
    have so3 : so = 0 ∨ so = 1 ∨ so = 2 := by omega
    rcases so3 with rfl | rfl | rfl
    · exact ⟨0, by omega, by simp [f3, max2V]⟩
    · refine ⟨k - 2, by omega, ?_⟩
      have : (if (k : Int) - 2 > 0 then (k : Int) - 2 else 0) = ((k - 2 : Nat) : Int) := by split <;> omega
      simp [f3, max2V]
      simpa using this
    · refine ⟨k / 3, by omega, ?_⟩
      simp [f3, max2V]
  obtain ⟨r, v', hr, hv', e⟩ := pick_call n hv (m := (k : Int) - (low : Int)) (by omega) (by omega)
  have hd := draw_at (cl := callN GT (n + 1)) (e := tE v most m so nm es (some (.int k)) x7 (some (.int low)) x9) (i := 0) (f := mBin subV (mVar 6) (mVar 8)) rfl hv.sc (by simp) e
  have q2 : sAsg (bindName 9) (mBin addA (mVar 8) (mCall 8 (aIo 0 (aVal (mBin subV (mVar 6) (mVar 8)) aNil)))) (callN GT (n + 1)) (tE v most m so nm es (some (.int k)) x7 (some (.int low)) x9) = .next (tE v' most m so nm es (some (.int k)) x7 (some (.int low)) (some (.int ((low + r : Nat) : Int)))) := by
    rw [sAsg_ap, mBin_ap, var_at (v := .int low) rfl, bind_ok, hd]
    simp
  refine ⟨v', low + r, some (.int low), some (.int ((low + r : Nat) : Int)), ?_, hv', by omega⟩
  unfold tB
  rw [seq_next q1, seq_next q2]
  have g1 := ix_get (nm := nm) (i := k) hl
  have g2 := ix_get (nm := nm) (i := low + r) (by omega)
  have hc : ((low + r : Nat) : Int) = (low : Int) + r := by omega
  rw [hc] at g2 ⊢
  have hlt : es.length < 16777216 := by omega
  simp [intsV, g1, g2, min2V, max2V, hlt]
  have ht : ∀ a b : Nat, ∀ {x y : Int}, x = (if (b : Int) < (a : Int) then (b : Int) else (a : Int)) → y = (if (a : Int) < (b : Int) then (b : Int) else (a : Int)) → (Val.tup [.int x, .int y]) = tieV (mkT a b) := fun a b x y hx hy => by
    subst hx hy
    unfold mkT tieV
    by_cases h : a < b
    · rw [if_pos h, if_neg (by omega), if_pos (by omega)]
    · rw [if_neg h, if_neg (by omega : ¬ (a : Int) < (b : Int))]
      by_cases h2 : b < a
      · rw [if_pos (by omega)]
      · rw [if_neg (by omega)]
        have : a = b := by omega
        subst this; rfl
  have := ht (nm[k]?.getD 0) (nm[low + r]?.getD 0) rfl rfl
  simpa using this
/-- a drawn tree: names of all senders, ties from each to one ahead -/
structure TOk (m : Nat) (ts : List Tie) : Prop where
  f : FOk m ts
  tr : ∃ (nm : List Nat) (es : List Tie), nm.Perm (List.range m) ∧ es.length + 1 = m ∧ TreeE nm es ∧ ts.Perm es
theorem tFor1 (n : Nat) {v : Val} (hv : Dr v) {most m so : Nat} (h0 : 1 ≤ m) (hm : m ≤ 40) : ∃ v' nm x6 x7, sFor (wRng2 (mLit (.int 1)) (mVar 2)) (bindName 6) tA (callN GT (n + 1)) (tE v most m so [0] [] none none none none) = .next (tE v' most m so nm [] x6 x7 none none) ∧ Dr v' ∧ nm.Perm (List.range m) := by
  have s1 : small (1 : Int) = true := by decide
  have s2 : small (m : Int) = true := small_nat (by omega)
  have s3 : ((m : Int) - 1).toNat = m - 1 := by omega
  rw [sFor_ok (xs := rangeV 1 (m - 1)) (e1 := tE v most m so [0] [] none none none none) (by rw [← s3]; exact wRng2_run (i := 1) (j := (m : Int)) (e1 := tE v most m so [0] [] none none none none) (by simp) (by simp) s1 s2)]
  obtain ⟨e', h1, v', nm, x6, x7, rfl, hv', hp⟩ := for_inv (b := bindName 6) (body := tA) (cl := callN GT (n + 1)) (fun k e => ∃ v' nm x6 x7, e = tE v' most m so nm [] x6 x7 none none ∧ Dr v' ∧ nm.Perm (List.range (k + 1))) (rangeV 1 (m - 1)) 0 (tE v most m so [0] [] none none none none) ⟨v, [0], none, none, rfl, hv, by simp [List.range_succ]⟩ (by
    rintro i x e hx ⟨v3, nm, x6, x7, rfl, hv3, hp⟩
    obtain ⟨hi, rfl⟩ := range_get hx
    rw [Nat.zero_add] at hp
    have hl : nm.length = i + 1 := by have := hp.length_eq; simpa using this
    obtain ⟨v4, at_, x7', h4, hv4, ha⟩ := tA_run n hv3 (most := most) (m := m) (so := so) (k := i + 1) (nm := nm) (es := []) (x7 := x7) (x8 := none) (x9 := none) (by omega) hl
    refine ⟨tE v3 most m so nm [] (some (.int ((i + 1 : Nat) : Int))) x7 none none, _, by simp; omega, h4, v4, _, _, x7', rfl, hv4, ?_⟩
    rw [Nat.zero_add, List.range_succ]
    have e1 : (nm.take at_ ++ [i + 1] ++ nm.drop at_).Perm (nm ++ [i + 1]) := by
      have : (nm.take at_ ++ nm.drop at_ ++ [i + 1]).Perm (nm.take at_ ++ [i + 1] ++ nm.drop at_) := by
        rw [List.append_assoc, List.append_assoc]
        exact List.Perm.append_left _ List.perm_append_comm
      rw [List.take_append_drop] at this
      exact this.symm
    exact e1.trans (hp.append_right _))
  rw [range_len, Nat.zero_add, show m - 1 + 1 = m by omega] at hp
  exact ⟨v', nm, x6, x7, h1, hv', hp⟩
theorem tFor2 (n : Nat) {v : Val} (hv : Dr v) {most m so : Nat} {nm : List Nat} {x6 x7 : Option Val} (h0 : 1 ≤ m) (hm : m ≤ 40) (hso : so < 3) (hn : nm.length = m) : ∃ v' es y6 x8 x9, sFor (wRng2 (mLit (.int 1)) (mVar 2)) (bindName 6) tB (callN GT (n + 1)) (tE v most m so nm [] x6 x7 none none) = .next (tE v' most m so nm es y6 x7 x8 x9) ∧ Dr v' ∧ TreeE nm es ∧ es.length + 1 = m := by
  have s1 : small (1 : Int) = true := by decide
  have s2 : small (m : Int) = true := small_nat (by omega)
  have s3 : ((m : Int) - 1).toNat = m - 1 := by omega
  rw [sFor_ok (xs := rangeV 1 (m - 1)) (e1 := tE v most m so nm [] x6 x7 none none) (by rw [← s3]; exact wRng2_run (i := 1) (j := (m : Int)) (e1 := tE v most m so nm [] x6 x7 none none) (by simp) (by simp) s1 s2)]
  obtain ⟨e', h1, v', es, x6, x8, x9, rfl, hv', hp, hl⟩ := for_inv (b := bindName 6) (body := tB) (cl := callN GT (n + 1)) (fun k e => ∃ v' es x6 x8 x9, e = tE v' most m so nm es x6 x7 x8 x9 ∧ Dr v' ∧ TreeE nm es ∧ es.length = k) (rangeV 1 (m - 1)) 0 (tE v most m so nm [] x6 x7 none none) ⟨v, [], x6, none, none, rfl, hv, fun j h => by simp at h, rfl⟩ (by
    rintro i x e hx ⟨v3, es, x6, x8, x9, rfl, hv3, hp, hl⟩
    obtain ⟨hi, rfl⟩ := range_get hx
    rw [Nat.zero_add] at hl
    obtain ⟨v4, o, x8', x9', h4, hv4, ho⟩ := tB_run n hv3 (most := most) (m := m) (so := so) (k := i + 1) (nm := nm) (es := es) (x7 := x7) (x8 := x8) (x9 := x9) hso (by omega) (by omega) (by omega) (by omega)
    refine ⟨tE v3 most m so nm es (some (.int ((i + 1 : Nat) : Int))) x7 x8 x9, _, by simp; omega, h4, v4, _, _, x8', x9', rfl, hv4, ?_, by simp; omega⟩
    intro j hj
    rw [List.length_append, List.length_singleton] at hj
    by_cases hj2 : j < es.length
    · obtain ⟨o', g1, g2⟩ := hp j hj2
      exact ⟨o', g1, by rw [List.getElem?_append_left hj2]; exact g2⟩
    · have : j = i := by omega
      subst this
      refine ⟨o, by omega, ?_⟩
      rw [List.getElem?_append_right (by omega), hl, Nat.sub_self]
      rfl)
  rw [range_len] at hl
  exact ⟨v', es, x6, x8, x9, h1, hv', hp, by omega⟩
theorem tree_call (n : Nat) {v : Val} (hv : Dr v) {most : Nat} (h0 : 0 < most) (h1 : most ≤ 40) : ∃ (m : Nat) (ts : List Tie) (v' : Val), TOk m ts ∧ m ≤ most ∧ Dr v' ∧ callN GT (n + 2) k_l_tree [v, .int most] = .ok (fV m ts) [v'] := by
  rw [call_of (d := d_l_tree) rfl]
  obtain ⟨r1, v1, hr1, hv1, e1⟩ := pick_call n hv (m := most) (by omega) (by omega)
  obtain ⟨so, v2, hr2, hv2, e2⟩ := pick_call n hv1 (m := 3) (by omega) (by omega)
  obtain ⟨v3, nm, x6, x7, hk, hv3, hp⟩ := tFor1 n hv2 (most := most) (m := 1 + r1) (so := so) (by omega) (by omega)
  have hnl : nm.length = 1 + r1 := by have := hp.length_eq; simpa using this
  obtain ⟨v4, es, x6', x8, x9, hk2, hv4, ht, hes⟩ := tFor2 n hv3 (most := most) (m := 1 + r1) (so := so) (nm := nm) (x6 := x6) (x7 := x7) (by omega) (by omega) (by omega) hnl
  have hnd : nm.Nodup := hp.nodup_iff.mpr List.nodup_range
  have hmem : ∀ x ∈ nm, x < 1 + r1 := fun x hx => List.mem_range.mp (hp.mem_iff.mp hx)
  have hperm := List.mergeSort_perm es fun a b => !decide (plt b a)
  have hesnd := ht.nodup hnd (by omega)
  have hok := ht.ok hnd (by omega) hmem
  refine ⟨1 + r1, es.mergeSort fun a b => !decide (plt b a), v4, ⟨⟨by omega, by omega, sort_asc hesnd, fun p hp' => hok p (hperm.mem_iff.mp hp'), by rw [hperm.length_eq]; omega⟩, nm, es, hp, hes, ht, hperm⟩, by omega, hv4, ?_⟩
  have hb : d_l_tree.body = sSeq (sPar2 2 3 (mBin addA (mLit (.int 1)) (mCall 8 (aIo 0 (aVal (mVar 1) aNil)))) (mCall 8 (aIo 0 (aVal (mLit (.int 3)) aNil)))) (sSeq (sPar2 4 5 (mLst (iCons (mLit (.int 0)) iNil)) (mLst iNil)) (sSeq (sFor (wRng2 (mLit (.int 1)) (mVar 2)) (bindName 6) tA) (sSeq (sFor (wRng2 (mLit (.int 1)) (mVar 2)) (bindName 6) tB) (sRet (mTup (iCons (mVar 2) (iCons (mCallB (op1 tupleV) (iCons (mUnS sortV 5) iNil)) iNil))))))) := rfl
  have ec : ((1 + r1 : Nat) : Int) = 1 + (r1 : Int) := by omega
  have q1 : sPar2 2 3 (mBin addA (mLit (.int 1)) (mCall 8 (aIo 0 (aVal (mVar 1) aNil)))) (mCall 8 (aIo 0 (aVal (mLit (.int 3)) aNil))) (callN GT (n + 1)) [some v, some (.int most), none, none, none, none, none, none, none, none] = .next [some v2, some (.int most), some (.int ((1 + r1 : Nat) : Int)), some (.int so), none, none, none, none, none, none] := by
    simp [sPar2, e1, e2, hv.sc, hv1.sc]
  have q2 : sPar2 4 5 (mLst (iCons (mLit (.int 0)) iNil)) (mLst iNil) (callN GT (n + 1)) [some v2, some (.int most), some (.int ((1 + r1 : Nat) : Int)), some (.int so), none, none, none, none, none, none] = .next (tE v2 most (1 + r1) so [0] [] none none none none) := by
    simp [sPar2, intsV]
  have q3 : d_l_tree.body (callN GT (n + 1)) [some v, some (.int most), none, none, none, none, none, none, none, none] = .ret (fV (1 + r1) (es.mergeSort fun a b => !decide (plt b a))) (tE v4 most (1 + r1) so nm es x6' x7 x8 x9) := by
    rw [hb, seq_next q1, seq_next q2, seq_next hk, seq_next hk2]
    have := kindT.sort es (by omega)
    simp [fV, this, tupleV, tiesV]
  exact run_ret rfl rfl q3 (by simp [d_l_tree, ioOut, hv4.sc])
end CG
end
section
set_option Elab.async false
set_option linter.all false
set_option maxRecDepth 100000
set_option autoImplicit false
/-! M5: a field is made. -/
namespace CG
open PySem T0
def isTie (m : Int) (v : Val) : Bool := match v with
  | .tup [a, b] => isFrom a 0 (m - 1) && isFrom b 0 (m - 1) && (match a, b with | .int i, .int j => decide (i < j) | _, _ => false)
  | _ => false
theorem isFrom_int {v : Val} {lo hi : Int} (h : isFrom v lo hi = true) : ∃ i, v = .int i ∧ lo ≤ i ∧ i ≤ hi := by
  cases v <;> simp [isFrom] at h
  exact ⟨_, rfl, h.1, h.2⟩
theorem is_tie_call (n : Nat) {m : Int} {v : Val} (hv : plainV v = true) (hx : ∀ xs, v = .tup xs → ∀ x ∈ xs, plainV x = true) : callN GT (n + 2) k_is_tie [.int m, v] = .ok (.bl (isTie m v)) [] := by
  rw [call_of (d := d_is_tie) rfl]
  by_cases ht : ∃ xs, v = .tup xs
  · obtain ⟨xs, rfl⟩ := ht
    by_cases hl : xs.length = 2
    · match xs, hl with
      | [a, b], _ =>
        have ha := hx _ rfl a (by simp)
        have hb := hx _ rfl b (by simp)
        have ea := is_from_call n ha 0 (m - 1)
        have eb := is_from_call n hb 0 (m - 1)
        by_cases h1 : isFrom a 0 (m - 1) = true
        · by_cases h2 : isFrom b 0 (m - 1) = true
          · obtain ⟨i, rfl, i1, i2⟩ := isFrom_int h1
            obtain ⟨j, rfl, j1, j2⟩ := isFrom_int h2
            simp [runDef, d_is_tie, b_is_tie, isiV, tyName, isTy, ioOut, mLc, mLcGo, wipeE, unwipe, itemsOf, ea, eb, allV, blsOf, isTie, h1, h2]
          · simp [runDef, d_is_tie, b_is_tie, isiV, tyName, isTy, ioOut, mLc, mLcGo, wipeE, unwipe, itemsOf, ea, eb, allV, blsOf, isTie, h1, h2]
        · simp [runDef, d_is_tie, b_is_tie, isiV, tyName, isTy, ioOut, mLc, mLcGo, wipeE, unwipe, itemsOf, ea, eb, allV, blsOf, isTie, h1]
    · have e : isTie m (.tup xs) = false := by
        unfold isTie
        split
        · rename_i e; simp at e; subst e; simp at hl
        · rfl
      have hl' : ¬ ((xs.length : Int) = 2) := by omega
      simp [runDef, d_is_tie, b_is_tie, isiV, tyName, isTy, ioOut, hl', e]
  · have e : isTie m v = false := by
      unfold isTie
      split
      · exact absurd ⟨_, rfl⟩ ht
      · rfl
    cases v <;> simp [runDef, d_is_tie, b_is_tie, isiV, tyName, isTy, ioOut, e, plainV] at hv ht ⊢
/-- neighbours in the ties' order -/
def nbl (ts : List Tie) (a : Nat) : List Nat := ts.flatMap fun p => (if p.1 = a then [p.2] else []) ++ (if p.2 = a then [p.1] else [])
def rowsOf (m : Nat) (ts : List Tie) : List (List Int) := (List.range m).map fun a => (nbl ts a).map fun (k : Nat) => (k : Int)
def fieldV (m : Nat) (ts : List Tie) : Val := .obj "Field" [("many", .int m), ("rows", tiesV ts), ("near", rowsV (rowsOf m ts))]
theorem nbl_app (ts : List Tie) (p : Tie) (a : Nat) : nbl (ts ++ [p]) a = nbl ts a ++ ((if p.1 = a then [p.2] else []) ++ (if p.2 = a then [p.1] else [])) := by
  simp [nbl]
theorem nbl_len (ts : List Tie) (a : Nat) : (nbl ts a).length ≤ 2 * ts.length := by
  induction ts with
  | nil => simp [nbl]
  | cons p ts ih =>
    have : (nbl (p :: ts) a).length = ((if p.1 = a then [p.2] else []) ++ (if p.2 = a then [p.1] else [])).length + (nbl ts a).length := by simp [nbl, Nat.add_assoc]
    rw [this, List.length_cons]
    have : ((if p.1 = a then [p.2] else []) ++ (if p.2 = a then [p.1] else [])).length ≤ 2 := by split <;> split <;> simp
    omega
theorem mem_nbl {ts : List Tie} {a k : Nat} : k ∈ nbl ts a ↔ (a, k) ∈ ts ∨ (k, a) ∈ ts := by
  unfold nbl
  rw [List.mem_flatMap]
  constructor
  · rintro ⟨p, hp, hk⟩
    rcases List.mem_append.mp hk with hk | hk
    · split at hk
      · rename_i h; rw [List.mem_singleton] at hk; left; rw [← h, hk]; exact hp
      · cases hk
    · split at hk
      · rename_i h; rw [List.mem_singleton] at hk; right; rw [← h, hk]; exact hp
      · cases hk
  · rintro (h | h)
    · exact ⟨_, h, by simp⟩
    · exact ⟨_, h, by simp⟩
theorem rows_get {m : Nat} {ts : List Tie} {a : Nat} (h : a < m) : (rowsOf m ts)[a]? = some ((nbl ts a).map fun (k : Nat) => (k : Int)) := by
  unfold rowsOf
  rw [List.getElem?_map, List.getElem?_range h]; rfl
theorem rows_getD {m : Nat} {ts : List Tie} {a : Nat} (h : a < m) : (rowsOf m ts).getD a [] = (nbl ts a).map fun (k : Nat) => (k : Int) := by
  rw [List.getD_eq_getElem?_getD, rows_get h]; rfl
theorem rows_len {m : Nat} {ts : List Tie} : (rowsOf m ts).length = m := by simp [rowsOf]
theorem near_one {m : Nat} {ts : List Tie} {p : Tie} (h1 : p.1 < p.2) (h2 : p.2 < m) (hl : ts.length ≤ 1000) : ((addRow (rowsOf m ts) p.1 p.2).bind fun r1 => addRow r1 p.2 p.1) = some (rowsOf m (ts ++ [p])) := by
  have n1 := nbl_len ts p.1
  have n2 := nbl_len ts p.2
  have g1 : (rowsOf m ts).getD p.1 [] = _ := rows_getD (by omega)
  have g2 : (rowsOf m ts).getD p.2 [] = _ := rows_getD h2
  have a1 : addRow (rowsOf m ts) p.1 p.2 = some ((rowsOf m ts).set p.1 ((nbl ts p.1).map (fun (k : Nat) => (k : Int)) ++ [(p.2 : Int)])) := by
    unfold addRow
    rw [Int.toNat_natCast, g1, if_pos ⟨by omega, by rw [rows_len]; omega, by simp; omega⟩]
  rw [a1, Option.bind_some]
  unfold addRow
  have g3 : (((rowsOf m ts).set p.1 ((nbl ts p.1).map (fun (k : Nat) => (k : Int)) ++ [(p.2 : Int)])).getD p.2 []) = (nbl ts p.2).map fun (k : Nat) => (k : Int) := by
    rw [List.getD_eq_getElem?_getD, List.getElem?_set_ne (by omega), rows_get h2]; rfl
  rw [Int.toNat_natCast, g3, if_pos ⟨by omega, by rw [List.length_set, rows_len]; omega, by simp; omega⟩]
  congr 1
  refine List.ext_getElem? fun i => ?_
  by_cases hi : i < m
  · rw [rows_get hi, nbl_app]
    by_cases e2 : i = p.2
    · subst e2
      rw [List.getElem?_set_self (by rw [List.length_set, rows_len]; exact h2)]
      have : ¬ p.1 = p.2 := by omega
      simp [this]
    · rw [List.getElem?_set_ne (Ne.symm e2)]
      by_cases e1 : i = p.1
      · subst e1
        rw [List.getElem?_set_self (by rw [rows_len]; exact hi)]
        have : ¬ p.2 = p.1 := by omega
        simp [this]
      · rw [List.getElem?_set_ne (Ne.symm e1), rows_get hi]
        simp [Ne.symm e1, Ne.symm e2]
  · rw [List.getElem?_eq_none (by rw [List.length_set, List.length_set, rows_len]; omega), List.getElem?_eq_none (by rw [rows_len]; omega)]
theorem near_all {m : Nat} : ∀ (rest done : List Tie), (∀ p ∈ rest, p.1 < p.2 ∧ p.2 < m) → done.length + rest.length ≤ 1000 → nearGo (rest.map tieV) (rowsOf m done) = some (rowsOf m (done ++ rest))
  | [], done, _, _ => by simp [nearGo]
  | p :: rest, done, h, hl => by
    rw [List.length_cons] at hl
    have h0 := h p List.mem_cons_self
    have h1 := near_one (ts := done) h0.1 h0.2 (by omega)
    have h2 := near_all rest (done ++ [p]) (fun q hq => h q (List.mem_cons_of_mem _ hq)) (by simp; omega)
    show (addRow (rowsOf m done) p.1 p.2).bind (fun r1 => (addRow r1 p.2 p.1).bind fun r2 => nearGo (rest.map tieV) r2) = _
    rw [← Option.bind_assoc, h1, Option.bind_some, h2, List.append_assoc]
    rfl
theorem rows_nil (m : Nat) : rowsOf m [] = List.replicate m [] := by
  refine List.ext_getElem? fun i => ?_
  by_cases hi : i < m
  · rw [rows_get hi, List.getElem?_replicate_of_lt hi]; rfl
  · rw [List.getElem?_eq_none (by rw [rows_len]; omega), List.getElem?_eq_none (by simp; omega)]
theorem enum_get : ∀ {xs : List Val} {k i : Nat} {x : Val}, (enumV k xs)[i]? = some x → ∃ v, xs[i]? = some v ∧ x = .tup [.int ((k + i : Nat) : Int), v]
  | [], _, _, _, h => by simp [enumV] at h
  | y :: ys, k, 0, x, h => by simp [enumV] at h; exact ⟨y, rfl, by rw [← h]; simp⟩
  | y :: ys, k, i + 1, x, h => by
    simp only [enumV, List.getElem?_cons_succ] at h
    obtain ⟨v, h1, h2⟩ := enum_get h
    exact ⟨v, by simpa using h1, by rw [h2, show k + 1 + i = k + (i + 1) by omega]⟩
theorem le_tie (p q : Tie) : leV (tieV p) (tieV q) = some (.bl (!decide (plt q p))) := by
  have e : lexLe [(p.1 : Int), (p.2 : Int)] [(q.1 : Int), (q.2 : Int)] = !decide (plt q p) := by
    rw [Bool.eq_iff_iff]
    simp only [lexLe, Bool.not_eq_true', decide_eq_false_iff_not]
    unfold plt
    by_cases h1 : p.1 = q.1
    · rw [if_pos (by omega)]
      by_cases h2 : p.2 = q.2
      · rw [if_pos (by omega)]; simp; omega
      · rw [if_neg (by omega)]; simp; omega
    · rw [if_neg (by omega)]; simp; omega
  unfold tieV leV
  simp only [intsOf, Option.map_some, e]
def iBody : S := sIf (mOr (mNot (mCall 2 (aVal (mVar 1) (aVal (mVar 4) aNil)))) (mAnd (mBin gtV (mVar 3) (mLit (.int 0))) (mBin leV (mVar 4) (mBin itemV (mVar 2) (mBin subV (mVar 3) (mLit (.int 1))))))) (sRaise1 "BadTies" "index" (mVar 3)) sPass
theorem tie_ok {m : Nat} {p : Tie} (h1 : p.1 < p.2) (h2 : p.2 < m) : isTie m (tieV p) = true := by
  simp [isTie, tieV, isFrom]; omega
theorem tie_plain (p : Tie) : plainV (tieV p) = true ∧ ∀ xs, tieV p = .tup xs → ∀ x ∈ xs, plainV x = true := by
  refine ⟨rfl, fun xs h x hx => ?_⟩
  unfold tieV at h
  cases h
  simp at hx
  rcases hx with rfl | rfl <;> rfl
theorem iLoop (n : Nat) {m : Nat} {ts : List Tie} (h : FOk m ts) : ∃ x3 x4, sFor (wEnumA (mVar 2)) (bindTup [bindName 3, bindName 4]) iBody (callN GT (n + 2)) [some (.obj "Field" []), some (.int m), some (tiesV ts), none, none, none, none, none] = .next [some (.obj "Field" []), some (.int m), some (tiesV ts), x3, x4, none, none, none] := by
  rw [sFor_ok (xs := enumV 0 (ts.map tieV)) (e1 := [some (.obj "Field" []), some (.int m), some (tiesV ts), none, none, none, none, none]) (by simp [wEnumA, tiesV])]
  obtain ⟨e', h1, x3, x4, rfl⟩ := for_inv (b := bindTup [bindName 3, bindName 4]) (body := iBody) (cl := callN GT (n + 2)) (fun k e => ∃ x3 x4, e = [some (.obj "Field" []), some (.int m), some (tiesV ts), x3, x4, none, none, none]) (enumV 0 (ts.map tieV)) 0 [some (.obj "Field" []), some (.int m), some (tiesV ts), none, none, none, none, none] ⟨none, none, rfl⟩ (by
    rintro i x e hx ⟨x3, x4, rfl⟩
    obtain ⟨v, hv, rfl⟩ := enum_get hx
    rw [List.getElem?_map] at hv
    obtain ⟨p, hp, rfl⟩ := Option.map_eq_some_iff.mp hv
    rw [Nat.zero_add]
    have hpm := List.mem_of_getElem? hp
    have hok := h.ok p hpm
    have ht := is_tie_call n (m := (m : Int)) (tie_plain p).1 (tie_plain p).2
    rw [tie_ok hok.1 hok.2] at ht
    refine ⟨[some (.obj "Field" []), some (.int m), some (tiesV ts), some (.int (i : Int)), some (tieV p), none, none, none], [some (.obj "Field" []), some (.int m), some (tiesV ts), some (.int (i : Int)), some (tieV p), none, none, none], by simp, ?_, _, _, rfl⟩
    by_cases hi : i = 0
    · subst hi
      simp [iBody, ht]
    · obtain ⟨q, hq⟩ : ∃ q, ts[i - 1]? = some q := ⟨_, List.getElem?_eq_getElem (by have := (List.getElem?_eq_some_iff.mp hp).1; omega)⟩
      have hlt : plt q p := by
        have := List.pairwise_iff_getElem.mp h.asc (i - 1) i (by have := (List.getElem?_eq_some_iff.mp hq).1; exact this) (List.getElem?_eq_some_iff.mp hp).1 (by omega)
        rw [(List.getElem?_eq_some_iff.mp hq).2, (List.getElem?_eq_some_iff.mp hp).2] at this
        exact this
      have hat : L2.atI (ts.map tieV) ((i : Int) - 1) = some (tieV q) := by
        rw [show (i : Int) - 1 = ((i - 1 : Nat) : Int) by omega]
        exact L2.atI_nat (by rw [List.getElem?_map, hq]; rfl)
      have hpos : (0 : Int) < (i : Int) := by omega
      have hle := le_tie p q
      simp [iBody, ht, hpos, tiesV, hat, hle, hlt])
  exact ⟨x3, x4, h1⟩
theorem near_run {cl : Cl} {e : Env} {s m t o1 o2 : Nat} {c : Str} {fs : List (Str × Val)} {n : Int} {ts : List Val} {rows : List (List Int)} (h1 : e[s]? = some (some (.obj c fs))) (h2 : e[m]? = some (some (.int n))) (h3 : e[t]? = some (some (.tup ts))) (hc : small n ∧ n.toNat ≤ line ∧ fs.length < 1000 ∧ o1 < e.length ∧ o2 < e.length) (hn : nearGo ts (List.replicate n.toNat []) = some rows) :
    sNear2 s m t o1 o2 cl e = .next ((((e.set s none).set o1 none).set o2 none).set s (some (.obj c (putFV "near" (rowsV rows) fs)))) := by
  unfold sNear2
  rw [h1, h2, h3]
  simp only
  rw [if_pos hc, hn]
theorem field_init (n : Nat) {m : Nat} {ts : List Tie} (h : FOk m ts) : callN GT (n + 3) k_Field_init [.obj "Field" [], .int m, tiesV ts] = .ok .non [fieldV m ts] := by
  rw [call_of (d := d_Field_init) rfl]
  obtain ⟨x3, x4, hk⟩ := iLoop n h
  have hm := h.m1
  have hm0 := h.m0
  have hl := h.len
  have e1 := is_from_call (n + 1) (v := .int m) rfl 1 40
  have hf : isFrom (.int (m : Int)) 1 40 = true := by simp [isFrom]; omega
  rw [hf] at e1
  have q1 : sIf (mNot (mCall 1 (aVal (mVar 1) (aVal (mLit (.int 1)) (aVal (mLit (.int 40)) aNil))))) (sRaise "BadSenders" []) sPass (callN GT (n + 2)) [some (.obj "Field" []), some (.int m), some (tiesV ts), none, none, none, none, none] = .next [some (.obj "Field" []), some (.int m), some (tiesV ts), none, none, none, none, none] := by
    simp [e1]
  have hl' : ¬ ((60 : Int) < ts.length) := by omega
  have q2 : sIf (mOr (mNot (mUn (isiV "tuple") (mVar 2))) (mBin gtV (mCallB (op1 lenV) (iCons (mVar 2) iNil)) (mLit (.int 60)))) (sRaise1 "BadTies" "index" (mLit .non)) sPass (callN GT (n + 2)) [some (.obj "Field" []), some (.int m), some (tiesV ts), none, none, none, none, none] = .next [some (.obj "Field" []), some (.int m), some (tiesV ts), none, none, none, none, none] := by
    simp [isiV, tyName, isTy, tiesV, hl']
  have hn : nearGo (ts.map tieV) (List.replicate m []) = some (rowsOf m ts) := by
    rw [← rows_nil]
    exact near_all ts [] h.ok (by simp; omega)
  have sm : small (m : Int) = true := small_nat (by omega)
  have q3 : d_Field_init.body (callN GT (n + 2)) [some (.obj "Field" []), some (.int m), some (tiesV ts), none, none, none, none, none] = .next [some (fieldV m ts), some (.int m), some (tiesV ts), x3, x4, none, none, none] := by
    show sSeq _ (sSeq _ (sSeq (sFor _ _ iBody) _)) _ _ = _
    rw [seq_next q1, seq_next q2, seq_next hk]
    have s1 : ¬ (("many" : Str) = "rows") := by decide
    have s2 : ¬ (("many" : Str) = "near") := by decide
    have s3 : ¬ (("rows" : Str) = "near") := by decide
    have p1 : sFldV 0 "many" (mVar 1) (callN GT (n + 2)) [some (.obj "Field" []), some (.int m), some (tiesV ts), x3, x4, none, none, none] = .next [some (.obj "Field" [("many", .int m)]), some (.int m), some (tiesV ts), x3, x4, none, none, none] := by simp [putFV]
    have p2 : sFldV 0 "rows" (mVar 2) (callN GT (n + 2)) [some (.obj "Field" [("many", .int m)]), some (.int m), some (tiesV ts), x3, x4, none, none, none] = .next [some (.obj "Field" [("many", .int m), ("rows", tiesV ts)]), some (.int m), some (tiesV ts), x3, x4, none, none, none] := by simp [putFV, s1]
    rw [seq_next p1, seq_next p2]
    refine (near_run rfl rfl rfl ⟨sm, by rw [Int.toNat_natCast]; show m ≤ 16777216; omega, by simp, by simp, by simp⟩ (by rw [Int.toNat_natCast]; exact hn)).trans ?_
    simp [putFV, s1, s2, s3, fieldV]
  exact run_next rfl rfl q3 (by simp [d_Field_init, ioOut, scalarV, fieldV])
theorem made_call (n : Nat) {m : Nat} {ts : List Tie} (h : FOk m ts) : callN GT (n + 4) k_l_made [fV m ts] = .ok (fieldV m ts) [] := by
  rw [call_of (d := d_l_made) rfl]
  simp [runDef, d_l_made, b_l_made, fV, field_init n h, ioOut]
end CG
end
section
set_option Elab.async false
set_option linter.all false
set_option maxRecDepth 100000
set_option autoImplicit false
/-! M6: neighbours, senders two ties apart. -/
namespace CG
open PySem T0
theorem kindN : Kind (fun (i : Nat) => Val.int i) (fun i => .int i) (fun a b => decide (a < b)) := ⟨fun _ => by simp [toD], fun _ _ => by simp [PySem.W.alike], fun _ => by simp [PyData.depth], .inr fun _ => rfl, fun a b => by simp [dlt, encD, toD, PySem.W.dataLt_int]⟩
/-- ascending -/
def asc (l : List Nat) : List Nat := l.mergeSort fun a b => !decide (b < a)
theorem asc_perm (l : List Nat) : (asc l).Perm l := List.mergeSort_perm _ _
theorem mem_asc {l : List Nat} {k : Nat} : k ∈ asc l ↔ k ∈ l := (asc_perm l).mem_iff
def nbs (ts : List Tie) (a : Nat) : List Nat := asc (nbl ts a)
theorem mem_nbs {ts : List Tie} {a k : Nat} : k ∈ nbs ts a ↔ (a, k) ∈ ts ∨ (k, a) ∈ ts := mem_asc.trans mem_nbl
theorem nbs_len (ts : List Tie) (a : Nat) : (nbs ts a).length ≤ 2 * ts.length := by
  unfold nbs; rw [(asc_perm _).length_eq]; exact nbl_len _ _
theorem nbs_lt {m : Nat} {ts : List Tie} (h : FOk m ts) {a k : Nat} (hk : k ∈ nbs ts a) : k < m ∧ a < m := by
  rcases mem_nbs.mp hk with g | g
  · have := h.ok _ g; simp only at this; omega
  · have := h.ok _ g; simp only at this; omega
theorem nbs_irr {m : Nat} {ts : List Tie} (h : FOk m ts) {a : Nat} : a ∉ nbs ts a := fun hk => by
  rcases mem_nbs.mp hk with g | g <;> (have := h.ok _ g; simp only at this; omega)
theorem nbs_sym {ts : List Tie} {a b : Nat} : a ∈ nbs ts b ↔ b ∈ nbs ts a := by rw [mem_nbs, mem_nbs]; exact Or.comm
@[simp] theorem fld_many (m : Nat) (ts : List Tie) : fldV "many" (fieldV m ts) = some (.int m) := rfl
@[simp] theorem fld_rows (m : Nat) (ts : List Tie) : fldV "rows" (fieldV m ts) = some (tiesV ts) := rfl
@[simp] theorem fld_near (m : Nat) (ts : List Tie) : fldV "near" (fieldV m ts) = some (rowsV (rowsOf m ts)) := rfl
theorem near_at {m : Nat} {ts : List Tie} {a : Nat} (h : a < m) : itemV (rowsV (rowsOf m ts)) (.int a) = some (intsV (nbl ts a)) := by
  unfold rowsV
  rw [itemV_lst]
  refine L2.atI_nat ?_
  rw [List.getElem?_map, rows_get h]
  simp [intsV]
theorem neighbours_call (n : Nat) {m : Nat} {ts : List Tie} (h : FOk m ts) {a : Nat} (ha : a < m) : callN GT (n + 1) k_neighbours_of [fieldV m ts, .int a] = .ok (intsV (nbs ts a)) [] := by
  rw [call_of (d := d_neighbours_of) rfl]
  have hl := nbl_len ts a
  have := h.len
  have hs := kindN.sort (nbl ts a) (by omega)
  have hn := near_at (ts := ts) ha
  simp [runDef, d_neighbours_of, b_neighbours_of, hn, intsV, ioOut]
  rw [hs]
  simp [nbs, asc]
/-- for e in l, in this order -/
abbrev nV (l : List Nat) : List Val := l.map fun (k : Nat) => Val.int k
/-- data that Python's == tells apart as Lean does -/
structure EqK {α : Type} [DecidableEq α] (f : α → Val) (g : α → PyData) : Prop where
  d : ∀ a, toD (f a) = some (g a)
  cl : ∀ a, (g a).canLay0 = true
  dp : ∀ a, (g a).depth ≤ 40
  eq : ∀ a b, PyData.eqv (g a) (g b) = decide (a = b)
section
variable {α : Type} [DecidableEq α] {f : α → Val} {g : α → PyData}
theorem EqK.lay (k : EqK f g) : ∀ l : List α, PyData.canLayAll0 (l.map g) = true
  | [] => by simp [PyData.canLayAll0]
  | x :: l => by simp [PyData.canLayAll0, k.cl x, k.lay l]
theorem EqK.one (k : EqK f g) (a : α) : SeqAt.shaped (g a) = true := by
  unfold SeqAt.shaped
  rw [k.cl a]
  have := k.dp a
  simp; omega
theorem EqK.lst (k : EqK f g) (l : List α) : SeqAt.shaped (.list (l.map g)) = true := by
  unfold SeqAt.shaped
  have := depth_of k.dp l
  simp [PyData.canLay0, k.lay l, PyData.depth]; omega
theorem EqK.tup (k : EqK f g) (l : List α) : SeqAt.shaped (.tuple (l.map g)) = true := by
  unfold SeqAt.shaped
  have := depth_of k.dp l
  simp [PyData.canLay0, k.lay l, PyData.depth]; omega
theorem EqK.any (k : EqK f g) (a : α) : ∀ l : List α, ((l.map g).any fun z => PyData.eqv z (g a)) = decide (a ∈ l)
  | [] => by simp
  | x :: l => by
    rw [List.map_cons, List.any_cons, k.any a l, k.eq]
    by_cases h : a = x
    · subst h; simp
    · simp [h, Ne.symm h]
theorem EqK.mem (k : EqK f g) (a : α) (l : List α) : memD (f a) (l.map f) = some (decide (a ∈ l)) := by
  unfold memD
  rw [k.d, toDs_of k.d]
  simp only [k.one, k.lst, Bool.and_self, if_true, k.any]
theorem EqK.inL (k : EqK f g) (a : α) (l : List α) : inV (f a) (.lst (l.map f)) = some (.bl (decide (a ∈ l))) := by simp [inV, k.mem]
theorem EqK.inT (k : EqK f g) (a : α) (l : List α) : inV (f a) (.tup (l.map f)) = some (.bl (decide (a ∈ l))) := by simp [inV, k.mem]
theorem EqK.notinL (k : EqK f g) (a : α) (l : List α) : notinV (f a) (.lst (l.map f)) = some (.bl (decide (a ∉ l))) := by simp [notinV, k.mem]
theorem EqK.notinT (k : EqK f g) (a : α) (l : List α) : notinV (f a) (.tup (l.map f)) = some (.bl (decide (a ∉ l))) := by simp [notinV, k.mem]
theorem EqK.eqAll (k : EqK f g) : ∀ l m : List α, PyData.eqvAll (l.map g) (m.map g) = decide (l = m)
  | [], [] => by simp [PyData.eqvAll]
  | [], _ :: _ => by simp [PyData.eqvAll]
  | _ :: _, [] => by simp [PyData.eqvAll]
  | x :: l, y :: m => by
    simp only [List.map_cons, PyData.eqvAll, k.eq, k.eqAll l m, List.cons.injEq, Bool.decide_and]
theorem EqK.eqL (k : EqK f g) (l m : List α) : eqV (.lst (l.map f)) (.lst (m.map f)) = some (.bl (decide (l = m))) := by
  unfold eqV eqD
  simp only [toD, toDs_of k.d, Option.map_some, k.lst, Bool.and_self, if_true, PyData.eqv, k.eqAll]
theorem EqK.neL (k : EqK f g) (l m : List α) : neV (.lst (l.map f)) (.lst (m.map f)) = some (.bl (decide (l ≠ m))) := by
  unfold neV eqD
  simp only [toD, toDs_of k.d, Option.map_some, k.lst, Bool.and_self, if_true, PyData.eqv, k.eqAll, decide_not]
end
theorem eqN : EqK (fun (i : Nat) => Val.int i) (fun i => .int i) := ⟨fun _ => by simp [toD], fun _ => by simp [PyData.canLay0], fun _ => by simp [PyData.depth], fun a b => by
  simp only [PyData.eqv]
  rw [Bool.eq_iff_iff]
  simp only [beq_iff_eq, decide_eq_true_eq]
  omega⟩
theorem eqT : EqK tieV tieD := ⟨tie_d, fun _ => by simp [tieD, PyData.canLay0, PyData.canLayAll0], fun _ => by simp [tieD, PyData.depth, PyData.depthAll], fun p q => by
  obtain ⟨a, b⟩ := p
  obtain ⟨c, d⟩ := q
  simp only [tieD, PyData.eqv, PyData.eqvAll]
  rw [Bool.eq_iff_iff]
  simp only [Bool.and_eq_true, beq_iff_eq, decide_eq_true_eq, Prod.mk.injEq, and_true]
  omega⟩
def dictOf (ks : List Nat) : List (Key × Val) := ks.map fun (k : Nat) => (Sum.inl (k : Int), Val.bl true)
def addK (ks : List Nat) (k : Nat) : List Nat := if k ∈ ks then ks else ks ++ [k]
theorem putK_dict (ks : List Nat) (k : Nat) : putK (dictOf ks) (.inl (k : Int)) (.bl true) = dictOf (addK ks k) := by
  unfold putK addK
  have e : ((dictOf ks).any fun kv => decide (kv.1 = Sum.inl (k : Int))) = decide (k ∈ ks) := by
    unfold dictOf
    rw [List.any_map, Bool.eq_iff_iff]
    simp
    exact ⟨fun ⟨x, hx, e⟩ => by have : x = k := by omega
                                exact this ▸ hx, fun h => ⟨k, h, rfl⟩⟩
  rw [e]
  by_cases h : k ∈ ks
  · rw [if_pos (by simpa using h), if_pos h]
    unfold dictOf
    rw [List.map_map]
    refine List.map_congr_left fun x _ => ?_
    simp only [Function.comp]
    split
    · rename_i z; rfl
    · rfl
  · rw [if_neg (by simpa using h), if_neg h]
    simp [dictOf]
theorem fold_addK : ∀ (l ks : List Nat), (ks.Nodup → (l.foldl addK ks).Nodup) ∧ ∀ x, x ∈ l.foldl addK ks ↔ x ∈ ks ∨ x ∈ l
  | [], ks => by simp
  | y :: l, ks => by
    obtain ⟨h1, h2⟩ := fold_addK l (addK ks y)
    rw [List.foldl_cons]
    have hm : ∀ x, x ∈ addK ks y ↔ x ∈ ks ∨ x = y := fun x => by
      unfold addK
      split
      · rename_i h
        exact ⟨.inl, fun z => z.elim id fun z => z ▸ h⟩
      · simp
    refine ⟨fun hn => h1 ?_, fun x => ?_⟩
    · unfold addK
      split
      · exact hn
      · rename_i h
        rw [List.nodup_append]
        exact ⟨hn, by simp, fun a ha b hb => by simp at hb; subst hb; rintro rfl; exact h ha⟩
    · rw [h2, hm, List.mem_cons, or_assoc]
theorem fold_len (l ks : List Nat) : (l.foldl addK ks).length ≤ ks.length + l.length := by
  induction l generalizing ks with
  | nil => simp
  | cons y l ih =>
    rw [List.foldl_cons, List.length_cons]
    have := ih (addK ks y)
    have h2 : (addK ks y).length ≤ ks.length + 1 := by unfold addK; split <;> simp
    omega
theorem dcIn {cl : Cl} {a b c d o : Option Val} : ∀ (l ks : List Nat) (x5 : Option Val), ks.length + l.length ≤ 100000 → ∃ x5', mDcGo [5] (bindName 5) (mLit (.bl true)) (mVar 5) (mLit (.bl true)) (nV l) (dictOf ks) cl [a, b, c, d, o, x5] = .ok (dictOf (l.foldl addK ks)) [a, b, c, d, o, x5']
  | [], ks, x5, _ => ⟨x5, rfl⟩
  | y :: l, ks, x5, hl => by
    rw [List.length_cons] at hl
    have hk : (addK ks y).length ≤ ks.length + 1 := by unfold addK; split <;> simp
    obtain ⟨x5', h⟩ := dcIn (cl := cl) (a := a) (b := b) (c := c) (d := d) (o := o) l (addK ks y) (some (.int y)) (by omega)
    refine ⟨x5', ?_⟩
    have hlt : (dictOf ks).length < 16777216 := by simp [dictOf]; omega
    rw [List.foldl_cons, ← h]
    simp [mDcGo, wipeE, keyOf, hlt, putK_dict]
theorem dcOut {cl : Cl} {m : Nat} {ts : List Tie} {b c d : Option Val} (hts : ts.length ≤ 60) : ∀ (l ks : List Nat) (x4 x5 : Option Val), (∀ x ∈ l, x < m) → ks.length + 120 * l.length ≤ 50000 → ∃ x4' x5', mDc2Go [4, 5] [5] (bindName 4) (mLit (.bl true)) (wSeq (mBin itemV (mUn (fldV "near") (mVar 0)) (mVar 4))) (bindName 5) (mLit (.bl true)) (mVar 5) (mLit (.bl true)) (nV l) (dictOf ks) cl [some (fieldV m ts), b, c, d, x4, x5] = .ok (dictOf ((l.flatMap (nbl ts)).foldl addK ks)) [some (fieldV m ts), b, c, d, x4', x5']
  | [], ks, x4, x5, _, _ => ⟨x4, x5, rfl⟩
  | y :: l, ks, x4, x5, hm, hl => by
    rw [List.length_cons] at hl
    have nl := nbl_len ts y
    obtain ⟨x5', h1⟩ := dcIn (cl := cl) (a := some (fieldV m ts)) (b := b) (c := c) (d := d) (o := some (.int y)) (nbl ts y) ks none (by omega)
    have fl := fold_len (nbl ts y) ks
    obtain ⟨x4'', x5'', h2⟩ := dcOut (cl := cl) (b := b) (c := c) (d := d) hts l ((nbl ts y).foldl addK ks) (some (.int y)) x5' (fun x hx => hm x (List.mem_cons_of_mem _ hx)) (by omega)
    refine ⟨x4'', x5'', ?_⟩
    rw [List.flatMap_cons, List.foldl_append, ← h2]
    have hn := near_at (ts := ts) (hm y List.mem_cons_self)
    have hi : itemsOf (intsV (nbl ts y)) = some (nV (nbl ts y)) := rfl
    simp only [mDc2Go, List.map_cons]
    simp [wipeE, hn, hi, h1]
theorem keysI_dict : ∀ ks : List Nat, keysI (dictOf ks) = some (ks.map fun (k : Nat) => (k : Int))
  | [] => rfl
  | k :: ks => by
    have := keysI_dict ks
    simp [dictOf] at this ⊢
    simp [keysI, this]
theorem sortDV_dict {ks : List Nat} (h : ks.length < 64) : sortDV (.dct (dictOf ks)) = some (intsV (asc ks)) := by
  unfold sortDV
  simp only [keysI_dict]
  rw [if_pos (by simpa using h)]
  congr 2
  unfold asc
  rw [← List.map_mergeSort (f := fun (k : Nat) => (k : Int)) (r := fun a b => !decide (b < a)) (s := fun a b => decide (a ≤ b))]
  · simp
  · intro a _ b _
    rw [Bool.eq_iff_iff]
    simp
/-- the senders two ties from a, ascending -/
def secs1 (ts : List Tie) (a : Nat) : List Nat := (asc (((nbs ts a).flatMap (nbl ts)).foldl addK [])).filter fun b => decide (b ≠ a) && decide (b ∉ nbs ts a)
theorem filt_run {cl : Cl} {a b c d x4 : Option Val} (p : Nat → Bool) {t : M Val} (ht : ∀ (y : Nat), t cl [a, b, c, d, x4, some (.int y)] = .ok (.bl (p y)) [a, b, c, d, x4, some (.int y)]) (l : List Nat) (x5 : Option Val) (hl : l.length ≤ 1000) :
    ∃ e', mLcGo [5] (bindName 5) t (mVar 5) (nV l) [] cl [a, b, c, d, x4, x5] = .ok (nV (l.filter p)) e' := by
  have g : ∀ (l acc : List Nat) (x5 : Option Val), acc.length + l.length ≤ 1000 → ∃ e', mLcGo [5] (bindName 5) t (mVar 5) (nV l) (nV acc) cl [a, b, c, d, x4, x5] = .ok (nV (acc ++ l.filter p)) e' := by
    intro l
    induction l with
    | nil => intro acc x5 _; exact ⟨_, by simp [mLcGo]; rfl⟩
    | cons y l ih =>
      intro acc x5 h
      rw [List.length_cons] at h
      have hy := ht y
      cases hp : p y with
      | false =>
        rw [hp] at hy
        obtain ⟨e', he⟩ := ih acc (some (.int y)) (by omega)
        refine ⟨e', ?_⟩
        rw [List.filter_cons, hp]
        simp [mLcGo, wipeE, hy] at he ⊢
        exact he
      | true =>
        rw [hp] at hy
        obtain ⟨e', he⟩ := ih (acc ++ [y]) (some (.int y)) (by simp; omega)
        refine ⟨e', ?_⟩
        rw [List.filter_cons, hp]
        have hlt : acc.length < 16777216 := by omega
        simp [mLcGo, wipeE, hy, hlt] at he ⊢
        exact he
  have := g l [] x5 (by simpa using hl)
  simpa using this
theorem nodup_len : ∀ (m : Nat) (l : List Nat), l.Nodup → (∀ x ∈ l, x < m) → l.length ≤ m
  | 0, l, _, h => by
    cases l with
    | nil => simp
    | cons x l => exact absurd (h x List.mem_cons_self) (by omega)
  | m + 1, l, hn, h => by
    have h1 := nodup_len m (l.erase m) (hn.erase m) fun x hx => by
      have := (hn.mem_erase_iff).mp hx
      have := h x this.2
      omega
    have h2 := List.length_erase (a := m) (l := l)
    split at h2 <;> omega
theorem secs1_len {m : Nat} {ts : List Tie} (h : FOk m ts) (a : Nat) : (((nbs ts a).flatMap (nbl ts)).foldl addK []).length ≤ m := by
  have hn := (fold_addK ((nbs ts a).flatMap (nbl ts)) []).1 List.nodup_nil
  have hs : ∀ x ∈ ((nbs ts a).flatMap (nbl ts)).foldl addK [], x ∈ List.range m := fun x hx => by
    rw [(fold_addK _ _).2] at hx
    rcases hx with hx | hx
    · cases hx
    · obtain ⟨y, hy, hx⟩ := List.mem_flatMap.mp hx
      have : x ∈ nbs ts y := mem_asc.mpr hx
      exact List.mem_range.mpr (nbs_lt h this).1
  exact nodup_len m _ hn fun x hx => List.mem_range.mp (hs x hx)
theorem seconds_of_call (n : Nat) {m : Nat} {ts : List Tie} (h : FOk m ts) {a : Nat} (ha : a < m) : callN GT (n + 2) k_seconds_of [fieldV m ts, .int a] = .ok (intsV (secs1 ts a)) [] := by
  rw [call_of (d := d_seconds_of) rfl]
  have e1 := neighbours_call n h ha
  have hl := h.len
  have hm := h.m1
  have nl := nbs_len ts a
  have sl := secs1_len h a
  obtain ⟨x4, x5, h2⟩ := dcOut (cl := callN GT (n + 1)) (m := m) (b := some (.int a)) (c := some (intsV (nbs ts a))) (d := none) hl (nbs ts a) [] none none (fun x hx => (nbs_lt h hx).1) (by simp; omega)
  obtain ⟨e', h3⟩ := filt_run (cl := callN GT (n + 1)) (a := some (fieldV m ts)) (b := some (.int a)) (c := some (intsV (nbs ts a))) (d := some (intsV (asc (((nbs ts a).flatMap (nbl ts)).foldl addK [])))) (x4 := none) (fun b => decide (b ≠ a) && decide (b ∉ nbs ts a)) (t := mAnd (mBin neV (mVar 5) (mVar 1)) (mBin notinV (mVar 5) (mVar 2))) (fun y => by
    have := eqN.notinL y (nbs ts a)
    by_cases hy : y = a
    · simp [hy]
    · have hy' : ¬ ((y : Int) = a) := by omega
      simp [hy']
      unfold intsV
      rw [this]
      simp [hy]) (asc (((nbs ts a).flatMap (nbl ts)).foldl addK [])) none (by rw [(asc_perm _).length_eq]; omega)
  have hs := sortDV_dict (ks := ((nbs ts a).flatMap (nbl ts)).foldl addK []) (by omega)
  have i1 : itemsOf (intsV (nbs ts a)) = some (nV (nbs ts a)) := rfl
  have i2 : itemsOf (intsV (asc (((nbs ts a).flatMap (nbl ts)).foldl addK []))) = some (nV (asc (((nbs ts a).flatMap (nbl ts)).foldl addK []))) := rfl
  have h2 : mDc2Go [4, 5] [5] (bindName 4) (mLit (.bl true)) (wSeq (mBin itemV (mUn (fldV "near") (mVar 0)) (mVar 4))) (bindName 5) (mLit (.bl true)) (mVar 5) (mLit (.bl true)) (nV (nbs ts a)) [] (callN GT (n + 1)) [some (fieldV m ts), some (.int a), some (intsV (nbs ts a)), none, none, none] = .ok (dictOf (((nbs ts a).flatMap (nbl ts)).foldl addK [])) [some (fieldV m ts), some (.int a), some (intsV (nbs ts a)), none, x4, x5] := h2
  have q1 : sAsg (bindName 2) (mCall 15 (aVal (mVar 0) (aVal (mVar 1) aNil))) (callN GT (n + 1)) [some (fieldV m ts), some (.int a), none, none, none, none] = .next [some (fieldV m ts), some (.int a), some (intsV (nbs ts a)), none, none, none] := by
    simp [e1]
  have q2 : sAsg (bindName 3) (mCallB (op1 sortDV) (iCons (mDc2 [4, 5] [5] (wSeq (mVar 2)) (bindName 4) (mLit (.bl true)) (wSeq (mBin itemV (mUn (fldV "near") (mVar 0)) (mVar 4))) (bindName 5) (mLit (.bl true)) (mVar 5) (mLit (.bl true))) iNil)) (callN GT (n + 1)) [some (fieldV m ts), some (.int a), some (intsV (nbs ts a)), none, none, none] = .next [some (fieldV m ts), some (.int a), some (intsV (nbs ts a)), some (intsV (asc (((nbs ts a).flatMap (nbl ts)).foldl addK []))), none, none] := by
    simp [mDc2, i1, wipeE, h2, unwipe, hs]
  obtain ⟨e3, q3⟩ : ∃ e3, d_seconds_of.body (callN GT (n + 1)) [some (fieldV m ts), some (.int a), none, none, none, none] = .ret (intsV (secs1 ts a)) e3 := by
    show ∃ e3, sSeq _ (sSeq _ _) _ _ = _
    rw [seq_next q1, seq_next q2]
    simp only [sRet_ap, mLc, wSeq_ap, var_at (show ([some (fieldV m ts), some (Val.int a), some (intsV (nbs ts a)), some (intsV (asc (((nbs ts a).flatMap (nbl ts)).foldl addK []))), none, none] : Env)[3]? = some (some (intsV (asc (((nbs ts a).flatMap (nbl ts)).foldl addK [])))) from rfl), bind_ok, i2, ret_some]
    rw [show wipeE [some (fieldV m ts), some (Val.int a), some (intsV (nbs ts a)), some (intsV (asc (((nbs ts a).flatMap (nbl ts)).foldl addK []))), none, none] [5] = [some (fieldV m ts), some (Val.int a), some (intsV (nbs ts a)), some (intsV (asc (((nbs ts a).flatMap (nbl ts)).foldl addK []))), none, none] from rfl, h3]
    exact ⟨_, rfl⟩
  exact run_ret rfl rfl q3 rfl
end CG
end
section
set_option Elab.async false
set_option linter.all false
set_option maxRecDepth 100000
set_option autoImplicit false
/-! M7: seconds of the program and of the law agree. -/
namespace CG
open PySem T0
def secs (m : Nat) (ts : List Tie) : List Tie := (List.range m).flatMap fun a => ((secs1 ts a).filter fun b => decide (a < b)).map fun b => (a, b)
theorem range_nV (m : Nat) : rangeV 0 m = nV (List.range m) := by
  unfold rangeV
  refine List.map_congr_left fun k _ => ?_
  simp
theorem lcIn {cl : Cl} {F : Option Val} {a : Nat} : ∀ (l : List Nat) (acc : List Val) (x2 : Option Val), acc.length + l.length ≤ 100000 → ∃ x2', mLcGo [2] (bindName 2) (mBin ltV (mVar 1) (mVar 2)) (mTup (iCons (mVar 1) (iCons (mVar 2) iNil))) (nV l) acc cl [F, some (.int a), x2] = .ok (acc ++ ((l.filter fun b => decide (a < b)).map fun b => tieV (a, b))) [F, some (.int a), x2']
  | [], acc, x2, _ => ⟨x2, by simp [mLcGo]⟩
  | y :: l, acc, x2, hl => by
    rw [List.length_cons] at hl
    by_cases hy : a < y
    · obtain ⟨x2', h⟩ := lcIn (cl := cl) (F := F) (a := a) l (acc ++ [tieV (a, y)]) (some (.int y)) (by simp; omega)
      refine ⟨x2', ?_⟩
      have hlt : acc.length < 16777216 := by omega
      simp [mLcGo, wipeE, hy, hlt, List.filter_cons] at h ⊢
      rw [← h]; rfl
    · obtain ⟨x2', h⟩ := lcIn (cl := cl) (F := F) (a := a) l acc (some (.int y)) (by omega)
      refine ⟨x2', ?_⟩
      simp [mLcGo, wipeE, hy, List.filter_cons] at h ⊢
      exact h
theorem secs1_len2 {m : Nat} {ts : List Tie} (h : FOk m ts) (a : Nat) : (secs1 ts a).length ≤ m := by
  have := secs1_len h a
  have h2 := List.length_filter_le (fun b => decide (b ≠ a) && decide (b ∉ nbs ts a)) (asc (((nbs ts a).flatMap (nbl ts)).foldl addK []))
  unfold secs1
  rw [(asc_perm _).length_eq] at h2
  omega
theorem lcOut (n : Nat) {m : Nat} {ts : List Tie} (h : FOk m ts) : ∀ (l : List Nat) (acc : List Val) (x1 x2 : Option Val), (∀ x ∈ l, x < m) → acc.length + 40 * l.length ≤ 50000 → ∃ e', mLc2Go [1, 2] [2] (bindName 1) (mLit (.bl true)) (wSeq (mCall 16 (aVal (mVar 0) (aVal (mVar 1) aNil)))) (bindName 2) (mBin ltV (mVar 1) (mVar 2)) (mTup (iCons (mVar 1) (iCons (mVar 2) iNil))) (nV l) acc (callN GT (n + 2)) [some (fieldV m ts), x1, x2]
      = .ok (acc ++ (l.flatMap fun a => ((secs1 ts a).filter fun b => decide (a < b)).map fun b => (a, b)).map tieV) e'
  | [], acc, x1, x2, _, _ => ⟨_, by simp [mLc2Go]; rfl⟩
  | y :: l, acc, x1, x2, hm, hl => by
    rw [List.length_cons] at hl
    have hy := hm y List.mem_cons_self
    have sl := secs1_len2 h y
    have hm1 := h.m1
    obtain ⟨x2', h1⟩ := lcIn (cl := callN GT (n + 2)) (F := some (fieldV m ts)) (a := y) (secs1 ts y) acc none (by omega)
    have fl := List.length_filter_le (fun b => decide (y < b)) (secs1 ts y)
    obtain ⟨e', h2⟩ := lcOut n h l (acc ++ ((secs1 ts y).filter fun b => decide (y < b)).map fun b => tieV (y, b)) (some (.int y)) x2' (fun x hx => hm x (List.mem_cons_of_mem _ hx)) (by simp; omega)
    refine ⟨e', ?_⟩
    have hc := seconds_of_call n h hy
    have hi : itemsOf (intsV (secs1 ts y)) = some (nV (secs1 ts y)) := rfl
    rw [List.flatMap_cons, List.map_append]
    simp only [mLc2Go, List.map_cons]
    simp [wipeE, hc, hi, h1]
    rw [h2]
    simp [Function.comp_def]
theorem seconds_call (n : Nat) {m : Nat} {ts : List Tie} (h : FOk m ts) : callN GT (n + 3) k_seconds [fieldV m ts] = .ok (.lst ((secs m ts).map tieV)) [] := by
  rw [call_of (d := d_seconds) rfl]
  have hm := h.m1
  obtain ⟨e', h1⟩ := lcOut n h (List.range m) [] none none (fun x hx => List.mem_range.mp hx) (by simp; omega)
  have sm : small (m : Int) = true := small_nat (by omega)
  have w : wRng1 (mUn (fldV "many") (mVar 0)) (callN GT (n + 2)) [some (fieldV m ts), none, none] = .ok (nV (List.range m)) [some (fieldV m ts), none, none] := by
    rw [wRng1_run (i := (m : Int)) (e1 := [some (fieldV m ts), none, none]) (by simp) sm, Int.toNat_natCast, range_nV]
  obtain ⟨e3, q3⟩ : ∃ e3, d_seconds.body (callN GT (n + 2)) [some (fieldV m ts), none, none] = .ret (.lst ((secs m ts).map tieV)) e3 := by
    rw [show d_seconds.body = b_seconds from rfl]
    unfold b_seconds
    rw [sRet_ap]
    unfold mLc2
    rw [w, bind_ok, show wipeE [some (fieldV m ts), none, none] [1, 2] = [some (fieldV m ts), none, none] from rfl, h1]
    refine ⟨unwipe [some (fieldV m ts), none, none] e' [1, 2], ?_⟩
    simp only [toS_ok, List.nil_append]
    rfl
  exact run_ret rfl rfl q3 rfl
/-! the law's own -/
theorem eq_nat (i j : Nat) : eqV (.int (i : Int)) (.int (j : Int)) = some (.bl (decide (i = j))) := by
  rw [eqV_int]
  congr 2
  rw [Bool.eq_iff_iff]; simp; omega
theorem l_near_call (n : Nat) {m : Nat} {ts : List Tie} (hl : ts.length ≤ 60) {a : Nat} : callN GT (n + 1) k_l_near [fV m ts, .int a] = .ok (intsV (nbs ts a)) [] := by
  rw [call_of (d := d_l_near) rfl]
  obtain ⟨e', h1, x3, x4, rfl⟩ := for_inv (b := bindTup [bindName 3, bindName 4]) (body := sSeq (sIf (mBin eqV (mVar 3) (mVar 1)) (sApp 2 (mVar 4)) sPass) (sIf (mBin eqV (mVar 4) (mVar 1)) (sApp 2 (mVar 3)) sPass)) (cl := callN GT n) (fun k e => ∃ x3 x4, e = [some (fV m ts), some (.int a), some (intsV (nbl (ts.take k) a)), x3, x4]) (ts.map tieV) 0 [some (fV m ts), some (.int a), some (intsV []), none, none] ⟨none, none, by simp [nbl]⟩ (by
    rintro i x e hx ⟨x3, x4, rfl⟩
    rw [List.getElem?_map] at hx
    obtain ⟨p, hp, rfl⟩ := Option.map_eq_some_iff.mp hx
    rw [Nat.zero_add]
    have e1 : ts.take (i + 1) = ts.take i ++ [p] := by rw [List.take_add_one, hp]; rfl
    have nl := nbl_len (ts.take i) a
    have tl : (ts.take i).length ≤ 60 := by rw [List.length_take]; omega
    have hlt : (nbl (ts.take i) a).length < 16777216 := by omega
    have hlt2 : (nbl (ts.take i) a).length + 1 < 16777216 := by omega
    have c1 := eq_nat p.1 a
    have c2 := eq_nat p.2 a
    refine ⟨[some (fV m ts), some (.int a), some (intsV (nbl (ts.take i) a)), some (.int p.1), some (.int p.2)], [some (fV m ts), some (.int a), some (intsV (nbl (ts.take (i + 1)) a)), some (.int p.1), some (.int p.2)], by simp [tieV], ?_, _, _, rfl⟩
    rw [e1, nbl_app]
    by_cases h1 : p.1 = a
    · by_cases h2 : p.2 = a
      · simp [h1, h2, intsV, hlt, hlt2]
      · simp [h1, h2, intsV, hlt, hlt2]
        have : ¬ ((p.2 : Int) = a) := by omega
        simp [this]
    · have n1 : ¬ ((p.1 : Int) = a) := by omega
      by_cases h2 : p.2 = a
      · simp [n1, h1, h2, intsV, hlt, hlt2]
      · have n2 : ¬ ((p.2 : Int) = a) := by omega
        simp [n1, n2, h1, h2, intsV])
  have hs := kindN.sort (nbl ts a) (by have := nbl_len ts a; omega)
  obtain ⟨e3, q3⟩ : ∃ e3, d_l_near.body (callN GT n) [some (fV m ts), some (.int a), none, none, none] = .ret (intsV (nbs ts a)) e3 := by
    rw [show d_l_near.body = b_l_near from rfl]
    unfold b_l_near
    have q1 : sAsg (bindName 2) (mLst iNil) (callN GT n) [some (fV m ts), some (.int a), none, none, none] = .next [some (fV m ts), some (.int a), some (intsV []), none, none] := by simp [intsV]
    rw [seq_next q1]
    have q2 : sFor (wSeq (mBin itemV (mVar 0) (mLit (.int 1)))) (bindTup [bindName 3, bindName 4]) (sSeq (sIf (mBin eqV (mVar 3) (mVar 1)) (sApp 2 (mVar 4)) sPass) (sIf (mBin eqV (mVar 4) (mVar 1)) (sApp 2 (mVar 3)) sPass)) (callN GT n) [some (fV m ts), some (.int a), some (intsV []), none, none] = .next [some (fV m ts), some (.int a), some (intsV (nbl (ts.take (0 + (ts.map tieV).length)) a)), x3, x4] := by
      rw [sFor_ok (xs := ts.map tieV) (e1 := [some (fV m ts), some (.int a), some (intsV []), none, none]) (by simp [fV, tiesV, itemsOf])]
      exact h1
    rw [seq_next q2]
    refine ⟨[some (fV m ts), some (.int a), some (intsV (nbl ts a)), x3, x4], ?_⟩
    · simp only [Nat.zero_add, List.length_map, List.take_length]
      simp [intsV]
      rw [hs]
      simp [nbs, asc]
  exact run_ret rfl rfl q3 rfl
end CG
end
section
set_option Elab.async false
set_option linter.all false
set_option maxRecDepth 100000
set_option autoImplicit false
/-! M8: the law's seconds. -/
namespace CG
open PySem T0
def secB (ts : List Tie) (a b : Nat) : Bool := decide (b ∉ nbs ts a) && decide ((nbs ts a).filter (fun k => decide (k ∈ nbs ts b)) ≠ [])
def rng' (a m : Nat) : List Nat := (List.range (m - (a + 1))).map fun k => a + 1 + k
def lsec1 (m : Nat) (ts : List Tie) (a : Nat) : List Tie := ((rng' a m).filter (secB ts a)).map fun b => (a, b)
theorem mem_rng' {a m b : Nat} : b ∈ rng' a m ↔ a < b ∧ b < m := by
  unfold rng'
  rw [List.mem_map]
  constructor
  · rintro ⟨k, hk, rfl⟩; have := List.mem_range.mp hk; omega
  · rintro ⟨h1, h2⟩; exact ⟨b - (a + 1), List.mem_range.mpr (by omega), by omega⟩
theorem asc_pw {l : List Nat} (h : l.Nodup) : (asc l).Pairwise (· < ·) := by
  have h1 := List.pairwise_mergeSort (le := fun a b : Nat => !decide (b < a)) (fun a b c => by simp; omega) (fun a b => by simp; omega) l
  have h2 : (asc l).Nodup := (asc_perm l).nodup_iff.mpr h
  refine (h1.and h2).imp fun {a b} ⟨h3, h4⟩ => ?_
  simp at h3
  omega
theorem pw_eq {l m : List Nat} (hl : l.Pairwise (· < ·)) (hm : m.Pairwise (· < ·)) (h : ∀ x, x ∈ l ↔ x ∈ m) : l = m := by
  have n1 : l.Nodup := hl.imp fun h => Nat.ne_of_lt h
  have n2 : m.Nodup := hm.imp fun h => Nat.ne_of_lt h
  have hp : l.Perm m := (List.perm_ext_iff_of_nodup n1 n2).mpr h
  exact hp.eq_of_pairwise (le := (· < ·)) (fun a b _ _ h1 h2 => absurd h1 (by omega)) hl hm
theorem mem_secs1 {ts : List Tie} {a b : Nat} : b ∈ secs1 ts a ↔ (∃ k ∈ nbs ts a, b ∈ nbs ts k) ∧ b ≠ a ∧ b ∉ nbs ts a := by
  unfold secs1
  rw [List.mem_filter, mem_asc, (fold_addK _ _).2, List.mem_flatMap]
  simp only [List.not_mem_nil, false_or, Bool.and_eq_true, decide_eq_true_eq]
  constructor
  · rintro ⟨⟨k, h1, h2⟩, h3⟩; exact ⟨⟨k, h1, mem_asc.mpr h2⟩, h3⟩
  · rintro ⟨⟨k, h1, h2⟩, h3⟩; exact ⟨⟨k, h1, mem_asc.mp h2⟩, h3⟩
theorem secs1_pw (ts : List Tie) (a : Nat) : (secs1 ts a).Pairwise (· < ·) := (asc_pw ((fold_addK _ _).1 List.nodup_nil)).sublist List.filter_sublist
theorem sec_same {m : Nat} {ts : List Tie} (h : FOk m ts) (a : Nat) : ((secs1 ts a).filter fun b => decide (a < b)).map (fun b => (a, b)) = lsec1 m ts a := by
  unfold lsec1
  congr 1
  have hr : (rng' a m).Pairwise (· < ·) := by
    unfold rng'
    rw [List.pairwise_map]
    exact List.pairwise_lt_range.imp fun h => by omega
  refine pw_eq ((secs1_pw ts a).sublist List.filter_sublist) (hr.sublist List.filter_sublist) fun b => ?_
  rw [List.mem_filter, List.mem_filter, mem_secs1, mem_rng']
  simp only [secB, Bool.and_eq_true, decide_eq_true_eq]
  have hne : (nbs ts a).filter (fun k => decide (k ∈ nbs ts b)) ≠ [] ↔ ∃ k ∈ nbs ts a, b ∈ nbs ts k := by
    constructor
    · intro z
      obtain ⟨k, hk⟩ := List.exists_mem_of_ne_nil _ z
      rw [List.mem_filter] at hk
      exact ⟨k, hk.1, nbs_sym.mp (of_decide_eq_true hk.2)⟩
    · rintro ⟨k, h1, h2⟩ z
      have : k ∈ (nbs ts a).filter (fun k => decide (k ∈ nbs ts b)) := List.mem_filter.mpr ⟨h1, decide_eq_true (nbs_sym.mpr h2)⟩
      rw [z] at this; cases this
  rw [hne]
  constructor
  · rintro ⟨⟨⟨k, h1, h2⟩, h3, h4⟩, h5⟩; exact ⟨⟨h5, (nbs_lt h h2).1⟩, h4, k, h1, h2⟩
  · rintro ⟨⟨h1, h2⟩, h3, h4⟩; exact ⟨⟨h4, by omega, h3⟩, h1⟩
theorem secs_eq {m : Nat} {ts : List Tie} (h : FOk m ts) : secs m ts = (List.range m).flatMap (lsec1 m ts) := by
  unfold secs
  congr 1
  funext a
  exact sec_same h a
def nearHere (m : Nat) (ts : List Tie) : Val := .lst ((List.range m).map fun a => intsV (nbs ts a))
theorem nh_at {m : Nat} {ts : List Tie} {a : Nat} (h : a < m) : L2.atI ((List.range m).map fun a => intsV (nbs ts a)) (a : Int) = some (intsV (nbs ts a)) := by
  refine L2.atI_nat ?_
  rw [List.getElem?_map, List.getElem?_range h]; rfl
theorem nearHere_run (n : Nat) {m : Nat} {ts : List Tie} (h : FOk m ts) : ∃ e', mLc [5] (wRng1 (mBin itemV (mVar 0) (mLit (.int 0)))) (bindName 5) (mLit (.bl true)) (mCall 24 (aVal (mVar 0) (aVal (mVar 5) aNil))) (callN GT (n + 1)) [some (fV m ts), none, none, none, none, none, none] = .ok (nearHere m ts) e' ∧ e' = [some (fV m ts), none, none, none, none, none, none] := by
  have hm := h.m1
  have sm : small (m : Int) = true := small_nat (by omega)
  have w : wRng1 (mBin itemV (mVar 0) (mLit (.int 0))) (callN GT (n + 1)) [some (fV m ts), none, none, none, none, none, none] = .ok (nV (List.range m)) [some (fV m ts), none, none, none, none, none, none] := by
    rw [wRng1_run (i := (m : Int)) (e1 := [some (fV m ts), none, none, none, none, none, none]) (by simp [fV]) sm, Int.toNat_natCast, range_nV]
  have g : ∀ (l : List Nat) (acc : List Val) (x5 : Option Val), acc.length + l.length ≤ 1000 → ∃ x5', mLcGo [5] (bindName 5) (mLit (.bl true)) (mCall 24 (aVal (mVar 0) (aVal (mVar 5) aNil))) (nV l) acc (callN GT (n + 1)) [some (fV m ts), none, none, none, none, x5, none] = .ok (acc ++ l.map fun a => intsV (nbs ts a)) [some (fV m ts), none, none, none, none, x5', none] := by
    intro l
    induction l with
    | nil => intro acc x5 _; exact ⟨x5, by simp [mLcGo]⟩
    | cons y l ih =>
      intro acc x5 hl
      rw [List.length_cons] at hl
      obtain ⟨x5', he⟩ := ih (acc ++ [intsV (nbs ts y)]) (some (.int y)) (by simp; omega)
      refine ⟨x5', ?_⟩
      have hlt : acc.length < 16777216 := by omega
      have hc := l_near_call n (m := m) h.len (a := y)
      simp [mLcGo, wipeE, hlt, hc] at he ⊢
      exact he
  obtain ⟨x5', hg⟩ := g (List.range m) [] none (by simp; omega)
  refine ⟨[some (fV m ts), none, none, none, none, none, none], ?_, rfl⟩
  unfold mLc
  rw [w, bind_ok, show wipeE [some (fV m ts), none, none, none, none, none, none] [5] = [some (fV m ts), none, none, none, none, none, none] from rfl, hg]
  simp [unwipe, nearHere]
abbrev sE (m : Nat) (ts fd : List Tie) (x3 x4 x5 x6 : Option Val) : Env := [some (fV m ts), some (nearHere m ts), some (.lst (fd.map tieV)), x3, x4, x5, x6]
theorem comp_sec {cl : Cl} {m : Nat} {ts fd : List Tie} (h : FOk m ts) {a b : Nat} (ha : a < m) (hb : b < m) {x5 x6 : Option Val} : ∃ e', mLc [6] (wSeq (mBin itemV (mVar 1) (mVar 3))) (bindName 6) (mBin inV (mVar 6) (mBin itemV (mVar 1) (mVar 4))) (mVar 6) cl (sE m ts fd (some (.int a)) (some (.int b)) x5 x6) = .ok (intsV ((nbs ts a).filter fun k => decide (k ∈ nbs ts b))) e' ∧ e' = sE m ts fd (some (.int a)) (some (.int b)) x5 x6 := by
  have hl := nbs_len ts a
  have hlen := h.len
  have g : ∀ (l acc : List Nat) (x6 : Option Val), acc.length + l.length ≤ 1000 → ∃ x6', mLcGo [6] (bindName 6) (mBin inV (mVar 6) (mBin itemV (mVar 1) (mVar 4))) (mVar 6) (nV l) (nV acc) cl (sE m ts fd (some (.int a)) (some (.int b)) x5 x6) = .ok (nV (acc ++ l.filter fun k => decide (k ∈ nbs ts b))) (sE m ts fd (some (.int a)) (some (.int b)) x5 x6') := by
    intro l
    induction l with
    | nil => intro acc x6 _; exact ⟨x6, by simp [mLcGo]⟩
    | cons y l ih =>
      intro acc x6 hl
      rw [List.length_cons] at hl
      have hin : inV (.int (y : Int)) (intsV (nbs ts b)) = some (.bl (decide (y ∈ nbs ts b))) := eqN.inL y (nbs ts b)
      have hat := nh_at (ts := ts) hb
      by_cases hy : y ∈ nbs ts b
      · obtain ⟨x6', he⟩ := ih (acc ++ [y]) (some (.int y)) (by simp; omega)
        refine ⟨x6', ?_⟩
        have hlt : acc.length < 16777216 := by omega
        simp [mLcGo, wipeE, hlt, nearHere, hat, hin, hy, List.filter_cons] at he ⊢
        exact he
      · obtain ⟨x6', he⟩ := ih acc (some (.int y)) (by omega)
        refine ⟨x6', ?_⟩
        simp [mLcGo, wipeE, nearHere, hat, hin, hy, List.filter_cons] at he ⊢
        exact he
  obtain ⟨x6', hg⟩ := g (nbs ts a) [] none (by simp; omega)
  refine ⟨_, ?_, rfl⟩
  unfold mLc
  have hat := nh_at (ts := ts) ha
  have w : wSeq (mBin itemV (mVar 1) (mVar 3)) cl (sE m ts fd (some (.int a)) (some (.int b)) x5 x6) = .ok (nV (nbs ts a)) (sE m ts fd (some (.int a)) (some (.int b)) x5 x6) := by
    have hi : itemsOf (intsV (nbs ts a)) = some (nV (nbs ts a)) := rfl
    simp [nearHere, hat, hi]
  rw [w, bind_ok, show wipeE (sE m ts fd (some (.int a)) (some (.int b)) x5 x6) [6] = sE m ts fd (some (.int a)) (some (.int b)) x5 none from rfl]
  have hg : mLcGo [6] (bindName 6) (mBin inV (mVar 6) (mBin itemV (mVar 1) (mVar 4))) (mVar 6) (nV (nbs ts a)) [] cl (sE m ts fd (some (.int a)) (some (.int b)) x5 none) = _ := hg
  rw [hg]
  simp [unwipe, intsV]
def sIn : S := sIf (mAnd (mBin notinV (mVar 4) (mBin itemV (mVar 1) (mVar 3))) (mBin neV (mLc [6] (wSeq (mBin itemV (mVar 1) (mVar 3))) (bindName 6) (mBin inV (mVar 6) (mBin itemV (mVar 1) (mVar 4))) (mVar 6)) (mLst iNil))) (sApp 2 (mTup (iCons (mVar 3) (iCons (mVar 4) iNil)))) sPass
theorem sIn_run {cl : Cl} {m : Nat} {ts fd : List Tie} (h : FOk m ts) {a b : Nat} (ha : a < m) (hb : b < m) {x5 x6 : Option Val} (hf : fd.length ≤ 10000) : sIn cl (sE m ts fd (some (.int a)) (some (.int b)) x5 x6) = .next (sE m ts (if secB ts a b = true then fd ++ [(a, b)] else fd) (some (.int a)) (some (.int b)) x5 x6) := by
  obtain ⟨e', hc, rfl⟩ := comp_sec (cl := cl) (fd := fd) h ha hb (x5 := x5) (x6 := x6)
  have hat := nh_at (ts := ts) ha
  have hn : notinV (.int (b : Int)) (intsV (nbs ts a)) = some (.bl (decide (b ∉ nbs ts a))) := eqN.notinL b (nbs ts a)
  have hne : neV (intsV ((nbs ts a).filter fun k => decide (k ∈ nbs ts b))) (.lst []) = some (.bl (decide ((nbs ts a).filter (fun k => decide (k ∈ nbs ts b)) ≠ []))) := eqN.neL _ []
  unfold sIn
  have q1 : mBin notinV (mVar 4) (mBin itemV (mVar 1) (mVar 3)) cl (sE m ts fd (some (.int a)) (some (.int b)) x5 x6) = .ok (.bl (decide (b ∉ nbs ts a))) (sE m ts fd (some (.int a)) (some (.int b)) x5 x6) := by
    simp [nearHere, hat, hn]
  have q2 : mBin neV (mLc [6] (wSeq (mBin itemV (mVar 1) (mVar 3))) (bindName 6) (mBin inV (mVar 6) (mBin itemV (mVar 1) (mVar 4))) (mVar 6)) (mLst iNil) cl (sE m ts fd (some (.int a)) (some (.int b)) x5 x6) = .ok (.bl (decide ((nbs ts a).filter (fun k => decide (k ∈ nbs ts b)) ≠ []))) (sE m ts fd (some (.int a)) (some (.int b)) x5 x6) := by
    rw [mBin_ap, hc, bind_ok]
    simp only [mLst_ap, iNil_ap, bind_ok, List.length_nil, Nat.zero_le, if_true, hne, ret_some]
  have hlt : fd.length < 16777216 := by omega
  have q3 : sApp 2 (mTup (iCons (mVar 3) (iCons (mVar 4) iNil))) cl (sE m ts fd (some (.int a)) (some (.int b)) x5 x6) = .next (sE m ts (fd ++ [(a, b)]) (some (.int a)) (some (.int b)) x5 x6) := by
    simp [hlt, tieV]
  rw [sIf_ap, mAnd_ap, q1, asB_ok, bind_ok]
  unfold secB
  by_cases h1 : b ∉ nbs ts a
  · rw [decide_eq_true h1, if_pos rfl, q2, asB_ok, toS_ok]
    by_cases h2 : (nbs ts a).filter (fun k => decide (k ∈ nbs ts b)) ≠ []
    · rw [decide_eq_true h2, if_pos rfl, q3]; simp
    · rw [decide_eq_false h2, if_neg (by decide), sPass_ap]; simp
  · rw [decide_eq_false h1, if_neg (by decide), asB_ok, toS_ok, if_neg (by decide), sPass_ap]; simp
def sOut : S := sFor (wRng2 (mBin addA (mVar 3) (mLit (.int 1))) (mBin itemV (mVar 0) (mLit (.int 0)))) (bindName 4) sIn
theorem sOut_run {cl : Cl} {m : Nat} {ts fd : List Tie} (h : FOk m ts) {a : Nat} (ha : a < m) {x4 x5 x6 : Option Val} (hf : fd.length ≤ 5000) : ∃ x4', sOut cl (sE m ts fd (some (.int a)) x4 x5 x6) = .next (sE m ts (fd ++ lsec1 m ts a) (some (.int a)) x4' x5 x6) := by
  have hm := h.m1
  unfold sOut
  have s1 : small ((a : Int) + 1) = true := by
    rw [show (a : Int) + 1 = ((a + 1 : Nat) : Int) by omega]; exact small_nat (by omega)
  have s2 : small (m : Int) = true := small_nat (by omega)
  have s3 : ((m : Int) - ((a : Int) + 1)).toNat = m - (a + 1) := by omega
  rw [sFor_ok (xs := rangeV ((a : Int) + 1) (m - (a + 1))) (e1 := sE m ts fd (some (.int a)) x4 x5 x6) (by rw [← s3]; exact wRng2_run (i := (a : Int) + 1) (j := (m : Int)) (e1 := sE m ts fd (some (.int a)) x4 x5 x6) (by simp) (by simp [fV]) s1 s2)]
  obtain ⟨e', h1, x4', rfl⟩ := for_inv (b := bindName 4) (body := sIn) (cl := cl) (fun k e => ∃ x4, e = sE m ts (fd ++ (((List.range k).map fun j => a + 1 + j).filter (secB ts a)).map fun b => (a, b)) (some (.int a)) x4 x5 x6) (rangeV ((a : Int) + 1) (m - (a + 1))) 0 (sE m ts fd (some (.int a)) x4 x5 x6) ⟨x4, by simp⟩ (by
    rintro i x e hx ⟨x4, rfl⟩
    obtain ⟨hi, rfl⟩ := range_get hx
    rw [Nat.zero_add]
    have hlen : ((((List.range i).map fun j => a + 1 + j).filter (secB ts a)).map fun b => (a, b)).length ≤ i := by
      rw [List.length_map]
      exact Nat.le_trans (List.length_filter_le _ _) (by simp)
    refine ⟨sE m ts (fd ++ (((List.range i).map fun j => a + 1 + j).filter (secB ts a)).map fun b => (a, b)) (some (.int a)) (some (.int ((a + 1 + i : Nat) : Int))) x5 x6, _, by simp, sIn_run h ha (by omega) (by rw [List.length_append]; omega), some (.int ((a + 1 + i : Nat) : Int)), ?_⟩
    rw [List.range_succ, List.map_append, List.filter_append, List.map_append]
    cases hs : secB ts a (a + 1 + i) <;> simp [hs])
  rw [range_len, Nat.zero_add] at h1
  exact ⟨x4', h1⟩
theorem lsec1_len (m : Nat) (ts : List Tie) (a : Nat) : (lsec1 m ts a).length ≤ m := by
  unfold lsec1 rng'
  rw [List.length_map]
  exact Nat.le_trans (List.length_filter_le _ _) (by simp)
theorem l_seconds_call (n : Nat) {m : Nat} {ts : List Tie} (h : FOk m ts) : callN GT (n + 2) k_l_seconds [fV m ts] = .ok (.lst ((secs m ts).map tieV)) [] := by
  rw [call_of (d := d_l_seconds) rfl]
  have hm := h.m1
  obtain ⟨e0, h0, rfl⟩ := nearHere_run n h
  have s2 : small (m : Int) = true := small_nat (by omega)
  have q1 : sPar2 1 2 (mLc [5] (wRng1 (mBin itemV (mVar 0) (mLit (.int 0)))) (bindName 5) (mLit (.bl true)) (mCall 24 (aVal (mVar 0) (aVal (mVar 5) aNil)))) (mLst iNil) (callN GT (n + 1)) [some (fV m ts), none, none, none, none, none, none] = .next (sE m ts [] none none none none) := by
    unfold sPar2
    rw [h0]
    simp
  obtain ⟨e', h1, x3, x4, rfl⟩ := for_inv (b := bindName 3) (body := sOut) (cl := callN GT (n + 1)) (fun k e => ∃ x3 x4, e = sE m ts ((List.range k).flatMap (lsec1 m ts)) x3 x4 none none) (rangeV 0 m) 0 (sE m ts [] none none none none) ⟨none, none, by simp⟩ (by
    rintro i x e hx ⟨x3, x4, rfl⟩
    obtain ⟨hi, rfl⟩ := range_get hx
    rw [Nat.zero_add]
    have hlen : ∀ k, k ≤ 40 → ((List.range k).flatMap (lsec1 m ts)).length ≤ 40 * k := by
      intro k
      induction k with
      | zero => simp
      | succ k ih =>
        intro hk
        rw [List.range_succ, List.flatMap_append, List.length_append]
        have h1 := lsec1_len m ts k
        have h2 := ih (by omega)
        have h3 : ([k].flatMap (lsec1 m ts)).length = (lsec1 m ts k).length := by simp
        omega
    have := hlen i (by omega)
    obtain ⟨x4', ho⟩ := sOut_run (cl := callN GT (n + 1)) (fd := (List.range i).flatMap (lsec1 m ts)) h (a := i) hi (x4 := x4) (x5 := none) (x6 := none) (by omega)
    refine ⟨sE m ts ((List.range i).flatMap (lsec1 m ts)) (some (.int i)) x4 none none, _, by simp, ho, some (.int i), x4', ?_⟩
    rw [List.range_succ, List.flatMap_append]
    simp)
  rw [range_len, Nat.zero_add, ← secs_eq h] at h1
  have q2 : sFor (wRng1 (mBin itemV (mVar 0) (mLit (.int 0)))) (bindName 3) sOut (callN GT (n + 1)) (sE m ts [] none none none none) = .next (sE m ts (secs m ts) x3 x4 none none) := by
    rw [sFor_ok (xs := rangeV 0 m) (e1 := sE m ts [] none none none none) (wRng1_run (i := (m : Int)) (by simp [fV]) s2)]
    exact h1
  have q3 : d_l_seconds.body (callN GT (n + 1)) [some (fV m ts), none, none, none, none, none, none] = .ret (.lst ((secs m ts).map tieV)) [some (fV m ts), some (nearHere m ts), none, x3, x4, none, none] := by
    rw [show d_l_seconds.body = sSeq (sPar2 1 2 (mLc [5] (wRng1 (mBin itemV (mVar 0) (mLit (.int 0)))) (bindName 5) (mLit (.bl true)) (mCall 24 (aVal (mVar 0) (aVal (mVar 5) aNil)))) (mLst iNil)) (sSeq (sFor (wRng1 (mBin itemV (mVar 0) (mLit (.int 0)))) (bindName 3) sOut) (sRet (mMv 2))) from rfl, seq_next q1, seq_next q2]
    simp
  exact run_ret rfl rfl q3 rfl
end CG
end
section
set_option Elab.async false
set_option linter.all false
set_option maxRecDepth 100000
set_option autoImplicit false
/-! M9: channels, numbers apart, clashes. -/
namespace CG
open PySem T0
def apartOk (near far : Val) : Bool := match near with
  | .int i => decide (1 ≤ i) && decide (i ≤ 5) && isFrom far 0 i
  | _ => false
theorem check_apart_call (n : Nat) {near far : Val} (h1 : plainV near = true) (h2 : plainV far = true) : callN GT (n + 2) k_check_apart [near, far] = if apartOk near far = true then .ok .non [] else .exc "BadApart" [] := by
  rw [call_of (d := d_check_apart) rfl]
  have e1 := is_from_call n h1 1 5
  by_cases hf : isFrom near 1 5 = true
  · obtain ⟨i, rfl, i1, i2⟩ := isFrom_int hf
    have e2 := is_from_call n h2 0 i
    rw [hf] at e1
    have ha : apartOk (.int i) far = isFrom far 0 i := by simp [apartOk, i1, i2]
    rw [ha]
    cases h : isFrom far 0 i <;> rw [h] at e2 <;> simp [runDef, d_check_apart, b_check_apart, e1, e2, ioOut]
  · have ha : apartOk near far = false := by
      cases near <;> simp [apartOk, isFrom] at hf ⊢
      intro h1 h2
      have := hf h1
      omega
    rw [ha]
    have hf : isFrom near 1 5 = false := by simpa using hf
    rw [hf] at e1
    simp [runDef, d_check_apart, b_check_apart, e1, ioOut]
def chOk (m : Nat) (v : Val) : Bool := match v with
  | .tup xs => decide (xs.length = m) && xs.all fun x => isFrom x 0 99
  | _ => false
/-- all([is_from(x, lo, hi) for x in xs]) in some slot -/
theorem all_from {cl : Cl} {lo hi : Int} {a b : Option Val} (hc : ∀ x : Val, plainV x = true → cl 1 [x, .int lo, .int hi] = .ok (.bl (isFrom x lo hi)) []) : ∀ (xs : List Val) (acc : List Bool) (x2 : Option Val), (∀ x ∈ xs, plainV x = true) → acc.length + xs.length ≤ 100000 →
    ∃ e', mLcGo [2] (bindName 2) (mLit (.bl true)) (mCall 1 (aVal (mVar 2) (aVal (mLit (.int lo)) (aVal (mLit (.int hi)) aNil)))) xs (acc.map Val.bl) cl [a, b, x2] = .ok ((acc ++ xs.map fun x => isFrom x lo hi).map Val.bl) e'
  | [], acc, x2, _, _ => ⟨_, by simp [mLcGo]; rfl⟩
  | x :: xs, acc, x2, hp, hl => by
    rw [List.length_cons] at hl
    obtain ⟨e', h⟩ := all_from hc xs (acc ++ [isFrom x lo hi]) (some x) (fun y hy => hp y (List.mem_cons_of_mem _ hy)) (by simp; omega)
    refine ⟨e', ?_⟩
    have hlt : acc.length < 16777216 := by omega
    have hx := hc x (hp x List.mem_cons_self)
    simp [mLcGo, wipeE, hlt, hx] at h ⊢
    exact h
theorem bls_map : ∀ bs : List Bool, blsOf (bs.map Val.bl) = some bs
  | [] => rfl
  | b :: bs => by simp [blsOf, bls_map bs]
theorem are_channels_call (n : Nat) {m : Nat} {ts : List Tie} {v : Val} (h1 : plainV v = true) (h2 : ∀ xs, v = .tup xs → xs.length ≤ 1000 ∧ ∀ x ∈ xs, plainV x = true) : callN GT (n + 2) k_are_channels [fieldV m ts, v] = .ok (.bl (chOk m v)) [] := by
  rw [call_of (d := d_are_channels) rfl]
  by_cases ht : ∃ xs, v = .tup xs
  · obtain ⟨xs, rfl⟩ := ht
    obtain ⟨hl, hp⟩ := h2 xs rfl
    have hne : neV (.int (xs.length : Int)) (.int (m : Int)) = some (.bl (decide (xs.length ≠ m))) := by
      rw [neV_int]; congr 2; rw [Bool.eq_iff_iff]; simp; omega
    by_cases hm : xs.length = m
    · obtain ⟨e', hg⟩ := all_from (cl := callN GT (n + 1)) (lo := 0) (hi := 99) (a := some (fieldV m ts)) (b := some (.tup xs)) (fun x hx => is_from_call n hx 0 99) xs [] none hp (by simp; omega)
      obtain ⟨e3, q3⟩ : ∃ e3, d_are_channels.body (callN GT (n + 1)) [some (fieldV m ts), some (.tup xs), none] = .ret (.bl (chOk m (.tup xs))) e3 := by
        rw [show d_are_channels.body = b_are_channels from rfl]
        unfold b_are_channels
        have q1 : sIf (mOr (mNot (mUn (isiV "tuple") (mVar 1))) (mBin neV (mCallB (op1 lenV) (iCons (mVar 1) iNil)) (mUn (fldV "many") (mVar 0)))) (sRet (mLit (.bl false))) sPass (callN GT (n + 1)) [some (fieldV m ts), some (.tup xs), none] = .next [some (fieldV m ts), some (.tup xs), none] := by
          simp [isiV, tyName, isTy, hm]
        rw [seq_next q1]
        have hg : mLcGo [2] (bindName 2) (mLit (.bl true)) (mCall 1 (aVal (mVar 2) (aVal (mLit (.int 0)) (aVal (mLit (.int 99)) aNil)))) xs [] (callN GT (n + 1)) [some (fieldV m ts), some (.tup xs), none] = _ := hg
        refine ⟨unwipe [some (fieldV m ts), some (.tup xs), none] e' [2], ?_⟩
        simp only [sRet_ap, mCallB_ap, iCons_ap, iNil_ap, mLc, wSeq_ap, var_at (show ([some (fieldV m ts), some (Val.tup xs), none] : Env)[1]? = some (some (.tup xs)) from rfl), bind_ok, itemsOf, ret_some]
        rw [show wipeE [some (fieldV m ts), some (Val.tup xs), none] [2] = [some (fieldV m ts), some (Val.tup xs), none] from rfl, hg]
        have hb : blsOf (xs.map fun x => Val.bl (isFrom x 0 99)) = some (xs.map fun x => isFrom x 0 99) := by
          have := bls_map (xs.map fun x => isFrom x 0 99)
          rw [List.map_map] at this
          exact this
        simp [allV, hb, chOk, hm, List.all_map, Function.comp_def]
      exact run_ret rfl rfl q3 rfl
    · have hm' : ¬ ((xs.length : Int) = m) := by omega
      simp [runDef, d_are_channels, b_are_channels, isiV, tyName, isTy, ioOut, hm', chOk, hm]
  · have e : chOk m v = false := by
      unfold chOk
      split
      · exact absurd ⟨_, rfl⟩ ht
      · rfl
    cases v <;> simp [runDef, d_are_channels, b_are_channels, isiV, tyName, isTy, ioOut, e, plainV] at h1 ht ⊢
theorem check_channels_call (n : Nat) {m : Nat} {ts : List Tie} {v : Val} (h1 : plainV v = true) (h2 : ∀ xs, v = .tup xs → xs.length ≤ 1000 ∧ ∀ x ∈ xs, plainV x = true) : callN GT (n + 3) k_check_channels [fieldV m ts, v] = if chOk m v = true then .ok .non [] else .exc "BadChannels" [] := by
  rw [call_of (d := d_check_channels) rfl]
  have e := are_channels_call n (m := m) (ts := ts) h1 h2
  cases h : chOk m v <;> rw [h] at e <;> simp [runDef, d_check_channels, b_check_channels, e, ioOut]
/-! ### clashes -/
def chV (cs : List Nat) : Val := .tup (nV cs)
def gapOf (cs : List Nat) (p : Tie) : Int := if ((cs.getD p.1 0 : Nat) : Int) - (cs.getD p.2 0 : Nat) < 0 then -(((cs.getD p.1 0 : Nat) : Int) - (cs.getD p.2 0 : Nat)) else ((cs.getD p.1 0 : Nat) : Int) - (cs.getD p.2 0 : Nat)
def clashL (m : Nat) (ts : List Tie) (cs : List Nat) (near far : Int) : List Tie := (ts.filter fun p => decide (gapOf cs p < near)) ++ ((secs m ts).filter fun p => decide (gapOf cs p < far))
def minTie : List Tie → Val
  | [] => .non
  | p :: l => tieV (l.foldl (fun a y => if plt y a then y else a) p)
theorem min_tie (p : Tie) (l : List Tie) : minV (.lst ((p :: l).map tieV)) = some (minTie (p :: l)) := by
  have := kindT.min (fun a => by simp [tieD]) p l
  rw [List.map_cons]
  show minV (.lst (tieV p :: l.map tieV)) = _
  have e : minV (.lst (tieV p :: l.map tieV)) = minV (.lst (tieV p :: l.map tieV)) := rfl
  simp only [minV, bestV, itemsOf] at this ⊢
  rw [this]
  simp [minTie]
def triV (q : Tie × Int) : Val := .tup [.int q.1.1, .int q.1.2, .int q.2]
abbrev cE (F : Val) (cs : List Nat) (near far : Int) (x4 x5 x6 x7 x8 : Option Val) : Env := [some F, some (chV cs), some (.int near), some (.int far), x4, x5, x6, x7, x8]
theorem tri_run {cl : Cl} {F : Val} {cs : List Nat} {near far ap : Int} {x4 x5 x8 : Option Val} {j : Nat} (hj : ∀ x6 x7 : Option Val, (cE F cs near far x4 x5 x6 x7 x8)[j]? = some (some (.int ap))) : ∀ (l : List Tie) (acc : List Val) (x6 x7 : Option Val), acc.length + l.length ≤ 100000 →
    ∃ y6 y7, mLcGo [6, 7] (bindTup [bindName 6, bindName 7]) (mLit (.bl true)) (mTup (iCons (mVar 6) (iCons (mVar 7) (iCons (mVar j) iNil)))) (l.map tieV) acc cl (cE F cs near far x4 x5 x6 x7 x8) = .ok (acc ++ l.map fun p => triV (p, ap)) (cE F cs near far x4 x5 y6 y7 x8)
  | [], acc, x6, x7, _ => ⟨x6, x7, by simp [mLcGo]⟩
  | p :: l, acc, x6, x7, hl => by
    rw [List.length_cons] at hl
    obtain ⟨y6, y7, h⟩ := tri_run hj l (acc ++ [triV (p, ap)]) (some (.int p.1)) (some (.int p.2)) (by simp; omega)
    refine ⟨y6, y7, ?_⟩
    have hlt : acc.length < 16777216 := by omega
    have h0 := hj (some (.int p.1)) (some (.int p.2))
    simp [mLcGo, wipeE, tieV, hlt, h0] at h ⊢
    rw [← h]; rfl
theorem ch_at {cs : List Nat} {i : Nat} (h : i < cs.length) : itemV (chV cs) (.int (i : Int)) = some (.int (cs.getD i 0 : Nat)) := by
  unfold chV; rw [itemV_tup]; exact ix_get h
theorem gap_run {cl : Cl} {F : Val} {cs : List Nat} {near far : Int} {x4 x5 : Option Val} : ∀ (l : List (Tie × Int)) (acc : List Val) (x6 x7 x8 : Option Val), (∀ q ∈ l, q.1.1 < cs.length ∧ q.1.2 < cs.length) → acc.length + l.length ≤ 100000 →
    ∃ y6 y7 y8, mLcGo [6, 7, 8] (bindTup [bindName 6, bindName 7, bindName 8]) (mBin ltV (mCallB (op1 absV) (iCons (mBin subV (mBin itemV (mVar 1) (mVar 6)) (mBin itemV (mVar 1) (mVar 7))) iNil)) (mVar 8)) (mTup (iCons (mVar 6) (iCons (mVar 7) iNil))) (l.map triV) acc cl (cE F cs near far x4 x5 x6 x7 x8) = .ok (acc ++ ((l.filter fun q => decide (gapOf cs q.1 < q.2)).map fun q => tieV q.1)) (cE F cs near far x4 x5 y6 y7 y8)
  | [], acc, x6, x7, x8, _, _ => ⟨x6, x7, x8, by simp [mLcGo]⟩
  | q :: l, acc, x6, x7, x8, hb, hl => by
    rw [List.length_cons] at hl
    obtain ⟨b1, b2⟩ := hb q List.mem_cons_self
    have c1 := ch_at b1
    have c2 := ch_at b2
    have hlt : acc.length < 16777216 := by omega
    by_cases hg : gapOf cs q.1 < q.2
    · obtain ⟨y6, y7, y8, h⟩ := gap_run (cl := cl) (F := F) (near := near) (far := far) (x4 := x4) (x5 := x5) l (acc ++ [tieV q.1]) (some (.int q.1.1)) (some (.int q.1.2)) (some (.int q.2)) (fun r hr => hb r (List.mem_cons_of_mem _ hr)) (by simp; omega)
      refine ⟨y6, y7, y8, ?_⟩
      have hg' := hg
      unfold gapOf at hg'
      rw [List.filter_cons, if_pos (by simpa using hg)]
      simp [mLcGo, wipeE, triV, hlt, c1, c2, absV] at h hg' ⊢
      rw [if_pos hg', ← h]; rfl
    · obtain ⟨y6, y7, y8, h⟩ := gap_run (cl := cl) (F := F) (near := near) (far := far) (x4 := x4) (x5 := x5) l acc (some (.int q.1.1)) (some (.int q.1.2)) (some (.int q.2)) (fun r hr => hb r (List.mem_cons_of_mem _ hr)) (by omega)
      refine ⟨y6, y7, y8, ?_⟩
      have hg' := hg
      unfold gapOf at hg'
      rw [List.filter_cons, if_neg (by simpa using hg)]
      simp [mLcGo, wipeE, triV, hlt, c1, c2, absV] at h hg' ⊢
      rw [if_neg (by omega), ← h]
theorem secs_ok {m : Nat} {ts : List Tie} (h : FOk m ts) : (∀ p ∈ secs m ts, p.1 < p.2 ∧ p.2 < m) ∧ (secs m ts).length ≤ 1600 := by
  have hm := h.m1
  refine ⟨fun p hp => ?_, ?_⟩
  · rw [secs_eq h] at hp
    obtain ⟨a, ha, hp⟩ := List.mem_flatMap.mp hp
    unfold lsec1 at hp
    obtain ⟨b, hb, rfl⟩ := List.mem_map.mp hp
    exact mem_rng'.mp (List.mem_filter.mp hb).1
  · rw [secs_eq h]
    have hlen : ∀ k, k ≤ 40 → ((List.range k).flatMap (lsec1 m ts)).length ≤ 40 * k := by
      intro k
      induction k with
      | zero => simp
      | succ k ih =>
        intro hk
        rw [List.range_succ, List.flatMap_append, List.length_append]
        have h1 := lsec1_len m ts k
        have h2 := ih (by omega)
        have h3 : ([k].flatMap (lsec1 m ts)).length = (lsec1 m ts k).length := by simp
        omega
    have := hlen m hm
    omega
theorem clash_pairs {m : Nat} {ts : List Tie} {cs : List Nat} {near far : Int} : (((ts.map fun p => ((p, near) : Tie × Int)) ++ (secs m ts).map fun p => (p, far)).filter fun q => decide (gapOf cs q.1 < q.2)).map (fun q => tieV q.1) = (clashL m ts cs near far).map tieV := by
  unfold clashL
  rw [List.filter_append, List.map_append, List.map_append, List.filter_map, List.filter_map, List.map_map, List.map_map]
  rfl
theorem addA_lst {xs ys : List Val} (h : xs.length + ys.length ≤ 100000) : addA (.lst xs) (.lst ys) = some (.lst (xs ++ ys)) := by
  show (if xs.length + ys.length ≤ line then some (Val.lst (xs ++ ys)) else none) = _
  rw [if_pos (by rw [line_val]; omega)]
abbrev allT (m : Nat) (ts : List Tie) (near far : Int) : List (Tie × Int) := (ts.map fun p => (p, near)) ++ (secs m ts).map fun p => (p, far)
theorem clash_l1 (n : Nat) {m : Nat} {ts : List Tie} {cs : List Nat} {near far : Int} (h : FOk m ts) : mLc [6, 7] (wSeq (mUn (fldV "rows") (mVar 0))) (bindTup [bindName 6, bindName 7]) (mLit (.bl true)) (mTup (iCons (mVar 6) (iCons (mVar 7) (iCons (mVar 2) iNil)))) (callN GT (n + 3)) (cE (fieldV m ts) cs near far none none none none none) = .ok (.lst (ts.map fun p => triV (p, near))) (cE (fieldV m ts) cs near far none none none none none) := by
  have hl := h.len
  obtain ⟨y6, y7, t1⟩ := tri_run (cl := callN GT (n + 3)) (F := fieldV m ts) (cs := cs) (near := near) (far := far) (x4 := none) (x5 := none) (x8 := none) (j := 2) (ap := near) (fun _ _ => rfl) ts [] none none (by rw [List.length_nil]; omega)
  unfold mLc
  have w : wSeq (mUn (fldV "rows") (mVar 0)) (callN GT (n + 3)) (cE (fieldV m ts) cs near far none none none none none) = .ok (ts.map tieV) (cE (fieldV m ts) cs near far none none none none none) := by simp [tiesV, itemsOf]
  rw [w, bind_ok, show wipeE (cE (fieldV m ts) cs near far none none none none none) [6, 7] = cE (fieldV m ts) cs near far none none none none none from rfl, t1]
  rw [List.nil_append]
  rfl
theorem args1 {k : Fn} {cl : Cl} {e : Env} {al : M (List Arg)} {a v : Val} (h : al cl e = .ok [.v a] e) (c : cl k [a] = .ok v []) : mCall k al cl e = .ok v e := by
  rw [mCall_ap, h, bind_ok, show argVals e [.v a] = some [a] from rfl]
  simp only [c, lentOk]
  rfl
theorem clash_w (n : Nat) {m : Nat} {ts : List Tie} {cs : List Nat} {near far : Int} (h : FOk m ts) : wSeq (mCall 17 (aVal (mVar 0) aNil)) (callN GT (n + 3)) (cE (fieldV m ts) cs near far none none none none none) = .ok ((secs m ts).map tieV) (cE (fieldV m ts) cs near far none none none none none) := by
  have sc := seconds_call n h
  have a : aVal (mVar 0) aNil (callN GT (n + 3)) (cE (fieldV m ts) cs near far none none none none none) = .ok [.v (fieldV m ts)] (cE (fieldV m ts) cs near far none none none none none) := by
    rw [aVal_ap, var_at (show (cE (fieldV m ts) cs near far none none none none none)[0]? = some (some (fieldV m ts)) from rfl)]
    rfl
  rw [wSeq_ap, args1 a sc]
  rfl
theorem clash_l2 (n : Nat) {m : Nat} {ts : List Tie} {cs : List Nat} {near far : Int} (h : FOk m ts) : mLc [6, 7] (wSeq (mCall 17 (aVal (mVar 0) aNil))) (bindTup [bindName 6, bindName 7]) (mLit (.bl true)) (mTup (iCons (mVar 6) (iCons (mVar 7) (iCons (mVar 3) iNil)))) (callN GT (n + 3)) (cE (fieldV m ts) cs near far none none none none none) = .ok (.lst ((secs m ts).map fun p => triV (p, far))) (cE (fieldV m ts) cs near far none none none none none) := by
  have hs := secs_ok h
  obtain ⟨z6, z7, t2⟩ := tri_run (cl := callN GT (n + 3)) (F := fieldV m ts) (cs := cs) (near := near) (far := far) (x4 := none) (x5 := none) (x8 := none) (j := 3) (ap := far) (fun _ _ => rfl) (secs m ts) [] none none (by rw [List.length_nil]; omega)
  unfold mLc
  rw [clash_w n h, bind_ok, show wipeE (cE (fieldV m ts) cs near far none none none none none) [6, 7] = cE (fieldV m ts) cs near far none none none none none from rfl, t2]
  rw [List.nil_append]
  rfl
theorem clash_q1 (n : Nat) {m : Nat} {ts : List Tie} {cs : List Nat} {near far : Int} (h : FOk m ts) : sAsg (bindName 4) (mBin addA (mLc [6, 7] (wSeq (mUn (fldV "rows") (mVar 0))) (bindTup [bindName 6, bindName 7]) (mLit (.bl true)) (mTup (iCons (mVar 6) (iCons (mVar 7) (iCons (mVar 2) iNil))))) (mLc [6, 7] (wSeq (mCall 17 (aVal (mVar 0) aNil))) (bindTup [bindName 6, bindName 7]) (mLit (.bl true)) (mTup (iCons (mVar 6) (iCons (mVar 7) (iCons (mVar 3) iNil)))))) (callN GT (n + 3)) (cE (fieldV m ts) cs near far none none none none none)
    = .next (cE (fieldV m ts) cs near far (some (.lst ((allT m ts near far).map triV))) none none none none) := by
  have hs := secs_ok h
  have hl := h.len
  have pl : ((ts.map fun p => triV (p, near)) ++ (secs m ts).map fun p => triV (p, far)) = (allT m ts near far).map triV := by
    rw [List.map_append, List.map_map, List.map_map]; rfl
  rw [sAsg_ap, mBin_ap, clash_l1 n h, bind_ok, clash_l2 n h, bind_ok]
  rw [addA_lst (by rw [List.length_map, List.length_map]; omega), pl]
  rfl
theorem clash_q2 (n : Nat) {m : Nat} {ts : List Tie} {cs : List Nat} {near far : Int} (h : FOk m ts) (hc : cs.length = m) : sAsg (bindName 5) (mLc [6, 7, 8] (wSeq (mVar 4)) (bindTup [bindName 6, bindName 7, bindName 8]) (mBin ltV (mCallB (op1 absV) (iCons (mBin subV (mBin itemV (mVar 1) (mVar 6)) (mBin itemV (mVar 1) (mVar 7))) iNil)) (mVar 8)) (mTup (iCons (mVar 6) (iCons (mVar 7) iNil)))) (callN GT (n + 3)) (cE (fieldV m ts) cs near far (some (.lst ((allT m ts near far).map triV))) none none none none)
    = .next (cE (fieldV m ts) cs near far (some (.lst ((allT m ts near far).map triV))) (some (.lst ((clashL m ts cs near far).map tieV))) none none none) := by
  have hs := secs_ok h
  have hl := h.len
  obtain ⟨w6, w7, w8, t3⟩ := gap_run (cl := callN GT (n + 3)) (F := fieldV m ts) (cs := cs) (near := near) (far := far) (x4 := some (.lst ((allT m ts near far).map triV))) (x5 := none) (allT m ts near far) [] none none none (fun q hq => by
    rcases List.mem_append.mp hq with hq | hq
    · obtain ⟨p, hp, rfl⟩ := List.mem_map.mp hq
      have := h.ok p hp; simp only; omega
    · obtain ⟨p, hp, rfl⟩ := List.mem_map.mp hq
      have := hs.1 p hp; simp only; omega) (by rw [List.length_nil, List.length_append, List.length_map, List.length_map]; omega)
  rw [clash_pairs] at t3
  rw [sAsg_ap]
  unfold mLc
  rw [wSeq_ap, var_at (show (cE (fieldV m ts) cs near far (some (.lst ((allT m ts near far).map triV))) none none none none)[4]? = some (some (.lst ((allT m ts near far).map triV))) from rfl), bind_ok, show itemsOf (.lst ((allT m ts near far).map triV)) = some ((allT m ts near far).map triV) from rfl, ret_some, bind_ok]
  rw [show wipeE (cE (fieldV m ts) cs near far (some (.lst ((allT m ts near far).map triV))) none none none none) [6, 7, 8] = cE (fieldV m ts) cs near far (some (.lst ((allT m ts near far).map triV))) none none none none from rfl, t3]
  rw [List.nil_append]
  rfl
theorem clash_call (n : Nat) {m : Nat} {ts : List Tie} {cs : List Nat} {near far : Int} (h : FOk m ts) (hc : cs.length = m) : callN GT (n + 4) k_clash_of [fieldV m ts, chV cs, .int near, .int far] = .ok (minTie (clashL m ts cs near far)) [] := by
  rw [call_of (d := d_clash_of) rfl]
  obtain ⟨e3, q3⟩ : ∃ e3, d_clash_of.body (callN GT (n + 3)) (cE (fieldV m ts) cs near far none none none none none) = .ret (minTie (clashL m ts cs near far)) e3 := by
    rw [show d_clash_of.body = b_clash_of from rfl]
    unfold b_clash_of
    rw [seq_next (clash_q1 n h), seq_next (clash_q2 n h hc)]
    refine ⟨cE (fieldV m ts) cs near far (some (.lst ((allT m ts near far).map triV))) (some (.lst ((clashL m ts cs near far).map tieV))) none none none, ?_⟩
    have hne : neV (.lst ((clashL m ts cs near far).map tieV)) (.lst []) = some (.bl (decide (clashL m ts cs near far ≠ []))) := eqT.neL _ []
    cases hL : clashL m ts cs near far with
    | nil => rw [hL] at hne; simp at hne; simp [hne, minTie]
    | cons p l =>
      rw [hL] at hne
      have mt := min_tie p l
      simp at hne mt
      simp [hne, mt]
  exact run_ret rfl rfl q3 rfl
end CG
end
section
set_option Elab.async false
set_option linter.all false
set_option maxRecDepth 100000
set_option autoImplicit false
/-! M10: calls by their arguments; first_clash, l_odd_apart, l_wrong. -/
namespace CG
open PySem T0
section
variable {k : Fn} {cl : Cl} {e e1 : Env} {f : M Val} {as : M (List Arg)} {a v v' : Val} {vs : List Val}
theorem av_map : ∀ vs : List Val, argVals e (vs.map Arg.v) = some vs
  | [] => rfl
  | a :: vs => by rw [List.map_cons, argVals_v, av_map vs]; rfl
theorem lo_map : ∀ vs : List Val, lentOk e (vs.map Arg.v) v = true
  | [] => rfl
  | a :: vs => by rw [List.map_cons]; show lentOk e (vs.map Arg.v) v = true; exact lo_map vs
theorem is_map : ∀ vs : List Val, ioSet e (vs.map Arg.v) [] = some e
  | [] => rfl
  | a :: vs => by rw [List.map_cons]; show ioSet e (vs.map Arg.v) [] = some e; exact is_map vs
theorem ik_map : ∀ vs : List Val, ioKill e (vs.map Arg.v) = e
  | [] => rfl
  | a :: vs => by rw [List.map_cons]; show ioKill e (vs.map Arg.v) = e; exact ik_map vs
/-- the arguments are these values -/
def ArgsAre (as : M (List Arg)) (cl : Cl) (e : Env) (vs : List Val) : Prop := as cl e = .ok (vs.map Arg.v) e
theorem a_nil : ArgsAre aNil cl e [] := rfl
theorem a_cons (h : f cl e = .ok a e) (r : ArgsAre as cl e vs) : ArgsAre (aVal f as) cl e (a :: vs) := by
  unfold ArgsAre at r ⊢
  rw [aVal_ap, h, bind_ok, r, bind_ok]
  rfl
theorem call_v (h : ArgsAre as cl e vs) (c : cl k vs = .ok v []) : mCall k as cl e = .ok v e := by
  unfold ArgsAre at h
  rw [mCall_ap, h, bind_ok, av_map]
  simp only [c]
  rw [lo_map, is_map]
  rfl
theorem call_exc {x : Str} {fs : List (Str × Val)} (h : ArgsAre as cl e vs) (c : cl k vs = .exc x fs) : mCall k as cl e = .exc x fs e := by
  unfold ArgsAre at h
  rw [mCall_ap, h, bind_ok, av_map]
  simp only [c]
  rw [ik_map]
theorem io_call {i : Nat} {w : Val} (he : e[i]? = some (some v)) (hs : scalarV v = false) (h : ArgsAre as cl e vs) (c : cl k (v :: vs) = .ok w [v']) : mCall k (aIo i as) cl e = .ok w (e.set i (some v')) := by
  unfold ArgsAre at h
  rw [mCall_ap, aIo_ap, he]
  simp only [h, bind_ok, argVals_io, he, hs, Bool.false_eq_true, if_false, av_map, Option.map_some, c]
  rw [lentOk_io, lo_map, ioSet_io, is_map]
  rfl
theorem vat {i : Nat} (h : e[i]? = some (some v)) : mVar i cl e = .ok v e := var_at h
end
theorem first_clash_call (n : Nat) {m : Nat} {ts : List Tie} {cs : List Nat} {near far : Int} (h : FOk m ts) (hc : cs.length = m) (hp : ∀ c ∈ cs, c ≤ 99) (ha : apartOk (.int near) (.int far) = true) : callN GT (n + 5) k_first_clash [fieldV m ts, chV cs, .int near, .int far] = .ok (minTie (clashL m ts cs near far)) [] := by
  rw [call_of (d := d_first_clash) rfl]
  have hm := h.m1
  have hall : chOk m (chV cs) = true := by
    unfold chOk chV
    simp only [List.length_map, hc, decide_true, Bool.true_and, List.all_map, List.all_eq_true, Function.comp_apply]
    intro c hc'
    have := hp c hc'
    unfold isFrom
    simp; omega
  have c1 := check_channels_call (n + 1) (m := m) (ts := ts) (v := chV cs) rfl (by
    intro xs hx
    cases hx
    refine ⟨by rw [List.length_map]; omega, ?_⟩
    intro x hx
    obtain ⟨c, _, rfl⟩ := List.mem_map.mp hx
    rfl)
  rw [if_pos hall] at c1
  have c2 := check_apart_call (n + 2) (near := .int near) (far := .int far) rfl rfl
  rw [if_pos ha] at c2
  have c3 := clash_call n (near := near) (far := far) h hc
  let e : Env := [some (fieldV m ts), some (chV cs), some (.int near), some (.int far)]
  have q1 : mCall 30 (aVal (mVar 0) (aVal (mVar 1) aNil)) (callN GT (n + 4)) e = .ok .non e := call_v (a_cons (vat rfl) (a_cons (vat rfl) a_nil)) c1
  have q2 : mCall 28 (aVal (mVar 2) (aVal (mVar 3) aNil)) (callN GT (n + 4)) e = .ok .non e := call_v (a_cons (vat rfl) (a_cons (vat rfl) a_nil)) c2
  have q3 : mCall 31 (aVal (mVar 0) (aVal (mVar 1) (aVal (mVar 2) (aVal (mVar 3) aNil)))) (callN GT (n + 4)) e = .ok (minTie (clashL m ts cs near far)) e := call_v (a_cons (vat rfl) (a_cons (vat rfl) (a_cons (vat rfl) (a_cons (vat rfl) a_nil)))) c3
  have q4 : d_first_clash.body (callN GT (n + 4)) e = .ret (minTie (clashL m ts cs near far)) e := by
    rw [show d_first_clash.body = b_first_clash from rfl]
    unfold b_first_clash
    rw [seq_next (by rw [sExpr_ap, q1, toS_ok]), seq_next (by rw [sExpr_ap, q2, toS_ok]), sRet_ap, q3, toS_ok]
  exact run_ret rfl rfl q4 rfl
/-- bad channels -/
theorem first_clash_ch (n : Nat) {m : Nat} {ts : List Tie} {v a b : Val} (h1 : plainV v = true) (h2 : ∀ xs, v = .tup xs → xs.length ≤ 1000 ∧ ∀ x ∈ xs, plainV x = true) (ho : chOk m v = false) : callN GT (n + 5) k_first_clash [fieldV m ts, v, a, b] = .exc "BadChannels" [] := by
  rw [call_of (d := d_first_clash) rfl]
  have c1 := check_channels_call (n + 1) (m := m) (ts := ts) h1 h2
  rw [if_neg (by rw [ho]; exact Bool.false_ne_true)] at c1
  let e : Env := [some (fieldV m ts), some v, some a, some b]
  have q1 : mCall 30 (aVal (mVar 0) (aVal (mVar 1) aNil)) (callN GT (n + 4)) e = .exc "BadChannels" [] e := call_exc (a_cons (vat rfl) (a_cons (vat rfl) a_nil)) c1
  have q4 : d_first_clash.body (callN GT (n + 4)) e = .exc "BadChannels" [] e := by
    rw [show d_first_clash.body = b_first_clash from rfl]
    unfold b_first_clash
    rw [sSeq_ap, sExpr_ap, q1, toS_exc, then_exc]
  exact run_exc rfl rfl q4
theorem first_clash_ap (n : Nat) {m : Nat} {ts : List Tie} {v a b : Val} (h1 : plainV v = true) (h2 : ∀ xs, v = .tup xs → xs.length ≤ 1000 ∧ ∀ x ∈ xs, plainV x = true) (ho : chOk m v = true) (ha : plainV a = true) (hb : plainV b = true) (hx : apartOk a b = false) : callN GT (n + 5) k_first_clash [fieldV m ts, v, a, b] = .exc "BadApart" [] := by
  rw [call_of (d := d_first_clash) rfl]
  have c1 := check_channels_call (n + 1) (m := m) (ts := ts) h1 h2
  rw [if_pos ho] at c1
  have c2 := check_apart_call (n + 2) (near := a) (far := b) ha hb
  rw [if_neg (by rw [hx]; exact Bool.false_ne_true)] at c2
  let e : Env := [some (fieldV m ts), some v, some a, some b]
  have q1 : mCall 30 (aVal (mVar 0) (aVal (mVar 1) aNil)) (callN GT (n + 4)) e = .ok .non e := call_v (a_cons (vat rfl) (a_cons (vat rfl) a_nil)) c1
  have q2 : mCall 28 (aVal (mVar 2) (aVal (mVar 3) aNil)) (callN GT (n + 4)) e = .exc "BadApart" [] e := call_exc (a_cons (vat rfl) (a_cons (vat rfl) a_nil)) c2
  have q4 : d_first_clash.body (callN GT (n + 4)) e = .exc "BadApart" [] e := by
    rw [show d_first_clash.body = b_first_clash from rfl]
    unfold b_first_clash
    rw [seq_next (by rw [sExpr_ap, q1, toS_ok]), sSeq_ap, sExpr_ap, q2, toS_exc, then_exc]
  exact run_exc rfl rfl q4
theorem l_wrong_exc (n : Nat) {F v a b : Val} {c : Str} {w : String} (h : callN GT (n + 5) k_first_clash [F, v, a, b] = .exc c []) (hw : ∀ e : Env, 5 < e.length → pickC 4 [(catch_BadChannels, 5, (fun _ => some (Val.str "channels"))), (catch_BadApart, 5, (fun _ => some (Val.str "apart")))] c [] e = .next ((e.set 5 none).set 4 (some (.str w)))) : callN GT (n + 6) k_l_wrong [F, v, a, b] = .ok (.str w) [] := by
  rw [call_of (d := d_l_wrong) rfl]
  let e : Env := [some F, some v, some a, some b, some .non, none]
  have q1 : mCall 32 (aVal (mVar 0) (aVal (mVar 1) (aVal (mVar 2) (aVal (mVar 3) aNil)))) (callN GT (n + 5)) e = .exc c [] e := call_exc (a_cons (vat rfl) (a_cons (vat rfl) (a_cons (vat rfl) (a_cons (vat rfl) a_nil)))) h
  have q2 : sTry (sAsg (bindName 4) (mCall 32 (aVal (mVar 0) (aVal (mVar 1) (aVal (mVar 2) (aVal (mVar 3) aNil)))))) [(catch_BadChannels, 5, (fun _ => some (Val.str "channels"))), (catch_BadApart, 5, (fun _ => some (Val.str "apart")))] 4 (callN GT (n + 5)) e = .next [some F, some v, some a, some b, some (.str w), none] := by
    unfold sTry
    rw [sAsg_ap, q1, toS_exc]
    simp only
    rw [hw e (by show 5 < 6; omega)]
    rfl
  have q4 : d_l_wrong.body (callN GT (n + 5)) [some F, some v, some a, some b, none, none] = .ret (.str w) [some F, some v, some a, some b, some (.str w), none] := by
    rw [show d_l_wrong.body = b_l_wrong from rfl]
    unfold b_l_wrong
    rw [seq_next (e1 := e) rfl, seq_next q2, sRet_ap, vat (v := .str w) rfl, toS_ok]
  exact run_ret rfl rfl q4 rfl
theorem l_wrong_ch (n : Nat) {m : Nat} {ts : List Tie} {v a b : Val} (h1 : plainV v = true) (h2 : ∀ xs, v = .tup xs → xs.length ≤ 1000 ∧ ∀ x ∈ xs, plainV x = true) (ho : chOk m v = false) : callN GT (n + 6) k_l_wrong [fieldV m ts, v, a, b] = .ok (.str "channels") [] :=
  l_wrong_exc n (first_clash_ch n h1 h2 ho) (by
    intro e he
    have c : catch_BadChannels "BadChannels" = true := by decide
    have l4 : 4 < e.length ∧ 5 < e.length := ⟨by omega, he⟩
    simp only [pickC, c, if_true, l4, and_self])
theorem l_wrong_ap (n : Nat) {m : Nat} {ts : List Tie} {v a b : Val} (h1 : plainV v = true) (h2 : ∀ xs, v = .tup xs → xs.length ≤ 1000 ∧ ∀ x ∈ xs, plainV x = true) (ho : chOk m v = true) (ha : plainV a = true) (hb : plainV b = true) (hx : apartOk a b = false) : callN GT (n + 6) k_l_wrong [fieldV m ts, v, a, b] = .ok (.str "apart") [] :=
  l_wrong_exc n (first_clash_ap n h1 h2 ho ha hb hx) (by
    intro e he
    have c0 : catch_BadChannels "BadApart" = false := by decide
    have c : catch_BadApart "BadApart" = true := by decide
    have l4 : 4 < e.length ∧ 5 < e.length := ⟨by omega, he⟩
    simp only [pickC, c0, c, Bool.false_eq_true, if_false, if_true, l4, and_self])
/-- one of the pairs that no number apart can be -/
def oddAp : List Val := [.tup [.int 0, .int 0], .tup [.int 6, .int 1], .tup [.int 2, .int 3], .tup [.int 2, .int (-1)], .tup [.bl true, .int 0], .tup [.int 2, .bl true], .tup [.non, .int 1], .tup [.int 2, .non], .tup [.str "2", .int 1]]
theorem oddAp_ok : ∀ x ∈ oddAp, ∃ a b, x = .tup [a, b] ∧ plainV a = true ∧ plainV b = true ∧ apartOk a b = false := by
  intro x hx
  simp only [oddAp, List.mem_cons, List.not_mem_nil, or_false] at hx
  rcases hx with rfl | rfl | rfl | rfl | rfl | rfl | rfl | rfl | rfl <;> exact ⟨_, _, rfl, rfl, rfl, rfl⟩
theorem l_odd_apart_call (n : Nat) {v : Val} (hv : Dr v) : ∃ a b v', Dr v' ∧ plainV a = true ∧ plainV b = true ∧ apartOk a b = false ∧ callN GT (n + 2) k_l_odd_apart [v] = .ok (.tup [a, b]) [v'] := by
  rw [call_of (d := d_l_odd_apart) rfl]
  obtain ⟨r, v1, hr, hv1, e1⟩ := pick_call n hv (m := 9) (by omega) (by omega)
  have hlt : r < oddAp.length := by show r < 9; omega
  obtain ⟨a, b, hx, ha, hb, ho⟩ := oddAp_ok oddAp[r] (List.getElem_mem hlt)
  refine ⟨a, b, v1, hv1, ha, hb, ho, ?_⟩
  have hg : itemV (.lst oddAp) (.int r) = some (.tup [a, b]) := by
    rw [itemV_lst]; exact atI_nat (by rw [List.getElem?_eq_getElem hlt, hx])
  have q1 : mCall 8 (aIo 0 (aVal (mLit (.int 9)) aNil)) (callN GT (n + 1)) [some v] = .ok (.int r) [some v1] := io_call rfl hv.sc (a_cons rfl a_nil) e1
  have q3 : d_l_odd_apart.body (callN GT (n + 1)) [some v] = .ret (.tup [a, b]) [some v1] := by
    rw [show d_l_odd_apart.body = b_l_odd_apart from rfl]
    unfold b_l_odd_apart
    rw [sRet_ap, mBin_ap]
    generalize hL : mLst _ (callN GT (n + 1)) [some v] = L
    have : L = .ok (.lst oddAp) [some v] := by
      rw [← hL]
      simp [oddAp, negV]
    rw [this, bind_ok, q1, bind_ok, hg]
    rfl
  exact run_ret rfl rfl q3 (by simp [d_l_odd_apart, ioOut, hv1.sc])
end CG
end
section
set_option Elab.async false
set_option linter.all false
set_option maxRecDepth 100000
set_option autoImplicit false
/-! M11: a turn of law k03, up to what is due. -/
namespace CG
open PySem T0
abbrev kE (s D : Val) (x2 x3 x4 x5 x6 x7 x8 x9 x10 x11 x12 x13 x14 x15 x16 : Option Val) : Env := [some s, some D, x2, x3, x4, x5, x6, x7, x8, x9, x10, x11, x12, x13, x14, x15, x16]
def kT1 : S := sAsg (bindName 3) (mBin itemV (mLst (iCons (mCall 9 (aIo 1 (aVal (mLit (.int 8)) aNil))) (iCons (mCall 10 (aIo 1 (aVal (mLit (.int 30)) aNil))) iNil))) (mCall 8 (aIo 1 (aVal (mLit (.int 2)) aNil))))
def kT2 : S := sAsg (bindTup [(bindName 4), (bindName 5), (bindName 6)]) (mTup (iCons (mCall 23 (aVal (mVar 3) aNil)) (iCons (mBin addA (mLit (.int 1)) (mCall 8 (aIo 1 (aVal (mLit (.int 5)) aNil)))) (iCons (mBin itemV (mLst (iCons (mLit (.int 8)) (iCons (mLit (.int 100)) iNil))) (mCall 8 (aIo 1 (aVal (mLit (.int 2)) aNil)))) iNil))))
def kT3 : S := sAsg (bindTup [(bindName 7), (bindName 8)]) (mTup (iCons (mCall 8 (aIo 1 (aVal (mBin addA (mVar 5) (mLit (.int 1))) aNil))) (iCons (mCallB (op1 tupleV) (iCons (mLc [14] (wRng1 (mBin itemV (mVar 3) (mLit (.int 0)))) (bindName 14) (mLit (.bl true)) (mCall 8 (aIo 1 (aVal (mVar 6) aNil)))) iNil)) iNil)))
def kT4 : S := sAsg (bindName 9) (mLc [15, 16] (wSeq (mBin itemV (mVar 3) (mLit (.int 1)))) (bindTup [(bindName 15), (bindName 16)]) (mBin ltV (mCallB (op1 absV) (iCons (mBin subV (mBin itemV (mVar 8) (mVar 15)) (mBin itemV (mVar 8) (mVar 16))) iNil)) (mVar 5)) (mTup (iCons (mVar 15) (iCons (mVar 16) iNil))))
def kT5 : S := sAsg (bindName 9) (mBin addA (mVar 9) (mLc [15, 16] (wSeq (mCall 25 (aVal (mVar 3) aNil))) (bindTup [(bindName 15), (bindName 16)]) (mBin ltV (mCallB (op1 absV) (iCons (mBin subV (mBin itemV (mVar 8) (mVar 15)) (mBin itemV (mVar 8) (mVar 16))) iNil)) (mVar 7)) (mTup (iCons (mVar 15) (iCons (mVar 16) iNil)))))
section
variable {s D : Val} {x2 x3 x4 x5 x6 x7 x8 x9 x10 x11 x12 x13 x14 x15 x16 : Option Val}
theorem lst2 {cl : Cl} {e e1 e2 : Env} {f g : M Val} {a b : Val} (h1 : f cl e = .ok a e1) (h2 : g cl e1 = .ok b e2) : mLst (iCons f (iCons g iNil)) cl e = .ok (.lst [a, b]) e2 := by
  rw [mLst_ap, iCons_ap, h1, bind_ok, iCons_ap, h2, bind_ok, iNil_ap, bind_ok, bind_ok, bind_ok]
  rw [if_pos (by rw [line_val]; show (2 : Nat) ≤ 16777216; omega)]
theorem two_of {r : Nat} (h : (r : Int) < 2) : r = 0 ∨ r = 1 := by omega
theorem item2 {r : Nat} (h : (r : Int) < 2) (a b : Val) : itemV (.lst [a, b]) (.int r) = some (if r = 0 then a else b) := by
  rcases two_of h with rfl | rfl
  · rw [itemV_lst, if_pos rfl]; exact atI_0 a [b]
  · rw [itemV_lst, if_neg (by omega)]; exact atI_1 a b []
theorem kT1_run (n : Nat) (hv : Dr D) : ∃ m ts D', FOk m ts ∧ m ≤ 30 ∧ Dr D' ∧ kT1 (callN GT (n + 6)) (kE s D x2 x3 x4 x5 x6 x7 x8 x9 x10 x11 x12 x13 x14 x15 x16) = .next (kE s D' x2 (some (fV m ts)) x4 x5 x6 x7 x8 x9 x10 x11 x12 x13 x14 x15 x16) := by
  obtain ⟨m1, ts1, D1, f1, hm1, h1, c1⟩ := field_call (n + 4) hv (most := 8) (by omega) (by omega)
  obtain ⟨m2, ts2, D2, f2, hm2, h2, c2⟩ := tree_call (n + 4) h1 (most := 30) (by omega) (by omega)
  obtain ⟨r, D3, hr, h3, c3⟩ := pick_call (n + 5) h2 (m := 2) (by omega) (by omega)
  have q1 : mCall 9 (aIo 1 (aVal (mLit (.int 8)) aNil)) (callN GT (n + 6)) (kE s D x2 x3 x4 x5 x6 x7 x8 x9 x10 x11 x12 x13 x14 x15 x16) = .ok (fV m1 ts1) (kE s D1 x2 x3 x4 x5 x6 x7 x8 x9 x10 x11 x12 x13 x14 x15 x16) := io_call rfl hv.sc (a_cons rfl a_nil) c1
  have q2 : mCall 10 (aIo 1 (aVal (mLit (.int 30)) aNil)) (callN GT (n + 6)) (kE s D1 x2 x3 x4 x5 x6 x7 x8 x9 x10 x11 x12 x13 x14 x15 x16) = .ok (fV m2 ts2) (kE s D2 x2 x3 x4 x5 x6 x7 x8 x9 x10 x11 x12 x13 x14 x15 x16) := io_call rfl h1.sc (a_cons rfl a_nil) c2
  have q3 : mCall 8 (aIo 1 (aVal (mLit (.int 2)) aNil)) (callN GT (n + 6)) (kE s D2 x2 x3 x4 x5 x6 x7 x8 x9 x10 x11 x12 x13 x14 x15 x16) = .ok (.int r) (kE s D3 x2 x3 x4 x5 x6 x7 x8 x9 x10 x11 x12 x13 x14 x15 x16) := io_call rfl h2.sc (a_cons rfl a_nil) c3
  have q4 : kT1 (callN GT (n + 6)) (kE s D x2 x3 x4 x5 x6 x7 x8 x9 x10 x11 x12 x13 x14 x15 x16) = .next (kE s D3 x2 (some (if r = 0 then fV m1 ts1 else fV m2 ts2)) x4 x5 x6 x7 x8 x9 x10 x11 x12 x13 x14 x15 x16) := by
    unfold kT1
    rw [sAsg_ap, mBin_ap, lst2 q1 q2, bind_ok, q3, bind_ok, item2 hr, ret_some, toS_ok]
    rfl
  by_cases h0 : r = 0
  · rw [if_pos h0] at q4; exact ⟨m1, ts1, D3, f1, by omega, h3, q4⟩
  · rw [if_neg h0] at q4; exact ⟨m2, ts2, D3, f2.f, hm2, h3, q4⟩
theorem kT2_run (n : Nat) (hv : Dr D) {m : Nat} {ts : List Tie} (h : FOk m ts) : ∃ (near : Int) (w : Nat) (D' : Val), 1 ≤ near ∧ near ≤ 5 ∧ 0 < w ∧ w ≤ 100 ∧ Dr D' ∧ kT2 (callN GT (n + 6)) (kE s D x2 (some (fV m ts)) x4 x5 x6 x7 x8 x9 x10 x11 x12 x13 x14 x15 x16) = .next (kE s D' x2 (some (fV m ts)) (some (fieldV m ts)) (some (.int near)) (some (.int (w : Int))) x7 x8 x9 x10 x11 x12 x13 x14 x15 x16) := by
  have c0 := made_call (n + 2) h
  obtain ⟨r1, D1, hr1, h1, c1⟩ := pick_call (n + 5) hv (m := 5) (by omega) (by omega)
  obtain ⟨r2, D2, hr2, h2, c2⟩ := pick_call (n + 5) h1 (m := 2) (by omega) (by omega)
  have q0 : mCall 23 (aVal (mVar 3) aNil) (callN GT (n + 6)) (kE s D x2 (some (fV m ts)) x4 x5 x6 x7 x8 x9 x10 x11 x12 x13 x14 x15 x16) = .ok (fieldV m ts) (kE s D x2 (some (fV m ts)) x4 x5 x6 x7 x8 x9 x10 x11 x12 x13 x14 x15 x16) := call_v (a_cons (vat rfl) a_nil) c0
  have q1 : mCall 8 (aIo 1 (aVal (mLit (.int 5)) aNil)) (callN GT (n + 6)) (kE s D x2 (some (fV m ts)) x4 x5 x6 x7 x8 x9 x10 x11 x12 x13 x14 x15 x16) = .ok (.int r1) (kE s D1 x2 (some (fV m ts)) x4 x5 x6 x7 x8 x9 x10 x11 x12 x13 x14 x15 x16) := io_call rfl hv.sc (a_cons rfl a_nil) c1
  have q2 : mCall 8 (aIo 1 (aVal (mLit (.int 2)) aNil)) (callN GT (n + 6)) (kE s D1 x2 (some (fV m ts)) x4 x5 x6 x7 x8 x9 x10 x11 x12 x13 x14 x15 x16) = .ok (.int r2) (kE s D2 x2 (some (fV m ts)) x4 x5 x6 x7 x8 x9 x10 x11 x12 x13 x14 x15 x16) := io_call rfl h1.sc (a_cons rfl a_nil) c2
  refine ⟨1 + (r1 : Int), if r2 = 0 then 8 else 100, D2, by omega, by omega, by split <;> omega, by split <;> omega, h2, ?_⟩
  unfold kT2
  have q3 : mLst (iCons (mLit (.int 8)) (iCons (mLit (.int 100)) iNil)) (callN GT (n + 6)) (kE s D1 x2 (some (fV m ts)) x4 x5 x6 x7 x8 x9 x10 x11 x12 x13 x14 x15 x16) = .ok (.lst [.int 8, .int 100]) (kE s D1 x2 (some (fV m ts)) x4 x5 x6 x7 x8 x9 x10 x11 x12 x13 x14 x15 x16) := lst2 rfl rfl
  have ei : (if r2 = 0 then Val.int 8 else Val.int 100) = Val.int ((if r2 = 0 then 8 else 100 : Nat) : Int) := by split <;> rfl
  rw [sAsg_ap, mTup_ap, iCons_ap, q0, bind_ok, iCons_ap, mBin_ap, mLit_ap, bind_ok, q1, bind_ok, addA_int, ret_some, bind_ok, iCons_ap, mBin_ap, q3, bind_ok, q2, bind_ok, item2 hr2, ret_some, bind_ok, iNil_ap, bind_ok, bind_ok, bind_ok, bind_ok, if_pos (by rw [line_val]; show (3 : Nat) ≤ 16777216; omega), toS_ok, ei]
  rfl
theorem kdraws (n : Nat) {w : Nat} (hw : 0 < w) (hw2 : w ≤ 100) : ∀ (xs : List Val) (acc : List Nat) (D : Val) (x14 : Option Val), Dr D → acc.length + xs.length ≤ 1000 → (∀ c ∈ acc, c < w) → ∃ (cs : List Nat) (D' : Val) (y14 : Option Val), cs.length = acc.length + xs.length ∧ (∀ c ∈ cs, c < w) ∧ Dr D' ∧
    mLcGo [14] (bindName 14) (mLit (.bl true)) (mCall 8 (aIo 1 (aVal (mVar 6) aNil))) xs (nV acc) (callN GT (n + 6)) (kE s D x2 x3 x4 x5 (some (.int (w : Int))) x7 x8 x9 x10 x11 x12 x13 x14 x15 x16) = .ok (nV cs) (kE s D' x2 x3 x4 x5 (some (.int (w : Int))) x7 x8 x9 x10 x11 x12 x13 y14 x15 x16)
  | [], acc, D, x14, hv, hl, ha => ⟨acc, D, x14, by rw [List.length_nil, Nat.add_zero], ha, hv, rfl⟩
  | x :: xs, acc, D, x14, hv, hl, ha => by
    rw [List.length_cons] at hl
    obtain ⟨r, D1, hr, h1, c1⟩ := pick_call (n + 5) hv (m := (w : Int)) (by omega) (by omega)
    have q1 : mCall 8 (aIo 1 (aVal (mVar 6) aNil)) (callN GT (n + 6)) (kE s D x2 x3 x4 x5 (some (.int (w : Int))) x7 x8 x9 x10 x11 x12 x13 (some x) x15 x16) = .ok (.int r) (kE s D1 x2 x3 x4 x5 (some (.int (w : Int))) x7 x8 x9 x10 x11 x12 x13 (some x) x15 x16) := io_call rfl hv.sc (a_cons (vat rfl) a_nil) c1
    obtain ⟨cs, D', y14, k1, k2, k3, k4⟩ := kdraws n hw hw2 xs (acc ++ [r]) D1 (some x) h1 (by rw [List.length_append, List.length_singleton]; omega) (by
      intro c hc
      rcases List.mem_append.mp hc with hc | hc
      · exact ha c hc
      · rw [List.mem_singleton] at hc; omega)
    refine ⟨cs, D', y14, by rw [k1, List.length_append, List.length_singleton, List.length_cons]; omega, k2, k3, ?_⟩
    have hb : bindName 14 x (wipeE (kE s D x2 x3 x4 x5 (some (.int (w : Int))) x7 x8 x9 x10 x11 x12 x13 x14 x15 x16) [14]) = some (kE s D x2 x3 x4 x5 (some (.int (w : Int))) x7 x8 x9 x10 x11 x12 x13 (some x) x15 x16) := rfl
    have hlt : (nV acc).length < line := by unfold nV; rw [List.length_map, line_val]; omega
    have hn : nV acc ++ [Val.int (r : Int)] = nV (acc ++ [r]) := by unfold nV; rw [List.map_append]; rfl
    unfold mLcGo
    rw [hb]
    simp only [mLit_ap, asB_ok, if_true]
    rw [q1]
    simp only
    rw [if_pos hlt, hn, k4]
theorem kT3_run (n : Nat) (hv : Dr D) {m w : Nat} {ts : List Tie} (h : FOk m ts) {near : Int} (hn : 1 ≤ near) (hn2 : near ≤ 5) (hw : 0 < w) (hw2 : w ≤ 100) : ∃ (far : Int) (cs : List Nat) (D' : Val), 0 ≤ far ∧ far ≤ near ∧ cs.length = m ∧ (∀ c ∈ cs, c ≤ 99) ∧ Dr D' ∧
    kT3 (callN GT (n + 6)) (kE s D x2 (some (fV m ts)) x4 (some (.int near)) (some (.int (w : Int))) x7 x8 x9 x10 x11 x12 x13 none x15 x16) = .next (kE s D' x2 (some (fV m ts)) x4 (some (.int near)) (some (.int (w : Int))) (some (.int far)) (some (chV cs)) x9 x10 x11 x12 x13 none x15 x16) := by
  obtain ⟨r1, D1, hr1, h1, c1⟩ := pick_call (n + 5) hv (m := near + 1) (by omega) (by omega)
  have hm := h.m1
  have sm : small (m : Int) = true := small_nat (by omega)
  obtain ⟨cs, D2, y14, k1, k2, k3, k4⟩ := kdraws (s := s) (x2 := x2) (x3 := some (fV m ts)) (x4 := x4) (x5 := some (.int near)) (x7 := x7) (x8 := x8) (x9 := x9) (x10 := x10) (x11 := x11) (x12 := x12) (x13 := x13) (x15 := x15) (x16 := x16) n hw hw2 (rangeV 0 m) [] D1 none h1 (by rw [range_len, List.length_nil]; omega) (by intro c hc; cases hc)
  rw [range_len, List.length_nil, Nat.zero_add] at k1
  refine ⟨r1, cs, D2, by omega, by omega, k1, fun c hc => by have := k2 c hc; omega, k3, ?_⟩
  have q1 : mCall 8 (aIo 1 (aVal (mBin addA (mVar 5) (mLit (.int 1))) aNil)) (callN GT (n + 6)) (kE s D x2 (some (fV m ts)) x4 (some (.int near)) (some (.int (w : Int))) x7 x8 x9 x10 x11 x12 x13 none x15 x16) = .ok (.int r1) (kE s D1 x2 (some (fV m ts)) x4 (some (.int near)) (some (.int (w : Int))) x7 x8 x9 x10 x11 x12 x13 none x15 x16) := io_call rfl hv.sc (a_cons rfl a_nil) c1
  have q2 : wRng1 (mBin itemV (mVar 3) (mLit (.int 0))) (callN GT (n + 6)) (kE s D1 x2 (some (fV m ts)) x4 (some (.int near)) (some (.int (w : Int))) x7 x8 x9 x10 x11 x12 x13 none x15 x16) = .ok (rangeV 0 m) (kE s D1 x2 (some (fV m ts)) x4 (some (.int near)) (some (.int (w : Int))) x7 x8 x9 x10 x11 x12 x13 none x15 x16) :=
    wRng1_run (i := (m : Int)) (e1 := kE s D1 x2 (some (fV m ts)) x4 (some (.int near)) (some (.int (w : Int))) x7 x8 x9 x10 x11 x12 x13 none x15 x16) (by
      rw [mBin_ap, vat (v := fV m ts) rfl, bind_ok, mLit_ap, bind_ok]
      unfold fV
      rw [itemV_tup, atI_0]
      rfl) sm
  have q3 : mLc [14] (wRng1 (mBin itemV (mVar 3) (mLit (.int 0)))) (bindName 14) (mLit (.bl true)) (mCall 8 (aIo 1 (aVal (mVar 6) aNil))) (callN GT (n + 6)) (kE s D1 x2 (some (fV m ts)) x4 (some (.int near)) (some (.int (w : Int))) x7 x8 x9 x10 x11 x12 x13 none x15 x16) = .ok (.lst (nV cs)) (kE s D2 x2 (some (fV m ts)) x4 (some (.int near)) (some (.int (w : Int))) x7 x8 x9 x10 x11 x12 x13 none x15 x16) := by
    unfold mLc
    rw [q2, bind_ok, show wipeE (kE s D1 x2 (some (fV m ts)) x4 (some (.int near)) (some (.int (w : Int))) x7 x8 x9 x10 x11 x12 x13 none x15 x16) [14] = kE s D1 x2 (some (fV m ts)) x4 (some (.int near)) (some (.int (w : Int))) x7 x8 x9 x10 x11 x12 x13 none x15 x16 from rfl, show ([] : List Val) = nV [] from rfl, k4]
    rfl
  unfold kT3
  rw [sAsg_ap, mTup_ap, iCons_ap, q1, bind_ok, iCons_ap, mCallB_ap, iCons_ap, q3, bind_ok, iNil_ap, bind_ok, bind_ok, show op1 tupleV [.lst (nV cs)] = some (chV cs) from rfl, ret_some, bind_ok, iNil_ap, bind_ok, bind_ok, bind_ok, if_pos (by rw [line_val]; show (2 : Nat) ≤ 16777216; omega), toS_ok]
  rfl
end
end CG
end
section
set_option Elab.async false
set_option linter.all false
set_option maxRecDepth 100000
set_option autoImplicit false
/-! M12: a turn of law k03: what is due, and what is told. -/
namespace CG
open PySem T0
section
variable {cl : Cl} {e e1 e2 : Env} {f : M Val} {r : M (List Val)} {a : Val} {vs : List Val}
theorem i_cons (h : f cl e = .ok a e1) (h2 : r cl e1 = .ok vs e2) : iCons f r cl e = .ok (a :: vs) e2 := by
  rw [iCons_ap, h, bind_ok, h2, bind_ok]
theorem i_nil : iNil cl e = .ok [] e := rfl
theorem lst_of (h : r cl e = .ok vs e1) (l : vs.length ≤ 100000) : mLst r cl e = .ok (.lst vs) e1 := by
  rw [mLst_ap, h, bind_ok, if_pos (by rw [line_val]; omega)]
theorem tup_of (h : r cl e = .ok vs e1) (l : vs.length ≤ 100000) : mTup r cl e = .ok (.tup vs) e1 := by
  rw [mTup_ap, h, bind_ok, if_pos (by rw [line_val]; omega)]
theorem bin_of {op : Val → Val → Option Val} {g : M Val} {b c : Val} (h : f cl e = .ok a e1) (h2 : g cl e1 = .ok b e2) (o : op a b = some c) : mBin op f g cl e = .ok c e2 := by
  rw [mBin_ap, h, bind_ok, h2, bind_ok, o, ret_some]
theorem callB_of {op : List Val → Option Val} {c : Val} (h : r cl e = .ok vs e1) (o : op vs = some c) : mCallB op r cl e = .ok c e1 := by
  rw [mCallB_ap, h, bind_ok, o, ret_some]
theorem addA_tup {xs ys : List Val} (h : xs.length + ys.length ≤ 100000) : addA (.tup xs) (.tup ys) = some (.tup (xs ++ ys)) := by
  show (if xs.length + ys.length ≤ line then some (Val.tup (xs ++ ys)) else none) = _
  rw [if_pos (by rw [line_val]; omega)]
end
theorem EqK.ne1 {α : Type} [DecidableEq α] {f : α → Val} {g : α → PyData} (k : EqK f g) (a b : α) : neV (f a) (f b) = some (.bl (decide (a ≠ b))) := by
  unfold neV eqD
  simp only [k.d, k.one, Option.map_some, Bool.and_self, if_true, k.eq, decide_not]
theorem minTie_ne (L : List Tie) : neV (minTie L) (minTie L) = some (.bl false) := by
  cases L with
  | nil => simp [minTie, neV, eqD, toD, SeqAt.shaped, PyData.canLay0, PyData.depth, PyData.eqv]
  | cons p l =>
    unfold minTie
    rw [eqT.ne1]
    simp
section
variable {s D : Val} {x2 x3 x4 x5 x6 x7 x8 x9 x10 x11 x12 x13 x14 x15 x16 : Option Val}
theorem due_run {cl : Cl} {cs : List Nat} {j : Nat} {ap : Int} (hj : ∀ x15 x16 : Option Val, (kE s D x2 x3 x4 x5 x6 x7 (some (chV cs)) x9 x10 x11 x12 x13 x14 x15 x16)[j]? = some (some (.int ap))) : ∀ (l : List Tie) (acc : List Val) (x15 x16 : Option Val), (∀ p ∈ l, p.1 < cs.length ∧ p.2 < cs.length) → acc.length + l.length ≤ 100000 →
    ∃ y15 y16, mLcGo [15, 16] (bindTup [(bindName 15), (bindName 16)]) (mBin ltV (mCallB (op1 absV) (iCons (mBin subV (mBin itemV (mVar 8) (mVar 15)) (mBin itemV (mVar 8) (mVar 16))) iNil)) (mVar j)) (mTup (iCons (mVar 15) (iCons (mVar 16) iNil))) (l.map tieV) acc cl (kE s D x2 x3 x4 x5 x6 x7 (some (chV cs)) x9 x10 x11 x12 x13 x14 x15 x16) = .ok (acc ++ (l.filter fun p => decide (gapOf cs p < ap)).map tieV) (kE s D x2 x3 x4 x5 x6 x7 (some (chV cs)) x9 x10 x11 x12 x13 x14 y15 y16)
  | [], acc, x15, x16, _, _ => ⟨x15, x16, by rw [List.filter_nil, List.map_nil, List.append_nil]; rfl⟩
  | p :: l, acc, x15, x16, hb, hl => by
    rw [List.length_cons] at hl
    obtain ⟨b1, b2⟩ := hb p List.mem_cons_self
    let e1 : Env := kE s D x2 x3 x4 x5 x6 x7 (some (chV cs)) x9 x10 x11 x12 x13 x14 (some (.int (p.1 : Int))) (some (.int (p.2 : Int)))
    have hbn : bindTup [(bindName 15), (bindName 16)] (tieV p) (wipeE (kE s D x2 x3 x4 x5 x6 x7 (some (chV cs)) x9 x10 x11 x12 x13 x14 x15 x16) [15, 16]) = some e1 := rfl
    have a1 : mBin itemV (mVar 8) (mVar 15) cl e1 = .ok (.int (cs.getD p.1 0 : Nat)) e1 := bin_of (vat rfl) (vat rfl) (ch_at b1)
    have a2 : mBin itemV (mVar 8) (mVar 16) cl e1 = .ok (.int (cs.getD p.2 0 : Nat)) e1 := bin_of (vat rfl) (vat rfl) (ch_at b2)
    have a3 : mCallB (op1 absV) (iCons (mBin subV (mBin itemV (mVar 8) (mVar 15)) (mBin itemV (mVar 8) (mVar 16))) iNil) cl e1 = .ok (.int (gapOf cs p)) e1 := callB_of (i_cons (bin_of a1 a2 (subV_int _ _)) i_nil) rfl
    have a4 : mBin ltV (mCallB (op1 absV) (iCons (mBin subV (mBin itemV (mVar 8) (mVar 15)) (mBin itemV (mVar 8) (mVar 16))) iNil)) (mVar j) cl e1 = .ok (.bl (decide (gapOf cs p < ap))) e1 := bin_of a3 (vat (hj _ _)) (ltV_int _ _)
    have a5 : mTup (iCons (mVar 15) (iCons (mVar 16) iNil)) cl e1 = .ok (tieV p) e1 := tup_of (i_cons (vat rfl) (i_cons (vat rfl) i_nil)) (by show (2 : Nat) ≤ 100000; omega)
    have hlt : acc.length < line := by rw [line_val]; omega
    rw [List.map_cons]
    unfold mLcGo
    rw [hbn]
    simp only [a4, asB_ok]
    by_cases hg : gapOf cs p < ap
    · obtain ⟨y15, y16, h⟩ := due_run hj l (acc ++ [tieV p]) (some (.int (p.1 : Int))) (some (.int (p.2 : Int))) (fun r hr => hb r (List.mem_cons_of_mem _ hr)) (by rw [List.length_append, List.length_singleton]; omega)
      refine ⟨y15, y16, ?_⟩
      rw [if_pos (by simpa using hg), a5]
      simp only
      rw [if_pos hlt, h, List.filter_cons, if_pos (by simpa using hg), List.map_cons, List.append_assoc]
      rfl
    · obtain ⟨y15, y16, h⟩ := due_run hj l acc (some (.int (p.1 : Int))) (some (.int (p.2 : Int))) (fun r hr => hb r (List.mem_cons_of_mem _ hr)) (by omega)
      refine ⟨y15, y16, ?_⟩
      rw [if_neg (by simpa using hg), h, List.filter_cons, if_neg (by simpa using hg)]
theorem kT4_run {cl : Cl} {cs : List Nat} {m : Nat} {ts : List Tie} {near : Int} (h : FOk m ts) (hc : cs.length = m) : kT4 cl (kE s D x2 (some (fV m ts)) x4 (some (.int near)) x6 x7 (some (chV cs)) x9 x10 x11 x12 x13 x14 none none) = .next (kE s D x2 (some (fV m ts)) x4 (some (.int near)) x6 x7 (some (chV cs)) (some (.lst ((ts.filter fun p => decide (gapOf cs p < near)).map tieV))) x10 x11 x12 x13 x14 none none) := by
  have hl := h.len
  obtain ⟨y15, y16, q⟩ := due_run (s := s) (D := D) (x2 := x2) (x3 := some (fV m ts)) (x4 := x4) (x5 := some (.int near)) (x6 := x6) (x7 := x7) (x9 := x9) (x10 := x10) (x11 := x11) (x12 := x12) (x13 := x13) (x14 := x14) (cl := cl) (cs := cs) (j := 5) (ap := near) (fun _ _ => rfl) ts [] none none (fun p hp => by have := h.ok p hp; omega) (by rw [List.length_nil]; omega)
  unfold kT4
  rw [sAsg_ap]
  unfold mLc
  have w : wSeq (mBin itemV (mVar 3) (mLit (.int 1))) cl (kE s D x2 (some (fV m ts)) x4 (some (.int near)) x6 x7 (some (chV cs)) x9 x10 x11 x12 x13 x14 none none) = .ok (ts.map tieV) (kE s D x2 (some (fV m ts)) x4 (some (.int near)) x6 x7 (some (chV cs)) x9 x10 x11 x12 x13 x14 none none) := by
    rw [wSeq_ap, bin_of (c := tiesV ts) (vat (v := fV m ts) rfl) (mLit_ap) (by unfold fV; rw [itemV_tup, atI_1])]
    rfl
  rw [w, bind_ok, show wipeE (kE s D x2 (some (fV m ts)) x4 (some (.int near)) x6 x7 (some (chV cs)) x9 x10 x11 x12 x13 x14 none none) [15, 16] = kE s D x2 (some (fV m ts)) x4 (some (.int near)) x6 x7 (some (chV cs)) x9 x10 x11 x12 x13 x14 none none from rfl, q, List.nil_append]
  rfl
theorem kT5_run (n : Nat) {cs : List Nat} {m : Nat} {ts : List Tie} {near far : Int} (h : FOk m ts) (hc : cs.length = m) : kT5 (callN GT (n + 6)) (kE s D x2 (some (fV m ts)) x4 x5 x6 (some (.int far)) (some (chV cs)) (some (.lst ((ts.filter fun p => decide (gapOf cs p < near)).map tieV))) x10 x11 x12 x13 x14 none none) = .next (kE s D x2 (some (fV m ts)) x4 x5 x6 (some (.int far)) (some (chV cs)) (some (.lst ((clashL m ts cs near far).map tieV))) x10 x11 x12 x13 x14 none none) := by
  have hl := h.len
  have hs := secs_ok h
  obtain ⟨y15, y16, q⟩ := due_run (s := s) (D := D) (x2 := x2) (x3 := some (fV m ts)) (x4 := x4) (x5 := x5) (x6 := x6) (x7 := some (.int far)) (x9 := some (.lst ((ts.filter fun p => decide (gapOf cs p < near)).map tieV))) (x10 := x10) (x11 := x11) (x12 := x12) (x13 := x13) (x14 := x14) (cl := callN GT (n + 6)) (cs := cs) (j := 7) (ap := far) (fun _ _ => rfl) (secs m ts) [] none none (fun p hp => by have := hs.1 p hp; omega) (by rw [List.length_nil]; omega)
  have sc := l_seconds_call (n + 4) h
  have w : wSeq (mCall 25 (aVal (mVar 3) aNil)) (callN GT (n + 6)) (kE s D x2 (some (fV m ts)) x4 x5 x6 (some (.int far)) (some (chV cs)) (some (.lst ((ts.filter fun p => decide (gapOf cs p < near)).map tieV))) x10 x11 x12 x13 x14 none none) = .ok ((secs m ts).map tieV) (kE s D x2 (some (fV m ts)) x4 x5 x6 (some (.int far)) (some (chV cs)) (some (.lst ((ts.filter fun p => decide (gapOf cs p < near)).map tieV))) x10 x11 x12 x13 x14 none none) := by
    rw [wSeq_ap, call_v (a_cons (vat (v := fV m ts) rfl) a_nil) sc]
    rfl
  have l2 : mLc [15, 16] (wSeq (mCall 25 (aVal (mVar 3) aNil))) (bindTup [(bindName 15), (bindName 16)]) (mBin ltV (mCallB (op1 absV) (iCons (mBin subV (mBin itemV (mVar 8) (mVar 15)) (mBin itemV (mVar 8) (mVar 16))) iNil)) (mVar 7)) (mTup (iCons (mVar 15) (iCons (mVar 16) iNil))) (callN GT (n + 6)) (kE s D x2 (some (fV m ts)) x4 x5 x6 (some (.int far)) (some (chV cs)) (some (.lst ((ts.filter fun p => decide (gapOf cs p < near)).map tieV))) x10 x11 x12 x13 x14 none none) = .ok (.lst (((secs m ts).filter fun p => decide (gapOf cs p < far)).map tieV)) (kE s D x2 (some (fV m ts)) x4 x5 x6 (some (.int far)) (some (chV cs)) (some (.lst ((ts.filter fun p => decide (gapOf cs p < near)).map tieV))) x10 x11 x12 x13 x14 none none) := by
    unfold mLc
    rw [w, bind_ok, show wipeE (kE s D x2 (some (fV m ts)) x4 x5 x6 (some (.int far)) (some (chV cs)) (some (.lst ((ts.filter fun p => decide (gapOf cs p < near)).map tieV))) x10 x11 x12 x13 x14 none none) [15, 16] = kE s D x2 (some (fV m ts)) x4 x5 x6 (some (.int far)) (some (chV cs)) (some (.lst ((ts.filter fun p => decide (gapOf cs p < near)).map tieV))) x10 x11 x12 x13 x14 none none from rfl, q, List.nil_append]
    rfl
  unfold kT5
  have f1 := List.length_filter_le (fun p => decide (gapOf cs p < near)) ts
  have f2 := List.length_filter_le (fun p => decide (gapOf cs p < far)) (secs m ts)
  rw [sAsg_ap, bin_of (vat (v := .lst ((ts.filter fun p => decide (gapOf cs p < near)).map tieV)) rfl) l2 (addA_lst (by rw [List.length_map, List.length_map]; omega)), ← List.map_append]
  rfl
def kT6 : S := sIf (mBin neV (mCall 32 (aVal (mVar 4) (aVal (mVar 8) (aVal (mVar 5) (aVal (mVar 7) aNil))))) (mIf (mBin neV (mVar 9) (mLst iNil)) (mCallB (op1 minV) (iCons (mVar 9) iNil)) (mLit .non))) (sRet (mLit (.bl false))) sPass
theorem kT6_run (n : Nat) {cs : List Nat} {m : Nat} {ts : List Tie} {near far : Int} (h : FOk m ts) (hc : cs.length = m) (hp : ∀ c ∈ cs, c ≤ 99) (n1 : 1 ≤ near) (n2 : near ≤ 5) (f1 : 0 ≤ far) (f2 : far ≤ near) : kT6 (callN GT (n + 6)) (kE s D x2 x3 (some (fieldV m ts)) (some (.int near)) x6 (some (.int far)) (some (chV cs)) (some (.lst ((clashL m ts cs near far).map tieV))) x10 x11 x12 x13 x14 x15 x16) = .next (kE s D x2 x3 (some (fieldV m ts)) (some (.int near)) x6 (some (.int far)) (some (chV cs)) (some (.lst ((clashL m ts cs near far).map tieV))) x10 x11 x12 x13 x14 x15 x16) := by
  have ha : apartOk (.int near) (.int far) = true := by
    unfold apartOk isFrom
    simp; omega
  have c := first_clash_call (n + 1) h hc hp ha
  have q1 : mCall 32 (aVal (mVar 4) (aVal (mVar 8) (aVal (mVar 5) (aVal (mVar 7) aNil)))) (callN GT (n + 6)) (kE s D x2 x3 (some (fieldV m ts)) (some (.int near)) x6 (some (.int far)) (some (chV cs)) (some (.lst ((clashL m ts cs near far).map tieV))) x10 x11 x12 x13 x14 x15 x16) = .ok (minTie (clashL m ts cs near far)) (kE s D x2 x3 (some (fieldV m ts)) (some (.int near)) x6 (some (.int far)) (some (chV cs)) (some (.lst ((clashL m ts cs near far).map tieV))) x10 x11 x12 x13 x14 x15 x16) := call_v (a_cons (vat rfl) (a_cons (vat rfl) (a_cons (vat rfl) (a_cons (vat rfl) a_nil)))) c
  have q2 : mIf (mBin neV (mVar 9) (mLst iNil)) (mCallB (op1 minV) (iCons (mVar 9) iNil)) (mLit .non) (callN GT (n + 6)) (kE s D x2 x3 (some (fieldV m ts)) (some (.int near)) x6 (some (.int far)) (some (chV cs)) (some (.lst ((clashL m ts cs near far).map tieV))) x10 x11 x12 x13 x14 x15 x16) = .ok (minTie (clashL m ts cs near far)) (kE s D x2 x3 (some (fieldV m ts)) (some (.int near)) x6 (some (.int far)) (some (chV cs)) (some (.lst ((clashL m ts cs near far).map tieV))) x10 x11 x12 x13 x14 x15 x16) := by
    generalize clashL m ts cs near far = L
    rw [mIf_ap, bin_of (vat (v := .lst (L.map tieV)) rfl) (lst_of i_nil (by show (0 : Nat) ≤ 100000; omega)) (eqT.neL L []), asB_ok, bind_ok]
    cases L with
    | nil => rw [if_neg (by simp)]; rfl
    | cons p l =>
      rw [if_pos (by simp)]
      exact callB_of (i_cons (vat rfl) i_nil) (min_tie p l)
  unfold kT6
  rw [sIf_ap, bin_of q1 q2 (minTie_ne _), asB_ok, toS_ok, if_neg Bool.false_ne_true]
  rfl
end
end CG
end
section
set_option Elab.async false
set_option linter.all false
set_option maxRecDepth 100000
set_option autoImplicit false
/-! M13: a turn of law k03: what is odd, and the law. -/
namespace CG
open PySem T0
/-- no channels for m senders -/
structure Odd (m : Nat) (v : Val) : Prop where
  pl : plainV v = true
  el : ∀ xs, v = .tup xs → xs.length ≤ 1000 ∧ ∀ x ∈ xs, plainV x = true
  no : chOk m v = false
theorem odd_tup {m : Nat} {xs : List Val} (hl : xs.length ≤ 1000) (hp : ∀ x ∈ xs, plainV x = true) (hb : xs.length ≠ m ∨ ∃ x ∈ xs, isFrom x 0 99 = false) : Odd m (.tup xs) := by
  refine ⟨rfl, fun ys h => by cases h; exact ⟨hl, hp⟩, ?_⟩
  show (decide (xs.length = m) && xs.all fun x => isFrom x 0 99) = false
  rcases hb with h | ⟨x, hx, hf⟩
  · rw [decide_eq_false h, Bool.false_and]
  · have : (xs.all fun x => isFrom x 0 99) = false := by
      rw [List.all_eq_false]; exact ⟨x, hx, by rw [hf]; exact Bool.false_ne_true⟩
    rw [this, Bool.and_false]
theorem odd_of {m : Nat} {v : Val} (h1 : plainV v = true) (h2 : ∀ xs, v ≠ .tup xs) : Odd m v := by
  refine ⟨h1, fun ys h => absurd h (h2 ys), ?_⟩
  unfold chOk
  split
  · exact absurd rfl (h2 _)
  · rfl
theorem nV_plain (cs : List Nat) : ∀ x ∈ nV cs, plainV x = true := by
  intro x hx
  obtain ⟨c, _, rfl⟩ := List.mem_map.mp hx
  rfl
def bads : List Val := [.int 100, .int (-1), .bl true, .non, .str "1", .tup [.int 1]]
theorem bads_ok : ∀ x ∈ bads, plainV x = true ∧ isFrom x 0 99 = false := by
  intro x hx
  simp only [bads, List.mem_cons, List.not_mem_nil, or_false] at hx
  rcases hx with rfl | rfl | rfl | rfl | rfl | rfl <;> exact ⟨rfl, rfl⟩
def odd8 (cs : List Nat) : List Val := [.non, .lst (nV cs), .tup (nV cs ++ [.int 0]), .tup ((nV cs).drop 1), .tup (.int 100 :: (nV cs).drop 1), .tup (.int (-1) :: (nV cs).drop 1), .tup (.bl true :: (nV cs).drop 1), .str "0"]
theorem odd8_ok {m : Nat} {cs : List Nat} (hc : cs.length = m) (h1 : 1 ≤ m) (h2 : m ≤ 40) : ∀ x ∈ odd8 cs, Odd m x := by
  have hl : (nV cs).length = m := by rw [List.length_map, hc]
  have hd : ((nV cs).drop 1).length = m - 1 := by rw [List.length_drop, hl]
  have pd : ∀ x ∈ (nV cs).drop 1, plainV x = true := fun x hx => nV_plain cs x (List.mem_of_mem_drop hx)
  have hone : ∀ b : Val, plainV b = true → isFrom b 0 99 = false → Odd m (.tup (b :: (nV cs).drop 1)) := fun b hb hf => odd_tup (by rw [List.length_cons, hd]; omega) (by
    intro x hx
    rcases List.mem_cons.mp hx with rfl | hx
    · exact hb
    · exact pd x hx) (.inr ⟨b, List.mem_cons_self, hf⟩)
  intro x hx
  simp only [odd8, List.mem_cons, List.not_mem_nil, or_false] at hx
  rcases hx with rfl | rfl | rfl | rfl | rfl | rfl | rfl | rfl
  · exact odd_of rfl (fun xs h => by cases h)
  · exact odd_of rfl (fun xs h => by cases h)
  · exact odd_tup (by rw [List.length_append, hl, List.length_singleton]; omega) (by
      intro x hx
      rcases List.mem_append.mp hx with hx | hx
      · exact nV_plain cs x hx
      · rw [List.mem_singleton] at hx; subst hx; rfl) (.inl (by rw [List.length_append, hl, List.length_singleton]; omega))
  · exact odd_tup (by rw [hd]; omega) pd (.inl (by rw [hd]; omega))
  · exact hone _ rfl rfl
  · exact hone _ rfl rfl
  · exact hone _ rfl rfl
  · exact odd_of rfl (fun xs h => by cases h)
def kT7 : S := sAsg (bindName 10) (mLst (iCons (mLit .non) (iCons (mCallB (op1 listV) (iCons (mVar 8) iNil)) (iCons (mBin addA (mVar 8) (mTup (iCons (mLit (.int 0)) iNil))) (iCons (mSlice sliceV (mVar 8) (oSome (mLit (.int 1))) oNone) (iCons (mBin addA (mTup (iCons (mLit (.int 100)) iNil)) (mSlice sliceV (mVar 8) (oSome (mLit (.int 1))) oNone)) (iCons (mBin addA (mTup (iCons (mUn negV (mLit (.int 1))) iNil)) (mSlice sliceV (mVar 8) (oSome (mLit (.int 1))) oNone)) (iCons (mBin addA (mTup (iCons (mLit (.bl true)) iNil)) (mSlice sliceV (mVar 8) (oSome (mLit (.int 1))) oNone)) (iCons (mLit (.str "0")) iNil)))))))))
def kT8 : S := sPar2 11 12 (mCall 8 (aIo 1 (aVal (mBin itemV (mVar 3) (mLit (.int 0))) aNil))) (mBin itemV (mLst (iCons (mLit (.int 100)) (iCons (mUn negV (mLit (.int 1))) (iCons (mLit (.bl true)) (iCons (mLit .non) (iCons (mLit (.str "1")) (iCons (mTup (iCons (mLit (.int 1)) iNil)) iNil))))))) (mCall 8 (aIo 1 (aVal (mLit (.int 6)) aNil))))
def kT9 : S := sAsg (bindName 13) (mBin itemV (mBin addA (mVar 10) (mBin mulA (mLst (iCons (mBin addA (mBin addA (mSlice sliceV (mVar 8) oNone (oSome (mVar 11))) (mTup (iCons (mVar 12) iNil))) (mSlice sliceV (mVar 8) (oSome (mBin addA (mVar 11) (mLit (.int 1)))) oNone)) iNil)) (mLit (.int 5)))) (mCall 8 (aIo 1 (aVal (mLit (.int 13)) aNil))))
def kT10 : S := sIf (mBin neV (mCall 34 (aVal (mVar 4) (aVal (mVar 13) (aVal (mLit .non) (aVal (mLit .non) aNil))))) (mLit (.str "channels"))) (sRet (mLit (.bl false))) sPass
def kT11 : S := sAsg (bindName 13) (mCall 33 (aIo 1 aNil))
def kT12 : S := sIf (mBin neV (mCall 34 (aVal (mVar 4) (aVal (mVar 8) (aVal (mBin itemV (mVar 13) (mLit (.int 0))) (aVal (mBin itemV (mVar 13) (mLit (.int 1))) aNil))))) (mLit (.str "apart"))) (sRet (mLit (.bl false))) sPass
section
variable {s D : Val} {x2 x3 x4 x5 x6 x7 x8 x9 x10 x11 x12 x13 x14 x15 x16 : Option Val}
theorem sl_drop {cl : Cl} {e : Env} {f g : M Val} {xs : List Val} {k : Nat} (h : f cl e = .ok (.tup xs) e) (h2 : g cl e = .ok (.int (k : Int)) e) (hk : k ≤ xs.length) : mSlice sliceV f (oSome g) oNone cl e = .ok (.tup (xs.drop k)) e := by
  rw [mSlice_ap, h, bind_ok, oSome_ap, h2, bind_ok]
  show CG.ret (some (Val.tup (cutL xs (some (k : Int)) none))) e = _
  rw [cut_drop hk, ret_some]
theorem sl_take {cl : Cl} {e : Env} {f g : M Val} {xs : List Val} {k : Nat} (h : f cl e = .ok (.tup xs) e) (h2 : g cl e = .ok (.int (k : Int)) e) (hk : k ≤ xs.length) : mSlice sliceV f oNone (oSome g) cl e = .ok (.tup (xs.take k)) e := by
  rw [mSlice_ap, h, bind_ok, oNone_ap, bind_ok, oSome_ap, h2, bind_ok]
  show CG.ret (some (Val.tup (cutL xs none (some (k : Int))))) e = _
  rw [cut_take hk, ret_some]
theorem tup1 {cl : Cl} {e : Env} {f : M Val} {a : Val} (h : f cl e = .ok a e) : mTup (iCons f iNil) cl e = .ok (.tup [a]) e := tup_of (i_cons h i_nil) (by show (1 : Nat) ≤ 100000; omega)
theorem kT7_run {cl : Cl} {cs : List Nat} {m : Nat} (hc : cs.length = m) (h1 : 1 ≤ m) (h2 : m ≤ 40) : kT7 cl (kE s D x2 x3 x4 x5 x6 x7 (some (chV cs)) x9 x10 x11 x12 x13 x14 x15 x16) = .next (kE s D x2 x3 x4 x5 x6 x7 (some (chV cs)) x9 (some (.lst (odd8 cs))) x11 x12 x13 x14 x15 x16) := by
  have hl : (nV cs).length = m := by rw [List.length_map, hc]
  let e : Env := kE s D x2 x3 x4 x5 x6 x7 (some (chV cs)) x9 x10 x11 x12 x13 x14 x15 x16
  have v8 : mVar 8 cl e = .ok (.tup (nV cs)) e := vat rfl
  have hd : mSlice sliceV (mVar 8) (oSome (mLit (.int 1))) oNone cl e = .ok (.tup ((nV cs).drop 1)) e := sl_drop (k := 1) v8 rfl (by omega)
  have one : ∀ (f : M Val) (b : Val), f cl e = .ok b e → mBin addA (mTup (iCons f iNil)) (mSlice sliceV (mVar 8) (oSome (mLit (.int 1))) oNone) cl e = .ok (.tup (b :: (nV cs).drop 1)) e := fun f b hf => bin_of (tup1 hf) hd (addA_tup (xs := [b]) (by rw [List.length_singleton, List.length_drop]; omega))
  have q : mLst (iCons (mLit .non) (iCons (mCallB (op1 listV) (iCons (mVar 8) iNil)) (iCons (mBin addA (mVar 8) (mTup (iCons (mLit (.int 0)) iNil))) (iCons (mSlice sliceV (mVar 8) (oSome (mLit (.int 1))) oNone) (iCons (mBin addA (mTup (iCons (mLit (.int 100)) iNil)) (mSlice sliceV (mVar 8) (oSome (mLit (.int 1))) oNone)) (iCons (mBin addA (mTup (iCons (mUn negV (mLit (.int 1))) iNil)) (mSlice sliceV (mVar 8) (oSome (mLit (.int 1))) oNone)) (iCons (mBin addA (mTup (iCons (mLit (.bl true)) iNil)) (mSlice sliceV (mVar 8) (oSome (mLit (.int 1))) oNone)) (iCons (mLit (.str "0")) iNil)))))))) cl e = .ok (.lst (odd8 cs)) e :=
    lst_of (i_cons rfl (i_cons (callB_of (i_cons v8 i_nil) rfl) (i_cons (bin_of v8 (tup1 rfl) (addA_tup (by rw [List.length_singleton]; omega))) (i_cons hd (i_cons (one _ _ rfl) (i_cons (one _ _ rfl) (i_cons (one _ _ rfl) (i_cons rfl i_nil)))))))) (by show (8 : Nat) ≤ 100000; omega)
  unfold kT7
  rw [sAsg_ap, q]
  rfl
theorem item_mem {xs : List Val} {r : Nat} (h : r < xs.length) : ∃ x ∈ xs, itemV (.lst xs) (.int (r : Int)) = some x :=
  ⟨xs[r], List.getElem_mem h, by rw [itemV_lst]; exact atI_nat (List.getElem?_eq_getElem h)⟩
theorem kT8_run (n : Nat) (hv : Dr D) {m : Nat} {ts : List Tie} (h : FOk m ts) : ∃ (r : Nat) (b D' : Val), r < m ∧ plainV b = true ∧ isFrom b 0 99 = false ∧ Dr D' ∧ kT8 (callN GT (n + 6)) (kE s D x2 (some (fV m ts)) x4 x5 x6 x7 x8 x9 x10 x11 x12 x13 x14 x15 x16) = .next (kE s D' x2 (some (fV m ts)) x4 x5 x6 x7 x8 x9 x10 (some (.int (r : Int))) (some b) x13 x14 x15 x16) := by
  have hm := h.m1
  have hm0 := h.m0
  obtain ⟨r, D1, hr, h1, c1⟩ := pick_call (n + 5) hv (m := (m : Int)) (by omega) (by omega)
  obtain ⟨r2, D2, hr2, h2, c2⟩ := pick_call (n + 5) h1 (m := 6) (by omega) (by omega)
  obtain ⟨b, hb, ib⟩ := item_mem (xs := bads) (r := r2) (by show r2 < 6; omega)
  have ⟨p1, p2⟩ := bads_ok b hb
  refine ⟨r, b, D2, by omega, p1, p2, h2, ?_⟩
  have q1 : mCall 8 (aIo 1 (aVal (mBin itemV (mVar 3) (mLit (.int 0))) aNil)) (callN GT (n + 6)) (kE s D x2 (some (fV m ts)) x4 x5 x6 x7 x8 x9 x10 x11 x12 x13 x14 x15 x16) = .ok (.int r) (kE s D1 x2 (some (fV m ts)) x4 x5 x6 x7 x8 x9 x10 x11 x12 x13 x14 x15 x16) :=
    io_call rfl hv.sc (a_cons (bin_of (vat (v := fV m ts) rfl) mLit_ap (by unfold fV; rw [itemV_tup, atI_0])) a_nil) c1
  have q2 : mLst (iCons (mLit (.int 100)) (iCons (mUn negV (mLit (.int 1))) (iCons (mLit (.bl true)) (iCons (mLit .non) (iCons (mLit (.str "1")) (iCons (mTup (iCons (mLit (.int 1)) iNil)) iNil)))))) (callN GT (n + 6)) (kE s D1 x2 (some (fV m ts)) x4 x5 x6 x7 x8 x9 x10 x11 x12 x13 x14 x15 x16) = .ok (.lst bads) (kE s D1 x2 (some (fV m ts)) x4 x5 x6 x7 x8 x9 x10 x11 x12 x13 x14 x15 x16) :=
    lst_of (i_cons rfl (i_cons rfl (i_cons rfl (i_cons rfl (i_cons rfl (i_cons (tup1 rfl) i_nil)))))) (by show (6 : Nat) ≤ 100000; omega)
  have q3 : mCall 8 (aIo 1 (aVal (mLit (.int 6)) aNil)) (callN GT (n + 6)) (kE s D1 x2 (some (fV m ts)) x4 x5 x6 x7 x8 x9 x10 x11 x12 x13 x14 x15 x16) = .ok (.int r2) (kE s D2 x2 (some (fV m ts)) x4 x5 x6 x7 x8 x9 x10 x11 x12 x13 x14 x15 x16) := io_call rfl h1.sc (a_cons rfl a_nil) c2
  unfold kT8 sPar2
  rw [q1, toS_ok, bin_of q2 q3 ib, toS_ok]
  rfl
theorem kT9_run (n : Nat) (hv : Dr D) {cs : List Nat} {m r : Nat} {b : Val} (hc : cs.length = m) (h1 : 1 ≤ m) (h2 : m ≤ 40) (hr : r < m) (p1 : plainV b = true) (p2 : isFrom b 0 99 = false) : ∃ w D', Odd m w ∧ Dr D' ∧ kT9 (callN GT (n + 6)) (kE s D x2 x3 x4 x5 x6 x7 (some (chV cs)) x9 (some (.lst (odd8 cs))) (some (.int (r : Int))) (some b) x13 x14 x15 x16) = .next (kE s D' x2 x3 x4 x5 x6 x7 (some (chV cs)) x9 (some (.lst (odd8 cs))) (some (.int (r : Int))) (some b) (some w) x14 x15 x16) := by
  have hl : (nV cs).length = m := by rw [List.length_map, hc]
  obtain ⟨q, D1, hq, hD, c1⟩ := pick_call (n + 5) hv (m := 13) (by omega) (by omega)
  let e : Env := kE s D x2 x3 x4 x5 x6 x7 (some (chV cs)) x9 (some (.lst (odd8 cs))) (some (.int (r : Int))) (some b) x13 x14 x15 x16
  let W : Val := .tup (((nV cs).take r ++ [b]) ++ (nV cs).drop (r + 1))
  have hW : Odd m W := odd_tup (by rw [List.length_append, List.length_append, List.length_take, List.length_drop, List.length_singleton]; omega) (by
    intro x hx
    rcases List.mem_append.mp hx with hx | hx
    · rcases List.mem_append.mp hx with hx | hx
      · exact nV_plain cs x (List.mem_of_mem_take hx)
      · rw [List.mem_singleton] at hx; subst hx; exact p1
    · exact nV_plain cs x (List.mem_of_mem_drop hx)) (.inr ⟨b, List.mem_append_left _ (List.mem_append_right _ List.mem_cons_self), p2⟩)
  have v8 : mVar 8 (callN GT (n + 6)) e = .ok (.tup (nV cs)) e := vat rfl
  have w1 : mSlice sliceV (mVar 8) oNone (oSome (mVar 11)) (callN GT (n + 6)) e = .ok (.tup ((nV cs).take r)) e := sl_take v8 (vat rfl) (by omega)
  have w2 : mSlice sliceV (mVar 8) (oSome (mBin addA (mVar 11) (mLit (.int 1)))) oNone (callN GT (n + 6)) e = .ok (.tup ((nV cs).drop (r + 1))) e := sl_drop v8 (bin_of (vat (v := .int (r : Int)) rfl) mLit_ap (by rw [addA_int]; rfl)) (by omega)
  have w3 : mBin addA (mBin addA (mSlice sliceV (mVar 8) oNone (oSome (mVar 11))) (mTup (iCons (mVar 12) iNil))) (mSlice sliceV (mVar 8) (oSome (mBin addA (mVar 11) (mLit (.int 1)))) oNone) (callN GT (n + 6)) e = .ok W e :=
    bin_of (bin_of w1 (tup1 (vat (v := b) rfl)) (addA_tup (by rw [List.length_take, List.length_singleton]; omega))) w2 (addA_tup (by rw [List.length_append, List.length_take, List.length_drop, List.length_singleton]; omega))
  have m5 : mulA (.lst [W]) (.int 5) = some (.lst [W, W, W, W, W]) := by
    show (if small 5 && decide ([W].length * (5 : Int).toNat ≤ line) then some (Val.lst (repL [W] 5)) else none) = _
    rw [show small 5 = true from small_nat (i := 5) (by omega), line_val, decide_eq_true (by show 1 * 5 ≤ 16777216; omega)]
    rfl
  have w4 : mBin addA (mVar 10) (mBin mulA (mLst (iCons (mBin addA (mBin addA (mSlice sliceV (mVar 8) oNone (oSome (mVar 11))) (mTup (iCons (mVar 12) iNil))) (mSlice sliceV (mVar 8) (oSome (mBin addA (mVar 11) (mLit (.int 1)))) oNone)) iNil)) (mLit (.int 5))) (callN GT (n + 6)) e = .ok (.lst (odd8 cs ++ [W, W, W, W, W])) e :=
    bin_of (vat (v := .lst (odd8 cs)) rfl) (bin_of (lst_of (i_cons w3 i_nil) (by show (1 : Nat) ≤ 100000; omega)) mLit_ap m5) (addA_lst (by show 8 + 5 ≤ 100000; omega))
  obtain ⟨w, hw, iw⟩ := item_mem (xs := odd8 cs ++ [W, W, W, W, W]) (r := q) (by show q < 13; omega)
  refine ⟨w, D1, ?_, hD, ?_⟩
  · rcases List.mem_append.mp hw with hw | hw
    · exact odd8_ok hc h1 h2 w hw
    · simp only [List.mem_cons, List.not_mem_nil, or_false, or_self] at hw
      rw [hw]; exact hW
  · have q1 : mCall 8 (aIo 1 (aVal (mLit (.int 13)) aNil)) (callN GT (n + 6)) e = .ok (.int q) (kE s D1 x2 x3 x4 x5 x6 x7 (some (chV cs)) x9 (some (.lst (odd8 cs))) (some (.int (r : Int))) (some b) x13 x14 x15 x16) := io_call rfl hv.sc (a_cons rfl a_nil) c1
    unfold kT9
    rw [sAsg_ap, bin_of w4 q1 iw]
    rfl
theorem ne_str (t : Str) (h : PyData.strOk t = true) : neV (.str t) (.str t) = some (.bl false) := by
  simp [h, neV, eqD, toD, SeqAt.shaped, PyData.canLay0, PyData.depth, PyData.eqv]
theorem ne_str_self (t : String) (ht : neV (.str t) (.str t) = some (.bl false)) {cl : Cl} {e : Env} {f : M Val} (h : f cl e = .ok (.str t) e) : sIf (mBin neV f (mLit (.str t))) (sRet (mLit (.bl false))) sPass cl e = .next e := by
  rw [sIf_ap, bin_of h mLit_ap ht, asB_ok, toS_ok, if_neg Bool.false_ne_true]
  rfl
theorem kT10_run (n : Nat) {m : Nat} {ts : List Tie} {w : Val} (hw : Odd m w) : kT10 (callN GT (n + 6)) (kE s D x2 x3 (some (fieldV m ts)) x5 x6 x7 x8 x9 x10 x11 x12 (some w) x14 x15 x16) = .next (kE s D x2 x3 (some (fieldV m ts)) x5 x6 x7 x8 x9 x10 x11 x12 (some w) x14 x15 x16) :=
  ne_str_self "channels" (ne_str _ (by decide +kernel)) (call_v (a_cons (vat rfl) (a_cons (vat rfl) (a_cons rfl (a_cons rfl a_nil)))) (l_wrong_ch n hw.pl hw.el hw.no))
theorem kT11_run (n : Nat) (hv : Dr D) : ∃ a b D', plainV a = true ∧ plainV b = true ∧ apartOk a b = false ∧ Dr D' ∧ kT11 (callN GT (n + 6)) (kE s D x2 x3 x4 x5 x6 x7 x8 x9 x10 x11 x12 x13 x14 x15 x16) = .next (kE s D' x2 x3 x4 x5 x6 x7 x8 x9 x10 x11 x12 (some (.tup [a, b])) x14 x15 x16) := by
  obtain ⟨a, b, D', h1, ha, hb, ho, c⟩ := l_odd_apart_call (n + 4) hv
  refine ⟨a, b, D', ha, hb, ho, h1, ?_⟩
  have q : mCall 33 (aIo 1 aNil) (callN GT (n + 6)) (kE s D x2 x3 x4 x5 x6 x7 x8 x9 x10 x11 x12 x13 x14 x15 x16) = .ok (.tup [a, b]) (kE s D' x2 x3 x4 x5 x6 x7 x8 x9 x10 x11 x12 x13 x14 x15 x16) := io_call rfl hv.sc a_nil c
  unfold kT11
  rw [sAsg_ap, q]
  rfl
theorem chV_ok {m : Nat} {cs : List Nat} (hc : cs.length = m) (hp : ∀ c ∈ cs, c ≤ 99) : chOk m (chV cs) = true := by
  unfold chOk chV
  simp only [List.length_map, hc, decide_true, Bool.true_and, List.all_map, List.all_eq_true, Function.comp_apply]
  intro c hc'
  have := hp c hc'
  unfold isFrom
  simp; omega
theorem kT12_run (n : Nat) {m : Nat} {ts : List Tie} {cs : List Nat} {a b : Val} (hm : m ≤ 40) (hc : cs.length = m) (hp : ∀ c ∈ cs, c ≤ 99) (ha : plainV a = true) (hb : plainV b = true) (ho : apartOk a b = false) : kT12 (callN GT (n + 6)) (kE s D x2 x3 (some (fieldV m ts)) x5 x6 x7 (some (chV cs)) x9 x10 x11 x12 (some (.tup [a, b])) x14 x15 x16) = .next (kE s D x2 x3 (some (fieldV m ts)) x5 x6 x7 (some (chV cs)) x9 x10 x11 x12 (some (.tup [a, b])) x14 x15 x16) :=
  ne_str_self "apart" (ne_str _ (by decide +kernel)) (call_v (a_cons (vat rfl) (a_cons (vat rfl) (a_cons (bin_of (vat (v := .tup [a, b]) rfl) mLit_ap (by rw [itemV_tup, atI_0])) (a_cons (bin_of (vat (v := .tup [a, b]) rfl) mLit_ap (by rw [itemV_tup, atI_1])) a_nil)))) (l_wrong_ap n rfl (by
    intro xs hx
    cases hx
    exact ⟨by rw [List.length_map]; omega, nV_plain cs⟩) (chV_ok hc hp) ha hb ho))
end
def kTurn : S := sSeq kT1 (sSeq kT2 (sSeq kT3 (sSeq kT4 (sSeq kT5 (sSeq kT6 (sSeq kT7 (sSeq kT8 (sSeq kT9 (sSeq kT10 (sSeq kT11 kT12))))))))))
/-- between the turns -/
def KInv (s : Val) (e : Env) : Prop := ∃ (D : Val) (x2 x3 x4 x5 x6 x7 x8 x9 x10 x11 x12 x13 : Option Val), Dr D ∧ e = kE s D x2 x3 x4 x5 x6 x7 x8 x9 x10 x11 x12 x13 none none none
theorem kTurn_run (n : Nat) {s : Val} {e : Env} (h : KInv s e) : ∃ e', kTurn (callN GT (n + 6)) e = .next e' ∧ KInv s e' := by
  obtain ⟨D, x2, x3, x4, x5, x6, x7, x8, x9, x10, x11, x12, x13, hv, rfl⟩ := h
  obtain ⟨m, ts, D1, hf, hm, h1, r1⟩ := kT1_run (s := s) (x2 := x2) (x3 := x3) (x4 := x4) (x5 := x5) (x6 := x6) (x7 := x7) (x8 := x8) (x9 := x9) (x10 := x10) (x11 := x11) (x12 := x12) (x13 := x13) (x14 := none) (x15 := none) (x16 := none) n hv
  obtain ⟨near, w, D2, n1, n2, w1, w2, h2, r2⟩ := kT2_run (s := s) (x2 := x2) (x4 := x4) (x5 := x5) (x6 := x6) (x7 := x7) (x8 := x8) (x9 := x9) (x10 := x10) (x11 := x11) (x12 := x12) (x13 := x13) (x14 := none) (x15 := none) (x16 := none) n h1 hf
  obtain ⟨far, cs, D3, f1, f2, hc, hp, h3, r3⟩ := kT3_run (s := s) (x2 := x2) (x4 := some (fieldV m ts)) (x7 := x7) (x8 := x8) (x9 := x9) (x10 := x10) (x11 := x11) (x12 := x12) (x13 := x13) (x15 := none) (x16 := none) n h2 hf n1 n2 w1 w2
  obtain ⟨r, b, D4, hr, p1, p2, h4, r8⟩ := kT8_run (s := s) (x2 := x2) (x4 := some (fieldV m ts)) (x5 := some (.int near)) (x6 := some (.int (w : Int))) (x7 := some (.int far)) (x8 := some (chV cs)) (x9 := some (.lst ((clashL m ts cs near far).map tieV))) (x10 := some (.lst (odd8 cs))) (x11 := x11) (x12 := x12) (x13 := x13) (x14 := none) (x15 := none) (x16 := none) n h3 hf
  have hm0 := hf.m0
  obtain ⟨wr, D5, ho, h5, r9⟩ := kT9_run (s := s) (x2 := x2) (x3 := some (fV m ts)) (x4 := some (fieldV m ts)) (x5 := some (.int near)) (x6 := some (.int (w : Int))) (x7 := some (.int far)) (x9 := some (.lst ((clashL m ts cs near far).map tieV))) (x13 := x13) (x14 := none) (x15 := none) (x16 := none) n h4 hc hm0 (by omega) hr p1 p2
  obtain ⟨a, b', D6, ha, hb, hab, h6, r11⟩ := kT11_run (s := s) (x2 := x2) (x3 := some (fV m ts)) (x4 := some (fieldV m ts)) (x5 := some (.int near)) (x6 := some (.int (w : Int))) (x7 := some (.int far)) (x8 := some (chV cs)) (x9 := some (.lst ((clashL m ts cs near far).map tieV))) (x10 := some (.lst (odd8 cs))) (x11 := some (.int (r : Int))) (x12 := some b) (x13 := some wr) (x14 := none) (x15 := none) (x16 := none) n h5
  have r12 := kT12_run (s := s) (D := D6) (x2 := x2) (x3 := some (fV m ts)) (ts := ts) (x5 := some (.int near)) (x6 := some (.int (w : Int))) (x7 := some (.int far)) (x9 := some (.lst ((clashL m ts cs near far).map tieV))) (x10 := some (.lst (odd8 cs))) (x11 := some (.int (r : Int))) (x12 := some b) (x14 := none) (x15 := none) (x16 := none) n (by omega) hc hp ha hb hab
  refine ⟨kE s D6 x2 (some (fV m ts)) (some (fieldV m ts)) (some (.int near)) (some (.int (w : Int))) (some (.int far)) (some (chV cs)) (some (.lst ((clashL m ts cs near far).map tieV))) (some (.lst (odd8 cs))) (some (.int (r : Int))) (some b) (some (.tup [a, b'])) none none none, ?_, D6, _, _, _, _, _, _, _, _, _, _, _, _, h6, rfl⟩
  unfold kTurn
  rw [seq_next r1, seq_next r2, seq_next r3, seq_next (kT4_run hf hc), seq_next (kT5_run n hf hc), seq_next (kT6_run n hf hc hp n1 n2 f1 f2), seq_next (kT7_run hc hm0 (by omega)), seq_next r8, seq_next r9, seq_next (kT10_run n ho), seq_next r11, r12]
theorem law_k03_true (n : Nat) (ns : List Int) : callN GT (n + 7) 35 [.scr ns] = .ok (.bl true) [] := by
  rw [call_of (d := d_law_k03) rfl]
  obtain ⟨D, hD, c⟩ := draws_call (n + 5) ns
  have q1 : sAsg (bindName 1) (mCall 7 (aVal (mVar 0) aNil)) (callN GT (n + 6)) [some (.scr ns), none, none, none, none, none, none, none, none, none, none, none, none, none, none, none, none] = .next (kE (.scr ns) D none none none none none none none none none none none none none none none) := by
    rw [sAsg_ap, call_v (a_cons (vat (v := .scr ns) rfl) a_nil) c]
    rfl
  have hk : ∃ e', sFor (wRng1 (mLit (.int 4))) (bindName 2) kTurn (callN GT (n + 6)) (kE (.scr ns) D none none none none none none none none none none none none none none none) = .next e' ∧ KInv (.scr ns) e' := by
    rw [sFor_ok (xs := rangeV 0 (4 : Int).toNat) (e1 := kE (.scr ns) D none none none none none none none none none none none none none none none) (wRng1_run (i := 4) (e1 := kE (.scr ns) D none none none none none none none none none none none none none none none) mLit_ap (small_nat (i := 4) (by omega)))]
    exact for_inv (b := bindName 2) (body := kTurn) (cl := callN GT (n + 6)) (fun _ e => KInv (.scr ns) e) (rangeV 0 (4 : Int).toNat) 0 _ ⟨D, _, _, _, _, _, _, _, _, _, _, _, _, hD, rfl⟩ (by
      rintro i x e hx ⟨D, x2, x3, x4, x5, x6, x7, x8, x9, x10, x11, x12, x13, hv, rfl⟩
      obtain ⟨e2, k1, k2⟩ := kTurn_run n (s := .scr ns) (e := kE (.scr ns) D (some x) x3 x4 x5 x6 x7 x8 x9 x10 x11 x12 x13 none none none) ⟨D, _, _, _, _, _, _, _, _, _, _, _, _, hv, rfl⟩
      exact ⟨_, e2, rfl, k1, k2⟩)
  obtain ⟨e', k1, D', x2, x3, x4, x5, x6, x7, x8, x9, x10, x11, x12, x13, hv, rfl⟩ := hk
  have q3 : d_law_k03.body (callN GT (n + 6)) [some (.scr ns), none, none, none, none, none, none, none, none, none, none, none, none, none, none, none, none] = .ret (.bl true) (kE (.scr ns) D' x2 x3 x4 x5 x6 x7 x8 x9 x10 x11 x12 x13 none none none) := by
    have hb : d_law_k03.body = sSeq (sAsg (bindName 1) (mCall 7 (aVal (mVar 0) aNil))) (sSeq (sFor (wRng1 (mLit (.int 4))) (bindName 2) kTurn) (sRet (mLit (.bl true)))) := rfl
    rw [hb, seq_next q1, seq_next k1]
    rfl
  exact run_ret rfl rfl q3 rfl
end CG
end
section
set_option Elab.async false
set_option linter.all false
set_option maxRecDepth 100000
set_option autoImplicit false
/-! M14: degrees; the greatest of a list. -/
namespace CG
open PySem T0
theorem lc_mem {own : List Nat} {b : Bind} {f : M Val} {cl : Cl} (P : Env → Prop) (out : Val → Val) : ∀ (xs acc : List Val) (e : Env), P e → (∀ x ∈ xs, ∀ e, P e → ∃ e1 e2, b x (wipeE e own) = some e1 ∧ f cl e1 = .ok (out x) e2 ∧ P e2) → acc.length + xs.length ≤ 100000 →
    ∃ e', mLcGo own b (mLit (.bl true)) f xs acc cl e = .ok (acc ++ xs.map out) e' ∧ P e'
  | [], acc, e, h, _, _ => ⟨e, by rw [List.map_nil, List.append_nil]; rfl, h⟩
  | x :: xs, acc, e, h, hs, hl => by
    rw [List.length_cons] at hl
    obtain ⟨e1, e2, h1, h2, h3⟩ := hs x List.mem_cons_self e h
    obtain ⟨e', h4, h5⟩ := lc_mem P out xs (acc ++ [out x]) e2 h3 (fun y hy => hs y (List.mem_cons_of_mem _ hy)) (by rw [List.length_append, List.length_singleton]; omega)
    refine ⟨e', ?_, h5⟩
    have hlt : acc.length < line := by rw [line_val]; omega
    unfold mLcGo
    rw [h1]
    simp only [mLit_ap, asB_ok, if_true]
    rw [h2]
    simp only
    rw [if_pos hlt, h4, List.map_cons, List.append_assoc]
    rfl
theorem Kind.max {α : Type} {f : α → Val} {g : α → PyData} {lt : α → α → Bool} (k : Kind f g lt) (hn : ∀ a, g a ≠ .none) (a : α) (l : List α) : maxV (.lst (f a :: l.map f)) = some (f (l.foldl (fun a y => if lt a y then y else a) a)) := by
  unfold maxV bestV
  simp only [itemsOf]
  rw [show f a :: l.map f = (a :: l).map f from rfl, toDs_of k.d]
  simp only [List.map_cons]
  have hb := k.bestable hn (a :: l)
  rw [List.map_cons] at hb
  rw [hb, if_pos rfl]
  congr 1
  unfold bestOf
  have : ∀ (l : List α) (a : α), (l.map f).foldl (fun a y => if dlt a y = true then y else a) (f a) = f (l.foldl (fun a y => if lt a y then y else a) a) := by
    intro l
    induction l with
    | nil => intro a; rfl
    | cons y l ih =>
      intro a
      rw [List.map_cons, List.foldl_cons, List.foldl_cons, k.lt]
      by_cases h : lt a y = true
      · rw [if_pos h, if_pos h]; exact ih y
      · rw [if_neg h, if_neg h]; exact ih a
  exact this l a
def maxN : List Nat → Nat
  | [] => 0
  | a :: l => l.foldl (fun a y => if decide (a < y) then y else a) a
theorem maxV_n {l : List Nat} (h : l ≠ []) : maxV (.lst (nV l)) = some (.int (maxN l : Nat)) := by
  cases l with
  | nil => exact absurd rfl h
  | cons a l => exact kindN.max (fun a => by simp) a l
/-- the degrees -/
def degs (m : Nat) (ts : List Tie) : List Nat := (List.range m).map fun a => (nbs ts a).length
theorem degree_of_call (n : Nat) {m : Nat} {ts : List Tie} (h : FOk m ts) : callN GT (n + 1) k_degree_of [fieldV m ts] = .ok (.int (maxN (degs m ts) : Nat)) [] := by
  rw [call_of (d := d_degree_of) rfl]
  have hm0 := h.m0
  have hm1 := h.m1
  let F : Val := fieldV m ts
  let out : Val → Val := fun v => match v with | .lst l => .int (l.length : Nat) | _ => .non
  let xs : List Val := (rowsOf m ts).map fun r => .lst (r.map .int)
  have hmap : xs.map out = nV (degs m ts) := by
    show ((rowsOf m ts).map fun r => Val.lst (r.map .int)).map out = _
    unfold rowsOf degs nV
    rw [List.map_map, List.map_map, List.map_map]
    refine List.map_congr_left fun a _ => ?_
    show Val.int (((((nbl ts a).map fun (k : Nat) => (k : Int)).map Val.int).length : Nat) : Int) = Val.int (((nbs ts a).length : Nat) : Int)
    rw [List.length_map, List.length_map]
    unfold nbs
    rw [(asc_perm _).length_eq]
  obtain ⟨e', h1, x, rfl⟩ := lc_mem (own := [1]) (b := bindName 1) (f := mCallB (op1 lenV) (iCons (mVar 1) iNil)) (cl := callN GT n) (fun e => ∃ x, e = [some F, x]) out xs [] [some F, none] ⟨none, rfl⟩ (by
    rintro v hv e ⟨x, rfl⟩
    obtain ⟨r, _, rfl⟩ := List.mem_map.mp hv
    refine ⟨[some F, some (.lst (r.map .int))], [some F, some (.lst (r.map .int))], rfl, ?_, _, rfl⟩
    exact callB_of (i_cons (vat (v := .lst (r.map .int)) rfl) i_nil) rfl) (by
    show 0 + xs.length ≤ 100000
    rw [List.length_map]; unfold rowsOf; rw [List.length_map, List.length_range]; omega)
  rw [hmap, List.nil_append] at h1
  have w : wSeq (mUn (fldV "near") (mVar 0)) (callN GT n) [some F, none] = .ok xs [some F, none] := by
    rw [wSeq_ap, mUn_ap, vat (v := F) rfl, bind_ok, fld_near, ret_some, bind_ok]
    rfl
  have l1 : mLc [1] (wSeq (mUn (fldV "near") (mVar 0))) (bindName 1) (mLit (.bl true)) (mCallB (op1 lenV) (iCons (mVar 1) iNil)) (callN GT n) [some F, none] = .ok (.lst (nV (degs m ts))) [some F, none] := by
    unfold mLc
    rw [w, bind_ok, show wipeE [some F, none] [1] = [some F, none] from rfl, h1]
    rfl
  have hne : degs m ts ≠ [] := by
    intro e
    have : (degs m ts).length = 0 := by rw [e]; rfl
    unfold degs at this
    rw [List.length_map, List.length_range] at this
    omega
  have q3 : d_degree_of.body (callN GT n) [some F, none] = .ret (.int (maxN (degs m ts) : Nat)) [some F, none] := by
    rw [show d_degree_of.body = b_degree_of from rfl]
    unfold b_degree_of
    rw [sRet_ap, callB_of (c := .int (maxN (degs m ts) : Nat)) (i_cons l1 i_nil) (maxV_n hne), toS_ok]
  exact run_ret rfl rfl q3 rfl
theorem degree_call (n : Nat) {m : Nat} {ts : List Tie} (h : FOk m ts) : callN GT (n + 2) k_degree [fieldV m ts] = .ok (.int (maxN (degs m ts) : Nat)) [] := by
  rw [call_of (d := d_degree) rfl]
  have c := degree_of_call n h
  have q3 : d_degree.body (callN GT (n + 1)) [some (fieldV m ts)] = .ret (.int (maxN (degs m ts) : Nat)) [some (fieldV m ts)] := by
    rw [show d_degree.body = b_degree from rfl]
    unfold b_degree
    rw [sRet_ap, call_v (a_cons (vat (v := fieldV m ts) rfl) a_nil) c, toS_ok]
  exact run_ret rfl rfl q3 rfl
end CG
end
section
set_option Elab.async false
set_option linter.all false
set_option maxRecDepth 100000
set_option autoImplicit false
/-! M15: what is reached from sender 0. -/
namespace CG
open PySem T0
section
variable {cl : Cl} {e e1 : Env} {f : M Val} {a v c : Val} {i : Nat}
theorem binR_of {op : Val → Val → Option Val} (h : f cl e = .ok a e1) (hv : e1[i]? = some (some v)) (o : op a v = some c) : mBinR op f i cl e = .ok c e1 := by
  rw [mBinR_ap, h, bind_ok, hv]
  simp only [o, ret_some]
theorem binS_of {op : Val → Val → Option Val} (hv : e[i]? = some (some v)) (h : f cl e = .ok a e) (o : op v a = some c) : mBinS op i f cl e = .ok c e := by
  rw [mBinS_ap, hv]
  simp only [h, bind_ok, hv, o, ret_some]
theorem unS_of {op : Val → Option Val} (hv : e[i]? = some (some v)) (o : op v = some c) : mUnS op i cl e = .ok c e := by
  rw [mUnS_ap, hv]
  simp only [o, ret_some]
theorem app_of {xs : List Val} (hv : e[i]? = some (some (.lst xs))) (h : f cl e = .ok a e) (hl : xs.length ≤ 100000) : sApp i f cl e = .next (e.set i (some (.lst (xs ++ [a])))) := by
  rw [sApp_ap, hv]
  simp only [h, toS_ok, hv]
  rw [if_pos (by rw [line_val]; omega)]
end
/-- reached from 0, each once, and all of it -/
structure Rch (m : Nat) (ts : List Tie) (R : List Nat) : Prop where
  nd : R.Nodup
  zero : 0 ∈ R
  lt : ∀ x ∈ R, x < m
  mn : ∀ S : Nat → Prop, S 0 → (∀ a b, S a → b ∈ nbs ts a → S b) → ∀ x ∈ R, S x
def Closed (ts : List Tie) (R : List Nat) : Prop := ∀ a ∈ R, ∀ b ∈ nbs ts a, b ∈ R
theorem Rch.len {m : Nat} {ts : List Tie} {R R' : List Nat} (h : Rch m ts R) (k : Closed ts R) (h' : Rch m ts R') (k' : Closed ts R') : R.length = R'.length := by
  have : R.Perm R' := (List.perm_ext_iff_of_nodup h.nd h'.nd).mpr fun x => ⟨h.mn (· ∈ R') h'.zero (fun a b ha hb => k' a ha b hb) x, h'.mn (· ∈ R) h.zero (fun a b ha hb => k a ha b hb) x⟩
  exact this.length_eq
theorem Rch.start {m : Nat} {ts : List Tie} (h : 1 ≤ m) : Rch m ts [0] where
  nd := List.nodup_cons.mpr ⟨by simp, List.nodup_nil⟩
  zero := List.mem_cons_self
  lt := fun x hx => by rw [List.mem_singleton] at hx; omega
  mn := fun S h0 _ x hx => by rw [List.mem_singleton] at hx; rw [hx]; exact h0
theorem Rch.step {m : Nat} {ts : List Tie} {R : List Nat} (hf : FOk m ts) (h : Rch m ts R) {a : Nat} (ha : a ∈ R) (l : List Nat) (hl : ∀ b ∈ l, b ∈ nbs ts a) : Rch m ts (l.foldl addK R) where
  nd := (fold_addK l R).1 h.nd
  zero := ((fold_addK l R).2 0).mpr (.inl h.zero)
  lt := fun x hx => by
    rcases ((fold_addK l R).2 x).mp hx with hx | hx
    · exact h.lt x hx
    · exact (nbs_lt hf (hl x hx)).1
  mn := fun S h0 hs x hx => by
    rcases ((fold_addK l R).2 x).mp hx with hx | hx
    · exact h.mn S h0 hs x hx
    · exact hs a x (h.mn S h0 hs a ha) (hl x hx)
theorem fold_pre : ∀ (l R : List Nat), ∃ S, l.foldl addK R = R ++ S
  | [], R => ⟨[], (List.append_nil R).symm⟩
  | x :: l, R => by
    obtain ⟨S, h⟩ := fold_pre l (addK R x)
    rw [List.foldl_cons, h]
    unfold addK
    by_cases hx : x ∈ R
    · rw [if_pos hx]; exact ⟨S, rfl⟩
    · rw [if_neg hx]; exact ⟨[x] ++ S, by rw [List.append_assoc]⟩
theorem addK_len (R : List Nat) (x : Nat) : (addK R x).length ≤ R.length + 1 := by
  unfold addK
  by_cases h : x ∈ R
  · rw [if_pos h]; omega
  · rw [if_neg h, List.length_append, List.length_singleton]; omega
abbrev rE (F s : Val) (R : List Nat) (x3 x4 : Option Val) : Env := [some F, some s, some (.lst (nV R)), x3, x4]
theorem reach_in {cl : Cl} {F s : Val} {x3 : Option Val} : ∀ (l R : List Nat) (x4 : Option Val), R.length + l.length ≤ 100000 → ∃ y4, sForGo (bindName 4) (sIf (mBinR notinV (mVar 4) 2) (sApp 2 (mVar 4)) sPass) (nV l) cl (rE F s R x3 x4) = .next (rE F s (l.foldl addK R) x3 y4)
  | [], R, x4, _ => ⟨x4, rfl⟩
  | x :: l, R, x4, hl => by
    rw [List.length_cons] at hl
    have hk := addK_len R x
    obtain ⟨y4, h⟩ := reach_in (cl := cl) (F := F) (s := s) (x3 := x3) l (addK R x) (some (.int (x : Int))) (by omega)
    refine ⟨y4, ?_⟩
    have t : mBinR notinV (mVar 4) 2 cl (rE F s R x3 (some (.int (x : Int)))) = .ok (.bl (decide (x ∉ R))) (rE F s R x3 (some (.int (x : Int)))) := binR_of (vat rfl) rfl (eqN.notinL x R)
    have st : sIf (mBinR notinV (mVar 4) 2) (sApp 2 (mVar 4)) sPass cl (rE F s R x3 (some (.int (x : Int)))) = .next (rE F s (addK R x) x3 (some (.int (x : Int)))) := by
      rw [sIf_ap, t, asB_ok, toS_ok]
      unfold addK
      by_cases hx : x ∈ R
      · rw [if_neg (by simpa using hx), if_pos hx]; rfl
      · rw [if_pos (by simpa using hx), if_neg hx, app_of (xs := nV R) (a := .int (x : Int)) rfl (vat rfl) (by rw [List.length_map]; omega)]
        show RS.next (rE F s R x3 (some (.int (x : Int))) |>.set 2 (some (.lst (nV R ++ [.int (x : Int)])))) = _
        rw [show nV R ++ [Val.int (x : Int)] = nV (R ++ [x]) by unfold nV; rw [List.map_append]; rfl]
        rfl
    rw [List.foldl_cons, ← h]
    show sForGo (bindName 4) (sIf (mBinR notinV (mVar 4) 2) (sApp 2 (mVar 4)) sPass) (.int (x : Int) :: nV l) cl (rE F s R x3 x4) = _
    have hb : bindName 4 (.int (x : Int)) (rE F s R x3 x4) = some (rE F s R x3 (some (.int (x : Int)))) := rfl
    simp only [sForGo, hb, st, then_next]
/-- what a turn leaves -/
def Done (ts : List Tie) (R : List Nat) (k : Nat) : Prop := ∀ i, i < k → ∀ a, R[i]? = some a → ∀ b ∈ nbs ts a, b ∈ R
theorem Done.all {m : Nat} {ts : List Tie} {R : List Nat} (h : Rch m ts R) (d : Done ts R m) : Closed ts R := fun a ha b hb => by
  obtain ⟨i, hi, e⟩ := List.getElem_of_mem ha
  have := nodup_len m R h.nd h.lt
  exact d i (by omega) a (by rw [List.getElem?_eq_getElem hi, e]) b hb
def rBody : S := sFor (wSeq (mIf (mBin ltV (mVar 3) (mUnS lenV 2)) (mCall 15 (aVal (mVar 0) (aVal (mBinS itemV 2 (mVar 3)) aNil))) (mLst iNil))) (bindName 4) (sIf (mBinR notinV (mVar 4) 2) (sApp 2 (mVar 4)) sPass)
theorem reach_turn (n : Nat) {m : Nat} {ts : List Tie} (hf : FOk m ts) {s : Val} {R : List Nat} {k : Nat} {x4 : Option Val} (h : Rch m ts R) (d : Done ts R k) : ∃ R' y4, rBody (callN GT (n + 1)) (rE (fieldV m ts) s R (some (.int (k : Int))) x4) = .next (rE (fieldV m ts) s R' (some (.int (k : Int))) y4) ∧ Rch m ts R' ∧ Done ts R' (k + 1) := by
  have hm := hf.m1
  have hl := nodup_len m R h.nd h.lt
  let e : Env := rE (fieldV m ts) s R (some (.int (k : Int))) x4
  have t : mBin ltV (mVar 3) (mUnS lenV 2) (callN GT (n + 1)) e = .ok (.bl (decide ((k : Int) < ((nV R).length : Nat)))) e := bin_of (vat (v := .int (k : Int)) rfl) (unS_of (v := .lst (nV R)) rfl (lenV_lst _)) (ltV_int _ _)
  rw [List.length_map] at t
  by_cases hk : k < R.length
  · have ha : R[k] ∈ R := List.getElem_mem hk
    have c := neighbours_call n hf (h.lt _ ha)
    have gi : itemV (.lst (nV R)) (.int (k : Int)) = some (.int (R[k] : Nat)) := by
      rw [itemV_lst]
      exact atI_nat (by rw [List.getElem?_map, List.getElem?_eq_getElem hk]; rfl)
    have q1 : mCall 15 (aVal (mVar 0) (aVal (mBinS itemV 2 (mVar 3)) aNil)) (callN GT (n + 1)) e = .ok (intsV (nbs ts R[k])) e := call_v (a_cons (vat (v := fieldV m ts) rfl) (a_cons (binS_of (v := .lst (nV R)) rfl (vat (v := .int (k : Int)) rfl) gi) a_nil)) c
    have w : wSeq (mIf (mBin ltV (mVar 3) (mUnS lenV 2)) (mCall 15 (aVal (mVar 0) (aVal (mBinS itemV 2 (mVar 3)) aNil))) (mLst iNil)) (callN GT (n + 1)) e = .ok (nV (nbs ts R[k])) e := by
      rw [wSeq_ap, mIf_ap, t, asB_ok, bind_ok, if_pos (by rw [decide_eq_true_eq]; omega), q1, bind_ok]
      rfl
    have hb := nbs_len ts R[k]
    have hts := hf.len
    obtain ⟨y4, q2⟩ := reach_in (cl := callN GT (n + 1)) (F := fieldV m ts) (s := s) (x3 := some (.int (k : Int))) (nbs ts R[k]) R x4 (by omega)
    refine ⟨(nbs ts R[k]).foldl addK R, y4, ?_, h.step hf ha _ (fun b hb => hb), ?_⟩
    · unfold rBody
      rw [sFor_ok w, q2]
    · intro i hi a hia b hbn
      obtain ⟨S, hS⟩ := fold_pre (nbs ts R[k]) R
      have hlt : i < R.length := by omega
      rw [hS, List.getElem?_append_left hlt] at hia
      refine ((fold_addK _ R).2 b).mpr ?_
      by_cases hik : i = k
      · subst hik
        rw [List.getElem?_eq_getElem hlt, Option.some.injEq] at hia
        subst hia
        exact .inr hbn
      · exact .inl (d i (by omega) a hia b hbn)
  · have w : wSeq (mIf (mBin ltV (mVar 3) (mUnS lenV 2)) (mCall 15 (aVal (mVar 0) (aVal (mBinS itemV 2 (mVar 3)) aNil))) (mLst iNil)) (callN GT (n + 1)) e = .ok [] e := by
      rw [wSeq_ap, mIf_ap, t, asB_ok, bind_ok, if_neg (by rw [decide_eq_true_eq]; omega), lst_of i_nil (by show (0 : Nat) ≤ 100000; omega), bind_ok]
      rfl
    refine ⟨R, x4, ?_, h, ?_⟩
    · unfold rBody
      rw [sFor_ok w]
      rfl
    · intro i hi a hia b hbn
      by_cases hik : i = k
      · subst hik
        rw [List.getElem?_eq_none (by omega)] at hia
        cases hia
      · exact d i (by omega) a hia b hbn
theorem reached_call (n : Nat) {m : Nat} {ts : List Tie} (hf : FOk m ts) : ∃ R, Rch m ts R ∧ Closed ts R ∧ callN GT (n + 2) k_reached_from [fieldV m ts, .int 0] = .ok (.lst (nV R)) [] := by
  rw [call_of (d := d_reached_from) rfl]
  have hm := hf.m1
  have sm : small (m : Int) = true := small_nat (by omega)
  let e0 : Env := rE (fieldV m ts) (.int 0) [0] none none
  have w : wRng1 (mUn (fldV "many") (mVar 0)) (callN GT (n + 1)) e0 = .ok (rangeV 0 m) e0 := wRng1_run (i := (m : Int)) (e1 := e0) (by rw [mUn_ap, vat (v := fieldV m ts) rfl, bind_ok, fld_many, ret_some]) sm
  obtain ⟨e', q2, R, x3, x4, rfl, hR, hd⟩ := for_inv (b := bindName 3) (body := rBody) (cl := callN GT (n + 1)) (fun k e => ∃ R x3 x4, e = rE (fieldV m ts) (.int 0) R x3 x4 ∧ Rch m ts R ∧ Done ts R k) (rangeV 0 m) 0 e0 ⟨[0], none, none, rfl, Rch.start hf.m0, fun i hi => by omega⟩ (by
    rintro k x e hx ⟨R, x3, x4, rfl, hR, hd⟩
    obtain ⟨hk, rfl⟩ := range_get hx
    rw [Nat.zero_add] at hd ⊢
    obtain ⟨R', y4, q, h1, h2⟩ := reach_turn n hf (s := .int 0) (x4 := x4) hR hd
    refine ⟨rE (fieldV m ts) (.int 0) R (some (.int (k : Int))) x4, _, ?_, q, R', _, _, rfl, h1, h2⟩
    rw [show (0 : Int) + (k : Int) = (k : Int) by omega]
    rfl)
  rw [range_len, Nat.zero_add] at hd
  refine ⟨R, hR, Done.all hR hd, ?_⟩
  have q1 : sAsg (bindName 2) (mLst (iCons (mVar 1) iNil)) (callN GT (n + 1)) [some (fieldV m ts), some (.int 0), none, none, none] = .next e0 := by
    rw [sAsg_ap, lst_of (i_cons (vat (v := .int 0) rfl) i_nil) (by show (1 : Nat) ≤ 100000; omega)]
    rfl
  have q3 : d_reached_from.body (callN GT (n + 1)) [some (fieldV m ts), some (.int 0), none, none, none] = .ret (.lst (nV R)) [some (fieldV m ts), some (.int 0), none, x3, x4] := by
    have hb : d_reached_from.body = sSeq (sAsg (bindName 2) (mLst (iCons (mVar 1) iNil))) (sSeq (sFor (wRng1 (mUn (fldV "many") (mVar 0))) (bindName 3) rBody) (sRet (mMv 2))) := rfl
    rw [hb, seq_next q1, seq_next (by rw [sFor_ok w]; exact q2)]
    rfl
  exact run_ret rfl rfl q3 rfl
/-- a tree: so many ties, and all reached -/
theorem is_a_tree_call (n : Nat) {m : Nat} {ts : List Tie} (hf : FOk m ts) : ∃ R, Rch m ts R ∧ Closed ts R ∧ callN GT (n + 3) k_is_a_tree [fieldV m ts] = .ok (.bl (decide (ts.length + 1 = m) && decide (R.length = m))) [] := by
  rw [call_of (d := d_is_a_tree) rfl]
  obtain ⟨R, h1, h2, c⟩ := reached_call n hf
  refine ⟨R, h1, h2, ?_⟩
  let e : Env := [some (fieldV m ts)]
  have t1 : mBin eqV (mCallB (op1 lenV) (iCons (mUn (fldV "rows") (mVar 0)) iNil)) (mBin subV (mUn (fldV "many") (mVar 0)) (mLit (.int 1))) (callN GT (n + 2)) e = .ok (.bl (decide (ts.length + 1 = m))) e := by
    rw [bin_of (a := .int ((ts.length : Nat) : Int)) (b := .int ((m : Int) - 1)) (e1 := e) (callB_of (i_cons (a := tiesV ts) (e1 := e) (by rw [mUn_ap, vat (v := fieldV m ts) rfl, bind_ok, fld_rows, ret_some]) i_nil) (by unfold tiesV; rw [op1_ap, lenV_tup, List.length_map])) (bin_of (a := .int (m : Int)) (e1 := e) (by rw [mUn_ap, vat (v := fieldV m ts) rfl, bind_ok, fld_many, ret_some]) mLit_ap (subV_int _ _)) (eqV_int _ _)]
    rw [show decide (((ts.length : Nat) : Int) = (m : Int) - 1) = decide (ts.length + 1 = m) from decide_eq_decide.mpr (by omega)]
  have t2 : mBin eqV (mCallB (op1 lenV) (iCons (mCall 20 (aVal (mVar 0) (aVal (mLit (.int 0)) aNil))) iNil)) (mUn (fldV "many") (mVar 0)) (callN GT (n + 2)) e = .ok (.bl (decide (R.length = m))) e := by
    rw [bin_of (a := .int ((R.length : Nat) : Int)) (b := .int (m : Int)) (e1 := e) (callB_of (i_cons (call_v (a_cons (vat (v := fieldV m ts) rfl) (a_cons mLit_ap a_nil)) c) i_nil) (by rw [op1_ap, lenV_lst, List.length_map])) (by rw [mUn_ap, vat (v := fieldV m ts) rfl, bind_ok, fld_many, ret_some]) (eqV_int _ _)]
    rw [show decide (((R.length : Nat) : Int) = (m : Int)) = decide (R.length = m) from decide_eq_decide.mpr (by omega)]
  have q3 : d_is_a_tree.body (callN GT (n + 2)) e = .ret (.bl (decide (ts.length + 1 = m) && decide (R.length = m))) e := by
    rw [show d_is_a_tree.body = b_is_a_tree from rfl]
    unfold b_is_a_tree
    rw [sRet_ap, mAnd_ap, t1, asB_ok, bind_ok]
    by_cases h : ts.length + 1 = m
    · rw [if_pos (by simpa using h), t2, toS_ok, decide_eq_true h, Bool.true_and]
    · rw [if_neg (by simpa using h), toS_ok, decide_eq_false h, Bool.false_and]
  exact run_ret rfl rfl q3 rfl
theorem is_tree_call (n : Nat) {m : Nat} {ts : List Tie} (hf : FOk m ts) : ∃ R, Rch m ts R ∧ Closed ts R ∧ callN GT (n + 4) k_is_tree [fieldV m ts] = .ok (.bl (decide (ts.length + 1 = m) && decide (R.length = m))) [] := by
  rw [call_of (d := d_is_tree) rfl]
  obtain ⟨R, h1, h2, c⟩ := is_a_tree_call n hf
  refine ⟨R, h1, h2, ?_⟩
  have q3 : d_is_tree.body (callN GT (n + 3)) [some (fieldV m ts)] = .ret (.bl (decide (ts.length + 1 = m) && decide (R.length = m))) [some (fieldV m ts)] := by
    rw [show d_is_tree.body = b_is_tree from rfl]
    unfold b_is_tree
    rw [sRet_ap, call_v (a_cons (vat (v := fieldV m ts) rfl) a_nil) c, toS_ok]
  exact run_ret rfl rfl q3 rfl
end CG
end
section
set_option Elab.async false
set_option linter.all false
set_option maxRecDepth 100000
set_option autoImplicit false
/-! M16: the law's parents, by layers. -/
namespace CG
open PySem T0
def dctV (D : List (Nat × Val)) : Val := .dct (D.map fun p => (Sum.inl (p.1 : Int), p.2))
abbrev keysN (D : List (Nat × Val)) : List Nat := D.map (·.1)
theorem any_key (D : List (Nat × Val)) (b : Nat) : ((D.map fun p => ((Sum.inl (p.1 : Int) : Key), p.2)).any fun kv => decide (kv.1 = Sum.inl (b : Int))) = decide (b ∈ keysN D) := by
  rw [Bool.eq_iff_iff, List.any_eq_true, decide_eq_true_eq]
  constructor
  · rintro ⟨kv, h, e⟩
    obtain ⟨p, hp, rfl⟩ := List.mem_map.mp h
    rw [decide_eq_true_eq] at e
    have : (p.1 : Int) = (b : Int) := Sum.inl.inj e
    have : p.1 = b := by omega
    exact this ▸ List.mem_map_of_mem hp
  · intro h
    obtain ⟨p, hp, rfl⟩ := List.mem_map.mp h
    exact ⟨_, List.mem_map_of_mem hp, by simp⟩
theorem getK_some (D : List (Nat × Val)) (b : Nat) : (getK (D.map fun p => ((Sum.inl (p.1 : Int) : Key), p.2)) (.inl (b : Int))).isSome = decide (b ∈ keysN D) := by
  unfold getK
  rw [Option.isSome_map, ← any_key, Bool.eq_iff_iff, List.find?_isSome, List.any_eq_true]
theorem notin_dct (D : List (Nat × Val)) (b : Nat) : notinV (.int (b : Int)) (dctV D) = some (.bl (decide (b ∉ keysN D))) := by
  show (some (Val.bl (!(getK (D.map fun p => ((Sum.inl (p.1 : Int) : Key), p.2)) (.inl (b : Int))).isSome))) = _
  rw [getK_some, decide_not]
theorem set_dct {D : List (Nat × Val)} {b : Nat} {v : Val} (h : b ∉ keysN D) (hl : D.length ≤ 100000) : setItem (dctV D) (.int (b : Int)) v = some (dctV (D ++ [(b, v)])) := by
  show (if (D.map fun p => ((Sum.inl (p.1 : Int) : Key), p.2)).length < line then some (Val.dct (putK _ (Sum.inl (b : Int)) v)) else none) = _
  rw [if_pos (by rw [List.length_map, line_val]; omega)]
  unfold putK
  rw [any_key, if_neg (by simpa using h)]
  unfold dctV
  rw [List.map_append]
  rfl
theorem set_of {cl : Cl} {e : Env} {i : Nat} {k f : M Val} {x x' v q : Val} (he : e[i]? = some (some x)) (hf : f cl e = .ok v e) (hk : k cl e = .ok q e) (hs : setItem x q v = some x') : sSet i k f cl e = .next (e.set i (some x')) := by
  rw [sSet_ap, hf, toS_ok, he]
  simp only [hk, toS_ok, he, hs]
abbrev pE (F : Val) (D : List (Nat × Val)) (A : Val) (L : List Nat) (x4 x5 : Option Val) : Env := [some F, some (dctV D), some A, some (.lst (nV L)), x4, x5]
def pIn : S := sIf (mBinR notinV (mVar 5) 1) (sSeq (sSet 1 (mVar 5) (mVar 4)) (sApp 3 (mVar 5))) sPass
theorem par_in {cl : Cl} {m : Nat} {ts : List Tie} (hf : FOk m ts) {F A : Val} {a : Nat} : ∀ (l : List Nat) (D : List (Nat × Val)) (L : List Nat) (x5 : Option Val), (∀ b ∈ l, b ∈ nbs ts a) → a ∈ keysN D → Rch m ts (keysN D) → L.length ≤ D.length →
    ∃ D' X y5, sForGo (bindName 5) pIn (nV l) cl (pE F D A L (some (.int (a : Int))) x5) = .next (pE F D' A (L ++ X) (some (.int (a : Int))) y5) ∧ keysN D' = keysN D ++ X ∧ Rch m ts (keysN D') ∧ ∀ b ∈ l, b ∈ keysN D'
  | [], D, L, x5, _, _, hR, _ => ⟨D, [], x5, by rw [List.append_nil]; rfl, by rw [List.append_nil], hR, fun b hb => by cases hb⟩
  | b :: l, D, L, x5, hl, ha, hR, hL => by
    have hlen : D.length ≤ 40 := by
      have := nodup_len m _ hR.nd hR.lt
      rw [List.length_map] at this
      have := hf.m1
      omega
    have t : mBinR notinV (mVar 5) 1 cl (pE F D A L (some (.int (a : Int))) (some (.int (b : Int)))) = .ok (.bl (decide (b ∉ keysN D))) (pE F D A L (some (.int (a : Int))) (some (.int (b : Int)))) := binR_of (vat rfl) rfl (notin_dct D b)
    have hb : bindName 5 (.int (b : Int)) (pE F D A L (some (.int (a : Int))) x5) = some (pE F D A L (some (.int (a : Int))) (some (.int (b : Int)))) := rfl
    have key : ∃ D1 X1, pIn cl (pE F D A L (some (.int (a : Int))) (some (.int (b : Int)))) = .next (pE F D1 A (L ++ X1) (some (.int (a : Int))) (some (.int (b : Int)))) ∧ keysN D1 = keysN D ++ X1 ∧ Rch m ts (keysN D1) ∧ b ∈ keysN D1 ∧ (L ++ X1).length ≤ D1.length := by
      by_cases h : b ∈ keysN D
      · refine ⟨D, [], ?_, by rw [List.append_nil], hR, h, by rw [List.append_nil]; exact hL⟩
        unfold pIn
        rw [sIf_ap, t, asB_ok, toS_ok, if_neg (by simpa using h), List.append_nil]
        rfl
      · have hk : keysN (D ++ [(b, .int (a : Int))]) = keysN D ++ [b] := by unfold keysN; rw [List.map_append]; rfl
        have hs := hR.step hf ha [b] (fun c hc => by rw [List.mem_singleton] at hc; rw [hc]; exact hl b List.mem_cons_self)
        rw [List.foldl_cons, List.foldl_nil] at hs
        unfold addK at hs
        rw [if_neg h] at hs
        refine ⟨D ++ [(b, .int (a : Int))], [b], ?_, hk, by rw [hk]; exact hs, by rw [hk]; exact List.mem_append_right _ List.mem_cons_self, by rw [List.length_append, List.length_append, List.length_singleton, List.length_singleton]; omega⟩
        have s1 : sSet 1 (mVar 5) (mVar 4) cl (pE F D A L (some (.int (a : Int))) (some (.int (b : Int)))) = .next (pE F (D ++ [(b, .int (a : Int))]) A L (some (.int (a : Int))) (some (.int (b : Int)))) := set_of (x := dctV D) rfl (vat (v := .int (a : Int)) rfl) (vat (v := .int (b : Int)) rfl) (set_dct h (by omega))
        have s2 : sApp 3 (mVar 5) cl (pE F (D ++ [(b, .int (a : Int))]) A L (some (.int (a : Int))) (some (.int (b : Int)))) = .next (pE F (D ++ [(b, .int (a : Int))]) A (L ++ [b]) (some (.int (a : Int))) (some (.int (b : Int)))) := by
          rw [app_of (xs := nV L) (a := .int (b : Int)) rfl (vat rfl) (by rw [List.length_map]; omega)]
          show RS.next ((pE F (D ++ [(b, .int (a : Int))]) A L (some (.int (a : Int))) (some (.int (b : Int)))).set 3 (some (.lst (nV L ++ [.int (b : Int)])))) = _
          rw [show nV L ++ [Val.int (b : Int)] = nV (L ++ [b]) by unfold nV; rw [List.map_append]; rfl]
          rfl
        unfold pIn
        rw [sIf_ap, t, asB_ok, toS_ok, if_pos (by simpa using h), seq_next s1, s2]
    obtain ⟨D1, X1, q1, k1, r1, b1, l1⟩ := key
    obtain ⟨D', X, y5, q2, k2, r2, b2⟩ := par_in hf (cl := cl) (F := F) (A := A) (a := a) l D1 (L ++ X1) (some (.int (b : Int))) (fun c hc => hl c (List.mem_cons_of_mem _ hc)) (by rw [k1]; exact List.mem_append_left _ ha) r1 l1
    refine ⟨D', X1 ++ X, y5, ?_, by rw [k2, k1, List.append_assoc], r2, fun c hc => ?_⟩
    · rw [← List.append_assoc, ← q2]
      show sForGo (bindName 5) pIn (.int (b : Int) :: nV l) cl (pE F D A L (some (.int (a : Int))) x5) = _
      simp only [sForGo, hb, q1, then_next]
    · rcases List.mem_cons.mp hc with rfl | hc
      · rw [k2]; exact List.mem_append_left _ b1
      · exact b2 c hc
def pOut : S := sFor (wSeq (mCall 24 (aVal (mVar 0) (aVal (mVar 4) aNil)))) (bindName 5) pIn
theorem par_out (n : Nat) {m : Nat} {ts : List Tie} (hf : FOk m ts) {A : Val} : ∀ (l : List Nat) (D : List (Nat × Val)) (L : List Nat) (x4 x5 : Option Val), (∀ a ∈ l, a ∈ keysN D) → Rch m ts (keysN D) → L.length ≤ D.length →
    ∃ D' X y4 y5, sForGo (bindName 4) pOut (nV l) (callN GT (n + 1)) (pE (fV m ts) D A L x4 x5) = .next (pE (fV m ts) D' A (L ++ X) y4 y5) ∧ keysN D' = keysN D ++ X ∧ Rch m ts (keysN D') ∧ ∀ a ∈ l, ∀ b ∈ nbs ts a, b ∈ keysN D'
  | [], D, L, x4, x5, _, hR, _ => ⟨D, [], x4, x5, by rw [List.append_nil]; rfl, by rw [List.append_nil], hR, fun b hb => by cases hb⟩
  | a :: l, D, L, x4, x5, hl, hR, hL => by
    have c := l_near_call n (m := m) (ts := ts) hf.len (a := a)
    have w : wSeq (mCall 24 (aVal (mVar 0) (aVal (mVar 4) aNil))) (callN GT (n + 1)) (pE (fV m ts) D A L (some (.int (a : Int))) x5) = .ok (nV (nbs ts a)) (pE (fV m ts) D A L (some (.int (a : Int))) x5) := by
      rw [wSeq_ap, call_v (a_cons (vat (v := fV m ts) rfl) (a_cons (vat (v := .int (a : Int)) rfl) a_nil)) c, bind_ok]
      rfl
    obtain ⟨D1, X1, y5, q1, k1, r1, b1⟩ := par_in hf (cl := callN GT (n + 1)) (F := fV m ts) (A := A) (a := a) (nbs ts a) D L x5 (fun b hb => hb) (hl a List.mem_cons_self) hR hL
    have hlen : (L ++ X1).length ≤ D1.length := by
      have : D1.length = D.length + X1.length := by
        have := congrArg List.length k1
        unfold keysN at this
        rw [List.length_append, List.length_map, List.length_map] at this
        exact this
      rw [List.length_append]; omega
    obtain ⟨D', X, y4, y5', q2, k2, r2, b2⟩ := par_out n hf (A := A) l D1 (L ++ X1) (some (.int (a : Int))) y5 (fun c hc => by rw [k1]; exact List.mem_append_left _ (hl c (List.mem_cons_of_mem _ hc))) r1 hlen
    have hb : bindName 4 (.int (a : Int)) (pE (fV m ts) D A L x4 x5) = some (pE (fV m ts) D A L (some (.int (a : Int))) x5) := rfl
    have q1' : pOut (callN GT (n + 1)) (pE (fV m ts) D A L (some (.int (a : Int))) x5) = .next (pE (fV m ts) D1 A (L ++ X1) (some (.int (a : Int))) y5) := by
      unfold pOut
      rw [sFor_ok w, q1]
    refine ⟨D', X1 ++ X, y4, y5', ?_, by rw [k2, k1, List.append_assoc], r2, fun c hc b hb' => ?_⟩
    · rw [← List.append_assoc, ← q2]
      show sForGo (bindName 4) pOut (.int (a : Int) :: nV l) (callN GT (n + 1)) (pE (fV m ts) D A L x4 x5) = _
      simp only [sForGo, hb, q1', then_next]
    · rcases List.mem_cons.mp hc with rfl | hc
      · rw [k2]; exact List.mem_append_left _ (b1 b hb')
      · exact b2 c hc b hb'
abbrev wE (F : Val) (D : List (Nat × Val)) (A : List Nat) (x3 x4 x5 : Option Val) : Env := [some F, some (dctV D), some (.lst (nV A)), x3, x4, x5]
def pW : S := sSeq (sAsg (bindName 3) (mLst iNil)) (sSeq (sFor (wSeq (mVar 2)) (bindName 4) pOut) (sAsg (bindName 2) (mMv 3)))
theorem par_turn (n : Nat) {m : Nat} {ts : List Tie} (hf : FOk m ts) {D : List (Nat × Val)} {A : List Nat} {x3 x4 x5 : Option Val} (hA : ∀ a ∈ A, a ∈ keysN D) (hR : Rch m ts (keysN D)) :
    ∃ D' X y4 y5, pW (callN GT (n + 1)) (wE (fV m ts) D A x3 x4 x5) = .next (wE (fV m ts) D' X none y4 y5) ∧ keysN D' = keysN D ++ X ∧ Rch m ts (keysN D') ∧ ∀ a ∈ A, ∀ b ∈ nbs ts a, b ∈ keysN D' := by
  obtain ⟨D', X, y4, y5, q, k, r, b⟩ := par_out n hf (A := .lst (nV A)) A D [] x4 x5 hA hR (Nat.zero_le _)
  rw [List.nil_append] at q
  refine ⟨D', X, y4, y5, ?_, k, r, b⟩
  have q1 : sAsg (bindName 3) (mLst iNil) (callN GT (n + 1)) (wE (fV m ts) D A x3 x4 x5) = .next (pE (fV m ts) D (.lst (nV A)) [] x4 x5) := by
    rw [sAsg_ap, lst_of i_nil (by show (0 : Nat) ≤ 100000; omega), toS_ok]
    rfl
  have w : wSeq (mVar 2) (callN GT (n + 1)) (pE (fV m ts) D (.lst (nV A)) [] x4 x5) = .ok (nV A) (pE (fV m ts) D (.lst (nV A)) [] x4 x5) := by
    rw [wSeq_ap, vat (v := .lst (nV A)) rfl, bind_ok]
    rfl
  unfold pW
  rw [seq_next q1, seq_next (by rw [sFor_ok w]; exact q)]
  rfl
theorem par_while (n : Nat) {m : Nat} {ts : List Tie} (hf : FOk m ts) : ∀ (f : Nat) (D : List (Nat × Val)) (A : List Nat) (x3 x4 x5 : Option Val), (∀ a ∈ A, a ∈ keysN D) → Rch m ts (keysN D) → (∀ a ∈ keysN D, a ∉ A → ∀ b ∈ nbs ts a, b ∈ keysN D) → (m - D.length) + (if A = [] then 0 else 1) < f →
    ∃ D' z3 z4 z5, sWhile (mBin neV (mVar 2) (mLst iNil)) pW f (callN GT (n + 1)) (wE (fV m ts) D A x3 x4 x5) = .next (wE (fV m ts) D' [] z3 z4 z5) ∧ Rch m ts (keysN D') ∧ Closed ts (keysN D')
  | 0, D, A, x3, x4, x5, _, _, _, h => by omega
  | f + 1, D, A, x3, x4, x5, hA, hR, hC, h => by
    have t : mBin neV (mVar 2) (mLst iNil) (callN GT (n + 1)) (wE (fV m ts) D A x3 x4 x5) = .ok (.bl (decide (A ≠ []))) (wE (fV m ts) D A x3 x4 x5) := bin_of (vat (v := .lst (nV A)) rfl) (lst_of i_nil (by show (0 : Nat) ≤ 100000; omega)) (eqN.neL A [])
    have un : sWhile (mBin neV (mVar 2) (mLst iNil)) pW (f + 1) (callN GT (n + 1)) (wE (fV m ts) D A x3 x4 x5) = (asB (mBin neV (mVar 2) (mLst iNil) (callN GT (n + 1)) (wE (fV m ts) D A x3 x4 x5))).toS fun v e1 => if v = true then (pW (callN GT (n + 1)) e1).then fun e2 => sWhile (mBin neV (mVar 2) (mLst iNil)) pW f (callN GT (n + 1)) e2 else .next e1 := rfl
    rw [t, asB_ok, toS_ok] at un
    by_cases hA0 : A = []
    · subst hA0
      refine ⟨D, x3, x4, x5, ?_, hR, fun a ha b hb => hC a ha (by simp) b hb⟩
      rw [un, if_neg (by simp)]
    · rw [if_pos (by simpa using hA0)] at un
      obtain ⟨D', X, y4, y5, q, k, r, b⟩ := par_turn n hf (x3 := x3) (x4 := x4) (x5 := x5) hA hR
      rw [q, then_next] at un
      have kl : D'.length = D.length + X.length := by
        have := congrArg List.length k
        unfold keysN at this
        rw [List.length_append, List.length_map, List.length_map] at this
        exact this
      have hm := nodup_len m _ r.nd r.lt
      unfold keysN at hm
      rw [List.length_map] at hm
      rw [if_neg hA0] at h
      obtain ⟨D2, z3, z4, z5, g, g1, g2⟩ := par_while n hf f D' X none y4 y5 (fun a ha => by rw [k]; exact List.mem_append_right _ ha) r (fun a ha hx c hc => by
        rw [k] at ha
        rcases List.mem_append.mp ha with ha | ha
        · by_cases hax : a ∈ A
          · exact b a hax c hc
          · rw [k]; exact List.mem_append_left _ (hC a ha hax c hc)
        · exact absurd ha hx) (by
        by_cases hX : X = []
        · rw [if_pos hX]; omega
        · rw [if_neg hX]
          have : 0 < X.length := List.length_pos_iff.mpr hX
          omega)
      exact ⟨D2, z3, z4, z5, by rw [un]; exact g, g1, g2⟩
/-- the law's parents: as many as are reached -/
theorem l_parents_call (n : Nat) {m : Nat} {ts : List Tie} (hf : FOk m ts) : ∃ D, Rch m ts (keysN D) ∧ Closed ts (keysN D) ∧ callN GT (n + 2) k_l_parents [fV m ts] = .ok (dctV D) [] := by
  rw [call_of (d := d_l_parents) rfl]
  have hm0 := hf.m0
  have hm1 := hf.m1
  obtain ⟨D, x3, x4, x5, q, g1, g2⟩ := par_while n hf 100000 [(0, .non)] [0] none none none (fun a ha => ha) (Rch.start hm0) (fun a ha hx => absurd ha hx) (by
    rw [if_neg (by simp)]
    show m - 1 + 1 < 100000
    omega)
  refine ⟨D, g1, g2, ?_⟩
  have q1 : sPar2 1 2 (mDict1 (mLit (.int 0)) (mLit .non)) (mLst (iCons (mLit (.int 0)) iNil)) (callN GT (n + 1)) [some (fV m ts), none, none, none, none, none] = .next (wE (fV m ts) [(0, .non)] [0] none none none) := by
    unfold sPar2
    rw [show mDict1 (mLit (.int 0)) (mLit .non) (callN GT (n + 1)) [some (fV m ts), none, none, none, none, none] = .ok (dctV [(0, .non)]) [some (fV m ts), none, none, none, none, none] from rfl, toS_ok, lst_of (i_cons mLit_ap i_nil) (by show (1 : Nat) ≤ 100000; omega), toS_ok]
    rfl
  have q3 : d_l_parents.body (callN GT (n + 1)) [some (fV m ts), none, none, none, none, none] = .ret (dctV D) [some (fV m ts), none, some (.lst (nV [])), x3, x4, x5] := by
    have hb : d_l_parents.body = sSeq (sPar2 1 2 (mDict1 (mLit (.int 0)) (mLit .non)) (mLst (iCons (mLit (.int 0)) iNil))) (sSeq (sWhile (mBin neV (mVar 2) (mLst iNil)) pW 100000) (sRet (mMv 1))) := rfl
    rw [hb, seq_next q1, seq_next q]
    rfl
  exact run_ret rfl rfl q3 rfl
end CG
end
section
set_option Elab.async false
set_option linter.all false
set_option maxRecDepth 100000
set_option autoImplicit false
/-! M17: ties in a set, sorted; ties moved. -/
namespace CG
open PySem T0
theorem EqK.neT {α : Type} [DecidableEq α] {f : α → Val} {g : α → PyData} (k : EqK f g) (l m : List α) : neV (.tup (l.map f)) (.tup (m.map f)) = some (.bl (decide (l ≠ m))) := by
  unfold neV eqD
  simp only [toD, toDs_of k.d, Option.map_some, k.tup, Bool.and_self, if_true, PyData.eqv, k.eqAll, decide_not]
def toI (p : Tie) : Int × Int := ((p.1 : Int), (p.2 : Int))
theorem pairsI_tie : ∀ us : List Tie, pairsI (us.map tieV) = some (us.map toI)
  | [] => rfl
  | p :: us => by
    rw [List.map_cons, List.map_cons]
    show (pairsI (us.map tieV)).map (((p.1 : Int), (p.2 : Int)) :: ·) = _
    rw [pairsI_tie us]
    rfl
theorem set_ties {m : Nat} (hm : m ≤ 40) (us : List Tie) (hu : ∀ p ∈ us, p.1 < p.2 ∧ p.2 < m) (hl : us.length ≤ 60) : ∃ ts' : List Tie, sortSetP (.lst (us.map tieV)) = some (.lst (ts'.map tieV)) ∧ ts'.Pairwise plt ∧ (∀ p ∈ ts', p ∈ us) ∧ ts'.length ≤ us.length := by
  let ps := us.map toI
  have hok : ∀ q ∈ ps, okP q = true := by
    intro q hq
    obtain ⟨p, hp, rfl⟩ := List.mem_map.mp hq
    have := hu p hp
    unfold okP toI
    simp only [decide_eq_true_eq]
    omega
  have hs : sortSetP (.lst (us.map tieV)) = some (.lst ((setSort ps).map pairV)) := by
    unfold sortSetP
    simp only [pairsI_tie]
    rw [if_pos (by rw [Bool.and_eq_true, decide_eq_true_eq, List.all_eq_true, List.length_map]; exact ⟨by omega, hok⟩)]
  have hmem : ∀ q, q ∈ setSort ps ↔ q ∈ ps := fun q => (List.mergeSort_perm _ _).mem_iff.trans mem_dd
  let tn : Int × Int → Tie := fun q => (q.1.toNat, q.2.toNat)
  have ht : ∀ p : Tie, tn (toI p) = p := fun p => by
    obtain ⟨a, b⟩ := p
    show ((a : Int).toNat, (b : Int).toNat) = (a, b)
    rw [Int.toNat_natCast, Int.toNat_natCast]
  have hin : ∀ q ∈ setSort ps, tn q ∈ us ∧ toI (tn q) = q := by
    intro q hq
    obtain ⟨p, hp, rfl⟩ := List.mem_map.mp ((hmem q).mp hq)
    rw [ht]
    exact ⟨hp, rfl⟩
  refine ⟨(setSort ps).map tn, ?_, ?_, ?_, ?_⟩
  · rw [hs, List.map_map]
    congr 2
    refine List.map_congr_left fun q hq => ?_
    have := (hin q hq).2
    show pairV q = tieV (tn q)
    rw [← this, ht]
    rfl
  · have nd : (setSort ps).Nodup := (List.mergeSort_perm _ _).nodup_iff.mpr (nodup_dd ps)
    have pw : (setSort ps).Pairwise fun a b => codeP a ≤ codeP b := (List.pairwise_mergeSort (le := fun a b => decide (codeP a ≤ codeP b)) (fun a b c => by simp; omega) (fun a b => by simp; omega) _).imp (by simp)
    rw [List.pairwise_map]
    refine List.Pairwise.imp_of_mem (fun {a b} ha hb h => ?_) (pw.and nd)
    obtain ⟨h1, h2⟩ := h
    have oa := hok a ((hmem a).mp ha)
    have ob := hok b ((hmem b).mp hb)
    unfold okP at oa ob
    unfold codeP at h1
    simp only [decide_eq_true_eq] at oa ob
    have hne : ¬ (a.1 = b.1 ∧ a.2 = b.2) := fun e => h2 (Prod.ext e.1 e.2)
    show a.1.toNat < b.1.toNat ∨ (a.1.toNat = b.1.toNat ∧ a.2.toNat < b.2.toNat)
    omega
  · intro p hp
    obtain ⟨q, hq, rfl⟩ := List.mem_map.mp hp
    exact (hin q hq).1
  · rw [List.length_map]
    have e : (setSort ps).length = (dd ps).length := (List.mergeSort_perm _ _).length_eq
    have : ∀ l : List (Int × Int), (dd l).length ≤ l.length := by
      intro l
      induction l with
      | nil => exact Nat.le_refl _
      | cons x l ih =>
        unfold dd
        by_cases h : x ∈ l
        · rw [if_pos h, List.length_cons]; omega
        · rw [if_neg h, List.length_cons, List.length_cons]; omega
    have h3 := this ps
    rw [List.length_map] at h3
    omega
abbrev qE (s D : Val) (x2 x3 x4 x5 x6 x7 x8 x9 x10 : Option Val) : Env := [some s, some D, x2, x3, x4, x5, x6, x7, x8, x9, x10]
def qT1 : S := sAsg (bindName 3) (mBin itemV (mLst (iCons (mCall 9 (aIo 1 (aVal (mLit (.int 8)) aNil))) (iCons (mCall 10 (aIo 1 (aVal (mLit (.int 20)) aNil))) (iCons (mCall 10 (aIo 1 (aVal (mLit (.int 40)) aNil))) iNil)))) (mCall 8 (aIo 1 (aVal (mLit (.int 3)) aNil))))
section
variable {s D : Val} {x2 x3 x4 x5 x6 x7 x8 x9 x10 : Option Val}
theorem qT1_run (n : Nat) (hv : Dr D) : ∃ m ts D', FOk m ts ∧ Dr D' ∧ qT1 (callN GT (n + 6)) (qE s D x2 x3 x4 x5 x6 x7 x8 x9 x10) = .next (qE s D' x2 (some (fV m ts)) x4 x5 x6 x7 x8 x9 x10) := by
  obtain ⟨m1, ts1, D1, f1, _, h1, c1⟩ := field_call (n + 4) hv (most := 8) (by omega) (by omega)
  obtain ⟨m2, ts2, D2, f2, _, h2, c2⟩ := tree_call (n + 4) h1 (most := 20) (by omega) (by omega)
  obtain ⟨m3, ts3, D3, f3, _, h3, c3⟩ := tree_call (n + 4) h2 (most := 40) (by omega) (by omega)
  obtain ⟨r, D4, hr, h4, c4⟩ := pick_call (n + 5) h3 (m := 3) (by omega) (by omega)
  have q1 : mCall 9 (aIo 1 (aVal (mLit (.int 8)) aNil)) (callN GT (n + 6)) (qE s D x2 x3 x4 x5 x6 x7 x8 x9 x10) = .ok (fV m1 ts1) (qE s D1 x2 x3 x4 x5 x6 x7 x8 x9 x10) := io_call rfl hv.sc (a_cons rfl a_nil) c1
  have q2 : mCall 10 (aIo 1 (aVal (mLit (.int 20)) aNil)) (callN GT (n + 6)) (qE s D1 x2 x3 x4 x5 x6 x7 x8 x9 x10) = .ok (fV m2 ts2) (qE s D2 x2 x3 x4 x5 x6 x7 x8 x9 x10) := io_call rfl h1.sc (a_cons rfl a_nil) c2
  have q3 : mCall 10 (aIo 1 (aVal (mLit (.int 40)) aNil)) (callN GT (n + 6)) (qE s D2 x2 x3 x4 x5 x6 x7 x8 x9 x10) = .ok (fV m3 ts3) (qE s D3 x2 x3 x4 x5 x6 x7 x8 x9 x10) := io_call rfl h2.sc (a_cons rfl a_nil) c3
  have q4 : mCall 8 (aIo 1 (aVal (mLit (.int 3)) aNil)) (callN GT (n + 6)) (qE s D3 x2 x3 x4 x5 x6 x7 x8 x9 x10) = .ok (.int r) (qE s D4 x2 x3 x4 x5 x6 x7 x8 x9 x10) := io_call rfl h3.sc (a_cons rfl a_nil) c4
  obtain ⟨x, hx, ix⟩ := item_mem (xs := [fV m1 ts1, fV m2 ts2, fV m3 ts3]) (r := r) (by show r < 3; omega)
  have q : qT1 (callN GT (n + 6)) (qE s D x2 x3 x4 x5 x6 x7 x8 x9 x10) = .next (qE s D4 x2 (some x) x4 x5 x6 x7 x8 x9 x10) := by
    unfold qT1
    rw [sAsg_ap, bin_of (lst_of (i_cons q1 (i_cons q2 (i_cons q3 i_nil))) (by show (3 : Nat) ≤ 100000; omega)) q4 ix]
    rfl
  simp only [List.mem_cons, List.not_mem_nil, or_false] at hx
  rcases hx with rfl | rfl | rfl
  · exact ⟨m1, ts1, D4, f1, h4, q⟩
  · exact ⟨m2, ts2, D4, f2.f, h4, q⟩
  · exact ⟨m3, ts3, D4, f3.f, h4, q⟩
end
end CG
end
section
set_option Elab.async false
set_option linter.all false
set_option maxRecDepth 100000
set_option autoImplicit false
/-! M18: law k02, a turn. -/
namespace CG
open PySem T0
def qB1 : S := sPar3 4 5 6 (mCall 8 (aIo 1 (aVal (mCallB (op1 lenV) (iCons (mBin itemV (mVar 3) (mLit (.int 1))) iNil)) aNil))) (mCall 8 (aIo 1 (aVal (mBin itemV (mVar 3) (mLit (.int 0))) aNil))) (mCall 8 (aIo 1 (aVal (mBin itemV (mVar 3) (mLit (.int 0))) aNil)))
def qB2 : S := sAsg (bindName 7) (mCallB (op1 listV) (iCons (mBin addA (mSlice sliceV (mBin itemV (mVar 3) (mLit (.int 1))) oNone (oSome (mVar 4))) (mSlice sliceV (mBin itemV (mVar 3) (mLit (.int 1))) (oSome (mBin addA (mVar 4) (mLit (.int 1)))) oNone)) iNil))
def qB3 : S := sIf (mBin neV (mVar 5) (mVar 6)) (sApp 7 (mTup (iCons (mCallB min2V (iCons (mVar 5) (iCons (mVar 6) iNil))) (iCons (mCallB max2V (iCons (mVar 5) (iCons (mVar 6) iNil))) iNil)))) sPass
def qB4 : S := sAsg (bindName 3) (mTup (iCons (mBin itemV (mVar 3) (mLit (.int 0))) (iCons (mCallB (op1 tupleV) (iCons (mUnS sortSetP 7) iNil)) iNil)))
def qT2 : S := sIf (mAnd (mBin eqV (mCall 8 (aIo 1 (aVal (mLit (.int 3)) aNil))) (mLit (.int 0))) (mBin neV (mBin itemV (mVar 3) (mLit (.int 1))) (mTup iNil))) (sSeq qB1 (sSeq qB2 (sSeq qB3 qB4))) sPass
section
variable {s D : Val} {x2 x3 x4 x5 x6 x7 x8 x9 x10 : Option Val} {cl : Cl} {m : Nat} {ts : List Tie}
theorem q_it1 : mBin itemV (mVar 3) (mLit (.int 1)) cl (qE s D x2 (some (fV m ts)) x4 x5 x6 x7 x8 x9 x10) = .ok (tiesV ts) (qE s D x2 (some (fV m ts)) x4 x5 x6 x7 x8 x9 x10) := bin_of (vat (v := fV m ts) rfl) mLit_ap (by unfold fV; rw [itemV_tup, atI_1])
theorem q_it0 : mBin itemV (mVar 3) (mLit (.int 0)) cl (qE s D x2 (some (fV m ts)) x4 x5 x6 x7 x8 x9 x10) = .ok (.int (m : Int)) (qE s D x2 (some (fV m ts)) x4 x5 x6 x7 x8 x9 x10) := bin_of (vat (v := fV m ts) rfl) mLit_ap (by unfold fV; rw [itemV_tup, atI_0])
theorem q_len : mCallB (op1 lenV) (iCons (mBin itemV (mVar 3) (mLit (.int 1))) iNil) cl (qE s D x2 (some (fV m ts)) x4 x5 x6 x7 x8 x9 x10) = .ok (.int ((ts.length : Nat) : Int)) (qE s D x2 (some (fV m ts)) x4 x5 x6 x7 x8 x9 x10) := callB_of (i_cons q_it1 i_nil) (by unfold tiesV; rw [op1_ap, lenV_tup, List.length_map])
theorem qB1_run (n : Nat) (hv : Dr D) (h : FOk m ts) (hne : ts ≠ []) : ∃ (a o p : Nat) (D' : Val), a < ts.length ∧ o < m ∧ p < m ∧ Dr D' ∧ qB1 (callN GT (n + 6)) (qE s D x2 (some (fV m ts)) x4 x5 x6 x7 x8 x9 x10) = .next (qE s D' x2 (some (fV m ts)) (some (.int (a : Int))) (some (.int (o : Int))) (some (.int (p : Int))) x7 x8 x9 x10) := by
  have hl := h.len
  have h0 := h.m0
  have h1 := h.m1
  have hp : 0 < ts.length := List.length_pos_iff.mpr hne
  obtain ⟨a, D1, ha, d1, c1⟩ := pick_call (n + 5) hv (m := ((ts.length : Nat) : Int)) (by omega) (by omega)
  obtain ⟨o, D2, ho, d2, c2⟩ := pick_call (n + 5) d1 (m := (m : Int)) (by omega) (by omega)
  obtain ⟨p, D3, hp', d3, c3⟩ := pick_call (n + 5) d2 (m := (m : Int)) (by omega) (by omega)
  refine ⟨a, o, p, D3, by omega, by omega, by omega, d3, ?_⟩
  have q1 : mCall 8 (aIo 1 (aVal (mCallB (op1 lenV) (iCons (mBin itemV (mVar 3) (mLit (.int 1))) iNil)) aNil)) (callN GT (n + 6)) (qE s D x2 (some (fV m ts)) x4 x5 x6 x7 x8 x9 x10) = .ok (.int a) (qE s D1 x2 (some (fV m ts)) x4 x5 x6 x7 x8 x9 x10) := io_call rfl hv.sc (a_cons q_len a_nil) c1
  have q2 : mCall 8 (aIo 1 (aVal (mBin itemV (mVar 3) (mLit (.int 0))) aNil)) (callN GT (n + 6)) (qE s D1 x2 (some (fV m ts)) x4 x5 x6 x7 x8 x9 x10) = .ok (.int o) (qE s D2 x2 (some (fV m ts)) x4 x5 x6 x7 x8 x9 x10) := io_call rfl d1.sc (a_cons q_it0 a_nil) c2
  have q3 : mCall 8 (aIo 1 (aVal (mBin itemV (mVar 3) (mLit (.int 0))) aNil)) (callN GT (n + 6)) (qE s D2 x2 (some (fV m ts)) x4 x5 x6 x7 x8 x9 x10) = .ok (.int p) (qE s D3 x2 (some (fV m ts)) x4 x5 x6 x7 x8 x9 x10) := io_call rfl d2.sc (a_cons q_it0 a_nil) c3
  unfold qB1 sPar3
  rw [q1, toS_ok, q2, toS_ok, q3, toS_ok]
  rfl
theorem take_q {f g : M Val} {e : Env} {k : Nat} (h : f cl e = .ok (tiesV ts) e) (h2 : g cl e = .ok (.int (k : Int)) e) (hk : k ≤ ts.length) : mSlice sliceV f oNone (oSome g) cl e = .ok (tiesV (ts.take k)) e := by
  unfold tiesV at h ⊢
  rw [List.map_take]
  exact sl_take h h2 (by rw [List.length_map]; exact hk)
theorem drop_q {f g : M Val} {e : Env} {k : Nat} (h : f cl e = .ok (tiesV ts) e) (h2 : g cl e = .ok (.int (k : Int)) e) (hk : k ≤ ts.length) : mSlice sliceV f (oSome g) oNone cl e = .ok (tiesV (ts.drop k)) e := by
  unfold tiesV at h ⊢
  rw [List.map_drop]
  exact sl_drop h h2 (by rw [List.length_map]; exact hk)
theorem qB2_run {a : Nat} (h : FOk m ts) (ha : a < ts.length) : qB2 cl (qE s D x2 (some (fV m ts)) (some (.int (a : Int))) x5 x6 x7 x8 x9 x10) = .next (qE s D x2 (some (fV m ts)) (some (.int (a : Int))) x5 x6 (some (.lst ((ts.take a ++ ts.drop (a + 1)).map tieV))) x8 x9 x10) := by
  have hl := h.len
  let e : Env := qE s D x2 (some (fV m ts)) (some (.int (a : Int))) x5 x6 x7 x8 x9 x10
  have w1 : mSlice sliceV (mBin itemV (mVar 3) (mLit (.int 1))) oNone (oSome (mVar 4)) cl e = .ok (tiesV (ts.take a)) e := take_q q_it1 (vat rfl) (by omega)
  have w2 : mSlice sliceV (mBin itemV (mVar 3) (mLit (.int 1))) (oSome (mBin addA (mVar 4) (mLit (.int 1)))) oNone cl e = .ok (tiesV (ts.drop (a + 1))) e := drop_q q_it1 (bin_of (vat (v := .int (a : Int)) rfl) mLit_ap (by rw [addA_int]; rfl)) (by omega)
  have ad : addA (tiesV (ts.take a)) (tiesV (ts.drop (a + 1))) = some (tiesV (ts.take a ++ ts.drop (a + 1))) := by
    unfold tiesV
    rw [addA_tup (by rw [List.length_map, List.length_map, List.length_take, List.length_drop]; omega), List.map_append]
  unfold qB2
  rw [sAsg_ap, callB_of (c := .lst ((ts.take a ++ ts.drop (a + 1)).map tieV)) (i_cons (bin_of w1 w2 ad) i_nil) rfl]
  rfl
theorem qB3_run {us : List Tie} {o p : Nat} (ho : o < m) (hp : p < m) (hu : ∀ q ∈ us, q.1 < q.2 ∧ q.2 < m) (hl : us.length ≤ 59) : ∃ us' : List Tie, (∀ q ∈ us', q.1 < q.2 ∧ q.2 < m) ∧ us'.length ≤ 60 ∧ qB3 cl (qE s D x2 x3 x4 (some (.int (o : Int))) (some (.int (p : Int))) (some (.lst (us.map tieV))) x8 x9 x10) = .next (qE s D x2 x3 x4 (some (.int (o : Int))) (some (.int (p : Int))) (some (.lst (us'.map tieV))) x8 x9 x10) := by
  let e : Env := qE s D x2 x3 x4 (some (.int (o : Int))) (some (.int (p : Int))) (some (.lst (us.map tieV))) x8 x9 x10
  have t : mBin neV (mVar 5) (mVar 6) cl e = .ok (.bl (decide ((o : Int) ≠ (p : Int)))) e := bin_of (vat (v := .int (o : Int)) rfl) (vat (v := .int (p : Int)) rfl) (neV_int _ _)
  by_cases h : o = p
  · refine ⟨us, hu, by omega, ?_⟩
    unfold qB3
    rw [sIf_ap, t, asB_ok, toS_ok, if_neg (by rw [decide_eq_true_eq]; omega)]
    rfl
  · let lo : Nat := if p < o then p else o
    let hi : Nat := if o < p then p else o
    have hq : lo < hi ∧ hi < m := by
      show (if p < o then p else o) < (if o < p then p else o) ∧ (if o < p then p else o) < m
      split <;> split <;> omega
    refine ⟨us ++ [(lo, hi)], fun q hq' => ?_, by rw [List.length_append, List.length_singleton]; omega, ?_⟩
    · rcases List.mem_append.mp hq' with hq' | hq'
      · exact hu q hq'
      · rw [List.mem_singleton] at hq'; rw [hq']; exact hq
    · have m1 : min2V [.int (o : Int), .int (p : Int)] = some (.int (lo : Int)) := by
        show some (Val.int (if (p : Int) < (o : Int) then (p : Int) else (o : Int))) = some (Val.int (((if p < o then p else o) : Nat) : Int))
        by_cases k : p < o
        · rw [if_pos k, if_pos (by omega)]
        · rw [if_neg k, if_neg (by omega)]
      have m2 : max2V [.int (o : Int), .int (p : Int)] = some (.int (hi : Int)) := by
        show some (Val.int (if (p : Int) > (o : Int) then (p : Int) else (o : Int))) = some (Val.int (((if o < p then p else o) : Nat) : Int))
        by_cases k : o < p
        · rw [if_pos k, if_pos (by omega)]
        · rw [if_neg k, if_neg (by omega)]
      have args : iCons (mVar 5) (iCons (mVar 6) iNil) cl e = .ok [.int (o : Int), .int (p : Int)] e := i_cons (vat rfl) (i_cons (vat rfl) i_nil)
      have tp : mTup (iCons (mCallB min2V (iCons (mVar 5) (iCons (mVar 6) iNil))) (iCons (mCallB max2V (iCons (mVar 5) (iCons (mVar 6) iNil))) iNil)) cl e = .ok (tieV (lo, hi)) e := tup_of (i_cons (callB_of args m1) (i_cons (callB_of args m2) i_nil)) (by show (2 : Nat) ≤ 100000; omega)
      unfold qB3
      rw [sIf_ap, t, asB_ok, toS_ok, if_pos (by rw [decide_eq_true_eq]; omega), app_of (xs := us.map tieV) rfl tp (by rw [List.length_map]; omega), List.map_append]
      rfl
theorem qT2_run (n : Nat) (hv : Dr D) (h : FOk m ts) : ∃ ts' D' y4 y5 y6 y7, FOk m ts' ∧ Dr D' ∧ qT2 (callN GT (n + 6)) (qE s D x2 (some (fV m ts)) x4 x5 x6 x7 x8 x9 x10) = .next (qE s D' x2 (some (fV m ts')) y4 y5 y6 y7 x8 x9 x10) := by
  have hm := h.m1
  have hl := h.len
  obtain ⟨r, D1, hr, d1, c1⟩ := pick_call (n + 5) hv (m := 3) (by omega) (by omega)
  have q1 : mCall 8 (aIo 1 (aVal (mLit (.int 3)) aNil)) (callN GT (n + 6)) (qE s D x2 (some (fV m ts)) x4 x5 x6 x7 x8 x9 x10) = .ok (.int r) (qE s D1 x2 (some (fV m ts)) x4 x5 x6 x7 x8 x9 x10) := io_call rfl hv.sc (a_cons rfl a_nil) c1
  have t1 : mBin eqV (mCall 8 (aIo 1 (aVal (mLit (.int 3)) aNil))) (mLit (.int 0)) (callN GT (n + 6)) (qE s D x2 (some (fV m ts)) x4 x5 x6 x7 x8 x9 x10) = .ok (.bl (decide ((r : Int) = 0))) (qE s D1 x2 (some (fV m ts)) x4 x5 x6 x7 x8 x9 x10) := bin_of q1 mLit_ap (eqV_int _ _)
  have t2 : mBin neV (mBin itemV (mVar 3) (mLit (.int 1))) (mTup iNil) (callN GT (n + 6)) (qE s D1 x2 (some (fV m ts)) x4 x5 x6 x7 x8 x9 x10) = .ok (.bl (decide (ts ≠ []))) (qE s D1 x2 (some (fV m ts)) x4 x5 x6 x7 x8 x9 x10) := bin_of q_it1 (tup_of i_nil (by show (0 : Nat) ≤ 100000; omega)) (eqT.neT ts [])
  unfold qT2
  rw [sIf_ap, mAnd_ap, t1, asB_ok, bind_ok]
  by_cases hr0 : (r : Int) = 0
  · rw [if_pos (by simpa using hr0), t2, asB_ok, toS_ok]
    by_cases hne : ts = []
    · rw [if_neg (by simpa using hne)]
      exact ⟨ts, D1, x4, x5, x6, x7, h, d1, rfl⟩
    · rw [if_pos (by simpa using hne)]
      obtain ⟨a, o, p, D2, ha, ho, hp, d2, b1⟩ := qB1_run (s := s) (x2 := x2) (x4 := x4) (x5 := x5) (x6 := x6) (x7 := x7) (x8 := x8) (x9 := x9) (x10 := x10) n d1 h hne
      have b2 := qB2_run (s := s) (D := D2) (x2 := x2) (x5 := some (.int (o : Int))) (x6 := some (.int (p : Int))) (x7 := x7) (x8 := x8) (x9 := x9) (x10 := x10) (cl := callN GT (n + 6)) h ha
      obtain ⟨us, hu, hlu, b3⟩ := qB3_run (s := s) (D := D2) (x2 := x2) (x3 := some (fV m ts)) (x4 := some (.int (a : Int))) (x8 := x8) (x9 := x9) (x10 := x10) (cl := callN GT (n + 6)) (us := ts.take a ++ ts.drop (a + 1)) ho hp (fun q hq => by
        rcases List.mem_append.mp hq with hq | hq
        · exact h.ok q (List.mem_of_mem_take hq)
        · exact h.ok q (List.mem_of_mem_drop hq)) (by rw [List.length_append, List.length_take, List.length_drop]; omega)
      obtain ⟨ts', hs, pw, sub, hl'⟩ := set_ties hm us hu hlu
      refine ⟨ts', D2, some (.int (a : Int)), some (.int (o : Int)), some (.int (p : Int)), some (.lst (us.map tieV)), ⟨h.m0, hm, pw, fun q hq => hu q (sub q hq), by omega⟩, d2, ?_⟩
      have b4 : qB4 (callN GT (n + 6)) (qE s D2 x2 (some (fV m ts)) (some (.int (a : Int))) (some (.int (o : Int))) (some (.int (p : Int))) (some (.lst (us.map tieV))) x8 x9 x10) = .next (qE s D2 x2 (some (fV m ts')) (some (.int (a : Int))) (some (.int (o : Int))) (some (.int (p : Int))) (some (.lst (us.map tieV))) x8 x9 x10) := by
        unfold qB4
        rw [sAsg_ap, tup_of (i_cons q_it0 (i_cons (callB_of (c := tiesV ts') (i_cons (unS_of (v := .lst (us.map tieV)) rfl hs) i_nil) rfl) i_nil)) (by show (2 : Nat) ≤ 100000; omega)]
        rfl
      rw [seq_next b1, seq_next b2, seq_next b3, b4]
  · rw [if_neg (by simpa using hr0), asB_ok, toS_ok, if_neg Bool.false_ne_true]
    exact ⟨ts, D1, x4, x5, x6, x7, h, d1, rfl⟩
end
end CG
end
section
set_option Elab.async false
set_option linter.all false
set_option maxRecDepth 100000
set_option autoImplicit false
/-! M19: law k02. -/
namespace CG
open PySem T0
def qT3 : S := sAsg (bindName 8) (mCall 23 (aVal (mVar 3) aNil))
def qT4 : S := sAsg (bindName 9) (mAnd (mBin eqV (mCallB (op1 lenV) (iCons (mCall 26 (aVal (mVar 3) aNil)) iNil)) (mBin itemV (mVar 3) (mLit (.int 0)))) (mBin eqV (mCallB (op1 lenV) (iCons (mBin itemV (mVar 3) (mLit (.int 1))) iNil)) (mBin subV (mBin itemV (mVar 3) (mLit (.int 0))) (mLit (.int 1)))))
def qT5 : S := sIf (mOr (mBin neV (mCall 17 (aVal (mVar 8) aNil)) (mCall 25 (aVal (mVar 3) aNil))) (mBin neV (mCall 22 (aVal (mVar 8) aNil)) (mVar 9))) (sRet (mLit (.bl false))) sPass
def qT6 : S := sIf (mBin neV (mCall 19 (aVal (mVar 8) aNil)) (mCallB (op1 maxV) (iCons (mLc [10] (wRng1 (mBin itemV (mVar 3) (mLit (.int 0)))) (bindName 10) (mLit (.bl true)) (mCallB (op1 lenV) (iCons (mCall 24 (aVal (mVar 3) (aVal (mVar 10) aNil))) iNil))) iNil))) (sRet (mLit (.bl false))) sPass
theorem ne_bl (b : Bool) : neV (.bl b) (.bl b) = some (.bl false) := by
  cases b <;> simp [neV, eqD, toD, SeqAt.shaped, PyData.canLay0, PyData.depth, PyData.eqv]
section
variable {s D : Val} {x2 x3 x4 x5 x6 x7 x8 x9 x10 : Option Val} {m : Nat} {ts : List Tie}
theorem qT3_run (n : Nat) (h : FOk m ts) : qT3 (callN GT (n + 6)) (qE s D x2 (some (fV m ts)) x4 x5 x6 x7 x8 x9 x10) = .next (qE s D x2 (some (fV m ts)) x4 x5 x6 x7 (some (fieldV m ts)) x9 x10) := by
  have c := made_call (n + 2) h
  unfold qT3
  rw [sAsg_ap, call_v (a_cons (vat (v := fV m ts) rfl) a_nil) c]
  rfl
theorem qT45_run (n : Nat) (h : FOk m ts) : ∃ b, qT4 (callN GT (n + 6)) (qE s D x2 (some (fV m ts)) x4 x5 x6 x7 (some (fieldV m ts)) x9 x10) = .next (qE s D x2 (some (fV m ts)) x4 x5 x6 x7 (some (fieldV m ts)) (some (.bl b)) x10) ∧
    qT5 (callN GT (n + 6)) (qE s D x2 (some (fV m ts)) x4 x5 x6 x7 (some (fieldV m ts)) (some (.bl b)) x10) = .next (qE s D x2 (some (fV m ts)) x4 x5 x6 x7 (some (fieldV m ts)) (some (.bl b)) x10) := by
  obtain ⟨P, p1, p2, c1⟩ := l_parents_call (n + 4) h
  obtain ⟨R, r1, r2, c2⟩ := is_tree_call (n + 2) h
  have c3 := seconds_call (n + 3) h
  have c4 := l_seconds_call (n + 4) h
  have hlen : R.length = P.length := by
    have := r1.len r2 p1 p2
    rw [this]
    unfold keysN
    rw [List.length_map]
  refine ⟨decide (ts.length + 1 = m) && decide (R.length = m), ?_, ?_⟩
  · let e : Env := qE s D x2 (some (fV m ts)) x4 x5 x6 x7 (some (fieldV m ts)) x9 x10
    have t1 : mBin eqV (mCallB (op1 lenV) (iCons (mCall 26 (aVal (mVar 3) aNil)) iNil)) (mBin itemV (mVar 3) (mLit (.int 0))) (callN GT (n + 6)) e = .ok (.bl (decide (R.length = m))) e := by
      rw [bin_of (a := .int ((P.length : Nat) : Int)) (b := .int (m : Int)) (e1 := e) (callB_of (i_cons (call_v (a_cons (vat (v := fV m ts) rfl) a_nil) c1) i_nil) (by
        show some (Val.int (((P.map fun p => ((Sum.inl (p.1 : Int) : Key), p.2)).length : Nat) : Int)) = _
        rw [List.length_map])) q_it0 (eqV_int _ _)]
      rw [show decide (((P.length : Nat) : Int) = (m : Int)) = decide (R.length = m) from decide_eq_decide.mpr (by omega)]
    have t2 : mBin eqV (mCallB (op1 lenV) (iCons (mBin itemV (mVar 3) (mLit (.int 1))) iNil)) (mBin subV (mBin itemV (mVar 3) (mLit (.int 0))) (mLit (.int 1))) (callN GT (n + 6)) e = .ok (.bl (decide (ts.length + 1 = m))) e := by
      rw [bin_of (a := .int ((ts.length : Nat) : Int)) (b := .int ((m : Int) - 1)) (e1 := e) q_len (bin_of q_it0 mLit_ap (subV_int _ _)) (eqV_int _ _)]
      rw [show decide (((ts.length : Nat) : Int) = (m : Int) - 1) = decide (ts.length + 1 = m) from decide_eq_decide.mpr (by omega)]
    unfold qT4
    rw [sAsg_ap, mAnd_ap, t1, asB_ok, bind_ok]
    by_cases hR : R.length = m
    · rw [if_pos (by simpa using hR), t2, toS_ok, decide_eq_true hR, Bool.and_true]
      rfl
    · rw [if_neg (by simpa using hR), toS_ok, decide_eq_false hR, Bool.and_false]
      rfl
  · let B : Bool := decide (ts.length + 1 = m) && decide (R.length = m)
    let e : Env := qE s D x2 (some (fV m ts)) x4 x5 x6 x7 (some (fieldV m ts)) (some (.bl B)) x10
    have t1 : mBin neV (mCall 17 (aVal (mVar 8) aNil)) (mCall 25 (aVal (mVar 3) aNil)) (callN GT (n + 6)) e = .ok (.bl false) e := by
      rw [bin_of (call_v (a_cons (vat (v := fieldV m ts) rfl) a_nil) c3) (call_v (a_cons (vat (v := fV m ts) rfl) a_nil) c4) (eqT.neL (secs m ts) (secs m ts))]
      rw [show decide (secs m ts ≠ secs m ts) = false from decide_eq_false (fun h => h rfl)]
    have t2 : mBin neV (mCall 22 (aVal (mVar 8) aNil)) (mVar 9) (callN GT (n + 6)) e = .ok (.bl false) e := bin_of (call_v (a_cons (vat (v := fieldV m ts) rfl) a_nil) c2) (vat (v := .bl B) rfl) (ne_bl B)
    unfold qT5
    rw [sIf_ap, mOr_ap, t1, asB_ok, bind_ok, if_neg Bool.false_ne_true, t2, asB_ok, toS_ok, if_neg Bool.false_ne_true]
    rfl
theorem qT6_run (n : Nat) (h : FOk m ts) : qT6 (callN GT (n + 6)) (qE s D x2 (some (fV m ts)) x4 x5 x6 x7 (some (fieldV m ts)) x9 none) = .next (qE s D x2 (some (fV m ts)) x4 x5 x6 x7 (some (fieldV m ts)) x9 none) := by
  have hm0 := h.m0
  have hm1 := h.m1
  have c1 := degree_call (n + 4) h
  have sm : small (m : Int) = true := small_nat (by omega)
  let E : Option Val → Env := fun x => qE s D x2 (some (fV m ts)) x4 x5 x6 x7 (some (fieldV m ts)) x9 x
  let out : Val → Val := fun v => match v with | .int i => .int ((nbs ts i.toNat).length : Nat) | _ => .non
  have hmap : (nV (List.range m)).map out = nV (degs m ts) := by
    unfold degs nV
    rw [List.map_map, List.map_map]
    refine List.map_congr_left fun a _ => ?_
    show Val.int (((nbs ts ((a : Int).toNat)).length : Nat) : Int) = Val.int (((nbs ts a).length : Nat) : Int)
    rw [Int.toNat_natCast]
  obtain ⟨e', h1, x, rfl⟩ := lc_mem (own := [10]) (b := bindName 10) (f := mCallB (op1 lenV) (iCons (mCall 24 (aVal (mVar 3) (aVal (mVar 10) aNil))) iNil)) (cl := callN GT (n + 6)) (fun e => ∃ x, e = E x) out (nV (List.range m)) [] (E none) ⟨none, rfl⟩ (by
    rintro v hv e ⟨x, rfl⟩
    obtain ⟨a, ha, rfl⟩ := List.mem_map.mp hv
    have c := l_near_call (n + 5) (m := m) (ts := ts) h.len (a := a)
    refine ⟨E (some (.int (a : Int))), E (some (.int (a : Int))), rfl, ?_, _, rfl⟩
    refine callB_of (i_cons (call_v (a_cons (vat (v := fV m ts) rfl) (a_cons (vat (v := .int (a : Int)) rfl) a_nil)) c) i_nil) ?_
    show some (Val.int ((((nbs ts a).map fun (k : Nat) => Val.int (k : Int)).length : Nat) : Int)) = some (Val.int (((nbs ts ((a : Int).toNat)).length : Nat) : Int))
    rw [List.length_map, Int.toNat_natCast]) (by
    show 0 + (nV (List.range m)).length ≤ 100000
    rw [List.length_map, List.length_range]; omega)
  rw [hmap, List.nil_append] at h1
  have w : wRng1 (mBin itemV (mVar 3) (mLit (.int 0))) (callN GT (n + 6)) (E none) = .ok (nV (List.range m)) (E none) := by
    rw [wRng1_run (i := (m : Int)) (e1 := E none) q_it0 sm, Int.toNat_natCast, range_nV]
  have l1 : mLc [10] (wRng1 (mBin itemV (mVar 3) (mLit (.int 0)))) (bindName 10) (mLit (.bl true)) (mCallB (op1 lenV) (iCons (mCall 24 (aVal (mVar 3) (aVal (mVar 10) aNil))) iNil)) (callN GT (n + 6)) (E none) = .ok (.lst (nV (degs m ts))) (E none) := by
    unfold mLc
    rw [w, bind_ok, show wipeE (E none) [10] = E none from rfl, h1]
    rfl
  have hne : degs m ts ≠ [] := by
    intro e
    have : (degs m ts).length = 0 := by rw [e]; rfl
    unfold degs at this
    rw [List.length_map, List.length_range] at this
    omega
  have q1 : mCall 19 (aVal (mVar 8) aNil) (callN GT (n + 6)) (E none) = .ok (.int (maxN (degs m ts) : Nat)) (E none) := call_v (a_cons (vat (v := fieldV m ts) rfl) a_nil) c1
  have t : mBin neV (mCall 19 (aVal (mVar 8) aNil)) (mCallB (op1 maxV) (iCons (mLc [10] (wRng1 (mBin itemV (mVar 3) (mLit (.int 0)))) (bindName 10) (mLit (.bl true)) (mCallB (op1 lenV) (iCons (mCall 24 (aVal (mVar 3) (aVal (mVar 10) aNil))) iNil))) iNil)) (callN GT (n + 6)) (E none) = .ok (.bl false) (E none) := by
    rw [bin_of q1 (callB_of (c := .int (maxN (degs m ts) : Nat)) (i_cons l1 i_nil) (maxV_n hne)) (neV_int _ _)]
    rw [show decide (((maxN (degs m ts) : Nat) : Int) ≠ ((maxN (degs m ts) : Nat) : Int)) = false from decide_eq_false (fun h => h rfl)]
  show qT6 (callN GT (n + 6)) (E none) = .next (E none)
  unfold qT6
  rw [sIf_ap, t, asB_ok, toS_ok, if_neg Bool.false_ne_true]
  rfl
end
def qTurn : S := sSeq qT1 (sSeq qT2 (sSeq qT3 (sSeq qT4 (sSeq qT5 qT6))))
def QInv (s : Val) (e : Env) : Prop := ∃ (D : Val) (x2 x3 x4 x5 x6 x7 x8 x9 : Option Val), Dr D ∧ e = qE s D x2 x3 x4 x5 x6 x7 x8 x9 none
theorem qTurn_run (n : Nat) {s : Val} {e : Env} (h : QInv s e) : ∃ e', qTurn (callN GT (n + 6)) e = .next e' ∧ QInv s e' := by
  obtain ⟨D, x2, x3, x4, x5, x6, x7, x8, x9, hv, rfl⟩ := h
  obtain ⟨m, ts, D1, hf, d1, r1⟩ := qT1_run (s := s) (x2 := x2) (x3 := x3) (x4 := x4) (x5 := x5) (x6 := x6) (x7 := x7) (x8 := x8) (x9 := x9) (x10 := none) n hv
  obtain ⟨ts', D2, y4, y5, y6, y7, hf', d2, r2⟩ := qT2_run (s := s) (x2 := x2) (x4 := x4) (x5 := x5) (x6 := x6) (x7 := x7) (x8 := x8) (x9 := x9) (x10 := none) n d1 hf
  obtain ⟨b, r4, r5⟩ := qT45_run (s := s) (D := D2) (x2 := x2) (x4 := y4) (x5 := y5) (x6 := y6) (x7 := y7) (x9 := x9) (x10 := none) n hf'
  refine ⟨qE s D2 x2 (some (fV m ts')) y4 y5 y6 y7 (some (fieldV m ts')) (some (.bl b)) none, ?_, D2, _, _, _, _, _, _, _, _, d2, rfl⟩
  unfold qTurn
  rw [seq_next r1, seq_next r2, seq_next (qT3_run n hf'), seq_next r4, seq_next r5, qT6_run n hf']
theorem law_k02_true (n : Nat) (ns : List Int) : callN GT (n + 7) 27 [.scr ns] = .ok (.bl true) [] := by
  rw [call_of (d := d_law_k02) rfl]
  obtain ⟨D, hD, c⟩ := draws_call (n + 5) ns
  have q1 : sAsg (bindName 1) (mCall 7 (aVal (mVar 0) aNil)) (callN GT (n + 6)) [some (.scr ns), none, none, none, none, none, none, none, none, none, none] = .next (qE (.scr ns) D none none none none none none none none none) := by
    rw [sAsg_ap, call_v (a_cons (vat (v := .scr ns) rfl) a_nil) c]
    rfl
  have hk : ∃ e', sFor (wRng1 (mLit (.int 3))) (bindName 2) qTurn (callN GT (n + 6)) (qE (.scr ns) D none none none none none none none none none) = .next e' ∧ QInv (.scr ns) e' := by
    rw [sFor_ok (xs := rangeV 0 (3 : Int).toNat) (e1 := qE (.scr ns) D none none none none none none none none none) (wRng1_run (i := 3) (e1 := qE (.scr ns) D none none none none none none none none none) mLit_ap (small_nat (i := 3) (by omega)))]
    exact for_inv (b := bindName 2) (body := qTurn) (cl := callN GT (n + 6)) (fun _ e => QInv (.scr ns) e) (rangeV 0 (3 : Int).toNat) 0 _ ⟨D, _, _, _, _, _, _, _, _, hD, rfl⟩ (by
      rintro i x e hx ⟨D, x2, x3, x4, x5, x6, x7, x8, x9, hv, rfl⟩
      obtain ⟨e2, k1, k2⟩ := qTurn_run n (s := .scr ns) (e := qE (.scr ns) D (some x) x3 x4 x5 x6 x7 x8 x9 none) ⟨D, _, _, _, _, _, _, _, _, hv, rfl⟩
      exact ⟨_, e2, rfl, k1, k2⟩)
  obtain ⟨e', k1, D', x2, x3, x4, x5, x6, x7, x8, x9, hv, rfl⟩ := hk
  have q3 : d_law_k02.body (callN GT (n + 6)) [some (.scr ns), none, none, none, none, none, none, none, none, none, none] = .ret (.bl true) (qE (.scr ns) D' x2 x3 x4 x5 x6 x7 x8 x9 none) := by
    have hb : d_law_k02.body = sSeq (sAsg (bindName 1) (mCall 7 (aVal (mVar 0) aNil))) (sSeq (sFor (wRng1 (mLit (.int 3))) (bindName 2) qTurn) (sRet (mLit (.bl true)))) := rfl
    rw [hb, seq_next q1, seq_next k1]
    rfl
  exact run_ret rfl rfl q3 rfl
end CG
end
section
set_option Elab.async false
set_option linter.all false
set_option maxRecDepth 100000
set_option maxHeartbeats 8000000
set_option autoImplicit false
set_option pp.maxSteps 12
namespace T0
open PySem PySem.Spec L2 CG
theorem S_BadTies_init : FnScope ["self", "index"] ["self", "index"] (defScope s_BadTies_init) := ⟨rfl, rfl, rfl, by decide +kernel, rfl, by decide +kernel, by decide +kernel⟩
theorem S_is_from : FnScope ["value", "low", "high"] ["value", "low", "high"] (defScope s_is_from) := ⟨rfl, rfl, rfl, by decide +kernel, rfl, by decide +kernel, by decide +kernel⟩
theorem S_is_tie : FnScope ["senders", "value", "one"] ["senders", "value"] (defScope s_is_tie) := ⟨rfl, rfl, rfl, by decide +kernel, rfl, by decide +kernel, by decide +kernel⟩
theorem S_Field_init : FnScope ["self", "senders", "ties", "index", "tie", "one", "other", "sender"] ["self", "senders", "ties"] (defScope s_Field_init) := ⟨rfl, rfl, rfl, by decide +kernel, rfl, by decide +kernel, by decide +kernel⟩
theorem S_Field_senders : FnScope ["self"] ["self"] (defScope s_Field_senders) := ⟨rfl, rfl, rfl, by decide +kernel, rfl, by decide +kernel, by decide +kernel⟩
theorem S_Field_ties : FnScope ["self"] ["self"] (defScope s_Field_ties) := ⟨rfl, rfl, rfl, by decide +kernel, rfl, by decide +kernel, by decide +kernel⟩
theorem S_Field_eq : FnScope ["self", "other"] ["self", "other"] (defScope s_Field_eq) := ⟨rfl, rfl, rfl, by decide +kernel, rfl, by decide +kernel, by decide +kernel⟩
theorem S_neighbours_of : FnScope ["field", "sender"] ["field", "sender"] (defScope s_neighbours_of) := ⟨rfl, rfl, rfl, by decide +kernel, rfl, by decide +kernel, by decide +kernel⟩
theorem S_seconds_of : FnScope ["field", "sender", "near", "found", "one", "other"] ["field", "sender"] (defScope s_seconds_of) := ⟨rfl, rfl, rfl, by decide +kernel, rfl, by decide +kernel, by decide +kernel⟩
theorem S_seconds : FnScope ["field", "one", "other"] ["field"] (defScope s_seconds) := ⟨rfl, rfl, rfl, by decide +kernel, rfl, by decide +kernel, by decide +kernel⟩
theorem S_degree_of : FnScope ["field", "near"] ["field"] (defScope s_degree_of) := ⟨rfl, rfl, rfl, by decide +kernel, rfl, by decide +kernel, by decide +kernel⟩
theorem S_degree : FnScope ["field"] ["field"] (defScope s_degree) := ⟨rfl, rfl, rfl, by decide +kernel, rfl, by decide +kernel, by decide +kernel⟩
theorem S_reached_from : FnScope ["field", "sender", "found", "one", "other"] ["field", "sender"] (defScope s_reached_from) := ⟨rfl, rfl, rfl, by decide +kernel, rfl, by decide +kernel, by decide +kernel⟩
theorem S_is_a_tree : FnScope ["field"] ["field"] (defScope s_is_a_tree) := ⟨rfl, rfl, rfl, by decide +kernel, rfl, by decide +kernel, by decide +kernel⟩
theorem S_is_tree : FnScope ["field"] ["field"] (defScope s_is_tree) := ⟨rfl, rfl, rfl, by decide +kernel, rfl, by decide +kernel, by decide +kernel⟩
theorem S_l_draws : FnScope ["_law_script"] ["_law_script"] (defScope s_l_draws) := ⟨rfl, rfl, rfl, by decide +kernel, rfl, by decide +kernel, by decide +kernel⟩
theorem S_l_pick : FnScope ["_law_draws_here", "_law_many", "_law_cell", "_law_found"] ["_law_draws_here", "_law_many"] (defScope s_l_pick) := ⟨rfl, rfl, rfl, by decide +kernel, rfl, by decide +kernel, by decide +kernel⟩
theorem S_l_field : FnScope ["_law_draws_here", "_law_most", "_law_many", "_law_ties", "_law_thick", "_law_one", "_law_other"] ["_law_draws_here", "_law_most"] (defScope s_l_field) := ⟨rfl, rfl, rfl, by decide +kernel, rfl, by decide +kernel, by decide +kernel⟩
theorem S_l_tree : FnScope ["_law_draws_here", "_law_most", "_law_many", "_law_sort", "_law_names", "_law_ties", "_law_k", "_law_at", "_law_low", "_law_other"] ["_law_draws_here", "_law_most"] (defScope s_l_tree) := ⟨rfl, rfl, rfl, by decide +kernel, rfl, by decide +kernel, by decide +kernel⟩
theorem S_l_made : FnScope ["_law_f"] ["_law_f"] (defScope s_l_made) := ⟨rfl, rfl, rfl, by decide +kernel, rfl, by decide +kernel, by decide +kernel⟩
theorem S_l_near : FnScope ["_law_f", "_law_sender", "_law_found", "_law_one", "_law_other"] ["_law_f", "_law_sender"] (defScope s_l_near) := ⟨rfl, rfl, rfl, by decide +kernel, rfl, by decide +kernel, by decide +kernel⟩
theorem S_l_seconds : FnScope ["_law_f", "_law_near_here", "_law_found", "_law_one", "_law_other", "_law_sender", "_law_k"] ["_law_f"] (defScope s_l_seconds) := ⟨rfl, rfl, rfl, by decide +kernel, rfl, by decide +kernel, by decide +kernel⟩
theorem S_l_parents : FnScope ["_law_f", "_law_found", "_law_layer", "_law_later", "_law_sender", "_law_other"] ["_law_f"] (defScope s_l_parents) := ⟨rfl, rfl, rfl, by decide +kernel, rfl, by decide +kernel, by decide +kernel⟩
theorem S_law_k02 : FnScope ["_law_script", "_law_draws_here", "_law_turn", "_law_f", "_law_at", "_law_one", "_law_other", "_law_ties", "_law_field_here", "_law_due", "_law_sender"] ["_law_script"] (defScope s_law_k02) := ⟨rfl, rfl, rfl, by decide +kernel, rfl, by decide +kernel, by decide +kernel⟩
set_option maxRecDepth 100000 in
theorem law_true : ∀ ns : List Int, ns.length ≤ 63 → callN GT 30 27 [.scr ns] = .ok (.bl true) [] := fun ns _ => CG.law_k02_true 23 ns
set_option maxRecDepth 100000 in
theorem all_mk {l : PySem.W.OpenLaw} {w : World} {K : PySem.W.Frag} {h : Heap} {mg : Str → Option Value} {fa f_is_from f_is_tie f_neighbours_of f_seconds_of f_seconds f_degree_of f_degree f_reached_from f_is_a_tree f_is_tree f_l_draws f_l_pick f_l_field f_l_tree f_l_made f_l_near f_l_seconds f_l_parents f_law_k02 C_Field f_Field_init X_BadSenders X_BadTies f_BadTies_init : Addr} {fd_is_from fd_is_tie fd_neighbours_of fd_seconds_of fd_seconds fd_degree_of fd_degree fd_reached_from fd_is_a_tree fd_is_tree fd_l_draws fd_l_pick fd_l_field fd_l_tree fd_l_made fd_l_near fd_l_seconds fd_l_parents fd_law_k02 fd_Field_init fd_BadTies_init : FuncData} {t_MOST_SENDERS : Tok} {t_MOST_TIES : Tok} {nm_BadTies : Str} {q_BadTies : Str} {N_BadTies : Addr} {bs_BadTies : List Value} {bm_BadTies : List Value} {sn_BadTies : List Str} {sub_BadTies : List Value} {ab_BadTies : Bool} {col_BadTies : Option Bool} {dd_BadTies : Option Addr} {k0_BadTies : Option Value} {k1_BadTies : Option Value} {k2_BadTies : Option Value} {k3_BadTies : Option Value} {k5_BadTies : Option Value} (X : K.In h) (G : h.Ns mainGlobals mg) (hfa : mg "law" = some (.ref fa))
    (n_is_from : PySem.W.nsIn K mainGlobals "is_from" = some (some (.ref f_is_from)))
    (F_is_from : L2.Fun K "is_from" "is_from" s_is_from f_is_from fd_is_from)
    (n_is_tie : PySem.W.nsIn K mainGlobals "is_tie" = some (some (.ref f_is_tie)))
    (F_is_tie : L2.Fun K "is_tie" "is_tie" s_is_tie f_is_tie fd_is_tie)
    (n_neighbours_of : PySem.W.nsIn K mainGlobals "neighbours_of" = some (some (.ref f_neighbours_of)))
    (F_neighbours_of : L2.Fun K "neighbours_of" "neighbours_of" s_neighbours_of f_neighbours_of fd_neighbours_of)
    (n_seconds_of : PySem.W.nsIn K mainGlobals "seconds_of" = some (some (.ref f_seconds_of)))
    (F_seconds_of : L2.Fun K "seconds_of" "seconds_of" s_seconds_of f_seconds_of fd_seconds_of)
    (n_seconds : PySem.W.nsIn K mainGlobals "seconds" = some (some (.ref f_seconds)))
    (F_seconds : L2.Fun K "seconds" "seconds" s_seconds f_seconds fd_seconds)
    (n_degree_of : PySem.W.nsIn K mainGlobals "degree_of" = some (some (.ref f_degree_of)))
    (F_degree_of : L2.Fun K "degree_of" "degree_of" s_degree_of f_degree_of fd_degree_of)
    (n_degree : PySem.W.nsIn K mainGlobals "degree" = some (some (.ref f_degree)))
    (F_degree : L2.Fun K "degree" "degree" s_degree f_degree fd_degree)
    (n_reached_from : PySem.W.nsIn K mainGlobals "reached_from" = some (some (.ref f_reached_from)))
    (F_reached_from : L2.Fun K "reached_from" "reached_from" s_reached_from f_reached_from fd_reached_from)
    (n_is_a_tree : PySem.W.nsIn K mainGlobals "is_a_tree" = some (some (.ref f_is_a_tree)))
    (F_is_a_tree : L2.Fun K "is_a_tree" "is_a_tree" s_is_a_tree f_is_a_tree fd_is_a_tree)
    (n_is_tree : PySem.W.nsIn K mainGlobals "is_tree" = some (some (.ref f_is_tree)))
    (F_is_tree : L2.Fun K "is_tree" "is_tree" s_is_tree f_is_tree fd_is_tree)
    (n_l_draws : PySem.W.nsIn K mainGlobals "_law_draws" = some (some (.ref f_l_draws)))
    (F_l_draws : L2.Fun K "_law_draws" "_law_draws" s_l_draws f_l_draws fd_l_draws)
    (n_l_pick : PySem.W.nsIn K mainGlobals "_law_pick" = some (some (.ref f_l_pick)))
    (F_l_pick : L2.Fun K "_law_pick" "_law_pick" s_l_pick f_l_pick fd_l_pick)
    (n_l_field : PySem.W.nsIn K mainGlobals "_law_field" = some (some (.ref f_l_field)))
    (F_l_field : L2.Fun K "_law_field" "_law_field" s_l_field f_l_field fd_l_field)
    (n_l_tree : PySem.W.nsIn K mainGlobals "_law_tree" = some (some (.ref f_l_tree)))
    (F_l_tree : L2.Fun K "_law_tree" "_law_tree" s_l_tree f_l_tree fd_l_tree)
    (n_l_made : PySem.W.nsIn K mainGlobals "_law_made" = some (some (.ref f_l_made)))
    (F_l_made : L2.Fun K "_law_made" "_law_made" s_l_made f_l_made fd_l_made)
    (n_l_near : PySem.W.nsIn K mainGlobals "_law_near" = some (some (.ref f_l_near)))
    (F_l_near : L2.Fun K "_law_near" "_law_near" s_l_near f_l_near fd_l_near)
    (n_l_seconds : PySem.W.nsIn K mainGlobals "_law_seconds" = some (some (.ref f_l_seconds)))
    (F_l_seconds : L2.Fun K "_law_seconds" "_law_seconds" s_l_seconds f_l_seconds fd_l_seconds)
    (n_l_parents : PySem.W.nsIn K mainGlobals "_law_parents" = some (some (.ref f_l_parents)))
    (F_l_parents : L2.Fun K "_law_parents" "_law_parents" s_l_parents f_l_parents fd_l_parents)
    (n_law_k02 : PySem.W.nsIn K mainGlobals "law" = some (some (.ref f_law_k02)))
    (F_law_k02 : L2.Fun K "law" "law" s_law_k02 f_law_k02 fd_law_k02)
    (nC_Field : PySem.W.nsIn K mainGlobals "Field" = some (some (.ref C_Field)))
    (pg_Field : PySem.W.plainGet K C_Field Str.empty = true)
    (hd_Field : PySem.W.hasDictIn K C_Field = true)
    (po_Field : PySem.W.plainOver K C_Field = true)
    (sa_Field : PySem.W.findIn K (.ref C_Field) "__setattr__" = some (some (.builtin "object.__setattr__")))
    (mk_Field : PySem.W.makesIn K C_Field = true)
    (kc_Field : PySem.W.keepIn K (.ref C_Field) = true)
    (in_Field : PySem.W.findIn K (.ref C_Field) "__init__" = some (some (.ref f_Field_init)))
    (fn_Field : PySem.W.isFn K (.ref f_Field_init) = true)
    (F_Field_init : L2.Fun K "__init__" "Field.__init__" s_Field_init f_Field_init fd_Field_init)
    (g_MOST_SENDERS : PySem.W.nsIn K mainGlobals "MOST_SENDERS" = some (some (.int 40 t_MOST_SENDERS)))
    (g_MOST_TIES : PySem.W.nsIn K mainGlobals "MOST_TIES" = some (some (.int 60 t_MOST_TIES)))
    (na_Field_index : PySem.W.findIn K (.ref C_Field) "index" = some none)
    (na_Field_many : PySem.W.findIn K (.ref C_Field) "many" = some none)
    (na_Field_near : PySem.W.findIn K (.ref C_Field) "near" = some none)
    (na_Field_rows : PySem.W.findIn K (.ref C_Field) "rows" = some none)
    (ki_Field_NoneType : PySem.W.kitOne K (.type "NoneType") (.ref C_Field) = some false)
    (ki_Field_bool : PySem.W.kitOne K (.type "bool") (.ref C_Field) = some false)
    (ki_Field_int : PySem.W.kitOne K (.type "int") (.ref C_Field) = some false)
    (ki_Field_str : PySem.W.kitOne K (.type "str") (.ref C_Field) = some false)
    (ki_Field_tuple : PySem.W.kitOne K (.type "tuple") (.ref C_Field) = some false)
    (ki_Field_list : PySem.W.kitOne K (.type "list") (.ref C_Field) = some false)
    (ki_Field_dict : PySem.W.kitOne K (.type "dict") (.ref C_Field) = some false)
    (kc_Field_Field : PySem.W.kitOne K (.ref C_Field) (.ref C_Field) = some true)
    (cc_Field : PySem.W.findIn K (.ref C_Field) "__class__" = some (some (.builtin "object.__class__")))
    (mm_Field : PySem.W.mroIn K C_Field (.type "object") = some true)
    (csp : PySem.W.specialIn K (.builtin "object.__class__") "__get__" = some (some (.builtin "getset_descriptor.__get__")))
    (ctk : PySem.W.takesIn K (.builtin "object.__class__") = some true)
    (nX_BadSenders : PySem.W.nsIn K mainGlobals "BadSenders" = some (some (.ref X_BadSenders)))
    (nX_BadTies : PySem.W.nsIn K mainGlobals "BadTies" = some (some (.ref X_BadTies)))
    (xk_BadSenders : PySem.W.keepIn K (.ref X_BadSenders) = true)
    (xe_BadSenders : PySem.W.excIn K X_BadSenders [.type "ValueError", .type "Exception", .type "BaseException", .type "object"] "ValueError.__new__" = true)
    (xb_BadSenders : PySem.W.subIn K (.ref X_BadSenders) (.type "BaseException") = some true)
    (xt_BadSenders : PySem.W.typeIn K (.ref X_BadSenders) = some (.type "type"))
    (xl_BadTies : K.lookup X_BadTies = some (excClassObj nm_BadTies q_BadTies X_BadTies N_BadTies bs_BadTies bm_BadTies true sn_BadTies sub_BadTies ab_BadTies col_BadTies dd_BadTies k0_BadTies k1_BadTies k2_BadTies k3_BadTies k5_BadTies "ValueError.__new__"))
    (xr_BadTies : PySem.HandSPX.refsVE bm_BadTies = true)
    (xs_BadTies : PySem.W.findIn K (.ref X_BadTies) "__setattr__" = some (some (.builtin "object.__setattr__")))
    (xb_BadTies : PySem.W.subIn K (.ref X_BadTies) (.type "BaseException") = some true)
    (xt_BadTies : PySem.W.typeIn K (.ref X_BadTies) = some (.type "type"))
    (xk_BadTies : PySem.W.keepIn K (.ref X_BadTies) = true)
    (xi_BadTies : PySem.W.findIn K (.ref X_BadTies) "__init__" = some (some (.ref f_BadTies_init)))
    (xf_BadTies : PySem.W.typeIn K (.ref f_BadTies_init) = some (.type "function"))
    (F_BadTies_init : L2.Fun K "__init__" "BadTies.__init__" s_BadTies_init f_BadTies_init fd_BadTies_init)
    (xn_BadTies_index : PySem.W.findIn K (.ref X_BadTies) "index" = some none)
    (z_len : PySem.W.nsIn K mainGlobals "len" = some none)
    (z_abs : PySem.W.nsIn K mainGlobals "abs" = some none)
    (z_int : PySem.W.nsIn K mainGlobals "int" = some none)
    (z_str : PySem.W.nsIn K mainGlobals "str" = some none)
    (z_list : PySem.W.nsIn K mainGlobals "list" = some none)
    (z_tuple : PySem.W.nsIn K mainGlobals "tuple" = some none)
    (z_sorted : PySem.W.nsIn K mainGlobals "sorted" = some none)
    (z_set : PySem.W.nsIn K mainGlobals "set" = some none)
    (z_min : PySem.W.nsIn K mainGlobals "min" = some none)
    (z_max : PySem.W.nsIn K mainGlobals "max" = some none)
    (z_sum : PySem.W.nsIn K mainGlobals "sum" = some none)
    (z_all : PySem.W.nsIn K mainGlobals "all" = some none)
    (z_any : PySem.W.nsIn K mainGlobals "any" = some none)
    (z_range : PySem.W.nsIn K mainGlobals "range" = some none)
    (z_enumerate : PySem.W.nsIn K mainGlobals "enumerate" = some none)
    (z_zip : PySem.W.nsIn K mainGlobals "zip" = some none)
    (z_isinstance : PySem.W.nsIn K mainGlobals "isinstance" = some none)
    (z_bool : PySem.W.nsIn K mainGlobals "bool" = some none)
    (z_ValueError : PySem.W.nsIn K mainGlobals "ValueError" = some none)
    (lt : ∀ ns : List Int, ns.length ≤ 63 → callN GT 30 27 [.scr ns] = .ok (.bl true) []) : ∃ fd : FuncData, (∀ (s : Shared) (v : Value), BindsTo s fd ⟨[v], []⟩ [("_law_script", v)]) ∧ ∀ base : Heap, K.In base → base.Ns mainGlobals mg → FnOk l.prog w K mg base (L2.CX l.prog w) 64 fa fd ["_law_script"] (spLaw K) := by
  have e := hfa.symm.trans (PySem.W.mg_of X G n_law_k02)
  have e2 : f_law_k02 = fa := by cases e; rfl
  subst e2
  refine ⟨fd_law_k02, ?_, fun base _ _ => ?_⟩
  · obtain ⟨oc, od, kV, doc, pm, an, cdv, ct, osl, e1, l1, c1⟩ := F_law_k02.ex
    subst e1
    exact fun s v => .of_eq rfl
  have cl : ∀ C : Addr, True := fun _ => trivial
  have cls_Field : Cls K C_Field := ⟨pg_Field, hd_Field, po_Field, sa_Field⟩
  have b_is_from : Binds K fd_is_from ["value", "low", "high"] [] := F_is_from.binds fun _ _ _ _ _ _ us hl => match us, hl with | [_, _, _], _ => rfl
  have b_is_tie : Binds K fd_is_tie ["senders", "value"] [] := F_is_tie.binds fun _ _ _ _ _ _ us hl => match us, hl with | [_, _], _ => rfl
  have b_neighbours_of : Binds K fd_neighbours_of ["field", "sender"] [] := F_neighbours_of.binds fun _ _ _ _ _ _ us hl => match us, hl with | [_, _], _ => rfl
  have b_seconds_of : Binds K fd_seconds_of ["field", "sender"] [] := F_seconds_of.binds fun _ _ _ _ _ _ us hl => match us, hl with | [_, _], _ => rfl
  have b_seconds : Binds K fd_seconds ["field"] [] := F_seconds.binds fun _ _ _ _ _ _ us hl => match us, hl with | [_], _ => rfl
  have b_degree_of : Binds K fd_degree_of ["field"] [] := F_degree_of.binds fun _ _ _ _ _ _ us hl => match us, hl with | [_], _ => rfl
  have b_degree : Binds K fd_degree ["field"] [] := F_degree.binds fun _ _ _ _ _ _ us hl => match us, hl with | [_], _ => rfl
  have b_reached_from : Binds K fd_reached_from ["field", "sender"] [] := F_reached_from.binds fun _ _ _ _ _ _ us hl => match us, hl with | [_, _], _ => rfl
  have b_is_a_tree : Binds K fd_is_a_tree ["field"] [] := F_is_a_tree.binds fun _ _ _ _ _ _ us hl => match us, hl with | [_], _ => rfl
  have b_is_tree : Binds K fd_is_tree ["field"] [] := F_is_tree.binds fun _ _ _ _ _ _ us hl => match us, hl with | [_], _ => rfl
  have b_l_draws : Binds K fd_l_draws ["_law_script"] [] := F_l_draws.binds fun _ _ _ _ _ _ us hl => match us, hl with | [_], _ => rfl
  have b_l_pick : Binds K fd_l_pick ["_law_draws_here", "_law_many"] [] := F_l_pick.binds fun _ _ _ _ _ _ us hl => match us, hl with | [_, _], _ => rfl
  have b_l_field : Binds K fd_l_field ["_law_draws_here", "_law_most"] [] := F_l_field.binds fun _ _ _ _ _ _ us hl => match us, hl with | [_, _], _ => rfl
  have b_l_tree : Binds K fd_l_tree ["_law_draws_here", "_law_most"] [] := F_l_tree.binds fun _ _ _ _ _ _ us hl => match us, hl with | [_, _], _ => rfl
  have b_l_made : Binds K fd_l_made ["_law_f"] [] := F_l_made.binds fun _ _ _ _ _ _ us hl => match us, hl with | [_], _ => rfl
  have b_l_near : Binds K fd_l_near ["_law_f", "_law_sender"] [] := F_l_near.binds fun _ _ _ _ _ _ us hl => match us, hl with | [_, _], _ => rfl
  have b_l_seconds : Binds K fd_l_seconds ["_law_f"] [] := F_l_seconds.binds fun _ _ _ _ _ _ us hl => match us, hl with | [_], _ => rfl
  have b_l_parents : Binds K fd_l_parents ["_law_f"] [] := F_l_parents.binds fun _ _ _ _ _ _ us hl => match us, hl with | [_], _ => rfl
  have b_law_k02 : Binds K fd_law_k02 ["_law_script"] [] := F_law_k02.binds fun _ _ _ _ _ _ us hl => match us, hl with | [_], _ => rfl
  have b_Field_init : Binds K fd_Field_init ["self", "senders", "ties"] [] := F_Field_init.binds fun _ _ _ _ _ _ us hl => match us, hl with | [_, _, _], _ => rfl
  generalize hΓ : mkG l.prog w K mg base [("Field", C_Field)] [("BadSenders", X_BadSenders), ("BadTies", X_BadTies)] GT [(1, ⟨f_is_from, fd_is_from, ["value", "low", "high"]⟩), (2, ⟨f_is_tie, fd_is_tie, ["senders", "value"]⟩), (15, ⟨f_neighbours_of, fd_neighbours_of, ["field", "sender"]⟩), (16, ⟨f_seconds_of, fd_seconds_of, ["field", "sender"]⟩), (17, ⟨f_seconds, fd_seconds, ["field"]⟩), (18, ⟨f_degree_of, fd_degree_of, ["field"]⟩), (19, ⟨f_degree, fd_degree, ["field"]⟩), (20, ⟨f_reached_from, fd_reached_from, ["field", "sender"]⟩), (21, ⟨f_is_a_tree, fd_is_a_tree, ["field"]⟩), (22, ⟨f_is_tree, fd_is_tree, ["field"]⟩), (7, ⟨f_l_draws, fd_l_draws, ["_law_script"]⟩), (8, ⟨f_l_pick, fd_l_pick, ["_law_draws_here", "_law_many"]⟩), (9, ⟨f_l_field, fd_l_field, ["_law_draws_here", "_law_most"]⟩), (10, ⟨f_l_tree, fd_l_tree, ["_law_draws_here", "_law_most"]⟩), (23, ⟨f_l_made, fd_l_made, ["_law_f"]⟩), (24, ⟨f_l_near, fd_l_near, ["_law_f", "_law_sender"]⟩), (25, ⟨f_l_seconds, fd_l_seconds, ["_law_f"]⟩), (26, ⟨f_l_parents, fd_l_parents, ["_law_f"]⟩), (27, ⟨f_law_k02, fd_law_k02, ["_law_script"]⟩), (3, ⟨f_Field_init, fd_Field_init, ["self", "senders", "ties"]⟩)] = Γ
  have eG : Γ.G = GT := by rw [← hΓ]
  have eK : Γ.K = K := by rw [← hΓ]
  have em : Γ.mg = mg := by rw [← hΓ]
  have eC : Γ.C = lk [("Field", C_Field)] := by rw [← hΓ]
  have eX : Γ.X = lk [("BadSenders", X_BadSenders), ("BadTies", X_BadTies)] := by rw [← hΓ]
  have eL : Γ.loc = lkN [(1, ⟨f_is_from, fd_is_from, ["value", "low", "high"]⟩), (2, ⟨f_is_tie, fd_is_tie, ["senders", "value"]⟩), (15, ⟨f_neighbours_of, fd_neighbours_of, ["field", "sender"]⟩), (16, ⟨f_seconds_of, fd_seconds_of, ["field", "sender"]⟩), (17, ⟨f_seconds, fd_seconds, ["field"]⟩), (18, ⟨f_degree_of, fd_degree_of, ["field"]⟩), (19, ⟨f_degree, fd_degree, ["field"]⟩), (20, ⟨f_reached_from, fd_reached_from, ["field", "sender"]⟩), (21, ⟨f_is_a_tree, fd_is_a_tree, ["field"]⟩), (22, ⟨f_is_tree, fd_is_tree, ["field"]⟩), (7, ⟨f_l_draws, fd_l_draws, ["_law_script"]⟩), (8, ⟨f_l_pick, fd_l_pick, ["_law_draws_here", "_law_many"]⟩), (9, ⟨f_l_field, fd_l_field, ["_law_draws_here", "_law_most"]⟩), (10, ⟨f_l_tree, fd_l_tree, ["_law_draws_here", "_law_most"]⟩), (23, ⟨f_l_made, fd_l_made, ["_law_f"]⟩), (24, ⟨f_l_near, fd_l_near, ["_law_f", "_law_sender"]⟩), (25, ⟨f_l_seconds, fd_l_seconds, ["_law_f"]⟩), (26, ⟨f_l_parents, fd_l_parents, ["_law_f"]⟩), (27, ⟨f_law_k02, fd_law_k02, ["_law_script"]⟩), (3, ⟨f_Field_init, fd_Field_init, ["self", "senders", "ties"]⟩)] := by rw [← hΓ]
  have eP : Γ.P = l.prog := by rw [← hΓ]
  have ew : Γ.w = w := by rw [← hΓ]
  have eb : Γ.base = base := by rw [← hΓ]
  clear hΓ
  subst eK
  subst em
  subst eb
  subst ew
  rw [← eP]
  have nb : ∀ x ∈ blNames, Γ.mg x = none := bl_none ⟨PySem.W.mg_none_of X G z_len, PySem.W.mg_none_of X G z_abs, PySem.W.mg_none_of X G z_int, PySem.W.mg_none_of X G z_str, PySem.W.mg_none_of X G z_list, PySem.W.mg_none_of X G z_tuple, PySem.W.mg_none_of X G z_sorted, PySem.W.mg_none_of X G z_set, PySem.W.mg_none_of X G z_min, PySem.W.mg_none_of X G z_max, PySem.W.mg_none_of X G z_sum, PySem.W.mg_none_of X G z_all, PySem.W.mg_none_of X G z_any, PySem.W.mg_none_of X G z_range, PySem.W.mg_none_of X G z_enumerate, PySem.W.mg_none_of X G z_zip, PySem.W.mg_none_of X G z_isinstance, PySem.W.mg_none_of X G z_bool, PySem.W.mg_none_of X G z_ValueError, trivial⟩
  have T : Txt Γ := {
    a_is_from := at_of (by rw [eG]; rfl) (by rw [eL]; rfl) (PySem.W.mg_of X G n_is_from) F_is_from b_is_from,
    a_is_tie := at_of (by rw [eG]; rfl) (by rw [eL]; rfl) (PySem.W.mg_of X G n_is_tie) F_is_tie b_is_tie,
    a_neighbours_of := at_of (by rw [eG]; rfl) (by rw [eL]; rfl) (PySem.W.mg_of X G n_neighbours_of) F_neighbours_of b_neighbours_of,
    a_seconds_of := at_of (by rw [eG]; rfl) (by rw [eL]; rfl) (PySem.W.mg_of X G n_seconds_of) F_seconds_of b_seconds_of,
    a_degree_of := at_of (by rw [eG]; rfl) (by rw [eL]; rfl) (PySem.W.mg_of X G n_degree_of) F_degree_of b_degree_of,
    a_reached_from := at_of (by rw [eG]; rfl) (by rw [eL]; rfl) (PySem.W.mg_of X G n_reached_from) F_reached_from b_reached_from,
    a_is_a_tree := at_of (by rw [eG]; rfl) (by rw [eL]; rfl) (PySem.W.mg_of X G n_is_a_tree) F_is_a_tree b_is_a_tree,
    a_law_pick := at_of (by rw [eG]; rfl) (by rw [eL]; rfl) (PySem.W.mg_of X G n_l_pick) F_l_pick b_l_pick,
    a_law_near := at_of (by rw [eG]; rfl) (by rw [eL]; rfl) (PySem.W.mg_of X G n_l_near) F_l_near b_l_near,
    a_law_tree := at_of (by rw [eG]; rfl) (by rw [eL]; rfl) (PySem.W.mg_of X G n_l_tree) F_l_tree b_l_tree,
    a_law_made := at_of (by rw [eG]; rfl) (by rw [eL]; rfl) (PySem.W.mg_of X G n_l_made) F_l_made b_l_made,
    a_is_tree := at_of (by rw [eG]; rfl) (by rw [eL]; rfl) (PySem.W.mg_of X G n_is_tree) F_is_tree b_is_tree,
    a_law_parents := at_of (by rw [eG]; rfl) (by rw [eL]; rfl) (PySem.W.mg_of X G n_l_parents) F_l_parents b_l_parents,
    a_seconds := at_of (by rw [eG]; rfl) (by rw [eL]; rfl) (PySem.W.mg_of X G n_seconds) F_seconds b_seconds,
    a_law_seconds := at_of (by rw [eG]; rfl) (by rw [eL]; rfl) (PySem.W.mg_of X G n_l_seconds) F_l_seconds b_l_seconds,
    a_degree := at_of (by rw [eG]; rfl) (by rw [eL]; rfl) (PySem.W.mg_of X G n_degree) F_degree b_degree,
    a_law_draws := at_of (by rw [eG]; rfl) (by rw [eL]; rfl) (PySem.W.mg_of X G n_l_draws) F_l_draws b_l_draws,
    a_law_field := at_of (by rw [eG]; rfl) (by rw [eL]; rfl) (PySem.W.mg_of X G n_l_field) F_l_field b_l_field,
    g_MOST_SENDERS := ⟨_, .int 40, PySem.W.mg_of X G g_MOST_SENDERS, ⟨_, rfl⟩, fun _ => .int _⟩,
    g_MOST_TIES := ⟨_, .int 60, PySem.W.mg_of X G g_MOST_TIES, ⟨_, rfl⟩, fun _ => .int _⟩,
    fld_index := fld_of eC ⟨⟨cls_Field, na_Field_index⟩, trivial⟩,
    fld_many := fld_of eC ⟨⟨cls_Field, na_Field_many⟩, trivial⟩,
    fld_near := fld_of eC ⟨⟨cls_Field, na_Field_near⟩, trivial⟩,
    fld_rows := fld_of eC ⟨⟨cls_Field, na_Field_rows⟩, trivial⟩,
    new_Field := ⟨⟨f_Field_init, fd_Field_init, _⟩, ⟨by rw [eG]; rfl, by rw [eL]; rfl, rfl, ⟨2, rfl⟩, ⟨C_Field, PySem.W.mg_of X G nC_Field, by rw [eC]; rfl, ⟨mk_Field, in_Field, fn_Field, kc_Field⟩⟩, b_Field_init⟩⟩,
    isi_Field := ⟨⟨C_Field, PySem.W.mg_of X G nC_Field, fun a ha => by simp only [List.mem_cons, List.not_mem_nil, or_false] at ha; rcases ha with rfl | rfl | rfl | rfl | rfl | rfl | rfl <;> assumption, cls_all eC ⟨⟨cls_Field, cc_Field, csp, ctk, mm_Field, kc_Field_Field⟩, trivial⟩⟩⟩,
    exc_BadSenders := ⟨⟨X_BadSenders, by rw [eX]; rfl, PySem.W.mg_of X G nX_BadSenders, xk_BadSenders, xe_BadSenders, xb_BadSenders, xt_BadSenders⟩⟩,
    exc_BadTies := ⟨⟨X_BadTies, f_BadTies_init, fd_BadTies_init, _, by rw [eX]; rfl, PySem.W.mg_of X G nX_BadTies, ⟨⟨_, _, _, _, _, _, _, _, _, _, _, _, _, _, _, xl_BadTies, xr_BadTies⟩, xs_BadTies, xb_BadTies, xt_BadTies, xk_BadTies⟩, xi_BadTies, xf_BadTies, ok_oex1 F_BadTies_init S_BadTies_init rfl ⟨⟨_, _, _, _, _, _, _, _, _, _, _, _, _, _, _, xl_BadTies, xr_BadTies⟩, xs_BadTies, xb_BadTies, xt_BadTies, xk_BadTies⟩ xn_BadTies_index rfl rfl, F_BadTies_init.binds fun _ _ _ _ _ _ us hl => match us, hl with | [_, _], _ => rfl⟩⟩ }
  have ok : ∀ n, FnsOk Γ n := fns_ok eL (fun n ih => ⟨good_of (sc := sc_is_from) (d := d_is_from) F_is_from S_is_from rfl (by rw [eG]; rfl) rfl rfl rfl rfl (v_is_from T) nb ih, good_of (sc := sc_is_tie) (d := d_is_tie) F_is_tie S_is_tie rfl (by rw [eG]; rfl) rfl rfl rfl rfl (v_is_tie T) nb ih, good_of (sc := sc_neighbours_of) (d := d_neighbours_of) F_neighbours_of S_neighbours_of rfl (by rw [eG]; rfl) rfl rfl rfl rfl (v_neighbours_of T) nb ih, good_of (sc := sc_seconds_of) (d := d_seconds_of) F_seconds_of S_seconds_of rfl (by rw [eG]; rfl) rfl rfl rfl rfl (v_seconds_of T) nb ih, good_of (sc := sc_seconds) (d := d_seconds) F_seconds S_seconds rfl (by rw [eG]; rfl) rfl rfl rfl rfl (v_seconds T) nb ih, good_of (sc := sc_degree_of) (d := d_degree_of) F_degree_of S_degree_of rfl (by rw [eG]; rfl) rfl rfl rfl rfl (v_degree_of T) nb ih, good_of (sc := sc_degree) (d := d_degree) F_degree S_degree rfl (by rw [eG]; rfl) rfl rfl rfl rfl (v_degree T) nb ih, good_of (sc := sc_reached_from) (d := d_reached_from) F_reached_from S_reached_from rfl (by rw [eG]; rfl) rfl rfl rfl rfl (v_reached_from T) nb ih, good_of (sc := sc_is_a_tree) (d := d_is_a_tree) F_is_a_tree S_is_a_tree rfl (by rw [eG]; rfl) rfl rfl rfl rfl (v_is_a_tree T) nb ih, good_of (sc := sc_is_tree) (d := d_is_tree) F_is_tree S_is_tree rfl (by rw [eG]; rfl) rfl rfl rfl rfl (v_is_tree T) nb ih, good_of (sc := sc_l_draws) (d := d_l_draws) F_l_draws S_l_draws rfl (by rw [eG]; rfl) rfl rfl rfl rfl (v_l_draws T) nb ih, good_of (sc := sc_l_pick) (d := d_l_pick) F_l_pick S_l_pick rfl (by rw [eG]; rfl) rfl rfl rfl rfl (v_l_pick T) nb ih, good_of (sc := sc_l_field) (d := d_l_field) F_l_field S_l_field rfl (by rw [eG]; rfl) rfl rfl rfl rfl (v_l_field T) nb ih, good_of (sc := sc_l_tree) (d := d_l_tree) F_l_tree S_l_tree rfl (by rw [eG]; rfl) rfl rfl rfl rfl (v_l_tree T) nb ih, good_of (sc := sc_l_made) (d := d_l_made) F_l_made S_l_made rfl (by rw [eG]; rfl) rfl rfl rfl rfl (v_l_made T) nb ih, good_of (sc := sc_l_near) (d := d_l_near) F_l_near S_l_near rfl (by rw [eG]; rfl) rfl rfl rfl rfl (v_l_near T) nb ih, good_of (sc := sc_l_seconds) (d := d_l_seconds) F_l_seconds S_l_seconds rfl (by rw [eG]; rfl) rfl rfl rfl rfl (v_l_seconds T) nb ih, good_of (sc := sc_l_parents) (d := d_l_parents) F_l_parents S_l_parents rfl (by rw [eG]; rfl) rfl rfl rfl rfl (v_l_parents T) nb ih, good_of (sc := sc_law_k02) (d := d_law_k02) F_law_k02 S_law_k02 rfl (by rw [eG]; rfl) rfl rfl rfl rfl (v_law_k02 T) nb ih, good_of (sc := sc_Field_init) (d := d_Field_init) F_Field_init S_Field_init rfl (by rw [eG]; rfl) rfl rfl rfl rfl (v_Field_init T) nb ih, trivial⟩) ⟨len_of (d0 := d_is_from) (by rw [eG]; rfl) rfl, len_of (d0 := d_is_tie) (by rw [eG]; rfl) rfl, len_of (d0 := d_neighbours_of) (by rw [eG]; rfl) rfl, len_of (d0 := d_seconds_of) (by rw [eG]; rfl) rfl, len_of (d0 := d_seconds) (by rw [eG]; rfl) rfl, len_of (d0 := d_degree_of) (by rw [eG]; rfl) rfl, len_of (d0 := d_degree) (by rw [eG]; rfl) rfl, len_of (d0 := d_reached_from) (by rw [eG]; rfl) rfl, len_of (d0 := d_is_a_tree) (by rw [eG]; rfl) rfl, len_of (d0 := d_is_tree) (by rw [eG]; rfl) rfl, len_of (d0 := d_l_draws) (by rw [eG]; rfl) rfl, len_of (d0 := d_l_pick) (by rw [eG]; rfl) rfl, len_of (d0 := d_l_field) (by rw [eG]; rfl) rfl, len_of (d0 := d_l_tree) (by rw [eG]; rfl) rfl, len_of (d0 := d_l_made) (by rw [eG]; rfl) rfl, len_of (d0 := d_l_near) (by rw [eG]; rfl) rfl, len_of (d0 := d_l_seconds) (by rw [eG]; rfl) rfl, len_of (d0 := d_l_parents) (by rw [eG]; rfl) rfl, len_of (d0 := d_law_k02) (by rw [eG]; rfl) rfl, len_of (d0 := d_Field_init) (by rw [eG]; rfl) rfl, trivial⟩
  exact law_fn (n := 30) (f := 27) (d := d_law_k02) (a := ⟨f_law_k02, fd_law_k02, ["_law_script"]⟩) (by rw [eG]; rfl) rfl rfl (by rw [eL]; rfl) (ok 30) (by rw [eG]; exact lt)
end T0
open PySem PySem.W PyProof.Rows in
set_option maxRecDepth 100000 in
set_option maxHeartbeats 0 in
theorem PySem.Challenge.cw_channelgaps_k02_shapes_of_fields_holds : PySem.Challenge.rw_channelgaps_k02_shapes_of_fields.Holds := by
  w_on; o_law; k_head; (case hw => w_witness2)
  k_fill
  refine L2.walk_of (l := PySem.Challenge.rw_channelgaps_k02_shapes_of_fields) (n := 63) (k := 64) (x := "_law_script") (CX := fun w => L2.CX PySem.Challenge.rw_channelgaps_k02_shapes_of_fields.prog w) (sp := fun w => CG.spLaw _) rfl (by decide) rfl ⟨rfl, by decide, by decide⟩ (fun w h Y => PySem.W.kIn_of Y) ?F (fun _ _ a ns hl _ hS => ⟨a, ns, rfl, hS, hl, fun _ => rfl⟩) (fun w => CG.noCX)
  case F =>
    intro w mg fa h KX G hmg
    refine' T0.all_mk KX G hmg ?n_is_from (L2.fun_mk (st := T0.s_is_from) ?l_is_from ?c_is_from ?k_is_from) ?n_is_tie (L2.fun_mk (st := T0.s_is_tie) ?l_is_tie ?c_is_tie ?k_is_tie) ?n_neighbours_of (L2.fun_mk (st := T0.s_neighbours_of) ?l_neighbours_of ?c_neighbours_of ?k_neighbours_of) ?n_seconds_of (L2.fun_mk (st := T0.s_seconds_of) ?l_seconds_of ?c_seconds_of ?k_seconds_of) ?n_seconds (L2.fun_mk (st := T0.s_seconds) ?l_seconds ?c_seconds ?k_seconds) ?n_degree_of (L2.fun_mk (st := T0.s_degree_of) ?l_degree_of ?c_degree_of ?k_degree_of) ?n_degree (L2.fun_mk (st := T0.s_degree) ?l_degree ?c_degree ?k_degree) ?n_reached_from (L2.fun_mk (st := T0.s_reached_from) ?l_reached_from ?c_reached_from ?k_reached_from) ?n_is_a_tree (L2.fun_mk (st := T0.s_is_a_tree) ?l_is_a_tree ?c_is_a_tree ?k_is_a_tree) ?n_is_tree (L2.fun_mk (st := T0.s_is_tree) ?l_is_tree ?c_is_tree ?k_is_tree) ?n_l_draws (L2.fun_mk (st := T0.s_l_draws) ?l_l_draws ?c_l_draws ?k_l_draws) ?n_l_pick (L2.fun_mk (st := T0.s_l_pick) ?l_l_pick ?c_l_pick ?k_l_pick) ?n_l_field (L2.fun_mk (st := T0.s_l_field) ?l_l_field ?c_l_field ?k_l_field) ?n_l_tree (L2.fun_mk (st := T0.s_l_tree) ?l_l_tree ?c_l_tree ?k_l_tree) ?n_l_made (L2.fun_mk (st := T0.s_l_made) ?l_l_made ?c_l_made ?k_l_made) ?n_l_near (L2.fun_mk (st := T0.s_l_near) ?l_l_near ?c_l_near ?k_l_near) ?n_l_seconds (L2.fun_mk (st := T0.s_l_seconds) ?l_l_seconds ?c_l_seconds ?k_l_seconds) ?n_l_parents (L2.fun_mk (st := T0.s_l_parents) ?l_l_parents ?c_l_parents ?k_l_parents) ?n_law_k02 (L2.fun_mk (st := T0.s_law_k02) ?l_law_k02 ?c_law_k02 ?k_law_k02) ?nC_Field ?pg_Field ?hd_Field ?po_Field ?sa_Field ?mk_Field ?kc_Field ?in_Field ?fn_Field (L2.fun_mk (st := T0.s_Field_init) ?l_Field_init ?c_Field_init ?k_Field_init) ?g_MOST_SENDERS ?g_MOST_TIES ?na_Field_index ?na_Field_many ?na_Field_near ?na_Field_rows (CG.kit_ref ?i_ki_Field_NoneType ?t_ki_Field_NoneType ?s_ki_Field_NoneType ?h_ki_Field_NoneType) (CG.kit_ref ?i_ki_Field_bool ?t_ki_Field_bool ?s_ki_Field_bool ?h_ki_Field_bool) (CG.kit_ref ?i_ki_Field_int ?t_ki_Field_int ?s_ki_Field_int ?h_ki_Field_int) (CG.kit_ref ?i_ki_Field_str ?t_ki_Field_str ?s_ki_Field_str ?h_ki_Field_str) (CG.kit_ref ?i_ki_Field_tuple ?t_ki_Field_tuple ?s_ki_Field_tuple ?h_ki_Field_tuple) (CG.kit_ref ?i_ki_Field_list ?t_ki_Field_list ?s_ki_Field_list ?h_ki_Field_list) (CG.kit_ref ?i_ki_Field_dict ?t_ki_Field_dict ?s_ki_Field_dict ?h_ki_Field_dict) (CG.kit_ref ?i_kc_Field_Field ?t_kc_Field_Field ?s_kc_Field_Field ?h_kc_Field_Field) ?cc_Field ?mm_Field ?csp ?ctk ?nX_BadSenders ?nX_BadTies ?xk_BadSenders ?xe_BadSenders ?xb_BadSenders ?xt_BadSenders ?xl_BadTies ?xr_BadTies ?xs_BadTies ?xb_BadTies ?xt_BadTies ?xk_BadTies ?xi_BadTies ?xf_BadTies (L2.fun_mk (st := T0.s_BadTies_init) ?l_BadTies_init ?c_BadTies_init ?k_BadTies_init) ?xn_BadTies_index ?z_len ?z_abs ?z_int ?z_str ?z_list ?z_tuple ?z_sorted ?z_set ?z_min ?z_max ?z_sum ?z_all ?z_any ?z_range ?z_enumerate ?z_zip ?z_isinstance ?z_bool ?z_ValueError T0.law_true
    (case n_is_from => k_is)
    (case l_is_from => k_is)
    (case c_is_from => k_is)
    (case k_is_from => k_is)
    (case n_is_tie => k_is)
    (case l_is_tie => k_is)
    (case c_is_tie => k_is)
    (case k_is_tie => k_is)
    (case n_neighbours_of => k_is)
    (case l_neighbours_of => k_is)
    (case c_neighbours_of => k_is)
    (case k_neighbours_of => k_is)
    (case n_seconds_of => k_is)
    (case l_seconds_of => k_is)
    (case c_seconds_of => k_is)
    (case k_seconds_of => k_is)
    (case n_seconds => k_is)
    (case l_seconds => k_is)
    (case c_seconds => k_is)
    (case k_seconds => k_is)
    (case n_degree_of => k_is)
    (case l_degree_of => k_is)
    (case c_degree_of => k_is)
    (case k_degree_of => k_is)
    (case n_degree => k_is)
    (case l_degree => k_is)
    (case c_degree => k_is)
    (case k_degree => k_is)
    (case n_reached_from => k_is)
    (case l_reached_from => k_is)
    (case c_reached_from => k_is)
    (case k_reached_from => k_is)
    (case n_is_a_tree => k_is)
    (case l_is_a_tree => k_is)
    (case c_is_a_tree => k_is)
    (case k_is_a_tree => k_is)
    (case n_is_tree => k_is)
    (case l_is_tree => k_is)
    (case c_is_tree => k_is)
    (case k_is_tree => k_is)
    (case n_l_draws => k_is)
    (case l_l_draws => k_is)
    (case c_l_draws => k_is)
    (case k_l_draws => k_is)
    (case n_l_pick => k_is)
    (case l_l_pick => k_is)
    (case c_l_pick => k_is)
    (case k_l_pick => k_is)
    (case n_l_field => k_is)
    (case l_l_field => k_is)
    (case c_l_field => k_is)
    (case k_l_field => k_is)
    (case n_l_tree => k_is)
    (case l_l_tree => k_is)
    (case c_l_tree => k_is)
    (case k_l_tree => k_is)
    (case n_l_made => k_is)
    (case l_l_made => k_is)
    (case c_l_made => k_is)
    (case k_l_made => k_is)
    (case n_l_near => k_is)
    (case l_l_near => k_is)
    (case c_l_near => k_is)
    (case k_l_near => k_is)
    (case n_l_seconds => k_is)
    (case l_l_seconds => k_is)
    (case c_l_seconds => k_is)
    (case k_l_seconds => k_is)
    (case n_l_parents => k_is)
    (case l_l_parents => k_is)
    (case c_l_parents => k_is)
    (case k_l_parents => k_is)
    (case n_law_k02 => k_is)
    (case l_law_k02 => k_is)
    (case c_law_k02 => k_is)
    (case k_law_k02 => k_is)
    (case nC_Field => k_is)
    (case pg_Field => k_is)
    (case hd_Field => k_is)
    (case po_Field => k_is)
    (case sa_Field => k_is)
    (case mk_Field => k_is)
    (case kc_Field => k_is)
    (case in_Field => k_is)
    (case fn_Field => k_is)
    (case l_Field_init => k_is)
    (case c_Field_init => k_is)
    (case k_Field_init => k_is)
    (case g_MOST_SENDERS => k_is)
    (case g_MOST_TIES => k_is)
    (case na_Field_index => k_is)
    (case na_Field_many => k_is)
    (case na_Field_near => k_is)
    (case na_Field_rows => k_is)
    (case i_ki_Field_NoneType => k_is)
    (case t_ki_Field_NoneType => k_is)
    (case s_ki_Field_NoneType => first | rfl | k_is)
    (case h_ki_Field_NoneType => first | exact .inl rfl | exact .inr rfl | exact .inr (by decide))
    (case i_ki_Field_bool => k_is)
    (case t_ki_Field_bool => k_is)
    (case s_ki_Field_bool => first | rfl | k_is)
    (case h_ki_Field_bool => first | exact .inl rfl | exact .inr rfl | exact .inr (by decide))
    (case i_ki_Field_int => k_is)
    (case t_ki_Field_int => k_is)
    (case s_ki_Field_int => first | rfl | k_is)
    (case h_ki_Field_int => first | exact .inl rfl | exact .inr rfl | exact .inr (by decide))
    (case i_ki_Field_str => k_is)
    (case t_ki_Field_str => k_is)
    (case s_ki_Field_str => first | rfl | k_is)
    (case h_ki_Field_str => first | exact .inl rfl | exact .inr rfl | exact .inr (by decide))
    (case i_ki_Field_tuple => k_is)
    (case t_ki_Field_tuple => k_is)
    (case s_ki_Field_tuple => first | rfl | k_is)
    (case h_ki_Field_tuple => first | exact .inl rfl | exact .inr rfl | exact .inr (by decide))
    (case i_ki_Field_list => k_is)
    (case t_ki_Field_list => k_is)
    (case s_ki_Field_list => first | rfl | k_is)
    (case h_ki_Field_list => first | exact .inl rfl | exact .inr rfl | exact .inr (by decide))
    (case i_ki_Field_dict => k_is)
    (case t_ki_Field_dict => k_is)
    (case s_ki_Field_dict => first | rfl | k_is)
    (case h_ki_Field_dict => first | exact .inl rfl | exact .inr rfl | exact .inr (by decide))
    (case i_kc_Field_Field => k_is)
    (case t_kc_Field_Field => k_is)
    (case s_kc_Field_Field => first | rfl | k_is)
    (case h_kc_Field_Field => first | exact .inl rfl | exact .inr rfl | exact .inr (by decide))
    (case cc_Field => k_is)
    (case mm_Field => k_is)
    (case csp => k_is)
    (case ctk => k_is)
    (case nX_BadSenders => k_is)
    (case nX_BadTies => k_is)
    (case xk_BadSenders => k_is)
    (case xe_BadSenders => k_exc)
    (case xb_BadSenders => k_is)
    (case xt_BadSenders => k_is)
    (case xl_BadTies => k_is)
    (case xr_BadTies => decide +kernel)
    (case xs_BadTies => k_is)
    (case xb_BadTies => k_is)
    (case xt_BadTies => k_is)
    (case xk_BadTies => k_is)
    (case xi_BadTies => k_is)
    (case xf_BadTies => k_is)
    (case l_BadTies_init => k_is)
    (case c_BadTies_init => k_is)
    (case k_BadTies_init => k_is)
    (case xn_BadTies_index => k_is)
    (case z_len => k_is)
    (case z_abs => k_is)
    (case z_int => k_is)
    (case z_str => k_is)
    (case z_list => k_is)
    (case z_tuple => k_is)
    (case z_sorted => k_is)
    (case z_set => k_is)
    (case z_min => k_is)
    (case z_max => k_is)
    (case z_sum => k_is)
    (case z_all => k_is)
    (case z_any => k_is)
    (case z_range => k_is)
    (case z_enumerate => k_is)
    (case z_zip => k_is)
    (case z_isinstance => k_is)
    (case z_bool => k_is)
    (case z_ValueError => k_is)
end
