import PyProof.Rows.All
import PyProof.AttrMiss
import PyProof.ForAny
import PyProof.CollectWalk
import PyProof.CompFree
import PyProof.ListOps
import PyProof.DictList
import PyProof.DictRoads
import PyProof.EqAt
import PyProof.EqKinds
import PyProof.NeKinds
import PyProof.ExcArgsOwn
import PyProof.ExcBaseAll.Exception
import PyProof.ExcStrAll.Exception
import PyProof.ExcStrCall
import PyProof.FactsAll.set_1
import PyProof.RangeIter
import PyProof.Rows.Many
import PyProof.Rows.CatchOwn
import PyProof.Rows.Top
import PyProof.TupleOps
import PyProof.SliceMore
import PyProof.Rows.SetFrom
import OpenK.KCall
import KE.KDictOf
import KE.KEqDict
import OpenK.KOwn
import KE.KItemsList
import KE.KRevSl
import Wide.FinOn
import OpenK.AllK
import Wide.All
import PySem.Challenge.RW_sx_vaugur_7
set_option Elab.async false
set_option maxRecDepth 100000
set_option linter.all false
set_option bootstrap.genMatcherCode false
set_option genSizeOf false
set_option genInjectivity false
set_option backward.match.sparseCases false
namespace Mine
open PySem
theorem cps {P:Prop} (h:∀ G:Prop,(P → G) → G):P:=h P fun x=>x
inductive PV where
  | none
  | bool (b:Bool)
  | int (i:Int)
  | str (x:Str)
  | list (ds:List PV)
  | tup (ds:List PV)
  | dict (ks:List Str) (ds:List PV)
  | rng (a b c:Int)
noncomputable def lim:Nat:=1000000
noncomputable def PV.atom:PV → Bool
  | .none | .bool _ | .int _ | .str _=>true
  | _=>false
noncomputable def look {α:Type} (ks:List Str) (ds:List α) (k:Str):Option α:=match ks,ds with
  | x :: ks,d :: ds=>if x = k then some d else look ks ds k
  | _,_=>Option.none
theorem look_cons {α:Type} (x:Str) (ks:List Str) (d:α) (ds:List α) (k:Str):look (x :: ks) (d :: ds) k = if x = k then some d else look ks ds k:=rfl
theorem look_nil {α:Type} (ds:List α) (k:Str):look [] ds k = none:=rfl
noncomputable def put {α:Type} (ks:List Str) (ds:List α) (k:Str) (d:α):List Str × List α :=
  if k ∈ ks then (ks,(ks.zip ds).map fun p=>if p.1 = k then d else p.2) else (ks ++ [k],ds ++ [d])
noncomputable def val {α:Type} {p:α → Prop} (o:Option {x:α // p x}):Option α:=o.map (·.1)
theorem val_of {α:Type} {p:α → Prop} {o:Option {x:α // p x}} {x:α} (h:val o = some x):p x:=by
  cases o with
  | none=>cases h
  | some y=>cases h; exact y.2
noncomputable def dL (d:PV):Option (List PV):=val (p:=fun y=>d = .list y) (match d with | .list y=>some ⟨y,rfl⟩ | _=>Option.none)
noncomputable def dT (d:PV):Option (List PV):=val (p:=fun y=>d = .tup y) (match d with | .tup y=>some ⟨y,rfl⟩ | _=>Option.none)
noncomputable def dB (d:PV):Option Bool:=val (p:=fun y=>d = .bool y) (match d with | .bool y=>some ⟨y,rfl⟩ | _=>Option.none)
noncomputable def dI (d:PV):Option Int:=val (p:=fun y=>d = .int y) (match d with | .int y=>some ⟨y,rfl⟩ | _=>Option.none)
noncomputable def dS (d:PV):Option Str:=val (p:=fun y=>d = .str y) (match d with | .str y=>some ⟨y,rfl⟩ | _=>Option.none)
noncomputable def dU (d:PV):Option Unit:=val (p:=fun zz=>d = .none) (match d with | .none=>some ⟨(),rfl⟩ | _=>Option.none)
noncomputable def dD (d:PV):Option (List Str × List PV):=val (p:=fun y=>d = .dict y.1 y.2) (match d with | .dict ks ds=>some ⟨(ks,ds),rfl⟩ | _=>Option.none)
theorem dL_eq {d:PV} {y} (h:dL d = some y):d = .list y:=val_of (p:=fun y=>d = .list y) h
theorem dT_eq {d:PV} {y} (h:dT d = some y):d = .tup y:=val_of (p:=fun y=>d = .tup y) h
theorem dB_eq {d:PV} {y} (h:dB d = some y):d = .bool y:=val_of (p:=fun y=>d = .bool y) h
theorem dI_eq {d:PV} {y} (h:dI d = some y):d = .int y:=val_of (p:=fun y=>d = .int y) h
theorem dS_eq {d:PV} {y} (h:dS d = some y):d = .str y:=val_of (p:=fun y=>d = .str y) h
theorem dU_eq {d:PV} {y} (h:dU d = some y):d = .none:=val_of (p:=fun zz=>d = .none) h
theorem dD_eq {d:PV} {y:List Str × List PV} (h:dD d = some y):d = .dict y.1 y.2:=val_of (p:=fun y:List Str × List PV=>d = .dict y.1 y.2) h
theorem dB_bool (b:Bool):dB (.bool b) = some b:=rfl
inductive Bd {α β:Type} (o:Option α) (f:α → Option β) (b:β):Prop
  | mk (a:α) (h:o = some a) (k:f a = some b):Bd o f b
theorem bind_of {α β:Type} {o:Option α} {f:α → Option β} {b:β} (h:o.bind f = some b):Bd o f b:=by
  cases o with
  | none=>cases h
  | some a=>exact ⟨a,rfl,h⟩
inductive Mp {α β:Type} (o:Option α) (f:α → β) (b:β):Prop
  | mk (a:α) (h:o = some a) (k:f a = b):Mp o f b
theorem map_of {α β:Type} {o:Option α} {f:α → β} {b:β} (h:o.map f = some b):Mp o f b:=by
  cases o with
  | none=>cases h
  | some a=>exact ⟨a,rfl,Option.some.inj h⟩
theorem if_of {α:Type} {c:Prop} [Decidable c] {x:α} {r:α} (h:(if c then some x else Option.none) = some r):c ∧ x = r:=by
  by_cases hc:c
  · rw [if_pos hc] at h; exact ⟨hc,Option.some.inj h⟩
  · rw [if_neg hc] at h; cases h
theorem ifo_of {α:Type} {c:Prop} [Decidable c] {x:Option α} {r:α} (h:(if c then x else Option.none) = some r):c ∧ x = some r:=by
  by_cases hc:c
  · rw [if_pos hc] at h; exact ⟨hc,h⟩
  · rw [if_neg hc] at h; cases h
theorem some_of {α:Type} {o:Option α} (h:o.isSome = true):∃ x,o = some x:=by
  cases o with
  | none=>cases h
  | some x=>exact ⟨x,rfl⟩
mutual
noncomputable def aeq:PV → PV → Option Bool
  | .none,d=>if (dU d).isSome then some true else (dL d).map fun zz=>false
  | .bool a,d=>(dB d).map fun b=>a == b
  | .int a,d=>(dI d).map fun b=>a == b
  | .str a,d=>(dS d).map fun b=>a == b
  | .list xs,d=>if (dU d).isSome then some false else (dL d).bind (aeqs xs)
  | .tup xs,d=>(dT d).bind (aeqs xs)
  | .dict _ _,_=>Option.none
  | .rng _ _ _,_=>Option.none
noncomputable def aeqs:List PV → List PV → Option Bool
  | [],ys=>some ys.isEmpty
  | x :: xs,ys=>match ys with
    | []=>some false
    | y :: ys=>(aeq x y).bind fun a=>(aeqs xs ys).bind fun b=>some (a && b)
end
mutual
noncomputable def PV.depth:PV → Nat
  | .list xs=>PV.depths xs + 1
  | .tup xs=>PV.depths xs + 1
  | .dict _ xs=>PV.depths xs + 1
  | _=>0
noncomputable def PV.depths:List PV → Nat
  | []=>0
  | x :: xs=>max x.depth (PV.depths xs)
end
theorem dpC (x:PV) (xs:List PV):PV.depths (x :: xs) = max x.depth (PV.depths xs):=rfl
theorem dpL (xs:List PV):(PV.list xs).depth = PV.depths xs + 1:=rfl
theorem dpT (xs:List PV):(PV.tup xs).depth = PV.depths xs + 1:=rfl
theorem dpD (ks:List Str) (xs:List PV):(PV.dict ks xs).depth = PV.depths xs + 1:=rfl
theorem atoms_of {A:Type} (f:A → PV) (h:∀ a,(f a).atom = true) (l:List A):(l.map f).all PV.atom = true:=by
  induction l with
  | nil=>rfl
  | cons x l ih=>rw [List.map_cons,List.all_cons,h x,ih]; rfl
structure RV where
  d:PV
  f:Bool
  c:Bool
noncomputable def at1 (d:PV):RV:=⟨d,true,true⟩
noncomputable def part (r:RV) (d:PV):RV:=if d.atom then ⟨d,true,true⟩ else ⟨d,r.f,r.c⟩
noncomputable def newl (f c:Bool) (ds:List PV):Option RV:=if ds.length ≤ lim then some (if ds.all PV.atom then ⟨.list ds,true,true⟩ else ⟨.list ds,f,c⟩) else Option.none
set_option genInjectivity false in
set_option genSizeOf false in
set_option genCtorIdx false in
inductive SExpr where
  | var (i:Nat)
  | none
  | bool (b:Bool)
  | int (i:Int)
  | neg (i:Int)
  | str (x:Str)
  | list (es:List SExpr)
  | tup (es:List SExpr)
  | edict
  | bin (op:Operator) (a b:SExpr)
  | idx (a i:SExpr)
  | sfrom (a i:SExpr)
  | supto (a i:SExpr)
  | sall (a:SExpr)
  | srev (a:SExpr)
  | cmp (op:CmpOp) (a b:SExpr)
  | isN (neg:Bool) (a:SExpr)
  | typeIs (T:Str) (a:SExpr)
  | band (es:List SExpr)
  | bor (es:List SExpr)
  | not (a:SExpr)
  | ife (t a b:SExpr)
  | call (f:Str) (es:List SExpr)
  | len (a:SExpr)
  | sorted (a:SExpr)
  | sortedSet (a:SExpr)
  | all (a:SExpr)
  | range (a:SExpr)
  | rangeDown (a:SExpr)
  | dictOf (a:SExpr)
  | items (a:SExpr)
  | get (o k d:SExpr)
  | comp (elt it:SExpr)
  | comp2 (elt it cond it2:SExpr)
  | fstr (es:List SExpr)
  | fval (a:SExpr)
noncomputable def addS (xs:List Str) (x:Str):List Str:=if x ∈ xs then xs else xs ++ [x]
noncomputable def metS (xs:List Str):List Str:=xs.foldl addS []
noncomputable def leS (a b:Str):Bool:=!decide (b.cps.toList < a.cps.toList)
noncomputable def insS (x:Str):List Str → List Str
  | []=>[x]
  | y :: ys=>if leS x y then x :: y :: ys else y :: insS x ys
noncomputable def sortS:List Str → List Str
  | []=>[]
  | x :: xs=>insS x (sortS xs)
noncomputable def asStrs:List PV → Option (List Str)
  | []=>some []
  | d :: ds=>(dS d).bind fun x=>(asStrs ds).map (x :: ·)
noncomputable def asBools:List PV → Option (List Bool)
  | []=>some []
  | d :: ds=>(dB d).bind fun x=>(asBools ds).map (x :: ·)
noncomputable def dTwo {α:Type} (l:List α):Option (α × α):=val (p:=fun y=>l = [y.1,y.2]) (match l with | [a,b]=>some ⟨(a,b),rfl⟩ | _=>Option.none)
theorem dTwo_eq {α:Type} {l:List α} {y:α × α} (h:dTwo l = some y):l = [y.1,y.2]:=val_of (p:=fun y:α × α=>l = [y.1,y.2]) h
noncomputable def pairOf (d:PV):Option (Str × PV):=(dT d).bind fun l=>(dTwo l).bind fun y=>(dS y.1).map fun x=>(x,y.2)
theorem pairOf_eq {d:PV} {y:Str × PV} (h:pairOf d = some y):d = .tup [.str y.1,y.2]:=by
  obtain ⟨l,h1,h⟩:=bind_of h
  obtain ⟨z,h2,h⟩:=bind_of h
  obtain ⟨x,h3,rfl⟩:=map_of h
  rw [dT_eq h1,dTwo_eq h2,dS_eq h3]
noncomputable def asPairs:List PV → Option (List (Str × PV))
  | []=>some []
  | d :: ds=>(pairOf d).bind fun y=>(asPairs ds).map (y :: ·)
theorem asStrs_map (xs:List Str):asStrs (xs.map PV.str) = some xs:=by
  induction xs with
  | nil=>rfl
  | cons x xs ih=>show ((asStrs (xs.map PV.str)).map (x :: ·)) = _; rw [ih]; rfl
theorem depths_str (xs:List Str):PV.depths (xs.map PV.str) = 0:=by
  induction xs with
  | nil=>rfl
  | cons x xs ih=>show max 0 (PV.depths (xs.map PV.str)) = 0; rw [ih]; rfl
theorem atoms_str (xs:List Str):(xs.map PV.str).all PV.atom = true:=by
  induction xs with
  | nil=>rfl
  | cons x xs ih=>exact ih
noncomputable def downFrom (a:Int):Nat → List PV
  | 0=>[]
  | n + 1=>.int a :: downFrom (a - 1) n
noncomputable def upFrom (a:Int):Nat → List PV
  | 0=>[]
  | n + 1=>.int a :: upFrom (a + 1) n
noncomputable def aiter:PV → Option (List PV)
  | .list ds=>some ds
  | .tup ds=>some ds
  | .rng a b c=>if c = 1 then some (upFrom a (b - a).toNat) else if c = -1 then some (downFrom a (a - b).toNat) else Option.none
  | _=>Option.none
noncomputable def amem (x:PV):List PV → Option Bool
  | []=>some false
  | y :: ys=>(aeq y x).bind fun a=>(amem x ys).bind fun b=>some (a || b)
noncomputable def addOf (x y:RV):Option RV:=match x.d with
  | .int a=>(dI y.d).map fun b=>at1 (.int (a + b))
  | .str a=>(dS y.d).bind fun b=>if a.length + b.length ≤ lim then some (at1 (.str (a ++ b))) else Option.none
  | .list xs=>(dL y.d).bind fun ys=>newl (x.f && y.f) (x.c && y.c) (xs ++ ys)
  | _=>Option.none
noncomputable def mulOf (x y:RV):Option RV:=match x.d with
  | .int a=>(dI y.d).bind fun b=>if a.natAbs ≤ 2 ^ 31 ∧ b.natAbs ≤ 2 ^ 31 then some (at1 (.int (a * b))) else Option.none
  | .list xs=>(dI y.d).bind fun n=>if xs.length * n.toNat ≤ lim ∧ n.natAbs ≤ lim then newl x.f x.c (List.replicate n.toNat xs).flatten else Option.none
  | _=>Option.none
noncomputable def abin (op:Operator) (x y:RV):Option RV:=match op with
  | .Add=>addOf x y
  | .Mult=>mulOf x y
  | .Sub=>(dI x.d).bind fun a=>(dI y.d).map fun b=>at1 (.int (a - b))
  | .Mod=>(dI x.d).bind fun a=>(dI y.d).bind fun b=>if b ≠ 0 then some (at1 (.int (a.fmod b))) else Option.none
  | _=>Option.none
noncomputable def aidx (r:RV) (i:PV):Option RV:=match r.d with
  | .list ds=>(dI i).bind fun k=>if 0 ≤ k then (ds[k.toNat]?).map (part r) else if -(ds.length:Int) ≤ k then (ds[(k + ds.length).toNat]?).map (part r) else Option.none
  | .tup ds=>(dI i).bind fun k=>if 0 ≤ k then (ds[k.toNat]?).map (part r) else Option.none
  | .dict ks ds=>(dS i).bind fun k=>(look ks ds k).map (part r)
  | .str x=>(dI i).bind fun k=>if 0 ≤ k ∧ k ≤ 1000000 then (x.cps[k.toNat]?).map fun c=>at1 (.str ⟨#[c]⟩) else Option.none
  | _=>Option.none
noncomputable def rowOf (d:PV):Option (Str × List Str × List PV):=(pairOf d).bind fun y=>(dD y.2).map fun q=>(y.1,q.1,q.2)
theorem rowOf_eq {d:PV} {y:Str × List Str × List PV} (h:rowOf d = some y):d = .tup [.str y.1,.dict y.2.1 y.2.2]:=by
  obtain ⟨l,h1,h⟩:=bind_of h
  obtain ⟨z,h2,rfl⟩:=map_of h
  rw [pairOf_eq h1,dD_eq h2]
noncomputable def hitAt (ks:List Str) (ds:List PV) (p:Str × PV):Bool:=(((dI p.2).bind fun i=>((look ks ds p.1).bind dI).map fun j=>i == j).getD false)
theorem hitAt_of {ks:List Str} {ds:List PV} {p:Str × PV} (h:hitAt ks ds p = true):∃ i,p.2 = .int i ∧ look ks ds p.1 = some (.int i):=by
  delta hitAt at h
  cases h1:dI p.2 with
  | none=>rw [h1] at h; cases h
  | some i =>
    rw [h1] at h
    cases h2:look ks ds p.1 with
    | none=>rw [h2] at h; cases h
    | some d =>
      rw [h2] at h
      cases h3:dI d with
      | none=>rw [show (some d).bind dI = dI d from rfl,h3] at h; cases h
      | some j =>
        rw [show (some d).bind dI = dI d from rfl,h3] at h
        have e:i = j:=eq_of_beq h
        exact ⟨i,dI_eq h1,by rw [dI_eq h3,e]⟩
noncomputable def rowEq (x y:PV):Bool:=((rowOf x).bind fun a=>(rowOf y).map fun b=>decide (a.1 = b.1) && (decide (a.2.1.length = b.2.1.length) && (a.2.1.zip a.2.2).all (hitAt b.2.1 b.2.2))).getD false
theorem rowEq_of {x y:PV} (h:rowEq x y = true):∃ a ks ds ks' ds',x = .tup [.str a,.dict ks ds] ∧ y = .tup [.str a,.dict ks' ds'] ∧ ks.length = ks'.length ∧ (ks.zip ds).all (hitAt ks' ds') = true:=by
  delta rowEq at h
  cases h1:rowOf x with
  | none=>rw [h1] at h; cases h
  | some a =>
    rw [h1] at h
    cases h2:rowOf y with
    | none=>rw [h2] at h; cases h
    | some b =>
      rw [h2] at h
      have h':(decide (a.1 = b.1) && (decide (a.2.1.length = b.2.1.length) && (a.2.1.zip a.2.2).all (hitAt b.2.1 b.2.2))) = true:=h
      rw [Bool.and_eq_true,Bool.and_eq_true] at h'
      have e:=of_decide_eq_true h'.1
      exact ⟨a.1,a.2.1,a.2.2,b.2.1,b.2.2,rowOf_eq h1,by rw [e]; exact rowOf_eq h2,of_decide_eq_true h'.2.1,h'.2.2⟩
noncomputable def rowsEq:List PV → List PV → Bool
  | [],ys=>ys.isEmpty
  | x :: xs,ys=>match ys with
    | []=>false
    | y :: ys=>rowEq x y && rowsEq xs ys
noncomputable def ane (x y:PV):Option Bool:=if (aeq x y).isSome then (aeq x y).map (!·) else
  (dL x).bind fun xs=>(dL y).bind fun ys=>if rowsEq xs ys then some false else Option.none
noncomputable def inOf (x y:PV):Option Bool:=match y with
  | .list ds=>if PV.depths ds + x.depth ≤ 40 then amem x ds else Option.none
  | .dict ks ds=>(dS x).map fun k=>(look ks ds k).isSome
  | _=>Option.none
noncomputable def acmp (op:CmpOp) (x y:PV):Option Bool:=match op with
  | .In=>inOf x y
  | .NotIn=>(inOf x y).map (!·)
  | .Eq=>if x.depth + y.depth ≤ 40 then aeq x y else Option.none
  | .NotEq=>if x.depth + y.depth ≤ 40 then ane x y else Option.none
  | .Lt=>(dI x).bind fun a=>(dI y).map fun b=>decide (a < b)
  | .Gt=>(dI x).bind fun a=>(dI y).map fun b=>decide (a > b)
  | _=>Option.none
noncomputable def alen:PV → Option Nat
  | .list ds=>some ds.length
  | .tup ds=>some ds.length
  | .dict ks _=>some ks.length
  | _=>Option.none
noncomputable def typeNm:PV → Option Str
  | .list _=>some (Str.ofString "list")
  | .int _=>some (Str.ofString "int")
  | .bool _=>some (Str.ofString "bool")
  | _=>Option.none
noncomputable def putAll:List (Str × PV) → List Str × List PV → List Str × List PV
  | [],kd=>kd
  | y :: r,kd=>putAll r (put kd.1 kd.2 y.1 y.2)
noncomputable def fmtOf:PV → Option Str
  | .str x=>if x.length ≤ lim then some x else Option.none
  | .int i=>if i.natAbs < 10 ^ 10 then some (Str.ofString (toString i)) else Option.none
  | _=>Option.none
noncomputable def joinAll:List PV → Option Str
  | []=>some Str.empty
  | d :: ds=>(dS d).bind fun x=>(joinAll ds).map (x ++ ·)
noncomputable def acompL (go:PV → Option (List RV)):List PV → Option (List RV)
  | []=>some []
  | d :: ds=>(go d).bind fun r=>(acompL go ds).bind fun rest=>some (r ++ rest)
noncomputable def newlR (rs:List RV):Option RV:=newl (rs.all (·.f)) (rs.all (·.c)) (rs.map (·.d))
noncomputable def boolOf (d:PV):Option Bool:=dB d
theorem boolOf_eq {d:PV} {k:Bool} (h:boolOf d = some k):d = .bool k:=dB_eq h
abbrev FTab:=Str → List PV → Option (PV × Bool)
abbrev Sig:=List (Option RV)
mutual
noncomputable def aeval (Φ:FTab):SExpr → Sig → Option RV
  | .var i,σ=>(σ[i]?).join
  | .none,_=>some (at1 .none)
  | .bool b,_=>some (at1 (.bool b))
  | .int i,_=>some (at1 (.int i))
  | .neg i,_=>some (at1 (.int (-i)))
  | .str x,_=>some (at1 (.str x))
  | .list es,σ=>(aevals Φ es σ).bind newlR
  | .tup es,σ=>(aevals Φ es σ).bind fun rs=>if rs.length ≤ lim then some ⟨.tup (rs.map (·.d)),rs.all (·.f),rs.all (·.c)⟩ else Option.none
  | .edict,_=>some ⟨.dict [] [],true,true⟩
  | .bin op a b,σ=>(aeval Φ a σ).bind fun x=>(aeval Φ b σ).bind fun y=>abin op x y
  | .idx a i,σ=>(aeval Φ a σ).bind fun x=>(aeval Φ i σ).bind fun y=>aidx x y.d
  | .sfrom a i,σ=>(aeval Φ a σ).bind fun x=>(aeval Φ i σ).bind fun y=>(dL x.d).bind fun ds=>(dI y.d).bind fun k=>if 0 ≤ k then newl x.f x.c (ds.drop k.toNat) else Option.none
  | .supto a i,σ=>(aeval Φ a σ).bind fun x=>(aeval Φ i σ).bind fun y=>(dL x.d).bind fun ds=>(dI y.d).bind fun k=>if 0 ≤ k then newl x.f x.c (ds.take k.toNat) else Option.none
  | .sall a,σ=>(aeval Φ a σ).bind fun x=>(dL x.d).bind fun ds=>newl x.f x.c ds
  | .srev a,σ=>(aeval Φ a σ).bind fun x=>(dL x.d).bind fun ds=>newl x.f x.c ds.reverse
  | .cmp op a b,σ=>(aeval Φ a σ).bind fun x=>(aeval Φ b σ).bind fun y=>(acmp op x.d y.d).map fun k=>at1 (.bool k)
  | .isN neg a,σ=>(aeval Φ a σ).map fun x=>at1 (.bool ((dU x.d).isSome != neg))
  | .typeIs T a,σ=>(aeval Φ a σ).bind fun x=>(typeNm x.d).map fun n=>at1 (.bool (decide (n = T)))
  | .band es,σ=>(aands Φ es σ).map fun k=>at1 (.bool k)
  | .bor es,σ=>(aors Φ es σ).map fun k=>at1 (.bool k)
  | .not a,σ=>(aeval Φ a σ).bind fun x=>(boolOf x.d).map fun k=>at1 (.bool !k)
  | .ife t a b,σ=>(aeval Φ t σ).bind fun x=>(boolOf x.d).bind fun k=>if k then aeval Φ a σ else aeval Φ b σ
  | .call f es,σ=>(aevals Φ es σ).bind fun rs=>(Φ f (rs.map (·.d))).map fun p=>⟨p.1,p.2 || p.1.atom || rs.all (·.f),p.2 || p.1.atom || rs.all (·.c)⟩
  | .len a,σ=>(aeval Φ a σ).bind fun x=>(alen x.d).map fun n=>at1 (.int (Int.ofNat n))
  | .sorted a,σ=>(aeval Φ a σ).bind fun x=>(dL x.d).bind fun ds=>(asStrs ds).bind fun xs=>if xs.length < 64 then some (at1 (.list ((sortS xs).map PV.str))) else Option.none
  | .sortedSet a,σ=>(aeval Φ a σ).bind fun x=>(dL x.d).bind fun ds=>(asStrs ds).bind fun xs=>if xs.length < 5 ∧ xs ≠ [] then some (at1 (.list ((sortS (metS xs)).map PV.str))) else Option.none
  | .all a,σ=>(aeval Φ a σ).bind fun x=>(dL x.d).bind fun ds=>(asBools ds).map fun xs=>at1 (.bool (xs.all id))
  | .range a,σ=>(aeval Φ a σ).bind fun x=>(dI x.d).bind fun n=>if 0 ≤ n ∧ n ≤ lim then some ⟨.rng 0 n 1,true,true⟩ else Option.none
  | .rangeDown a,σ=>(aeval Φ a σ).bind fun x=>(dI x.d).bind fun n=>if -1 ≤ n ∧ n ≤ lim then some ⟨.rng n (-1) (-1),true,true⟩ else Option.none
  | .dictOf a,σ=>(aeval Φ a σ).bind fun x=>(dL x.d).bind fun ds=>(asPairs ds).bind fun ps=>some ⟨.dict (putAll ps ([],[])).1 (putAll ps ([],[])).2,x.f || ps.all (fun p=>p.2.atom),x.c || ps.all (fun p=>p.2.atom)⟩
  | .items a,σ=>(aeval Φ a σ).bind fun x=>(dD x.d).map fun q=>⟨.list ((q.1.zip q.2).map fun p=>.tup [.str p.1,p.2]),x.f || q.2.all PV.atom,x.c || q.2.all PV.atom⟩
  | .get o k d,σ=>(aeval Φ o σ).bind fun x=>(aeval Φ k σ).bind fun y=>(aeval Φ d σ).bind fun z=>(dD x.d).bind fun q=>(dS y.d).map fun k=>((look q.1 q.2 k).map (part x)).getD z
  | .comp elt it,σ=>(aeval Φ it σ).bind fun x=>(aiter x.d).bind fun ds=>(acompL (fun d=>(aeval Φ elt (σ ++ [some (part x d)])).map fun r=>[r]) ds).bind newlR
  | .comp2 elt it cond it2,σ=>(aeval Φ it σ).bind fun x=>(aiter x.d).bind fun ds =>
    (acompL (fun d=>(aeval Φ cond (σ ++ [some (part x d),Option.none])).bind fun t=>(boolOf t.d).bind fun k=>if k then
        (aeval Φ it2 (σ ++ [some (part x d),Option.none])).bind fun y=>(aiter y.d).bind fun es=>acompL (fun e=>(aeval Φ elt (σ ++ [some (part x d),some (part y e)])).map fun r=>[r]) es
      else some []) ds).bind newlR
  | .fstr es,σ=>(aevals Φ es σ).bind fun rs=>(joinAll (rs.map (·.d))).bind fun x=>if x.length ≤ lim then some (at1 (.str x)) else Option.none
  | .fval a,σ=>(aeval Φ a σ).bind fun x=>(fmtOf x.d).map fun t=>at1 (.str t)
noncomputable def aevals (Φ:FTab):List SExpr → Sig → Option (List RV)
  | [],_=>some []
  | e :: es,σ=>(aeval Φ e σ).bind fun r=>(aevals Φ es σ).bind fun rs=>some (r :: rs)
noncomputable def aands (Φ:FTab):List SExpr → Sig → Option Bool
  | [],_=>some true
  | e :: es,σ=>(aeval Φ e σ).bind fun x=>(boolOf x.d).bind fun k=>if k then aands Φ es σ else some false
noncomputable def aors (Φ:FTab):List SExpr → Sig → Option Bool
  | [],_=>some false
  | e :: es,σ=>(aeval Φ e σ).bind fun x=>(boolOf x.d).bind fun k=>if k then some true else aors Φ es σ
end
set_option genInjectivity false in
set_option genSizeOf false in
set_option genCtorIdx false in
inductive SStmt where
  | set (x:Nat) (e:SExpr)
  | setc (x:Nat) (e:SExpr)
  | ownl (x:Nat) (es:List SExpr)
  | ownd (x:Nat)
  | ownf (x:Nat) (e:SExpr)
  | unpk (x y:Nat) (e:SExpr)
  | app (x:Nat) (e:SExpr)
  | put (x:Nat) (k e:SExpr)
  | del1 (x:Nat)
  | ife (c:SExpr) (a b:List SStmt)
  | fr (x:Nat) (e:SExpr) (b:List SStmt)
  | whl (c:SExpr) (b:List SStmt)
  | ret (e:SExpr)
  | rse (e:SExpr)
  | brk
  | rel (x:Nat)
inductive Out where
  | next (σ:Sig)
  | brk (σ:Sig)
  | ret (r:RV)
  | exc (m:Str)
noncomputable def dropF (r:Option RV):Option RV:=r.map fun q=>if q.d.atom then q else { q with f:=false }
noncomputable def turn (o:Out) (go:Sig → Option Out):Option Out:=match o with
  | .next σ'=>go σ'
  | .brk σ'=>some (.next σ')
  | .ret r=>some (.ret r)
  | .exc m=>some (.exc m)
noncomputable def andThen (o:Out) (go:Sig → Option Out):Option Out:=match o with
  | .next σ'=>go σ'
  | .brk σ'=>some (.brk σ')
  | .ret r=>some (.ret r)
  | .exc m=>some (.exc m)
noncomputable def afor (body:Sig → Option Out) (x:Nat) (q:RV):List PV → Sig → Option Out
  | [],σ=>some (.next σ)
  | d :: ds,σ=>(body (σ.set x (some (part q d)))).bind fun o=>turn o (afor body x q ds)
noncomputable def awhl (cond:Sig → Option Bool) (body:Sig → Option Out):Nat → Sig → Option Out
  | 0,_=>none
  | n + 1,σ=>(cond σ).bind fun b=>if b then (body σ).bind fun o=>turn o (awhl cond body n) else some (.next σ)
noncomputable def ownAt (σ:Sig) (x:Nat):Option RV:=(σ[x]?).join.bind fun r=>if r.c then none else some r
noncomputable def dPop (ds:List PV):Option (List PV):=match ds with
  | []=>none
  | d :: ds=>some (d :: ds).dropLast
mutual
noncomputable def aexec (Φ:FTab) (n:Nat):SStmt → Sig → Option Out
  | .set x e,σ=>(aeval Φ e σ).bind fun r=>if r.c then some (.next (σ.set x (some r))) else none
  | .setc x e,σ=>(aeval Φ e σ).bind fun r=>if r.c then some (.next (σ.set x (some r))) else none
  | .ownl x es,σ=>(aevals Φ es σ).bind fun rs=>(newlR rs).bind fun r=>if r.c then some (.next (σ.set x (some ⟨r.d,r.f,false⟩))) else none
  | .ownd x,σ=>some (.next (σ.set x (some ⟨.dict [] [],true,false⟩)))
  | .ownf x e,σ=>(aeval Φ e (σ.map dropF)).bind fun r=>(dL r.d).bind fun ds=>if r.f && (r.c && ds.all PV.atom) then some (.next (σ.set x (some ⟨.list ds,true,false⟩))) else none
  | .unpk x y e,σ=>(aeval Φ e σ).bind fun r=>(dT r.d).bind fun ds=>(dTwo ds).bind fun q=>if r.c then some (.next ((σ.set x (some (part r q.1))).set y (some (part r q.2)))) else none
  | .app x e,σ=>(ownAt σ x).bind fun o=>(dL o.d).bind fun ds=>(aeval Φ e σ).bind fun r=>if r.c && decide (ds.length < lim) then some (.next (σ.set x (some ⟨.list (ds ++ [r.d]),o.f && r.f,false⟩))) else none
  | .put x k e,σ=>(ownAt σ x).bind fun o=>(dD o.d).bind fun kd=>(aeval Φ e σ).bind fun r=>(aeval Φ k σ).bind fun q=>(dS q.d).bind fun kk =>
      if r.c && decide (kd.1.length < lim) then some (.next (σ.set x (some ⟨.dict (put kd.1 kd.2 kk r.d).1 (put kd.1 kd.2 kk r.d).2,o.f && r.f,false⟩))) else none
  | .del1 x,σ=>(ownAt σ x).bind fun o=>(dL o.d).bind fun ds=>(dPop ds).map fun es=>.next (σ.set x (some ⟨.list es,o.f,false⟩))
  | .ife c a b,σ=>(aeval Φ c σ).bind fun t=>(boolOf t.d).bind fun k=>if k then aexecs Φ n a σ else aexecs Φ n b σ
  | .fr x e b,σ=>(aeval Φ e σ).bind fun q=>(aiter q.d).bind fun ds=>if q.c then afor (aexecs Φ n b) x q ds σ else none
  | .whl c b,σ=>awhl (fun σ=>(aeval Φ c σ).bind fun t=>boolOf t.d) (aexecs Φ n b) n σ
  | .ret e,σ=>(aeval Φ e σ).map .ret
  | .rse e,σ=>(aeval Φ e σ).bind fun r=>(dS r.d).map .exc
  | .brk,σ=>some (.brk σ)
  | .rel x,σ=>(ownAt σ x).map fun o=>.next (σ.set x (some ⟨o.d,o.f,true⟩))
noncomputable def aexecs (Φ:FTab) (n:Nat):List SStmt → Sig → Option Out
  | [],σ=>some (.next σ)
  | t :: ts,σ=>(aexec Φ n t σ).bind fun o=>andThen o (aexecs Φ n ts)
end
theorem afor_cons (b:Sig → Option Out) (x:Nat) (q:RV) (d:PV) (ds:List PV) (σ:Sig):afor b x q (d :: ds) σ = (b (σ.set x (some (part q d)))).bind fun o=>turn o (afor b x q ds):=rfl
theorem acompL_cons (go:PV → Option (List RV)) (d:PV) (ds:List PV):acompL go (d :: ds) = (go d).bind fun r=>(acompL go ds).bind fun rest=>some (r ++ rest):=rfl
theorem putAll_cons (y:Str × PV) (r:List (Str × PV)) (kd:List Str × List PV):putAll (y :: r) kd = putAll r (put kd.1 kd.2 y.1 y.2):=rfl
theorem downFrom_succ (a:Int) (n:Nat):downFrom a (n + 1) = .int a :: downFrom (a - 1) n:=rfl
theorem upFrom_succ (a:Int) (n:Nat):upFrom a (n + 1) = .int a :: upFrom (a + 1) n:=rfl
theorem leS_total (a b:Str):leS a b = true ∨ leS b a = true:=by
  delta leS
  simp only [Bool.not_eq_true',decide_eq_false_iff_not]
  rcases List.le_total a.cps.toList b.cps.toList with h | h
  · exact .inl (List.not_lt.mpr h)
  · exact .inr (List.not_lt.mpr h)
theorem leS_trans {a b c:Str} (h1:leS a b = true) (h2:leS b c = true):leS a c = true:=by
  delta leS at *
  simp only [Bool.not_eq_true',decide_eq_false_iff_not] at *
  exact List.not_lt.mpr (List.le_trans (List.not_lt.mp h1) (List.not_lt.mp h2))
theorem leS_antisymm {a b:Str} (h1:leS a b = true) (h2:leS b a = true):a = b:=by
  delta leS at *
  simp only [Bool.not_eq_true',decide_eq_false_iff_not] at *
  have:=List.le_antisymm (List.not_lt.mp h1) (List.not_lt.mp h2)
  cases a; cases b
  simp only [Str.mk.injEq]
  exact Array.toList_inj.mp this
theorem insS_cons (x y:Str) (ys:List Str):insS x (y :: ys) = if leS x y then x :: y :: ys else y :: insS x ys:=rfl
theorem insS_perm (x:Str):∀ l:List Str,(insS x l).Perm (x :: l)
  | []=>.refl _
  | y :: ys=>by
    rw [insS_cons]
    split
    · exact .refl _
    · exact ((insS_perm x ys).cons y).trans (.swap x y ys)
theorem sortS_perm:∀ l:List Str,(sortS l).Perm l
  | []=>.refl _
  | x :: xs=>(insS_perm x _).trans ((sortS_perm xs).cons x)
theorem insS_sorted {x:Str}:∀ {l:List Str},l.Pairwise (fun a b=>leS a b = true) → (insS x l).Pairwise (fun a b=>leS a b = true)
  | [],_=>List.pairwise_singleton _ _
  | y :: ys,h=>by
    rw [insS_cons]
    have h':=List.pairwise_cons.mp h
    split
    · rename_i hx
      refine List.pairwise_cons.mpr ⟨fun z hz=>?_,h⟩
      rcases List.mem_cons.mp hz with rfl | hz
      · exact hx
      · exact leS_trans hx (h'.1 z hz)
    · rename_i hx
      refine List.pairwise_cons.mpr ⟨fun z hz=>?_,insS_sorted h'.2⟩
      rcases List.mem_cons.mp ((insS_perm x ys).mem_iff.mp hz) with rfl | hz
      · exact (leS_total z y).resolve_left hx
      · exact h'.1 z hz
theorem sortS_sorted:∀ l:List Str,(sortS l).Pairwise (fun a b=>leS a b = true)
  | []=>List.Pairwise.nil
  | _ :: xs=>insS_sorted (sortS_sorted xs)
theorem sorted_unique:∀ {l l':List Str},l.Perm l' → l.Pairwise (fun a b=>leS a b = true) → l'.Pairwise (fun a b=>leS a b = true) → l = l'
  | [],l',hp,_,_=>by rw [hp.nil_eq]
  | x :: xs,[],hp,_,_=>by cases hp.symm.nil_eq
  | x :: xs,y :: ys,hp,h1,h2=>by
    have h1':=List.pairwise_cons.mp h1
    have h2':=List.pairwise_cons.mp h2
    have e:x = y:=by
      rcases List.mem_cons.mp (hp.mem_iff.mp (List.mem_cons_self ..)) with e | hx
      · exact e
      · rcases List.mem_cons.mp (hp.symm.mem_iff.mp (List.mem_cons_self ..)) with e | hy
        · exact e.symm
        · exact leS_antisymm (h1'.1 y hy) (h2'.1 x hx)
    subst e
    rw [sorted_unique (List.Perm.cons_inv hp) h1'.2 h2'.2]
theorem sortS_eq {l l':List Str} (hp:l'.Perm l) (hs:l'.Pairwise (fun a b=>leS a b = true)):l' = sortS l:=sorted_unique (hp.trans (sortS_perm l).symm) hs (sortS_sorted l)
theorem nn (n:Nat):0 ≤ (n:Int):=Int.natCast_nonneg n
theorem lim_snoc {l:List Str} {x:Str} (h:l.length ≤ 100):(l ++ [x]).length ≤ lim:=by
  rw [List.length_append]; exact Nat.le_trans (Nat.succ_le_succ h) (by decide)
theorem lt64 {a b:Nat} (h:a < 32) (k:b < 32):a + b < 64:=Nat.lt_trans (Nat.add_lt_add_left k a) (Nat.add_lt_add_right h 32)
theorem lt_upd {a b x y:Nat} (h:x < y) (e:a + x = b + y):b < a:=Nat.lt_of_add_lt_add_right (e ▸ Nat.add_lt_add_left h b)
noncomputable def parg (d:PV):RV:=if d.atom then at1 d else ⟨d,false,true⟩
noncomputable def initσ (m:Nat) (ds:List PV):Sig:=ds.map (fun d=>some (parg d)) ++ List.replicate m Option.none
noncomputable def updΦ (Φ:FTab) (f:Str) (g:List PV → Option (PV × Bool)):FTab:=fun x ds=>if x = f then g ds else Φ x ds
end Mine
namespace Mine
open PySem
inductive Keeps (s s':Shared):Prop
  | mk (h':Heap) (tk:Nat) (dr:Drawn) (e:s' = { s with heap:=h',toks:=tk,drawn:=dr }) (k:∀ b o,s.heap.get? b = some o → h'.get? b = some o):Keeps s s'
inductive Moved (s s':Shared):Prop
  | mk (h':Heap) (tk:Nat) (dr:Drawn) (e:s' = { s with heap:=h',toks:=tk,drawn:=dr }):Moved s s'
noncomputable def lobj (vs:List Value) (n:Nat):Obj:={ cls:=.type "list",dict:=Option.none,data:=.seq vs.toArray n,slots:=#[] }
noncomputable def tobj (vs:List Value) (n:Nat):Obj:={ cls:=.type "tuple",dict:=Option.none,data:=.seq vs.toArray n,slots:=#[] }
mutual
inductive R (prog:Program) (w:World) (h:Heap) (P:Addr → Prop):Value → PV → Prop
  | none:R prog w h P Value.none PV.none
  | bool (b:Bool):R prog w h P (Value.bool b) (PV.bool b)
  | int (i:Int) (t:Tok):R prog w h P (Value.int i t) (PV.int i)
  | str (x:Str) (t:Tok):R prog w h P (Value.str x t) (PV.str x)
  | list {a:Addr} {vs:List Value} {n:Nat} {ds:List PV}:P a → h.get? a = some (lobj vs n) → ds.length ≤ lim → RS prog w h P vs ds → R prog w h P (Value.ref a) (PV.list ds)
  | tup {a:Addr} {vs:List Value} {n:Nat} {ds:List PV}:P a → h.get? a = some (tobj vs n) → ds.length ≤ lim → RS prog w h P vs ds → R prog w h P (Value.ref a) (PV.tup ds)
  | dict {a:Addr} {kvs:List (Str × Value)} {ks:List Str} {ds:List PV}:P a → h.DictOf (strKind prog w) a kvs → (a == sysModules) = false → kvs.map (·.1) = ks → ks.length ≤ lim → RS prog w h P (kvs.map (·.2)) ds → R prog w h P (Value.ref a) (PV.dict ks ds)
  | rng {r:Addr} {a b c:Int} {t u v:Tok}:P r → IsRange h r a b c t u v → (a.natAbs ≤ lim ∧ b.natAbs ≤ lim) → R prog w h P (Value.ref r) (PV.rng a b c)
inductive RS (prog:Program) (w:World) (h:Heap) (P:Addr → Prop):List Value → List PV → Prop
  | nil:RS prog w h P [] []
  | cons {v:Value} {vs:List Value} {d:PV} {ds:List PV}:R prog w h P v d → RS prog w h P vs ds → RS prog w h P (v :: vs) (d :: ds)
end
def isData (o:Obj):Prop:=o.cls = .type "list" ∨ o.cls = .type "tuple" ∨ o.cls = .type "dict" ∨ o.cls = .type "range"
theorem isData_l {vs n}:isData (lobj vs n):=.inl rfl
theorem isData_t {vs n}:isData (tobj vs n):=.inr (.inl rfl)
abbrev Same (h h':Heap) (P P':Addr → Prop):Prop:=∀ a o,P a → isData o → h.get? a = some o → h'.get? a = some o ∧ P' a
theorem dictOf_frame {prog:Program} {w:World} {h h':Heap} {P P':Addr → Prop} (hk:Same h h' P P') {a:Addr} {kvs:List (Str × Value)} (p:P a) (e:h.DictOf (strKind prog w) a kvs):h'.DictOf (strKind prog w) a kvs ∧ P' a :=
  e.elim fun o q=>q.elim fun es q=>q.elim fun ep q=>have z:=hk a o p (.inr (.inr (.inl q.2.1.1))) q.1
    ⟨⟨o,es,ep,z.1,q.2⟩,z.2⟩
section
variable {prog:Program} {w:World} {h h':Heap} {P P':Addr → Prop}
theorem R.frame (hk:Same h h' P P') {v:Value} {d:PV} (x:R prog w h P v d):R prog w h' P' v d :=
  R.rec (motive_1:=fun v d zz=>R prog w h' P' v d) (motive_2:=fun vs ds zz=>RS prog w h' P' vs ds) .none .bool .int .str
    (fun p e z zz ih=>.list (hk _ _ p isData_l e).2 (hk _ _ p isData_l e).1 z ih) (fun p e z zz ih=>.tup (hk _ _ p isData_t e).2 (hk _ _ p isData_t e).1 z ih)
    (fun p e q k z zz ih=>.dict (dictOf_frame hk p e).2 (dictOf_frame hk p e).1 q k z ih) (fun p e z=>.rng (hk _ _ p (.inr (.inr (.inr rfl))) e).2 (hk _ _ p (.inr (.inr (.inr rfl))) e).1 z)
    .nil (fun zz zz a b=>.cons a b) x
theorem RS.frame (hk:Same h h' P P') {vs:List Value} {ds:List PV} (x:RS prog w h P vs ds):RS prog w h' P' vs ds:=by
  induction vs generalizing ds with
  | nil=>cases x; exact .nil
  | cons v vs ih=>cases x with | cons a r=>exact .cons (a.frame hk) (ih r)
end
inductive IsL (prog:Program) (w:World) (h:Heap) (P:Addr → Prop) (ds:List PV):Value → Prop
  | list {a:Addr} {vs:List Value} {n:Nat}:P a → h.get? a = some (lobj vs n) → ds.length ≤ lim → RS prog w h P vs ds → IsL prog w h P ds (.ref a)
inductive IsT (prog:Program) (w:World) (h:Heap) (P:Addr → Prop) (ds:List PV):Value → Prop
  | tup {a:Addr} {vs:List Value} {n:Nat}:P a → h.get? a = some (tobj vs n) → ds.length ≤ lim → RS prog w h P vs ds → IsT prog w h P ds (.ref a)
inductive IsD (prog:Program) (w:World) (h:Heap) (P:Addr → Prop) (ks:List Str) (ds:List PV):Value → Prop
  | dict {a:Addr} {kvs:List (Str × Value)}:P a → h.DictOf (strKind prog w) a kvs → (a == sysModules) = false → kvs.map (·.1) = ks → ks.length ≤ lim → RS prog w h P (kvs.map (·.2)) ds → IsD prog w h P ks ds (.ref a)
inductive IsI (i:Int):Value → Prop
  | int (t:Tok):IsI i (.int i t)
inductive IsS (x:Str):Value → Prop
  | str (t:Tok):IsS x (.str x t)
section
variable {prog:Program} {w:World} {h:Heap} {P:Addr → Prop} {v:Value} {xs:List PV}
theorem R.l (x:R prog w h P v (.list xs)):IsL prog w h P xs v:=by cases x with | list p e z r=>exact .list p e z r
theorem R.t (x:R prog w h P v (.tup xs)):IsT prog w h P xs v:=by cases x with | tup p e z r=>exact .tup p e z r
theorem R.d {ks:List Str} (x:R prog w h P v (.dict ks xs)):IsD prog w h P ks xs v:=by cases x with | dict p e q k z r=>exact .dict p e q k z r
theorem R.i {i:Int} (x:R prog w h P v (.int i)):IsI i v:=by cases x with | int zz t=>exact .int t
theorem R.s {y:Str} (x:R prog w h P v (.str y)):IsS y v:=by cases x with | str zz t=>exact .str t
theorem R.b {b:Bool} (x:R prog w h P v (.bool b)):v = .bool b:=by cases x; rfl
theorem R.n (x:R prog w h P v .none):v = .none:=by cases x; rfl
end
section
variable {prog:Program} {w:World} {h h':Heap} {P P':Addr → Prop} {v:Value} {d:PV} {vs ws:List Value} {ds es:List PV}
theorem R.mono (hp:∀ a,P a → P' a) (x:R prog w h P v d):R prog w h P' v d:=x.frame fun zz zz p zz e=>⟨e,hp _ p⟩
theorem RS.mono (hp:∀ a,P a → P' a) (x:RS prog w h P vs ds):RS prog w h P' vs ds:=x.frame fun zz zz p zz e=>⟨e,hp _ p⟩
theorem R.keeps (hk:∀ b o,h.get? b = some o → h'.get? b = some o) (x:R prog w h P v d):R prog w h' P v d:=x.frame fun zz zz p zz e=>⟨hk _ _ e,p⟩
theorem RS.keeps (hk:∀ b o,h.get? b = some o → h'.get? b = some o) (x:RS prog w h P vs ds):RS prog w h' P vs ds:=x.frame fun zz zz p zz e=>⟨hk _ _ e,p⟩
theorem R.off {b:Addr} (hs:Heap.ExtBut b h h') (hb:¬ P b) (x:R prog w h P v d):R prog w h' P v d :=
  x.frame fun a o p zz e=>⟨hs a o (fun q=>hb (q ▸ p)) e,p⟩
theorem RS.off {b:Addr} (hs:Heap.ExtBut b h h') (hb:¬ P b) (x:RS prog w h P vs ds):RS prog w h' P vs ds :=
  x.frame fun a o p zz e=>⟨hs a o (fun q=>hb (q ▸ p)) e,p⟩
theorem RS.length (x:RS prog w h P vs ds):vs.length = ds.length:=by
  induction vs generalizing ds with
  | nil=>cases x; rfl
  | cons v vs ih=>cases x with | cons zz r=>rw [List.length_cons,List.length_cons,ih r]
theorem RS.append (x:RS prog w h P vs ds) (y:RS prog w h P ws es):RS prog w h P (vs ++ ws) (ds ++ es):=by
  induction vs generalizing ds with
  | nil=>cases x; exact y
  | cons v vs ih=>cases x with | cons a r=>exact .cons a (ih r)
theorem RS.one (x:R prog w h P v d):RS prog w h P [v] [d]:=.cons x .nil
theorem RS.get (x:RS prog w h P vs ds) {k:Nat} {d:PV} (hk:ds[k]? = some d):∃ v,vs[k]? = some v ∧ R prog w h P v d:=by
  induction vs generalizing ds k with
  | nil=>cases x; simp at hk
  | cons v vs ih =>
    cases x with
    | cons a r =>
      cases k with
      | zero=>simp at hk; subst hk; exact ⟨v,rfl,a⟩
      | succ k=>simpa using ih r (by simpa using hk)
theorem RS.get' (x:RS prog w h P vs ds) {k:Nat} {v:Value} (hk:vs[k]? = some v):∃ d,ds[k]? = some d ∧ R prog w h P v d:=by
  induction vs generalizing ds k with
  | nil=>simp at hk
  | cons u vs ih =>
    cases x with
    | cons a r =>
      cases k with
      | zero=>simp at hk; subst hk; exact ⟨_,rfl,a⟩
      | succ k=>simpa using ih r (by simpa using hk)
theorem RS.drop (x:RS prog w h P vs ds) (k:Nat):RS prog w h P (vs.drop k) (ds.drop k):=by
  induction k generalizing vs ds with
  | zero=>exact x
  | succ k ih=>cases x with
    | nil=>exact .nil
    | cons a r=>exact ih r
theorem RS.take (x:RS prog w h P vs ds) (k:Nat):RS prog w h P (vs.take k) (ds.take k):=by
  induction k generalizing vs ds with
  | zero=>exact .nil
  | succ k ih=>cases x with
    | nil=>exact .nil
    | cons a r=>exact .cons a (ih r)
theorem RS.reverse (x:RS prog w h P vs ds):RS prog w h P vs.reverse ds.reverse:=by
  induction vs generalizing ds with
  | nil=>cases x; exact .nil
  | cons v vs ih=>cases x with
    | cons a r=>rw [List.reverse_cons,List.reverse_cons]; exact (ih r).append (.one a)
theorem RS.replicate (x:RS prog w h P vs ds) (k:Nat):RS prog w h P (List.replicate k vs).flatten (List.replicate k ds).flatten:=by
  induction k with
  | zero=>exact .nil
  | succ k ih=>rw [List.replicate_succ,List.replicate_succ,List.flatten_cons,List.flatten_cons]; exact x.append ih
end
theorem R.atom {prog:Program} {w:World} {h h':Heap} {P P':Addr → Prop} {v:Value} {d:PV} (x:R prog w h P v d) (ha:d.atom = true):R prog w h' P' v d:=by
  cases x with
  | none=>exact .none
  | bool b=>exact .bool b
  | int i t=>exact .int i t
  | str x t=>exact .str x t
  | list=>cases ha
  | tup=>cases ha
  | dict=>cases ha
  | rng=>cases ha
theorem RS.atom {prog:Program} {w:World} {h h':Heap} {P P':Addr → Prop} {vs:List Value} {ds:List PV} (x:RS prog w h P vs ds) (ha:ds.all PV.atom = true):RS prog w h' P' vs ds:=by
  induction vs generalizing ds with
  | nil=>cases x; exact .nil
  | cons v vs ih=>cases x with
    | cons a r =>
      rw [List.all_cons,Bool.and_eq_true] at ha
      exact .cons (a.atom ha.1) (ih r ha.2)
theorem look_kvs {prog:Program} {w:World} {h:Heap} {P:Addr → Prop} {kvs:List (Str × Value)} {ds:List PV} (r:RS prog w h P (kvs.map (·.2)) ds) (k:Str) :
    (match look (kvs.map (·.1)) ds k with
      | some d=>∃ v,valueAt kvs k = some v ∧ R prog w h P v d
      | Option.none=>valueAt kvs k = Option.none):=by
  induction kvs generalizing ds with
  | nil=>cases r; show valueAt [] k = Option.none; simp [valueAt]
  | cons kv kvs ih =>
    cases r with
    | cons a r =>
      have ih:=ih r
      simp only [look_cons,List.map_cons]
      by_cases hx:kv.1 = k
      · subst hx
        simp only [if_true]
        exact ⟨kv.2,by simp [valueAt],a⟩
      · simp only [if_neg hx]
        have e:valueAt (kv :: kvs) k = valueAt kvs k:=by simp [valueAt,hx]
        rw [e]; exact ih
theorem put_kvs {prog:Program} {w:World} {h:Heap} {P:Addr → Prop} {kvs:List (Str × Value)} {ds:List PV} {k:Str} {v:Value} {d:PV} (r:RS prog w h P (kvs.map (·.2)) ds) (a:R prog w h P v d) :
    (stored kvs k v).map (·.1) = (put (kvs.map (·.1)) ds k d).1 ∧ RS prog w h P ((stored kvs k v).map (·.2)) (put (kvs.map (·.1)) ds k d).2:=by
  have hany:(kvs.any fun kv=>decide (kv.1 = k)) = true ↔ k ∈ kvs.map (·.1):=by
    rw [List.any_eq_true,List.mem_map]
    simp
  delta stored put
  by_cases hk:k ∈ kvs.map (·.1)
  · rw [if_pos (hany.mpr hk),if_pos hk]
    refine ⟨keys_map_store kvs k v,?_⟩
    clear hk hany
    induction kvs generalizing ds with
    | nil=>cases r; exact .nil
    | cons kv kvs ih =>
      cases r with
      | cons b r =>
        simp only [List.map_cons,List.zip_cons_cons]
        refine .cons ?_ (ih r)
        by_cases hx:kv.1 = k
        · simp only [hx,if_true]; exact a
        · simp only [hx,if_false]; exact b
  · rw [if_neg (fun q=>hk (hany.mp q)),if_neg hk]
    exact ⟨by simp,by rw [List.map_append]; exact r.append (.one a)⟩
end Mine
namespace Mine
open PySem PySem.SeqAt
section
variable {h:Heap}
theorem lobj_isList {vs:List Value} {n:Nat} {a:Addr} (e:h.get? a = some (lobj vs n)):h.IsList a vs.toArray:=⟨_,e,rfl,n,rfl⟩
theorem tobj_isTuple {vs:List Value} {n:Nat} {a:Addr} (e:h.get? a = some (tobj vs n)):h.IsTuple a vs.toArray:=⟨_,e,rfl,n,rfl⟩
end
noncomputable def datV:Value → Option PV
  | .none=>some .none
  | .bool b=>some (.bool b)
  | .int i _=>some (.int i)
  | .str x _=>some (.str x)
  | _=>Option.none
noncomputable def PV.cls:PV → Value
  | .list _=>.type "list"
  | .tup _=>.type "tuple"
  | .dict _ _=>.type "dict"
  | .rng _ _ _=>.type "range"
  | _=>.none
section
variable {prog:Program} {w:World} {h:Heap} {P P':Addr → Prop} {v:Value} {d d':PV} {a:Addr}
theorem R.dat (x:R prog w h P v d):datV v = some d ∨ ∃ a,v = .ref a:=by
  cases x with
  | none=>exact .inl rfl
  | bool b=>exact .inl rfl
  | int i t=>exact .inl rfl
  | str y t=>exact .inl rfl
  | list=>exact .inr ⟨_,rfl⟩
  | tup=>exact .inr ⟨_,rfl⟩
  | dict=>exact .inr ⟨_,rfl⟩
  | rng=>exact .inr ⟨_,rfl⟩
theorem R.atomD (x:R prog w h P v d) {e:PV} (hv:datV v = some e):d = e:=by
  rcases x.dat with q | ⟨a,rfl⟩
  · exact Option.some.inj (q.symm.trans hv)
  · cases hv
theorem R.cls (x:R prog w h P v d) (e:v = .ref a):∃ o,h.get? a = some o ∧ o.cls = d.cls:=by
  cases x with
  | none=>cases e
  | bool b=>cases e
  | int i t=>cases e
  | str y t=>cases e
  | list p q zz zz=>cases e; exact ⟨_,q,rfl⟩
  | tup p q zz zz=>cases e; exact ⟨_,q,rfl⟩
  | dict p q zz zz zz zz=>cases e; exact q.elim fun o q=>q.elim fun es q=>q.elim fun ep q=>⟨o,q.1,q.2.1.1⟩
  | rng p q zz=>cases e; exact ⟨_,q,rfl⟩
theorem R.clsAt {o:Obj} (x:R prog w h P (.ref a) d) (e:h.get? a = some o):d.cls = o.cls:=by
  obtain ⟨o',h1,h2⟩:=x.cls rfl
  rw [← h2,Option.some.inj (h1.symm.trans e)]
theorem cls_ne {a b:Value} (h:decide (a = b) = false) (e:a = b):False:=of_decide_eq_false h e
theorem cls_list (e:d.cls = .type "list"):∃ ds,d = .list ds:=by
  cases d with
  | list ds=>exact ⟨ds,rfl⟩
  | _=>exact (cls_ne rfl e).elim
theorem cls_tup (e:d.cls = .type "tuple"):∃ ds,d = .tup ds:=by
  cases d with
  | tup ds=>exact ⟨ds,rfl⟩
  | _=>exact (cls_ne rfl e).elim
theorem cls_dict (e:d.cls = .type "dict"):∃ ks ds,d = .dict ks ds:=by
  cases d with
  | dict ks ds=>exact ⟨ks,ds,rfl⟩
  | _=>exact (cls_ne rfl e).elim
theorem cls_rng (e:d.cls = .type "range"):∃ a b c,d = .rng a b c:=by
  cases d with
  | rng a b c=>exact ⟨a,b,c,rfl⟩
  | _=>exact (cls_ne rfl e).elim
theorem lobj_inj {vs vs':List Value} {n n':Nat} (e:h.get? a = some (lobj vs n)) (e':h.get? a = some (lobj vs' n')):vs = vs':=by
  have q:=congrArg Obj.data (Option.some.inj (e.symm.trans e'))
  injection q with q1 _
  exact congrArg Array.toList q1
theorem tobj_inj {vs vs':List Value} {n n':Nat} (e:h.get? a = some (tobj vs n)) (e':h.get? a = some (tobj vs' n')):vs = vs':=by
  have q:=congrArg Obj.data (Option.some.inj (e.symm.trans e'))
  injection q with q1 _
  exact congrArg Array.toList q1
theorem pairs_inj {es:List DictEntry} {k1 k2:List (Str × Value)} (p1:Pairs (strKind prog w) es k1):Pairs (strKind prog w) es k2 → k1 = k2:=by
  induction p1 generalizing k2 with
  | nil=>intro p2; cases p2; rfl
  | cons a b zz ih =>
    intro p2
    cases p2 with
    | cons a' b' p2=>rw [ih p2]; congr 1; exact Prod.ext ((strKind prog w).inj _ _ _ a a') (b.symm.trans b')
theorem dictOf_inj {k1 k2:List (Str × Value)} (e:h.DictOf (strKind prog w) a k1) (e':h.DictOf (strKind prog w) a k2):k1 = k2:=by
  refine cps fun Gq hGq=>?_
  obtain ⟨o,es,ep,ho,hc,hd,hk,hp,hn⟩:=e
  obtain ⟨o',es',ep',ho',hc',hd',hk',hp',hn'⟩:=e'
  refine hGq ?_
  clear hGq
  obtain rfl:o = o':=Option.some.inj (ho.symm.trans ho')
  rw [hd] at hd'
  injection hd' with h1 h2
  subst h1
  exact pairs_inj hp hp'
theorem R.det (x:R prog w h P v d) (y:R prog w h P' v d'):d = d' :=
  R.rec (motive_1:=fun v d zz=>∀ d',R prog w h P' v d' → d = d') (motive_2:=fun vs ds zz=>∀ ds',RS prog w h P' vs ds' → ds = ds')
    (fun zz y=>(y.atomD rfl).symm) (fun zz zz y=>(y.atomD rfl).symm) (fun zz zz zz y=>(y.atomD rfl).symm) (fun zz zz zz y=>(y.atomD rfl).symm)
    (fun p e z r ih d' y=>by
      obtain ⟨ds,rfl⟩:=cls_list (y.clsAt e)
      cases y.l with | list p' e' z' r'=>rw [ih ds (lobj_inj e e' ▸ r')])
    (fun p e z r ih d' y=>by
      obtain ⟨ds,rfl⟩:=cls_tup (y.clsAt e)
      cases y.t with | tup p' e' z' r'=>rw [ih ds (tobj_inj e e' ▸ r')])
    (fun p e q k z r ih d' y=>by
      refine cps fun Gq hGq=>?_
      obtain ⟨o,es,ep,ho,hc,zz⟩:=id e
      refine hGq ?_
      clear hGq
      obtain ⟨ks,ds,rfl⟩:=cls_dict ((y.clsAt ho).trans hc.1)
      cases y.d with | dict p' e' q' k' z' r'=>rw [← k',← k,dictOf_inj e e',ih ds (dictOf_inj e e' ▸ r')])
    (fun p e z d' y=>by
      obtain ⟨a,b,c,rfl⟩:=cls_rng (y.clsAt e)
      cases y with
      | rng zz e' zz =>
        have q:=congrArg Obj.data (Option.some.inj (e.symm.trans e'))
        simp at q
        refine cps fun Gq hGq=>?_
        obtain ⟨⟨q1,zz⟩,⟨q2,zz⟩,q3,zz⟩:=q
        refine hGq ?_
        clear hGq
        rw [q1,q2,q3])
    (fun ds' y=>by cases y; rfl) (fun zz zz i1 i2 ds' y=>by cases y with | cons a' r'=>rw [i1 _ a',i2 _ r']) x d' y
theorem RS.det {vs:List Value} {ds ds':List PV} (x:RS prog w h P vs ds) (y:RS prog w h P' vs ds'):ds = ds':=by
  induction vs generalizing ds ds' with
  | nil=>cases x; cases y; rfl
  | cons v vs ih=>cases x with | cons a r=>cases y with | cons a' r'=>rw [a.det a',ih r r']
end
inductive EqV:PV → PV → Bool → Prop
  | none:EqV .none .none true
  | nl (ds):EqV .none (.list ds) false
  | ln (ds):EqV (.list ds) .none false
  | bool (a b):EqV (.bool a) (.bool b) (a == b)
  | int (a b):EqV (.int a) (.int b) (a == b)
  | str (a b):EqV (.str a) (.str b) (a == b)
  | list {xs ys k}:aeqs xs ys = some k → EqV (.list xs) (.list ys) k
  | tup {xs ys k}:aeqs xs ys = some k → EqV (.tup xs) (.tup ys) k
theorem or_of {α:Type} {o:Option Unit} {x:α} {y:Option α} {r:α} (h:(if o.isSome then some x else y) = some r):(∃ u,o = some u ∧ x = r) ∨ y = some r:=by
  cases o with
  | none=>exact .inr h
  | some u=>exact .inl ⟨u,rfl,Option.some.inj h⟩
theorem eqv {x y:PV} {k:Bool} (h:aeq x y = some k):EqV x y k:=by
  cases x with
  | none =>
    rcases or_of h with ⟨u,h1,rfl⟩ | h
    · rw [dU_eq h1]; exact .none
    · obtain ⟨ds,h1,rfl⟩:=map_of h; rw [dL_eq h1]; exact .nl ds
  | bool a=>obtain ⟨b,h1,rfl⟩:=map_of h; rw [dB_eq h1]; exact .bool a b
  | int a=>obtain ⟨b,h1,rfl⟩:=map_of h; rw [dI_eq h1]; exact .int a b
  | str a=>obtain ⟨b,h1,rfl⟩:=map_of h; rw [dS_eq h1]; exact .str a b
  | list xs =>
    rcases or_of h with ⟨u,h1,rfl⟩ | h
    · rw [dU_eq h1]; exact .ln xs
    · obtain ⟨ds,h1,h2⟩:=bind_of h; rw [dL_eq h1]; exact .list h2
  | tup xs=>obtain ⟨ds,h1,h2⟩:=bind_of h; rw [dT_eq h1]; exact .tup h2
  | dict zz zz=>cases h
  | rng zz zz zz=>cases h
theorem aeqs_inv {x y:PV} {xs ys:List PV} {k:Bool} (h:aeqs (x :: xs) (y :: ys) = some k):∃ a b,aeq x y = some a ∧ aeqs xs ys = some b ∧ k = (a && b):=by
  refine cps fun Gq hGq=>?_
  obtain ⟨a,h1,h⟩:=bind_of h
  obtain ⟨b,h2,h⟩:=bind_of h
  refine hGq ?_
  clear hGq
  exact ⟨a,b,h1,h2,(Option.some.inj h).symm⟩
noncomputable def pairAt (xs ys:List PV) (j:Nat):Bool:=(xs[j]?.bind fun a=>ys[j]?.bind fun b=>aeq a b).getD false
theorem aeqs_both (xs:List PV):∀ (ys:List PV) (k:Bool),aeqs xs ys = some k → ((List.range (min xs.length ys.length)).all (pairAt xs ys) && xs.length == ys.length) = k:=by
  induction xs with
  | nil =>
    intro ys k h
    have:=Option.some.inj h
    cases ys <;> exact this
  | cons x xs ih =>
    intro ys k h
    cases ys with
    | nil=>exact Option.some.inj h
    | cons y ys =>
      obtain ⟨a,b,ha,hb,rfl⟩:=aeqs_inv h
      have e1:min (x :: xs).length (y :: ys).length = min xs.length ys.length + 1:=Nat.add_min_add_right ..
      have e3:pairAt (x :: xs) (y :: ys) 0 = a:=by show (aeq x y).getD false = a; rw [ha]; rfl
      have e4:((x :: xs).length == (y :: ys).length) = (xs.length == ys.length):=decide_eq_decide.mpr Nat.succ_inj
      rw [e1,List.range_succ_eq_map,List.all_cons,List.all_map,e3,Bool.and_assoc,e4]
      exact congrArg (a && ·) (ih ys b hb)
theorem aeqs_all {xs ys:List PV} {k:Bool} (h:aeqs xs ys = some k):((List.range (min xs.length ys.length)).all (pairAt xs ys) && xs.length == ys.length) = k:=aeqs_both xs ys k h
theorem aeqs_length {xs ys:List PV} {k:Bool} (h:aeqs xs ys = some k) (hl:xs.length ≠ ys.length):k = false:=by
  rw [← aeqs_all h,beq_false_of_ne hl,Bool.and_false]
theorem aeq_refl (d:PV):∀ k,aeq d d = some k → k = true :=
  PV.rec (motive_1:=fun d=>∀ k,aeq d d = some k → k = true) (motive_2:=fun ds=>∀ k,aeqs ds ds = some k → k = true)
    (fun k h=>(Option.some.inj h).symm) (fun b k h=>(Option.some.inj h).symm.trans (beq_self_eq_true b)) (fun b k h=>(Option.some.inj h).symm.trans (beq_self_eq_true b)) (fun b k h=>(Option.some.inj h).symm.trans (beq_self_eq_true b))
    (fun ds ih=>ih) (fun ds ih=>ih) (fun zz zz zz k h=>nomatch h) (fun zz zz zz k h=>nomatch h) (fun k h=>(Option.some.inj h).symm)
    (fun x xs i1 i2 k h=>by obtain ⟨a,b,ha,hb,rfl⟩:=aeqs_inv h; rw [i1 a ha,i2 b hb]; rfl) d
section
variable {prog:Program} {w:World} {P P':Addr → Prop} {xs ys:List PV} {A:Around} {s:Shared} {l l':Addr} {vs vs':List Value} {n n':Nat} {k:Bool}
theorem rcAt_lists (r:RS prog w s.heap P vs xs) (r':RS prog w s.heap P' vs' ys)
    (e:s.heap.get? l = some (lobj vs n)) (e':s.heap.get? l' = some (lobj vs' n')) (h:aeqs xs ys = some k) (he:∀ j (h1:j < vs.length) (h2:j < vs'.length),EqAt A.in1 s vs[j] vs'[j] (pairAt xs ys j)) (hu:A.units < cLine) :
    RcAt A s (.ref l) (.ref l') k:=by
  have n1:=r.length
  have n2:=r'.length
  by_cases hsz:vs.length = vs'.length
  · have:=RcAt.lists (e:=pairAt xs ys) (lobj_isList e) (lobj_isList e') hsz hu he
    have q:=aeqs_all h
    have e1:xs.length = ys.length:=n1.symm.trans (hsz.trans n2)
    rw [beq_iff_eq.mpr e1,Bool.and_true,← e1,Nat.min_self,← n1] at q
    rw [← q]; exact this
  · rw [aeqs_length h fun q=>hsz (n1.trans (q.trans n2.symm))]
    exact RcAt.lists_lengths (A:=A) (lobj_isList e) (lobj_isList e') (bne_iff_ne.mpr hsz) hu
theorem rcAt_tuples (r:RS prog w s.heap P vs xs) (r':RS prog w s.heap P' vs' ys)
    (e:s.heap.get? l = some (tobj vs n)) (e':s.heap.get? l' = some (tobj vs' n')) (h:aeqs xs ys = some k) (he:∀ j (h1:j < vs.length) (h2:j < vs'.length),EqAt A.in1 s vs[j] vs'[j] (pairAt xs ys j)) (hu:A.units < cLine) :
    RcAt A s (.ref l) (.ref l') k:=by
  have:=RcAt.tuples (e:=pairAt xs ys) (tobj_isTuple e) (tobj_isTuple e') hu he
  rw [List.size_toArray,List.size_toArray,r.length,r'.length] at this
  rw [← aeqs_all h]; exact this
end
section
variable (prog:Program) (w:World) (P P':Addr → Prop)
abbrev EqR (da:PV):Prop:=∀ (db:PV) (A:Around) (s:Shared) (a b:Value) (k:Bool),R prog w s.heap P a da → R prog w s.heap P' b db → aeq da db = some k → A.units + da.depth + db.depth < cLine → EqAt A s a b k
abbrev EqRS (xs:List PV):Prop:=∀ (ys:List PV) (A:Around) (s:Shared) (vs vs':List Value) (k:Bool),RS prog w s.heap P vs xs → RS prog w s.heap P' vs' ys → aeqs xs ys = some k →
    A.units + PV.depths xs + PV.depths ys < cLine → ∀ j (h1:j < vs.length) (h2:j < vs'.length),EqAt A s vs[j] vs'[j] (pairAt xs ys j)
variable {prog w P P'}
theorem lt_a {u a b c:Nat} (h:u + a + b < c):u < c:=Nat.lt_of_le_of_lt (Nat.le_trans (Nat.le_add_right u a) (Nat.le_add_right _ b)) h
theorem lt_in {u a b c:Nat} (h:u + (a + 1) + (b + 1) < c):u + 1 + a + b < c:=by lia
theorem eqR_of {da:PV} (hl:∀ xs,da = .list xs ∨ da = .tup xs → EqRS prog w P P' xs):EqR prog w P P' da:=by
  intro db A s a b k ra rb h hu
  induction eqv h with
  | none=>rw [ra.n,rb.n]; exact EqAt.same _
  | nl ds=>rw [ra.n]; induction rb.l with | list zz e zz zz=>exact EqAt.none_list (lobj_isList e) (lt_a hu)
  | ln ds=>rw [rb.n]; induction ra.l with | list zz e zz zz=>exact EqAt.list_none (lobj_isList e) (lt_a hu)
  | bool x y=>rw [ra.b,rb.b]; exact EqAt.bool_bool x y
  | int x y=>induction ra.i with | int t=>induction rb.i with | int u=>exact EqAt.int_int x t y u
  | str x y=>induction ra.s with | str t=>induction rb.s with | str u=>exact EqAt.str_str x t y u
  | @list xs ys k h2 =>
    induction ra.l with
    | @list l vs n p e z r =>
      induction rb.l with
      | @list l' vs' n' p' e' z' r' =>
        by_cases hq:l = l'
        · subst hq
          have e1:=lobj_inj e e'
          subst e1
          have e2:=RS.det r r'
          subst e2
          rw [aeq_refl (.list xs) k h]; exact EqAt.same _
        · exact EqAt.of_refs hq (rcAt_lists r r' e e' h2 (hl xs (.inl rfl) ys A.in1 s vs vs' k r r' h2 (lt_in hu)) (lt_a hu))
  | @tup xs ys k h2 =>
    induction ra.t with
    | @tup l vs n p e z r =>
      induction rb.t with
      | @tup l' vs' n' p' e' z' r' =>
        by_cases hq:l = l'
        · subst hq
          have e1:=tobj_inj e e'
          subst e1
          have e2:=RS.det r r'
          subst e2
          rw [aeq_refl (.tup xs) k h]; exact EqAt.same _
        · exact EqAt.of_refs hq (rcAt_tuples r r' e e' h2 (hl xs (.inr rfl) ys A.in1 s vs vs' k r r' h2 (lt_in hu)) (lt_a hu))
theorem eqRS_nil:EqRS prog w P P' []:=by
  intro ys A s vs vs' k ra rb h hu j h1
  rw [ra.length] at h1
  exact absurd h1 (Nat.not_lt_zero _)
theorem lt_max {u a b c d n:Nat} (h:u + max a b + max c d < n):u + a + c < n ∧ u + b + d < n:=⟨Nat.lt_of_le_of_lt (Nat.add_le_add (Nat.add_le_add_left (Nat.le_max_left a b) u) (Nat.le_max_left c d)) h,Nat.lt_of_le_of_lt (Nat.add_le_add (Nat.add_le_add_left (Nat.le_max_right a b) u) (Nat.le_max_right c d)) h⟩
theorem eqRS_cons {x:PV} {xs:List PV} (hx:EqR prog w P P' x) (hxs:EqRS prog w P P' xs):EqRS prog w P P' (x :: xs):=by
  intro ys A s vs vs' k ra rb h hu j h1 h2
  cases ys with
  | nil=>rw [rb.length] at h2; exact absurd h2 (Nat.not_lt_zero _)
  | cons y ys =>
    obtain ⟨a,b,ha,hb,rfl⟩:=aeqs_inv h
    cases ra with
    | cons ra1 ras =>
      cases rb with
      | cons rb1 rbs =>
        cases j with
        | zero =>
          have:=hx y A s _ _ a ra1 rb1 ha (lt_max hu).1
          show EqAt A s _ _ ((aeq x y).getD false)
          rw [ha]; exact this
        | succ j=>exact hxs ys A s _ _ b ras rbs hb (lt_max hu).2 j (Nat.lt_of_succ_lt_succ h1) (Nat.lt_of_succ_lt_succ h2)
theorem eqAt_R (da:PV):EqR prog w P P' da :=
  PV.rec (motive_1:=EqR prog w P P') (motive_2:=EqRS prog w P P') (eqR_of fun zz h=>by rcases h with h | h <;> cases h) (fun zz=>eqR_of fun zz h=>by rcases h with h | h <;> cases h) (fun zz=>eqR_of fun zz h=>by rcases h with h | h <;> cases h) (fun zz=>eqR_of fun zz h=>by rcases h with h | h <;> cases h)
    (fun ds ih=>eqR_of fun zz h=>by rcases h with h | h <;> cases h; exact ih) (fun ds ih=>eqR_of fun zz h=>by rcases h with h | h <;> cases h; exact ih)
    (fun zz zz zz=>eqR_of fun zz h=>by rcases h with h | h <;> cases h) (fun zz zz zz=>eqR_of fun zz h=>by rcases h with h | h <;> cases h) eqRS_nil (fun zz zz=>eqRS_cons) da
theorem eqAt_RS (xs:List PV):EqRS prog w P P' xs:=by
  induction xs with
  | nil=>exact eqRS_nil
  | cons x xs ih=>exact eqRS_cons (eqAt_R x) ih
end
end Mine
namespace Mine
open PySem
structure CE where
  names:List Str
  kind:Str → Option NameKind
noncomputable def lastIdx (x:Str):List Str → Nat → Option Nat
  | [],_=>Option.none
  | y :: ys,n=>match lastIdx x ys (n + 1) with
    | some i=>some i
    | Option.none=>if y = x then some n else Option.none
noncomputable def CE.idx (ce:CE) (x:Str):Option Nat:=lastIdx x ce.names 0
noncomputable def isVar:Option NameKind → Bool
  | some .local | some .cell | some .free=>true
  | _=>false
noncomputable def isGlob:Option NameKind → Bool
  | some .globalImplicit=>true
  | _=>false
noncomputable def relab (κ:Str → Option NameKind) (names:List (Str × NameKind)):List (Str × NameKind) :=
  names.map fun y=>if (y.2 == .free && κ y.1 == some .cell) then (y.1,.cell) else y
noncomputable def CE.inner (ce:CE) (scope:Scope) (xs:List Str):CE:=⟨ce.names ++ xs,fun y=>(relab ce.kind scope.names).lookup y⟩
noncomputable def isFn:ScopeKind → Bool
  | .function=>true
  | _=>false
noncomputable def isLocal:NameKind → Bool
  | .local=>true
  | _=>false
noncomputable def isFree:NameKind → Bool
  | .free=>true
  | _=>false
noncomputable def isCellK:NameKind → Bool
  | .cell=>true
  | _=>false
noncomputable def lookLocal (names:List (Str × NameKind)) (x:Str):Bool:=match names.lookup x with
  | some .local=>true
  | _=>false
noncomputable def hasCell:Option NameKind → Bool
  | some .cell | some .free=>true
  | _=>false
noncomputable def CE.compOk (ce:CE) (scope:Scope) (xs:List Str):Bool :=
  isFn scope.kind && scope.names.all (fun y=>!isCellK y.2) && scope.names.all (fun y=>!isLocal y.2 || lookLocal scope.names y.1) && xs.all (lookLocal scope.names) &&
  scope.names.all (fun y=>!isFree y.2 || hasCell (ce.kind y.1)) && !ce.names.contains (".0":Str) && scope.names.all (fun y=>!isLocal y.2 || y.1 == (".0":Str) || xs.contains y.1) && !xs.contains (".0":Str)
noncomputable def isSetE:Expr → Bool
  | .Set ..=>true
  | _=>false
noncomputable def isStar:Expr → Bool
  | .Starred ..=>true
  | _=>false
noncomputable def got {α:Type} {p:α → Prop} (o:Option {x:α // p x}) (f:α → Bool):Bool:=match o with
  | some x=>f x.1
  | Option.none=>false
inductive Gt {α:Type} (p:α → Prop) (f:α → Bool):Prop
  | mk (x:α) (h:p x) (k:f x = true):Gt p f
theorem got_of {α:Type} {p:α → Prop} {o:Option {x:α // p x}} {f:α → Bool} (h:got o f = true):Gt p f:=by
  cases o with
  | none=>cases h
  | some x=>exact ⟨x.1,x.2,h⟩
theorem and2 {a b:Bool} (h:(a && b) = true):a = true ∧ b = true:=by
  cases a with
  | true=>exact ⟨rfl,h⟩
  | false=>cases h
theorem notT {a:Bool} (h:(!a) = true):a = false:=by
  cases a with
  | true=>cases h
  | false=>rfl
theorem decT {p:Prop} [Decidable p] (h:decide p = true):p:=of_decide_eq_true h
theorem isNone_of {α:Type} {o:Option α} (h:o.isNone = true):o = Option.none:=by
  cases o with
  | none=>rfl
  | some zz=>cases h
theorem isEmpty_of {α:Type} {o:List α} (h:o.isEmpty = true):o = []:=by
  cases o with
  | nil=>rfl
  | cons zz zz=>cases h
noncomputable def dName (e:Expr):Option {x:Str // ∃ p,e = .Name x p}:=if h:e.ctorIdx = 23 then Expr.Name.elim e h fun x p=>some ⟨x,p,rfl⟩ else Option.none
noncomputable def dConst (e:Expr):Option {x:Const // ∃ k p,e = .Constant x k p}:=if h:e.ctorIdx = 19 then Expr.Constant.elim e h fun x k p=>some ⟨x,k,p,rfl⟩ else Option.none
noncomputable def dUn (e:Expr):Option {x:UnaryOp × Expr // ∃ p,e = .UnaryOp x.1 x.2 p}:=if h:e.ctorIdx = 3 then Expr.UnaryOp.elim e h fun o y p=>some ⟨(o,y),p,rfl⟩ else Option.none
noncomputable def dList (e:Expr):Option {x:List Expr // ∃ p,e = .List x p}:=if h:e.ctorIdx = 24 then Expr.List.elim e h fun x p=>some ⟨x,p,rfl⟩ else Option.none
noncomputable def dTuple (e:Expr):Option {x:List Expr // ∃ k p,e = .Tuple x k p}:=if h:e.ctorIdx = 25 then Expr.Tuple.elim e h fun x k p=>some ⟨x,k,p,rfl⟩ else Option.none
noncomputable def dBin (e:Expr):Option {x:Expr × Operator × Expr // ∃ p,e = .BinOp x.1 x.2.1 x.2.2 p}:=if h:e.ctorIdx = 2 then Expr.BinOp.elim e h fun l o r p=>some ⟨(l,o,r),p,rfl⟩ else Option.none
noncomputable def dSub (e:Expr):Option {x:Expr × Expr // ∃ p,e = .Subscript x.1 x.2 p}:=if h:e.ctorIdx = 21 then Expr.Subscript.elim e h fun v s p=>some ⟨(v,s),p,rfl⟩ else Option.none
noncomputable def dSlice (e:Expr):Option {x:Option Expr × Option Expr × Option Expr // ∃ p,e = .Slice x.1 x.2.1 x.2.2 p}:=if h:e.ctorIdx = 26 then Expr.Slice.elim e h fun l u s p=>some ⟨(l,u,s),p,rfl⟩ else Option.none
noncomputable def dCompare (e:Expr):Option {x:Expr × List CmpOp × List Expr // ∃ p,e = .Compare x.1 x.2.1 x.2.2 p}:=if h:e.ctorIdx = 15 then Expr.Compare.elim e h fun l o r p=>some ⟨(l,o,r),p,rfl⟩ else Option.none
noncomputable def dBoolOp (e:Expr):Option {x:BoolOp × List Expr // ∃ p,e = .BoolOp x.1 x.2 p}:=if h:e.ctorIdx = 0 then Expr.BoolOp.elim e h fun o l p=>some ⟨(o,l),p,rfl⟩ else Option.none
noncomputable def dIf (e:Expr):Option {x:Expr × Expr × Expr // ∃ p,e = .IfExp x.1 x.2.1 x.2.2 p}:=if h:e.ctorIdx = 5 then Expr.IfExp.elim e h fun t a b p=>some ⟨(t,a,b),p,rfl⟩ else Option.none
noncomputable def dCall (e:Expr):Option {x:Expr × List Expr × List Keyword × Pos // e = .Call x.1 x.2.1 x.2.2.1 x.2.2.2}:=if h:e.ctorIdx = 16 then Expr.Call.elim e h fun f as ks p=>some ⟨(f,as,ks,p),rfl⟩ else Option.none
noncomputable def dAttr (e:Expr):Option {x:Expr × Str × Pos // e = .Attribute x.1 x.2.1 x.2.2}:=if h:e.ctorIdx = 20 then Expr.Attribute.elim e h fun o m p=>some ⟨(o,m,p),rfl⟩ else Option.none
noncomputable def dLC (e:Expr):Option {x:Expr × List Comprehension × Scope // ∃ p,e = .ListComp x.1 x.2.1 x.2.2 p}:=if h:e.ctorIdx = 8 then Expr.ListComp.elim e h fun el gs sc p=>some ⟨(el,gs,sc),p,rfl⟩ else Option.none
noncomputable def dJoined (e:Expr):Option {x:List Expr // ∃ p,e = .JoinedStr x p}:=if h:e.ctorIdx = 18 then Expr.JoinedStr.elim e h fun x p=>some ⟨x,p,rfl⟩ else Option.none
noncomputable def dFmt (e:Expr):Option {x:Expr × Int × Option Expr // ∃ p,e = .FormattedValue x.1 x.2.1 x.2.2 p}:=if h:e.ctorIdx = 17 then Expr.FormattedValue.elim e h fun v c s p=>some ⟨(v,c,s),p,rfl⟩ else Option.none
noncomputable def dEDict (e:Expr):Option {x:Pos // e = .Dict [] [] x}:=if h:e.ctorIdx = 6 then Expr.Dict.elim e h fun ks vs p=>match ks,vs with
  | [],[]=>some ⟨p,rfl⟩
  | zz,zy=>Option.none
  else Option.none
noncomputable def dOne {α:Type} (l:List α):Option {x:α // l = [x]}:=match l with
  | [x]=>some ⟨x,rfl⟩
  | _=>Option.none
noncomputable def dPair {α:Type} (l:List α):Option {x:α × α // l = [x.1,x.2]}:=match l with
  | [x,y]=>some ⟨(x,y),rfl⟩
  | _=>Option.none
noncomputable def dTriple {α:Type} (l:List α):Option {x:α × α × α // l = [x.1,x.2.1,x.2.2]}:=match l with
  | [x,y,z]=>some ⟨(x,y,z),rfl⟩
  | _=>Option.none
noncomputable def dSome {α:Type} (l:Option α):Option {x:α // l = some x}:=match l with
  | some x=>some ⟨x,rfl⟩
  | _=>Option.none
noncomputable def dGen (g:Comprehension):Option {x:Str × Expr × List Expr // ∃ p,g = ⟨.Name x.1 p,x.2.1,x.2.2,0⟩}:=match g with
  | ⟨.Name x p,it,ifs,0⟩=>some ⟨(x,it,ifs),p,rfl⟩
  | _=>Option.none
noncomputable def isCall0 (e:Expr):Bool:=(dCall e).isSome
noncomputable def isEDict (e:Expr):Bool:=(dEDict e).isSome
theorem isEDict_eq {e:Expr} (h:isEDict e = true):∃ p,e = .Dict [] [] p:=by
  obtain ⟨x,zz⟩:=some_of h
  exact ⟨x.1,x.2⟩
noncomputable def isNeg (i:Int) (e:Expr):Bool:=got (dUn e) fun x=>x.1 == .USub && got (dConst x.2) fun c=>c == .int i
theorem isNeg_eq {i:Int} {e:Expr} (h:isNeg i e = true):∃ k p q,e = .UnaryOp .USub (.Constant (.int i) k p) q:=by
  obtain ⟨x,⟨q,rfl⟩,ha⟩:=got_of h
  refine cps fun Gq hGq=>?_
  obtain ⟨h1,h2⟩:=and2 ha
  obtain ⟨c,⟨k,p,e⟩,h3⟩:=got_of h2
  refine hGq ?_
  clear hGq
  exact ⟨k,p,q,by rw [e,eq_of_beq h1,eq_of_beq h3]⟩
noncomputable def callN (k:Str → List Expr → Bool) (e:Expr):Bool:=got (dCall e) fun x=>x.2.2.1.isEmpty && got (dName x.1) fun f=>k f x.2.1
theorem callN_eq {k:Str → List Expr → Bool} {e:Expr} (h:callN k e = true):∃ f as p q,e = .Call (.Name f p) as [] q ∧ k f as = true:=by
  obtain ⟨x,rfl,ha⟩:=got_of h
  refine cps fun Gq hGq=>?_
  obtain ⟨h1,h2⟩:=and2 ha
  obtain ⟨f,⟨p,e⟩,h3⟩:=got_of h2
  refine hGq ?_
  clear hGq
  exact ⟨f,_,p,_,by rw [e,isEmpty_of h1],h3⟩
noncomputable def callOf (ce:CE) (f:Str) (k:List Expr → Bool) (e:Expr):Bool:=callN (fun g as=>decide (g = f) && (isGlob (ce.kind f) && (as.all (!isStar ·) && k as))) e
inductive CallOf (ce:CE) (f:Str) (k:List Expr → Bool) (e:Expr):Prop
  | mk (as:List Expr) (p q:Pos) (h:e = .Call (.Name f p) as [] q) (h1:isGlob (ce.kind f) = true) (h2:as.all (!isStar ·) = true) (h3:k as = true):CallOf ce f k e
theorem callOf_eq {ce:CE} {f:Str} {k:List Expr → Bool} {e:Expr} (h:callOf ce f k e = true):CallOf ce f k e:=by
  obtain ⟨g,as,p,q,rfl,ha⟩:=callN_eq h
  obtain ⟨h1,hb⟩:=and2 ha
  obtain ⟨h2,hc⟩:=and2 hb
  exact ⟨as,p,q,by rw [decT h1],h2,(and2 hc).1,(and2 hc).2⟩
noncomputable def call1 (ce:CE) (f:Str) (k:Expr → Bool) (e:Expr):Bool:=callOf ce f (fun as=>got (dOne as) k) e
inductive Call1 (ce:CE) (f:Str) (k:Expr → Bool) (e:Expr):Prop
  | mk (x:Expr) (p q:Pos) (h:e = .Call (.Name f p) [x] [] q) (h1:isGlob (ce.kind f) = true) (h2:[x].all (!isStar ·) = true) (h3:k x = true):Call1 ce f k e
theorem call1_eq {ce:CE} {f:Str} {k:Expr → Bool} {e:Expr} (h:call1 ce f k e = true):Call1 ce f k e:=by
  obtain ⟨as,p,q,rfl,h1,h2,ha⟩:=callOf_eq h
  obtain ⟨x,rfl,h3⟩:=got_of ha
  exact ⟨x,p,q,rfl,h1,h2,h3⟩
noncomputable def meth (m:Str) (k:Expr → List Expr → Bool) (e:Expr):Bool:=got (dCall e) fun x=>x.2.2.1.isEmpty && got (dAttr x.1) fun y=>decide (y.2.1 = m) && ((y.2.2.endLine == x.2.2.2.line) && (!isCall0 y.1 && k y.1 x.2.1))
inductive Meth (m:Str) (k:Expr → List Expr → Bool) (e:Expr):Prop
  | mk (o:Expr) (as:List Expr) (ap q:Pos) (h:e = .Call (.Attribute o m ap) as [] q) (h1:(ap.endLine == q.line) = true) (h2:isCall0 o = false) (h3:k o as = true):Meth m k e
theorem meth_eq {m:Str} {k:Expr → List Expr → Bool} {e:Expr} (h:meth m k e = true):Meth m k e:=by
  obtain ⟨x,rfl,ha⟩:=got_of h
  refine cps fun Gq hGq=>?_
  obtain ⟨h1,hb⟩:=and2 ha
  obtain ⟨y,e,hc⟩:=got_of hb
  obtain ⟨h2,hd⟩:=and2 hc
  obtain ⟨h3,he⟩:=and2 hd
  obtain ⟨h4,hf⟩:=and2 he
  refine hGq ?_
  clear hGq
  exact ⟨y.1,_,y.2.2,_,by rw [e,isEmpty_of h1,decT h2],h3,notT h4,hf⟩
noncomputable def cmp1 (k:Expr → CmpOp → Expr → Bool) (e:Expr):Bool:=got (dCompare e) fun x=>got (dOne x.2.1) fun o=>got (dOne x.2.2) fun r=>k x.1 o r
theorem cmp1_eq {k:Expr → CmpOp → Expr → Bool} {e:Expr} (h:cmp1 k e = true):∃ l o r p,e = .Compare l [o] [r] p ∧ k l o r = true:=by
  obtain ⟨x,⟨p,rfl⟩,ha⟩:=got_of h
  refine cps fun Gq hGq=>?_
  obtain ⟨o,e1,hb⟩:=got_of ha
  obtain ⟨r,e2,hc⟩:=got_of hb
  refine hGq ?_
  clear hGq
  exact ⟨x.1,o,r,p,by rw [e1,e2],hc⟩
noncomputable def slic (k:Expr → Option Expr → Option Expr → Option Expr → Bool) (e:Expr):Bool:=got (dSub e) fun x=>got (dSlice x.2) fun y=>k x.1 y.1 y.2.1 y.2.2
theorem slic_eq {k:Expr → Option Expr → Option Expr → Option Expr → Bool} {e:Expr} (h:slic k e = true):∃ v l u s p q,e = .Subscript v (.Slice l u s p) q ∧ k v l u s = true:=by
  obtain ⟨x,⟨q,rfl⟩,ha⟩:=got_of h
  refine cps fun Gq hGq=>?_
  obtain ⟨y,⟨p,e⟩,hb⟩:=got_of ha
  refine hGq ?_
  clear hGq
  exact ⟨x.1,y.1,y.2.1,y.2.2,p,q,by rw [e],hb⟩
noncomputable def comp1 (k:Expr → Str → Expr → Scope → Bool) (e:Expr):Bool:=got (dLC e) fun x=>got (dOne x.2.1) fun g=>got (dGen g) fun y=>y.2.2.isEmpty && k x.1 y.1 y.2.1 x.2.2
theorem comp1_eq {k:Expr → Str → Expr → Scope → Bool} {e:Expr} (h:comp1 k e = true):∃ el x i sc p q,e = .ListComp el [⟨.Name x p,i,[],0⟩] sc q ∧ k el x i sc = true:=by
  obtain ⟨x,⟨q,rfl⟩,ha⟩:=got_of h
  obtain ⟨g,e1,hb⟩:=got_of ha
  obtain ⟨y,⟨p,rfl⟩,hc⟩:=got_of hb
  obtain ⟨h1,hd⟩:=and2 hc
  exact ⟨x.1,y.1,y.2.1,x.2.2,p,q,by rw [e1,isEmpty_of h1],hd⟩
noncomputable def comp2 (k:Expr → Str → Expr → Expr → Str → Expr → Scope → Bool) (e:Expr):Bool :=
  got (dLC e) fun x=>got (dPair x.2.1) fun g=>got (dGen g.1) fun y=>got (dGen g.2) fun z=>got (dOne y.2.2) fun c=>z.2.2.isEmpty && k x.1 y.1 y.2.1 c z.1 z.2.1 x.2.2
theorem comp2_eq {k:Expr → Str → Expr → Expr → Str → Expr → Scope → Bool} {e:Expr} (h:comp2 k e = true):∃ el x i c y j sc p q r,e = .ListComp el [⟨.Name x p,i,[c],0⟩,⟨.Name y q,j,[],0⟩] sc r ∧ k el x i c y j sc = true:=by
  obtain ⟨x,⟨r,rfl⟩,ha⟩:=got_of h
  refine cps fun Gq hGq=>?_
  obtain ⟨g,e1,hb⟩:=got_of ha
  obtain ⟨y,⟨p,e2⟩,hc⟩:=got_of hb
  obtain ⟨z,⟨q,e3⟩,hd⟩:=got_of hc
  obtain ⟨c,e4,he⟩:=got_of hd
  obtain ⟨h1,hf⟩:=and2 he
  refine hGq ?_
  clear hGq
  exact ⟨x.1,y.1,y.2.1,c,z.1,z.2.1,x.2.2,p,q,r,by rw [e1,e2,e3,e4,isEmpty_of h1],hf⟩
mutual
noncomputable def chk:SExpr → CE → Expr → Bool
  | .var i,ce,e=>got (dName e) fun x=>(ce.idx x == some i) && (isVar (ce.kind x) && (!(x == ("__debug__":Str)) && !(x == ("__classdict__":Str))))
  | .none,_,e=>got (dConst e) fun c=>c == .none
  | .bool b,_,e=>got (dConst e) fun c=>c == .bool b
  | .int i,_,e=>got (dConst e) fun c=>c == .int i
  | .neg i,_,e=>isNeg i e
  | .str x,_,e=>got (dConst e) fun c=>c == .str x
  | .list es,ce,e=>got (dList e) fun l=>chks es ce l
  | .tup es,ce,e=>got (dTuple e) fun l=>chks es ce l
  | .edict,_,e=>isEDict e
  | .bin op a b,ce,e=>got (dBin e) fun x=>x.2.1 == op && (chk a ce x.1 && chk b ce x.2.2)
  | .idx a i,ce,e=>got (dSub e) fun x=>(dSlice x.2).isNone && (chk a ce x.1 && chk i ce x.2)
  | .sfrom a i,ce,e=>slic (fun v l u s=>u.isNone && (s.isNone && (chk a ce v && got (dSome l) fun y=>chk i ce y))) e
  | .supto a i,ce,e=>slic (fun v l u s=>l.isNone && (s.isNone && (chk a ce v && got (dSome u) fun y=>chk i ce y))) e
  | .sall a,ce,e=>slic (fun v l u s=>l.isNone && (u.isNone && (s.isNone && chk a ce v))) e
  | .srev a,ce,e=>slic (fun v l u s=>l.isNone && (u.isNone && (chk a ce v && got (dSome s) fun y=>isNeg 1 y))) e
  | .cmp op a b,ce,e=>cmp1 (fun l o r=>o == op && (chk a ce l && (chk b ce r && !isSetE r))) e
  | .isN neg a,ce,e=>cmp1 (fun l o r=>(o == if neg then CmpOp.IsNot else CmpOp.Is) && (chk a ce l && got (dConst r) fun c=>c == .none)) e
  | .typeIs T a,ce,e=>cmp1 (fun l o r=>o == .Is && (call1 ce "type" (fun x=>chk a ce x) l && ((T == ("list":Str) || T == ("int":Str)) && got (dName r) fun y=>y == T && isGlob (ce.kind T)))) e
  | .band es,ce,e=>got (dBoolOp e) fun x=>x.1 == .And && (chks es ce x.2 && !x.2.isEmpty)
  | .bor es,ce,e=>got (dBoolOp e) fun x=>x.1 == .Or && (chks es ce x.2 && !x.2.isEmpty)
  | .not a,ce,e=>got (dUn e) fun x=>x.1 == .Not && chk a ce x.2
  | .ife t a b,ce,e=>got (dIf e) fun x=>chk t ce x.1 && (chk a ce x.2.1 && chk b ce x.2.2)
  | .call f es,ce,e=>callOf ce f (fun as=>chks es ce as && !(f == ("__debug__":Str))) e
  | .len a,ce,e=>call1 ce "len" (fun x=>chk a ce x) e
  | .sorted a,ce,e=>call1 ce "sorted" (fun x=>chk a ce x) e
  | .sortedSet a,ce,e=>call1 ce "sorted" (fun x=>call1 ce "set" (fun x=>chk a ce x) x) e
  | .all a,ce,e=>call1 ce "all" (fun x=>chk a ce x) e
  | .range a,ce,e=>call1 ce "range" (fun x=>chk a ce x) e
  | .rangeDown a,ce,e=>callOf ce "range" (fun as=>got (dTriple as) fun x=>isNeg 1 x.2.1 && (isNeg 1 x.2.2 && chk a ce x.1)) e
  | .dictOf a,ce,e=>call1 ce "dict" (fun x=>chk a ce x) e
  | .items a,ce,e=>call1 ce "list" (fun x=>meth "items" (fun o as=>as.isEmpty && chk a ce o) x) e
  | .get o k d,ce,e=>meth "get" (fun o' as=>chk o ce o' && got (dPair as) fun x=>chk k ce x.1 && (chk d ce x.2 && (!isStar x.1 && !isStar x.2))) e
  | .comp elt it,ce,e=>comp1 (fun el x i scope=>ce.compOk scope [x] && (chk it ce i && (chk elt (ce.inner scope [x]) el && !isSetE i))) e
  | .comp2 elt it cond it2,ce,e=>comp2 (fun el x i c y i2 scope=>chk cond (ce.inner scope [x,y]) c && (ce.compOk scope [x,y] && (chk it ce i && (chk it2 (ce.inner scope [x,y]) i2 && (chk elt (ce.inner scope [x,y]) el && (!isSetE i && (!isSetE i2 && !(x == y)))))))) e
  | .fstr es,ce,e=>got (dJoined e) fun l=>chks es ce l && decide (2 ≤ l.length)
  | .fval a,ce,e=>got (dFmt e) fun x=>x.2.1 == -1 && (x.2.2.isNone && chk a ce x.1)
noncomputable def chks:List SExpr → CE → List Expr → Bool
  | [],_,l=>l.isEmpty
  | s :: ss,ce,l=>match l with
    | e :: es=>chk s ce e && (!isStar e && chks ss ce es)
    | []=>false
end
end Mine
namespace Mine
open PySem PySem.SeqAt PySem.Calls PyProof.Rows
abbrev Pd:=Bool → Bool → Addr → Prop
structure Pd.Ok (P:Pd) (h:Heap):Prop where
  mono:∀ f c f' c' a,(f' = true → f = true) → (c' = true → c = true) → P f c a → P f' c' a
  fresh:∀ f c a,h.get? a = none → P f c a
theorem Pd.Ok.keeps {P:Pd} {h h':Heap} (x:P.Ok h) (hk:∀ b o,h.get? b = some o → h'.get? b = some o):P.Ok h' :=
  ⟨x.mono,fun f c a e=>x.fresh f c a (by cases q:h.get? a with | none=>rfl | some o=>rw [hk a o q] at e; cases e)⟩
theorem size_none (h:Heap):h.get? h.objs.size = none:=by
  cases q:h.get? h.objs.size with
  | none=>rfl
  | some o=>exact absurd (Heap.lt_size q) (Nat.lt_irrefl _)
structure Pst (prog:Program) (w:World) (P:Pd) (s:Shared) (r:RV) (v:Value) (s':Shared):Prop where
  kp:Keeps s s'
  rl:R prog w s'.heap (P r.f r.c) v r.d
theorem krefl (s:Shared):Keeps s s:=⟨s.heap,s.toks,s.drawn,rfl,fun zz zz e=>e⟩
theorem ktoks (s:Shared) (t:Nat):Keeps s { s with toks:=t }:=⟨s.heap,t,s.drawn,rfl,fun zz zz e=>e⟩
theorem kpush (s:Shared) (o:Obj):Keeps s { s with heap:=s.heap.push o }:=⟨_,s.toks,s.drawn,rfl,fun zz zz e=>Heap.get?_push_of_some _ e⟩
theorem ktrans {s s' s'':Shared} (x:Keeps s s') (y:Keeps s' s''):Keeps s s'':=by
  obtain ⟨h,t,dr,rfl,k⟩:=x
  obtain ⟨h',t',dr',rfl,k'⟩:=y
  exact ⟨h',t',dr',rfl,fun b o e=>k' b o (k b o e)⟩
theorem kheap {s s':Shared} (x:Keeps s s'):∀ b o,s.heap.get? b = some o → s'.heap.get? b = some o:=by
  obtain ⟨h,t,dr,rfl,k⟩:=x
  exact k
section
variable {prog:Program} {w:World} {A:Around} {E:Value → Shared → Prop} {s:Shared} {P:Pd}
theorem pst_atom {d:PV} {v:Value} {s':Shared} (k:Keeps s s') (x:R prog w s'.heap (fun zz=>True) v d) (ha:d.atom = true):Pst prog w P s (at1 d) v s':=⟨k,x.atom ha⟩
theorem part_ok {h:Heap} {r:RV} {d:PV} {v:Value} (x:R prog w h (P r.f r.c) v d):R prog w h (P (part r d).f (part r d).c) v (part r d).d:=by
  delta part
  cases ha:d.atom with
  | true=>exact x.atom ha
  | false=>exact x
theorem newl_d {f c:Bool} {ds:List PV} {r:RV} (h:newl f c ds = some r):r.d = .list ds ∧ ds.length ≤ lim ∧ ((ds.all PV.atom = true ∧ r.f = true ∧ r.c = true) ∨ (r.f = f ∧ r.c = c)):=by
  obtain ⟨hz,rfl⟩:=if_of h
  cases ha:ds.all PV.atom with
  | true=>exact ⟨rfl,hz,.inl ⟨rfl,rfl,rfl⟩⟩
  | false=>exact ⟨rfl,hz,.inr ⟨rfl,rfl⟩⟩
theorem RS.newl {h:Heap} {f c:Bool} {ds:List PV} {vs:List Value} {r:RV} (hn:newl f c ds = some r) (x:RS prog w h (P f c) vs ds):RS prog w h (P r.f r.c) vs ds:=by
  obtain ⟨zz,zz,h3⟩:=newl_d hn
  rcases h3 with ⟨ha,zz,zz⟩ | ⟨h1,h2⟩
  · exact x.atom ha
  · rw [h1,h2]; exact x
theorem pst_newl {f c:Bool} {ds:List PV} {vs:List Value} {r:RV} {s':Shared} (hP:P.Ok s.heap) (hn:newl f c ds = some r) (x:RS prog w s'.heap (P f c) vs ds) (k:Keeps s s') :
    Pst prog w P s r (.ref s'.heap.objs.size) { s' with heap:=s'.heap.push { cls:=.type "list",data:=.seq vs.toArray } }:=by
  obtain ⟨h1,h2,zz⟩:=newl_d hn
  refine ⟨ktrans k (kpush _ _),?_⟩
  rw [h1]
  exact .list ((hP.keeps (kheap k)).fresh _ _ _ (size_none _)) (Heap.get?_push_size _ rfl) h2 ((x.newl hn).keeps fun zz zz e=>Heap.get?_push_of_some _ e)
theorem lim_is:lim = 1000000:=rfl
theorem lim_size:lim ≤ sizeLine:=by decide
theorem flatten_foldl (items:List Value) (n:Nat):(List.foldl (fun x1 x2=>x1 ++ x2) #[] (List.replicate (if items.toArray.isEmpty = true then 0 else n) items.toArray)) = (List.replicate n items).flatten.toArray:=by
  have key:∀ (k:Nat) (acc:Array Value),List.foldl (fun x1 x2=>x1 ++ x2) acc (List.replicate k items.toArray) = acc ++ (List.replicate k items).flatten.toArray:=by
    intro k
    induction k with
    | zero=>intro acc; simp
    | succ k ih=>intro acc; rw [List.replicate_succ,List.foldl_cons,ih,List.replicate_succ,List.flatten_cons]; simp
  by_cases hi:items = []
  · subst hi; simp
  · have:items.toArray.isEmpty = false:=by simpa using hi
    rw [this,if_neg (by decide),key]; simp
theorem and_l {a b:Bool} (h:(a && b) = true):a = true:=(and2 h).1
theorem and_r {a b:Bool} (h:(a && b) = true):b = true:=(and2 h).2
theorem op_add {x y r:RV} {vx vy:Value} (h:addOf x y = some r) (hP:P.Ok s.heap) (hx:R prog w s.heap (P x.f x.c) vx x.d) (hy:R prog w s.heap (P y.f y.c) vy y.d) :
    wpAny (model prog w) A (binaryOp .Add vx vy) (Pst prog w P s r) E s:=by
  obtain ⟨xd,f,c⟩:=x
  cases xd with
  | int a =>
    obtain ⟨b,hb,rfl⟩:=map_of h
    rw [dI_eq hb] at hy
    induction hx.i with | int t=>induction hy.i with | int u=>exact wpAny_add_int (pst_atom (ktoks _ _) (.int _ _) rfl)
  | str a =>
    obtain ⟨b,hb,h1⟩:=bind_of h
    obtain ⟨hz,rfl⟩:=if_of h1
    rw [dS_eq hb] at hy
    induction hx.s with | str t=>induction hy.s with | str u=>exact PyProof.Rows.add_str (fun t' tk=>pst_atom (ktoks _ _) (.str _ _) rfl) (Nat.le_trans hz lim_size)
  | list xs =>
    obtain ⟨ys,hb,h1⟩:=bind_of h
    rw [dL_eq hb] at hy
    induction hx.l with
    | list p1 e1 z1 r1 =>
      induction hy.l with
      | list p2 e2 z2 r2 =>
        refine _root_.PySem.P.add_list e1 e2 ?_ ?_
        · have:=pst_newl hP h1 ((r1.mono fun a=>hP.mono _ _ _ _ a and_l and_l).append (r2.mono fun a=>hP.mono _ _ _ _ a and_r and_r)) (krefl s)
          rw [List.append_toArray]
          exact this
        · rw [List.size_toArray,List.size_toArray,r1.length,r2.length,← List.length_append]
          exact Nat.le_trans (newl_d h1).2.1 lim_size
  | _=>cases h
theorem op_mul {x y r:RV} {vx vy:Value} (h:mulOf x y = some r) (hP:P.Ok s.heap) (hx:R prog w s.heap (P x.f x.c) vx x.d) (hy:R prog w s.heap (P y.f y.c) vy y.d) :
    wpAny (model prog w) A (binaryOp .Mult vx vy) (Pst prog w P s r) E s:=by
  obtain ⟨xd,f,c⟩:=x
  cases xd with
  | int a =>
    obtain ⟨b,hb,h1⟩:=bind_of h
    obtain ⟨hz,rfl⟩:=if_of h1
    rw [dI_eq hb] at hy
    induction hx.i with | int t=>induction hy.i with | int u=>exact PyProof.Rows.mul_int (pst_atom (ktoks _ _) (.int _ _) rfl) (IntMulOk.of_left (intBits_le_64 (by omega) (by omega)))
  | list xs =>
    refine cps fun Gq hGq=>?_
    obtain ⟨n,hb,h1⟩:=bind_of h
    obtain ⟨hz,h2⟩:=ifo_of h1
    refine hGq ?_
    clear hGq
    rw [dI_eq hb] at hy
    induction hx.l with
    | @list a vs n' p1 e1 z1 r1 =>
      induction hy.i with
      | int t =>
        have hb2:vs.toArray.size * n.toNat ≤ 1000000:=by rw [List.size_toArray,r1.length]; exact hz.1
        have hl:=lim_is
        refine wpAny_binaryOp_repeat_ref (T:="list") (U:="int") (by decide) ⟨_,e1,rfl⟩ (fun s'=>typeIs_int s' n t) noFill_list_mul F.fills_int_mul F.slot_int_rmul repeat_list F.slot_int_index.lookup
          (call_meets F.slot_int_rmul (typeIs_int s n t) F.entry_int_rmul (F.args_int_rmul_2 _ _) (int___rmul___int_list n t a vs.toArray n')
            ⟨e1,rfl,⟨_,e1,rfl⟩,call_meets F.slot_list_mul ⟨_,e1,rfl⟩ F.entry_list_mul (F.args_list_mul_2 _ _)
              (AutoListH.list___mul___list_int_3 a vs.toArray n' n t (by simp [Builtin.List.listFitsIndex]; omega) (by omega) (by simp [Builtin.List.listTooLong,sizeLine] at hb2 ⊢; omega))
              ⟨e1,?_⟩⟩)
        rw [flatten_foldl]
        exact pst_newl hP h2 (r1.replicate _) (krefl s)
  | _=>cases h
theorem op_bin {op:Operator} {x y r:RV} {vx vy:Value} (h:abin op x y = some r) (hP:P.Ok s.heap) (hx:R prog w s.heap (P x.f x.c) vx x.d) (hy:R prog w s.heap (P y.f y.c) vy y.d) :
    wpAny (model prog w) A (binaryOp op vx vy) (Pst prog w P s r) E s:=by
  cases op with
  | Add=>exact op_add h hP hx hy
  | Mult=>exact op_mul h hP hx hy
  | Sub =>
    obtain ⟨a,ha,h1⟩:=bind_of h
    obtain ⟨b,hb,rfl⟩:=map_of h1
    rw [dI_eq ha] at hx
    rw [dI_eq hb] at hy
    induction hx.i with | int t=>induction hy.i with | int u=>exact PyProof.Rows.sub_int (pst_atom (ktoks _ _) (.int _ _) rfl)
  | Mod =>
    refine cps fun Gq hGq=>?_
    obtain ⟨a,ha,h1⟩:=bind_of h
    obtain ⟨b,hb,h2⟩:=bind_of h1
    refine hGq ?_
    clear hGq
    obtain ⟨hz,rfl⟩:=if_of h2
    rw [dI_eq ha] at hx
    rw [dI_eq hb] at hy
    induction hx.i with | int t=>induction hy.i with | int u=>exact PyProof.Rows.mod_int hz (pst_atom (ktoks _ _) (.int _ _) rfl)
  | _=>cases h
theorem subscripted_is (slice:Expr) (o i:Value):∃ ops,subscripted slice false o i = operate ops (getItem o i):=by
  delta subscripted
  cases slice with
  | Slice l u st p=>cases st <;> exact ⟨_,rfl⟩
  | _=>exact ⟨_,rfl⟩
theorem ev_Subscript {env:Env} {value slice:Expr} {pos:Pos} {Q:Value → Shared → Prop}
    (h:wpAny (model prog w) A (eval value env) (fun o s₁=>wpAny (model prog w) A (eval slice env) (fun i s₂=>∃ T id,s₂.TypeIs o T ∧ typeLookup (.type T) "__getitem__" = pure (some (.builtin id)) ∧ wpAny (model prog w) A (getItem o i) Q E s₂) E s₁) E s) :
    wpAny (model prog w) A (eval (.Subscript value slice pos) env) Q E s :=
  Subscript_ (wpAny_mono h (fun o s₁ h₁=>wpAny_mono h₁ (fun i s₂ h₂=>by
    refine cps fun Gq hGq=>?_
    obtain ⟨T,id,hT,hl,hg⟩:=h₂
    obtain ⟨ops,hs⟩:=subscripted_is slice o i
    refine hGq ?_
    clear hGq
    exact tail_any hT hl hg hs) fun zz zz x=>x) fun zz zz x=>x)
theorem getA {vs:List Value} {k:Nat} {v:Value} (h:vs[k]? = some v):vs.toArray[k]? = some v:=List.getElem?_toArray.trans h
def IdxOk (prog:Program) (w:World) (A:Around) (s:Shared) (vx vi:Value) (Q:Value → Shared → Prop) (E:Value → Shared → Prop):Prop :=
  ∃ T id,s.TypeIs vx T ∧ typeLookup (.type T) "__getitem__" = pure (some (.builtin id)) ∧ wpAny (model prog w) A (getItem vx vi) Q E s
theorem op_idx {x:RV} {i:PV} {r:RV} {vx vi:Value} {Pi:Addr → Prop} (h:aidx x i = some r) (hx:R prog w s.heap (P x.f x.c) vx x.d) (hi:R prog w s.heap Pi vi i) :
    IdxOk prog w A s vx vi (Pst prog w P s r) E:=by
  obtain ⟨xd,xf,xc⟩:=x
  have hlim:=lim_is
  cases xd with
  | list ds =>
    obtain ⟨k,hk,h1⟩:=bind_of h
    rw [dI_eq hk] at hi
    induction hi.i with
    | int t =>
      induction hx.l with
      | list p e z rs =>
        have l1:=rs.length
        by_cases h0:0 ≤ k
        · rw [if_pos h0] at h1
          obtain ⟨d,hd,rfl⟩:=map_of h1
          obtain ⟨v,hv,rv⟩:=rs.get hd
          have hb:k.toNat < _:=(List.getElem?_eq_some_iff.mp hd).1
          exact ⟨"list",_,⟨_,e,rfl⟩,slot_list_getitem.lookup,wpAny_getItem_list (lobj_isList e) h0 (by lia) (getA hv) ⟨krefl _,part_ok (r:=⟨_,xf,xc⟩) rv⟩⟩
        · rw [if_neg h0] at h1
          obtain ⟨h2,h3⟩:=ifo_of h1
          obtain ⟨d,hd,rfl⟩:=map_of h3
          obtain ⟨v,hv,rv⟩:=rs.get hd
          exact ⟨"list",_,⟨_,e,rfl⟩,slot_list_getitem.lookup,wpAny_getItem_list_neg (lobj_isList e) (by lia) (by simp; lia) (by lia) (by simpa [l1] using hv) ⟨krefl _,part_ok (r:=⟨_,xf,xc⟩) rv⟩⟩
  | tup ds =>
    obtain ⟨k,hk,h1⟩:=bind_of h
    rw [dI_eq hk] at hi
    obtain ⟨h0,h2⟩:=ifo_of h1
    obtain ⟨d,hd,rfl⟩:=map_of h2
    induction hi.i with
    | int t =>
      induction hx.t with
      | tup p e z rs =>
        have l1:=rs.length
        obtain ⟨v,hv,rv⟩:=rs.get hd
        have hb:k.toNat < _:=(List.getElem?_eq_some_iff.mp hd).1
        refine ⟨"tuple",_,⟨_,e,rfl⟩,slot_tuple_getitem.lookup,PyProof.Rows.getItem_tuple (j:=k.toNat) (tobj_isTuple e) (by lia) (by lia) ?_ (getA hv) ⟨krefl _,part_ok (r:=⟨_,xf,xc⟩) rv⟩⟩
        have:¬ k < 0:=by lia
        simp [seqIndex?,this]
        lia
  | dict ks ds =>
    obtain ⟨k,hk,h1⟩:=bind_of h
    rw [dS_eq hk] at hi
    obtain ⟨d,hd,rfl⟩:=map_of h1
    induction hi.s with
    | str t =>
      induction hx.d with
      | dict p e q hk z rs =>
        subst hk
        have:=look_kvs rs k
        rw [hd] at this
        obtain ⟨v,hv,rv⟩:=this
        exact ⟨"dict",_,e.typeIs,slot_dict_getitem.lookup,wpAny_getItem_of (strKind_is prog w k t) e.mapOf hv ⟨ktoks _ _,part_ok (r:=⟨_,xf,xc⟩) rv⟩⟩
  | str x =>
    obtain ⟨k,hk,h1⟩:=bind_of h
    rw [dI_eq hk] at hi
    obtain ⟨h0,h2⟩:=ifo_of h1
    obtain ⟨c,hc,rfl⟩:=map_of h2
    induction hx.s with
    | str t =>
      induction hi.i with
      | int u =>
        have hb:=(Array.getElem?_eq_some_iff.mp hc).1
        refine ⟨"str",_,typeIs_str s x t,F.slot_str_getitem.lookup,PyProof.Rows.getItem_str ?_ ?_ (pst_atom (ktoks _ _) (.str _ _) rfl)⟩
        · simp; lia
        · have h1:¬ k < 0:=by lia
          have h2:k < (x.cps.size:Int):=by lia
          simp [seqIndex?,h1,h0.1,Str.length,h2]
          exact (Array.getElem?_eq_some_iff.mp hc).2
  | _=>cases h
theorem amem_any {x:PV}:∀ {ds:List PV} {k:Bool},amem x ds = some k → (∀ d ∈ ds,∃ b,aeq d x = some b) ∧ k = ds.any (fun d=>(aeq d x).getD false)
  | [],k,h=>⟨(fun zz h'=>nomatch h'),(Option.some.inj h).symm⟩
  | d :: ds,k,h=>by
    refine cps fun Gq hGq=>?_
    obtain ⟨a,ha,h1⟩:=bind_of h
    obtain ⟨b,hb,e⟩:=bind_of h1
    obtain ⟨i1,i2⟩:=amem_any hb
    refine hGq ?_
    clear hGq
    refine ⟨fun d' hd=>?_,?_⟩
    · rcases List.mem_cons.mp hd with rfl | hd
      · exact ⟨a,ha⟩
      · exact i1 d' hd
    · rw [List.any_cons,ha,← i2]
      exact (Option.some.inj e).symm
theorem PV.depths_mem {d:PV}:∀ {ds:List PV},d ∈ ds → d.depth ≤ PV.depths ds
  | x :: xs,h=>by
    rw [dpC]
    rcases List.mem_cons.mp h with rfl | h
    · exact Nat.le_max_left _ _
    · exact Nat.le_trans (PV.depths_mem h) (Nat.le_max_right _ _)
theorem RS.any {h:Heap} {Q:Addr → Prop} {f:PV → Bool} {g:Value → Bool} {vs:List Value} {ds:List PV} (x:RS prog w h Q vs ds) (hg:∀ v d,R prog w h Q v d → g v = f d):vs.any g = ds.any f:=by
  induction vs generalizing ds with
  | nil=>cases x; rfl
  | cons v vs ih=>cases x with | cons a r=>rw [List.any_cons,List.any_cons,hg _ _ a,ih r]
theorem RS.mem {h:Heap} {Q:Addr → Prop} {vs:List Value} {ds:List PV} (x:RS prog w h Q vs ds) (v:Value) (hv:v ∈ vs):∃ d,d ∈ ds ∧ R prog w h Q v d:=by
  induction vs generalizing ds with
  | nil=>cases hv
  | cons u vs ih =>
    cases x with
    | cons a r =>
      rcases List.mem_cons.mp hv with rfl | hv
      · exact ⟨_,List.mem_cons_self ..,a⟩
      · exact (ih r hv).imp fun d q=>⟨List.mem_cons_of_mem _ q.1,q.2⟩
noncomputable def datOf (prog:Program) (w:World) (h:Heap) (v:Value):PV:=open Classical in if x:∃ d,R prog w h (fun zz=>True) v d then x.choose else .none
theorem datOf_eq {h:Heap} {Q:Addr → Prop} {v:Value} {d:PV} (x:R prog w h Q v d):datOf prog w h v = d:=by
  have q:∃ d,R prog w h (fun zz=>True) v d:=⟨d,x.mono fun zz zz=>trivial⟩
  delta datOf
  rw [dif_pos q]
  exact R.det q.choose_spec x
theorem op_mem {x:PV} {ds:List PV} {k:Bool} {vx:Value} {l:Addr} {vs:List Value} {n:Nat} {Q1 Q2:Addr → Prop} (h:amem x ds = some k) (hx:R prog w s.heap Q1 vx x) (e:s.heap.get? l = some (lobj vs n)) (rs:RS prog w s.heap Q2 vs ds)
    (hu:A.units + 1 + PV.depths ds + x.depth < cLine) :
    (∀ y,y ∈ vs.toArray → EqAt A.in1 s y vx ((aeq (datOf prog w s.heap y) x).getD false)) ∧ vs.toArray.any (fun y=>(aeq (datOf prog w s.heap y) x).getD false) = k:=by
  obtain ⟨h1,h2⟩:=amem_any h
  refine ⟨fun y hy=>?_,?_⟩
  · obtain ⟨d,hd,ry⟩:=rs.mem y (by simpa using hy)
    obtain ⟨b,hb⟩:=h1 d hd
    rw [datOf_eq ry,hb]
    refine eqAt_R d x A.in1 s y vx b ry hx hb ?_
    have:=PV.depths_mem hd
    show A.units + 1 + _ + _ < _
    lia
  · rw [h2,List.any_toArray]
    exact rs.any fun v d rv=>by rw [datOf_eq rv]
theorem rcNeAt_lists {P P':Addr → Prop} {xs ys:List PV} {l l':Addr} {vs vs':List Value} {n n':Nat} {k:Bool} (r:RS prog w s.heap P vs xs) (r':RS prog w s.heap P' vs' ys)
    (e:s.heap.get? l = some (lobj vs n)) (e':s.heap.get? l' = some (lobj vs' n')) (h:aeqs xs ys = some k) (he:∀ j (h1:j < vs.length) (h2:j < vs'.length),EqAt A.in1 s vs[j] vs'[j] (pairAt xs ys j)) (hu:A.units < cLine) :
    RcNeAt A s (.ref l) (.ref l') (!k):=by
  have n1:=r.length
  have n2:=r'.length
  by_cases hsz:vs.length = vs'.length
  · have:=RcNeAt.lists (e:=pairAt xs ys) (lobj_isList e) (lobj_isList e') hsz hu he
    have q:=aeqs_all h
    have e1:xs.length = ys.length:=n1.symm.trans (hsz.trans n2)
    rw [beq_iff_eq.mpr e1,Bool.and_true,← e1,Nat.min_self,← n1] at q
    rw [← q]; exact this
  · rw [aeqs_length h fun q=>hsz (n1.trans (q.trans n2.symm))]
    exact RcNeAt.lists_lengths (A:=A) (lobj_isList e) (lobj_isList e') (bne_iff_ne.mpr hsz) hu
theorem rcNeAt_tuples {P P':Addr → Prop} {xs ys:List PV} {l l':Addr} {vs vs':List Value} {n n':Nat} {k:Bool} (r:RS prog w s.heap P vs xs) (r':RS prog w s.heap P' vs' ys)
    (e:s.heap.get? l = some (tobj vs n)) (e':s.heap.get? l' = some (tobj vs' n')) (h:aeqs xs ys = some k) (he:∀ j (h1:j < vs.length) (h2:j < vs'.length),EqAt A.in1 s vs[j] vs'[j] (pairAt xs ys j)) (hu:A.units < cLine) :
    RcNeAt A s (.ref l) (.ref l') (!k):=by
  have:=RcNeAt.tuples (e:=pairAt xs ys) (tobj_isTuple e) (tobj_isTuple e') hu he
  rw [List.size_toArray,List.size_toArray,r.length,r'.length] at this
  rw [← aeqs_all h]; exact this
theorem lt_a1 {u a b c:Nat} (h:u + 1 + a + b < c):u < c:=Nat.lt_of_lt_of_le (Nat.lt_succ_self u) (Nat.le_of_lt (lt_a h))
theorem depth_in1 {u a b c:Nat} (h:u + 1 + (a + 1) + (b + 1) < c):u + 1 + a + b < c:=Nat.lt_of_le_of_lt (Nat.add_le_add (Nat.add_le_add_left (Nat.le_succ a) _) (Nat.le_succ b)) h
theorem op_eq {x y:PV} {k:Bool} {vx vy:Value} {Q1 Q2:Addr → Prop} (h:aeq x y = some k) (hx:R prog w s.heap Q1 vx x) (hy:R prog w s.heap Q2 vy y) (hu:A.units + 1 + x.depth + y.depth < cLine):RcAt A s vx vy k:=by
  induction eqv h with
  | none=>rw [hx.n,hy.n]; exact RcAt.none_none
  | nl ds=>rw [hx.n]; induction hy.l with | list zz e zz zz=>exact RcAt.none_list (lobj_isList e) (lt_a1 hu)
  | ln ds=>rw [hy.n]; induction hx.l with | list zz e zz zz=>exact RcAt.list_none (lobj_isList e) (lt_a1 hu)
  | bool a b=>rw [hx.b,hy.b]; exact RcAt.bool_bool _ _
  | int a b=>induction hx.i with | int t=>induction hy.i with | int u=>exact RcAt.int_int _ _ _ _
  | str a b=>induction hx.s with | str t=>induction hy.s with | str u=>exact RcAt.str_str _ _ _ _
  | list h2=>induction hx.l with | list zz e zz r=>induction hy.l with | list zz e' zz r'=>exact rcAt_lists r r' e e' h2 (eqAt_RS _ _ A.in1 s _ _ _ r r' h2 (depth_in1 hu)) (lt_a1 hu)
  | tup h2=>induction hx.t with | tup zz e zz r=>induction hy.t with | tup zz e' zz r'=>exact rcAt_tuples r r' e e' h2 (eqAt_RS _ _ A.in1 s _ _ _ r r' h2 (depth_in1 hu)) (lt_a1 hu)
theorem op_ne {x y:PV} {k:Bool} {vx vy:Value} {Q1 Q2:Addr → Prop} (h:aeq x y = some k) (hx:R prog w s.heap Q1 vx x) (hy:R prog w s.heap Q2 vy y) (hu:A.units + 1 + x.depth + y.depth < cLine):RcNeAt A s vx vy (!k):=by
  induction eqv h with
  | none=>rw [hx.n,hy.n]; exact RcNeAt.none_none
  | nl ds=>rw [hx.n]; induction hy.l with | list zz e zz zz=>exact RcNeAt.none_list (lobj_isList e) (lt_a1 hu)
  | ln ds=>rw [hy.n]; induction hx.l with | list zz e zz zz=>exact RcNeAt.list_none (lobj_isList e) (lt_a1 hu)
  | bool a b=>rw [hx.b,hy.b]; exact RcNeAt.bool_bool _ _
  | int a b=>induction hx.i with | int t=>induction hy.i with | int u=>exact RcNeAt.int_int _ _ _ _
  | str a b=>induction hx.s with | str t=>induction hy.s with | str u=>exact RcNeAt.str_str _ _ _ _
  | list h2=>induction hx.l with | list zz e zz r=>induction hy.l with | list zz e' zz r'=>exact rcNeAt_lists r r' e e' h2 (eqAt_RS _ _ A.in1 s _ _ _ r r' h2 (depth_in1 hu)) (lt_a1 hu)
  | tup h2=>induction hx.t with | tup zz e zz r=>induction hy.t with | tup zz e' zz r'=>exact rcNeAt_tuples r r' e e' h2 (eqAt_RS _ _ A.in1 s _ _ _ r r' h2 (depth_in1 hu)) (lt_a1 hu)
end
end Mine
namespace Mine
open PySem PySem.SeqAt PySem.MeetsSeq PySem.MeetsSeq2 PySem.MeetsSeq3
open PySem.AutoSeq1 (wpAny_loadPart')
section
variable {prog:Program} {w:World}
def EqW (prog:Program) (w:World) (A:Around) (s:Shared) (y x:Value):Prop :=
  ∀ (E:Value → Shared → Prop) (Q:Bool → Shared → Prop),Q true s → wpAny (model prog w) A (eqBool y x) Q E s
theorem eqW_of {A:Around} {s:Shared} {y x:Value} (h:EqAt A s y x true):EqW prog w A s y x:=fun E Q hq=>h prog w E Q hq
theorem neW_loop (l b:Addr) (xs ys:Array Value) (n n2:Nat) (hsz:xs.size = ys.size) (k:Nat) :
    ∀ i:Nat,xs.size - i = k → MeetsIn prog w (Builtin.«list.__eq__.loop» ⟨[.ref l,.ref b,rawInt i,rawInt 3],[]⟩)
      (fun A R s=>s.heap.get? l = some { cls:=.type "list",dict:=none,data:=.seq xs n,slots:=#[] } ∧ s.heap.get? b = some { cls:=.type "list",dict:=none,data:=.seq ys n2,slots:=#[] } ∧
        (∀ j (h1:j < xs.size) (h2:j < ys.size),EqW prog w A.in1 s xs[j] ys[j]) ∧ R (.ok (.ret (.bool false))) s):=by
  induction k with
  | zero =>
    intro i hk A R s h
    refine cps fun Gq hGq=>?_
    obtain ⟨hp,g,d,tk,os⟩:=s
    obtain ⟨hl,hb,he,h⟩:=h
    refine hGq ?_
    clear hGq
    wp_walk using wpAny_loadPart' hl,wpAny_loadPart' hb
    have hi1:xs[((i:Nat):Int).toNat]? = none:=by simp; lia
    have hi2:ys[((i:Nat):Int).toNat]? = none:=by simp; lia
    rw [hi1,hi2]
    wp_walk using wpAny_loadPart' hl,wpAny_loadPart' hb
    show R (.ok (.ret (.bool (xs.size != ys.size)))) _
    rw [hsz]
    simpa using h
  | succ k ih =>
    intro i hk A R s h
    refine cps fun Gq hGq=>?_
    obtain ⟨hp,g,d,tk,os⟩:=s
    obtain ⟨hl,hb,he,h⟩:=h
    refine hGq ?_
    clear hGq
    wp_walk using wpAny_loadPart' hl,wpAny_loadPart' hb
    have hlt:i < xs.size:=by lia
    have hlt2:i < ys.size:=by lia
    have hi1:xs[((i:Nat):Int).toNat]? = some xs[i]:=by simp [hlt]
    have hi2:ys[((i:Nat):Int).toNat]? = some ys[i]:=by simp [hlt2]
    have hc:((i:Int) + 1) = ((i + 1:Nat):Int):=by push_cast; rfl
    rw [hi1,hi2]
    refine wpAny_bind (he i hlt hlt2 _ _ ?_)
    wp_walk
    rw [hc]
    exact ⟨plainId_quiet plain_eq_loop _,codeAny_builtin entry_eq_loop (by
      rw [Around.under_plainId plain_eq_loop _]
      exact ih (i + 1) (by lia) A R _ ⟨hl,hb,he,h⟩)⟩
theorem neW_list (l b:Addr) (xs ys:Array Value) (n n2:Nat) (hsz:xs.size = ys.size) :
    MeetsIn prog w (Builtin.«list.__ne__» ⟨[.ref l,.ref b],[]⟩)
      (fun A R s=>s.heap.get? l = some { cls:=.type "list",dict:=none,data:=.seq xs n,slots:=#[] } ∧ s.heap.get? b = some { cls:=.type "list",dict:=none,data:=.seq ys n2,slots:=#[] } ∧
        (∀ j (h1:j < xs.size) (h2:j < ys.size),EqW prog w A.in1 s xs[j] ys[j]) ∧ R (.ok (.ret (.bool false))) s):=by
  intro A R s h
  refine cps fun Gq hGq=>?_
  obtain ⟨hp,g,d,tk,os⟩:=s
  obtain ⟨hl,hb,he,h⟩:=h
  refine hGq ?_
  clear hGq
  have f3:=AutoSeq1.sub_list_list
  have hne:¬ (xs.size != ys.size) = true:=by simp [hsz]
  wp_walk using wpAny_loadPart' hl,wpAny_loadPart' hb
  exact ⟨plainId_quiet plain_eq_loop _,codeAny_builtin entry_eq_loop (by
    rw [Around.under_plainId plain_eq_loop _]
    exact neW_loop l b xs ys n n2 hsz _ 0 rfl A R _ ⟨hl,hb,he,h⟩)⟩
theorem eqW_tuple (l b:Addr) (v1 v2 u1 u2:Value) (n n2:Nat) :
    MeetsIn prog w (Builtin.«tuple.__eq__» ⟨[.ref l,.ref b],[]⟩)
      (fun A R s=>s.heap.get? l = some { cls:=.type "tuple",dict:=none,data:=.seq #[v1,v2] n,slots:=#[] } ∧ s.heap.get? b = some { cls:=.type "tuple",dict:=none,data:=.seq #[u1,u2] n2,slots:=#[] } ∧
        EqW prog w A.in1 s v1 u1 ∧ EqW prog w A.in1 s v2 u2 ∧ R (.ok (.ret (.bool true))) s) :=
  .of_wp fun A R s h=>by
    refine cps fun Gq hGq=>?_
    obtain ⟨hp,g,d,tk,os⟩:=s
    obtain ⟨hl,hb,he1,he2,h⟩:=h
    refine hGq ?_
    clear hGq
    have f2:=AutoSeq1.sub_tuple_tuple
    wp_walk using wpAny_loadPart' hl,wpAny_loadPart' hb,wpAny_forIn_list _ (fun rest b s'=>b.1 = none ∧ s' = ⟨hp,g,d,tk,os⟩ ∧ ∀ p ∈ rest,p = (v1,u1) ∨ p = (v2,u2)) _
    case turn =>
      rintro ⟨y,x⟩ rest b s' ⟨hb',rfl,hr⟩
      have hyx:=hr (y,x) (List.mem_cons_self ..)
      have hE:EqW prog w A.in1 ⟨hp,g,d,tk,os⟩ y x:=by
        rcases hyx with e | e
        · cases e; exact he1
        · cases e; exact he2
      refine wpAny_bind (hE _ _ ?_)
      wp_walk
      exact ⟨rfl,rfl,fun p hm=>hr p (List.mem_cons_of_mem _ hm)⟩
    case fin =>
      rintro ⟨b1,b2⟩ s' ⟨hb',rfl,-⟩
      simp only at hb'
      subst hb'
      wp_walk
      exact ⟨_,rfl,by simpa [Builtin.Tuple.tupleCompareSizes] using h⟩
    case h =>
      refine ⟨rfl,rfl,fun p hm=>?_⟩
      simpa using hm
variable {A:Around} {s:Shared} {E:Value → Shared → Prop} {Q1 Q2:Addr → Prop}
theorem eqW_refs {l b:Addr} (hne:l ≠ b) (h:∀ (E:Value → Shared → Prop) (Q:Value → Shared → Prop),Q (.bool true) s → wpAny (model prog w) A (richCompare .Eq (.ref l) (.ref b)) Q E s):EqW prog w A s (.ref l) (.ref b):=fun E Q hq=>by
  delta eqBool
  refine wpAny_holding ?_
  refine wpAny_ite_split (fun hab=>absurd (by have:=eq_of_beq hab; injection this) hne) (fun zz=>?_)
  exact wpAny_bind (h E _ (wpAny_truthy_bool hq))
theorem hits_all {A:Around} {kb:List (Str × Value)} {ks':List Str} {ds':List PV} (hk:kb.map (·.1) = ks') (rb:RS prog w s.heap Q2 (kb.map (·.2)) ds') {ka:List (Str × Value)} {ds:List PV} (r:RS prog w s.heap Q1 (ka.map (·.2)) ds)
    (h:((ka.map (·.1)).zip ds).all (hitAt ks' ds') = true):PySem.W.KeqHits A s kb ka true:=by
  induction ka generalizing ds with
  | nil=>exact .nil
  | cons kv ka ih =>
    cases r with
    | @cons zz zz d ds a r =>
      refine cps fun Gq hGq=>?_
      obtain ⟨h1,h2⟩:=and2 h
      obtain ⟨i,e1,e2⟩:=hitAt_of h1
      refine hGq ?_
      clear hGq
      have hl:=look_kvs rb kv.1
      rw [hk,e2] at hl
      obtain ⟨y,hy,ry⟩:=hl
      have e1:d = .int i:=e1
      subst e1
      obtain ⟨k,v⟩:=kv
      have a:R prog w s.heap Q1 v (.int i):=a
      induction a.i with
      | int t =>
        induction ry.i with
        | int u =>
          have he:=EqAt.int_int (A:=A) (s:=s) i t i u
          rw [beq_self_eq_true] at he
          exact PySem.W.KeqHits.hit hy he (ih r h2)
theorem eqW_dict {v u:Value} {ks ks':List Str} {ds ds':List PV} (ra:R prog w s.heap Q1 v (.dict ks ds)) (rb:R prog w s.heap Q2 u (.dict ks' ds')) (hl:ks.length = ks'.length)
    (h:(ks.zip ds).all (hitAt ks' ds') = true) (hu:A.units < cLine):EqW prog w A s v u:=by
  induction ra.d with
  | @dict a ka zz da qa ea zz r =>
    induction rb.d with
    | @dict b kb zz db qb eb zz r' =>
      by_cases hab:a = b
      · subst hab; exact eqW_of (EqAt.same _)
      · refine eqW_refs hab fun E Q hq=>?_
        subst ea
        have hlen:ka.length = kb.length:=by rw [← eb,List.length_map,List.length_map] at hl; exact hl
        refine PySem.W.keq_eq (r:=true) qa qb da db hu (fun zz=>hits_all eb r' r h) ?_
        rw [hlen]
        simpa using hq
theorem rs_two {vs:List Value} {d e:PV} {h:Heap} (r:RS prog w h Q1 vs [d,e]):∃ v u,vs = [v,u] ∧ R prog w h Q1 v d ∧ R prog w h Q1 u e:=by
  cases r with | cons a r=>cases r with | cons b r=>cases r; exact ⟨_,_,rfl,a,b⟩
theorem eqW_row {x y:PV} {v u:Value} (rv:R prog w s.heap Q1 v x) (ru:R prog w s.heap Q2 u y) (h:rowEq x y = true) (hu:A.units + 2 < cLine):EqW prog w A s v u:=by
  obtain ⟨a,ks,ds,ks',ds',rfl,rfl,hl,hall⟩:=rowEq_of h
  induction rv.t with
  | @tup l vs n p e zz r =>
    induction ru.t with
    | @tup l' vs' n' p' e' zz r' =>
      by_cases hll:l = l'
      · subst hll; exact eqW_of (EqAt.same _)
      · refine eqW_refs hll fun E Q hq=>?_
        obtain ⟨v1,v2,rfl,r1,r2⟩:=rs_two r
        obtain ⟨u1,u2,rfl,s1,s2⟩:=rs_two r'
        refine wpAny_richCompare_same_room (T:="tuple") ⟨_,e,rfl⟩ ⟨_,e',rfl⟩ _root_.PySem.F.slot_tuple_eq (call_meetsIn _root_.PySem.F.slot_tuple_eq ⟨_,e,rfl⟩ _root_.PySem.F.entry_tuple_eq (_root_.PySem.F.args_tuple_eq_2 _ _) (eqW_tuple l l' _ _ _ _ n n') ⟨e,e',?_,?_,?_⟩) (Nat.lt_of_le_of_lt (Nat.le_add_right _ 2) hu)
        · have:=eqAt_R (.str a) (.str a) A.in1 s v1 u1 true r1 s1 (congrArg some (beq_self_eq_true a)) (Nat.lt_of_succ_lt hu)
          exact eqW_of this
        · exact eqW_dict r2 s2 hl hall (Nat.lt_of_succ_lt hu)
        · exact ⟨(fun x=>nomatch x),hq⟩
theorem rows_len {xs:List PV}:∀ {ys:List PV},rowsEq xs ys = true → xs.length = ys.length:=by
  induction xs with
  | nil=>intro ys h; rw [isEmpty_of h]
  | cons x xs ih =>
    intro ys h
    cases ys with
    | nil=>cases h
    | cons y ys=>exact congrArg (· + 1) (ih (and2 h).2)
theorem rows_get {xs:List PV}:∀ {ys:List PV} {vs us:List Value},rowsEq xs ys = true → RS prog w s.heap Q1 vs xs → RS prog w s.heap Q2 us ys → A.units + 2 < cLine → ∀ j (h1:j < vs.length) (h2:j < us.length),EqW prog w A s vs[j] us[j]:=by
  induction xs with
  | nil=>intro ys vs us h r r' hu j h1; cases r; exact absurd h1 (Nat.not_lt_zero _)
  | cons x xs ih =>
    intro ys vs us h r r' hu j h1 h2
    cases ys with
    | nil=>cases h
    | cons y ys =>
      cases r with
      | cons a r =>
        cases r' with
        | cons b r' =>
          cases j with
          | zero=>exact eqW_row a b (and2 h).1 hu
          | succ j=>exact ih (and2 h).2 r r' hu j (Nat.lt_of_succ_lt_succ h1) (Nat.lt_of_succ_lt_succ h2)
theorem op_ne_rows {xs ys:List PV} {vx vy:Value} {Q:Value → Shared → Prop} (h:rowsEq xs ys = true) (hx:R prog w s.heap Q1 vx (.list xs)) (hy:R prog w s.heap Q2 vy (.list ys)) (hu:A.units + 4 < cLine) (hq:Q (.bool false) s):wpAny (model prog w) A (richCompare .NotEq vx vy) Q E s:=by
  induction hx.l with
  | @list l vs n p e zz r =>
    induction hy.l with
    | @list l' vs' n' p' e' zz r' =>
      refine wpAny_richCompare_same_room (T:="list") ⟨_,e,rfl⟩ ⟨_,e',rfl⟩ _root_.PySem.F.slot_list_ne (call_meetsIn _root_.PySem.F.slot_list_ne ⟨_,e,rfl⟩ _root_.PySem.F.entry_list_ne (_root_.PySem.F.args_list_ne_2 _ _) (neW_list l l' vs.toArray vs'.toArray n n' (r.length.trans ((rows_len h).trans r'.length.symm))) ⟨e,e',?_,?_⟩) (Nat.lt_of_le_of_lt (Nat.le_add_right _ 4) hu)
      · exact rows_get (A:=A.in1) h r r' (Nat.lt_of_succ_lt hu)
      · exact ⟨(fun x=>nomatch x),hq⟩
end
end Mine
namespace Mine
open PySem PySem.SeqAt PySem.Calls PyProof.Rows
def Loads (env:Env) (h:Heap) (x:Str) (v:Value):Prop :=
  (env.kindOf x = some .local ∧ ∃ m,h.Ns env.locals m ∧ m x = some v) ∨
  ((env.kindOf x = some .cell ∨ env.kindOf x = some .free) ∧ ∃ c,env.cells.lookup x = some c ∧ h.IsCell c (some v))
theorem Loads.keeps {env:Env} {h h':Heap} {x:Str} {v:Value} (l:Loads env h x v) (hk:∀ b o,h.get? b = some o → h'.get? b = some o):Loads env h' x v:=by
  rcases l with ⟨k,m,n,e⟩ | ⟨k,c,hc,n⟩
  · exact .inl ⟨k,m,n.keeps hk,e⟩
  · exact .inr ⟨k,c,hc,n.keeps hk⟩
noncomputable def bltNames:List Str:=["len","sorted","set","all","any","range","dict","list","type","int","bool","str"]
structure Wd (prog:Program) (w:World) (p:Program) (loose:List Str) (mean:ExcName → Option Value) (mg mb:Str → Option Value):Prop where
  blt:∀ x ∈ bltNames,mg x = none
def Ctr (prog:Program) (w:World) (p:Program) (loose:List Str) (mean:ExcName → Option Value) (mg mb:Str → Option Value) (lvl:Nat) (Φ:FTab):Prop :=
  ∀ f ds d fr,Φ f ds = some (d,fr) → ∃ a,mg f = some (.ref a) ∧ (∀ h,Top p loose mean mg mb h → ∃ o fd,h.get? a = some o ∧ o.data = .func fd) ∧
    ∀ (A:Around) (E:Value → Shared → Prop) (s:Shared) (vs:List Value) (Q:Addr → Prop),A.handled = none → A.depth + lvl < recursionLimit → A.units + 16 * lvl + 64 < cLine → Top p loose mean mg mb s.heap → (∀ b,s.heap.get? b = none → Q b) → RS prog w s.heap Q vs ds →
      wpAny (model prog w) A (call (.ref a) vs) (fun v s'=>Keeps s s' ∧ R prog w s'.heap (fun b=>Q b ∧ (fr = true → s.heap.get? b = none)) v d) E s
structure Cx (prog:Program) (w:World) (p:Program) (loose:List Str) (mean:ExcName → Option Value) (mg mb:Str → Option Value) (lvl:Nat) (A:Around) (env:Env) (ce:CE) (P:Pd) (σ:Sig) (s:Shared):Prop where
  hh:A.handled = none
  hd:A.depth + lvl < recursionLimit
  hu:A.units + 16 * lvl + 64 < cLine
  fn:env.scope.kind = .function
  gl:env.globals = mainGlobals
  bl:env.builtins = builtinsNs
  ki:∀ x,ce.kind x = env.kindOf x
  len:σ.length = ce.names.length
  cells:∀ y,hasCell (env.kindOf y) = true → ∃ c,env.cells.lookup y = some c
  pd:P.Ok s.heap
  top:Top p loose mean mg mb s.heap
  rd:∀ x i r,ce.idx x = some i → isVar (ce.kind x) = true → σ[i]? = some (some r) → ∃ v,Loads env s.heap x v ∧ R prog w s.heap (P r.f r.c) v r.d
section
variable {prog:Program} {w:World} {p:Program} {loose:List Str} {mean:ExcName → Option Value} {mg mb:Str → Option Value} {lvl:Nat} {A:Around} {env:Env} {ce:CE} {P:Pd} {σ:Sig} {s s':Shared} {E:Value → Shared → Prop} {Φ:FTab}
theorem Cx.keeps (C:Cx prog w p loose mean mg mb lvl A env ce P σ s) (k:Keeps s s'):Cx prog w p loose mean mg mb lvl A env ce P σ s' where
  hh:=C.hh
  hd:=C.hd
  hu:=C.hu
  fn:=C.fn
  gl:=C.gl
  bl:=C.bl
  ki:=C.ki
  len:=C.len
  cells:=C.cells
  pd:=C.pd.keeps (kheap k)
  top:=C.top.keeps (kheap k)
  rd:=fun x i r h1 h2 h3=>by
    obtain ⟨v,l,q⟩:=C.rd x i r h1 h2 h3
    exact ⟨v,l.keeps (kheap k),q.keeps (kheap k)⟩
theorem Pst.of {r:RV} {v:Value} {s₁ s₂:Shared} (k:Keeps s s₁) (h:Pst prog w P s₁ r v s₂):Pst prog w P s r v s₂:=⟨ktrans k h.1,h.2⟩
theorem ld_var {x:Str} {v:Value} {Q:Value → Shared → Prop} {pos:Pos} (hf:env.scope.kind = .function) (l:Loads env s.heap x v) (hd:(x == ("__debug__":Str)) = false) (hc:(x == ("__classdict__":Str)) = false) (h:Q v s) :
    wpAny (model prog w) A (eval (.Name x pos) env) Q E s:=by
  refine wpAny_Name ?_ hd
  rcases l with ⟨k,m,n,e⟩ | ⟨k,c,hcc,n⟩
  · exact wpAny_loadName_local hf k n e h
  · rcases k with k | k
    · exact wpAny_loadName_cell hf k hcc n h
    · exact wpAny_loadName_free hf k hcc n h hc
theorem isGlob_eq {k:Option NameKind} (h:isGlob k = true):k = some .globalImplicit:=by
  cases k with
  | none=>cases h
  | some k=>cases k <;> first | rfl | cases h
theorem ld_fn {x:Str} {v:Value} {Q:Value → Shared → Prop} {pos:Pos} (C:Cx prog w p loose mean mg mb lvl A env ce P σ s) (hk:isGlob (ce.kind x) = true) (hv:mg x = some v) (hd:(x == ("__debug__":Str)) = false) (h:Q v s) :
    wpAny (model prog w) A (eval (.Name x pos) env) Q E s :=
  Name_function_global C.fn ((C.ki x).symm.trans (isGlob_eq hk)) (loadGlobal_global (by rw [C.gl]; exact C.top.g) hv h) hd
theorem ld_blt {x:Str} {v:Value} {Q:Value → Shared → Prop} {pos:Pos} (D:Wd prog w p loose mean mg mb) (C:Cx prog w p loose mean mg mb lvl A env ce P σ s) (hk:isGlob (ce.kind x) = true) (hx:x ∈ bltNames) (hv:bootBuiltins x = some v) (hd:(x == ("__debug__":Str)) = false) (hn:x ≠ ("__name__":Str)) (h:Q v s) :
    wpAny (model prog w) A (eval (.Name x pos) env) Q E s :=
  Name_function_global C.fn ((C.ki x).symm.trans (isGlob_eq hk)) (loadGlobal_builtin (by rw [C.gl]; exact C.top.g) (D.blt x hx) (by rw [C.bl]; exact C.top.b) ((C.top.builtins x hn).trans hv) h) hd
end
section
variable {prog:Program} {w:World} {A:Around} {E:Value → Shared → Prop} {s:Shared} {P:Pd}
theorem upFrom_get (n:Nat):∀ (a:Int) (i:Nat),i < n → (upFrom a n)[i]? = some (.int (a + i)):=by
  induction n with
  | zero=>exact fun zz zz h=>absurd h (Nat.not_lt_zero _)
  | succ n ih =>
    intro a i h
    cases i with
    | zero=>exact congrArg (fun z=>some (PV.int z)) (Int.add_zero a).symm
    | succ i =>
      rw [upFrom_succ,List.getElem?_cons_succ,ih (a + 1) i (Nat.lt_of_succ_lt_succ h)]
      congr 2; lia
theorem downFrom_get (n:Nat):∀ (a:Int) (i:Nat),i < n → (downFrom a n)[i]? = some (.int (a + i * (-1))):=by
  induction n with
  | zero=>exact fun zz zz h=>absurd h (Nat.not_lt_zero _)
  | succ n ih =>
    intro a i h
    cases i with
    | zero=>exact congrArg (fun z=>some (PV.int z)) (by lia)
    | succ i =>
      rw [downFrom_succ,List.getElem?_cons_succ,ih (a - 1) i (Nat.lt_of_succ_lt_succ h)]
      congr 2; lia
theorem upFrom_length (n:Nat):∀ (a:Int),(upFrom a n).length = n:=by
  induction n with
  | zero=>exact fun zz=>rfl
  | succ n ih=>exact fun a=>congrArg (· + 1) (ih (a + 1))
theorem downFrom_length (n:Nat):∀ (a:Int),(downFrom a n).length = n:=by
  induction n with
  | zero=>exact fun zz=>rfl
  | succ n ih=>exact fun a=>congrArg (· + 1) (ih (a - 1))
theorem rangeSize_neg (a b:Int):Builtin.Range.rangeSize a b (-1) = if b < a then a - b else 0:=by
  delta Builtin.Range.rangeSize
  simp only [show ¬ ((-1:Int) > 0) by decide,if_false,Int.neg_neg,Int.ediv_one]
  split <;> lia
theorem small_neg {a b:Int} (ha:-(2 ^ 62) ≤ a) (ha':a < 2 ^ 62) (hb:-(2 ^ 62) ≤ b) (hb':b < 2 ^ 62):Builtin.Range.small a b (-1) = true:=by
  delta Builtin.Range.small
  rw [rangeSize_neg]
  simp only [Builtin.Range.rangeFitsLong,Bool.and_eq_true,Bool.or_eq_true,decide_eq_true_eq,beq_iff_eq,show ¬ ((-1:Int) > 0) by decide,if_false]
  split <;> lia
theorem ib {a:Int} (h:a.natAbs ≤ lim):-(2 ^ 62) ≤ a ∧ a < 2 ^ 62:=by
  have hl:=lim_is
  constructor <;> lia
theorem tnb {a b:Int} (ha:a.natAbs ≤ lim) (hb:b.natAbs ≤ lim):(b - a).toNat ≤ lim + lim:=by lia
theorem ite_toNat (x y:Int):(if y < x then x - y else 0) = ((x - y).toNat:Int):=by split <;> lia
theorem iter_R {v:Value} {d:PV} {ds:List PV} {Q:Addr → Prop} {K:Value → Shared → Prop} (x:R prog w s.heap Q v d) (hi:aiter d = some ds)
    (h:∀ (fp:List Addr) (Pi:Nat → Value → Prop) (St:Nat → Heap → Prop) (s₂:Shared),Keeps s s₂ → (∀ A':Around,A'.handled = none → Walks prog w A' s.heap.objs.size fp [s.heap.objs.size] ds.length Pi St) → St 0 s₂.heap →
      (∀ b ∈ fp,b < s₂.heap.objs.size) → (∀ b ∈ fp,b = s.heap.objs.size ∨ Q b) → (∀ o,s₂.heap.get? s.heap.objs.size = some o → ¬ isData o) → (∀ i h',St i h' → ∀ o,h'.get? s.heap.objs.size = some o → ¬ isData o) →
      (∀ i v,Pi i v → ∃ d,ds[i]? = some d ∧ R prog w s.heap Q v d) → ds.length ≤ lim + lim → (∀ i h',St i h' → ∃ o,h'.get? s.heap.objs.size = some o) → K (.ref s.heap.objs.size) s₂) :
    wpAny (model prog w) A (pyIter v) K E s:=by
  have hlim:=lim_is
  cases x with
  | none=>cases hi
  | bool=>cases hi
  | int=>cases hi
  | str=>cases hi
  | dict=>cases hi
  | @list a vs n zz p e z r =>
    cases hi
    have hlt:=Heap.lt_size e
    have l1:=r.length
    refine wpAny_pyIter_list (lobj_isList e) (h [s.heap.objs.size,a] (fun i v=>vs.toArray[i]? = some v) (fun i h=>h.IsListIter s.heap.objs.size a i ∧ h.IsList a vs.toArray) _ (kpush _ _) (fun A' hA=>?_) ⟨⟨_,Heap.get?_push_size _ rfl,rfl,rfl⟩,(lobj_isList e).push _⟩ ?_ ?_ ?_ ?_ ?_ (by lia) (fun i h' hh=>let ⟨⟨o,ho,_⟩,_⟩:=hh; ⟨o,ho⟩))
    · have:=Walks.list (prog:=prog) (w:=w) hA s.heap.objs.size a (Nat.ne_of_lt hlt) vs.toArray
      rw [← l1]
      simpa using this
    · intro b hb
      rw [Heap.size_push]
      rcases List.mem_cons.mp hb with rfl | hb
      · exact Nat.lt_succ_self _
      · rw [List.mem_singleton.mp hb]; exact Nat.lt_succ_of_lt hlt
    · intro b hb
      rcases List.mem_cons.mp hb with rfl | hb
      · exact .inl rfl
      · rw [List.mem_singleton.mp hb]; exact .inr p
    · intro o ho
      rw [Heap.get?_push_size _ rfl] at ho
      cases ho
      simp [isData]
    · rintro i h' ⟨⟨o',ho',hc,zz⟩,zz⟩ o ho
      rw [ho'] at ho
      cases ho
      simp [isData,hc]
    · intro i v hv
      obtain ⟨d,hd,rv⟩:=r.get' (by simpa using hv)
      exact ⟨d,hd,rv⟩
  | @tup a vs n zz p e z r =>
    cases hi
    have hlt:=Heap.lt_size e
    have l1:=r.length
    refine wpAny_pyIter_tuple (tobj_isTuple e) (h [s.heap.objs.size,a] (fun i v=>vs.toArray[i]? = some v) (fun i h=>h.IsTupleIter s.heap.objs.size a i ∧ h.IsTuple a vs.toArray) _ (kpush _ _) (fun A' hA=>?_) ⟨⟨_,Heap.get?_push_size _ rfl,rfl,rfl⟩,(tobj_isTuple e).push _⟩ ?_ ?_ ?_ ?_ ?_ (by lia) (fun i h' hh=>let ⟨⟨o,ho,_⟩,_⟩:=hh; ⟨o,ho⟩))
    · have:=Walks.tuple (prog:=prog) (w:=w) hA s.heap.objs.size a (Nat.ne_of_lt hlt) vs.toArray
      rw [← l1]
      simpa using this
    · intro b hb
      rw [Heap.size_push]
      rcases List.mem_cons.mp hb with rfl | hb
      · exact Nat.lt_succ_self _
      · rw [List.mem_singleton.mp hb]; exact Nat.lt_succ_of_lt hlt
    · intro b hb
      rcases List.mem_cons.mp hb with rfl | hb
      · exact .inl rfl
      · rw [List.mem_singleton.mp hb]; exact .inr p
    · intro o ho
      rw [Heap.get?_push_size _ rfl] at ho
      cases ho
      simp [isData]
    · rintro i h' ⟨⟨o',ho',hc,zz⟩,zz⟩ o ho
      rw [ho'] at ho
      cases ho
      simp [isData,hc]
    · intro i v hv
      obtain ⟨d,hd,rv⟩:=r.get' (by simpa using hv)
      exact ⟨d,hd,rv⟩
  | @rng r0 a b c t u v p e hb =>
    have hlt:=Heap.lt_size e
    obtain ⟨hb1,hb2⟩:=hb
    have key:∀ (n:Nat),Builtin.Range.small a b c = true → Builtin.Range.rangeSize a b c = (n:Int) → ds.length = n → (∀ i,i < n → ds[i]? = some (.int (a + i * c))) → n ≤ lim + lim → wpAny (model prog w) A (pyIter (.ref r0)) K E s:=by
      intro n hs hn hl hg hnl
      refine wpAny_pyIter_range e hs (h [s.heap.objs.size] (fun i v=>i < n ∧ ∃ t,v = .int (a + i * c) t) (fun i h=>IsRangeIter h s.heap.objs.size (a + (i:Nat) * c) ((n:Int) - (i:Nat)) c) _ (kpush _ _) (fun A' hA=>?_) ?_ ?_ ?_ ?_ ?_ ?_ (by lia) (fun i h' hh=>⟨_,hh⟩))
      · rw [hl]; exact (Walks.range hA _ a c n).bound
      · show IsRangeIter _ _ _ _ _
        rw [hn]; simpa using Heap.get?_push_size _ rfl
      · intro b hb
        rw [Heap.size_push,List.mem_singleton.mp hb]; exact Nat.lt_succ_self _
      · intro b hb
        exact .inl (List.mem_singleton.mp hb)
      · intro o ho
        rw [Heap.get?_push_size _ rfl] at ho
        cases ho
        simp [isData]
      · intro i h' hst o ho
        rw [hst] at ho
        cases ho
        simp [isData]
      · rintro i v ⟨hin,t,rfl⟩
        exact ⟨_,hg i hin,.int _ _⟩
    by_cases hc:c = 1
    · subst hc
      cases hi
      refine key (b - a).toNat (small_one (ib hb1).1 (ib hb1).2 (ib hb2).1 (ib hb2).2) ?_ (upFrom_length _ _) ?_ (tnb hb1 hb2)
      · rw [rangeSize_one,ite_toNat]
      · intro i hin
        rw [upFrom_get _ _ _ hin]; congr 2; lia
    · have hi:=(if_neg hc).symm.trans hi
      by_cases hd:c = -1
      · subst hd
        cases hi
        refine key (a - b).toNat (small_neg (ib hb1).1 (ib hb1).2 (ib hb2).1 (ib hb2).2) ?_ (downFrom_length _ _) ?_ (tnb hb2 hb1)
        · rw [rangeSize_neg,ite_toNat]
        · intro i hin
          rw [downFrom_get _ _ _ hin]
      · cases (if_neg hd).symm.trans hi
theorem op_len {x:PV} {n:Nat} {v:Value} {Q:Addr → Prop} (h:alen x = some n) (r:R prog w s.heap Q v x):wpAny (model prog w) A (call (.builtin "len") [v]) (Pst prog w P s (at1 (.int n))) E s:=by
  have hlim:=lim_is
  cases r with
  | none=>cases h
  | bool=>cases h
  | int=>cases h
  | str=>cases h
  | rng=>cases h
  | list p e z r =>
    cases h
    have l:=r.length
    refine PySem.Calls.call_len_list (lobj_isList e) (by simp; lia) ?_
    simp only [List.size_toArray,l]
    exact pst_atom ⟨s.heap,_,_,rfl,fun zz zz e=>e⟩ (.int _ _) rfl
  | tup p e z r =>
    cases h
    have l:=r.length
    refine _root_.PySem.P.len_tuple e (by simp; lia) ?_
    simp only [List.size_toArray,l]
    exact pst_atom ⟨s.heap,_,_,rfl,fun zz zz e=>e⟩ (.int _ _) rfl
  | dict p e q hk z r =>
    cases h
    subst hk
    refine call_len_dict q e (by simp at z; lia) ?_
    rw [List.length_map]
    exact pst_atom ⟨s.heap,_,_,rfl,fun zz zz e=>e⟩ (.int _ _) rfl
theorem asBools_cons {d:PV} {ds:List PV} {bs:List Bool} (h:asBools (d :: ds) = some bs):∃ b bs',d = .bool b ∧ asBools ds = some bs' ∧ bs = b :: bs':=by
  obtain ⟨b,h1,h2⟩:=bind_of h
  obtain ⟨bs',h3,rfl⟩:=map_of h2
  exact ⟨b,bs',dB_eq h1,h3,rfl⟩
theorem asBools_get {ds:List PV}:∀ {bs:List Bool} {i:Nat} {d:PV},asBools ds = some bs → ds[i]? = some d → ∃ b,bs[i]? = some b ∧ d = .bool b:=by
  induction ds with
  | nil=>exact fun zz h=>nomatch h
  | cons x ds ih =>
    intro bs i d h hi
    obtain ⟨b,bs',rfl,h1,rfl⟩:=asBools_cons h
    cases i with
    | zero=>exact ⟨b,rfl,(Option.some.inj hi).symm⟩
    | succ i=>exact ih (bs:=bs') (i:=i) h1 hi
theorem asBools_length {ds:List PV}:∀ {bs:List Bool},asBools ds = some bs → bs.length = ds.length:=by
  induction ds with
  | nil=>intro bs h; cases h; rfl
  | cons x ds ih =>
    intro bs h
    obtain ⟨b,bs',rfl,h1,rfl⟩:=asBools_cons h
    exact congrArg (· + 1) (ih h1)
theorem all_range (bs:List Bool):(List.range bs.length).all (fun i=>bs.getD i false) = bs.all id:=by
  rw [Bool.eq_iff_iff,List.all_eq_true,List.all_eq_true]
  constructor
  · intro h b hb
    obtain ⟨i,hi,rfl⟩:=List.getElem_of_mem hb
    have:=h i (by simpa using hi)
    simpa [hi] using this
  · intro h i hi
    have hi':i < bs.length:=by simpa using hi
    have:=h bs[i] (List.getElem_mem hi')
    simpa [hi'] using this
theorem op_all {ds:List PV} {bs:List Bool} {v:Value} {Q:Addr → Prop} (hh:A.handled = none) (h:asBools ds = some bs) (r:R prog w s.heap Q v (.list ds)) :
    wpAny (model prog w) A (call (.builtin "all") [v]) (Pst prog w P s (at1 (.bool (bs.all id)))) E s:=by
  refine call_all_walk (iter_R r rfl fun fp Pi St s₂ k W hst zz zz zz zz hP zz zz=>?_)
  refine ⟨_,fp,_,ds.length,Pi,St,fun i=>bs.getD i false,rfl,W A.in1 hh,hst,?_,fun h' tk hk=>?_⟩
  · intro i v s' Q' E' hPi hq
    obtain ⟨d,hd,rv⟩:=hP i v hPi
    obtain ⟨b,hb,rfl⟩:=asBools_get h hd
    rw [rv.b]
    refine wpAny_truthy_bool ?_
    simpa [hb] using hq
  · rw [← asBools_length h,all_range]
    refine pst_atom ?_ (.bool _) rfl
    obtain ⟨h2,t2,dr2,rfl,k2⟩:=k
    exact ⟨h',tk,dr2,rfl,fun b o e=>hk b o (fun hm=>by rw [List.mem_singleton.mp hm,size_none] at e; cases e) (k2 b o e)⟩
end
end Mine
namespace Mine
open PySem PySem.SeqAt PySem.Calls PyProof.Rows
inductive RL (prog:Program) (w:World) (h:Heap) (P:Pd):List Value → List RV → Prop
  | nil:RL prog w h P [] []
  | cons {v:Value} {vs:List Value} {r:RV} {rs:List RV}:R prog w h (P r.f r.c) v r.d → RL prog w h P vs rs → RL prog w h P (v :: vs) (r :: rs)
section
variable {prog:Program} {w:World} {A:Around} {E:Value → Shared → Prop} {s:Shared} {P P':Pd} {h h':Heap} {vs ws:List Value} {rs qs:List RV}
theorem RL.frame (hk:∀ f c a o,P f c a → isData o → h.get? a = some o → h'.get? a = some o ∧ P' f c a) (x:RL prog w h P vs rs):RL prog w h' P' vs rs:=by
  induction x with
  | nil=>exact .nil
  | cons a zz ih=>exact .cons (a.frame (hk _ _)) ih
theorem RL.keeps (hk:∀ b o,h.get? b = some o → h'.get? b = some o) (x:RL prog w h P vs rs):RL prog w h' P vs rs:=x.frame fun zz zz zz zz p zz e=>⟨hk _ _ e,p⟩
theorem RL.off {b:Addr} (hs:Heap.ExtBut b h h') (hb:∀ f c,¬ P f c b) (x:RL prog w h P vs rs):RL prog w h' P vs rs :=
  x.frame fun f c a o p zz e=>⟨hs a o (fun q=>hb f c (q ▸ p)) e,p⟩
theorem RL.append (x:RL prog w h P vs rs) (y:RL prog w h P ws qs):RL prog w h P (vs ++ ws) (rs ++ qs):=by
  induction x with
  | nil=>exact y
  | cons a zz ih=>exact .cons a ih
theorem RL.length (x:RL prog w h P vs rs):vs.length = rs.length:=by
  induction x with
  | nil=>rfl
  | cons zz zz ih=>exact congrArg (· + 1) ih
theorem RL.toRS (hP:∀ f c f' c' a,(f' = true → f = true) → (c' = true → c = true) → P f c a → P f' c' a) (x:RL prog w h P vs rs):RS prog w h (P (rs.all (·.f)) (rs.all (·.c))) vs (rs.map (·.d)):=by
  induction x with
  | nil=>exact .nil
  | cons a zz ih=>exact .cons (a.mono fun b=>hP _ _ _ _ b and_l and_l) (ih.mono fun b=>hP _ _ _ _ b and_r and_r)
end
theorem lastIdx_cons (y z:Str) (l:List Str) (n:Nat):lastIdx y (z :: l) n = match lastIdx y l (n + 1) with | some i=>some i | Option.none=>if z = y then some n else Option.none:=rfl
theorem lastIdx_appendL (y:Str) (l xs:List Str):∀ (n:Nat),lastIdx y (l ++ xs) n = match lastIdx y xs (n + l.length) with | some i=>some i | Option.none=>lastIdx y l n:=by
  induction l with
  | nil=>intro n; rw [List.nil_append,List.length_nil,Nat.add_zero]; cases lastIdx y xs n <;> rfl
  | cons z l ih =>
    intro n
    rw [List.cons_append,lastIdx_cons,ih (n + 1),List.length_cons,Nat.add_right_comm,Nat.add_assoc]
    cases lastIdx y xs (n + (l.length + 1)) <;> rfl
theorem lastIdx_inv {y z:Str} {l:List Str} {n i:Nat} (h:lastIdx y (z :: l) n = some i):lastIdx y l (n + 1) = some i ∨ (i = n ∧ z = y):=by
  rw [lastIdx_cons] at h
  cases hj:lastIdx y l (n + 1) with
  | some j=>rw [hj] at h; exact .inl h
  | none =>
    rw [hj] at h
    obtain ⟨h1,h2⟩:=if_of h
    exact .inr ⟨h2.symm,h1⟩
theorem lastIdx_at {y:Str} {l:List Str}:∀ {n i:Nat},lastIdx y l n = some i → ∃ j,i = n + j ∧ l[j]? = some y:=by
  induction l with
  | nil=>exact fun h=>nomatch h
  | cons z l ih =>
    intro n i h
    rcases lastIdx_inv h with h | ⟨rfl,rfl⟩
    · obtain ⟨j,rfl,h2⟩:=ih h
      exact ⟨j + 1,Nat.add_right_comm ..,h2⟩
    · exact ⟨0,rfl,rfl⟩
theorem lastIdx_none {y:Str} {l:List Str}:∀ {n:Nat},lastIdx y l n = none → y ∉ l:=by
  induction l with
  | nil=>exact fun zz h=>nomatch h
  | cons z l ih =>
    intro n h hm
    rw [lastIdx_cons] at h
    cases hj:lastIdx y l (n + 1) with
    | some j=>rw [hj] at h; cases h
    | none =>
      rw [hj] at h
      rcases List.mem_cons.mp hm with e | e
      · rw [if_pos e.symm] at h; cases h
      · exact ih hj e
theorem isFn_eq {k:ScopeKind} (h:isFn k = true):k = .function:=by cases k <;> first | rfl | cases h
theorem isLocal_eq {k:NameKind} (h:k = .local):isLocal k = true:=by rw [h]; rfl
theorem isFree_eq {k:NameKind} (h:k = .free):isFree k = true:=by rw [h]; rfl
theorem isCellK_eq {k:NameKind} (h:k = .cell):isCellK k = true:=by rw [h]; rfl
theorem lookLocal_eq {l:List (Str × NameKind)} {x:Str} (h:lookLocal l x = true):l.lookup x = some .local:=by
  delta lookLocal at h
  cases hk:l.lookup x with
  | none=>rw [hk] at h; cases h
  | some k=>rw [hk] at h; cases k <;> first | rfl | cases h
theorem all_of {α:Type} {l:List α} {f:α → Bool} (h:l.all f = true) {x:α} (hx:x ∈ l):f x = true:=List.all_eq_true.mp h x hx
theorem imp_of {a b:Bool} (h:(!a || b) = true) (ha:a = true):b = true:=by rw [ha] at h; exact h
theorem notin_of {l:List Str} {x:Str} (h:(!l.contains x) = true):x ∉ l:=fun hm=>by rw [List.contains_iff_mem.mpr hm] at h; cases h
structure CompOk (ce:CE) (scope:Scope) (xs:List Str):Prop where
  fn:scope.kind = .function
  nocell:∀ y ∈ scope.names,y.2 ≠ .cell
  names:∀ y ∈ scope.names,y.2 = .local → scope.names.lookup y.1 = some .local
  tgt:∀ x ∈ xs,scope.names.lookup x = some .local
  free:∀ y ∈ scope.names,y.2 = .free → hasCell (ce.kind y.1) = true
  dot:(".0":Str) ∉ ce.names
  loc:∀ y ∈ scope.names,y.2 = .local → y.1 = (".0":Str) ∨ y.1 ∈ xs
  dotx:(".0":Str) ∉ xs
theorem compOk_of {ce:CE} {scope:Scope} {xs:List Str} (h:ce.compOk scope xs = true):CompOk ce scope xs:=by
  refine cps fun Gq hGq=>?_
  obtain ⟨h,h8⟩:=and2 h
  obtain ⟨h,h7⟩:=and2 h
  obtain ⟨h,h6⟩:=and2 h
  obtain ⟨h,h5⟩:=and2 h
  obtain ⟨h,h4⟩:=and2 h
  obtain ⟨h,h3⟩:=and2 h
  obtain ⟨h1,h2⟩:=and2 h
  refine hGq ?_
  clear hGq
  refine ⟨isFn_eq h1,fun y hy e=>?_,fun y hy e=>lookLocal_eq (imp_of (all_of h3 hy) (isLocal_eq e)),fun x hx=>lookLocal_eq (all_of h4 hx),fun y hy e=>imp_of (all_of h5 hy) (isFree_eq e),notin_of h6,fun y hy e=>?_,notin_of h8⟩
  · have:=notT (all_of h2 hy); rw [isCellK_eq e] at this; cases this
  · have:=all_of h7 hy
    rw [Bool.or_assoc] at this
    exact (Bool.or_eq_true_iff.mp (imp_of this (isLocal_eq e))).imp eq_of_beq List.contains_iff_mem.mp
noncomputable def closeOver (env:Env):List (Str × NameKind) → List (Str × Addr) → List (Str × Addr)
  | [],acc=>acc
  | y :: r,acc=>closeOver env r (if y.2 == .free then (y.1,(env.cells.lookup y.1).getD 0) :: acc else acc)
theorem closureFor_eq {scope:Scope} {env:Env} (h:∀ y ∈ scope.names,y.2 = .free → ∃ c,env.cells.lookup y.1 = some c):closureFor scope env = pure (closeOver env scope.names []):=by
  have key:∀ (l:List (Str × NameKind)) (acc:List (Str × Addr)),(∀ y ∈ l,y.2 = .free → ∃ c,env.cells.lookup y.1 = some c) →
      (forIn l acc fun x cs=>(match x with | (name,kind)=>if (kind == .free) = true then (do let a ← cellOf env name; pure (ForInStep.yield ((name,a) :: cs))) else pure (ForInStep.yield cs):Sem (ForInStep (List (Str × Addr))))) = pure (closeOver env l acc):=by
    intro l
    induction l with
    | nil=>exact fun acc zz=>rfl
    | cons y l ih =>
      intro acc hl
      obtain ⟨n,k⟩:=y
      rw [List.forIn_cons]
      refine Eq.trans ?_ (ih _ fun y hy=>hl y (List.mem_cons_of_mem _ hy))
      dsimp only
      by_cases hk:(k == NameKind.free) = true
      · obtain ⟨c,hc⟩:=hl (n,k) (List.mem_cons_self ..) (eq_of_beq hk)
        have hc:env.cells.lookup n = some c:=hc
        have e1:cellOf env n = pure c:=by delta cellOf; rw [hc]
        rw [if_pos hk,if_pos hk,e1,hc,pure_bind,pure_bind]; rfl
      · rw [if_neg hk,if_neg hk,pure_bind]
  delta closureFor
  have:=key scope.names [] h
  simp only [bind_pure]
  exact this
theorem closeOver_lookup {env:Env} {y:Str} {c:Addr} (hc:env.cells.lookup y = some c) (l:List (Str × NameKind)):∀ (acc:List (Str × Addr)),((y,NameKind.free) ∈ l ∨ acc.lookup y = some c) → (closeOver env l acc).lookup y = some c:=by
  induction l with
  | nil=>exact fun acc h=>h.elim (fun h=>nomatch h) id
  | cons z l ih =>
    intro acc h
    refine ih _ ?_
    rcases h with h | h
    · rcases List.mem_cons.mp h with rfl | h
      · refine .inr ?_
        show ((y,(env.cells.lookup y).getD 0) :: acc).lookup y = _
        rw [hc,List.lookup_cons,beq_self_eq_true]; rfl
      · exact .inl h
    · refine .inr ?_
      by_cases hz:(z.2 == NameKind.free) = true
      · rw [if_pos hz,List.lookup_cons]
        by_cases e:(y == z.1) = true
        · rw [e,← eq_of_beq e,hc]; rfl
        · rw [Bool.eq_false_iff.mpr e]; exact h
      · rw [if_neg hz]; exact h
theorem relab_eq {env:Env} {ce:CE} (ki:∀ x,ce.kind x = env.kindOf x) (fn:env.scope.kind = .function) (scope:Scope):(relabel scope env).names = relab ce.kind scope.names:=by
  delta relabel relab
  refine List.map_congr_left fun y zz=>?_
  obtain ⟨n,k⟩:=y
  simp only [fn,ki,show (ScopeKind.function == ScopeKind.function) = true from rfl,Bool.and_true]
theorem lookup_relab {κ:Str → Option NameKind} {y:Str} {l:List (Str × NameKind)} {k:NameKind} (h:(relab κ l).lookup y = some k):∃ k',(y,k') ∈ l ∧ (k = k' ∨ (k' = .free ∧ k = .cell)):=by
  induction l with
  | nil=>cases h
  | cons z l ih =>
    obtain ⟨n,k'⟩:=z
    have key:∃ kk,(kk = k' ∨ (k' = .free ∧ kk = .cell)) ∧ relab κ ((n,k') :: l) = (n,kk) :: relab κ l:=by
      by_cases hc:(k' == NameKind.free && κ n == some .cell) = true
      · exact ⟨.cell,.inr ⟨eq_of_beq (and2 hc).1,rfl⟩,congrArg (· :: relab κ l) (if_pos hc)⟩
      · exact ⟨k',.inl rfl,congrArg (· :: relab κ l) (if_neg hc)⟩
    obtain ⟨kk,hkk,e1⟩:=key
    rw [e1,List.lookup_cons] at h
    by_cases e:(y == n) = true
    · rw [e] at h
      cases h
      rw [eq_of_beq e]
      exact ⟨k',List.mem_cons_self ..,hkk⟩
    · rw [Bool.eq_false_iff.mpr e] at h
      exact (ih h).imp fun q hq=>⟨List.mem_cons_of_mem _ hq.1,hq.2⟩
theorem isVar_of_cell {k:Option NameKind} (h:hasCell k = true):isVar k = true:=by
  cases k with
  | none=>cases h
  | some k=>cases k <;> first | rfl | cases h
section
variable {prog:Program} {w:World} {p:Program} {loose:List Str} {mean:ExcName → Option Value} {mg mb:Str → Option Value} {lvl:Nat} {A:Around} {env:Env} {ce:CE} {P:Pd} {σ:Sig} {s:Shared} {E:Value → Shared → Prop}
theorem Cx.innerN {scope:Scope} {xs:List Str} {rs:List (Option RV)} {C:Addr} {s₀ s₂:Shared} {m₂:Str → Option Value} {P':Pd} (X:Cx prog w p loose mean mg mb lvl A env ce P σ s₀) (K:CompOk ce scope xs) (hlen:xs.length = rs.length) (hk:∀ b o,s₀.heap.get? b = some o → s₂.heap.get? b = some o)
    (hn:s₂.heap.Ns C m₂) (hP:P'.Ok s₂.heap) (hPP:∀ f c a o,P f c a → s₀.heap.get? a = some o → P' f c a) (hv:∀ (j:Nat) (x:Str) (r:RV),xs[j]? = some x → rs[j]? = some (some r) → ∃ v,m₂ x = some v ∧ R prog w s₂.heap (P' r.f r.c) v r.d) :
    Cx prog w p loose mean mg mb lvl A (compEnvC scope (closeOver env scope.names []) C env) (ce.inner scope xs) P' (σ ++ rs) s₂ where
  hh:=X.hh
  hd:=X.hd
  hu:=X.hu
  fn:=K.fn
  gl:=X.gl
  bl:=X.bl
  ki:=fun y=>(congrArg (List.lookup y) (relab_eq X.ki X.fn scope)).symm
  len:=by show (σ ++ rs).length = (ce.names ++ xs).length; rw [List.length_append,List.length_append,X.len,hlen]
  cells:=fun y hy=>by
    have hy':hasCell ((relab ce.kind scope.names).lookup y) = true:=by
      rw [← relab_eq X.ki X.fn]; exact hy
    cases hl:(relab ce.kind scope.names).lookup y with
    | none=>rw [hl] at hy'; cases hy'
    | some k =>
      rw [hl] at hy'
      obtain ⟨k',hm',hk'⟩:=lookup_relab hl
      have hfree:k' = .free:=by
        rcases hk' with rfl | ⟨e,zz⟩
        · cases k with
          | free=>rfl
          | cell=>exact absurd rfl (K.nocell _ hm')
          | _=>cases hy'
        · exact e
      subst hfree
      have h1:=K.free _ hm' rfl
      rw [X.ki] at h1
      exact (X.cells y h1).imp fun c hc=>closeOver_lookup hc _ _ (.inl hm')
  pd:=hP
  top:=X.top.keeps hk
  rd:=fun y i q h1 h2 h3=>by
    have h1:lastIdx y (ce.names ++ xs) 0 = some i:=h1
    rw [lastIdx_appendL,Nat.zero_add] at h1
    cases hxy:lastIdx y xs ce.names.length with
    | some i' =>
      rw [hxy] at h1
      cases h1
      obtain ⟨j,rfl,g2⟩:=lastIdx_at hxy
      rw [← X.len,List.getElem?_append_right (Nat.le_add_right ..),Nat.add_sub_cancel_left] at h3
      obtain ⟨v,hm,hr⟩:=hv _ y q g2 h3
      exact ⟨v,.inl ⟨lookup_relabel_local (K.tgt y (List.mem_of_getElem? g2)),m₂,hn,hm⟩,hr⟩
    | none =>
      rw [hxy] at h1
      have h1:lastIdx y ce.names 0 = some i:=h1
      obtain ⟨j,hj,g2⟩:=lastIdx_at h1
      rw [Nat.zero_add] at hj
      subst hj
      have hlt:i < σ.length:=X.len ▸ (List.getElem?_eq_some_iff.mp g2).1
      rw [List.getElem?_append_left hlt] at h3
      have h2':isVar ((relab ce.kind scope.names).lookup y) = true:=h2
      cases hl2:(relab ce.kind scope.names).lookup y with
      | none=>rw [hl2] at h2'; cases h2'
      | some k =>
        rw [hl2] at h2'
        obtain ⟨k',hm',hk'⟩:=lookup_relab hl2
        have hfree:k' = .free ∧ (k = .cell ∨ k = .free):=by
          rcases hk' with rfl | ⟨e,e'⟩
          · cases k with
            | free=>exact ⟨rfl,.inr rfl⟩
            | cell=>exact absurd rfl (K.nocell _ hm')
            | «local» =>
              rcases K.loc _ hm' rfl with e | e
              · exact absurd (List.mem_of_getElem? g2) (by rw [show y = (".0":Str) from e]; exact K.dot)
              · exact absurd e (lastIdx_none hxy)
            | _=>cases h2'
          · exact ⟨e,.inl e'⟩
        obtain ⟨rfl,hkk⟩:=hfree
        have h4:=K.free _ hm' rfl
        obtain ⟨u,l,ru⟩:=X.rd y i q h1 (isVar_of_cell h4) h3
        have e3:(compEnvC scope (closeOver env scope.names []) C env).kindOf y = some k:=by
          show (relabel scope env).names.lookup y = _
          rw [relab_eq X.ki X.fn]; exact hl2
        refine ⟨u,.inr ⟨by rcases hkk with rfl | rfl <;> first | exact .inl e3 | exact .inr e3,?_⟩,ru.frame fun a o pa zz e=>⟨hk a o e,hPP _ _ a o pa e⟩⟩
        rcases l with ⟨e,zz⟩ | ⟨zz,c,hc,ic⟩
        · rw [X.ki,e] at h4; cases h4
        · exact ⟨c,closeOver_lookup hc _ _ (.inl hm'),ic.keeps hk⟩
theorem acompL_split {go:PV → Option (List RV)} {ds es:List PV}:∀ {rs:List RV},acompL go (ds ++ es) = some rs → ∃ qs ts,acompL go ds = some qs ∧ acompL go es = some ts ∧ rs = qs ++ ts:=by
  induction ds with
  | nil=>exact fun h=>⟨[],_,rfl,h,rfl⟩
  | cons d ds ih =>
    intro rs h1
    refine cps fun Gq hGq=>?_
    obtain ⟨r,hr,h3⟩:=bind_of h1
    obtain ⟨rest,hrest,e⟩:=bind_of h3
    refine hGq ?_
    clear hGq
    cases e
    obtain ⟨qs,ts,h4,h5,rfl⟩:=ih hrest
    refine ⟨r ++ qs,ts,?_,h5,(List.append_assoc ..).symm⟩
    show (go d).bind _ = _
    rw [hr]
    show (acompL go ds).bind _ = _
    rw [h4]; rfl
theorem acompL_one {go:PV → Option (List RV)} {d:PV} {r:List RV} (h:go d = some r):acompL go [d] = some r:=by
  show (go d).bind _ = _
  rw [h]
  show some (r ++ []) = _
  rw [List.append_nil]
theorem acompL_at {go:PV → Option (List RV)} {ds:List PV} {rs qs:List RV} {i:Nat} {d:PV} (hgo:acompL go ds = some rs) (hq:acompL go (ds.take i) = some qs) (hd:ds[i]? = some d):∃ r,go d = some r ∧ acompL go (ds.take (i + 1)) = some (qs ++ r) ∧ qs.length + r.length ≤ rs.length:=by
  have htake:ds.take (i + 1) = ds.take i ++ [d]:=by rw [List.take_add_one,hd]; rfl
  rw [← List.take_append_drop (i + 1) ds] at hgo
  obtain ⟨a,ts,h1,h2,rfl⟩:=acompL_split hgo
  have h3:=h1
  rw [htake] at h3
  obtain ⟨b,c,h4,h5,rfl⟩:=acompL_split h3
  obtain ⟨r,hr,zz⟩:=bind_of h5
  rw [acompL_one hr] at h5
  cases h5
  cases hq.symm.trans h4
  exact ⟨_,hr,h1,by rw [List.length_append,List.length_append]; exact Nat.le_add_right ..⟩
end
end Mine
namespace Mine
open PySem PySem.SeqAt PySem.Calls PyProof.Rows
noncomputable def tests (ifs:List Expr) (env:Env):Sem Bool:=forIn ifs true fun c r=>if r = true then do let ok ← isTrue c env (eval c env); pure (ForInStep.yield ok) else pure (ForInStep.yield r)
noncomputable def turnCode (e:Expr) (k:Nat) (ip:Pos) (target:Expr) (it acc:Value) (env:Env) (ifs:List Expr) (em:Sem PySem.Fin):Sem PySem.Fin:=do
  standAt ip
  match ← pyNext it with
  | none=>pure (.done .next)
  | some v =>
    letOwnedTupleGo target it v
    assign target env v
    let ok ← tests ifs env
    if ok then em else again (.compLoop e k it acc env)
section
variable {prog:Program} {w:World} {A:Around} {P:Pd} {s:Shared} {E:Value → Shared → Prop}
theorem codeAny_compLoop_gen {e:Expr} {k:Nat} {x:Str} {px ip:Pos} {it acc:Value} {env:Env} {ifs:List Expr} {em:Sem PySem.Fin} {R₀:Result → Shared → Prop} (hq:(Code.compLoop e k it acc env).quiet = true) (hfr:(Code.compLoop e k it acc env).isFrame = false)
    (hturn:compTurn e k it acc env = turnCode e k ip (.Name x px) it acc env ifs em)
    (hun:A.under (.compLoop e k it acc env) = A) (I:Nat → Shared → Prop)
    (turn:∀ n s,I n s → wpAny (model prog w) A (pyNext it) (fun r s₁=>match r with
      | none=>R₀ (.ok .next) s₁
      | some v=>wpAny (model prog w) A (assign (.Name x px) env v) (fun zz s₂ =>
          wpAny (model prog w) A (tests ifs env) (fun ok s₃ =>
            if ok = true then wpAny (model prog w) A em (fun fin s₄=>fin = .again (.compLoop e k it acc env) ∧ ∃ m,m < n ∧ I m s₄) (notedBy (model prog w) A env fun e s'=>R₀ (.error e) s') s₃
            else ∃ m,m < n ∧ I m s₃) (notedBy (model prog w) A env fun e s'=>R₀ (.error e) s') s₂) (notedBy (model prog w) A env fun e s'=>R₀ (.error e) s') s₁) (notedBy (model prog w) A env fun e s'=>R₀ (.error e) s') s)
    (n:Nat) (h:I n s):codeAny (model prog w) A (.compLoop e k it acc env) R₀ s:=by
  refine codeAny_loop hq I (fun n s hI=>?_) n h
  rw [hun]
  have hden:(model prog w).den (.compLoop e k it acc env) = (compTurn e k it acc env).onRaise (fun x=>do noteFrame x env; theTreesLotGoes x):=by
    show (if (Code.compLoop e k it acc env).isFrame then _ else _) = _
    rw [hfr]; rfl
  rw [hden]
  refine wpAny_noted ?_
  rw [hturn]
  refine wpAny_bind (wpAny_standAt (wpAny_bind (wpAny_mono (turn n s hI) (fun r s₁ h₁=>?_) fun zz zz h'=>h')))
  cases r with
  | none=>exact wpAny_pure h₁
  | some v =>
    refine wpAny_bind (wpAny_of_eq (rfl:letOwnedTupleGo (.Name x px) it v = pure ()) ?_)
    refine wpAny_bind (wpAny_mono h₁ (fun zz s₂ h₂=>wpAny_bind (wpAny_mono h₂ (fun ok s₃ h₃=>?_) fun zz zz h'=>h')) fun zz zz h'=>h')
    cases ok with
    | false=>exact wpAny_pure ⟨rfl,h₃⟩
    | true=>exact wpAny_mono h₃ (fun fin s₄ h₄=>by obtain ⟨rfl,h₄⟩:=h₄; exact ⟨rfl,h₄⟩) fun zz zz h'=>h'
def Old3 (C I D:Addr) (h h':Heap):Prop:=∀ b o,b ≠ C → b ≠ I → b ≠ D → h.get? b = some o → h'.get? b = some o
inductive Emit (prog:Program) (w:World) (P:Pd) (D C:Addr) (Im:(Str → Option Value) → Prop) (s:Shared) (ys:Array Value) (r:List RV):Shared → Prop
  | mk {h':Heap} {tk:Nat} {dr:Drawn} {m':Str → Option Value} {ys':Array Value}:h'.PlainList D (ys ++ ys') → RL prog w h' P ys'.toList r → h'.Ns C m' → Im m' → (∀ b o,b ≠ D → b ≠ C → s.heap.get? b = some o → h'.get? b = some o) → Emit prog w P D C Im s ys r { s with heap:=h',toks:=tk,drawn:=dr }
inductive LoopI (prog:Program) (w:World) (P:Pd) (I D C:Addr) (ds:List PV) (go:PV → Option (List RV)) (Im:(Str → Option Value) → Prop) (St:Nat → Heap → Prop) (ys0:Array Value) (s:Shared):Nat → Shared → Prop
  | mk {h':Heap} {tk:Nat} {dr:Drawn} {m':Str → Option Value} {ys:Array Value} {i:Nat} {qs:List RV}:St i h' → h'.PlainList D (ys0 ++ ys) → h'.Ns C m' → Im m' → acompL go (ds.take i) = some qs → RL prog w h' P ys.toList qs → i ≤ ds.length → Old3 C I D s.heap h' →
      LoopI prog w P I D C ds go Im St ys0 s (ds.length + 1 - i) { s with heap:=h',toks:=tk,drawn:=dr }
structure LoopC (P:Pd) (cenv:Env) (I D:Addr) (fp:List Addr) (x:Str) (St:Nat → Heap → Prop):Prop where
  hx:cenv.kindOf x = some .local
  hp:(cenv.scope.kind == .class || (cenv.scope.kind == .module && cenv.locals != cenv.globals)) = false
  hDC:D ≠ cenv.locals
  hDf:D ∉ fp
  hCf:cenv.locals ∉ fp
  hId:∀ i h',St i h' → ∀ o,h'.get? I = some o → ¬ isData o
  hbD:∀ f c,¬ P f c D
  hbC:∀ f c,¬ P f c cenv.locals
def TurnG (prog:Program) (w:World) (A:Around) (P:Pd) (loop:Code) (cenv:Env) (I D:Addr) (x:Str) (ifs:List Expr) (em:Sem PySem.Fin) (ds:List PV) (Pi:Nat → Value → Prop) (go:PV → Option (List RV)) (Im:(Str → Option Value) → Prop) (N:Nat) (s:Shared):Prop :=
  ∀ i v d r s₂ m₂ (ys:Array Value) E',Pi i v → ds[i]? = some d → go d = some r → s₂.heap.Ns cenv.locals m₂ → m₂ x = some v → Im m₂ → Old3 cenv.locals I D s.heap s₂.heap → s₂.heap.PlainList D ys → ys.size + r.length ≤ N →
    wpAny (model prog w) A (tests ifs cenv) (fun ok s₃=>Keeps s₂ s₃ ∧ if ok = true then wpAny (model prog w) A em (fun fin s₄=>fin = .again loop ∧ Emit prog w P D cenv.locals Im s₃ ys r s₄) E' s₃ else r = []) E' s₂
theorem lt_step {n i:Nat} (h:i < n):n + 1 - (i + 1) < n + 1 - i:=Nat.sub_lt_sub_left (Nat.lt_succ_of_lt h) (Nat.lt_succ_self i)
set_option maxHeartbeats 1000000 in
theorem comp_coreG {e:Expr} {k:Nat} {ip:Pos} {x:Str} {px:Pos} {ifs:List Expr} {em:Sem PySem.Fin} {I D:Addr} {fp:List Addr} {ds:List PV} {Pi:Nat → Value → Prop} {St:Nat → Heap → Prop} {cenv:Env} {m:Str → Option Value} {ys0:Array Value} {R₀:Result → Shared → Prop} {Im:(Str → Option Value) → Prop}
    {go:PV → Option (List RV)} {rs:List RV} (hgo:acompL go ds = some rs)
    (hq:(Code.compLoop e k (.ref I) (.ref D) cenv).quiet = true) (hfr:(Code.compLoop e k (.ref I) (.ref D) cenv).isFrame = false)
    (hturn:compTurn e k (.ref I) (.ref D) cenv = turnCode e k ip (.Name x px) (.ref I) (.ref D) cenv ifs em)
    (hun:A.under (.compLoop e k (.ref I) (.ref D) cenv) = A) (L:LoopC P cenv I D fp x St) (W:Walks prog w A I fp [I] ds.length Pi St)
    (hst:St 0 s.heap) (hacc:s.heap.PlainList D ys0) (hn:s.heap.Ns cenv.locals m) (hIm:Im m) (hIms:∀ m v,Im m → Im (fun z=>if z = x then some v else m z))
    (turn:TurnG prog w A P (.compLoop e k (.ref I) (.ref D) cenv) cenv I D x ifs em ds Pi go Im (ys0.size + rs.length) s)
    (hR:∀ h' tk dr m' ys',h'.Ns cenv.locals m' → Im m' → h'.PlainList D (ys0 ++ ys') → RL prog w h' P ys'.toList rs → Old3 cenv.locals I D s.heap h' → R₀ (.ok .next) { s with heap:=h',toks:=tk,drawn:=dr }) :
    codeAny (model prog w) A (.compLoop e k (.ref I) (.ref D) cenv) R₀ s:=by
  have hDI:D ≠ I:=fun e=>L.hDf (by rw [e]; exact W.sub _ (List.mem_singleton.mpr rfl))
  have hCI:cenv.locals ≠ I:=fun e=>L.hCf (by rw [e]; exact W.sub _ (List.mem_singleton.mpr rfl))
  refine codeAny_compLoop_gen hq hfr hturn hun (LoopI prog w P I D cenv.locals ds go Im St ys0 s) ?_ (ds.length + 1) (.mk (i:=0) (ys:=#[]) hst (by rw [Array.append_empty]; exact hacc) hn hIm rfl .nil (Nat.zero_le _) fun zz zz zz zz zz e=>e)
  intro k s' hI
  cases hI with
  | @mk H tk dr m' ys i qs hst' hacc' hn' hIm' hq hRL hi hk =>
    have data:∀ {h₁:Heap},(∀ b o,b ≠ I → H.get? b = some o → h₁.get? b = some o) → RL prog w h₁ P ys.toList qs:=fun up=>hRL.frame fun f c a o p hd' e=>⟨up a o (fun e'=>L.hId _ _ hst' o (e' ▸ e) hd') e,p⟩
    by_cases hlt:i < ds.length
    · refine W.item i _ _ _ hlt hst' fun v h₁ tk₁ hPv hst₁ hk₁=>?_
      refine cps fun Gq hGq=>?_
      obtain ⟨r,hr,hq1,hsize⟩:=acompL_at hgo hq (List.getElem?_eq_getElem hlt)
      refine hGq ?_
      clear hGq
      have up₁:∀ b o,b ≠ I → H.get? b = some o → h₁.get? b = some o:=fun b o hb e=>hk₁ b o (fun hm=>hb (List.mem_singleton.mp hm)) e
      refine wpAny_assign_Name (wpAny_storeName_local L.hx (hn'.at' fun o e=>up₁ _ o hCI e) (fun h₂ hn₂ hs₂=>?_) L.hp)
      have hst₂:St (i + 1) h₂:=W.frame _ _ _ hst₁ fun b hb o e=>hs₂.extBut b o (fun e'=>L.hCf (e' ▸ hb)) e
      have hRL₂:RL prog w h₂ P ys.toList qs:=(data up₁).off hs₂.extBut L.hbC
      have up₂:∀ b o,b ≠ cenv.locals → b ≠ I → H.get? b = some o → h₂.get? b = some o:=fun b o h1 h2 e=>hs₂.extBut b o h1 (up₁ b o h2 e)
      have hk₂:Old3 cenv.locals I D s.heap h₂:=fun b o h1 h2 h3 e=>up₂ b o h1 h2 (hk b o h1 h2 h3 e)
      have hacc₂:h₂.PlainList D (ys0 ++ ys):=hacc'.at fun o e=>up₂ D o L.hDC hDI e
      have hszz:(ys0 ++ ys).size + r.length ≤ ys0.size + rs.length:=by
        rw [Array.size_append,← Array.length_toList (xs:=ys),hRL.length,Nat.add_assoc]
        exact Nat.add_le_add_left hsize _
      refine wpAny_mono (turn i v _ r _ _ (ys0 ++ ys) _ hPv (List.getElem?_eq_getElem hlt) hr hn₂ (if_pos rfl) (hIms _ v hIm') hk₂ hacc₂ hszz) (fun ok s₃ h₃=>?_) fun zz zz e=>e
      obtain ⟨⟨H3,tk₃,dr₃,rfl,k3⟩,h₃⟩:=h₃
      have hst₃:St (i + 1) H3:=W.frame _ _ _ hst₂ fun b zz o e=>k3 b o e
      cases ok with
      | false =>
        have h₃:r = []:=h₃
        subst h₃
        rw [List.append_nil] at hq1
        exact ⟨_,lt_step hlt,.mk hst₃ (hacc₂.at fun o e=>k3 _ o e) (hn₂.keeps k3) (hIms _ v hIm') hq1 (hRL₂.keeps k3) hlt fun b o h1 h2 h3 e=>k3 b o (hk₂ b o h1 h2 h3 e)⟩
      | true =>
        refine wpAny_mono h₃ (fun fin s₄ h₄=>?_) fun zz zz e=>e
        obtain ⟨rfl,h₄⟩:=h₄
        cases h₄ with
        | @mk H4 tk₄ dr₄ m₄ ys' hpl₄ hRL₄ hn₄ hIm₄ k4 =>
          refine ⟨rfl,_,lt_step hlt,.mk (ys:=ys ++ ys') (W.frame _ _ _ hst₃ fun b hb o e=>k4 b o (fun e'=>L.hDf (e' ▸ hb)) (fun e'=>L.hCf (e' ▸ hb)) e) (by rw [← Array.append_assoc]; exact hpl₄) hn₄ hIm₄ hq1 ?_ hlt fun b o h1 h2 h3 e=>k4 b o h3 h1 (k3 b o (hk₂ b o h1 h2 h3 e))⟩
          rw [Array.toList_append]
          exact RL.append ((hRL₂.keeps k3).frame fun f c a o p zz e=>⟨k4 a o (fun e'=>L.hbD f c (e' ▸ p)) (fun e'=>L.hbC f c (e' ▸ p)) e,p⟩) hRL₄
    · obtain rfl:i = ds.length:=Nat.le_antisymm hi (Nat.not_lt.mp hlt)
      rw [List.take_length,hgo] at hq
      cases hq
      refine W.done _ _ _ hst' fun h₁ tk₁ hk₁=>?_
      have up₁:∀ b o,b ≠ I → H.get? b = some o → h₁.get? b = some o:=fun b o hb e=>hk₁ b o (fun hm=>hb (List.mem_singleton.mp hm)) e
      exact hR h₁ tk₁ dr m' ys (hn'.at' fun o e=>up₁ _ o hCI e) hIm' (hacc'.at fun o e=>up₁ _ o hDI e) (data up₁) fun b o h1 h2 h3 e=>up₁ b o h2 (hk b o h1 h2 h3 e)
theorem codeAny_compStart1 {elt iter iter2:Expr} {t1 t2:Expr} {ifs ifs2:List Expr} {scope:Scope} {pos:Pos} {it acc:Value} {env:Env} {R₀:Result → Shared → Prop}
    (h0:codeAny (model prog w) A (.compLoop (.ListComp elt [⟨t1,iter,ifs,0⟩,⟨t2,iter2,ifs2,0⟩] scope pos) 1 it acc env) R₀ s)
    (h:wpAny (model prog w) A (pyIter it) (fun it' s'=>codeAny (model prog w) A (.compLoop (.ListComp elt [⟨t1,iter,ifs,0⟩,⟨t2,iter2,ifs2,0⟩] scope pos) 1 it' acc env) R₀ s')
      (notedBy (model prog w) A env fun x s'=>R₀ (.error x) s') s) :
    codeAny (model prog w) A (.compStart (.ListComp elt [⟨t1,iter,ifs,0⟩,⟨t2,iter2,ifs2,0⟩] scope pos) 1 it acc env) R₀ s:=by
  refine codeAny_of_tree ?_
  show wpAny _ _ ((compStart (.ListComp elt [⟨t1,iter,ifs,0⟩,⟨t2,iter2,ifs2,0⟩] scope pos) 1 it acc env).onRaise (fun x=>do noteFrame x env; standAt theWindowsPlace)) _ _ s
  refine wpAny_notedAt ?_
  delta compStart
  show wpAny _ _ (ask >>= _) _ _ s
  refine wpAny_bind (wpAny_askSetting (wpAny_ite ?_))
  split
  · first
      | exact wpAny_bind (wpAny_pure (wpAny_pure (And.intro rfl h0)))
      | exact wpAny_pure (And.intro rfl h0)
  · first
      | exact wpAny_bind (wpAny_rule (wpAny_bind (wpAny_standAt (wpAny_bind (wpAny_mono h (fun it' s' h'=>wpAny_pure (And.intro rfl h')) fun zz zz x=>x)))))
      | (refine wpAny_bind (wpAny_rule ?_); show wpAny _ _ (standAt iter2.pos >>= _) _ _ s; exact wpAny_bind (wpAny_standAt (wpAny_bind (wpAny_mono h (fun it' s' h'=>wpAny_pure (And.intro rfl h')) fun zz zz x=>x))))
theorem compTurn_two0 (elt t1 iter t2 iter2:Expr) (ifs ifs2:List Expr) (scope:Scope) (pos:Pos) (it acc:Value) (env:Env) :
    compTurn (.ListComp elt [⟨t1,iter,ifs,0⟩,⟨t2,iter2,ifs2,0⟩] scope pos) 0 it acc env = turnCode (.ListComp elt [⟨t1,iter,ifs,0⟩,⟨t2,iter2,ifs2,0⟩] scope pos) 0 iter.pos t1 it acc env ifs (do
      let x ← eval iter2 env
      standAt iter2.pos
      let x ← foldedSetIterable iter2 env x
      let _ ← runOwn (.compStart (.ListComp elt [⟨t1,iter,ifs,0⟩,⟨t2,iter2,ifs2,0⟩] scope pos) 1 (← holding [x] (pyIter x)) acc env) env
      again (.compLoop (.ListComp elt [⟨t1,iter,ifs,0⟩,⟨t2,iter2,ifs2,0⟩] scope pos) 0 it acc env)):=by rfl
noncomputable def emitCode (loop:Code) (elt:Expr) (acc:Value) (env:Env):Sem PySem.Fin:=(do let _ ← call (.builtin "list.append") [acc,← eval elt env]) >>= fun zz=>again loop
theorem compTurn_two1 (elt t1 iter t2 iter2:Expr) (ifs ifs2:List Expr) (scope:Scope) (pos:Pos) (it acc:Value) (env:Env) :
    compTurn (.ListComp elt [⟨t1,iter,ifs,0⟩,⟨t2,iter2,ifs2,0⟩] scope pos) 1 it acc env = turnCode (.ListComp elt [⟨t1,iter,ifs,0⟩,⟨t2,iter2,ifs2,0⟩] scope pos) 1 iter2.pos t2 it acc env ifs2 (emitCode (.compLoop (.ListComp elt [⟨t1,iter,ifs,0⟩,⟨t2,iter2,ifs2,0⟩] scope pos) 1 it acc env) elt acc env):=by rfl
theorem compTurn_one (elt t1 iter:Expr) (ifs:List Expr) (scope:Scope) (pos:Pos) (it acc:Value) (env:Env) :
    compTurn (.ListComp elt [⟨t1,iter,ifs,0⟩] scope pos) 0 it acc env = turnCode (.ListComp elt [⟨t1,iter,ifs,0⟩] scope pos) 0 iter.pos t1 it acc env ifs (emitCode (.compLoop (.ListComp elt [⟨t1,iter,ifs,0⟩] scope pos) 0 it acc env) elt acc env):=by rfl
theorem emit_one {loop:Code} {elt:Expr} {cenv:Env} {D:Addr} {Im:(Str → Option Value) → Prop} {ys:Array Value} {r:List RV} {m:Str → Option Value} (hDC:D ≠ cenv.locals) (hbD:∀ f c,¬ P f c D) (hn:s.heap.Ns cenv.locals m) (hIm:Im m) (hpl:s.heap.PlainList D ys) (hz:ys.size ≤ sizeLine)
    (h:wpAny (model prog w) A (eval elt cenv) (fun v s₆=>Keeps s s₆ ∧ ∃ z,r = [z] ∧ R prog w s₆.heap (P z.f z.c) v z.d) E s) :
    wpAny (model prog w) A (emitCode loop elt (.ref D) cenv) (fun fin s₄=>fin = .again loop ∧ Emit prog w P D cenv.locals Im s ys r s₄) E s:=by
  refine wpAny_bind (wpAny_bind (wpAny_mono h (fun u s₈ h₈=>wpAny_bind ?_) fun zz zz e=>e))
  obtain ⟨⟨h8,t8,d8,rfl,k8⟩,z,rfl,rz⟩:=h₈
  refine wpAny_list_append_plain (hsz:=hz) (hpl.at fun o e=>k8 _ o e) fun h₉ hl₉ hs₉=>wpAny_pure (wpAny_pure ⟨rfl,.mk (ys':=#[u]) ?_ (.cons (rz.off hs₉.extBut (hbD _ _)) .nil) ((hn.keeps k8).sameBut hs₉ (Ne.symm hDC)) hIm fun b o h1 h2 e=>hs₉.extBut b o h1 (k8 b o e)⟩)
  rw [Array.append_singleton]
  exact hl₉
end
end Mine
namespace Mine
open PySem PySem.SeqAt PySem.Calls PyProof.Rows
theorem folded_plain {e:Expr} (h:isSetE e = false) (env:Env) (x:Value):foldedSetIterable e env x = pure x:=by
  cases e <;> first | exact Eq.refl (pure x) | cases h
theorem none_of2 {h h':Heap} (hk:∀ b o,h.get? b = some o → h'.get? b = some o) {a:Addr} (e:h'.get? a = none):h.get? a = none:=by
  cases q:h.get? a with
  | none=>rfl
  | some o=>rw [hk a o q] at e; cases e
theorem ne_of_get {h:Heap} {a b:Addr} {o:Obj} (e:h.get? a = none) (e':h.get? b = some o):b ≠ a:=fun q=>by rw [q,e] at e'; cases e'
theorem ns_get {h:Heap} {C:Addr} {m:Str → Option Value} (n:h.Ns C m):∃ o,h.get? C = some o:=n.elim fun o q=>q.elim fun zz q=>q.elim fun zz q=>⟨o,q.1⟩
abbrev PX (P:Pd) (D C:Addr):Pd:=fun f c a=>P f c a ∧ a ≠ D ∧ a ≠ C
structure CFrame (P:Pd) (s₁ s₂:Shared) (I D C:Addr) (fp:List Addr) (h₁:Heap):Prop where
  hDC:D ≠ C
  hDf:D ∉ fp
  hCf:C ∉ fp
  nD:s₂.heap.get? D = none
  nC:s₂.heap.get? C = none
  old:∀ b o,s₂.heap.get? b = some o → h₁.get? b = some o
  hacc:h₁.PlainList D #[]
  hns:∃ m,h₁.Ns C m
  k12:Keeps s₁ s₂
  hI:s₁.heap.get? I = none
  pd:P.Ok s₁.heap
section
variable {P:Pd} {s₁ s₂:Shared} {I D C:Addr} {fp:List Addr} {h₁ h₃:Heap}
theorem CFrame.nD1 (F:CFrame P s₁ s₂ I D C fp h₁):s₁.heap.get? D = none:=none_of2 (kheap F.k12) F.nD
theorem CFrame.nC1 (F:CFrame P s₁ s₂ I D C fp h₁):s₁.heap.get? C = none:=none_of2 (kheap F.k12) F.nC
theorem CFrame.up2 (F:CFrame P s₁ s₂ I D C fp h₁) (hk:Old3 C I D h₁ h₃) {b:Addr} {o:Obj} (hb:b ≠ I) (e:s₂.heap.get? b = some o):h₃.get? b = some o:=hk b o (ne_of_get F.nC e) hb (ne_of_get F.nD e) (F.old b o e)
theorem CFrame.up (F:CFrame P s₁ s₂ I D C fp h₁) (hk:Old3 C I D h₁ h₃) (b:Addr) (o:Obj) (e:s₁.heap.get? b = some o):h₃.get? b = some o:=F.up2 hk (ne_of_get F.hI e) (kheap F.k12 b o e)
theorem CFrame.pp (F:CFrame P s₁ s₂ I D C fp h₁) (f c:Bool) (a:Addr) (o:Obj) (p:P f c a) (e:s₁.heap.get? a = some o):PX P D C f c a:=⟨p,ne_of_get F.nD1 e,ne_of_get F.nC1 e⟩
theorem CFrame.ok (F:CFrame P s₁ s₂ I D C fp h₁) (hk:∀ b o,s₁.heap.get? b = some o → h₃.get? b = some o) {ys:Array Value} {m:Str → Option Value} (hD:h₃.PlainList D ys) (hC:h₃.Ns C m):(PX P D C).Ok h₃ :=
  ⟨fun f c f' c' a h1 h2 h3=>⟨F.pd.mono f c f' c' a h1 h2 h3.1,h3.2⟩,fun f c a e=>⟨F.pd.fresh f c a (none_of2 hk e),hD.elim fun n q=>(ne_of_get e q).symm,(ns_get hC).elim fun o q=>(ne_of_get e q).symm⟩⟩
end
structure LoopX (prog:Program) (w:World) (A:Around) (P:Pd) (q:RV) (ds:List PV) (s₁ s₂:Shared) (I D C:Addr) (fp:List Addr) (Pi:Nat → Value → Prop) (St:Nat → Heap → Prop) (h₁:Heap):Prop where
  F:CFrame P s₁ s₂ I D C fp h₁
  W:Walks prog w A I fp [I] ds.length Pi St
  hst:St 0 h₁
  hId:∀ i h',St i h' → ∀ o,h'.get? I = some o → ¬ isData o
  hPi:∀ i v,Pi i v → ∃ d,ds[i]? = some d ∧ R prog w s₁.heap (P q.f q.c) v d
structure CompEnd (prog:Program) (w:World) (P:Pd) (s:Shared) (res:RV) (D C:Addr) (s':Shared):Prop where
  k:Keeps s s'
  nD:s.heap.get? D = none
  nC:s.heap.get? C = none
  hDC:D ≠ C
  ns:∃ m,s'.heap.Ns C m
  r:R prog w s'.heap (fun a=>P res.f res.c a ∧ a ≠ C) (.ref D) res.d
def CompRuns (prog:Program) (w:World) (A:Around) (env:Env) (P:Pd) (s:Shared) (E:Value → Shared → Prop) (elt tg it:Expr) (ifs:List Expr) (gs:List Comprehension) (scope:Scope) (vp:Pos) (res:RV):Prop :=
  ∀ (use:Option (Value → Sem Unit)) (Q:Value → Shared → Prop) (cpos:Pos),(∀ D C s',CompEnd prog w P s res D C s' → compPost (model prog w) A E use Q (.ref D) C (.ok .next) s') →
    wpAny (model prog w) A (comprehension (.ListComp elt (⟨tg,it,ifs,0⟩ :: gs) scope vp) scope env cpos (newList []) false (eval it env) use) Q E s
section
variable {prog:Program} {w:World} {p:Program} {loose:List Str} {mean:ExcName → Option Value} {mg mb:Str → Option Value} {lvl:Nat} {A:Around} {env:Env} {ce:CE} {P:Pd} {σ:Sig} {s:Shared} {E:Value → Shared → Prop}
theorem newlR_d {rs:List RV} {r:RV} (h:newlR rs = some r):r.d = .list (rs.map (·.d)) ∧ (rs.map (·.d)).length ≤ lim:=⟨(newl_d h).1,(newl_d h).2.1⟩
theorem RL.newlR {h:Heap} {P:Pd} {vs:List Value} {rs:List RV} {r:RV} (hP:∀ f c f' c' a,(f' = true → f = true) → (c' = true → c = true) → P f c a → P f' c' a) (x:RL prog w h P vs rs) (hr:newlR rs = some r):RS prog w h (P r.f r.c) vs (rs.map (·.d)) :=
  RS.newl hr (x.toRS hP)
theorem comp_res' {D C:Addr} {h':Heap} {ys:Array Value} {rs:List RV} {r:RV} (hP:∀ f c f' c' a,(f' = true → f = true) → (c' = true → c = true) → P f c a → P f' c' a) (hD:∀ f c,P f c D) (hDC:D ≠ C) (hpl:h'.PlainList D ys) (hRL:RL prog w h' (PX P D C) ys.toList rs)
    (hr:newlR rs = some r):R prog w h' (fun a=>P r.f r.c a ∧ a ≠ C) (.ref D) r.d:=by
  obtain ⟨hd,hz⟩:=newlR_d hr
  rw [hd]
  obtain ⟨n,e⟩:=hpl
  exact .list ⟨hD _ _,hDC⟩ (vs:=ys.toList) (n:=n) e hz ((RL.newlR (fun f c f' c' a h1 h2 h3=>⟨hP f c f' c' a h1 h2 h3.1,h3.2⟩) hRL hr).mono fun a h=>⟨h.1,h.2.2⟩)
theorem comp_gen {elt iter:Expr} {xs:List Str} {tg:Expr} {ifs:List Expr} {gs:List Comprehension} {scope:Scope} {pos:Pos} {q res:RV} {ds:List PV} {rs:List RV} (X:Cx prog w p loose mean mg mb lvl A env ce P σ s) (K:CompOk ce scope xs) (hns:isSetE iter = false)
    (hit:wpAny (model prog w) A (eval iter env) (Pst prog w P s q) E s) (hds:aiter q.d = some ds) (hr:newlR rs = some res)
    (loop:∀ s₁ s₂ I D C fp Pi St h₁ tk R₀,Keeps s s₁ → LoopX prog w A P q ds s₁ s₂ I D C fp Pi St h₁ →
      (∀ h' tk dr m' ys,h'.Ns C m' → h'.PlainList D ys → RL prog w h' (PX P D C) ys.toList rs → Old3 C I D h₁ h' → R₀ (.ok .next) { s₂ with heap:=h',toks:=tk,drawn:=dr }) →
      codeAny (model prog w) A (.compLoop (.ListComp elt (⟨tg,iter,ifs,0⟩ :: gs) scope pos) 0 (.ref I) (.ref D) (compEnvC scope (closeOver env scope.names []) C env)) R₀ { s₂ with heap:=h₁,toks:=tk }) :
    CompRuns prog w A env P s E elt tg iter ifs gs scope pos res:=by
  intro use Q cpos hpost
  refine wpAny_comprehension_free (use:=use) rfl (folded_plain hns env) (closureFor_eq fun y hy e=>X.cells y.1 (by rw [← X.ki]; exact K.free y hy e)) K.fn K.names (wpAny_mono hit (fun xv s₁ h₁=>?_) fun zz zz e=>e)
  obtain ⟨k1,r1⟩:=h₁
  refine iter_R r1 hds fun fp Pi St s₂ k2 W hst hfp hfq hI hId hPi hsz zz=>?_
  have pd1:=X.pd.keeps (kheap k1)
  refine wpAny_newObj_type (wpAny_newFunctionEnv K.nocell (fun zz h=>nomatch h) (fun h₁ hns₁ hsb₁=>?_) K.fn)
  dsimp only at hns₁ hsb₁ ⊢
  generalize hH2:s₂.heap.push { cls:=.type "list",dict:=none,data:=.seq ([]:List Value).toArray } = H2 at hns₁ hsb₁ ⊢
  have hC:H2.objs.size = s₂.heap.objs.size + 1:=by rw [← hH2,Heap.size_push]
  have nC:s₂.heap.get? H2.objs.size = none:=none_of2 (fun b o e=>(hH2 ▸ Heap.get?_push_of_some _ e:H2.get? b = some o)) (size_none _)
  have hDC:s₂.heap.objs.size ≠ H2.objs.size:=by rw [hC]; exact Nat.ne_of_lt (Nat.lt_succ_self _)
  have old:∀ b o,s₂.heap.get? b = some o → h₁.get? b = some o:=fun b o e=>hsb₁.extBut b o (ne_of_get nC e) (Heap.get?_push_of_some _ (hH2 ▸ Heap.get?_push_of_some _ e))
  have hst₁:St 0 h₁:=(W A X.hh).frame _ _ _ hst fun b zz o e=>old b o e
  have F:CFrame P s₁ s₂ s₁.heap.objs.size s₂.heap.objs.size H2.objs.size fp h₁ :=
    ⟨hDC,fun hm=>Nat.lt_irrefl _ (hfp _ hm),fun hm=>Nat.lt_irrefl _ (Nat.lt_of_succ_lt (hC ▸ hfp _ hm:s₂.heap.objs.size + 1 < s₂.heap.objs.size)),size_none _,nC,old,⟨_,hsb₁.extBut _ _ hDC (Heap.get?_push_of_some _ (hH2 ▸ Heap.get?_push_size _ rfl))⟩,⟨_,hns₁⟩,k2,size_none _,pd1⟩
  have main:=loop s₁ s₂ _ _ _ fp Pi St h₁ (s₂.toks + ([]:List (Str × Value)).length) (compPost (model prog w) A E use Q (.ref s₂.heap.objs.size) H2.objs.size) k1 ⟨F,W A X.hh,hst₁,hId,hPi⟩ fun h' tk dr m' ys hn hpl hRL hk=>by
    refine hpost _ _ _ ⟨?_,none_of2 (kheap k1) F.nD1,none_of2 (kheap k1) F.nC1,hDC,⟨m',hn⟩,comp_res' X.pd.mono (fun f c=>pd1.fresh f c _ F.nD1) hDC hpl hRL hr⟩
    obtain ⟨H1,t1,d1,rfl,kk1⟩:=k1
    obtain ⟨H2,t2,d2,rfl,zz⟩:=k2
    exact ⟨h',tk,dr,rfl,fun b o e=>F.up hk b o (kk1 b o e)⟩
  exact codeAny_compStart_list main ((W A X.hh).self 0 _ _ _ hst₁ main)
def EltOk (prog:Program) (w:World) (p:Program) (loose:List Str) (mean:ExcName → Option Value) (mg mb:Str → Option Value) (lvl:Nat) (A:Around) (cenv:Env) (ce':CE) (elt:Expr) (τ:PV → Sig) (go:PV → Option (List RV)):Prop :=
  ∀ (s₃:Shared) (P':Pd) (d:PV) (r:List RV) (E':Value → Shared → Prop),Cx prog w p loose mean mg mb lvl A cenv ce' P' (τ d) s₃ → go d = some r →
    wpAny (model prog w) A (eval elt cenv) (fun v s₆=>Keeps s₃ s₆ ∧ ∃ z,r = [z] ∧ R prog w s₆.heap (P' z.f z.c) v z.d) E' s₃
theorem tests_nil {cenv:Env} {Q:Bool → Shared → Prop} (h:Q true s):wpAny (model prog w) A (tests [] cenv) Q E s:=wpAny_pure h
theorem size_of {a r N n:Nat} (h:a + r ≤ 0 + N) (h':N ≤ lim):a ≤ sizeLine:=Nat.le_trans (Nat.le_trans (Nat.le_add_right a r) (Nat.zero_add N ▸ h)) (Nat.le_trans h' lim_size)
theorem comp_runs {elt iter:Expr} {x:Str} {px:Pos} {scope:Scope} {pos:Pos} {q res:RV} {ds:List PV} {go:PV → Option (List RV)} {rs:List RV} (X:Cx prog w p loose mean mg mb lvl A env ce P σ s) (K:CompOk ce scope [x]) (hns:isSetE iter = false)
    (hit:wpAny (model prog w) A (eval iter env) (Pst prog w P s q) E s) (hds:aiter q.d = some ds) (hgo:acompL go ds = some rs) (hr:newlR rs = some res)
    (turn:∀ C,EltOk prog w p loose mean mg mb lvl A (compEnvC scope (closeOver env scope.names []) C env) (ce.inner scope [x]) elt (fun d=>σ ++ [some (part q d)]) go) :
    CompRuns prog w A env P s E elt (.Name x px) iter [] [] scope pos res:=by
  have hz:rs.length ≤ lim:=by have:=(newlR_d hr).2; rw [List.length_map] at this; exact this
  refine comp_gen X K hns hit hds hr fun s₁ s₂ I D C fp Pi St h₁ tk R₀ k1 L hR=>?_
  have F:=L.F
  obtain ⟨m,hn⟩:=F.hns
  refine comp_coreG (P:=PX P D C) (Im:=fun zz=>True) (ys0:=#[]) hgo rfl rfl (compTurn_one ..) rfl ⟨lookup_relabel_local (K.tgt x (List.mem_singleton.mpr rfl)),by simp [compEnvC,relabel,K.fn],F.hDC,F.hDf,F.hCf,L.hId,fun f c h=>h.2.1 rfl,fun f c h=>h.2.2 rfl⟩ L.W L.hst F.hacc hn trivial (fun zz zz zz=>trivial) ?_ fun h' tk dr m' ys hn zz hpl hRL hk=>hR h' tk dr m' ys hn (by rw [Array.empty_append] at hpl; exact hpl) hRL hk
  intro i v d r s₃ m₂ ys E' hv hd hr hn hm zz hk hpl hsz
  refine tests_nil ⟨krefl s₃,emit_one F.hDC (fun f c h=>h.2.1 rfl) hn trivial hpl (size_of (n:=0) hsz hz) (turn C s₃ (PX P D C) d r E' ?_ hr)⟩
  obtain ⟨d',hd',rv⟩:=L.hPi i v hv
  cases hd'.symm.trans hd
  refine (X.keeps k1).innerN (rs:=[some (part q d)]) K rfl (F.up hk) hn (F.ok (F.up hk) hpl hn) F.pp fun j x' r' hj hr'=>?_
  cases j with
  | zero =>
    cases hj
    cases hr'
    exact ⟨v,hm,(part_ok (P:=P) (r:=q) rv).frame fun a o pa zz e=>⟨F.up hk a o e,F.pp _ _ a o pa e⟩⟩
  | succ j=>cases hr'
inductive InnerOk (prog:Program) (w:World) (p:Program) (loose:List Str) (mean:ExcName → Option Value) (mg mb:Str → Option Value) (lvl:Nat) (A:Around) (cenv:Env) (ce':CE) (elt iter2:Expr) (τ:Option RV → Sig) (P':Pd) (E':Value → Shared → Prop) (s₄:Shared) (r:List RV):Prop
  | mk (q2:RV) (es:List PV) (go2:PV → Option (List RV)):wpAny (model prog w) A (eval iter2 cenv) (Pst prog w P' s₄ q2) E' s₄ → aiter q2.d = some es → acompL go2 es = some r →
      EltOk prog w p loose mean mg mb lvl A cenv ce' elt (fun e=>τ (some (part q2 e))) go2 → InnerOk prog w p loose mean mg mb lvl A cenv ce' elt iter2 τ P' E' s₄ r
def Turn2Ok (prog:Program) (w:World) (p:Program) (loose:List Str) (mean:ExcName → Option Value) (mg mb:Str → Option Value) (lvl:Nat) (A:Around) (cenv:Env) (ce':CE) (ifs:List Expr) (elt iter2:Expr) (τ:PV → Option RV → Sig) (go:PV → Option (List RV)):Prop :=
  ∀ (s₃:Shared) (P':Pd) (d:PV) (r:List RV) (E':Value → Shared → Prop),Cx prog w p loose mean mg mb lvl A cenv ce' P' (τ d Option.none) s₃ → go d = some r →
    wpAny (model prog w) A (tests ifs cenv) (fun ok s₄=>Keeps s₃ s₄ ∧ if ok = true then InnerOk prog w p loose mean mg mb lvl A cenv ce' elt iter2 (τ d) P' E' s₄ r else r = []) E' s₃
theorem two_at {x y x':Str} {a b:Option RV} {r:RV} {j:Nat} {T:Str → RV → Prop} (h0:∀ r,a = some r → T x r) (h1:∀ r,b = some r → T y r) (hj:[x,y][j]? = some x') (hr:[a,b][j]? = some (some r)):T x' r:=by
  cases j with
  | zero=>cases hj; exact h0 r (Option.some.inj hr)
  | succ j =>
    cases j with
    | zero=>cases hj; exact h1 r (Option.some.inj hr)
    | succ j=>cases hj
set_option maxHeartbeats 2000000 in
theorem comp2_runs {elt iter iter2:Expr} {x y:Str} {px py:Pos} {ifs:List Expr} {scope:Scope} {pos:Pos} {q res:RV} {ds:List PV} {go:PV → Option (List RV)} {rs:List RV} (X:Cx prog w p loose mean mg mb lvl A env ce P σ s) (K:CompOk ce scope [x,y]) (hxy:x ≠ y) (hns:isSetE iter = false) (hns2:isSetE iter2 = false)
    (hit:wpAny (model prog w) A (eval iter env) (Pst prog w P s q) E s) (hds:aiter q.d = some ds) (hgo:acompL go ds = some rs) (hr:newlR rs = some res)
    (turn:∀ C,Turn2Ok prog w p loose mean mg mb lvl A (compEnvC scope (closeOver env scope.names []) C env) (ce.inner scope [x,y]) ifs elt iter2 (fun d u=>σ ++ [some (part q d),u]) go) :
    CompRuns prog w A env P s E elt (.Name x px) iter ifs [⟨.Name y py,iter2,[],0⟩] scope pos res:=by
  have hz:rs.length ≤ lim:=by have:=(newlR_d hr).2; rw [List.length_map] at this; exact this
  refine comp_gen X K hns hit hds hr fun s₁ s₂ I D C fp Pi St h₁ tk R₀ k1 L hR=>?_
  have F:=L.F
  have X1:=X.keeps k1
  have hp:((compEnvC scope (closeOver env scope.names []) C env).scope.kind == .class || ((compEnvC scope (closeOver env scope.names []) C env).scope.kind == .module && (compEnvC scope (closeOver env scope.names []) C env).locals != (compEnvC scope (closeOver env scope.names []) C env).globals)) = false:=by simp [compEnvC,relabel,K.fn]
  obtain ⟨m,hn⟩:=F.hns
  refine comp_coreG (P:=PX P D C) (Im:=fun zz=>True) (ys0:=#[]) hgo rfl rfl (compTurn_two0 ..) rfl ⟨lookup_relabel_local (K.tgt x (List.mem_cons_self ..)),hp,F.hDC,F.hDf,F.hCf,L.hId,fun f c h=>h.2.1 rfl,fun f c h=>h.2.2 rfl⟩ L.W L.hst F.hacc hn trivial (fun zz zz zz=>trivial) ?_ fun h' tk dr m' ys hn zz hpl hRL hk=>hR h' tk dr m' ys hn (by rw [Array.empty_append] at hpl; exact hpl) hRL hk
  intro i v d r s₃ m₂ ys E' hv hd hr hn hm zz hk hpl hsz
  obtain ⟨d',hd',rv⟩:=L.hPi i v hv
  cases hd'.symm.trans hd
  have hk1:=F.up hk
  have rv1:R prog w s₁.heap (PX P D C (part q d).f (part q d).c) v (part q d).d:=(part_ok (P:=P) (r:=q) rv).frame fun a o pa zz e=>⟨e,F.pp _ _ a o pa e⟩
  refine wpAny_mono (turn C s₃ (PX P D C) d r E' (X1.innerN K rfl hk1 hn (F.ok hk1 hpl hn) F.pp fun j x' r'=>two_at (T:=fun x' r'=>∃ v,m₂ x' = some v ∧ R prog w s₃.heap (PX P D C r'.f r'.c) v r'.d) (fun r' e=>by cases e; exact ⟨v,hm,rv1.keeps hk1⟩) (fun r' e=>by cases e)) hr) (fun ok s₄ h₄=>⟨h₄.1,?_⟩) fun zz zz e=>e
  obtain ⟨k4,h₄⟩:=h₄
  cases ok with
  | false=>exact h₄
  | true =>
    have h₄:InnerOk prog w p loose mean mg mb lvl A (compEnvC scope (closeOver env scope.names []) C env) (ce.inner scope [x,y]) elt iter2 (fun u=>σ ++ [some (part q d),u]) (PX P D C) E' s₄ r:=h₄
    cases h₄ with
    | mk q2 es go2 hev hes hgo2 hin =>
      refine wpAny_bind (wpAny_mono hev (fun xv s₅ h₅=>wpAny_bind (wpAny_standAt (wpAny_bind (wpAny_of_eq (folded_plain hns2 _ xv) (wpAny_bind (wpAny_holding ?_)))))) fun zz zz e=>e)
      obtain ⟨k5,r5⟩:=h₅
      refine iter_R r5 hes fun fp2 Pi2 St2 s₆ k6 W2 hst2 hfp2 hfq2 zz hId2 hPi2 hsz2 zz=>?_
      have W2':=W2 A X.hh
      have k46:=ktrans k5 k6
      have k36:=ktrans k4 k46
      have hD6:s₆.heap.PlainList D ys:=hpl.at fun o e=>kheap k36 _ o e
      have out:∀ b,(∃ o,s₅.heap.get? b = some o) → (b = D ∨ b = C) → b ∉ fp2:=fun b hb hDC hm=>by
        rcases hfq2 _ hm with e | e
        · obtain ⟨o,ho⟩:=hb; exact ne_of_get (size_none _) ho e
        · exact hDC.elim e.2.1 e.2.2
      have k35:=ktrans k4 k5
      have hDf2:=out D (hpl.elim fun n e=>⟨_,kheap k35 _ _ e⟩) (.inl rfl)
      have hCf2:=out C ((ns_get hn).imp fun o e=>kheap k35 _ _ e) (.inr rfl)
      have hin':codeAny (model prog w) A (.compLoop (.ListComp elt [⟨.Name x px,iter,ifs,0⟩,⟨.Name y py,iter2,[],0⟩] scope pos) 1 (.ref s₅.heap.objs.size) (.ref D) (compEnvC scope (closeOver env scope.names []) C env))
          (fun r0 s'=>match r0 with
            | .ok f=>wpAny (model prog w) A (again (.compLoop (.ListComp elt [⟨.Name x px,iter,ifs,0⟩,⟨.Name y py,iter2,[],0⟩] scope pos) 0 (.ref I) (.ref D) (compEnvC scope (closeOver env scope.names []) C env)))
                (fun fin s₄'=>fin = .again (.compLoop (.ListComp elt [⟨.Name x px,iter,ifs,0⟩,⟨.Name y py,iter2,[],0⟩] scope pos) 0 (.ref I) (.ref D) (compEnvC scope (closeOver env scope.names []) C env)) ∧ Emit prog w (PX P D C) D C (fun zz=>True) s₄ ys r s₄') E' s'
            | .error e0=>cameBackBy (model prog w) A (compEnvC scope (closeOver env scope.names []) C env) E' e0 s') s₆:=by
        refine comp_coreG (P:=PX P D C) (Im:=fun m=>m x = some v) (ys0:=ys) hgo2 rfl rfl (compTurn_two1 ..) rfl ⟨lookup_relabel_local (K.tgt y (List.mem_cons_of_mem _ (List.mem_cons_self ..))),hp,F.hDC,hDf2,hCf2,hId2,fun f c h=>h.2.1 rfl,fun f c h=>h.2.2 rfl⟩ W2' hst2 hD6 (hn.keeps (kheap k36)) hm (fun m v' hm'=>(if_neg hxy).trans hm') ?_ ?_
        · intro i2 v2 e r' s₇ m₇ ys7 E'' hv2 he hr' hn7 hm7 hIm7 hk7 hpl7 hsz7
          obtain ⟨e',he',rv2⟩:=hPi2 i2 v2 hv2
          cases he'.symm.trans he
          have hk57:∀ b o,PX P D C q2.f q2.c b ∨ (b ≠ D ∧ b ≠ C) → s₅.heap.get? b = some o → s₇.heap.get? b = some o:=fun b o hb e=>hk7 b o (hb.elim (·.2.2) (·.2)) (ne_of_get (size_none _) e) (hb.elim (·.2.1) (·.1)) (kheap k6 b o e)
          have hk17:∀ b o,s₁.heap.get? b = some o → s₇.heap.get? b = some o:=fun b o e=>hk57 b o (.inr ⟨ne_of_get F.nD1 e,ne_of_get F.nC1 e⟩) (kheap k35 b o (hk1 b o e))
          have hys:ys7.size ≤ sizeLine:=by
            have h1:ys.size + r.length ≤ 0 + rs.length:=hsz
            exact size_of (n:=0) (Nat.le_trans hsz7 h1) hz
          refine tests_nil ⟨krefl s₇,emit_one F.hDC (fun f c h=>h.2.1 rfl) hn7 hIm7 hpl7 hys (hin s₇ (PX P D C) e r' E'' (X1.innerN K rfl hk17 hn7 (F.ok hk17 hpl7 hn7) F.pp fun j x' r'=>two_at (T:=fun x' r'=>∃ v,m₇ x' = some v ∧ R prog w s₇.heap (PX P D C r'.f r'.c) v r'.d) (fun r' e=>by cases e; exact ⟨v,hIm7,rv1.keeps hk17⟩) fun r' e=>?_) hr')⟩
          cases e
          exact ⟨v2,hm7,part_ok (P:=PX P D C) (r:=q2) (rv2.frame fun a o pa zz e=>⟨hk57 a o (.inl pa) e,pa⟩)⟩
        · intro h' tk dr m' ys' hn' hIm' hpl' hRL' hk7
          obtain ⟨h6,t6,d6,rfl,kk6⟩:=k46
          exact wpAny_pure ⟨rfl,.mk hpl' hRL' hn' trivial fun b o h1 h2 e=>hk7 b o h2 (ne_of_get (size_none _) (kheap k5 b o e)) h1 (kk6 b o e)⟩
      exact wpAny_bind (wpAny_runOwn (codeAny_compStart1 hin' (W2'.self 0 _ _ _ hst2 hin')))
theorem compEnd_none {res:RV} {D C:Addr} {s':Shared} (h:CompEnd prog w P s res D C s'):compPost (model prog w) A E none (Pst prog w P s res) (.ref D) C (.ok .next) s':=by
  obtain ⟨m,hn⟩:=h.ns
  refine ⟨m,hn,fun h'' hs=>⟨?_,(h.r.off hs.extBut (fun h=>h.2 rfl)).mono fun a h=>h.1⟩⟩
  obtain ⟨H,t,dr,rfl,kk⟩:=h.k
  exact ⟨h'',t,dr,rfl,fun b o e=>hs.extBut b o (ne_of_get h.nC e) (kk b o e)⟩
theorem CompRuns.ev {elt tg it:Expr} {ifs:List Expr} {gs:List Comprehension} {scope:Scope} {vp:Pos} {res:RV} (h:CompRuns prog w A env P s E elt tg it ifs gs scope vp res):wpAny (model prog w) A (eval (.ListComp elt (⟨tg,it,ifs,0⟩ :: gs) scope vp) env) (Pst prog w P s res) E s:=by
  rw [eval_ListComp]
  exact h none _ _ fun D C s' h=>compEnd_none h
end
end Mine
namespace Mine
open PySem PySem.SeqAt PySem.Calls PyProof.Rows
theorem starEach_ns {env:Env} {l:List Expr} (h:l.all (!isStar ·) = true):starEach l env = l.map fun e=>(false,eval e env):=by
  induction l with
  | nil=>rfl
  | cons e l ih =>
    obtain ⟨h1,h2⟩:=and2 h
    have:starEach (e :: l) env = (false,eval e env) :: starEach l env:=by
      cases e <;> first | rfl | cases h1
    rw [this,ih h2]; rfl
theorem backTo_ns (pos:Pos) (env:Env) (l:List Expr):backTo pos (l.map fun e=>(false,eval e env)) = l.map fun e=>(false,eval e env):=by
  delta backTo
  rw [List.map_map]
  rfl
theorem behind_plain {op:CmpOp} {r:Expr} (h:isSetE r = false):behindInMarks op r = false:=by
  cases r <;> first | exact Eq.refl false | cases h
theorem base_plain {o:Expr} {name:Str} {env:Env} (h:isCall0 o = false):attributeBase o name env (eval o env) = eval o env:=by
  cases o <;> first | rfl | cases h
structure Hard (prog:Program) (w:World):Prop where
  sortedSet:∀ (A:Around) (s:Shared) (P:Pd) (E:Value → Shared → Prop) (v:Value) (ds:List PV) (xs:List Str) (Q:Addr → Prop),A.handled = none → A.units + 64 < cLine → R prog w s.heap Q v (.list ds) → asStrs ds = some xs → xs.length < 5 → xs ≠ [] → P.Ok s.heap →
    wpAny (model prog w) A (call (.type "set") [v]) (fun sv s₁=>wpAny (model prog w) A (call (.builtin "sorted") [sv]) (Pst prog w P s (at1 (.list ((sortS (metS xs)).map PV.str)))) E s₁) E s
  dictOf:∀ (A:Around) (s:Shared) (P:Pd) (E:Value → Shared → Prop) (v:Value) (ds:List PV) (ps:List (Str × PV)) (x:RV),A.handled = none → A.units + 64 < cLine → x.d = .list ds → R prog w s.heap (P x.f x.c) v x.d → asPairs ds = some ps → P.Ok s.heap → (∃ m,s.heap.Ns mainGlobals m) →
    wpAny (model prog w) A (call (.type "dict") [v]) (Pst prog w P s ⟨.dict (putAll ps ([],[])).1 (putAll ps ([],[])).2,x.f || ps.all (fun p=>p.2.atom),x.c || ps.all (fun p=>p.2.atom)⟩) E s
  items:∀ (A:Around) (s:Shared) (P:Pd) (E:Value → Shared → Prop) (v:Value) (ks:List Str) (ds:List PV) (x:RV) (pos:Pos),A.handled = none → A.units + 64 < cLine → x.d = .dict ks ds → R prog w s.heap (P x.f x.c) v x.d → P.Ok s.heap →
    MethodOnS prog w A E "items" v pos [] (fun iv s₁=>wpAny (model prog w) A (call (.type "list") [iv]) (Pst prog w P s ⟨.list ((ks.zip ds).map fun p=>.tup [.str p.1,p.2]),x.f || ds.all PV.atom,x.c || ds.all PV.atom⟩) E s₁) s
end Mine
namespace Mine
open PySem PySem.SeqAt PySem.Calls PyProof.Rows
section
variable {prog:Program} {w:World} {A:Around} {E:Value → Shared → Prop} {s:Shared} {P:Pd}
theorem pst_str {x:Str} {t:Tok} {s':Shared} (k:Keeps s s'):Pst prog w P s (at1 (.str x)) (.str x t) s':=pst_atom k (.str x t) rfl
theorem pst_bool {b:Bool} {s':Shared} (k:Keeps s s'):Pst prog w P s (at1 (.bool b)) (.bool b) s':=pst_atom k (.bool b) rfl
theorem in_dict_ok {x:Str} {ks:List Str} {ds:List PV} {kvs:List (Str × Value)} {h:Heap} {Q:Addr → Prop} (hk:kvs.map (·.1) = ks) (rs:RS prog w h Q (kvs.map (·.2)) ds):(valueAt kvs x).isSome = (look ks ds x).isSome:=by
  subst hk
  have:=look_kvs rs x
  cases hd:look (kvs.map (·.1)) ds x with
  | none=>rw [hd] at this; rw [show valueAt kvs x = none from this]; rfl
  | some d=>rw [hd] at this; obtain ⟨v,hv,zz⟩:=this; rw [hv]; rfl
theorem units_a {u a b:Nat} (h:a + b ≤ 40) (hu:u + 64 < cLine):u + 1 + a + b < cLine:=by lia
theorem op_in {x y:PV} {k:Bool} {vx vy:Value} {Q1 Q2:Addr → Prop} (h:inOf x y = some k) (hx:R prog w s.heap Q1 vx x) (hy:R prog w s.heap Q2 vy y) (hu:A.units + 64 < cLine) :
    wpAny (model prog w) A (compareOp .In vx vy) (Pst prog w P s (at1 (.bool k))) E s ∧ wpAny (model prog w) A (compareOp .NotIn vx vy) (Pst prog w P s (at1 (.bool !k))) E s:=by
  cases y with
  | list ds =>
    obtain ⟨hd,h1⟩:=ifo_of h
    induction hy.l with
    | list p e z rs =>
      obtain ⟨h2,h3⟩:=op_mem h1 hx e rs (A:=A) (units_a hd hu)
      exact ⟨in_listAt _ (lobj_isList e) h2 (by rw [h3]; exact pst_bool (krefl s)),notIn_listAt _ (lobj_isList e) h2 (by rw [h3]; exact pst_bool (krefl s))⟩
  | dict ks ds =>
    obtain ⟨k',hk',rfl⟩:=map_of h
    rw [dS_eq hk'] at hx
    induction hx.s with
    | str t =>
      induction hy.d with
      | dict p e q hk z rs =>
        rw [← in_dict_ok hk rs]
        exact ⟨wpAny_in_of (strKind_is prog w k' t) q e.mapOf (pst_bool (ktoks s _)),wpAny_notIn_of (strKind_is prog w k' t) q e.mapOf (pst_bool (ktoks s _))⟩
  | _=>cases h
theorem op_cmp {op:CmpOp} {x y:PV} {k:Bool} {vx vy:Value} {Q1 Q2:Addr → Prop} (h:acmp op x y = some k) (hx:R prog w s.heap Q1 vx x) (hy:R prog w s.heap Q2 vy y) (hu:A.units + 64 < cLine) :
    wpAny (model prog w) A (compareOp op vx vy) (Pst prog w P s (at1 (.bool k))) E s:=by
  cases op with
  | In=>exact (op_in h hx hy hu).1
  | NotIn =>
    obtain ⟨b,hb,rfl⟩:=map_of h
    exact (op_in hb hx hy hu).2
  | Eq =>
    obtain ⟨hd,h1⟩:=ifo_of h
    exact op_eq h1 hx hy (A:=A) (units_a hd hu) prog w E _ (pst_bool (krefl s))
  | NotEq =>
    obtain ⟨hd,h1⟩:=ifo_of h
    delta ane at h1
    cases hq:aeq x y with
    | some b =>
      rw [hq] at h1
      cases h1
      exact op_ne hq hx hy (A:=A) (units_a hd hu) prog w E _ (pst_bool (krefl s))
    | none =>
      rw [hq] at h1
      refine cps fun Gq hGq=>?_
      obtain ⟨xs,h2,h3⟩:=bind_of (o:=dL x) h1
      obtain ⟨ys,h4,h5⟩:=bind_of h3
      refine hGq ?_
      clear hGq
      obtain ⟨hr,rfl⟩:=if_of h5
      rw [dL_eq h2] at hx
      rw [dL_eq h4] at hy
      exact op_ne_rows hr hx hy (Nat.lt_of_le_of_lt (Nat.add_le_add_left (by decide) _) hu) (pst_bool (krefl s))
  | Lt =>
    obtain ⟨a,h1,h2⟩:=bind_of h
    obtain ⟨b,h3,rfl⟩:=map_of h2
    rw [dI_eq h1] at hx
    rw [dI_eq h3] at hy
    induction hx.i with | int t=>induction hy.i with | int u=>exact PyProof.Rows.lt_int (pst_bool (krefl s))
  | Gt =>
    obtain ⟨a,h1,h2⟩:=bind_of h
    obtain ⟨b,h3,rfl⟩:=map_of h2
    rw [dI_eq h1] at hx
    rw [dI_eq h3] at hy
    induction hx.i with | int t=>induction hy.i with | int u=>exact PyProof.Rows.gt_int (pst_bool (krefl s))
  | _=>cases h
theorem strsAre_RS {h:Heap} {Q:Addr → Prop} {ds:List PV}:∀ {vs:List Value} {xs:List Str},RS prog w h Q vs ds → asStrs ds = some xs → StrsAre vs xs:=by
  induction ds with
  | nil=>intro vs xs r h; cases r; cases h; exact .nil
  | cons d ds ih =>
    intro vs xs r h
    obtain ⟨y,h1,h2⟩:=bind_of h
    obtain ⟨ys,h3,rfl⟩:=map_of h2
    cases r with
    | cons a r =>
      rw [dS_eq h1] at a
      induction a.s with | str t=>exact .cons _ _ (ih r h3)
theorem RS_strsAre {h:Heap} {Q:Addr → Prop} {vs:List Value} {xs:List Str} (x:StrsAre vs xs):RS prog w h Q vs (xs.map PV.str):=by
  induction x with
  | nil=>exact .nil
  | cons y t zz ih=>exact .cons (.str y t) ih
theorem strsAre_len {vs:List Value} {xs:List Str} (x:StrsAre vs xs):vs.length = xs.length:=by
  induction x with
  | nil=>rfl
  | cons zz zz zz ih=>exact congrArg (· + 1) ih
theorem pairwise_rising {l:List Str}:∀ {p:Str},risingS p l = true → (p :: l).Pairwise (fun a b=>leS a b = true):=by
  induction l with
  | nil=>exact fun zz=>List.pairwise_singleton _ _
  | cons x r ih =>
    intro p h
    obtain ⟨h1,h2⟩:=and2 h
    have ih:=ih h2
    have hp:leS p x = true:=by
      delta leS
      rw [← ltCps_eq]; exact h1
    refine List.pairwise_cons.mpr ⟨fun z hz=>?_,ih⟩
    rcases List.mem_cons.mp hz with rfl | hz
    · exact hp
    · exact leS_trans hp ((List.pairwise_cons.mp ih).1 z hz)
theorem pairwise_sortedS {l:List Str} (h:sortedS l = true):l.Pairwise (fun a b=>leS a b = true):=by
  cases l with
  | nil=>exact .nil
  | cons x l=>exact pairwise_rising h
theorem sortS_length (l:List Str):(sortS l).length = l.length:=(sortS_perm l).length_eq
theorem op_sorted {ds:List PV} {xs:List Str} {v:Value} {Q:Addr → Prop} (r:R prog w s.heap Q v (.list ds)) (h:asStrs ds = some xs) (hl:xs.length < 64) (hP:P.Ok s.heap) :
    wpAny (model prog w) A (call (.builtin "sorted") [v]) (Pst prog w P s (at1 (.list ((sortS xs).map PV.str)))) E s:=by
  induction r.l with
  | list p e z rs =>
    have hs:=strsAre_RS rs h
    refine sorted_strs (lobj_isList e) hs (by rw [strsAre_len hs]; exact hl) fun out ss' h1 h2 h3=>?_
    have hss:ss' = sortS xs:=sortS_eq h2 (pairwise_sortedS h3)
    subst hss
    obtain ⟨n,hat⟩:=sortedAll_at s.heap _ out
    refine ⟨⟨_,s.toks,_,rfl,fun zz zz e=>sortedAll_old e⟩,?_⟩
    refine .list (vs:=out.toList) (n:=n) (hP.fresh _ _ _ ?_) hat ?_ (RS_strsAre h1)
    · cases q:s.heap.get? (s.heap.objs.size + 1) with
      | none=>rfl
      | some o=>exact absurd (Heap.lt_size q) (Nat.not_lt.mpr (Nat.le_succ _))
    · rw [List.length_map,sortS_length]; exact Nat.le_trans (Nat.le_of_lt hl) (by decide)
end
end Mine
namespace Mine
open PySem PySem.SeqAt PySem.Calls PyProof.Rows
section
variable (prog:Program) (w:World) (p:Program) (loose:List Str) (mean:ExcName → Option Value) (mg mb:Str → Option Value) (lvl:Nat) (Φ:FTab)
abbrev EvOk (se:SExpr):Prop :=
  ∀ (ce:CE) (e:Expr) (A:Around) (env:Env) (P:Pd) (σ:Sig) (s:Shared) (r:RV) (E:Value → Shared → Prop),chk se ce e = true → Cx prog w p loose mean mg mb lvl A env ce P σ s → aeval Φ se σ = some r → wpAny (model prog w) A (eval e env) (Pst prog w P s r) E s
abbrev TeOk (se:SExpr):Prop :=
  ∀ (ce:CE) (e:Expr) (A:Around) (env:Env) (P:Pd) (σ:Sig) (s:Shared) (r:RV) (k:Bool) (E:Value → Shared → Prop),chk se ce e = true → Cx prog w p loose mean mg mb lvl A env ce P σ s → aeval Φ se σ = some r → r.d = .bool k →
    wpAny (model prog w) A (isTrue e env (eval e env)) (fun b s'=>b = k ∧ Keeps s s') E s
structure EOk (se:SExpr):Prop where
  ev:EvOk prog w p loose mean mg mb lvl Φ se
  te:TeOk prog w p loose mean mg mb lvl Φ se
end
section
variable {prog:Program} {w:World} {p:Program} {loose:List Str} {mean:ExcName → Option Value} {mg mb:Str → Option Value} {lvl:Nat} {Φ:FTab}
theorem wm {α:Type} {M:Model} {A:Around} {m:Sem α} {Q Q':α → Shared → Prop} {E:Value → Shared → Prop} {s:Shared} (h:wpAny M A m Q E s) (f:∀ v s',Q v s' → Q' v s'):wpAny M A m Q' E s:=wpAny_mono h f fun zz zz e=>e
theorem wp_abs {α:Type} {M:Model} {A:Around} {m:Sem α} {Q:α → Shared → Prop} {E:Value → Shared → Prop} {s:Shared} (h:∀ (Q':α → Shared → Prop) (E':Value → Shared → Prop),(∀ v s',Q v s' → Q' v s') → (∀ v s',E v s' → E' v s') → wpAny M A m Q' E' s):wpAny M A m Q E s:=h Q E (fun zz zz h=>h) (fun zz zz h=>h)
theorem wp {P:Pd} {A:Around} {m:Sem Value} {E:Value → Shared → Prop} {s s₁:Shared} {r:RV} (h:wpAny (model prog w) A m (Pst prog w P s₁ r) E s₁) (k:Keeps s s₁):wpAny (model prog w) A m (Pst prog w P s r) E s₁:=wm h fun zz zz h=>h.of k
theorem wp' {P:Pd} {A:Around} {m:Sem Value} {E:Value → Shared → Prop} {s s₁ s₂:Shared} {r:RV} (h:wpAny (model prog w) A m (Pst prog w P s₁ r) E s₂) (k:Keeps s s₁):wpAny (model prog w) A m (Pst prog w P s r) E s₂:=wm h fun zz zz h=>h.of k
theorem units64 {u l:Nat} (h:u + 16 * l + 64 < cLine):u + 64 < cLine:=Nat.lt_of_le_of_lt (Nat.add_le_add_right (Nat.le_add_right ..) _) h
theorem call_blt1 (D:Wd prog w p loose mean mg mb) {A:Around} {E:Value → Shared → Prop} {s:Shared} {env:Env} {ce:CE} {P:Pd} {σ:Sig} {f:Str} {id:String} {x:Expr} {q1 q2:Pos} {Q:Value → Shared → Prop} (X:Cx prog w p loose mean mg mb lvl A env ce P σ s)
    (hg:isGlob (ce.kind f) = true) (hst:[x].all (!isStar ·) = true) (hf:f ∈ bltNames) (hb:bootBuiltins f = some (.builtin id)) (hd:(f == ("__debug__":Str)) = false) (hn:f ≠ ("__name__":Str))
    (h:wpAny (model prog w) A (eval x env) (fun v s₁=>wpAny (model prog w) A (call (.builtin id) [v]) Q E s₁) E s):wpAny (model prog w) A (eval (.Call (.Name f q1) [x] [] q2) env) Q E s:=by
  refine Call_Name rfl (ld_blt D X hg hf hb hd hn ?_)
  rw [starEach_ns hst,backTo_ns]
  exact callWith_builtin rfl (evalArgs_plain (spliced_cons (wm h fun v s₁ h₁=>spliced_nil h₁)))
theorem call_typ1 (D:Wd prog w p loose mean mg mb) {A:Around} {E:Value → Shared → Prop} {s:Shared} {env:Env} {ce:CE} {P:Pd} {σ:Sig} {f:Str} {id:String} {x:Expr} {q1 q2:Pos} {Q:Value → Shared → Prop} (X:Cx prog w p loose mean mg mb lvl A env ce P σ s)
    (hg:isGlob (ce.kind f) = true) (hst:[x].all (!isStar ·) = true) (hf:f ∈ bltNames) (hb:bootBuiltins f = some (.type id)) (hd:(f == ("__debug__":Str)) = false) (hn:f ≠ ("__name__":Str))
    (h:wpAny (model prog w) A (eval x env) (fun v s₁=>wpAny (model prog w) A (call (.type id) [v]) Q E s₁) E s):wpAny (model prog w) A (eval (.Call (.Name f q1) [x] [] q2) env) Q E s:=by
  refine Call_Name rfl (ld_blt D X hg hf hb hd hn ?_)
  rw [starEach_ns hst,backTo_ns]
  exact PyProof.Rows.callWith_type rfl (evalArgs_plain (spliced_cons (wm h fun v s₁ h₁=>spliced_nil h₁)))
theorem boot_len:bootBuiltins "len" = some (.builtin "len"):=by decide +kernel
theorem boot_sorted:bootBuiltins "sorted" = some (.builtin "sorted"):=by decide +kernel
theorem boot_all:bootBuiltins "all" = some (.builtin "all"):=by decide +kernel
theorem boot_range:bootBuiltins "range" = some (.type "range"):=by decide +kernel
theorem boot_dict:bootBuiltins "dict" = some (.type "dict"):=by decide +kernel
theorem boot_set':bootBuiltins "set" = some (.type "set"):=by decide +kernel
theorem boot_list:bootBuiltins "list" = some (.type "list"):=by decide +kernel
theorem boot_type:bootBuiltins "type" = some (.type "type"):=by decide +kernel
theorem boot_int:bootBuiltins "int" = some (.type "int"):=by decide +kernel
theorem blt_mem {x:Str} (h:bltNames.contains x = true):x ∈ bltNames:=List.contains_iff_mem.mp h
theorem rng_ok {A:Around} {E:Value → Shared → Prop} {s:Shared} {P:Pd} {n:Int} {t:Tok} (hP:P.Ok s.heap) (h0:0 ≤ n) (h1:n ≤ lim):wpAny (model prog w) A (call (.type "range") [.int n t]) (Pst prog w P s ⟨.rng 0 n 1,true,true⟩) E s:=by
  have hlim:=lim_is
  refine call_range_1 ⟨⟨_,_,_,rfl,fun zz zz e=>Heap.get?_push_of_some _ e⟩,?_⟩
  exact .rng (hP.fresh _ _ _ (size_none _)) (Heap.get?_push_size _ rfl) (by constructor <;> lia)
theorem rng_down_ok {A:Around} {E:Value → Shared → Prop} {s:Shared} {P:Pd} {n:Int} {t u v:Tok} (hP:P.Ok s.heap) (h0:-1 ≤ n) (h1:n ≤ lim):wpAny (model prog w) A (call (.type "range") [.int n t,.int (-1) u,.int (-1) v]) (Pst prog w P s ⟨.rng n (-1) (-1),true,true⟩) E s:=by
  have hlim:=lim_is
  refine call_range_3 (by decide) ⟨⟨_,_,_,rfl,fun zz zz e=>Heap.get?_push_of_some _ e⟩,?_⟩ (.inl (PyProof.noPylong_small (by lia)))
  exact .rng (hP.fresh _ _ _ (size_none _)) (Heap.get?_push_size _ rfl) (by constructor <;> lia)
theorem slice_eval {A:Around} {E:Value → Shared → Prop} {s:Shared} {env:Env} {value:Expr} {lo hi st:Option Expr} {q pos:Pos} {Q:Value → Shared → Prop}
    (h:wpAny (model prog w) A (eval value env) (fun o s₁=>wpAny (model prog w) A (evalPart lo env) (fun vl s₂=>wpAny (model prog w) A (evalPart hi env) (fun vu s₃=>wpAny (model prog w) A (evalPart st env) (fun vs s₄ =>
      ∃ l items a b c,o = .ref l ∧ s₄.heap.IsList l items ∧ items.size ≤ sizeLine ∧ IsPart vl a ∧ IsPart vu b ∧ IsPart vs c ∧ c ≠ some 0 ∧
        Q (.ref (s₄.heap.objs.size + 1)) { s₄ with heap:=(s₄.heap.push { cls:=.type "slice",data:=.fields #[vl,vu,vs] }).push { cls:=.type "list",data:=.seq (slicePick items a b c) } }) E s₃) E s₂) E s₁) E s) :
    wpAny (model prog w) A (eval (.Subscript value (.Slice lo hi st q) pos) env) Q E s:=by
  refine ev_Subscript (wpAny_mono h (fun o s₁ h₁=>wpAny_Slice (wpAny_mono h₁ (fun vl s₂ h₂=>wpAny_mono h₂ (fun vu s₃ h₃=>wpAny_mono h₃ (fun vs s₄ h₄=>?_) fun zz zz e=>e) fun zz zz e=>e) fun zz zz e=>e)) fun zz zz e=>e)
  obtain ⟨l,items,a,b,c,rfl,hl,hsz,pa,pb,pc,hc,hQ⟩:=h₄
  refine ⟨"list",_,(hl.push _).typeIs,slot_list_getitem.lookup,wpAny_getItem_list_slice (hl.push _) (Heap.IsSliceOf.new ..) pa pb pc hc ?_ hsz⟩
  rw [Heap.size_push]
  exact hQ
theorem slicePick_rev (items:Array Value):slicePick items none none (some (-1)) = items.toList.reverse.toArray:=by
  exact PySem.W.krv_pick items
theorem pst_slice {s s₁:Shared} {P:Pd} {x r:RV} {ds:List PV} {vs:List Value} {o:Obj} (hP:P.Ok s.heap) (k:Keeps s s₁) (hn:newl x.f x.c ds = some r) (rs:RS prog w s₁.heap (P x.f x.c) vs ds) :
    Pst prog w P s r (.ref (s₁.heap.objs.size + 1)) { s₁ with heap:=(s₁.heap.push o).push { cls:=.type "list",data:=.seq vs.toArray } }:=by
  have:=pst_newl (s':={ s₁ with heap:=s₁.heap.push o }) hP hn (rs.keeps fun zz zz e=>Heap.get?_push_of_some _ e) (ktrans k (kpush s₁ o))
  rw [show ({ s₁ with heap:=s₁.heap.push o }:Shared).heap.objs.size = s₁.heap.objs.size + 1 from Heap.size_push ..] at this
  exact this
theorem neg_eval {A:Around} {E:Value → Shared → Prop} {s:Shared} {env:Env} {i:Int} {k:Nat} {p1 p2:Pos} {Q:Value → Shared → Prop} (h:∀ t tk,Q (.int (-i) t) { s with toks:=tk }):wpAny (model prog w) A (eval (.UnaryOp .USub (.Constant (.int i) k p1) p2) env) Q E s:=by
  rw [arm_eval_UnaryOp]
  refine wpAny_bind (wpAny_Constant_int (wpAny_bind (wpAny_standAt (wpAny_holding (PyProof.Rows.neg_int (h _ _))))))
def special:SExpr → Bool
  | .not _ | .band _ | .bor _ | .ife _ _ _=>true
  | _=>false
def isCmpS:SExpr → Bool
  | .cmp .. | .isN .. | .typeIs ..=>true
  | _=>false
theorem chk_not {se:SExpr} (hs:special se = false) (ce:CE) (x:Expr) (q:Pos):chk se ce (.UnaryOp .Not x q) = false:=by cases se <;> first | exact Eq.refl false | cases hs
theorem chk_boolop {se:SExpr} (hs:special se = false) (ce:CE) (o:BoolOp) (l:List Expr) (q:Pos):chk se ce (.BoolOp o l q) = false:=by cases se <;> first | exact Eq.refl false | cases hs
theorem chk_ifexp {se:SExpr} (hs:special se = false) (ce:CE) (x y z:Expr) (q:Pos):chk se ce (.IfExp x y z q) = false:=by cases se <;> first | exact Eq.refl false | cases hs
theorem chk_oth {se:SExpr} (hs:special se = false) (hn:isCmpS se = false) (ce:CE) (l:Expr) (os:List CmpOp) (rs:List Expr) (q:Pos):chk se ce (.Compare l os rs q) = false:=by cases se <;> first | exact Eq.refl false | (cases hn; done) | (cases hs; done)
theorem chk_isC {se:SExpr} (hs:isCmpS se = true) {ce:CE} {e:Expr} (hc:chk se ce e = true):∃ k,cmp1 k e = true:=by cases se <;> first | exact ⟨_,hc⟩ | exact absurd hs Bool.false_ne_true
theorem chk_cmp {se:SExpr} (hs:special se = false) {ce:CE} {l:Expr} {os:List CmpOp} {rs:List Expr} {q:Pos} (hc:chk se ce (.Compare l os rs q) = true):∃ o r,os = [o] ∧ rs = [r]:=by
  cases hn:isCmpS se with
  | false=>rw [chk_oth hs hn] at hc; cases hc
  | true =>
    refine cps fun Gq hGq=>?_
    obtain ⟨k,h⟩:=chk_isC hn hc
    obtain ⟨l',o,r,p',e,zz⟩:=cmp1_eq h
    refine hGq ?_
    clear hGq
    injection e with e1 e2 e3 e4
    exact ⟨o,r,e2,e3⟩
theorem te_plain {se:SExpr} (hs:special se = false) (h:EvOk prog w p loose mean mg mb lvl Φ se):TeOk prog w p loose mean mg mb lvl Φ se:=by
  intro ce e A env P σ s r k E hc X hr hk
  have h:=h ce e A env P σ s r E hc X hr
  have tr:∀ v s₁,Pst prog w P s r v s₁ → wpAny (model prog w) A (truthy v) (fun b s'=>b = k ∧ Keeps s s') E s₁:=by
    intro v s₁ k1
    have rv:=k1.2
    rw [hk] at rv
    rw [rv.b]
    exact wpAny_truthy_bool ⟨rfl,k1.1⟩
  have pl:(isTrue e env (eval e env) = (do let v ← eval e env; standAt e.pos; holding [v] (truthy v))) → wpAny (model prog w) A (isTrue e env (eval e env)) (fun b s'=>b = k ∧ Keeps s s') E s:=fun he=>isTrue_plain (wm h tr) he
  cases e with
  | BoolOp o l q=>rw [chk_boolop hs] at hc; cases hc
  | IfExp x y z q=>rw [chk_ifexp hs] at hc; cases hc
  | UnaryOp o x q =>
    cases o with
    | Not=>rw [chk_not hs] at hc; cases hc
    | _=>exact pl rfl
  | Compare l os rs q =>
    obtain ⟨o,r',rfl,rfl⟩:=chk_cmp hs hc
    have e1:isTrue (.Compare l [o] [r'] q) env (eval (.Compare l [o] [r'] q) env) = (eval (.Compare l [o] [r'] q) env >>= fun c=>holding [c] (truthy c)):=by
      rw [isTrue_Compare1,eval_Compare1]
      simp only [bind_assoc]
    rw [e1]; exact wpAny_bind (wm h fun v s₁ k1=>wpAny_holding (tr v s₁ k1))
  | _=>exact pl rfl
theorem EOk.of {se:SExpr} (hs:special se = false) (h:EvOk prog w p loose mean mg mb lvl Φ se):EOk prog w p loose mean mg mb lvl Φ se:=⟨h,te_plain hs h⟩
theorem fmt_ok {A:Around} {E:Value → Shared → Prop} {s:Shared} {P:Pd} {x:PV} {t:Str} {v:Value} {Q:Addr → Prop} (h:fmtOf x = some t) (r:R prog w s.heap Q v x):wpAny (model prog w) A (formatField v Str.empty) (Pst prog w P s (at1 (.str t))) E s:=by
  cases x with
  | str x =>
    obtain ⟨hz,rfl⟩:=if_of h
    induction r.s with | str t=>exact wpAny_formatField_str (pst_str (krefl s)) (pst_str (ktoks s _)) (Nat.le_trans hz lim_size)
  | int i =>
    obtain ⟨hz,rfl⟩:=if_of h
    induction r.i with
    | int t =>
      refine wpAny_formatField_int ?_ (pst_atom ⟨s.heap,_,_,rfl,fun zz zz e=>e⟩ (.str _ _) rfl)
      have:i.natAbs.log2 < 34:=by
        by_cases h0:i.natAbs = 0
        · rw [h0]; decide
        · rw [Nat.log2_lt h0]; exact Nat.lt_of_lt_of_le hz (by decide)
      lia
  | _=>cases h
abbrev LOk (prog:Program) (w:World) (p:Program) (loose:List Str) (mean:ExcName → Option Value) (mg mb:Str → Option Value) (lvl:Nat) (Φ:FTab) (es:List SExpr):Prop:=∀ se ∈ es,EOk prog w p loose mean mg mb lvl Φ se
theorem LOk.hd {se:SExpr} {es:List SExpr} (L:LOk prog w p loose mean mg mb lvl Φ (se :: es)):EOk prog w p loose mean mg mb lvl Φ se:=L se (List.mem_cons_self ..)
theorem LOk.tl {se:SExpr} {es:List SExpr} (L:LOk prog w p loose mean mg mb lvl Φ (se :: es)):LOk prog w p loose mean mg mb lvl Φ es:=fun x hx=>L x (List.mem_cons_of_mem _ hx)
theorem chks_cons {se:SExpr} {es:List SExpr} {ce:CE} {l:List Expr} (h:chks (se :: es) ce l = true):∃ x xs,l = x :: xs ∧ chk se ce x = true ∧ isStar x = false ∧ chks es ce xs = true:=by
  cases l with
  | nil=>cases h
  | cons x xs=>exact ⟨x,xs,rfl,(and2 h).1,notT (and2 (and2 h).2).1,(and2 (and2 h).2).2⟩
theorem chks_ns {es:List SExpr} {ce:CE}:∀ {l:List Expr},chks es ce l = true → l.all (!isStar ·) = true:=by
  induction es with
  | nil=>intro l h; rw [isEmpty_of h]; rfl
  | cons se es ih =>
    intro l h
    obtain ⟨x,xs,rfl,zz,h2,h3⟩:=chks_cons h
    rw [List.all_cons,h2,ih h3]; rfl
theorem aevals_cons {se:SExpr} {es:List SExpr} {σ:Sig} {rs:List RV} (h:aevals Φ (se :: es) σ = some rs):∃ r rs',aeval Φ se σ = some r ∧ aevals Φ es σ = some rs' ∧ rs = r :: rs':=by
  refine cps fun Gq hGq=>?_
  obtain ⟨r,h1,hA⟩:=bind_of h
  obtain ⟨rs',h2,hB⟩:=bind_of hA
  refine hGq ?_
  clear hGq
  exact ⟨r,rs',h1,h2,(Option.some.inj hB).symm⟩
theorem evsL {es:List SExpr} (L:LOk prog w p loose mean mg mb lvl Φ es):∀ (ce:CE) (l:List Expr) (A:Around) (env:Env) (P:Pd) (σ:Sig) (s:Shared) (rs:List RV) (E:Value → Shared → Prop),chks es ce l = true → Cx prog w p loose mean mg mb lvl A env ce P σ s → aevals Φ es σ = some rs →
    wpAny (model prog w) A (spliced (l.map fun e=>(false,eval e env))) (fun vs s'=>Keeps s s' ∧ RL prog w s'.heap P vs rs) E s:=by
  induction es with
  | nil =>
    intro ce l A env P σ s rs E hc X h
    rw [isEmpty_of hc]
    cases h
    exact spliced_nil ⟨krefl s,.nil⟩
  | cons se es ih =>
    intro ce l A env P σ s rs E hc X h
    obtain ⟨x,xs,rfl,h1,h2,h3⟩:=chks_cons hc
    obtain ⟨r,rs',hr,hrs,rfl⟩:=aevals_cons h
    exact spliced_cons (wm (L.hd.ev ce x A env P σ s r E h1 X hr) fun v s₁ k1=>wm (ih L.tl ce xs A env P σ s₁ rs' E h3 (X.keeps k1.1) hrs) fun vs s₂ k2=>⟨ktrans k1.1 k2.1,.cons (k1.2.keeps (kheap k2.1)) k2.2⟩)
theorem and_cons {se:SExpr} {es:List SExpr} {σ:Sig} {k:Bool} (h:aands Φ (se :: es) σ = some k):∃ r b,aeval Φ se σ = some r ∧ r.d = .bool b ∧ (if b then aands Φ es σ else some false) = some k:=by
  refine cps fun Gq hGq=>?_
  obtain ⟨r,h1,hA⟩:=bind_of h
  obtain ⟨b,h2,hB⟩:=bind_of hA
  refine hGq ?_
  clear hGq
  exact ⟨r,b,h1,boolOf_eq h2,hB⟩
theorem or_cons {se:SExpr} {es:List SExpr} {σ:Sig} {k:Bool} (h:aors Φ (se :: es) σ = some k):∃ r b,aeval Φ se σ = some r ∧ r.d = .bool b ∧ (if b then some true else aors Φ es σ) = some k:=by
  refine cps fun Gq hGq=>?_
  obtain ⟨r,h1,hA⟩:=bind_of h
  obtain ⟨b,h2,hB⟩:=bind_of hA
  refine hGq ?_
  clear hGq
  exact ⟨r,b,h1,boolOf_eq h2,hB⟩
theorem pst_b {P:Pd} {s s₁:Shared} {r:RV} {v:Value} {b:Bool} (h:Pst prog w P s r v s₁) (hb:r.d = .bool b):v = .bool b:=by
  have rv:=h.2
  rw [hb] at rv
  exact rv.b
theorem evAnd {es:List SExpr} (L:LOk prog w p loose mean mg mb lvl Φ es):∀ (ce:CE) (l:List Expr) (A:Around) (env:Env) (P:Pd) (σ:Sig) (s:Shared) (k:Bool) (E:Value → Shared → Prop) (q:Pos),chks es ce l = true → l ≠ [] → Cx prog w p loose mean mg mb lvl A env ce P σ s → aands Φ es σ = some k →
    wpAny (model prog w) A (eval (.BoolOp .And l q) env) (Pst prog w P s (at1 (.bool k))) E s:=by
  induction es with
  | nil=>exact fun ce l A env P σ s k E q hc hne=>absurd (isEmpty_of hc) hne
  | cons se es ih =>
    intro ce l A env P σ s k E q hc hne X h
    obtain ⟨x,xs,rfl,h1,h2,h3⟩:=chks_cons hc
    refine cps fun Gq hGq=>?_
    obtain ⟨r,b,hr,hb,hk⟩:=and_cons h
    refine hGq ?_
    clear hGq
    have hx:=L.hd.ev ce x A env P σ s r E h1 X hr
    cases xs with
    | nil =>
      cases es with
      | cons zz zz=>cases h3
      | nil =>
        refine BoolOp_one (wm hx fun v s₁ k1=>?_)
        rw [pst_b k1 hb]
        have:b = k:=by cases b <;> exact Option.some.inj hk
        rw [this]
        exact pst_bool k1.1
    | cons x2 xs =>
      refine BoolOp_and (wm hx fun v s₁ k1=>?_)
      rw [pst_b k1 hb]
      refine wpAny_truthy_bool ?_
      cases b with
      | true=>exact wp (ih L.tl ce (x2 :: xs) A env P σ s₁ k E q h3 (List.cons_ne_nil _ _) (X.keeps k1.1) hk) k1.1
      | false=>cases hk; exact pst_bool k1.1
theorem evOr {es:List SExpr} (L:LOk prog w p loose mean mg mb lvl Φ es):∀ (ce:CE) (l:List Expr) (A:Around) (env:Env) (P:Pd) (σ:Sig) (s:Shared) (k:Bool) (E:Value → Shared → Prop) (q:Pos),chks es ce l = true → l ≠ [] → Cx prog w p loose mean mg mb lvl A env ce P σ s → aors Φ es σ = some k →
    wpAny (model prog w) A (eval (.BoolOp .Or l q) env) (Pst prog w P s (at1 (.bool k))) E s:=by
  induction es with
  | nil=>exact fun ce l A env P σ s k E q hc hne=>absurd (isEmpty_of hc) hne
  | cons se es ih =>
    intro ce l A env P σ s k E q hc hne X h
    obtain ⟨x,xs,rfl,h1,h2,h3⟩:=chks_cons hc
    refine cps fun Gq hGq=>?_
    obtain ⟨r,b,hr,hb,hk⟩:=or_cons h
    refine hGq ?_
    clear hGq
    have hx:=L.hd.ev ce x A env P σ s r E h1 X hr
    cases xs with
    | nil =>
      cases es with
      | cons zz zz=>cases h3
      | nil =>
        refine BoolOp_one (wm hx fun v s₁ k1=>?_)
        rw [pst_b k1 hb]
        have:b = k:=by cases b <;> exact Option.some.inj hk
        rw [this]
        exact pst_bool k1.1
    | cons x2 xs =>
      refine BoolOp_or (wm hx fun v s₁ k1=>?_)
      rw [pst_b k1 hb]
      refine wpAny_truthy_bool ?_
      cases b with
      | false=>exact wp (ih L.tl ce (x2 :: xs) A env P σ s₁ k E q h3 (List.cons_ne_nil _ _) (X.keeps k1.1) hk) k1.1
      | true=>cases hk; exact pst_bool k1.1
theorem teAnd {es:List SExpr} (L:LOk prog w p loose mean mg mb lvl Φ es):∀ (ce:CE) (l:List Expr) (A:Around) (env:Env) (P:Pd) (σ:Sig) (s:Shared) (k:Bool) (E:Value → Shared → Prop) (q:Pos) (whole:Sem Value),chks es ce l = true → Cx prog w p loose mean mg mb lvl A env ce P σ s → aands Φ es σ = some k →
    wpAny (model prog w) A (isTrue (.BoolOp .And l q) env whole) (fun b s'=>b = k ∧ Keeps s s') E s:=by
  induction es with
  | nil =>
    intro ce l A env P σ s k E q wh hc X h
    rw [isEmpty_of hc]
    cases h
    exact isTrue_and_nil ⟨rfl,krefl s⟩
  | cons se es ih =>
    intro ce l A env P σ s k E q wh hc X h
    obtain ⟨x,xs,rfl,h1,h2,h3⟩:=chks_cons hc
    refine cps fun Gq hGq=>?_
    obtain ⟨r,b,hr,hb,hk⟩:=and_cons h
    refine hGq ?_
    clear hGq
    refine isTrue_and (wm (L.hd.te ce x A env P σ s r b E h1 X hr hb) fun c s₁ h₁=>?_)
    obtain ⟨rfl,k1⟩:=h₁
    cases c with
    | true=>exact wm (ih L.tl ce xs A env P σ s₁ k E q wh h3 (X.keeps k1) hk) fun v s₂ h₂=>⟨h₂.1,ktrans k1 h₂.2⟩
    | false=>cases hk; exact ⟨rfl,k1⟩
theorem teOr {es:List SExpr} (L:LOk prog w p loose mean mg mb lvl Φ es):∀ (ce:CE) (l:List Expr) (A:Around) (env:Env) (P:Pd) (σ:Sig) (s:Shared) (k:Bool) (E:Value → Shared → Prop) (q:Pos) (whole:Sem Value),chks es ce l = true → Cx prog w p loose mean mg mb lvl A env ce P σ s → aors Φ es σ = some k →
    wpAny (model prog w) A (isTrue (.BoolOp .Or l q) env whole) (fun b s'=>b = k ∧ Keeps s s') E s:=by
  induction es with
  | nil =>
    intro ce l A env P σ s k E q wh hc X h
    rw [isEmpty_of hc]
    cases h
    exact isTrue_or_nil ⟨rfl,krefl s⟩
  | cons se es ih =>
    intro ce l A env P σ s k E q wh hc X h
    obtain ⟨x,xs,rfl,h1,h2,h3⟩:=chks_cons hc
    refine cps fun Gq hGq=>?_
    obtain ⟨r,b,hr,hb,hk⟩:=or_cons h
    refine hGq ?_
    clear hGq
    refine isTrue_or (wm (L.hd.te ce x A env P σ s r b E h1 X hr hb) fun c s₁ h₁=>?_)
    obtain ⟨rfl,k1⟩:=h₁
    cases c with
    | false=>exact wm (ih L.tl ce xs A env P σ s₁ k E q wh h3 (X.keeps k1) hk) fun v s₂ h₂=>⟨h₂.1,ktrans k1 h₂.2⟩
    | true=>cases hk; exact ⟨rfl,k1⟩
theorem evJoin {es:List SExpr} (L:LOk prog w p loose mean mg mb lvl Φ es):∀ (ce:CE) (l:List Expr) (A:Around) (env:Env) (P:Pd) (σ:Sig) (s₀ s:Shared) (rs:List RV) (x acc:Str) (E:Value → Shared → Prop) (Q:Str → Shared → Prop),chks es ce l = true → Cx prog w p loose mean mg mb lvl A env ce P σ s → aevals Φ es σ = some rs →
    joinAll (rs.map (·.d)) = some x → acc.length + x.length ≤ lim → Keeps s₀ s → (∀ s',Keeps s₀ s' → Q (acc ++ x) s') → Joins (model prog w) A E (evalEach l env) acc Q s:=by
  induction es with
  | nil =>
    intro ce l A env P σ s₀ s rs x acc E Q hc X h hx hz k hq
    rw [isEmpty_of hc]
    cases h
    cases hx
    have:=hq s k
    rw [Str.append_empty] at this
    exact this
  | cons se es ih =>
    intro ce l A env P σ s₀ s rs x acc E Q hc X h hx hz k hq
    obtain ⟨y,ys,rfl,h1,h2,h3⟩:=chks_cons hc
    obtain ⟨r,rs',hr,hrs,rfl⟩:=aevals_cons h
    obtain ⟨u,hu,hx1⟩:=bind_of hx
    obtain ⟨z,hz',rfl⟩:=map_of hx1
    refine wm (L.hd.ev ce y A env P σ s r E h1 X hr) fun v s₁ k1=>?_
    have rv:=k1.2
    rw [show r.d = .str u from dS_eq hu] at rv
    rw [Str.length_append,← Nat.add_assoc] at hz
    induction rv.s with
    | str t =>
      refine ⟨u,t,rfl,?_,ih L.tl ce ys A env P σ s₀ s₁ rs' z (acc ++ u) E Q h3 (X.keeps k1.1) hrs hz' (by rw [Str.length_append]; exact hz) (ktrans k k1.1) fun s' k'=>?_⟩
      · rw [Str.length_append]
        exact Nat.le_trans (Nat.le_trans (Nat.le_add_right ..) hz) lim_size
      · have:=hq s' k'
        rw [← Str.append_assoc] at this
        exact this
theorem ev_var_ok (i:Nat):EvOk prog w p loose mean mg mb lvl Φ (.var i):=by
  intro ce e A env P σ s r E hc X h
  obtain ⟨x,⟨q,rfl⟩,hd⟩:=got_of hc
  refine cps fun Gq hGq=>?_
  obtain ⟨h1,hd⟩:=and2 hd
  obtain ⟨h2,hd⟩:=and2 hd
  obtain ⟨h3,h4⟩:=and2 hd
  refine hGq ?_
  clear hGq
  have h5:σ[i]? = some (some r):=by
    have h:(σ[i]?).join = some r:=h
    cases hq:σ[i]? with
    | none=>rw [hq] at h; cases h
    | some o=>rw [hq] at h; exact congrArg some h
  obtain ⟨v,l,rv⟩:=X.rd x i r (eq_of_beq h1) h2 h5
  exact ld_var X.fn l (notT h3) (notT h4) ⟨krefl s,rv⟩
theorem const_of {ce:CE} {c:Const} {e:Expr} (hc:(got (dConst e) fun c'=>c' == c) = true):∃ k p,e = .Constant c k p:=by
  obtain ⟨c',⟨k,q,rfl⟩,hA⟩:=got_of hc
  exact ⟨k,q,by rw [eq_of_beq hA]⟩
theorem ev_none_ok:EvOk prog w p loose mean mg mb lvl Φ .none:=by
  intro ce e A env P σ s r E hc X h
  obtain ⟨k,q,rfl⟩:=const_of (ce:=ce) hc
  cases h
  exact wpAny_pure (pst_atom (krefl s) .none rfl)
theorem ev_bool_ok (b:Bool):EvOk prog w p loose mean mg mb lvl Φ (.bool b):=by
  intro ce e A env P σ s r E hc X h
  obtain ⟨k,q,rfl⟩:=const_of (ce:=ce) hc
  cases h
  exact wpAny_pure (pst_bool (krefl s))
theorem ev_int_ok (i:Int):EvOk prog w p loose mean mg mb lvl Φ (.int i):=by
  intro ce e A env P σ s r E hc X h
  obtain ⟨k,q,rfl⟩:=const_of (ce:=ce) hc
  cases h
  exact wpAny_Constant_int (pst_atom (ktoks s _) (.int _ _) rfl)
theorem ev_neg_ok (i:Int):EvOk prog w p loose mean mg mb lvl Φ (.neg i):=by
  intro ce e A env P σ s r E hc X h
  obtain ⟨k,q1,q2,rfl⟩:=isNeg_eq hc
  cases h
  exact neg_eval fun t tk=>pst_atom (ktoks s _) (.int _ _) rfl
theorem ev_str_ok (x:Str):EvOk prog w p loose mean mg mb lvl Φ (.str x):=by
  intro ce e A env P σ s r E hc X h
  obtain ⟨k,q,rfl⟩:=const_of (ce:=ce) hc
  cases h
  exact Constant_str (pst_str (ktoks s _))
theorem ev_list_ok {es:List SExpr} (L:LOk prog w p loose mean mg mb lvl Φ es):EvOk prog w p loose mean mg mb lvl Φ (.list es):=by
  intro ce e A env P σ s r E hc X h
  obtain ⟨l,⟨q,rfl⟩,hc⟩:=got_of hc
  obtain ⟨rs,hrs,hr⟩:=bind_of h
  refine wpAny_List_spliced ?_
  rw [starEach_ns (chks_ns hc),backTo_ns]
  refine wm (evsL L ce l A env P σ s rs E hc X hrs) fun vs s₁ h₁=>⟨?_,pst_newl X.pd hr (h₁.2.toRS X.pd.mono) h₁.1⟩
  have hz:=(newlR_d hr).2
  rw [List.length_map] at hz
  rw [h₁.2.length]; exact Nat.le_trans hz lim_size
theorem ev_tup_ok {es:List SExpr} (L:LOk prog w p loose mean mg mb lvl Φ es):EvOk prog w p loose mean mg mb lvl Φ (.tup es):=by
  intro ce e A env P σ s r E hc X h
  obtain ⟨l,⟨k,q,rfl⟩,hc⟩:=got_of hc
  obtain ⟨rs,hrs,hr⟩:=bind_of h
  obtain ⟨hz,rfl⟩:=if_of hr
  refine wpAny_Tuple_spliced ?_
  rw [starEach_ns (chks_ns hc),backTo_ns]
  refine wm (evsL L ce l A env P σ s rs E hc X hrs) fun vs s₁ h₁=>?_
  obtain ⟨k1,rl⟩:=h₁
  exact ⟨by rw [rl.length]; exact Nat.le_trans hz lim_size,ktrans k1 (kpush _ _),.tup ((X.pd.keeps (kheap k1)).fresh _ _ _ (size_none _)) (Heap.get?_push_size _ rfl) (by rw [List.length_map]; exact hz) ((rl.toRS X.pd.mono).keeps fun zz zz e=>Heap.get?_push_of_some _ e)⟩
theorem ev_edict_ok:EvOk prog w p loose mean mg mb lvl Φ .edict:=by
  intro ce e A env P σ s r E hc X h
  obtain ⟨q,rfl⟩:=isEDict_eq hc
  cases h
  rw [eval_Dict_empty]
  refine wpAny_bind (wpAny_standAt (wpAny_newObj_type ⟨kpush _ _,?_⟩))
  have hlt:mainGlobals < s.heap.objs.size:=X.top.g.lt
  have hne:(s.heap.objs.size == sysModules) = false:=by
    rw [beq_eq_false_iff_ne]
    intro e
    rw [e] at hlt
    exact absurd hlt (by decide)
  exact .dict (kvs:=[]) (X.pd.fresh _ _ _ (size_none _)) (Heap.DictOf.new _) hne rfl (Nat.zero_le _) .nil
section
variable {a b i t:SExpr}
theorem ev_bin_ok (op:Operator) (ha:EOk prog w p loose mean mg mb lvl Φ a) (hb:EOk prog w p loose mean mg mb lvl Φ b):EvOk prog w p loose mean mg mb lvl Φ (.bin op a b):=by
  intro ce e A env P σ s r E hc X h
  obtain ⟨y,⟨q,rfl⟩,hd⟩:=got_of hc
  refine cps fun Gq hGq=>?_
  obtain ⟨h1,hd⟩:=and2 hd
  obtain ⟨h2,h3⟩:=and2 hd
  obtain ⟨x,hx,hA⟩:=bind_of h
  obtain ⟨z,hz,hr⟩:=bind_of hA
  refine hGq ?_
  clear hGq
  refine wpAny_BinOp (wm (ha.ev ce _ A env P σ s x E h2 X hx) fun vx s₁ k1=>wm (hb.ev ce _ A env P σ s₁ z E h3 (X.keeps k1.1) hz) fun vy s₂ k2=>?_)
  rw [eq_of_beq h1]
  exact wp (op_bin hr ((X.keeps k1.1).keeps k2.1).pd (k1.2.keeps (kheap k2.1)) k2.2) (ktrans k1.1 k2.1)
theorem ev_idx_ok (ha:EOk prog w p loose mean mg mb lvl Φ a) (hi:EOk prog w p loose mean mg mb lvl Φ i):EvOk prog w p loose mean mg mb lvl Φ (.idx a i):=by
  intro ce e A env P σ s r E hc X h
  obtain ⟨y,⟨q,rfl⟩,hd⟩:=got_of hc
  refine cps fun Gq hGq=>?_
  obtain ⟨h1,hd⟩:=and2 hd
  obtain ⟨h2,h3⟩:=and2 hd
  obtain ⟨x,hx,hA⟩:=bind_of h
  obtain ⟨z,hz,hr⟩:=bind_of hA
  refine hGq ?_
  clear hGq
  refine ev_Subscript (wm (ha.ev ce _ A env P σ s x E h2 X hx) fun vx s₁ k1=>wm (hi.ev ce _ A env P σ s₁ z E h3 (X.keeps k1.1) hz) fun vy s₂ k2=>?_)
  exact (op_idx (A:=A) (E:=E) hr (k1.2.keeps (kheap k2.1)) k2.2).imp fun T' q=>q.imp fun id q=>⟨q.1,q.2.1,wp q.2.2 (ktrans k1.1 k2.1)⟩
theorem ev_slice {value:Expr} {lo hi st:Option Expr} {q pos:Pos} {ds es:List PV} {ce:CE} {A:Around} {env:Env} {P:Pd} {σ:Sig} {s:Shared} {x r:RV} {E:Value → Shared → Prop} {pa pb pc:Option Int} (X:Cx prog w p loose mean mg mb lvl A env ce P σ s) (hv:wpAny (model prog w) A (eval value env) (Pst prog w P s x) E s) (hx:dL x.d = some ds) (hn:newl x.f x.c es = some r)
    (hc:pc ≠ some 0) (hes:∀ vs:List Value,∀ h:Heap,RS prog w h (P x.f x.c) vs ds → ∃ us,slicePick vs.toArray pa pb pc = us.toArray ∧ RS prog w h (P x.f x.c) us es)
    (hl:∀ s₁,Keeps s s₁ → wpAny (model prog w) A (evalPart lo env) (fun vl s₂=>Keeps s₁ s₂ ∧ IsPart vl pa) E s₁) (hu:∀ s₁,Keeps s s₁ → wpAny (model prog w) A (evalPart hi env) (fun vl s₂=>Keeps s₁ s₂ ∧ IsPart vl pb) E s₁) (hs:∀ s₁,Keeps s s₁ → wpAny (model prog w) A (evalPart st env) (fun vl s₂=>Keeps s₁ s₂ ∧ IsPart vl pc) E s₁) :
    wpAny (model prog w) A (eval (.Subscript value (.Slice lo hi st q) pos) env) (Pst prog w P s r) E s:=by
  refine slice_eval (wm hv fun o s₁ k1=>wm (hl s₁ k1.1) fun vl s₂ k2=>wm (hu s₂ (ktrans k1.1 k2.1)) fun vu s₃ k3=>wm (hs s₃ (ktrans (ktrans k1.1 k2.1) k3.1)) fun vs s₄ k4=>?_)
  have k14:=ktrans (ktrans k2.1 k3.1) k4.1
  have rx:=k1.2.keeps (kheap k14)
  rw [dL_eq hx] at rx
  induction rx.l with
  | list pa' ea za ra =>
    obtain ⟨us,e1,ru⟩:=hes _ _ ra
    refine ⟨_,_,pa,pb,pc,rfl,lobj_isList ea,?_,k2.2,k3.2,k4.2,hc,?_⟩
    · rw [List.size_toArray,ra.length]; exact Nat.le_trans za lim_size
    · rw [e1]; exact pst_slice X.pd (ktrans k1.1 k14) hn ru
theorem part_none {A:Around} {env:Env} {s:Shared} {E:Value → Shared → Prop} (s₁:Shared) (_:Keeps s s₁):wpAny (model prog w) A (evalPart none env) (fun vl s₂=>Keeps s₁ s₂ ∧ IsPart vl none) E s₁:=wpAny_pure ⟨krefl s₁,.none⟩
theorem ev_sfrom_ok (ha:EOk prog w p loose mean mg mb lvl Φ a) (hi:EOk prog w p loose mean mg mb lvl Φ i):EvOk prog w p loose mean mg mb lvl Φ (.sfrom a i):=by
  intro ce e A env P σ s r E hc X h
  obtain ⟨v,l,u,st,q1,q2,rfl,hd⟩:=slic_eq hc
  refine cps fun Gq hGq=>?_
  obtain ⟨h1,hd⟩:=and2 hd
  obtain ⟨h2,hd⟩:=and2 hd
  obtain ⟨h3,hd⟩:=and2 hd
  refine hGq ?_
  clear hGq
  obtain ⟨y,rfl,h4⟩:=got_of hd
  refine cps fun Gq hGq=>?_
  obtain ⟨x,hx,hA⟩:=bind_of h
  obtain ⟨z,hz,hB⟩:=bind_of hA
  obtain ⟨ds,hds,hC⟩:=bind_of hB
  obtain ⟨k,hk,hD⟩:=bind_of hC
  obtain ⟨h0,hn⟩:=ifo_of hD
  refine hGq ?_
  clear hGq
  rw [isNone_of h1,isNone_of h2]
  refine ev_slice (pa:=some k) (pb:=none) (pc:=none) X (ha.ev ce v A env P σ s x E h3 X hx) hds hn (fun e=>nomatch e) (fun vs hd rs=>⟨vs.drop k.toNat,?_,rs.drop k.toNat⟩) (fun s₁ k1=>wm (hi.ev ce y A env P σ s₁ z E h4 (X.keeps k1) hz) fun vl s₂ k2=>⟨k2.1,?_⟩) part_none part_none
  · rw [← Int.toNat_of_nonneg h0,slicePick_from',Int.toNat_of_nonneg h0]
  · have ry:=k2.2
    rw [dI_eq hk] at ry
    induction ry.i with | int t=>exact .int _ _
theorem ev_supto_ok (ha:EOk prog w p loose mean mg mb lvl Φ a) (hi:EOk prog w p loose mean mg mb lvl Φ i):EvOk prog w p loose mean mg mb lvl Φ (.supto a i):=by
  intro ce e A env P σ s r E hc X h
  obtain ⟨v,l,u,st,q1,q2,rfl,hd⟩:=slic_eq hc
  refine cps fun Gq hGq=>?_
  obtain ⟨h1,hd⟩:=and2 hd
  obtain ⟨h2,hd⟩:=and2 hd
  obtain ⟨h3,hd⟩:=and2 hd
  refine hGq ?_
  clear hGq
  obtain ⟨y,rfl,h4⟩:=got_of hd
  refine cps fun Gq hGq=>?_
  obtain ⟨x,hx,hA⟩:=bind_of h
  obtain ⟨z,hz,hB⟩:=bind_of hA
  obtain ⟨ds,hds,hC⟩:=bind_of hB
  obtain ⟨k,hk,hD⟩:=bind_of hC
  obtain ⟨h0,hn⟩:=ifo_of hD
  refine hGq ?_
  clear hGq
  rw [isNone_of h1,isNone_of h2]
  refine ev_slice (pa:=none) (pb:=some k) (pc:=none) X (ha.ev ce v A env P σ s x E h3 X hx) hds hn (fun e=>nomatch e) (fun vs hd rs=>⟨vs.take k.toNat,?_,rs.take k.toNat⟩) part_none (fun s₁ k1=>wm (hi.ev ce y A env P σ s₁ z E h4 (X.keeps k1) hz) fun vl s₂ k2=>⟨k2.1,?_⟩) part_none
  · rw [← Int.toNat_of_nonneg h0,slicePick_upto',Int.toNat_of_nonneg h0]
  · have ry:=k2.2
    rw [dI_eq hk] at ry
    induction ry.i with | int t=>exact .int _ _
theorem ev_sall_ok (ha:EOk prog w p loose mean mg mb lvl Φ a):EvOk prog w p loose mean mg mb lvl Φ (.sall a):=by
  intro ce e A env P σ s r E hc X h
  obtain ⟨v,l,u,st,q1,q2,rfl,hd⟩:=slic_eq hc
  refine cps fun Gq hGq=>?_
  obtain ⟨h1,hd⟩:=and2 hd
  obtain ⟨h2,hd⟩:=and2 hd
  obtain ⟨h3,h4⟩:=and2 hd
  obtain ⟨x,hx,hA⟩:=bind_of h
  obtain ⟨ds,hds,hn⟩:=bind_of hA
  refine hGq ?_
  clear hGq
  rw [isNone_of h1,isNone_of h2,isNone_of h3]
  exact ev_slice (pa:=none) (pb:=none) (pc:=none) X (ha.ev ce v A env P σ s x E h4 X hx) hds hn (fun e=>nomatch e) (fun vs ha rs=>⟨vs,slicePick_all ..,rs⟩) part_none part_none part_none
theorem ev_srev_ok (ha:EOk prog w p loose mean mg mb lvl Φ a):EvOk prog w p loose mean mg mb lvl Φ (.srev a):=by
  intro ce e A env P σ s r E hc X h
  obtain ⟨v,l,u,st,q1,q2,rfl,hd⟩:=slic_eq hc
  refine cps fun Gq hGq=>?_
  obtain ⟨h1,hd⟩:=and2 hd
  obtain ⟨h2,hd⟩:=and2 hd
  obtain ⟨h3,hd⟩:=and2 hd
  refine hGq ?_
  clear hGq
  obtain ⟨y,rfl,h4⟩:=got_of hd
  obtain ⟨k',q3,q4,rfl⟩:=isNeg_eq h4
  refine cps fun Gq hGq=>?_
  obtain ⟨x,hx,hA⟩:=bind_of h
  obtain ⟨ds,hds,hn⟩:=bind_of hA
  refine hGq ?_
  clear hGq
  rw [isNone_of h1,isNone_of h2]
  exact ev_slice (pa:=none) (pb:=none) (pc:=some (-1)) X (ha.ev ce v A env P σ s x E h3 X hx) hds hn (fun e=>nomatch e) (fun vs ha rs=>⟨vs.reverse,slicePick_rev _,rs.reverse⟩) part_none part_none fun s₁ zz=>neg_eval fun t tk=>⟨ktoks s₁ _,.int _ _⟩
theorem ev_cmp_ok (op:CmpOp) (ha:EOk prog w p loose mean mg mb lvl Φ a) (hb:EOk prog w p loose mean mg mb lvl Φ b):EvOk prog w p loose mean mg mb lvl Φ (.cmp op a b):=by
  intro ce e A env P σ s r E hc X h
  obtain ⟨l,o,r',q,rfl,hd⟩:=cmp1_eq hc
  refine cps fun Gq hGq=>?_
  obtain ⟨h1,hd⟩:=and2 hd
  obtain ⟨h2,hd⟩:=and2 hd
  obtain ⟨h3,h4⟩:=and2 hd
  obtain ⟨x,hx,hA⟩:=bind_of h
  obtain ⟨y,hy,hB⟩:=bind_of hA
  refine hGq ?_
  clear hGq
  obtain ⟨k,hk,rfl⟩:=map_of hB
  refine wpAny_Compare1 (wm (ha.ev ce l A env P σ s x E h2 X hx) fun vx s₁ k1=>wm (hb.ev ce r' A env P σ s₁ y E h3 (X.keeps k1.1) hy) fun vy s₂ k2=>?_) (behind_plain (notT h4))
  rw [eq_of_beq h1]
  exact wp (op_cmp (P:=P) hk (k1.2.keeps (kheap k2.1)) k2.2 (units64 X.hu)) (ktrans k1.1 k2.1)
theorem none_is {h:Heap} {Q:Addr → Prop} {v:Value} {d:PV} (x:R prog w h Q v d):plainIs v Value.none = true ∧ (v == Value.none) = (dU d).isSome:=by
  cases x <;> exact ⟨rfl,rfl⟩
theorem ev_isN_ok (neg:Bool) (ha:EOk prog w p loose mean mg mb lvl Φ a):EvOk prog w p loose mean mg mb lvl Φ (.isN neg a):=by
  intro ce e A env P σ s r E hc X h
  obtain ⟨l,o,r',q,rfl,hd⟩:=cmp1_eq hc
  obtain ⟨h1,hd⟩:=and2 hd
  obtain ⟨h2,h3⟩:=and2 hd
  obtain ⟨k',q',rfl⟩:=const_of (ce:=ce) h3
  obtain ⟨x,hx,rfl⟩:=map_of h
  refine wpAny_Compare1 (wm (ha.ev ce l A env P σ s x E h2 X hx) fun vx s₁ k1=>wpAny_pure ?_) rfl
  obtain ⟨hp,hv⟩:=none_is k1.2
  rw [eq_of_beq h1,← hv]
  cases neg with
  | true =>
    refine wpAny_isNot_plain hp ?_
    rw [Bool.bne_true]
    exact pst_bool k1.1
  | false =>
    refine wpAny_is_plain hp ?_
    rw [Bool.bne_false]
    exact pst_bool k1.1
theorem ld_typ (D:Wd prog w p loose mean mg mb) {A:Around} {E:Value → Shared → Prop} {s:Shared} {env:Env} {ce:CE} {P:Pd} {σ:Sig} {T:Str} {np:Pos} {Q:Value → Shared → Prop} (X:Cx prog w p loose mean mg mb lvl A env ce P σ s) (hT:(T == ("list":Str) || T == ("int":Str)) = true) (hg:isGlob (ce.kind T) = true) (h:∀ id,T = Str.ofString id → id = "list" ∨ id = "int" → Q (.type id) s):wpAny (model prog w) A (eval (.Name T np) env) Q E s:=by
  rcases Bool.or_eq_true_iff.mp hT with hT | hT
  · rw [eq_of_beq hT] at hg ⊢
    exact ld_blt D X hg (blt_mem (by decide +kernel)) boot_list (by decide +kernel) (by decide +kernel) (h "list" (eq_of_beq hT) (.inl rfl))
  · rw [eq_of_beq hT] at hg ⊢
    exact ld_blt D X hg (blt_mem (by decide +kernel)) boot_int (by decide +kernel) (by decide +kernel) (h "int" (eq_of_beq hT) (.inr rfl))
theorem typeNm_is {s:Shared} {Q:Addr → Prop} {v:Value} {d:PV} {n:Str} (hn:typeNm d = some n) (x:R prog w s.heap Q v d):∃ tx,s.TypeIs v tx ∧ (Value.type tx == Value.type "builtin_function_or_method") = false ∧ n = Str.ofString tx ∧ (tx = "list" ∨ tx = "int" ∨ tx = "bool"):=by
  cases d with
  | list ds=>cases hn; induction x.l with | list p e z r=>exact ⟨"list",⟨_,e,rfl⟩,by decide +kernel,rfl,.inl rfl⟩
  | int i=>cases hn; induction x.i with | int t=>exact ⟨"int",rfl,by decide +kernel,rfl,.inr (.inl rfl)⟩
  | bool b=>cases hn; rw [x.b]; exact ⟨"bool",rfl,by decide +kernel,rfl,.inr (.inr rfl)⟩
  | _=>cases hn
theorem type_eq {tx id:String} (h1:tx = "list" ∨ tx = "int" ∨ tx = "bool") (h2:id = "list" ∨ id = "int"):(Value.type tx == Value.type id) = decide (Str.ofString tx = Str.ofString id):=by
  rcases h1 with rfl | rfl | rfl <;> rcases h2 with rfl | rfl <;> decide +kernel
theorem ev_typeIs_ok (D:Wd prog w p loose mean mg mb) (Tn:Str) (ha:EOk prog w p loose mean mg mb lvl Φ a):EvOk prog w p loose mean mg mb lvl Φ (.typeIs Tn a):=by
  intro ce e A env P σ s r E hc X h
  obtain ⟨l,o,r',q,rfl,hd⟩:=cmp1_eq hc
  refine cps fun Gq hGq=>?_
  obtain ⟨h1,hd1⟩:=and2 hd
  obtain ⟨h2,hd2⟩:=and2 hd1
  obtain ⟨h3,hd3⟩:=and2 hd2
  refine hGq ?_
  clear hGq
  obtain ⟨y,⟨np,rfl⟩,hd4⟩:=got_of hd3
  obtain ⟨h4,h5⟩:=and2 hd4
  obtain ⟨x,q1,q2,rfl,hg,hst,h6⟩:=call1_eq h2
  obtain ⟨z,hz,hA⟩:=bind_of h
  obtain ⟨n,hn,rfl⟩:=map_of hA
  rw [eq_of_beq h4,eq_of_beq h1]
  refine wpAny_Compare1 (call_typ1 D X hg hst (blt_mem (by decide +kernel)) boot_type (by decide +kernel) (by decide +kernel) (wm (ha.ev ce x A env P σ s z E h6 X hz) fun v s₁ k1=>?_)) rfl
  obtain ⟨tx,t1,t2,rfl,t3⟩:=typeNm_is hn k1.2
  refine call_type_of t1 t2 (ld_typ D (X.keeps k1.1) h3 h5 fun id e he=>wpAny_is_plain rfl ?_)
  rw [type_eq t3 he,e]
  exact pst_bool k1.1
theorem band_ok {es:List SExpr} (L:LOk prog w p loose mean mg mb lvl Φ es):EOk prog w p loose mean mg mb lvl Φ (.band es):=by
  constructor
  · intro ce e A env P σ s r E hc X h
    obtain ⟨y,⟨q,rfl⟩,hd⟩:=got_of hc
    obtain ⟨h1,hd⟩:=and2 hd
    obtain ⟨h2,h3⟩:=and2 hd
    obtain ⟨k,hk,rfl⟩:=map_of h
    rw [eq_of_beq h1]
    exact evAnd L ce _ A env P σ s k E q h2 (fun e=>by rw [e] at h3; cases h3) X hk
  · intro ce e A env P σ s r k E hc X h hr
    obtain ⟨y,⟨q,rfl⟩,hd⟩:=got_of hc
    obtain ⟨h1,hd⟩:=and2 hd
    obtain ⟨k',hk,rfl⟩:=map_of h
    cases hr
    rw [eq_of_beq h1]
    exact teAnd L ce _ A env P σ s k E q _ (and2 hd).1 X hk
theorem bor_ok {es:List SExpr} (L:LOk prog w p loose mean mg mb lvl Φ es):EOk prog w p loose mean mg mb lvl Φ (.bor es):=by
  constructor
  · intro ce e A env P σ s r E hc X h
    obtain ⟨y,⟨q,rfl⟩,hd⟩:=got_of hc
    obtain ⟨h1,hd⟩:=and2 hd
    obtain ⟨h2,h3⟩:=and2 hd
    obtain ⟨k,hk,rfl⟩:=map_of h
    rw [eq_of_beq h1]
    exact evOr L ce _ A env P σ s k E q h2 (fun e=>by rw [e] at h3; cases h3) X hk
  · intro ce e A env P σ s r k E hc X h hr
    obtain ⟨y,⟨q,rfl⟩,hd⟩:=got_of hc
    obtain ⟨h1,hd⟩:=and2 hd
    obtain ⟨k',hk,rfl⟩:=map_of h
    cases hr
    rw [eq_of_beq h1]
    exact teOr L ce _ A env P σ s k E q _ (and2 hd).1 X hk
theorem not_ok (ha:EOk prog w p loose mean mg mb lvl Φ a):EOk prog w p loose mean mg mb lvl Φ (.not a):=by
  constructor
  · intro ce e A env P σ s r E hc X h
    obtain ⟨x,⟨q,rfl⟩,hd⟩:=got_of hc
    refine cps fun Gq hGq=>?_
    obtain ⟨h1,h2⟩:=and2 hd
    obtain ⟨y,hy,hA⟩:=bind_of h
    refine hGq ?_
    clear hGq
    obtain ⟨k,hk,rfl⟩:=map_of hA
    rw [eq_of_beq h1,arm_eval_UnaryOp]
    refine wpAny_bind (wm (ha.ev ce _ A env P σ s y E h2 X hy) fun v s₁ k1=>wpAny_bind (wpAny_standAt (wpAny_holding (not_of ?_))))
    rw [pst_b k1 (boolOf_eq hk)]
    exact wpAny_truthy_bool (pst_bool k1.1)
  · intro ce e A env P σ s r k E hc X h hr
    obtain ⟨x,⟨q,rfl⟩,hd⟩:=got_of hc
    refine cps fun Gq hGq=>?_
    obtain ⟨h1,h2⟩:=and2 hd
    obtain ⟨y,hy,hA⟩:=bind_of h
    refine hGq ?_
    clear hGq
    obtain ⟨k',hk',rfl⟩:=map_of hA
    cases hr
    rw [eq_of_beq h1]
    exact isTrue_not (wm (ha.te ce _ A env P σ s y k' E h2 X hy (boolOf_eq hk')) fun c s₁ h₁=>⟨by rw [h₁.1],h₁.2⟩)
theorem ife_ok (ht:EOk prog w p loose mean mg mb lvl Φ t) (ha:EOk prog w p loose mean mg mb lvl Φ a) (hb:EOk prog w p loose mean mg mb lvl Φ b):EOk prog w p loose mean mg mb lvl Φ (.ife t a b):=by
  constructor
  · intro ce e A env P σ s r E hc X h
    obtain ⟨x,⟨q,rfl⟩,hd⟩:=got_of hc
    refine cps fun Gq hGq=>?_
    obtain ⟨h1,hd⟩:=and2 hd
    obtain ⟨h2,h3⟩:=and2 hd
    obtain ⟨u,hu,hA⟩:=bind_of h
    obtain ⟨k,hk,hr⟩:=bind_of hA
    refine hGq ?_
    clear hGq
    refine IfExp_ (wm (ht.te ce _ A env P σ s u k E h1 X hu (boolOf_eq hk)) fun c s₁ h₁=>?_)
    obtain ⟨rfl,k1⟩:=h₁
    cases c with
    | true=>exact wp (ha.ev ce _ A env P σ s₁ r E h2 (X.keeps k1) hr) k1
    | false=>exact wp (hb.ev ce _ A env P σ s₁ r E h3 (X.keeps k1) hr) k1
  · intro ce e A env P σ s r k E hc X h hk
    obtain ⟨x,⟨q,rfl⟩,hd⟩:=got_of hc
    refine cps fun Gq hGq=>?_
    obtain ⟨h1,hd⟩:=and2 hd
    obtain ⟨h2,h3⟩:=and2 hd
    obtain ⟨u,hu,hA⟩:=bind_of h
    obtain ⟨k',hk',hr⟩:=bind_of hA
    refine hGq ?_
    clear hGq
    refine isTrue_IfExp (wm (ht.te ce _ A env P σ s u k' E h1 X hu (boolOf_eq hk')) fun c s₁ h₁=>?_)
    obtain ⟨rfl,k1⟩:=h₁
    cases c with
    | true=>exact wm (ha.te ce _ A env P σ s₁ r k E h2 (X.keeps k1) hr hk) fun v s₂ h₂=>⟨h₂.1,ktrans k1 h₂.2⟩
    | false=>exact wm (hb.te ce _ A env P σ s₁ r k E h3 (X.keeps k1) hr hk) fun v s₂ h₂=>⟨h₂.1,ktrans k1 h₂.2⟩
theorem ev_call_ok (T:Ctr prog w p loose mean mg mb lvl Φ) (f:Str) {es:List SExpr} (L:LOk prog w p loose mean mg mb lvl Φ es):EvOk prog w p loose mean mg mb lvl Φ (.call f es):=by
  intro ce e A env P σ s r E hc X h
  obtain ⟨as,q1,q2,rfl,h1,h3,hd⟩:=callOf_eq hc
  refine cps fun Gq hGq=>?_
  obtain ⟨h2,h5⟩:=and2 hd
  obtain ⟨rs,hrs,hA⟩:=bind_of h
  refine hGq ?_
  clear hGq
  obtain ⟨⟨d,fr⟩,hΦ,rfl⟩:=map_of hA
  refine cps fun Gq hGq=>?_
  obtain ⟨fa,hmg,hfn,hcall⟩:=T f (rs.map (·.d)) d fr hΦ
  refine hGq ?_
  clear hGq
  refine Call_Name rfl (ld_fn X h1 hmg (notT h5) ?_)
  rw [starEach_ns h3,backTo_ns]
  refine cps fun Gq hGq=>?_
  obtain ⟨o,fd,ho,hfd⟩:=hfn s.heap X.top
  refine hGq ?_
  clear hGq
  have main:∀ vs s₁,Keeps s s₁ ∧ RL prog w s₁.heap P vs rs → (s₁.heap.get? fa = some o ∧ o.data = .func fd) ∧ wpAny (model prog w) A (call (.ref fa) ([] ++ vs) []) (Pst prog w P s ⟨d,fr || d.atom || rs.all (·.f),fr || d.atom || rs.all (·.c)⟩) E s₁:=by
    intro vs s₁ hk
    obtain ⟨k1,rl⟩:=hk
    have X1:=X.keeps k1
    refine ⟨⟨kheap k1 _ _ ho,hfd⟩,wm (hcall A E s₁ vs (P (rs.all (·.f)) (rs.all (·.c))) X.hh X.hd X.hu X1.top (fun b hb=>X1.pd.fresh _ _ b hb) (rl.toRS X.pd.mono)) fun v s₂ h₂=>⟨ktrans k1 h₂.1,?_⟩⟩
    show R prog w s₂.heap (P (fr || d.atom || rs.all (·.f)) (fr || d.atom || rs.all (·.c))) v d
    cases ha:d.atom with
    | true=>exact h₂.2.atom ha
    | false =>
      cases fr with
      | true=>exact h₂.2.mono fun b hb=>X1.pd.fresh _ _ b (hb.2 rfl)
      | false=>exact h₂.2.mono fun b hb=>hb.1
  cases as with
  | nil =>
    have:es = []:=by cases es with | nil=>rfl | cons _ _=>cases h2
    subst this
    cases hrs
    exact callWith_function (o:=o) (fd:=fd) (evalArgs_nil3 (main [] s ⟨krefl s,.nil⟩))
  | cons a as=>exact callWith_function (o:=o) (fd:=fd) (evalArgs_plain (wm (evsL L ce _ A env P σ s rs E h2 X hrs) main))
variable (D:Wd prog w p loose mean mg mb) (H:Hard prog w)
include D in
theorem ev_len_ok (ha:EOk prog w p loose mean mg mb lvl Φ a):EvOk prog w p loose mean mg mb lvl Φ (.len a):=by
  intro ce e A env P σ s r E hc X h
  obtain ⟨x,q1,q2,rfl,hg,hst,hd⟩:=call1_eq hc
  obtain ⟨y,hy,hA⟩:=bind_of h
  obtain ⟨n,hn,rfl⟩:=map_of hA
  exact call_blt1 D X hg hst (blt_mem (by decide +kernel)) boot_len (by decide +kernel) (by decide +kernel) (wm (ha.ev ce x A env P σ s y E hd X hy) fun v s₁ k1=>wp (op_len (P:=P) hn k1.2) k1.1)
include D in
theorem ev_sorted_ok (ha:EOk prog w p loose mean mg mb lvl Φ a):EvOk prog w p loose mean mg mb lvl Φ (.sorted a):=by
  intro ce e A env P σ s r E hc X h
  obtain ⟨x,q1,q2,rfl,hg,hst,hd⟩:=call1_eq hc
  refine cps fun Gq hGq=>?_
  obtain ⟨y,hy,hA⟩:=bind_of h
  obtain ⟨ds,hds,hB⟩:=bind_of hA
  obtain ⟨xs,hxs,hC⟩:=bind_of hB
  refine hGq ?_
  clear hGq
  obtain ⟨hl,rfl⟩:=if_of hC
  refine call_blt1 D X hg hst (blt_mem (by decide +kernel)) boot_sorted (by decide +kernel) (by decide +kernel) (wm (ha.ev ce x A env P σ s y E hd X hy) fun v s₁ k1=>?_)
  have rv:=k1.2
  rw [dL_eq hds] at rv
  exact wp (op_sorted (P:=P) rv hxs hl (X.keeps k1.1).pd) k1.1
include D H in
theorem ev_sortedSet_ok (ha:EOk prog w p loose mean mg mb lvl Φ a):EvOk prog w p loose mean mg mb lvl Φ (.sortedSet a):=by
  intro ce e A env P σ s r E hc X h
  obtain ⟨x,q1,q2,rfl,hg,hst,hd⟩:=call1_eq hc
  obtain ⟨y,q3,q4,rfl,hg2,hst2,hd2⟩:=call1_eq hd
  refine cps fun Gq hGq=>?_
  obtain ⟨z,hz,hA⟩:=bind_of h
  obtain ⟨ds,hds,hB⟩:=bind_of hA
  obtain ⟨xs,hxs,hC⟩:=bind_of hB
  refine hGq ?_
  clear hGq
  obtain ⟨hl,rfl⟩:=if_of hC
  refine call_blt1 D X hg hst (blt_mem (by decide +kernel)) boot_sorted (by decide +kernel) (by decide +kernel) (call_typ1 D X hg2 hst2 (blt_mem (by decide +kernel)) boot_set' (by decide +kernel) (by decide +kernel) (wm (ha.ev ce y A env P σ s z E hd2 X hz) fun v s₁ k1=>?_))
  have rv:=k1.2
  rw [dL_eq hds] at rv
  exact wm (H.sortedSet A s₁ P E v ds xs _ X.hh (units64 X.hu) rv hxs hl.1 hl.2 (X.keeps k1.1).pd) fun v s₃ h₃=>wp' h₃ k1.1
include D in
theorem ev_all_ok (ha:EOk prog w p loose mean mg mb lvl Φ a):EvOk prog w p loose mean mg mb lvl Φ (.all a):=by
  intro ce e A env P σ s r E hc X h
  obtain ⟨x,q1,q2,rfl,hg,hst,hd⟩:=call1_eq hc
  refine cps fun Gq hGq=>?_
  obtain ⟨y,hy,hA⟩:=bind_of h
  obtain ⟨ds,hds,hB⟩:=bind_of hA
  refine hGq ?_
  clear hGq
  obtain ⟨xs,hxs,rfl⟩:=map_of hB
  refine call_blt1 D X hg hst (blt_mem (by decide +kernel)) boot_all (by decide +kernel) (by decide +kernel) (wm (ha.ev ce x A env P σ s y E hd X hy) fun v s₁ k1=>?_)
  have rv:=k1.2
  rw [dL_eq hds] at rv
  exact wp (op_all (P:=P) X.hh hxs rv) k1.1
include D in
theorem ev_range_ok (ha:EOk prog w p loose mean mg mb lvl Φ a):EvOk prog w p loose mean mg mb lvl Φ (.range a):=by
  intro ce e A env P σ s r E hc X h
  obtain ⟨x,q1,q2,rfl,hg,hst,hd⟩:=call1_eq hc
  refine cps fun Gq hGq=>?_
  obtain ⟨y,hy,hA⟩:=bind_of h
  obtain ⟨n,hn,hB⟩:=bind_of hA
  refine hGq ?_
  clear hGq
  obtain ⟨hb,rfl⟩:=if_of hB
  refine call_typ1 D X hg hst (blt_mem (by decide +kernel)) boot_range (by decide +kernel) (by decide +kernel) (wm (ha.ev ce x A env P σ s y E hd X hy) fun v s₁ k1=>?_)
  have rv:=k1.2
  rw [dI_eq hn] at rv
  induction rv.i with | int t=>exact wp (rng_ok (P:=P) (X.keeps k1.1).pd hb.1 hb.2) k1.1
include D in
theorem ev_rangeDown_ok (ha:EOk prog w p loose mean mg mb lvl Φ a):EvOk prog w p loose mean mg mb lvl Φ (.rangeDown a):=by
  intro ce e A env P σ s r E hc X h
  obtain ⟨as,q1,q2,rfl,hg,hst,hd⟩:=callOf_eq hc
  obtain ⟨x,rfl,hd⟩:=got_of hd
  refine cps fun Gq hGq=>?_
  obtain ⟨h1,hd⟩:=and2 hd
  obtain ⟨h2,h3⟩:=and2 hd
  obtain ⟨k1',q3,q4,e1⟩:=isNeg_eq h1
  obtain ⟨k2',q5,q6,e2⟩:=isNeg_eq h2
  obtain ⟨u,hu,hA⟩:=bind_of h
  obtain ⟨n,hn,hB⟩:=bind_of hA
  refine hGq ?_
  clear hGq
  obtain ⟨hb,rfl⟩:=if_of hB
  refine Call_Name rfl (ld_blt D X hg (blt_mem (by decide +kernel)) boot_range (by decide +kernel) (by decide +kernel) ?_)
  rw [starEach_ns hst,backTo_ns,e1,e2]
  refine PyProof.Rows.callWith_type rfl (evalArgs_plain (spliced_cons (wm (ha.ev ce _ A env P σ s u E h3 X hu) fun v s₁ k1=>spliced_cons (neg_eval fun t tk=>spliced_cons (neg_eval fun t' tk'=>spliced_nil ?_)))))
  have rv:=k1.2
  rw [dI_eq hn] at rv
  have k2:=ktrans k1.1 (ktoks s₁ tk')
  induction rv.i with | int t=>exact wp (rng_down_ok (P:=P) (X.keeps k2).pd hb.1 hb.2) k2
include D H in
theorem ev_dictOf_ok (ha:EOk prog w p loose mean mg mb lvl Φ a):EvOk prog w p loose mean mg mb lvl Φ (.dictOf a):=by
  intro ce e A env P σ s r E hc X h
  obtain ⟨x,q1,q2,rfl,hg,hst,hd⟩:=call1_eq hc
  refine cps fun Gq hGq=>?_
  obtain ⟨y,hy,hA⟩:=bind_of h
  obtain ⟨ds,hds,hB⟩:=bind_of hA
  obtain ⟨ps,hps,hC⟩:=bind_of hB
  refine hGq ?_
  clear hGq
  cases hC
  exact call_typ1 D X hg hst (blt_mem (by decide +kernel)) boot_dict (by decide +kernel) (by decide +kernel) (wm (ha.ev ce x A env P σ s y E hd X hy) fun v s₁ k1=>wp (H.dictOf A s₁ P E v ds ps y X.hh (units64 X.hu) (dL_eq hds) k1.2 hps (X.keeps k1.1).pd ⟨_,(X.keeps k1.1).top.g⟩) k1.1)
include D H in
theorem ev_items_ok (ha:EOk prog w p loose mean mg mb lvl Φ a):EvOk prog w p loose mean mg mb lvl Φ (.items a):=by
  intro ce e A env P σ s r E hc X h
  obtain ⟨x,q1,q2,rfl,hg,hst,hd⟩:=call1_eq hc
  obtain ⟨o,as,ap,q,rfl,hline,hbase,he⟩:=meth_eq hd
  refine cps fun Gq hGq=>?_
  obtain ⟨h1,h2⟩:=and2 he
  obtain ⟨y,hy,hA⟩:=bind_of h
  refine hGq ?_
  clear hGq
  obtain ⟨kd,hkd,rfl⟩:=map_of hA
  rw [isEmpty_of h1] at hst ⊢
  refine call_typ1 D X hg hst (blt_mem (by decide +kernel)) boot_list (by decide +kernel) (by decide +kernel) (Call_method0 (base_plain hbase) hline (wm (ha.ev ce o A env P σ s y E h2 X hy) fun v s₁ k1=>?_))
  refine cps fun Gq hGq=>?_
  obtain ⟨T',id,g1,g2,g3,g4,g5,g6⟩:=H.items A s₁ P E v kd.1 kd.2 y q X.hh (units64 X.hu) (dD_eq hkd) k1.2 (X.keeps k1.1).pd
  refine hGq ?_
  clear hGq
  exact ⟨T',id,g1,g2,g3,g4,g5,wm g6 fun v s₃ h₃=>wp' h₃ k1.1⟩
omit D H in
theorem ev_get_ok {o k d:SExpr} (ho:EOk prog w p loose mean mg mb lvl Φ o) (hk:EOk prog w p loose mean mg mb lvl Φ k) (hd:EOk prog w p loose mean mg mb lvl Φ d):EvOk prog w p loose mean mg mb lvl Φ (.get o k d):=by
  intro ce e A env P σ s r E hc X h
  obtain ⟨o',as,ap,q,rfl,hline,hbase,hc1⟩:=meth_eq hc
  obtain ⟨h1,hc2⟩:=and2 hc1
  obtain ⟨x,rfl,hc3⟩:=got_of hc2
  refine cps fun Gq hGq=>?_
  obtain ⟨h3,hc4⟩:=and2 hc3
  obtain ⟨h4,hc5⟩:=and2 hc4
  obtain ⟨h5,h6⟩:=and2 hc5
  obtain ⟨u,hu,hA⟩:=bind_of h
  obtain ⟨v,hv,hB⟩:=bind_of hA
  obtain ⟨z,hz,hC⟩:=bind_of hB
  obtain ⟨kd,hkd,hD⟩:=bind_of hC
  refine hGq ?_
  clear hGq
  obtain ⟨kk,hkk,rfl⟩:=map_of hD
  have hst:starEach [x.1,x.2] env = [(false,eval x.1 env),(false,eval x.2 env)]:=starEach_ns (env:=env) (l:=[x.1,x.2]) (by rw [List.all_cons,List.all_cons,h5,h6]; rfl)
  refine Call_method2 (base_plain hbase) hst hline (wm (ho.ev ce o' A env P σ s u E h1 X hu) fun vo s₁ k1=>?_)
  have ro:=k1.2
  rw [dD_eq hkd] at ro
  induction ro.d with
  | dict pa ea qa ka za ra =>
    refine ⟨"dict","dict.get",F.plainAttrs_dict,F.slot_dict_get,F.type_dict_get,ea.typeIs,fun b hb=>?_,?_⟩
    · cases hb
      refine cps fun Gq hGq=>?_
      obtain ⟨ob,zz,zz,hob,hcx,zz⟩:=ea
      refine hGq ?_
      clear hGq
      exact ⟨ob,hob,hcx.2.1⟩
    · refine wpAny_dict_get2 (knd:=strKind prog w) qa (wm (hk.ev ce x.1 A env P σ s₁ v E h3 (X.keeps k1.1) hv) fun vk s₂ k2=>wm (hd.ev ce x.2 A env P σ s₂ z E h4 ((X.keeps k1.1).keeps k2.1) hz) fun vd s₃ k3=>?_)
      have rk:=k2.2
      rw [dS_eq hkk] at rk
      induction rk.s with
      | str t =>
        have kk3:=ktrans k2.1 k3.1
        refine ⟨kk,_,strKind_is prog w kk t,(ea.keep (kheap kk3)).mapOf,?_⟩
        have hlk:=look_kvs ra kk
        rw [ka] at hlk
        cases hdv:look kd.1 kd.2 kk with
        | some dv =>
          rw [hdv] at hlk
          obtain ⟨v',hv',rv'⟩:=hlk
          rw [hv']
          exact ⟨ktrans (ktrans k1.1 kk3) (ktoks _ _),(part_ok (P:=P) (r:=u) rv').keeps (kheap (ktrans kk3 (ktoks s₃ (s₃.toks + 1))))⟩
        | none =>
          rw [hdv] at hlk
          rw [show valueAt _ kk = none from hlk]
          exact ⟨ktrans (ktrans k1.1 kk3) (ktoks _ _),k3.2⟩
def IsComp (prog:Program) (w:World) (A:Around) (env:Env) (P:Pd) (s:Shared) (E:Value → Shared → Prop) (v:Expr) (r:RV):Prop :=
  ∃ elt tg it ifs gs scope vp,v = .ListComp elt (⟨tg,it,ifs,0⟩ :: gs) scope vp ∧ CompRuns prog w A env P s E elt tg it ifs gs scope vp r
omit D H in
theorem IsComp.ev {A:Around} {env:Env} {P:Pd} {s:Shared} {E:Value → Shared → Prop} {v:Expr} {r:RV} (h:IsComp prog w A env P s E v r):wpAny (model prog w) A (eval v env) (Pst prog w P s r) E s:=by
  obtain ⟨zz,zz,zz,zz,zz,zz,zz,rfl,ha⟩:=h
  exact ha.ev
omit D H in
theorem elt_ok {a:SExpr} {el:Expr} {ce':CE} {A:Around} {cenv:Env} {τ:PV → Sig} (ha:EOk prog w p loose mean mg mb lvl Φ a) (hc:chk a ce' el = true):EltOk prog w p loose mean mg mb lvl A cenv ce' el τ (fun d=>(aeval Φ a (τ d)).map fun r=>[r]):=by
  intro s₃ P' d r E' X3 hgo
  obtain ⟨z,hz,rfl⟩:=map_of hgo
  exact wm (ha.ev _ el A _ P' _ s₃ z E' hc X3 hz) fun v s₆ h₆=>⟨h₆.1,z,rfl,h₆.2⟩
omit D H in
theorem comp_is {elt it:SExpr} (he:EOk prog w p loose mean mg mb lvl Φ elt) (hi:EOk prog w p loose mean mg mb lvl Φ it) {ce:CE} {e:Expr} {A:Around} {env:Env} {P:Pd} {σ:Sig} {s:Shared} {r:RV} {E:Value → Shared → Prop} (hc:chk (.comp elt it) ce e = true) (X:Cx prog w p loose mean mg mb lvl A env ce P σ s) (h:aeval Φ (.comp elt it) σ = some r):IsComp prog w A env P s E e r:=by
  obtain ⟨el,x,i,sc,p',q',rfl,hd⟩:=comp1_eq hc
  refine cps fun Gq hGq=>?_
  obtain ⟨h2,hd⟩:=and2 hd
  obtain ⟨h3,hd⟩:=and2 hd
  obtain ⟨h4,h5⟩:=and2 hd
  obtain ⟨q,hq,hA⟩:=bind_of h
  obtain ⟨ds,hds,hB⟩:=bind_of hA
  obtain ⟨rs,hrs,hr⟩:=bind_of hB
  refine hGq ?_
  clear hGq
  exact ⟨_,_,_,_,_,_,_,rfl,comp_runs X (compOk_of h2) (notT h5) (hi.ev ce i A env P σ s q E h3 X hq) hds hrs hr fun C=>elt_ok he h4⟩
omit D H in
theorem comp2_is {elt it cond it2:SExpr} (he:EOk prog w p loose mean mg mb lvl Φ elt) (hi:EOk prog w p loose mean mg mb lvl Φ it) (hcd:EOk prog w p loose mean mg mb lvl Φ cond) (hi2:EOk prog w p loose mean mg mb lvl Φ it2) {ce:CE} {e:Expr} {A:Around} {env:Env} {P:Pd} {σ:Sig} {s:Shared} {r:RV} {E:Value → Shared → Prop} (hc:chk (.comp2 elt it cond it2) ce e = true) (X:Cx prog w p loose mean mg mb lvl A env ce P σ s) (h:aeval Φ (.comp2 elt it cond it2) σ = some r):IsComp prog w A env P s E e r:=by
  obtain ⟨el,x,i,c,y,i2,sc,p',q',r',rfl,hd⟩:=comp2_eq hc
  refine cps fun Gq hGq=>?_
  obtain ⟨h1,hd⟩:=and2 hd
  obtain ⟨h2,hd⟩:=and2 hd
  obtain ⟨h3,hd⟩:=and2 hd
  obtain ⟨h4,hd⟩:=and2 hd
  obtain ⟨h5,hd⟩:=and2 hd
  obtain ⟨h6,hd⟩:=and2 hd
  obtain ⟨h7,h8⟩:=and2 hd
  obtain ⟨q,hq,hA⟩:=bind_of h
  obtain ⟨ds,hds,hB⟩:=bind_of hA
  obtain ⟨rs,hrs,hr⟩:=bind_of hB
  refine hGq ?_
  clear hGq
  refine ⟨_,_,_,_,_,_,_,rfl,comp2_runs X (compOk_of h2) (beq_eq_false_iff_ne.mp (notT h8)) (notT h6) (notT h7) (hi.ev ce i A env P σ s q E h3 X hq) hds hrs hr fun C=>?_⟩
  intro s₃ P' d rr E' X3 hgo
  refine cps fun Gq hGq=>?_
  obtain ⟨t,ht,hgo⟩:=bind_of hgo
  obtain ⟨k,hk,hgo⟩:=bind_of hgo
  refine hGq ?_
  clear hGq
  show wpAny (model prog w) A (forIn [c] true _) _ E' s₃
  rw [List.forIn_cons]
  refine wpAny_bind (wpAny_bind (wm (hcd.te _ c A _ P' _ s₃ t k E' h1 X3 ht (boolOf_eq hk)) fun b s₄ h₄=>wpAny_pure ?_))
  obtain ⟨rfl,k4⟩:=h₄
  refine wpAny_pure ⟨k4,?_⟩
  cases b with
  | true =>
    refine cps fun Gq hGq=>?_
    obtain ⟨q2,hq2,hgo⟩:=bind_of (o:=aeval Φ it2 _) hgo
    obtain ⟨es,hes,hgo⟩:=bind_of hgo
    refine hGq ?_
    clear hGq
    exact .mk q2 es _ (hi2.ev _ i2 A _ P' _ s₄ q2 E' h4 (X3.keeps k4) hq2) hes hgo (elt_ok he h5)
  | false=>exact (Option.some.inj hgo).symm
omit D H in
theorem ev_fstr_ok {es:List SExpr} (L:LOk prog w p loose mean mg mb lvl Φ es):EvOk prog w p loose mean mg mb lvl Φ (.fstr es):=by
  intro ce e A env P σ s r E hc X h
  obtain ⟨l,⟨q,rfl⟩,hd⟩:=got_of hc
  refine cps fun Gq hGq=>?_
  obtain ⟨h1,h2⟩:=and2 hd
  obtain ⟨rs,hrs,hA⟩:=bind_of h
  obtain ⟨x,hx,hB⟩:=bind_of hA
  refine hGq ?_
  clear hGq
  obtain ⟨hz,rfl⟩:=if_of hB
  cases l with
  | nil=>cases h2
  | cons v1 l =>
    cases l with
    | nil=>cases h2
    | cons v2 rest =>
      refine wpAny_JoinedStr (evJoin L ce (v1 :: v2 :: rest) A env P σ s s rs x Str.empty E _ h1 X hrs hx (by rw [show Str.empty.length = 0 from rfl,Nat.zero_add]; exact hz) (krefl s) fun s' k=>?_)
      rw [Str.empty_append]
      exact ⟨Nat.le_trans hz lim_size,pst_atom (ktrans k (ktoks s' _)) (.str _ _) rfl⟩
omit D H in
theorem ev_fval_ok (ha:EOk prog w p loose mean mg mb lvl Φ a):EvOk prog w p loose mean mg mb lvl Φ (.fval a):=by
  intro ce e A env P σ s r E hc X h
  obtain ⟨x,⟨q,rfl⟩,hd⟩:=got_of hc
  refine cps fun Gq hGq=>?_
  obtain ⟨h1,hd⟩:=and2 hd
  obtain ⟨h2,h3⟩:=and2 hd
  obtain ⟨y,hy,hA⟩:=bind_of h
  refine hGq ?_
  clear hGq
  obtain ⟨t,ht,rfl⟩:=map_of hA
  rw [eq_of_beq h1,isNone_of h2]
  exact wpAny_FormattedValue_plain (wm (ha.ev ce _ A env P σ s y E h3 X hy) fun v s₁ k1=>wp (fmt_ok (P:=P) ht k1.2) k1.1)
end
theorem eok (D:Wd prog w p loose mean mg mb) (H:Hard prog w) (T:Ctr prog w p loose mean mg mb lvl Φ) (se:SExpr):EOk prog w p loose mean mg mb lvl Φ se :=
  SExpr.rec (motive_1:=EOk prog w p loose mean mg mb lvl Φ) (motive_2:=LOk prog w p loose mean mg mb lvl Φ)
    (fun i=>.of rfl (ev_var_ok i)) (.of rfl ev_none_ok) (fun b=>.of rfl (ev_bool_ok b)) (fun i=>.of rfl (ev_int_ok i)) (fun i=>.of rfl (ev_neg_ok i)) (fun x=>.of rfl (ev_str_ok x)) (fun zz L=>.of rfl (ev_list_ok L)) (fun zz L=>.of rfl (ev_tup_ok L)) (.of rfl ev_edict_ok)
    (fun op zz zz a b=>.of rfl (ev_bin_ok op a b)) (fun zz zz a b=>.of rfl (ev_idx_ok a b)) (fun zz zz a b=>.of rfl (ev_sfrom_ok a b)) (fun zz zz a b=>.of rfl (ev_supto_ok a b)) (fun zz a=>.of rfl (ev_sall_ok a)) (fun zz a=>.of rfl (ev_srev_ok a)) (fun op zz zz a b=>.of rfl (ev_cmp_ok op a b)) (fun n zz a=>.of rfl (ev_isN_ok n a)) (fun n zz a=>.of rfl (ev_typeIs_ok D n a))
    (fun zz L=>band_ok L) (fun zz L=>bor_ok L) (fun zz a=>not_ok a) (fun zz zz zz t a b=>ife_ok t a b) (fun f zz L=>.of rfl (ev_call_ok T f L)) (fun zz a=>.of rfl (ev_len_ok D a)) (fun zz a=>.of rfl (ev_sorted_ok D a)) (fun zz a=>.of rfl (ev_sortedSet_ok D H a)) (fun zz a=>.of rfl (ev_all_ok D a)) (fun zz a=>.of rfl (ev_range_ok D a)) (fun zz a=>.of rfl (ev_rangeDown_ok D a)) (fun zz a=>.of rfl (ev_dictOf_ok D H a)) (fun zz a=>.of rfl (ev_items_ok D H a)) (fun zz zz zz a b c=>.of rfl (ev_get_ok a b c))
    (fun zz zz a b=>.of rfl fun zz zz zz zz zz zz zz zz zz hc X h=>(comp_is a b hc X h).ev) (fun zz zz zz zz a b c d=>.of rfl fun zz zz zz zz zz zz zz zz zz hc X h=>(comp2_is a b c d hc X h).ev) (fun zz L=>.of rfl (ev_fstr_ok L)) (fun zz a=>.of rfl (ev_fval_ok a))
    (fun zz h=>nomatch h) (fun zz zz a L x hx=>(List.mem_cons.mp hx).elim (fun e=>e ▸ a) (L x)) se
theorem ev (D:Wd prog w p loose mean mg mb) (H:Hard prog w) (T:Ctr prog w p loose mean mg mb lvl Φ) (se:SExpr):EvOk prog w p loose mean mg mb lvl Φ se:=(eok D H T se).ev
theorem te (D:Wd prog w p loose mean mg mb) (H:Hard prog w) (T:Ctr prog w p loose mean mg mb lvl Φ) (se:SExpr):TeOk prog w p loose mean mg mb lvl Φ se:=(eok D H T se).te
theorem evs (D:Wd prog w p loose mean mg mb) (H:Hard prog w) (T:Ctr prog w p loose mean mg mb lvl Φ) (es:List SExpr) (ce:CE) (l:List Expr) (A:Around) (env:Env) (P:Pd) (σ:Sig) (s:Shared) (rs:List RV) (E:Value → Shared → Prop) (hc:chks es ce l = true) (X:Cx prog w p loose mean mg mb lvl A env ce P σ s) (h:aevals Φ es σ = some rs) :
    l.all (!isStar ·) = true ∧ wpAny (model prog w) A (spliced (l.map fun e=>(false,eval e env))) (fun vs s'=>Keeps s s' ∧ RL prog w s'.heap P vs rs) E s :=
  ⟨chks_ns hc,evsL (fun se zz=>eok D H T se) ce l A env P σ s rs E hc X h⟩
end
end Mine
namespace Mine
open PySem PySem.SeqAt PySem.Calls PyProof.Rows
def Ow (env:Env) (X:Addr → Prop) (σ:Sig) (ad:Nat → Addr) (a:Addr):Prop :=
  X a ∨ a = env.locals ∨ (∃ y,env.cells.lookup y = some a) ∨ ∃ i r,σ[i]? = some (some r) ∧ r.c = false ∧ ad i = a
def Pf (Q0:Addr → Prop) (h0:Heap) (O:Addr → Prop):Pd:=fun f c a=>Q0 a ∧ (f = true → h0.get? a = none) ∧ (c = true → ¬ O a)
inductive OwnR (prog:Program) (w:World) (h:Heap) (P1:Addr → Prop) (a:Addr):PV → Prop
  | list {vs:List Value} {n:Nat} {ds:List PV}:h.get? a = some (lobj vs n) → ds.length ≤ lim → RS prog w h P1 vs ds → OwnR prog w h P1 a (.list ds)
  | dict {kvs:List (Str × Value)} {ks:List Str} {ds:List PV}:h.DictOf (strKind prog w) a kvs → (a == sysModules) = false → kvs.map (·.1) = ks → ks.length ≤ lim → RS prog w h P1 (kvs.map (·.2)) ds → OwnR prog w h P1 a (.dict ks ds)
theorem OwnR.toR {prog:Program} {w:World} {h:Heap} {P1 P2:Addr → Prop} {a:Addr} {d:PV} (hp:∀ b,P1 b → P2 b) (ha:P2 a) (x:OwnR prog w h P1 a d):R prog w h P2 (.ref a) d:=by
  cases x with
  | list e z r=>exact .list ha e z (r.mono hp)
  | dict e q k z r=>exact .dict ha e q k z (r.mono hp)
theorem OwnR.live {prog:Program} {w:World} {h:Heap} {P1:Addr → Prop} {a:Addr} {d:PV} (x:OwnR prog w h P1 a d):∃ o,h.get? a = some o ∧ isData o:=by
  cases x with
  | list e z r=>exact ⟨_,e,isData_l⟩
  | dict e q k z r=>obtain ⟨o,zz,zz,ho,hc,zz⟩:=e; exact ⟨o,ho,.inr (.inr (.inl hc.1))⟩
theorem OwnR.frame {prog:Program} {w:World} {h h':Heap} {P1 P2:Addr → Prop} {a:Addr} {d:PV} (hk:∀ b o,P1 b → isData o → h.get? b = some o → h'.get? b = some o ∧ P2 b) (ha:∀ o,h.get? a = some o → h'.get? a = some o) (x:OwnR prog w h P1 a d):OwnR prog w h' P2 a d:=by
  cases x with
  | list e z r=>exact .list (ha _ e) z (r.frame hk)
  | dict e q k z r=>exact .dict (let ⟨o,es,ep,ho,r⟩:=e; ⟨o,es,ep,ha _ ho,r⟩) q k z (r.frame hk)
def isLC (k:Option NameKind):Bool:=match k with | some .local=>true | some .cell=>true | _=>false
theorem isLC_var {k:Option NameKind} (h:isLC k = true):isVar k = true:=by
  cases k with
  | none=>cases h
  | some k=>cases k <;> first | rfl | cases h
structure Fx (prog:Program) (w:World) (p:Program) (loose:List Str) (mean:ExcName → Option Value) (mg mb:Str → Option Value) (lvl:Nat) (A:Around) (env:Env) (ce:CE) (Q0:Addr → Prop) (s0:Shared):Prop where
  hh:A.handled = none
  hd:A.depth + lvl < recursionLimit
  hu:A.units + 16 * lvl + 64 < cLine
  fn:env.scope.kind = .function
  gl:env.globals = mainGlobals
  bl:env.builtins = builtinsNs
  ki:∀ x,ce.kind x = env.kindOf x
  cells:∀ y,hasCell (env.kindOf y) = true → ∃ c,env.cells.lookup y = some c
  q0:∀ b,s0.heap.get? b = none → Q0 b
  cinj:∀ y z c,env.cells.lookup y = some c → env.cells.lookup z = some c → y = z
  cne:∀ y c,env.cells.lookup y = some c → c ≠ env.locals
  top0:Top p loose mean mg mb s0.heap
structure Sx (prog:Program) (w:World) (env:Env) (ce:CE) (Q0:Addr → Prop) (s0:Shared) (X:Addr → Prop) (ad:Nat → Addr) (σ:Sig) (s:Shared):Prop where
  len:σ.length = ce.names.length
  k0:Keeps s0 s
  ob:∀ b,Ow env X σ ad b → s0.heap.get? b = none
  lv:∀ b,Ow env X σ ad b → ∃ o,s.heap.get? b = some o
  ns:∃ m,s.heap.Ns env.locals m
  cl:∀ y c,env.cells.lookup y = some c → ∃ v,s.heap.IsCell c v
  rd:∀ x i r,ce.idx x = some i → isVar (ce.kind x) = true → σ[i]? = some (some r) → ∃ v,Loads env s.heap x v ∧
    (r.c = true → R prog w s.heap (Pf Q0 s0.heap (Ow env X σ ad) r.f true) v r.d) ∧
    (r.c = false → v = .ref (ad i) ∧ OwnR prog w s.heap (Pf Q0 s0.heap (Ow env X σ ad) r.f true) (ad i) r.d)
  adj:∀ i j r r',σ[i]? = some (some r) → r.c = false → σ[j]? = some (some r') → r'.c = false → ad i = ad j → i = j
  adn:∀ i r,σ[i]? = some (some r) → r.c = false → ad i ≠ env.locals ∧ (∀ y,env.cells.lookup y ≠ some (ad i)) ∧ ¬ X (ad i)
  xn:∀ b,X b → b ≠ env.locals ∧ ∀ y,env.cells.lookup y ≠ some b
theorem sig_all {f:RV → Bool} {σ:Sig} {i:Nat} {r:RV} (h:σ.all (fun q=>q.all f) = true) (e:σ[i]? = some (some r)):f r = true:=List.all_eq_true.mp h _ (List.mem_of_getElem? e)
theorem sig_one {x:RV} {l:Sig} (h:l.all Option.isNone = true) {i:Nat} {r:RV} (e:(some x :: l)[i]? = some (some r)):i = 0 ∧ r = x:=by
  cases i with
  | zero=>exact ⟨rfl,(Option.some.inj (Option.some.inj e)).symm⟩
  | succ i=>cases (List.all_eq_true.mp h _ (List.mem_of_getElem? (l:=l) (i:=i) e))
structure Ext (env:Env) (ce:CE) (X:Addr → Prop) (ad:Nat → Addr) (σ:Sig) (s:Shared) (ad':Nat → Addr) (σ':Sig) (s':Shared):Prop where
  kp:∀ b o,s.heap.get? b = some o → (¬ Ow env X σ ad b ∨ X b) → s'.heap.get? b = some o
  ow:∀ b,Ow env X σ' ad' b → Ow env X σ ad b ∨ s.heap.get? b = none
  lv:∀ b,(∃ o,s.heap.get? b = some o) → ∃ o,s'.heap.get? b = some o
  mv:Moved s s'
  ld:∀ y u,ce.idx y = none → isVar (ce.kind y) = true → Loads env s.heap y u → Loads env s'.heap y u
section
variable {prog:Program} {w:World} {p:Program} {loose:List Str} {mean:ExcName → Option Value} {mg mb:Str → Option Value} {lvl:Nat} {A:Around} {env:Env} {ce:CE} {Q0:Addr → Prop} {s0 s s' s'':Shared} {X:Addr → Prop} {ad ad' ad'':Nat → Addr} {σ σ' σ'':Sig} {E:Value → Shared → Prop}
theorem none_of {h h':Heap} (hk:∀ b o,h.get? b = some o → h'.get? b = some o) {a:Addr} (e:h'.get? a = none):h.get? a = none:=by
  cases q:h.get? a with
  | none=>rfl
  | some o=>rw [hk a o q] at e; cases e
theorem Pf.ok (F:Fx prog w p loose mean mg mb lvl A env ce Q0 s0) (S:Sx prog w env ce Q0 s0 X ad σ s):(Pf Q0 s0.heap (Ow env X σ ad)).Ok s.heap where
  mono:=fun f c f' c' a h1 h2 ⟨q1,q2,q3⟩=>⟨q1,fun h=>q2 (h1 h),fun h=>q3 (h2 h)⟩
  fresh:=fun f c a e=>by
    have e0:=none_of (kheap S.k0) e
    refine ⟨F.q0 a e0,fun zz=>e0,fun zz ho=>?_⟩
    obtain ⟨o,ho⟩:=S.lv a ho
    rw [ho] at e; cases e
theorem Sx.cx (F:Fx prog w p loose mean mg mb lvl A env ce Q0 s0) (S:Sx prog w env ce Q0 s0 X ad σ s):Cx prog w p loose mean mg mb lvl A env ce (Pf Q0 s0.heap (Ow env X σ ad)) σ s where
  hh:=F.hh
  hd:=F.hd
  hu:=F.hu
  fn:=F.fn
  gl:=F.gl
  bl:=F.bl
  ki:=F.ki
  len:=S.len
  cells:=F.cells
  pd:=Pf.ok F S
  top:=F.top0.keeps (kheap S.k0)
  rd:=fun x i r h1 h2 h3=>by
    refine cps fun Gq hGq=>?_
    obtain ⟨v,l,hc,ho⟩:=S.rd x i r h1 h2 h3
    refine hGq ?_
    clear hGq
    refine ⟨v,l,?_⟩
    cases hrc:r.c with
    | true=>exact hc hrc
    | false =>
      obtain ⟨rfl,o⟩:=ho hrc
      refine o.toR (fun b hb=>⟨hb.1,hb.2.1,fun h=>by cases h⟩) ?_
      have e0:=S.ob (ad i) (.inr (.inr (.inr ⟨i,r,h3,hrc,rfl⟩)))
      exact ⟨F.q0 _ e0,fun zz=>e0,fun h=>by cases h⟩
theorem Sx.keeps (S:Sx prog w env ce Q0 s0 X ad σ s) (k:Keeps s s'):Sx prog w env ce Q0 s0 X ad σ s' where
  len:=S.len
  k0:=ktrans S.k0 k
  ob:=S.ob
  lv:=fun b hb=>let ⟨o,ho⟩:=S.lv b hb; ⟨o,kheap k b o ho⟩
  ns:=let ⟨m,hm⟩:=S.ns; ⟨m,hm.keeps (kheap k)⟩
  cl:=fun y c hc=>let ⟨v,hv⟩:=S.cl y c hc; ⟨v,hv.keeps (kheap k)⟩
  rd:=fun x i r h1 h2 h3=>by
    refine cps fun Gq hGq=>?_
    obtain ⟨v,l,hc,ho⟩:=S.rd x i r h1 h2 h3
    refine hGq ?_
    clear hGq
    exact ⟨v,l.keeps (kheap k),fun h=>(hc h).keeps (kheap k),fun h=>⟨(ho h).1,(ho h).2.frame (fun b o p zz e=>⟨kheap k b o e,p⟩) fun o e=>kheap k _ o e⟩⟩
  adj:=S.adj
  adn:=S.adn
  xn:=S.xn
theorem ext_keeps (k:Keeps s s'):Ext env ce X ad σ s ad σ s':=by
  refine ⟨fun b o e zz=>kheap k b o e,fun b h=>.inl h,fun b ⟨o,e⟩=>⟨o,kheap k b o e⟩,?_,fun y u zz zz l=>l.keeps (kheap k)⟩
  obtain ⟨h,t,dr,rfl,zz⟩:=k
  exact ⟨h,t,dr,rfl⟩
theorem ext_refl:Ext env ce X ad σ s ad σ s:=ext_keeps (krefl s)
theorem ext_trans (x:Ext env ce X ad σ s ad' σ' s') (y:Ext env ce X ad' σ' s' ad'' σ'' s''):Ext env ce X ad σ s ad'' σ'' s'':=by
  obtain ⟨x1,x2,x3,⟨h,t,dr,rfl⟩,x5⟩:=x
  obtain ⟨y1,y2,y3,⟨h',t',dr',rfl⟩,y5⟩:=y
  refine ⟨fun b o e hb=>?_,fun b hb=>?_,fun b hb=>y3 b (x3 b hb),⟨h',t',dr',rfl⟩,fun y u h1 h2 l=>y5 y u h1 h2 (x5 y u h1 h2 l)⟩
  · have e1:=x1 b o e hb
    refine y1 b o e1 ?_
    rcases hb with hb | hb
    · refine .inl fun ho=>?_
      rcases x2 b ho with h | h
      · exact hb h
      · rw [h] at e; cases e
    · exact .inr hb
  · rcases y2 b hb with h1 | h1
    · exact x2 b h1
    · refine .inr ?_
      cases q:s.heap.get? b with
      | none=>rfl
      | some o=>obtain ⟨o',e'⟩:=x3 b ⟨o,q⟩; rw [h1] at e'; cases e'
theorem Ext.frame {h0:Heap} {f:Bool} (x:Ext env ce X ad σ s ad' σ' s') (b:Addr) (o:Obj) (hp:Pf Q0 h0 (Ow env X σ ad) f true b) (e:s.heap.get? b = some o):s'.heap.get? b = some o ∧ Pf Q0 h0 (Ow env X σ' ad') f true b:=by
  refine cps fun Gq hGq=>?_
  obtain ⟨x1,x2,zz,zz⟩:=x
  obtain ⟨q1,q2,q3⟩:=hp
  refine hGq ?_
  clear hGq
  refine ⟨x1 b o e (.inl (q3 rfl)),q1,q2,fun zz ho=>?_⟩
  rcases x2 b ho with h | h
  · exact q3 rfl h
  · rw [h] at e; cases e
theorem Ext.R {h0:Heap} {f:Bool} {v:Value} {d:PV} (x:Ext env ce X ad σ s ad' σ' s') (r:R prog w s.heap (Pf Q0 h0 (Ow env X σ ad) f true) v d):R prog w s'.heap (Pf Q0 h0 (Ow env X σ' ad') f true) v d :=
  r.frame fun b o hp zz e=>x.frame b o hp e
theorem ow_set {i:Nat} {r:RV} {b:Addr} (hc:r.c = true) (h:Ow env X (σ.set i (some r)) ad b):Ow env X σ ad b:=by
  rcases h with h | h | h | ⟨j,q,hj,hq,e⟩
  · exact .inl h
  · exact .inr (.inl h)
  · exact .inr (.inr (.inl h))
  · by_cases hij:i = j
    · subst hij
      rw [List.getElem?_set] at hj
      simp only [if_true] at hj
      split at hj
      · cases hj; rw [hc] at hq; cases hq
      · cases hj
    · rw [List.getElem?_set,if_neg hij] at hj
      exact .inr (.inr (.inr ⟨j,q,hj,hq,e⟩))
theorem ns_unique {h:Heap} {L:Addr} {m m2:Str → Option Value} (a:h.Ns L m) (b:h.Ns L m2):m = m2:=by
  refine cps fun Gq hGq=>?_
  obtain ⟨o,es,ep,ho,hd,zz,hm⟩:=a
  obtain ⟨o',es',ep',ho',hd',zz,hm'⟩:=b
  refine hGq ?_
  clear hGq
  rw [ho] at ho'
  cases ho'
  rw [hd] at hd'
  cases hd'
  funext n
  rw [← hm n,hm' n]
theorem loads_store_local {x y:Str} {v u:Value} {h h':Heap} {m:Str → Option Value} (cne:∀ y c,env.cells.lookup y = some c → c ≠ env.locals) (hn:h.Ns env.locals m) (hn':h'.Ns env.locals (fun z=>if z = x then some v else m z)) (hs:Heap.SameBut env.locals h h') (hxy:y ≠ x) (l:Loads env h y u):Loads env h' y u:=by
  rcases l with ⟨k,m2,n2,e⟩ | ⟨k,c,hc,n⟩
  · refine .inl ⟨k,_,hn',?_⟩
    have:m = m2:=ns_unique hn n2
    subst this
    simp [hxy,e]
  · refine .inr ⟨k,c,hc,?_⟩
    obtain ⟨o,ho,r⟩:=n
    exact ⟨o,hs.extBut c o (cne y c hc) ho,r⟩
theorem loads_store_cell {x y:Str} {u:Value} {h h':Heap} {c:Addr} (cne:∀ y c,env.cells.lookup y = some c → c ≠ env.locals) (cinj:∀ y z c,env.cells.lookup y = some c → env.cells.lookup z = some c → y = z) (hc:env.cells.lookup x = some c) (hs:Heap.SameBut c h h') (hxy:y ≠ x) (l:Loads env h y u):Loads env h' y u:=by
  rcases l with ⟨k,m2,n2,e⟩ | ⟨k,c',hc',n⟩
  · exact .inl ⟨k,m2,n2.sameBut hs (fun q=>cne x c hc q.symm),e⟩
  · refine .inr ⟨k,c',hc',?_⟩
    obtain ⟨o,ho,r⟩:=n
    exact ⟨o,hs.extBut c' o (fun q=>hxy (cinj y x c' hc' (q ▸ hc))) ho,r⟩
theorem store_core {x:Str} {v:Value} {Q:Unit → Shared → Prop} (F:Fx prog w p loose mean mg mb lvl A env ce Q0 s0) (S:Sx prog w env ce Q0 s0 X ad σ s) (hx:isLC (ce.kind x) = true)
    (h:∀ h' tk b,(b = env.locals ∨ ∃ y,env.cells.lookup y = some b) → Heap.SameBut b s.heap h' → (∃ m,h'.Ns env.locals m) → (∀ y c,env.cells.lookup y = some c → ∃ v,h'.IsCell c v) → Loads env h' x v → (∀ y u,y ≠ x → Loads env s.heap y u → Loads env h' y u) → Q () { s with heap:=h',toks:=tk }) :
    wpAny (model prog w) A (storeName env x v) Q E s:=by
  rw [F.ki] at hx
  obtain ⟨m,hn⟩:=S.ns
  cases hk:env.kindOf x with
  | none=>rw [hk] at hx; cases hx
  | some k =>
    rw [hk] at hx
    cases k with
    | «local» =>
      refine wpAny_storeName_local hk hn (fun h' hn' hs=>?_) (by rw [F.fn]; rfl)
      refine h h' _ env.locals (.inl rfl) hs ⟨_,hn'⟩ (fun y c hc=>?_) (.inl ⟨hk,_,hn',by simp⟩) fun y u hxy l=>loads_store_local F.cne hn hn' hs hxy l
      refine cps fun Gq hGq=>?_
      obtain ⟨v,o,ho,r⟩:=S.cl y c hc
      refine hGq ?_
      clear hGq
      exact ⟨v,o,hs.extBut c o (F.cne y c hc) ho,r⟩
    | cell =>
      obtain ⟨c,hc⟩:=F.cells x (by rw [hk]; rfl)
      obtain ⟨v₀,hv₀⟩:=S.cl x c hc
      refine wpAny_storeName_cell F.fn hk hc hv₀ fun h' hv' hs=>?_
      refine h h' s.toks c (.inr ⟨x,hc⟩) hs ⟨m,hn.sameBut hs (fun q=>F.cne x c hc q.symm)⟩ (fun y c' hc'=>?_) (.inr ⟨.inl hk,c,hc,hv'⟩) fun y u hxy l=>loads_store_cell F.cne F.cinj hc hs hxy l
      by_cases e:c' = c
      · subst e; exact ⟨_,hv'⟩
      · obtain ⟨v,o,ho,r⟩:=S.cl y c' hc'
        exact ⟨v,o,hs.extBut c' o e ho,r⟩
    | _=>cases hx
theorem set_get {i j:Nat} {nr q:Option RV} (h:(σ.set i nr)[j]? = some q):(j = i ∧ q = nr) ∨ (j ≠ i ∧ σ[j]? = some q):=by
  by_cases hij:i = j
  · subst hij
    rw [List.getElem?_set] at h
    simp only [if_true] at h
    split at h
    · cases h; exact .inl ⟨rfl,rfl⟩
    · cases h
  · rw [List.getElem?_set,if_neg hij] at h
    exact .inr ⟨fun e=>hij e.symm,h⟩
theorem store_ok {x:Str} {i:Nat} {v:Value} {r:RV} {s₁:Shared} {Q:Unit → Shared → Prop} (F:Fx prog w p loose mean mg mb lvl A env ce Q0 s0) (S:Sx prog w env ce Q0 s0 X ad σ s) (k:Keeps s s₁) (hix:ce.idx x = some i) (hi:∀ y,ce.idx y = some i → y = x) (hx:isLC (ce.kind x) = true)
    (had:∀ j,j ≠ i → ad' j = ad j)
    (h1:r.c = true → R prog w s₁.heap (Pf Q0 s0.heap (Ow env X σ ad) r.f true) v r.d)
    (h0:r.c = false → v = .ref (ad' i) ∧ s.heap.get? (ad' i) = none ∧ OwnR prog w s₁.heap (Pf Q0 s0.heap (fun a=>Ow env X σ ad a ∨ a = ad' i) r.f true) (ad' i) r.d)
    (h:∀ s',Sx prog w env ce Q0 s0 X ad' (σ.set i (some r)) s' → Ext env ce X ad σ s ad' (σ.set i (some r)) s' → Q () s'):wpAny (model prog w) A (storeName env x v) Q E s₁:=by
  have S1:=S.keeps k
  refine store_core F S1 hx fun h' tk b hb hs hns hcl hl hls=>?_
  have hbo:Ow env X σ ad b:=hb.elim (fun e=>.inr (.inl e)) fun e=>.inr (.inr (.inl e))
  have hbX:¬ X b:=fun q=>by
    obtain ⟨q1,q2⟩:=S.xn b q
    rcases hb with e | ⟨y,hy⟩
    · exact q1 e
    · exact q2 y hy
  have new:∀ a,Ow env X (σ.set i (some r)) ad' a → Ow env X σ ad a ∨ (r.c = false ∧ a = ad' i):=by
    intro a ha
    rcases ha with ha | ha | ha | ⟨j,q,hj,hq,e⟩
    · exact .inl (.inl ha)
    · exact .inl (.inr (.inl ha))
    · exact .inl (.inr (.inr (.inl ha)))
    · rcases set_get hj with ⟨rfl,e2⟩ | ⟨hji,hj'⟩
      · cases e2; exact .inr ⟨hq,e.symm⟩
      · rw [had j hji] at e
        exact .inl (.inr (.inr (.inr ⟨j,q,hj',hq,e⟩)))
  have fr:r.c = false → s.heap.get? (ad' i) = none ∧ s0.heap.get? (ad' i) = none ∧ (∃ o,s₁.heap.get? (ad' i) = some o) ∧ ¬ Ow env X σ ad (ad' i):=fun hc=>by
    refine cps fun Gq hGq=>?_
    obtain ⟨zz,e,o⟩:=h0 hc
    obtain ⟨ob,e2,zz⟩:=o.live
    refine hGq ?_
    clear hGq
    refine ⟨e,none_of (kheap S.k0) e,⟨ob,e2⟩,fun q=>?_⟩
    obtain ⟨o2,q2⟩:=S.lv _ q
    rw [e] at q2; cases q2
  have live:∀ a,(∃ o,s₁.heap.get? a = some o) → ∃ o,h'.get? a = some o:=fun a ⟨o,e⟩=>by
    by_cases hab:a = b
    · subst hab
      rcases hb with e1 | ⟨y,hy⟩
      · obtain ⟨m,o,zz,zz,ho,zz⟩:=hns; exact ⟨o,e1 ▸ ho⟩
      · obtain ⟨v,o,ho,zz⟩:=hcl y a hy; exact ⟨o,ho⟩
    · exact ⟨o,hs.extBut a o hab e⟩
  have up:∀ f a o,Pf Q0 s0.heap (Ow env X σ ad) f true a → s.heap.get? a = some o → h'.get? a = some o ∧ Pf Q0 s0.heap (Ow env X (σ.set i (some r)) ad') f true a:=fun f a o hp e =>
    ⟨hs.extBut a o (fun q=>hp.2.2 rfl (q ▸ hbo)) (kheap k a o e),hp.1,hp.2.1,fun hh ho=>by
      rcases new a ho with q | ⟨hc,q⟩
      · exact hp.2.2 hh q
      · rw [q,(fr hc).1] at e; cases e⟩
  refine h _ ⟨by rw [List.length_set]; exact S.len,?_,fun a ha=>?_,fun a ha=>?_,hns,hcl,?_,?_,?_,S.xn⟩ ⟨?_,?_,?_,?_,?_⟩
  · have k0:=kheap S1.k0
    refine cps fun Gq hGq=>?_
    obtain ⟨h2,t2,dr2,e2,zz⟩:=S1.k0
    refine hGq ?_
    clear hGq
    refine ⟨h',tk,dr2,by rw [e2],fun a o e=>hs.extBut a o (fun q=>?_) (k0 a o e)⟩
    rw [q,S.ob b hbo] at e; cases e
  · rcases new a ha with q | ⟨hc,q⟩
    · exact S.ob a q
    · rw [q]; exact (fr hc).2.1
  · rcases new a ha with q | ⟨hc,q⟩
    · exact live a (S1.lv a q)
    · rw [q]; exact live _ (fr hc).2.2.1
  · intro y j q e1 e2 e3
    rcases set_get e3 with ⟨rfl,e4⟩ | ⟨hji,e4⟩
    · cases e4
      have hyx:y = x:=hi y e1
      subst hyx
      refine ⟨v,hl,fun hc=>?_,fun hc=>?_⟩
      · refine (h1 hc).frame fun a o hp zz e=>⟨hs.extBut a o (fun q=>hp.2.2 rfl (q ▸ hbo)) e,hp.1,hp.2.1,fun hh ho=>?_⟩
        rcases new a ho with q | ⟨hc',zz⟩
        · exact hp.2.2 hh q
        · rw [hc] at hc'; cases hc'
      · obtain ⟨e5,e6,o6⟩:=h0 hc
        refine ⟨e5,o6.frame (fun a o hp zz e=>⟨hs.extBut a o (fun q=>hp.2.2 rfl (.inl (q ▸ hbo))) e,hp.1,hp.2.1,fun hh ho=>?_⟩) fun o e=>hs.extBut _ o (fun q=>(fr hc).2.2.2 (q ▸ hbo)) e⟩
        rcases new a ho with q | ⟨zz,q⟩
        · exact hp.2.2 hh (.inl q)
        · exact hp.2.2 hh (.inr q)
    · obtain ⟨u,l,c1,c2⟩:=S.rd y j q e1 e2 e4
      have hyx:y ≠ x:=fun e=>by
        subst e
        rw [hix] at e1
        exact hji (Option.some.inj e1).symm
      refine ⟨u,hls y u hyx (l.keeps (kheap k)),fun hc=>(c1 hc).frame fun a o hp zz e=>up _ a o hp e,fun hc=>?_⟩
      obtain ⟨e5,o5⟩:=c2 hc
      rw [had j hji]
      refine ⟨e5,o5.frame (fun a o hp zz e=>up _ a o hp e) fun o e=>hs.extBut _ o (fun qq=>?_) (kheap k _ o e)⟩
      obtain ⟨n1,n2,n3⟩:=S.adn j q e4 hc
      rcases hb with e | ⟨y,hy⟩
      · exact n1 (qq.trans e)
      · exact n2 y (by rw [hy,qq])
  · intro j j' q q' e1 c1 e2 c2 e
    rcases set_get e1 with ⟨rfl,e3⟩ | ⟨hj,e3⟩
    · rcases set_get e2 with ⟨rfl,e4⟩ | ⟨hj',e4⟩
      · rfl
      · cases e3
        rw [had j' hj'] at e
        exact absurd (.inr (.inr (.inr ⟨j',q',e4,c2,e.symm⟩))) (fr c1).2.2.2
    · rcases set_get e2 with ⟨rfl,e4⟩ | ⟨hj',e4⟩
      · cases e4
        rw [had j hj] at e
        exact absurd (.inr (.inr (.inr ⟨j,q,e3,c1,e⟩))) (fr c2).2.2.2
      · rw [had j hj,had j' hj'] at e
        exact S.adj j j' q q' e3 c1 e4 c2 e
  · intro j q e1 c1
    rcases set_get e1 with ⟨rfl,e3⟩ | ⟨hj,e3⟩
    · cases e3
      have:=(fr c1).2.2.2
      exact ⟨fun e=>this (.inr (.inl e)),fun y hy=>this (.inr (.inr (.inl ⟨y,hy⟩))),fun hX=>this (.inl hX)⟩
    · rw [had j hj]
      exact S.adn j q e3 c1
  · intro a o e ha
    refine hs.extBut a o (fun q=>?_) (kheap k a o e)
    rcases ha with ha | ha
    · exact ha (q ▸ hbo)
    · exact hbX (q ▸ ha)
  · intro a ha
    rcases new a ha with q | ⟨hc,q⟩
    · exact .inl q
    · rw [q]; exact .inr (fr hc).1
  · intro a ⟨o,e⟩
    exact live a ⟨o,kheap k a o e⟩
  · obtain ⟨h2,t2,dr2,rfl,zz⟩:=k
    exact ⟨h',tk,dr2,rfl⟩
  · exact fun y u h1 zz l=>hls y u (fun e=>by rw [e,hix] at h1; cases h1) (l.keeps (kheap k))
theorem mutate_ok {i:Nat} {r nr:RV} {h':Heap} {tk:Nat} {x:Str} (S:Sx prog w env ce Q0 s0 X ad σ s) (hix:ce.idx x = some i) (hi:∀ y,ce.idx y = some i → y = x) (hx:isLC (ce.kind x) = true) (hr:σ[i]? = some (some r)) (hc:r.c = false) (hn:nr.c = false) (hs:Heap.SameBut (ad i) s.heap h')
    (ho:OwnR prog w h' (Pf Q0 s0.heap (Ow env X σ ad) nr.f true) (ad i) nr.d) :
    Sx prog w env ce Q0 s0 X ad (σ.set i (some nr)) { s with heap:=h',toks:=tk } ∧ Ext env ce X ad σ s ad (σ.set i (some nr)) { s with heap:=h',toks:=tk }:=by
  have hb:Ow env X σ ad (ad i):=.inr (.inr (.inr ⟨i,r,hr,hc,rfl⟩))
  obtain ⟨n1,n2,n3⟩:=S.adn i r hr hc
  have hlt:i < σ.length:=by
    rcases Nat.lt_or_ge i σ.length with h | h
    · exact h
    · rw [List.getElem?_eq_none h] at hr; cases hr
  have ow:∀ a,Ow env X (σ.set i (some nr)) ad a → Ow env X σ ad a:=by
    intro a ha
    rcases ha with ha | ha | ha | ⟨j,q,hj,hq,e⟩
    · exact .inl ha
    · exact .inr (.inl ha)
    · exact .inr (.inr (.inl ha))
    · rcases set_get hj with ⟨rfl,e2⟩ | ⟨hji,hj'⟩
      · rw [← e]; exact hb
      · exact .inr (.inr (.inr ⟨j,q,hj',hq,e⟩))
  obtain ⟨oo,hoo,zz⟩:=ho.live
  have live:∀ a,(∃ o,s.heap.get? a = some o) → ∃ o,h'.get? a = some o:=fun a ⟨o,e⟩=>by
    by_cases hab:a = ad i
    · subst hab; exact ⟨oo,hoo⟩
    · exact ⟨o,hs.extBut a o hab e⟩
  have up:∀ f a o,Pf Q0 s0.heap (Ow env X σ ad) f true a → s.heap.get? a = some o → h'.get? a = some o ∧ Pf Q0 s0.heap (Ow env X (σ.set i (some nr)) ad) f true a:=fun f a o hp e =>
    ⟨hs.extBut a o (fun q=>hp.2.2 rfl (q ▸ hb)) e,hp.1,hp.2.1,fun hh ho=>hp.2.2 hh (ow a ho)⟩
  refine ⟨⟨by rw [List.length_set]; exact S.len,?_,fun a ha=>S.ob a (ow a ha),fun a ha=>live a (S.lv a (ow a ha)),?_,?_,?_,?_,?_,S.xn⟩,⟨?_,?_,fun a ha=>live a ha,⟨h',tk,s.drawn,rfl⟩,?_⟩⟩
  · have k0:=kheap S.k0
    refine cps fun Gq hGq=>?_
    obtain ⟨h2,t2,dr2,e2,zz⟩:=S.k0
    refine hGq ?_
    clear hGq
    refine ⟨h',tk,dr2,by rw [e2],fun a o e=>hs.extBut a o (fun q=>?_) (k0 a o e)⟩
    rw [q,S.ob _ hb] at e; cases e
  · obtain ⟨m,hm⟩:=S.ns
    exact ⟨m,hm.sameBut hs (fun e=>n1 e.symm)⟩
  · intro y c hcc
    refine cps fun Gq hGq=>?_
    obtain ⟨v,o,ho,r⟩:=S.cl y c hcc
    refine hGq ?_
    clear hGq
    exact ⟨v,o,hs.extBut c o (fun e=>n2 y (e ▸ hcc)) ho,r⟩
  · intro y j q e1 e2 e3
    have ldk:∀ u,Loads env s.heap y u → Loads env h' y u:=by
      intro u l
      rcases l with ⟨k,m2,nn,e⟩ | ⟨k,c',hc',n⟩
      · exact .inl ⟨k,m2,nn.sameBut hs (fun e=>n1 e.symm),e⟩
      · refine .inr ⟨k,c',hc',?_⟩
        obtain ⟨o,ho,r⟩:=n
        exact ⟨o,hs.extBut c' o (fun e=>n2 y (e ▸ hc')) ho,r⟩
    rcases set_get e3 with ⟨rfl,e4⟩ | ⟨hji,e4⟩
    · cases e4
      refine cps fun Gq hGq=>?_
      obtain ⟨u,l,zz,c2⟩:=S.rd y j r e1 e2 hr
      refine hGq ?_
      clear hGq
      obtain ⟨rfl,zz⟩:=c2 hc
      refine ⟨_,ldk _ l,fun h=>(by rw [hn] at h; cases h),fun zz=>⟨rfl,ho.frame (fun a o hp zz e=>⟨e,hp.1,hp.2.1,fun hh ho=>hp.2.2 hh (ow a ho)⟩) fun o e=>e⟩⟩
    · obtain ⟨u,l,c1,c2⟩:=S.rd y j q e1 e2 e4
      refine ⟨u,ldk u l,fun h=>(c1 h).frame fun a o hp zz e=>up _ a o hp e,fun h=>⟨(c2 h).1,(c2 h).2.frame (fun a o hp zz e=>up _ a o hp e) fun o e=>hs.extBut _ o (fun qq=>hji (S.adj j i q r e4 h hr hc qq)) e⟩⟩
  · intro j j' q q' e1 c1 e2 c2 e
    rcases set_get e1 with ⟨rfl,e3⟩ | ⟨hj,e3⟩
    · rcases set_get e2 with ⟨rfl,e4⟩ | ⟨hj',e4⟩
      · rfl
      · exact S.adj j j' r q' hr hc e4 c2 e
    · rcases set_get e2 with ⟨rfl,e4⟩ | ⟨hj',e4⟩
      · exact S.adj j j' q r e3 c1 hr hc e
      · exact S.adj j j' q q' e3 c1 e4 c2 e
  · intro j q e1 c1
    rcases set_get e1 with ⟨rfl,e3⟩ | ⟨hj,e3⟩
    · exact ⟨n1,n2,n3⟩
    · exact S.adn j q e3 c1
  · intro a o e ha
    refine hs.extBut a o (fun q=>?_) e
    rcases ha with ha | ha
    · exact ha (q ▸ hb)
    · exact n3 (q ▸ ha)
  · exact fun a ha=>.inl (ow a ha)
  · intro y u zz zz l
    rcases l with ⟨k,m2,nn,e⟩ | ⟨k,c',hc',n⟩
    · exact .inl ⟨k,m2,nn.sameBut hs (fun e=>n1 e.symm),e⟩
    · refine .inr ⟨k,c',hc',?_⟩
      obtain ⟨o,ho,r⟩:=n
      exact ⟨o,hs.extBut c' o (fun e=>n2 y (e ▸ hc')) ho,r⟩
theorem ow_X {X X':Addr → Prop} {b:Addr} (h:Ow env X σ ad b) (hX:∀ a,X a → X' a):Ow env X' σ ad b:=h.imp (hX b) id
theorem Sx.addX {C:Addr} (S:Sx prog w env ce Q0 s0 X ad σ s) (k:Keeps s s') (hC:s.heap.get? C = none) (hC':∃ o,s'.heap.get? C = some o):Sx prog w env ce Q0 s0 (fun a=>X a ∨ a = C) ad σ s':=by
  have S1:=S.keeps k
  have ow:∀ b,Ow env (fun a=>X a ∨ a = C) σ ad b → Ow env X σ ad b ∨ b = C:=by
    intro b hb
    rcases hb with (hb | hb) | hb
    · exact .inl (.inl hb)
    · exact .inr hb
    · exact .inl (.inr hb)
  have up:∀ f a o,Pf Q0 s0.heap (Ow env X σ ad) f true a → s.heap.get? a = some o → s'.heap.get? a = some o ∧ Pf Q0 s0.heap (Ow env (fun a=>X a ∨ a = C) σ ad) f true a:=fun f a o hp e =>
    ⟨kheap k a o e,hp.1,hp.2.1,fun hh ho=>by
      rcases ow a ho with q | q
      · exact hp.2.2 hh q
      · rw [q,hC] at e; cases e⟩
  have lo:∀ b,Ow env X σ ad b → b ≠ C:=fun b hb e=>by
    obtain ⟨o,ho⟩:=S.lv b hb
    rw [e,hC] at ho; cases ho
  refine ⟨S.len,S1.k0,fun b hb=>?_,fun b hb=>?_,S1.ns,S1.cl,?_,S.adj,fun i r h1 h2=>?_,?_⟩
  · rcases ow b hb with q | q
    · exact S.ob b q
    · rw [q]; exact none_of (kheap S.k0) hC
  · rcases ow b hb with q | q
    · exact S1.lv b q
    · rw [q]; exact hC'
  · intro x i r h1 h2 h3
    refine cps fun Gq hGq=>?_
    obtain ⟨v,l,c1,c2⟩:=S.rd x i r h1 h2 h3
    refine hGq ?_
    clear hGq
    exact ⟨v,l.keeps (kheap k),fun h=>(c1 h).frame fun a o hp zz e=>up _ a o hp e,fun h=>⟨(c2 h).1,(c2 h).2.frame (fun a o hp zz e=>up _ a o hp e) fun o e=>kheap k _ o e⟩⟩
  · obtain ⟨n1,n2,n3⟩:=S.adn i r h1 h2
    refine ⟨n1,n2,fun q=>q.elim n3 fun q=>lo (ad i) (.inr (.inr (.inr ⟨i,r,h1,h2,rfl⟩))) q⟩
  · intro b hb
    rcases hb with hb | hb
    · exact S.xn b hb
    · subst hb
      exact ⟨fun e=>lo b (.inr (.inl e)) rfl,fun y hy=>lo b (.inr (.inr (.inl ⟨y,hy⟩))) rfl⟩
theorem Sx.dropX {X':Addr → Prop} (S:Sx prog w env ce Q0 s0 X' ad σ s) (hX:∀ a,X a → X' a):Sx prog w env ce Q0 s0 X ad σ s:=by
  have up:∀ f a,Pf Q0 s0.heap (Ow env X' σ ad) f true a → Pf Q0 s0.heap (Ow env X σ ad) f true a:=fun f a hp=>⟨hp.1,hp.2.1,fun hh ho=>hp.2.2 hh (ow_X ho hX)⟩
  refine ⟨S.len,S.k0,fun b hb=>S.ob b (ow_X hb hX),fun b hb=>S.lv b (ow_X hb hX),S.ns,S.cl,?_,S.adj,fun i r h1 h2=>?_,fun b hb=>S.xn b (hX b hb)⟩
  · intro x i r h1 h2 h3
    refine cps fun Gq hGq=>?_
    obtain ⟨v,l,c1,c2⟩:=S.rd x i r h1 h2 h3
    refine hGq ?_
    clear hGq
    exact ⟨v,l,fun h=>(c1 h).mono (up _),fun h=>⟨(c2 h).1,(c2 h).2.frame (fun a o hp zz e=>⟨e,up _ a hp⟩) fun o e=>e⟩⟩
  · obtain ⟨n1,n2,n3⟩:=S.adn i r h1 h2
    exact ⟨n1,n2,fun q=>n3 (hX _ q)⟩
theorem Sx.offX {C:Addr} {h':Heap} (S:Sx prog w env ce Q0 s0 (fun a=>X a ∨ a = C) ad σ s) (hC:¬ Ow env X σ ad C) (hs:Heap.SameBut C s.heap h'):Sx prog w env ce Q0 s0 X ad σ { s with heap:=h' }:=by
  have hb:Ow env (fun a=>X a ∨ a = C) σ ad C:=.inl (.inr rfl)
  obtain ⟨x1,x2⟩:=S.xn C (.inr rfl)
  have T:=S.dropX (X:=X) fun a h=>.inl h
  have up:∀ f a o,Pf Q0 s0.heap (Ow env (fun a=>X a ∨ a = C) σ ad) f true a → s.heap.get? a = some o → h'.get? a = some o ∧ Pf Q0 s0.heap (Ow env X σ ad) f true a:=fun f a o hp e=>⟨hs.extBut a o (fun q=>hp.2.2 rfl (q ▸ hb)) e,hp.1,hp.2.1,fun hh ho=>hp.2.2 hh (ow_X ho fun zz h=>.inl h)⟩
  refine ⟨S.len,?_,T.ob,fun b hb=>?_,?_,?_,?_,S.adj,T.adn,T.xn⟩
  · have k0:=kheap S.k0
    refine cps fun Gq hGq=>?_
    obtain ⟨h2,t2,dr2,e2,zz⟩:=S.k0
    refine hGq ?_
    clear hGq
    refine ⟨h',s.toks,dr2,by rw [e2],fun a o e=>hs.extBut a o (fun q=>?_) (k0 a o e)⟩
    rw [q,S.ob _ hb] at e; cases e
  · obtain ⟨o,ho⟩:=T.lv b hb
    exact ⟨o,hs.extBut b o (fun q=>hC (q ▸ hb)) ho⟩
  · obtain ⟨m,hm⟩:=S.ns
    exact ⟨m,hm.sameBut hs (fun e=>x1 e.symm)⟩
  · intro y c hcc
    refine cps fun Gq hGq=>?_
    obtain ⟨v,o,ho,r⟩:=S.cl y c hcc
    refine hGq ?_
    clear hGq
    exact ⟨v,o,hs.extBut c o (fun e=>x2 y (e ▸ hcc)) ho,r⟩
  · intro y j q e1 e2 e3
    have ldk:∀ u,Loads env s.heap y u → Loads env h' y u:=by
      intro u l
      rcases l with ⟨k,m2,nn,e⟩ | ⟨k,c',hc',n⟩
      · exact .inl ⟨k,m2,nn.sameBut hs (fun e=>x1 e.symm),e⟩
      · refine .inr ⟨k,c',hc',?_⟩
        obtain ⟨o,ho,r⟩:=n
        exact ⟨o,hs.extBut c' o (fun e=>x2 y (e ▸ hc')) ho,r⟩
    refine cps fun Gq hGq=>?_
    obtain ⟨u,l,c1,c2⟩:=S.rd y j q e1 e2 e3
    refine hGq ?_
    clear hGq
    refine ⟨u,ldk u l,fun h=>(c1 h).frame fun a o hp zz e=>up _ a o hp e,fun h=>⟨(c2 h).1,(c2 h).2.frame (fun a o hp zz e=>up _ a o hp e) fun o e=>hs.extBut _ o (fun qq=>(S.adn j q e3 h).2.2 (.inr qq)) e⟩⟩
theorem Sx.iterI {I:Addr} {h':Heap} {tk:Nat} (S:Sx prog w env ce Q0 s0 X ad σ s) (hI:¬ Ow env X σ ad I) (hI0:s0.heap.get? I = none) (hd:∀ o,s.heap.get? I = some o → ¬ isData o) (hk:∀ b o,b ≠ I → s.heap.get? b = some o → h'.get? b = some o) :
    Sx prog w env ce Q0 s0 X ad σ { s with heap:=h',toks:=tk }:=by
  have up:∀ f a o,Pf Q0 s0.heap (Ow env X σ ad) f true a → isData o → s.heap.get? a = some o → h'.get? a = some o ∧ Pf Q0 s0.heap (Ow env X σ ad) f true a:=fun f a o hp dd e=>⟨hk a o (fun q=>hd o (q ▸ e) dd) e,hp⟩
  refine ⟨S.len,?_,S.ob,fun b hb=>?_,?_,?_,?_,S.adj,S.adn,S.xn⟩
  · have k0:=kheap S.k0
    refine cps fun Gq hGq=>?_
    obtain ⟨h2,t2,dr2,e2,zz⟩:=S.k0
    refine hGq ?_
    clear hGq
    refine ⟨h',tk,dr2,by rw [e2],fun a o e=>hk a o (fun q=>?_) (k0 a o e)⟩
    rw [q,hI0] at e; cases e
  · obtain ⟨o,ho⟩:=S.lv b hb
    exact ⟨o,hk b o (fun q=>hI (q ▸ hb)) ho⟩
  · obtain ⟨m,hm⟩:=S.ns
    exact ⟨m,hm.at' fun o e=>hk _ o (fun q=>hI (q ▸ .inr (.inl rfl))) e⟩
  · intro y c hcc
    refine cps fun Gq hGq=>?_
    obtain ⟨v,o,ho,r⟩:=S.cl y c hcc
    refine hGq ?_
    clear hGq
    exact ⟨v,o,hk c o (fun q=>hI (q ▸ .inr (.inr (.inl ⟨y,hcc⟩)))) ho,r⟩
  · intro y j q e1 e2 e3
    have ldk:∀ u,Loads env s.heap y u → Loads env h' y u:=by
      intro u l
      rcases l with ⟨k,m2,nn,e⟩ | ⟨k,c',hc',n⟩
      · exact .inl ⟨k,m2,nn.at' fun o e=>hk _ o (fun q=>hI (q ▸ .inr (.inl rfl))) e,e⟩
      · refine .inr ⟨k,c',hc',?_⟩
        obtain ⟨o,ho,r⟩:=n
        exact ⟨o,hk c' o (fun q=>hI (q ▸ .inr (.inr (.inl ⟨y,hc'⟩)))) ho,r⟩
    refine cps fun Gq hGq=>?_
    obtain ⟨u,l,c1,c2⟩:=S.rd y j q e1 e2 e3
    refine hGq ?_
    clear hGq
    refine ⟨u,ldk u l,fun h=>(c1 h).frame fun a o hp dd e=>up _ a o hp dd e,fun h=>⟨(c2 h).1,(c2 h).2.frame (fun a o hp dd e=>up _ a o hp dd e) fun o e=>hk _ o (fun qq=>hI (qq ▸ .inr (.inr (.inr ⟨j,q,e3,h,rfl⟩)))) e⟩⟩
theorem Sx.rel {i:Nat} {d:PV} {f:Bool} (q0:∀ b,s0.heap.get? b = none → Q0 b) (S:Sx prog w env ce Q0 s0 X ad σ s) (hr:σ[i]? = some (some ⟨d,f,false⟩)):Sx prog w env ce Q0 s0 X ad (σ.set i (some ⟨d,f,true⟩)) s ∧ Ext env ce X ad σ s ad (σ.set i (some ⟨d,f,true⟩)) s:=by
  have ow:∀ b,Ow env X (σ.set i (some ⟨d,f,true⟩)) ad b → Ow env X σ ad b:=fun b hb=>ow_set rfl hb
  have hown:Ow env X σ ad (ad i):=.inr (.inr (.inr ⟨i,_,hr,rfl,rfl⟩))
  obtain ⟨n1,n2,n3⟩:=S.adn i _ hr rfl
  have nown:¬ Ow env X (σ.set i (some ⟨d,f,true⟩)) ad (ad i):=by
    intro hb
    rcases hb with h | h | ⟨y,h⟩ | ⟨j,q,hj,hq,e⟩
    · exact n3 h
    · exact n1 h
    · exact n2 y h
    · rcases set_get hj with ⟨rfl,e2⟩ | ⟨hji,hj'⟩
      · cases e2; cases hq
      · exact hji (S.adj j i q _ hj' hq hr rfl e)
  have up2:∀ f' a,Pf Q0 s0.heap (Ow env X σ ad) f' true a → Pf Q0 s0.heap (Ow env X (σ.set i (some ⟨d,f,true⟩)) ad) f' true a:=fun f' a hp=>⟨hp.1,hp.2.1,fun hh ho=>hp.2.2 hh (ow a ho)⟩
  refine ⟨⟨by rw [List.length_set]; exact S.len,S.k0,fun b hb=>S.ob b (ow b hb),fun b hb=>S.lv b (ow b hb),S.ns,S.cl,?_,?_,?_,S.xn⟩,⟨fun b o e zz=>e,fun b hb=>.inl (ow b hb),fun b hb=>hb,⟨s.heap,s.toks,s.drawn,rfl⟩,fun zz zz zz zz l=>l⟩⟩
  · intro y j q e1 e2 e3
    rcases set_get e3 with ⟨rfl,e4⟩ | ⟨hji,e4⟩
    · cases e4
      refine cps fun Gq hGq=>?_
      obtain ⟨u,l,zz,c2⟩:=S.rd y j _ e1 e2 hr
      refine hGq ?_
      clear hGq
      obtain ⟨rfl,o⟩:=c2 rfl
      refine ⟨_,l,fun zz=>?_,fun h=>by cases h⟩
      have e0:=S.ob _ hown
      exact o.toR (fun b hb=>up2 f b hb) ⟨q0 _ e0,fun zz=>e0,fun zz=>nown⟩
    · obtain ⟨u,l,c1,c2⟩:=S.rd y j q e1 e2 e4
      exact ⟨u,l,fun h=>(c1 h).mono (up2 _),fun h=>⟨(c2 h).1,(c2 h).2.frame (fun a o hp zz e=>⟨e,up2 _ a hp⟩) fun o e=>e⟩⟩
  · intro j j' q q' e1 c1 e2 c2 e
    rcases set_get e1 with ⟨rfl,e3⟩ | ⟨hj,e3⟩
    · cases e3; cases c1
    · rcases set_get e2 with ⟨rfl,e4⟩ | ⟨hj',e4⟩
      · cases e4; cases c2
      · exact S.adj j j' q q' e3 c1 e4 c2 e
  · intro j q e1 c1
    rcases set_get e1 with ⟨rfl,e3⟩ | ⟨hj,e3⟩
    · cases e3; cases c1
    · exact S.adn j q e3 c1
end
end Mine
namespace Mine
open PySem PySem.SeqAt PySem.Calls PyProof.Rows
noncomputable def isNoComp:Expr → Bool
  | .ListComp ..=>false
  | .SetComp ..=>false
  | .DictComp ..=>false
  | _=>true
noncomputable def isTupE:Expr → Bool
  | .Tuple ..=>true
  | _=>false
noncomputable def dLCP (e:Expr):Option {x:Expr × List Comprehension × Scope × Pos // e = .ListComp x.1 x.2.1 x.2.2.1 x.2.2.2}:=if h:e.ctorIdx = 8 then Expr.ListComp.elim e h fun a b c d=>some ⟨(a,b,c,d),rfl⟩ else Option.none
noncomputable def swB (ce:CE) (v:Expr) (t:Str) (tp:Pos):Bool:=got (dLCP v) fun x=>ce.kind t == some .local && (tp.line == x.2.2.2.line && !(x.2.2.1.names.any fun (n,k)=>n == t && (k == .local || k == .cell)))
noncomputable def tgt (ce:CE) (x:Str) (i:Nat):Bool:=ce.idx x == some i && (isLC (ce.kind x) && (!(x == ("__debug__":Str)) && !(x == ("__classdict__":Str))))
noncomputable def dAssign (e:Stmt):Option {x:Expr × Expr // ∃ p,e = .Assign [x.1] x.2 p}:=if h:e.ctorIdx = 5 then Stmt.Assign.elim e h fun ts v p=>match ts with
  | [t]=>some ⟨(t,v),p,rfl⟩
  | zz=>Option.none
  else Option.none
noncomputable def dExprS (e:Stmt):Option {x:Expr // ∃ p,e = .Expr x p}:=if h:e.ctorIdx = 24 then Stmt.Expr.elim e h fun v p=>some ⟨v,p,rfl⟩ else Option.none
noncomputable def dDel (e:Stmt):Option {x:Expr // ∃ p,e = .Delete [x] p}:=if h:e.ctorIdx = 4 then Stmt.Delete.elim e h fun ts p=>match ts with
  | [t]=>some ⟨t,p,rfl⟩
  | zz=>Option.none
  else Option.none
noncomputable def dIfS (e:Stmt):Option {x:Expr × List Stmt × List Stmt // ∃ p,e = .If x.1 x.2.1 x.2.2 p}:=if h:e.ctorIdx = 12 then Stmt.If.elim e h fun c a b p=>some ⟨(c,a,b),p,rfl⟩ else Option.none
noncomputable def dFor (e:Stmt):Option {x:Expr × Expr × List Stmt // ∃ p,e = .For x.1 x.2.1 x.2.2 [] p}:=if h:e.ctorIdx = 9 then Stmt.For.elim e h fun t i b l p=>match l with
  | []=>some ⟨(t,i,b),p,rfl⟩
  | zz=>Option.none
  else Option.none
noncomputable def dWhile (e:Stmt):Option {x:Expr × List Stmt // ∃ p,e = .While x.1 x.2 [] p}:=if h:e.ctorIdx = 11 then Stmt.While.elim e h fun c b l p=>match l with
  | []=>some ⟨(c,b),p,rfl⟩
  | zz=>Option.none
  else Option.none
noncomputable def dRet (e:Stmt):Option {x:Expr // ∃ p,e = .Return (some x) p}:=if h:e.ctorIdx = 3 then Stmt.Return.elim e h fun o p=>match o with
  | some v=>some ⟨v,p,rfl⟩
  | none=>Option.none
  else Option.none
noncomputable def dBrk (e:Stmt):Option {x:Unit // ∃ p,e = .Break p}:=if h:e.ctorIdx = 26 then Stmt.Break.elim e h fun p=>some ⟨(),p,rfl⟩ else Option.none
noncomputable def dRaise (e:Stmt):Option {x:Expr // ∃ p,e = .Raise (some x) none p}:=if h:e.ctorIdx = 16 then Stmt.Raise.elim e h fun o c p=>match o,c with
  | some v,none=>some ⟨v,p,rfl⟩
  | zz,zy=>Option.none
  else Option.none
noncomputable def dNameP (e:Expr):Option {x:Str × Pos // e = .Name x.1 x.2}:=if h:e.ctorIdx = 23 then Expr.Name.elim e h fun x p=>some ⟨(x,p),rfl⟩ else Option.none
noncomputable def asg (k:Str → Pos → Expr → Bool) (st:Stmt):Bool:=got (dAssign st) fun x=>got (dNameP x.1) fun y=>k y.1 y.2 x.2
inductive Asg (k:Str → Pos → Expr → Bool) (st:Stmt):Prop
  | mk (y:Str) (tp:Pos) (v:Expr) (p:Pos) (h:st = .Assign [.Name y tp] v p) (hk:k y tp v = true):Asg k st
theorem asg_eq {k:Str → Pos → Expr → Bool} {st:Stmt} (h:asg k st = true):Asg k st:=by
  obtain ⟨x,⟨p,rfl⟩,h1⟩:=got_of h
  obtain ⟨y,e,h2⟩:=got_of h1
  exact ⟨y.1,y.2,x.2,p,by rw [e],h2⟩
noncomputable def isNm (ce:CE) (i:Nat) (o:Expr):Bool:=got (dNameP o) fun y=>tgt ce y.1 i
theorem isNm_eq {ce:CE} {i:Nat} {o:Expr} (h:isNm ce i o = true):∃ y np,o = .Name y np ∧ tgt ce y i = true:=by
  obtain ⟨y,e,h1⟩:=got_of h
  exact ⟨y.1,y.2,e,h1⟩
noncomputable def isRel:SStmt → Bool
  | .rel _=>true
  | _=>false
mutual
noncomputable def chkS:SStmt → CE → Stmt → Bool
  | .set x e,ce,st=>asg (fun y tp v=>tgt ce y x && (chk e ce v && isNoComp v)) st
  | .setc x e,ce,st=>asg (fun y tp v=>tgt ce y x && (chk e ce v && swB ce v y tp)) st
  | .ownl x es,ce,st=>asg (fun y tp v=>tgt ce y x && (isNoComp v && got (dList v) fun l=>chks es ce l)) st
  | .ownd x,ce,st=>asg (fun y tp v=>tgt ce y x && isEDict v) st
  | .ownf x e,ce,st=>asg (fun y tp v=>tgt ce y x && (chk e ce v && isNoComp v)) st
  | .unpk x y e,ce,st=>got (dAssign st) fun t=>got (dTuple t.1) fun l=>got (dPair l) fun z=>isNm ce x z.1 && (isNm ce y z.2 && (chk e ce t.2 && (isNoComp t.2 && !isTupE t.2)))
  | .app x e,ce,st=>got (dExprS st) fun v=>meth "append" (fun o as=>isNm ce x o && got (dOne as) fun a=>chk e ce a && !isStar a) v
  | .put x k e,ce,st=>got (dAssign st) fun t=>got (dSub t.1) fun z=>isNm ce x z.1 && (chk k ce z.2 && chk e ce t.2)
  | .del1 x,ce,st=>got (dDel st) fun t=>got (dSub t) fun z=>isNm ce x z.1 && isNeg 1 z.2
  | .ife c a b,ce,st=>got (dIfS st) fun t=>chk c ce t.1 && (chkSs a ce t.2.1 && chkSs b ce t.2.2)
  | .fr x e b,ce,st=>got (dFor st) fun t=>isNm ce x t.1 && (chk e ce t.2.1 && (!isSetE t.2.1 && chkSs b ce t.2.2))
  | .whl c b,ce,st=>got (dWhile st) fun t=>chk c ce t.1 && chkSs b ce t.2
  | .ret e,ce,st=>got (dRet st) fun v=>chk e ce v
  | .rse e,ce,st=>got (dRaise st) fun v=>call1 ce "ParseError" (fun x=>chk e ce x) v
  | .brk,_,st=>(dBrk st).isSome
  | .rel _,_,_=>false
noncomputable def chkSs:List SStmt → CE → List Stmt → Bool
  | [],_,l=>l.isEmpty
  | t :: ts,ce,l=>if isRel t then chkSs ts ce l else match l with
    | st :: sts=>chkS t ce st && chkSs ts ce sts
    | []=>false
end
theorem lastIdx_get {y:Str} {l:List Str} {i:Nat} (h:lastIdx y l 0 = some i):l[i]? = some y:=by
  obtain ⟨j,e,h2⟩:=lastIdx_at h
  rw [e,Nat.zero_add]; exact h2
theorem idx_inj {ce:CE} {x y:Str} {i:Nat} (hx:ce.idx x = some i) (hy:ce.idx y = some i):y = x:=Option.some.inj ((lastIdx_get hy).symm.trans (lastIdx_get hx))
structure Tgt (ce:CE) (x:Str) (i:Nat):Prop where
  ix:ce.idx x = some i
  lc:isLC (ce.kind x) = true
  nd:(x == ("__debug__":Str)) = false
  nc:(x == ("__classdict__":Str)) = false
  uq:∀ y,ce.idx y = some i → y = x
theorem tgt_of {ce:CE} {x:Str} {i:Nat} (h:tgt ce x i = true):Tgt ce x i:=by
  refine cps fun Gq hGq=>?_
  obtain ⟨h1,h⟩:=and2 h
  obtain ⟨h2,h⟩:=and2 h
  obtain ⟨h3,h4⟩:=and2 h
  refine hGq ?_
  clear hGq
  exact ⟨eq_of_beq h1,h2,notT h3,notT h4,fun y hy=>idx_inj (eq_of_beq h1) hy⟩
theorem own_of {σ:Sig} {x:Nat} {o:RV} (h:ownAt σ x = some o):σ[x]? = some (some o) ∧ o.c = false:=by
  obtain ⟨r,h1,h2⟩:=bind_of h
  have h3:r.c = false ∧ r = o:=by
    cases hc:r.c with
    | true=>rw [hc] at h2; cases h2
    | false=>rw [hc] at h2; exact ⟨rfl,Option.some.inj h2⟩
  obtain ⟨h3,rfl⟩:=h3
  refine ⟨?_,h3⟩
  cases hq:σ[x]? with
  | none=>rw [hq] at h1; cases h1
  | some q=>rw [hq] at h1; exact congrArg some h1
theorem swaps_plain {v:Expr} {t:Expr} {l:Nat} {env:Env} (h:isNoComp v = true):swapsWith v (some t) l env = pure false:=by
  cases v <;> first | exact Eq.refl (pure false) | cases h
theorem swaps_sub {v o i:Expr} {p:Pos} {l:Nat} {env:Env}:swapsWith v (some (.Subscript o i p)) l env = pure false:=by
  cases v <;> exact Eq.refl (pure false)
theorem swaps_comp {ce:CE} {elt:Expr} {gens:List Comprehension} {scope:Scope} {vp:Pos} {t:Str} {p:Pos} {l:Nat} {env:Env} (fn:env.scope.kind = .function) (ki:∀ x,ce.kind x = env.kindOf x) (h:swB ce (.ListComp elt gens scope vp) t p = true):swapsWith (.ListComp elt gens scope vp) (some (.Name t p)) l env = pure true:=by
  obtain ⟨h1,h⟩:=and2 h
  obtain ⟨h2,h3⟩:=and2 h
  rw [ki] at h1
  delta swapsWith
  have h2':(p.line == (Expr.ListComp elt gens scope vp).pos.line) = true:=h2
  simp only [Env.blockKind,fn,h1,h2',h3]
  rfl
end Mine
namespace Mine
open PySem PySem.SeqAt PySem.Calls PyProof.Rows
section
variable {prog:Program} {w:World} {p:Program} {loose:List Str} {mean:ExcName → Option Value} {mg mb:Str → Option Value} {lvl:Nat} {A:Around} {env:Env} {ce:CE} {Q0:Addr → Prop} {s0 s s':Shared} {X:Addr → Prop} {ad ad':Nat → Addr} {σ σ':Sig} {E:Value → Shared → Prop} {Φ:FTab} {G:(Value → Shared → Prop) → Str → Prop} {n:Nat}
inductive PostN (prog:Program) (w:World) (env:Env) (ce:CE) (Q0:Addr → Prop) (s0:Shared) (X:Addr → Prop) (ad:Nat → Addr) (σ:Sig) (s:Shared) (σ':Sig) (s':Shared):Prop
  | mk (ad':Nat → Addr):Sx prog w env ce Q0 s0 X ad' σ' s' → Ext env ce X ad σ s ad' σ' s' → PostN prog w env ce Q0 s0 X ad σ s σ' s'
def Post (prog:Program) (w:World) (env:Env) (ce:CE) (Q0:Addr → Prop) (s0:Shared) (X:Addr → Prop) (ad:Nat → Addr) (σ:Sig) (s:Shared):Out → Flow → Shared → Prop
  | .next σ',fl,s'=>fl = .next ∧ PostN prog w env ce Q0 s0 X ad σ s σ' s'
  | .brk σ',fl,s'=>fl = .brk ∧ PostN prog w env ce Q0 s0 X ad σ s σ' s'
  | .ret r,fl,s'=>∃ v,fl = .ret v ∧ Keeps s0 s' ∧ R prog w s'.heap (fun a=>Q0 a ∧ (r.f = true → s0.heap.get? a = none)) v r.d
  | .exc _,_,_=>False
theorem PostN.of {σ'':Sig} {s'':Shared} (x:Ext env ce X ad σ s ad' σ' s') (h:PostN prog w env ce Q0 s0 X ad' σ' s' σ'' s''):PostN prog w env ce Q0 s0 X ad σ s σ'' s'':=by
  obtain ⟨ad2,h1,h2⟩:=h
  exact ⟨ad2,h1,ext_trans x h2⟩
theorem Post.of {out:Out} {fl:Flow} {s'':Shared} (x:Ext env ce X ad σ s ad' σ' s') (h:Post prog w env ce Q0 s0 X ad' σ' s' out fl s''):Post prog w env ce Q0 s0 X ad σ s out fl s'':=by
  cases out with
  | next=>exact ⟨h.1,h.2.of x⟩
  | brk=>exact ⟨h.1,h.2.of x⟩
  | ret r=>exact h
  | exc=>exact h
structure GOk (prog:Program) (w:World) (A:Around) (env:Env) (ce:CE) (Q0:Addr → Prop) (s0:Shared) (X:Addr → Prop) (G:(Value → Shared → Prop) → Str → Prop):Prop where
  up:∀ E m,G E m → G (notedBy (model prog w) A env fun e s'=>cameBackBy (model prog w) A env E e s') m
  rse:∀ (e:Expr) (np cpos pos:Pos) (E:Value → Shared → Prop) (m:Str) (s:Shared) (ad:Nat → Addr) (σ:Sig) (Q:Flow → Shared → Prop),Sx prog w env ce Q0 s0 X ad σ s → isStar e = false →
    (∀ E',wpAny (model prog w) A (eval e env) (fun v s'=>Keeps s s' ∧ ∃ t,v = .str m t) E' s) → G E m → wpAny (model prog w) A (exec (.Raise (some (.Call (.Name "ParseError" np) [e] [] cpos)) none pos) env) Q E s
def ExOk (prog:Program) (w:World) (Φ:FTab) (A:Around) (env:Env) (ce:CE) (Q0:Addr → Prop) (s0:Shared) (X:Addr → Prop) (G:(Value → Shared → Prop) → Str → Prop) (n:Nat) (t:SStmt):Prop :=
  ∀ (st:Stmt) (ad:Nat → Addr) (σ:Sig) (s:Shared) (out:Out) (E:Value → Shared → Prop),chkS t ce st = true → Sx prog w env ce Q0 s0 X ad σ s → aexec Φ n t σ = some out → (∀ m,out = .exc m → G E m) →
    wpAny (model prog w) A (exec st env) (Post prog w env ce Q0 s0 X ad σ s out) E s
def ExsOk (prog:Program) (w:World) (Φ:FTab) (A:Around) (env:Env) (ce:CE) (Q0:Addr → Prop) (s0:Shared) (X:Addr → Prop) (G:(Value → Shared → Prop) → Str → Prop) (n:Nat) (ts:List SStmt):Prop :=
  ∀ (sts:List Stmt) (ad:Nat → Addr) (σ:Sig) (s:Shared) (out:Out) (E:Value → Shared → Prop),chkSs ts ce sts = true → Sx prog w env ce Q0 s0 X ad σ s → aexecs Φ n ts σ = some out → (∀ m,out = .exc m → G E m) →
    wpAny (model prog w) A (execs sts env) (Post prog w env ce Q0 s0 X ad σ s out) E s
theorem part_c {q:RV} {d:PV} (h:q.c = true):(part q d).c = true:=by
  delta part
  cases d.atom with
  | true=>rfl
  | false=>exact h
theorem loads_off {I:Addr} {h h':Heap} {y:Str} {u:Value} (hI:¬ Ow env X σ ad I) (hk:∀ b o,b ≠ I → h.get? b = some o → h'.get? b = some o) (l:Loads env h y u):Loads env h' y u:=by
  rcases l with ⟨k,m2,nn,e⟩ | ⟨k,c',hc',n⟩
  · exact .inl ⟨k,m2,nn.at' fun o e=>hk _ o (fun q=>hI (q ▸ .inr (.inl rfl))) e,e⟩
  · refine .inr ⟨k,c',hc',?_⟩
    obtain ⟨o,ho,r⟩:=n
    exact ⟨o,hk c' o (fun q=>hI (q ▸ .inr (.inr (.inl ⟨y,hc'⟩)))) ho,r⟩
theorem ext_iter {I:Addr} {s₁:Shared} {h':Heap} {tk:Nat} (x:Ext env ce X ad σ s₁ ad' σ' s) (hI:s₁.heap.get? I = none) (hIo:¬ Ow env X σ' ad' I) (hk:∀ b o,b ≠ I → s.heap.get? b = some o → h'.get? b = some o):Ext env ce X ad σ s₁ ad' σ' { s with heap:=h',toks:=tk }:=by
  obtain ⟨x1,x2,x3,⟨h,t,dr,rfl⟩,x5⟩:=x
  refine ⟨fun b o e hb=>hk b o (fun q=>?_) (x1 b o e hb),x2,fun b ⟨o,e⟩=>?_,⟨h',tk,dr,rfl⟩,fun y u h1 h2 l=>loads_off hIo hk (x5 y u h1 h2 l)⟩
  · rw [q,hI] at e; cases e
  · obtain ⟨o',e'⟩:=x3 b ⟨o,e⟩
    exact ⟨o',hk b o' (fun q=>by rw [q,hI] at e; cases e) e'⟩
inductive ForI (prog:Program) (w:World) (env:Env) (ce:CE) (Q0:Addr → Prop) (s0:Shared) (X:Addr → Prop) (ad:Nat → Addr) (σ:Sig) (s₁:Shared) (St:Nat → Heap → Prop) (go:List PV → Sig → Option Out) (ds:List PV) (out:Out):Nat → Shared → Prop
  | mk {j:Nat} {σ':Sig} {ad':Nat → Addr} {s':Shared} (hj:j ≤ ds.length) (S:Sx prog w env ce Q0 s0 X ad' σ' s') (x:Ext env ce X ad σ s₁ ad' σ' s') (hst:St j s'.heap) (hI:¬ Ow env X σ' ad' s₁.heap.objs.size) (ha:go (ds.drop j) σ' = some out):ForI prog w env ce Q0 s0 X ad σ s₁ St go ds out (ds.length + 1 - j) s'
set_option maxHeartbeats 1000000 in
theorem for_ok {x:Str} {i:Nat} {px:Pos} {it:Expr} {bd:List Stmt} {pos:Pos} {q:RV} {ds:List PV} {ts:List SStmt} {out:Out} (F:Fx prog w p loose mean mg mb lvl A env ce Q0 s0) (GO:GOk prog w A env ce Q0 s0 X G) (S:Sx prog w env ce Q0 s0 X ad σ s) (hx:tgt ce x i = true) (hns:isSetE it = false)
    (hit:wpAny (model prog w) A (eval it env) (Pst prog w (Pf Q0 s0.heap (Ow env X σ ad)) s q) E s) (hq:q.c = true) (hds:aiter q.d = some ds) (hb:chkSs ts ce bd = true) (body:ExsOk prog w Φ A env ce Q0 s0 X G n ts) (h:afor (aexecs Φ n ts) i q ds σ = some out) (hE:∀ m,out = .exc m → G E m) :
    wpAny (model prog w) A (exec (.For (.Name x px) it bd [] pos) env) (Post prog w env ce Q0 s0 X ad σ s out) E s:=by
  refine cps fun Gq hGq=>?_
  obtain ⟨hix,hlc,zz,zz,huq⟩:=tgt_of hx
  refine hGq ?_
  clear hGq
  refine wpAny_For (wm hit fun v s₁ h₁=>?_) (folded_plain hns env)
  obtain ⟨k1,r1⟩:=h₁
  rw [hq] at r1
  have r1':R prog w s₁.heap (fun a=>Pf Q0 s0.heap (Ow env X σ ad) q.f true a ∧ ∃ o,s₁.heap.get? a = some o) v q.d:=r1.frame fun a o hp zz e=>⟨e,hp,o,e⟩
  refine iter_R r1' hds fun fp Pi St s₂ k2 W hst hfp hfq hI hId hPi hsz hLv=>?_
  have S1:=S.keeps k1
  have hI0:s0.heap.get? s₁.heap.objs.size = none:=none_of (kheap S1.k0) (size_none _)
  have hIo:¬ Ow env X σ ad s₁.heap.objs.size:=fun ho=>by
    obtain ⟨o,e⟩:=S1.lv _ ho
    rw [size_none] at e; cases e
  refine codeAny_forLoop (ForI prog w env ce Q0 s0 X ad σ s₁ St (afor (aexecs Φ n ts) i q) ds out) ?_ (ds.length + 1)
    (.mk (j:=0) (Nat.zero_le _) (S1.keeps k2) (ext_keeps k2) hst hIo h)
  intro k s' hFI
  induction hFI with
  | @mk j σ' ad' s' hj S' x' hst' hIo' ha =>
    have WW:=W A F.hh
    have fpo:∀ {σ₂:Sig} {ad₂:Nat → Addr} {s₃:Shared},Ext env ce X ad σ s₁ ad₂ σ₂ s₃ → ¬ Ow env X σ₂ ad₂ s₁.heap.objs.size → ∀ b ∈ fp,¬ Ow env X σ₂ ad₂ b:=by
      intro σ₂ ad₂ s₃ x₂ hI₂ b hb ho
      rcases hfq b hb with e | ⟨hp,o,e⟩
      · exact hI₂ (e ▸ ho)
      · rcases x₂.ow b ho with q1 | q1
        · exact hp.2.2 rfl q1
        · rw [q1] at e; cases e
    by_cases hlt:j < ds.length
    · refine WW.item j _ _ _ hlt hst' fun v h₁ tk₁ hPv hst₁ hk₁=>?_
      have hk₁':∀ b o,b ≠ s₁.heap.objs.size → s'.heap.get? b = some o → h₁.get? b = some o:=fun b o hb e=>hk₁ b o (fun hm=>hb (List.mem_singleton.mp hm)) e
      obtain ⟨d,hd,rd⟩:=hPi j v hPv
      have hdrop:ds.drop j = d :: ds.drop (j + 1):=by
        rw [List.drop_eq_getElem_cons hlt]
        congr 1
        rw [List.getElem?_eq_getElem hlt] at hd
        exact Option.some.inj hd
      rw [hdrop] at ha
      obtain ⟨o1,hb1,ha⟩:=bind_of ha
      have S2:=S'.iterI (tk:=tk₁) hIo' hI0 (hId j _ hst') hk₁'
      have rd1:R prog w s₁.heap (Pf Q0 s0.heap (Ow env X σ ad) q.f true) v d:=rd.mono fun a h=>h.1
      have rd2:R prog w h₁ (Pf Q0 s0.heap (Ow env X σ' ad') q.f true) v d:=(x'.R rd1).frame fun a o hp dd e=>⟨hk₁' a o (fun e'=>hId j _ hst' o (e' ▸ e) dd) e,hp⟩
      have rd3:R prog w h₁ (Pf Q0 s0.heap (Ow env X σ' ad') (part q d).f true) v (part q d).d:=by
        have:=part_ok (P:=Pf Q0 s0.heap (Ow env X σ' ad')) (r:=q) (by rw [hq]; exact rd2)
        rw [part_c hq] at this
        exact this
      refine wpAny_assign_Name (store_ok F S2 (krefl _) hix huq hlc (fun zz zz=>rfl) (fun zz=>rd3) (fun h=>by rw [part_c hq] at h; cases h) fun s₄ S4 x4=>?_)
      have x4':Ext env ce X ad σ s₁ ad' (σ'.set i (some (part q d))) s₄:=ext_trans (ext_iter x' (size_none _) hIo' hk₁') x4
      have hI4:¬ Ow env X (σ'.set i (some (part q d))) ad' s₁.heap.objs.size:=fun ho=>hIo' (ow_set (part_c hq) ho)
      have live1:∃ o,h₁.get? s₁.heap.objs.size = some o:=hLv (j + 1) h₁ hst₁
      obtain ⟨oI1,hoI1⟩:=live1
      have hoI4:s₄.heap.get? s₁.heap.objs.size = some oI1:=x4.1 _ _ hoI1 (.inl hIo')
      have hst4:St (j + 1) s₄.heap:=WW.frame _ _ _ hst₁ fun b hb o e=>x4.1 b o e (.inl (fpo x' hIo' b hb))
      refine wm (body bd ad' _ s₄ o1 _ hb S4 hb1 ?_) (fun fl s₅ h₅=>?_)
      · intro m hm
        subst hm
        exact GO.up E m (hE m (Option.some.inj ha).symm)
      · cases o1 with
        | next σ₅ =>
          obtain ⟨rfl,ad5,S5,x5⟩:=h₅
          refine ⟨_,lt_step hlt,.mk hlt S5 (ext_trans x4' x5) (WW.frame _ _ _ hst4 fun b hb o e=>x5.1 b o e (.inl (fpo x4' hI4 b hb))) (fun ho=>?_) ha⟩
          · rcases x5.ow _ ho with q1 | q1
            · exact hI4 q1
            · rw [q1] at hoI4; cases hoI4
        | brk σ₅ =>
          obtain ⟨rfl,ad5,S5,x5⟩:=h₅
          cases ha
          exact ⟨rfl,ad5,S5,ext_trans (ext_keeps k1) (ext_trans x4' x5)⟩
        | ret r =>
          obtain ⟨v5,rfl,k5,r5⟩:=h₅
          cases ha
          exact ⟨v5,rfl,k5,r5⟩
        | exc m=>exact h₅.elim
    · have hjn:j = ds.length:=by lia
      subst hjn
      rw [List.drop_length] at ha
      cases ha
      refine WW.done _ _ _ hst' fun h₁ tk₁ hk₁=>?_
      have hk₁':∀ b o,b ≠ s₁.heap.objs.size → s'.heap.get? b = some o → h₁.get? b = some o:=fun b o hb e=>hk₁ b o (fun hm=>hb (List.mem_singleton.mp hm)) e
      refine wpAny_execs_nil ⟨rfl,ad',S'.iterI hIo' hI0 (hId _ _ hst') hk₁',ext_trans (ext_keeps k1) (ext_iter x' (size_none _) hIo' hk₁')⟩
theorem comp_stmt {elt tg it:Expr} {ifs:List Expr} {gs:List Comprehension} {scope:Scope} {vp tp pos:Pos} {y:Str} {x:Nat} {r:RV} (F:Fx prog w p loose mean mg mb lvl A env ce Q0 s0) (S:Sx prog w env ce Q0 s0 X ad σ s) (hx:tgt ce y x = true) (hsw:swB ce (.ListComp elt (⟨tg,it,ifs,0⟩ :: gs) scope vp) y tp = true) (hr:r.c = true)
    (hrun:CompRuns prog w A env (Pf Q0 s0.heap (Ow env X σ ad)) s E elt tg it ifs gs scope vp r) :
    wpAny (model prog w) A (exec (.Assign [.Name y tp] (.ListComp elt (⟨tg,it,ifs,0⟩ :: gs) scope vp) pos) env) (Post prog w env ce Q0 s0 X ad σ s (.next (σ.set x (some r)))) E s:=by
  refine cps fun Gq hGq=>?_
  obtain ⟨hix,hlc,zz,zz,huq⟩:=tgt_of hx
  refine hGq ?_
  clear hGq
  rw [exec_Assign_Name_used _ _ _ _ (swaps_comp F.fn F.ki hsw)]
  refine wpAny_bind (wpAny_standAt (wpAny_bind ?_))
  show wpAny _ A (do let _ ← comprehension (.ListComp elt (⟨tg,it,ifs,0⟩ :: gs) scope vp) scope env _ (newList []) false (eval it env) (some (assign (.Name y tp) env))) _ _ s
  refine wpAny_bind (wm (hrun (some (assign (.Name y tp) env)) (fun zz s'=>Post prog w env ce Q0 s0 X ad σ s (.next (σ.set x (some r))) .next s') _ ?_) (fun zz s' hq=>wpAny_pure (wpAny_pure hq)))
  intro D C s' hce
  refine cps fun Gq hGq=>?_
  obtain ⟨k,hD,hC,hDC,⟨m,hn⟩,rr⟩:=hce
  refine hGq ?_
  clear hGq
  show wpAny _ A (assign (.Name y tp) env (.ref D)) _ _ _
  have hCl:∃ o,s'.heap.get? C = some o:=by obtain ⟨o,zz,zz,ho,zz⟩:=hn; exact ⟨o,ho⟩
  have S1:=S.addX k hC hCl
  have hCo:¬ Ow env X σ ad C:=fun ho=>by
    obtain ⟨o,e⟩:=S.lv C ho
    rw [hC] at e; cases e
  have owX:∀ b,Ow env (fun a=>X a ∨ a = C) σ ad b → Ow env X σ ad b ∨ b = C:=by
    intro b hb
    rcases hb with (hb | hb) | hb
    · exact .inl (.inl hb)
    · exact .inr hb
    · exact .inl (.inr hb)
  have rr':R prog w s'.heap (Pf Q0 s0.heap (Ow env (fun a=>X a ∨ a = C) σ ad) r.f true) (.ref D) r.d:=rr.mono fun a h=>⟨h.1.1,h.1.2.1,fun zz ho=>by
    rcases owX a ho with q | q
    · exact h.1.2.2 hr q
    · exact h.2 q⟩
  refine wpAny_assign_Name (store_ok F S1 (krefl _) hix huq hlc (fun zz zz=>rfl) (fun zz=>rr') (fun h=>by rw [hr] at h; cases h) fun s₄ S4 x4=>?_)
  refine ⟨m,hn.at' fun o e=>x4.1 C o e (.inr (.inr rfl)),fun h' hs=>⟨rfl,ad,S4.offX (fun ho=>hCo (ow_set hr ho)) hs,?_,?_,?_,?_,?_⟩⟩
  · intro b o e hb
    have hbC:b ≠ C:=fun q=>by rw [q,hC] at e; cases e
    refine hs.extBut b o hbC (x4.1 b o (kheap k b o e) ?_)
    rcases hb with hb | hb
    · refine .inl fun ho=>?_
      rcases owX b ho with q | q
      · exact hb q
      · exact hbC q
    · exact .inr (.inl hb)
  · exact fun b hb=>.inl (ow_set hr hb)
  · rintro b ⟨o,e⟩
    have hbC:b ≠ C:=fun q=>by rw [q,hC] at e; cases e
    obtain ⟨o',e'⟩:=x4.lv b ⟨o,kheap k b o e⟩
    exact ⟨o',hs.extBut b o' hbC e'⟩
  · obtain ⟨h1,t1,d1,rfl,zz⟩:=k
    obtain ⟨zz,zz,zz,⟨h2,t2,d2,rfl⟩,zz⟩:=x4
    exact ⟨h',t2,d2,rfl⟩
  · exact fun z u h1 h2 l=>loads_off hCo (fun b o hb e=>hs.extBut b o hb e) (x4.ld z u h1 h2 (l.keeps (kheap k)))
end
end Mine
namespace Mine
open PySem PySem.SeqAt PySem.Calls PyProof.Rows
section
variable {prog:Program} {w:World} {p:Program} {loose:List Str} {mean:ExcName → Option Value} {mg mb:Str → Option Value} {lvl:Nat} {A:Around} {env:Env} {ce:CE} {Q0:Addr → Prop} {s0 s s':Shared} {X:Addr → Prop} {ad ad':Nat → Addr} {σ σ':Sig} {E:Value → Shared → Prop} {Φ:FTab} {G:(Value → Shared → Prop) → Str → Prop} {n:Nat}
theorem while_ok {c:SExpr} {tst:Expr} {bd:List Stmt} {pos:Pos} {ts:List SStmt} {out:Out} (hte:TeOk prog w p loose mean mg mb lvl Φ c) (F:Fx prog w p loose mean mg mb lvl A env ce Q0 s0) (GO:GOk prog w A env ce Q0 s0 X G) (S:Sx prog w env ce Q0 s0 X ad σ s)
    (hc:chk c ce tst = true) (hb:chkSs ts ce bd = true) (body:ExsOk prog w Φ A env ce Q0 s0 X G n ts) {k:Nat} (h:awhl (fun σ=>(aeval Φ c σ).bind fun t=>boolOf t.d) (aexecs Φ n ts) k σ = some out) (hE:∀ m,out = .exc m → G E m) :
    wpAny (model prog w) A (exec (.While tst bd [] pos) env) (Post prog w env ce Q0 s0 X ad σ s out) E s:=by
  refine wpAny_While (codeAny_whileLoop (fun k s'=>∃ σ' ad',Sx prog w env ce Q0 s0 X ad' σ' s' ∧ Ext env ce X ad σ s ad' σ' s' ∧ awhl (fun σ=>(aeval Φ c σ).bind fun t=>boolOf t.d) (aexecs Φ n ts) k σ' = some out) ?_ k ⟨σ,ad,S,ext_refl,h⟩)
  intro k s' hI
  refine cps fun Gq hGq=>?_
  obtain ⟨σ',ad',S',x',ha⟩:=hI
  refine hGq ?_
  clear hGq
  cases k with
  | zero=>cases ha
  | succ k =>
    refine cps fun Gq hGq=>?_
    obtain ⟨b,hb0,ha⟩:=bind_of ha
    obtain ⟨t,ht,hb1⟩:=bind_of hb0
    refine hGq ?_
    clear hGq
    refine wm (hte ce tst A env _ σ' s' t b _ hc (S'.cx F) ht (boolOf_eq hb1)) fun b' s₂ h₂=>?_
    obtain ⟨rfl,k2⟩:=h₂
    have S2:=S'.keeps k2
    have x2:=ext_trans x' (ext_keeps (env:=env) (X:=X) (ad:=ad') (σ:=σ') k2)
    cases b' with
    | true =>
      obtain ⟨o1,hb1,ha⟩:=bind_of (o:=aexecs Φ n ts σ') ha
      refine wm (body bd ad' _ s₂ o1 _ hb S2 hb1 ?_) fun fl s₅ h₅=>?_
      · intro m hm
        subst hm
        exact GO.up E m (hE m (Option.some.inj ha).symm)
      · cases o1 with
        | next σ₅ =>
          obtain ⟨rfl,ad5,S5,x5⟩:=h₅
          exact ⟨k,Nat.lt_succ_self _,σ₅,ad5,S5,ext_trans x2 x5,ha⟩
        | brk σ₅ =>
          cases ha
          obtain ⟨rfl,h₅⟩:=h₅
          exact ⟨rfl,h₅.of x2⟩
        | ret r =>
          cases ha
          obtain ⟨v5,rfl,h₅⟩:=h₅
          exact ⟨v5,rfl,h₅⟩
        | exc m=>exact h₅.elim
    | false =>
      cases ha
      exact wpAny_execs_nil ⟨rfl,ad',S2,x2⟩
theorem set_stmt {y:Str} {tp pos:Pos} {v:Expr} {x:Nat} {r:RV} (F:Fx prog w p loose mean mg mb lvl A env ce Q0 s0) (S:Sx prog w env ce Q0 s0 X ad σ s) (hx:tgt ce y x = true) (hn:isNoComp v = true) (hr:r.c = true)
    (hv:wpAny (model prog w) A (eval v env) (Pst prog w (Pf Q0 s0.heap (Ow env X σ ad)) s r) E s) :
    wpAny (model prog w) A (exec (.Assign [.Name y tp] v pos) env) (Post prog w env ce Q0 s0 X ad σ s (.next (σ.set x (some r)))) E s:=by
  refine cps fun Gq hGq=>?_
  obtain ⟨hix,hlc,zz,zz,huq⟩:=tgt_of hx
  refine hGq ?_
  clear hGq
  refine wpAny_Assign_Name (wm hv fun u s₁ h₁=>?_) (swaps_plain hn)
  obtain ⟨k1,r1⟩:=h₁
  rw [hr] at r1
  exact store_ok F S k1 hix huq hlc (fun zz zz=>rfl) (fun zz=>r1) (fun h=>by rw [hr] at h; cases h) fun s₄ S4 x4=>⟨rfl,ad,S4,x4⟩
theorem own_stmt {y:Str} {tp pos:Pos} {v:Expr} {x:Nat} {r:RV} (F:Fx prog w p loose mean mg mb lvl A env ce Q0 s0) (S:Sx prog w env ce Q0 s0 X ad σ s) (hx:tgt ce y x = true) (hn:isNoComp v = true) (hr:r.c = false)
    (hv:wpAny (model prog w) A (eval v env) (fun u s₁=>Keeps s s₁ ∧ ∃ a,u = .ref a ∧ s.heap.get? a = none ∧ OwnR prog w s₁.heap (Pf Q0 s0.heap (fun b=>Ow env X σ ad b ∨ b = a) r.f true) a r.d) E s) :
    wpAny (model prog w) A (exec (.Assign [.Name y tp] v pos) env) (Post prog w env ce Q0 s0 X ad σ s (.next (σ.set x (some r)))) E s:=by
  refine cps fun Gq hGq=>?_
  obtain ⟨hix,hlc,zz,zz,huq⟩:=tgt_of hx
  refine hGq ?_
  clear hGq
  refine wpAny_Assign_Name (wm hv fun u s₁ h₁=>?_) (swaps_plain hn)
  obtain ⟨k1,a,rfl,ha,o⟩:=h₁
  refine store_ok (ad':=fun j=>if j = x then a else ad j) F S k1 hix huq hlc (fun j hj=>if_neg hj) (fun h=>by rw [hr] at h; cases h) (fun zz=>?_) fun s₄ S4 x4=>⟨rfl,_,S4,x4⟩
  simp only [if_true]
  exact ⟨trivial,ha,o⟩
theorem own_read {y:Str} {i:Nat} {r:RV} {np:Pos} {Q:Value → Shared → Prop} (F:Fx prog w p loose mean mg mb lvl A env ce Q0 s0) (S:Sx prog w env ce Q0 s0 X ad σ s) (hx:tgt ce y i = true) (hr:σ[i]? = some (some r)) (hc:r.c = false)
    (h:OwnR prog w s.heap (Pf Q0 s0.heap (Ow env X σ ad) r.f true) (ad i) r.d → Q (.ref (ad i)) s):wpAny (model prog w) A (eval (.Name y np) env) Q E s:=by
  refine cps fun Gq hGq=>?_
  obtain ⟨hix,hlc,hd1,hd2,huq⟩:=tgt_of hx
  obtain ⟨v,l,zz,c2⟩:=S.rd y i r hix (isLC_var hlc) hr
  refine hGq ?_
  clear hGq
  obtain ⟨rfl,o⟩:=c2 hc
  exact ld_var F.fn l hd1 hd2 (h o)
theorem Pf.mono {f c f' c':Bool} {O:Addr → Prop} {h0:Heap} {a:Addr} (h1:f' = true → f = true) (h2:c' = true → c = true) (h:Pf Q0 h0 O f c a):Pf Q0 h0 O f' c' a:=⟨h.1,fun q=>h.2.1 (h1 q),fun q=>h.2.2 (h2 q)⟩
theorem keeps_extBut {h':Heap} (he:Heap.ExtBut s.heap.objs.size s.heap h'):Keeps s { s with heap:=h' } :=
  ⟨h',s.toks,s.drawn,rfl,fun b o e=>he b o (fun q=>by rw [q,size_none] at e; cases e) e⟩
theorem unpk_stmt {a b:Str} {np nq tp pos:Pos} {c:Nat} {v:Expr} {x y:Nat} {r:RV} {d e:PV} (F:Fx prog w p loose mean mg mb lvl A env ce Q0 s0) (S:Sx prog w env ce Q0 s0 X ad σ s) (hx:tgt ce a x = true) (hy:tgt ce b y = true) (hn:isNoComp v = true) (hnt:isTupE v = false) (hr:r.c = true) (hrd:r.d = .tup [d,e])
    (hv:wpAny (model prog w) A (eval v env) (Pst prog w (Pf Q0 s0.heap (Ow env X σ ad)) s r) E s) :
    wpAny (model prog w) A (exec (.Assign [.Tuple [.Name a np,.Name b nq] c tp] v pos) env) (Post prog w env ce Q0 s0 X ad σ s (.next ((σ.set x (some (part r d))).set y (some (part r e))))) E s:=by
  refine cps fun Gq hGq=>?_
  obtain ⟨hix,hlc,zz,zz,huq⟩:=tgt_of hx
  obtain ⟨hix',hlc',zz,zz,huq'⟩:=tgt_of hy
  refine hGq ?_
  clear hGq
  refine PyProof.Rows.Assign_Tuple (wm hv fun u s₁ h₁=>?_) (by delta swapsWithSole; exact swaps_plain hn) (by cases v <;> first | rfl | cases hnt)
  obtain ⟨k1,r1⟩:=h₁
  have S1:=S.keeps k1
  rw [hrd,hr] at r1
  induction r1.t with
  | @tup t vs m pt et zt rt =>
    obtain ⟨v1,v2,rfl,ra,rb⟩:=rs_two rt
    refine wpAny_assign_Tuple F.hh (tobj_isTuple et) rfl rfl fun h' he=>?_
    have k2:=keeps_extBut he
    have S2:=S1.keeps k2
    have hp:∀ {u:PV} {q:Value},R prog w s₁.heap (Pf Q0 s0.heap (Ow env X σ ad) r.f true) q u → R prog w s₁.heap (Pf Q0 s0.heap (Ow env X σ ad) (part r u).f true) q (part r u).d:=by
      intro u q hq
      have:=part_ok (P:=Pf Q0 s0.heap (Ow env X σ ad)) (r:=r) (d:=u) (v:=q) (h:=s₁.heap) (by rw [hr]; exact hq)
      rw [part_c hr] at this
      exact this
    refine wpAny_bind (wpAny_holding ?_)
    refine wpAny_assign_Name (store_ok F S2 (krefl _) hix huq hlc (fun zz zz=>rfl) (fun zz=>(hp ra).keeps (kheap k2)) (fun h=>by rw [part_c hr] at h; cases h) fun s₄ S4 x4=>?_)
    refine wpAny_bind (wpAny_holding ?_)
    refine wpAny_assign_Name (store_ok F S4 (krefl _) hix' huq' hlc' (fun zz zz=>rfl) (fun zz=>x4.R ((hp rb).keeps (kheap k2))) (fun h=>by rw [part_c hr] at h; cases h) fun s₅ S5 x5=>?_)
    exact wpAny_pure ⟨rfl,ad,S5,ext_trans (ext_keeps (ktrans k1 k2)) (ext_trans x4 x5)⟩
theorem dropF_get {i:Nat} {r:RV} (h:(σ.map dropF)[i]? = some (some r)):∃ q,σ[i]? = some (some q) ∧ q.d = r.d ∧ ((q.d.atom = true ∧ r = q) ∨ (r.f = false ∧ r.c = q.c)):=by
  rw [List.getElem?_map] at h
  obtain ⟨o,ho,e⟩:=map_of h
  obtain ⟨q,rfl,e1⟩:=map_of e
  refine ⟨q,ho,?_⟩
  cases ha:q.d.atom with
  | true=>rw [ha] at e1; subst e1; exact ⟨rfl,.inl ⟨rfl,rfl⟩⟩
  | false=>rw [ha] at e1; subst e1; exact ⟨rfl,.inr ⟨rfl,rfl⟩⟩
theorem Sx.cxF (F:Fx prog w p loose mean mg mb lvl A env ce Q0 s0) (S:Sx prog w env ce Q0 s0 X ad σ s):Cx prog w p loose mean mg mb lvl A env ce (Pf Q0 s.heap (Ow env X σ ad)) (σ.map dropF) s where
  hh:=F.hh
  hd:=F.hd
  hu:=F.hu
  fn:=F.fn
  gl:=F.gl
  bl:=F.bl
  ki:=F.ki
  len:=by rw [List.length_map]; exact S.len
  cells:=F.cells
  pd:=⟨fun f c f' c' a h1 h2 ⟨q1,q2,q3⟩=>⟨q1,fun h=>q2 (h1 h),fun h=>q3 (h2 h)⟩,fun f c a e=>⟨((Pf.ok F S).fresh f c a e).1,fun zz=>e,((Pf.ok F S).fresh f c a e).2.2⟩⟩
  top:=F.top0.keeps (kheap S.k0)
  rd:=fun x i r h1 h2 h3=>by
    refine cps fun Gq hGq=>?_
    obtain ⟨q,hq,hd,hh⟩:=dropF_get h3
    obtain ⟨v,l,rv⟩:=(S.cx F).rd x i q h1 h2 hq
    refine hGq ?_
    clear hGq
    refine ⟨v,l,?_⟩
    rw [← hd]
    rcases hh with ⟨ha,rfl⟩ | ⟨e1,e2⟩
    · exact rv.atom ha
    · rw [e1,e2]
      exact rv.mono fun a h=>⟨h.1,(fun q=>by cases q),h.2.2⟩
theorem cons_dropLast {vs:List Value} {ds:List PV} {h:Heap} {P1:Addr → Prop} (x:RS prog w h P1 vs ds):RS prog w h P1 vs.dropLast ds.dropLast:=by
  rw [List.dropLast_eq_take,List.dropLast_eq_take,x.length]
  exact x.take _
theorem OwnR.l {h:Heap} {P1:Addr → Prop} {a:Addr} {ds:List PV} (x:OwnR prog w h P1 a (.list ds)):∃ vs n,h.get? a = some (lobj vs n) ∧ ds.length ≤ lim ∧ RS prog w h P1 vs ds:=by
  cases x with | list e z r=>exact ⟨_,_,e,z,r⟩
theorem pf_l {f g:Bool} {O:Addr → Prop} {h0:Heap} {a:Addr} (h:Pf Q0 h0 O f true a):Pf Q0 h0 O (f && g) true a:=Pf.mono and_l id h
theorem pf_r {f g:Bool} {O:Addr → Prop} {h0:Heap} {a:Addr} (h:Pf Q0 h0 O g true a):Pf Q0 h0 O (f && g) true a:=Pf.mono and_r id h
section
variable {t:SStmt} {e:SExpr} {x:Nat}
theorem ex_set (he:EvOk prog w p loose mean mg mb lvl Φ e) (F:Fx prog w p loose mean mg mb lvl A env ce Q0 s0):ExOk prog w Φ A env ce Q0 s0 X G n (.set x e):=by
  intro st ad σ s out E hc S h hE
  obtain ⟨y,tp,v,pos,rfl,hd⟩:=asg_eq (st:=st) (k:=fun y tp v=>tgt ce y x && (chk e ce v && isNoComp v)) hc
  refine cps fun Gq hGq=>?_
  obtain ⟨h1,hd⟩:=and2 hd
  obtain ⟨r,hr,h⟩:=bind_of h
  refine hGq ?_
  clear hGq
  obtain ⟨hrc,rfl⟩:=if_of h
  exact set_stmt F S h1 (and2 hd).2 hrc (he ce v A env _ σ s r E (and2 hd).1 (S.cx F) hr)
theorem swB_lc {v:Expr} {y:Str} {tp:Pos} (h:swB ce v y tp = true):∃ el gs sc vp,v = .ListComp el gs sc vp:=by
  obtain ⟨x,e,zz⟩:=got_of h
  exact ⟨_,_,_,_,e⟩
theorem chk_lc {el:Expr} {gs:List Comprehension} {sc:Scope} {vp:Pos} (h:chk e ce (.ListComp el gs sc vp) = true):(∃ a b,e = .comp a b) ∨ ∃ a b c d,e = .comp2 a b c d:=by
  cases e <;> first | exact .inl ⟨_,_,rfl⟩ | exact .inr ⟨_,_,_,_,rfl⟩ | exact absurd h Bool.false_ne_true
theorem ex_setc (D:Wd prog w p loose mean mg mb) (H:Hard prog w) (T:Ctr prog w p loose mean mg mb lvl Φ) (F:Fx prog w p loose mean mg mb lvl A env ce Q0 s0):ExOk prog w Φ A env ce Q0 s0 X G n (.setc x e):=by
  intro st ad σ s out E hc S h hE
  obtain ⟨y,tp,v,pos,rfl,hd⟩:=asg_eq (st:=st) (k:=fun y tp v=>tgt ce y x && (chk e ce v && swB ce v y tp)) hc
  refine cps fun Gq hGq=>?_
  obtain ⟨h1,hd⟩:=and2 hd
  obtain ⟨h2,h3⟩:=and2 hd
  obtain ⟨r,hr,h⟩:=bind_of h
  refine hGq ?_
  clear hGq
  obtain ⟨hrc,rfl⟩:=if_of h
  have key:IsComp prog w A env (Pf Q0 s0.heap (Ow env X σ ad)) s E v r:=by
    obtain ⟨el,gs,sc,vp,rfl⟩:=swB_lc h3
    rcases chk_lc h2 with ⟨a,b,rfl⟩ | ⟨a,b,c,d,rfl⟩
    · exact comp_is (eok D H T a) (eok D H T b) h2 (S.cx F) hr
    · exact comp2_is (eok D H T a) (eok D H T b) (eok D H T c) (eok D H T d) h2 (S.cx F) hr
  obtain ⟨elt,tg,it,ifs,gs,scope,vp,rfl,hrun⟩:=key
  exact comp_stmt F S h1 h3 hrc hrun
theorem ex_ownl {es:List SExpr} (L:LOk prog w p loose mean mg mb lvl Φ es) (F:Fx prog w p loose mean mg mb lvl A env ce Q0 s0):ExOk prog w Φ A env ce Q0 s0 X G n (.ownl x es):=by
  intro st ad σ s out E hc S h hE
  obtain ⟨y,tp,v,pos,rfl,hd⟩:=asg_eq (st:=st) (k:=fun y tp v=>tgt ce y x && (isNoComp v && got (dList v) fun l=>chks es ce l)) hc
  obtain ⟨h1,hd⟩:=and2 hd
  obtain ⟨h3,hd⟩:=and2 hd
  obtain ⟨l,⟨q,rfl⟩,h2⟩:=got_of hd
  refine cps fun Gq hGq=>?_
  obtain ⟨rs,hrs,h⟩:=bind_of h
  obtain ⟨r,hr,h⟩:=bind_of h
  refine hGq ?_
  clear hGq
  obtain ⟨hrc,rfl⟩:=if_of h
  refine own_stmt F S h1 h3 rfl (wpAny_List_spliced ?_)
  rw [starEach_ns (chks_ns h2),backTo_ns]
  refine wm (evsL L ce l A env _ σ s rs E h2 (S.cx F) hrs) fun vs s₁ h₁=>?_
  obtain ⟨k1,rl⟩:=h₁
  obtain ⟨hd,hz⟩:=newlR_d hr
  refine ⟨by rw [List.length_map] at hz; rw [rl.length]; exact Nat.le_trans hz lim_size,ktrans k1 (kpush _ _),_,rfl,none_of (kheap k1) (size_none _),?_⟩
  have rr:=RS.newl (P:=Pf Q0 s0.heap (Ow env X σ ad)) hr (rl.toRS (S.cx F).pd.mono)
  rw [hrc] at rr
  show OwnR prog w _ _ _ r.d
  rw [hd]
  exact .list (Heap.get?_push_size _ rfl) hz (rr.frame fun a o hp zz e=>⟨Heap.get?_push_of_some _ e,hp.1,hp.2.1,fun hh ho=>ho.elim (hp.2.2 hh) (ne_of_get (size_none _) e)⟩)
theorem ex_ownd (F:Fx prog w p loose mean mg mb lvl A env ce Q0 s0):ExOk prog w Φ A env ce Q0 s0 X G n (.ownd x):=by
  intro st ad σ s out E hc S h hE
  obtain ⟨y,tp,v,pos,rfl,hd⟩:=asg_eq (st:=st) (k:=fun y tp v=>tgt ce y x && isEDict v) hc
  obtain ⟨h1,h2⟩:=and2 hd
  obtain ⟨q,rfl⟩:=isEDict_eq h2
  cases h
  refine own_stmt F S h1 rfl rfl ?_
  rw [eval_Dict_empty]
  refine wpAny_bind (wpAny_standAt (wpAny_newObj_type ⟨kpush _ _,_,rfl,size_none _,?_⟩))
  have hlt:mainGlobals < s.heap.objs.size:=(S.cx F).top.g.lt
  have hne:(s.heap.objs.size == sysModules) = false:=by
    rw [beq_eq_false_iff_ne]
    intro e
    rw [e] at hlt
    exact absurd hlt (by decide)
  exact .dict (kvs:=[]) (Heap.DictOf.new _) hne rfl (Nat.zero_le _) .nil
theorem ex_ownf_ok (he:EvOk prog w p loose mean mg mb lvl Φ e) (F:Fx prog w p loose mean mg mb lvl A env ce Q0 s0):ExOk prog w Φ A env ce Q0 s0 X G n (.ownf x e):=by
  intro st ad σ s out E hc S h hE
  obtain ⟨y,tp,v,pos,rfl,hd⟩:=asg_eq (st:=st) (k:=fun y tp v=>tgt ce y x && (chk e ce v && isNoComp v)) hc
  refine cps fun Gq hGq=>?_
  obtain ⟨h1,hd⟩:=and2 hd
  obtain ⟨r,hr,h⟩:=bind_of h
  obtain ⟨ds,hds,h⟩:=bind_of h
  refine hGq ?_
  clear hGq
  obtain ⟨hcd,rfl⟩:=if_of h
  obtain ⟨hf,hcd⟩:=and2 hcd
  obtain ⟨hrc,hat⟩:=and2 hcd
  refine own_stmt F S h1 (and2 hd).2 rfl (wm (he ce v A env _ _ s _ E (and2 hd).1 (S.cxF F) hr) fun u s₁ h₁=>?_)
  obtain ⟨k1,r1⟩:=h₁
  rw [dL_eq hds] at r1
  induction r1.l with
  | list p1 e1 z1 rs1=>exact ⟨k1,_,rfl,p1.2.1 hf,.list e1 z1 (rs1.atom hat)⟩
theorem ex_unpk {y:Nat} (he:EvOk prog w p loose mean mg mb lvl Φ e) (F:Fx prog w p loose mean mg mb lvl A env ce Q0 s0):ExOk prog w Φ A env ce Q0 s0 X G n (.unpk x y e):=by
  intro st ad σ s out E hc S h hE
  obtain ⟨t,⟨pos,rfl⟩,hd⟩:=got_of (o:=dAssign st) (f:=fun t=>got (dTuple t.1) fun l=>got (dPair l) fun z=>isNm ce x z.1 && (isNm ce y z.2 && (chk e ce t.2 && (isNoComp t.2 && !isTupE t.2)))) hc
  refine cps fun Gq hGq=>?_
  obtain ⟨l,⟨k,tp,e1⟩,hd⟩:=got_of hd
  refine hGq ?_
  clear hGq
  obtain ⟨z,rfl,hd⟩:=got_of hd
  refine cps fun Gq hGq=>?_
  obtain ⟨h1,hd⟩:=and2 hd
  obtain ⟨h2,hd⟩:=and2 hd
  obtain ⟨h3,hd⟩:=and2 hd
  obtain ⟨h4,h5⟩:=and2 hd
  obtain ⟨a,np,e2,g1⟩:=isNm_eq h1
  obtain ⟨b,nq,e3,g2⟩:=isNm_eq h2
  obtain ⟨r,hr,h⟩:=bind_of h
  obtain ⟨ds,hds,h⟩:=bind_of h
  obtain ⟨q,hq,h⟩:=bind_of h
  refine hGq ?_
  clear hGq
  obtain ⟨hrc,rfl⟩:=if_of h
  rw [e1,e2,e3]
  exact unpk_stmt F S g1 g2 h4 (notT h5) hrc ((dT_eq hds).trans (congrArg PV.tup (dTwo_eq hq))) (he ce _ A env _ σ s _ E h3 (S.cx F) hr)
theorem ex_app_ok (he:EvOk prog w p loose mean mg mb lvl Φ e) (F:Fx prog w p loose mean mg mb lvl A env ce Q0 s0):ExOk prog w Φ A env ce Q0 s0 X G n (.app x e):=by
  intro st ad σ s out E hc S h hE
  obtain ⟨v,⟨pos,rfl⟩,hd⟩:=got_of (o:=dExprS st) hc
  obtain ⟨o,as,ap,q,rfl,hline,hbase,hd1⟩:=meth_eq hd
  obtain ⟨h1,hd2⟩:=and2 hd1
  obtain ⟨a,rfl,hd3⟩:=got_of hd2
  obtain ⟨h2,h3⟩:=and2 hd3
  obtain ⟨y,np,rfl,h1⟩:=isNm_eq h1
  refine cps fun Gq hGq=>?_
  obtain ⟨own,ho,h⟩:=bind_of h
  obtain ⟨ds,hds,h⟩:=bind_of h
  obtain ⟨r,hr,h⟩:=bind_of h
  refine hGq ?_
  clear hGq
  obtain ⟨hcd,rfl⟩:=if_of h
  obtain ⟨hrc,hl⟩:=and2 hcd
  obtain ⟨hσ,hoc⟩:=own_of ho
  have htr:backTo q (starEach [a] env) = [(false,eval a env)]:=by
    rw [starEach_ns (by rw [List.all_cons,h3]; rfl),backTo_ns]; rfl
  refine wpAny_Expr (wpAny_Call_append (base_plain hbase) (by rw [htr]; rfl) hline htr (own_read F S h1 hσ hoc fun o=>?_)) ?_ rfl
  · rw [dL_eq hds] at o
    refine cps fun Gq hGq=>?_
    obtain ⟨vs,m,e1,z1,rs1⟩:=o.l
    refine hGq ?_
    clear hGq
    refine ⟨_,vs.toArray,rfl,⟨_,m,e1,rfl,rfl,rfl⟩,wm (he ce a A env _ σ s r E h2 (S.cx F) hr) fun u s₂ h₂=>?_⟩
    obtain ⟨k2,r2⟩:=h₂
    refine wpAny_list_append_plain ⟨m,kheap k2 _ _ e1⟩ (fun h' hpl hs=>?_) (by rw [List.size_toArray,rs1.length]; exact Nat.le_trans z1 lim_size)
    rw [hrc] at r2
    have hb:Ow env X σ ad (ad x):=.inr (.inr (.inr ⟨x,_,hσ,hoc,rfl⟩))
    have key:OwnR prog w h' (Pf Q0 s0.heap (Ow env X σ ad) (own.f && r.f) true) (ad x) (.list (ds ++ [r.d])):=by
      obtain ⟨m',e'⟩:=hpl
      exact .list (vs:=vs ++ [u]) (n:=m') (by rw [e',List.push_toArray]; rfl) (by rw [List.length_append]; exact decT hl) ((((rs1.keeps (kheap k2)).off hs.extBut (fun hp=>hp.2.2 rfl hb)).mono fun a hp=>pf_l hp).append (.one ((r2.off hs.extBut (fun hp=>hp.2.2 rfl hb)).mono fun a hp=>pf_r hp)))
    obtain ⟨S3,x3⟩:=mutate_ok (tk:=s₂.toks) (S.keeps k2) (tgt_of h1).ix (tgt_of h1).uq (tgt_of h1).lc hσ hoc (nr:=⟨.list (ds ++ [r.d]),own.f && r.f,false⟩) rfl hs key
    exact ⟨rfl,ad,S3,ext_trans (ext_keeps k2) x3⟩
  · delta interactive
    rw [F.fn]
    rfl
theorem put_len {ks:List Str} {ds:List PV} {k:Str} {d:PV} (h:ks.length < lim):(put ks ds k d).1.length ≤ lim:=by
  delta put
  by_cases hk:k ∈ ks
  · rw [if_pos hk]; exact Nat.le_of_lt h
  · rw [if_neg hk]; show (ks ++ [k]).length ≤ lim; rw [List.length_append]; exact h
theorem OwnR.d {h:Heap} {P1:Addr → Prop} {a:Addr} {ks:List Str} {ds:List PV} (x:OwnR prog w h P1 a (.dict ks ds)):∃ kvs:List (Str × Value),h.DictOf (strKind prog w) a kvs ∧ (a == sysModules) = false ∧ kvs.map (·.1) = ks ∧ ks.length ≤ lim ∧ RS prog w h P1 (kvs.map (·.2)) ds:=by
  cases x with | dict e q k z r=>exact ⟨_,e,q,k,z,r⟩
theorem ex_put_ok {k:SExpr} (hk:EvOk prog w p loose mean mg mb lvl Φ k) (he:EvOk prog w p loose mean mg mb lvl Φ e) (F:Fx prog w p loose mean mg mb lvl A env ce Q0 s0):ExOk prog w Φ A env ce Q0 s0 X G n (.put x k e):=by
  intro st ad σ s out E hc S h hE
  obtain ⟨t,⟨pos,rfl⟩,hd⟩:=got_of (o:=dAssign st) (f:=fun t=>got (dSub t.1) fun z=>isNm ce x z.1 && (chk k ce z.2 && chk e ce t.2)) hc
  refine cps fun Gq hGq=>?_
  obtain ⟨z,⟨tp,e1⟩,hd⟩:=got_of hd
  obtain ⟨h1,hd⟩:=and2 hd
  obtain ⟨h2,h3⟩:=and2 hd
  obtain ⟨y,np,e2,h1⟩:=isNm_eq h1
  obtain ⟨own,ho,h⟩:=bind_of h
  obtain ⟨kd,hkd,h⟩:=bind_of h
  obtain ⟨r,hr,h⟩:=bind_of h
  obtain ⟨qk,hqk,h⟩:=bind_of h
  obtain ⟨kk,hkk,h⟩:=bind_of h
  refine hGq ?_
  clear hGq
  obtain ⟨hcd,rfl⟩:=if_of h
  obtain ⟨hrc,hl⟩:=and2 hcd
  obtain ⟨hσ,hoc⟩:=own_of ho
  rw [e1,e2]
  refine wpAny_Assign_Subscript (wm (he ce _ A env _ σ s r E h3 (S.cx F) hr) fun u s₁ h₁=>?_) swaps_sub
  obtain ⟨k1,r1⟩:=h₁
  have S1:=S.keeps k1
  refine own_read F S1 h1 hσ hoc fun o=>wm (hk ce _ A env _ σ s₁ qk E h2 (S1.cx F) hqk) fun uk s₂ h₂=>?_
  obtain ⟨k2,rk⟩:=h₂
  rw [dS_eq hkk] at rk
  rw [dD_eq hkd] at o
  induction rk.s with
  | str tk =>
    refine cps fun Gq hGq=>?_
    obtain ⟨kvs,e3,q1,hk1,z1,rs1⟩:=o.d
    refine hGq ?_
    clear hGq
    rw [hrc] at r1
    refine wpAny_setItem_pairs (strKind_is prog w kk tk) (e3.keep (kheap k2)) (fun h' hd' hs=>?_) (by rw [← hk1,List.length_map] at z1; exact Nat.le_trans z1 lim_size)
    have hb:Ow env X σ ad (ad x):=.inr (.inr (.inr ⟨x,_,hσ,hoc,rfl⟩))
    have key:OwnR prog w h' (Pf Q0 s0.heap (Ow env X σ ad) (own.f && r.f) true) (ad x) (.dict (put kd.1 kd.2 kk r.d).1 (put kd.1 kd.2 kk r.d).2):=by
      have a1:=((rs1.keeps (kheap k2)).off hs.extBut (fun hp=>hp.2.2 rfl hb)).mono fun a hp=>pf_l (g:=r.f) hp
      have a2:=((r1.keeps (kheap k2)).off hs.extBut (fun hp=>hp.2.2 rfl hb)).mono fun a hp=>pf_r (f:=own.f) hp
      obtain ⟨p1,p2⟩:=put_kvs (k:=kk) a1 a2
      rw [hk1] at p1 p2
      exact .dict hd' q1 p1 (put_len (decT hl)) p2
    obtain ⟨S3,x3⟩:=mutate_ok (tk:=s₂.toks + 1) (S1.keeps k2) (tgt_of h1).ix (tgt_of h1).uq (tgt_of h1).lc hσ hoc (nr:=⟨.dict (put kd.1 kd.2 kk r.d).1 (put kd.1 kd.2 kk r.d).2,own.f && r.f,false⟩) rfl hs key
    exact ⟨rfl,ad,S3,ext_trans (ext_keeps (ktrans k1 k2)) x3⟩
theorem dPop_of {ds es:List PV} (h:dPop ds = some es):∃ d ds',ds = d :: ds' ∧ es = ds.dropLast:=by
  cases ds with
  | nil=>cases h
  | cons d ds=>exact ⟨d,ds,rfl,(Option.some.inj h).symm⟩
theorem ex_del1 (F:Fx prog w p loose mean mg mb lvl A env ce Q0 s0):ExOk prog w Φ A env ce Q0 s0 X G n (.del1 x):=by
  intro st ad σ s out E hc S h hE
  obtain ⟨t,⟨pos,rfl⟩,hd⟩:=got_of (o:=dDel st) (f:=fun t=>got (dSub t) fun z=>isNm ce x z.1 && isNeg 1 z.2) hc
  obtain ⟨z,⟨tp,rfl⟩,hd⟩:=got_of hd
  refine cps fun Gq hGq=>?_
  obtain ⟨h1,h2⟩:=and2 hd
  obtain ⟨y,np,e2,h1⟩:=isNm_eq h1
  obtain ⟨k',q1,q2,e3⟩:=isNeg_eq h2
  obtain ⟨own,ho,h⟩:=bind_of h
  obtain ⟨dds,hds,h⟩:=bind_of h
  refine hGq ?_
  clear hGq
  obtain ⟨es,hes,rfl⟩:=map_of h
  obtain ⟨d,ds,rfl,rfl⟩:=dPop_of hes
  obtain ⟨hσ,hoc⟩:=own_of ho
  rw [e2,e3]
  refine wpAny_Delete (wpAny_deleteEach_cons (wpAny_delete_Subscript (own_read F S h1 hσ hoc fun o=>neg_eval fun t tk=>?_)))
  have k2:=ktoks s tk
  rw [dL_eq hds] at o
  refine cps fun Gq hGq=>?_
  obtain ⟨vs,m,e1,z1,rs1⟩:=o.l
  refine hGq ?_
  clear hGq
  have hl1:vs.length = ds.length + 1:=rs1.length
  refine wpAny_delItem_plain (k:=ds.length) ⟨m,e1⟩ (by decide) (by rw [List.size_toArray,hl1,seqIndex_back (by decide) (by lia)]; congr 1; lia) (fun h' hpl hs=>?_) (by rw [List.size_toArray,rs1.length]; exact Nat.le_trans z1 lim_size)
  have hb:Ow env X σ ad (ad x):=.inr (.inr (.inr ⟨x,_,hσ,hoc,rfl⟩))
  have key:OwnR prog w h' (Pf Q0 s0.heap (Ow env X σ ad) own.f true) (ad x) (.list (d :: ds).dropLast):=by
    obtain ⟨m',e'⟩:=hpl
    refine .list (vs:=vs.dropLast) (n:=m') ?_ (Nat.le_trans (by rw [List.length_dropLast]; exact Nat.sub_le ..) z1) (cons_dropLast (rs1.off hs.extBut (fun hp=>hp.2.2 rfl hb)))
    have:vs.toArray.eraseIdxIfInBounds ds.length = vs.dropLast.toArray:=by
      rw [List.eraseIdxIfInBounds_toArray]
      congr 1
      rw [List.eraseIdx_eq_dropLast (by lia)]
    rw [e',this]; rfl
  obtain ⟨S3,x3⟩:=mutate_ok (tk:=tk) (S.keeps k2) (tgt_of h1).ix (tgt_of h1).uq (tgt_of h1).lc hσ hoc (nr:=⟨.list (d :: ds).dropLast,own.f,false⟩) rfl hs key
  exact wpAny_deleteEach_nil ⟨rfl,ad,S3,ext_trans (ext_keeps k2) x3⟩
theorem ex_ife {c:SExpr} {a b:List SStmt} (ht:TeOk prog w p loose mean mg mb lvl Φ c) (ha:ExsOk prog w Φ A env ce Q0 s0 X G n a) (hb:ExsOk prog w Φ A env ce Q0 s0 X G n b) (F:Fx prog w p loose mean mg mb lvl A env ce Q0 s0):ExOk prog w Φ A env ce Q0 s0 X G n (.ife c a b):=by
  intro st ad σ s out E hc S h hE
  obtain ⟨t,⟨pos,rfl⟩,hd⟩:=got_of (o:=dIfS st) (f:=fun t=>chk c ce t.1 && (chkSs a ce t.2.1 && chkSs b ce t.2.2)) hc
  refine cps fun Gq hGq=>?_
  obtain ⟨h1,hd⟩:=and2 hd
  obtain ⟨h2,h3⟩:=and2 hd
  obtain ⟨r,hr,h⟩:=bind_of h
  obtain ⟨k,hk,h⟩:=bind_of h
  refine hGq ?_
  clear hGq
  refine wpAny_If (wm (ht ce _ A env _ σ s r k E h1 (S.cx F) hr (boolOf_eq hk)) fun b' s₂ h₂=>?_)
  obtain ⟨rfl,k2⟩:=h₂
  cases b' with
  | true=>exact wm (ha _ ad σ s₂ out E h2 (S.keeps k2) h hE) fun fl s₃ h₃=>h₃.of (ext_keeps k2)
  | false=>exact wm (hb _ ad σ s₂ out E h3 (S.keeps k2) h hE) fun fl s₃ h₃=>h₃.of (ext_keeps k2)
theorem ex_fr_ok {b:List SStmt} (he:EvOk prog w p loose mean mg mb lvl Φ e) (hb:ExsOk prog w Φ A env ce Q0 s0 X G n b) (F:Fx prog w p loose mean mg mb lvl A env ce Q0 s0) (GO:GOk prog w A env ce Q0 s0 X G):ExOk prog w Φ A env ce Q0 s0 X G n (.fr x e b):=by
  intro st ad σ s out E hc S h hE
  obtain ⟨t,⟨pos,rfl⟩,hd⟩:=got_of (o:=dFor st) (f:=fun t=>isNm ce x t.1 && (chk e ce t.2.1 && (!isSetE t.2.1 && chkSs b ce t.2.2))) hc
  refine cps fun Gq hGq=>?_
  obtain ⟨h1,hd⟩:=and2 hd
  obtain ⟨h2,hd⟩:=and2 hd
  obtain ⟨h3,h4⟩:=and2 hd
  obtain ⟨y,np,e2,h1⟩:=isNm_eq h1
  obtain ⟨r,hr,h⟩:=bind_of h
  obtain ⟨ds,hds,h⟩:=bind_of h
  obtain ⟨hrc,h⟩:=ifo_of h
  refine hGq ?_
  clear hGq
  rw [e2]
  exact for_ok F GO S h1 (notT h3) (he ce _ A env _ σ s r E h2 (S.cx F) hr) hrc hds h4 hb h hE
theorem ex_whl_ok {c:SExpr} {b:List SStmt} (ht:TeOk prog w p loose mean mg mb lvl Φ c) (hb:ExsOk prog w Φ A env ce Q0 s0 X G n b) (F:Fx prog w p loose mean mg mb lvl A env ce Q0 s0) (GO:GOk prog w A env ce Q0 s0 X G):ExOk prog w Φ A env ce Q0 s0 X G n (.whl c b):=by
  intro st ad σ s out E hc S h hE
  obtain ⟨t,⟨pos,rfl⟩,hd⟩:=got_of (o:=dWhile st) (f:=fun t=>chk c ce t.1 && chkSs b ce t.2) hc
  exact while_ok ht F GO S (and2 hd).1 (and2 hd).2 hb h hE
theorem ex_ret (he:EvOk prog w p loose mean mg mb lvl Φ e) (F:Fx prog w p loose mean mg mb lvl A env ce Q0 s0):ExOk prog w Φ A env ce Q0 s0 X G n (.ret e):=by
  intro st ad σ s out E hc S h hE
  obtain ⟨v,⟨pos,rfl⟩,hd⟩:=got_of hc
  obtain ⟨r,hr,rfl⟩:=map_of h
  exact wpAny_Return_some (wm (he ce v A env _ σ s r E hd (S.cx F) hr) fun u s₁ h₁=>⟨u,rfl,ktrans S.k0 h₁.1,h₁.2.mono fun a h=>⟨h.1,h.2.1⟩⟩)
theorem ex_rse (he:EvOk prog w p loose mean mg mb lvl Φ e) (F:Fx prog w p loose mean mg mb lvl A env ce Q0 s0) (GO:GOk prog w A env ce Q0 s0 X G):ExOk prog w Φ A env ce Q0 s0 X G n (.rse e):=by
  intro st ad σ s out E hc S h hE
  obtain ⟨v,⟨pos,rfl⟩,hd0⟩:=got_of (o:=dRaise st) hc
  obtain ⟨v,q1,q2,rfl,hg,hst,hd⟩:=call1_eq hd0
  obtain ⟨r,hr,h⟩:=bind_of h
  obtain ⟨m,hm,rfl⟩:=map_of h
  refine GO.rse _ _ _ _ E m s ad σ _ S (notT (and2 hst).1) (fun E'=>wm (he ce v A env _ σ s r E' hd (S.cx F) hr) fun u s₁ h₁=>⟨h₁.1,?_⟩) (hE m rfl)
  have:=h₁.2
  rw [dS_eq hm] at this
  induction this.s with | str t=>exact ⟨t,rfl⟩
theorem ex_brk:ExOk prog w Φ A env ce Q0 s0 X G n .brk:=by
  intro st ad σ s out E hc S h hE
  obtain ⟨⟨zz,q,rfl⟩,zz⟩:=some_of hc
  cases h
  exact wpAny_Break ⟨rfl,ad,S,ext_refl⟩
theorem exs_nil:ExsOk prog w Φ A env ce Q0 s0 X G n []:=by
  intro sts ad σ s out E hc S h hE
  rw [isEmpty_of hc]
  cases h
  exact wpAny_execs_nil ⟨rfl,ad,S,ext_refl⟩
theorem chkSs_rel {ts:List SStmt} {l:List Stmt} (h:isRel t = true) (hc:chkSs (t :: ts) ce l = true):chkSs ts ce l = true:=by
  have e:chkSs (t :: ts) ce l = chkSs ts ce l:=if_pos h
  rw [← e]; exact hc
theorem chkSs_cons {ts:List SStmt} {l:List Stmt} (h:isRel t = false) (hc:chkSs (t :: ts) ce l = true):∃ st sts,l = st :: sts ∧ chkS t ce st = true ∧ chkSs ts ce sts = true:=by
  have hn:¬ isRel t = true:=fun q=>by rw [h] at q; cases q
  cases l with
  | nil =>
    have e:chkSs (t :: ts) ce [] = false:=if_neg hn
    rw [e] at hc; cases hc
  | cons st sts =>
    have e:chkSs (t :: ts) ce (st :: sts) = (chkS t ce st && chkSs ts ce sts):=if_neg hn
    rw [e] at hc
    exact ⟨st,sts,rfl,and2 hc⟩
theorem exs_cons {ts:List SStmt} (F:Fx prog w p loose mean mg mb lvl A env ce Q0 s0) (ht:ExOk prog w Φ A env ce Q0 s0 X G n t) (hts:ExsOk prog w Φ A env ce Q0 s0 X G n ts):ExsOk prog w Φ A env ce Q0 s0 X G n (t :: ts):=by
  intro sts ad σ s out E hc S h hE
  obtain ⟨o,ho,h⟩:=bind_of h
  cases hrel:isRel t with
  | true =>
    have hc:=chkSs_rel hrel hc
    have key:∃ x,t = .rel x:=by cases t <;> first | exact ⟨_,rfl⟩ | cases hrel
    obtain ⟨x,rfl⟩:=key
    obtain ⟨q,hq,rfl⟩:=map_of ho
    refine cps fun Gq hGq=>?_
    obtain ⟨hσ,hoc⟩:=own_of hq
    obtain ⟨d,f,c⟩:=q
    refine hGq ?_
    clear hGq
    cases hoc
    obtain ⟨S',x'⟩:=S.rel F.q0 hσ
    exact wm (hts sts ad _ s out E hc S' h hE) fun fl s₃ h₃=>h₃.of x'
  | false =>
    obtain ⟨st,rest,rfl,hc1,hc2⟩:=chkSs_cons hrel hc
    · refine wpAny_execs_cons (wm (ht st ad σ s o E hc1 S ho ?_) fun fl s₁ h₁=>?_)
      · intro m hm
        subst hm
        exact hE m (Option.some.inj h).symm
      · cases o with
        | next σ' =>
          obtain ⟨rfl,ad',S',x'⟩:=h₁
          exact wm (hts rest ad' σ' s₁ out E hc2 S' h hE) fun fl s₃ h₃=>h₃.of x'
        | brk σ' =>
          cases h
          obtain ⟨rfl,r⟩:=h₁
          exact ⟨rfl,r⟩
        | ret r =>
          cases h
          obtain ⟨v,rfl,r⟩:=h₁
          exact ⟨v,rfl,r⟩
        | exc m=>exact h₁.elim
end
theorem exs (D:Wd prog w p loose mean mg mb) (H:Hard prog w) (T:Ctr prog w p loose mean mg mb lvl Φ) (F:Fx prog w p loose mean mg mb lvl A env ce Q0 s0) (GO:GOk prog w A env ce Q0 s0 X G) (ts:List SStmt):ExsOk prog w Φ A env ce Q0 s0 X G n ts :=
  SStmt.rec_1 (motive_1:=ExOk prog w Φ A env ce Q0 s0 X G n) (motive_2:=ExsOk prog w Φ A env ce Q0 s0 X G n)
    (fun zz e=>ex_set (ev D H T e) F) (fun zz e=>ex_setc D H T F) (fun zz es=>ex_ownl (fun e zz=>eok D H T e) F) (fun zz=>ex_ownd F) (fun zz e=>ex_ownf_ok (ev D H T e) F) (fun zz zz e=>ex_unpk (ev D H T e) F) (fun zz e=>ex_app_ok (ev D H T e) F) (fun zz k e=>ex_put_ok (ev D H T k) (ev D H T e) F) (fun zz=>ex_del1 F)
    (fun c zz zz ha hb=>ex_ife (te D H T c) ha hb F) (fun zz e zz hb=>ex_fr_ok (ev D H T e) hb F GO) (fun c zz hb=>ex_whl_ok (te D H T c) hb F GO) (fun e=>ex_ret (ev D H T e) F) (fun e=>ex_rse (ev D H T e) F GO) ex_brk (fun zz zz zz zz zz zz zz hc=>nomatch hc) exs_nil (fun zz zz=>exs_cons F) ts
theorem ex (D:Wd prog w p loose mean mg mb) (H:Hard prog w) (T:Ctr prog w p loose mean mg mb lvl Φ) (F:Fx prog w p loose mean mg mb lvl A env ce Q0 s0) (GO:GOk prog w A env ce Q0 s0 X G) (ts:SStmt):ExOk prog w Φ A env ce Q0 s0 X G n ts :=
  SStmt.rec (motive_1:=ExOk prog w Φ A env ce Q0 s0 X G n) (motive_2:=ExsOk prog w Φ A env ce Q0 s0 X G n)
    (fun zz e=>ex_set (ev D H T e) F) (fun zz e=>ex_setc D H T F) (fun zz es=>ex_ownl (fun e zz=>eok D H T e) F) (fun zz=>ex_ownd F) (fun zz e=>ex_ownf_ok (ev D H T e) F) (fun zz zz e=>ex_unpk (ev D H T e) F) (fun zz e=>ex_app_ok (ev D H T e) F) (fun zz k e=>ex_put_ok (ev D H T k) (ev D H T e) F) (fun zz=>ex_del1 F)
    (fun c zz zz ha hb=>ex_ife (te D H T c) ha hb F) (fun zz e zz hb=>ex_fr_ok (ev D H T e) hb F GO) (fun c zz hb=>ex_whl_ok (te D H T c) hb F GO) (fun e=>ex_ret (ev D H T e) F) (fun e=>ex_rse (ev D H T e) F GO) ex_brk (fun zz zz zz zz zz zz zz hc=>nomatch hc) exs_nil (fun zz zz=>exs_cons F) ts
end
end Mine
namespace Mine
open PySem PySem.SeqAt PySem.Calls PyProof.Rows
noncomputable def ceOf (names:List Str) (scope:Scope):CE:=⟨names,fun x=>scope.names.lookup x⟩
noncomputable def kindOk (scope:Scope) (x:Str):Bool:=isLC (scope.names.lookup x)
noncomputable def fnOk (d:DefRec) (xs ys:List Str) (ts:List SStmt):Bool :=
  chkSs ts (ceOf (xs ++ ys) d.scope) d.body && !d.scope.isCoroutine && !d.scope.isGenerator && isFn d.scope.kind && xs.all (kindOk d.scope) && decide xs.Nodup && d.scope.names.all (fun y=>!isFree y.2) && decide (d.params.args.map (·.arg) = xs)
theorem bindL_other {κ:Str → Option NameKind} {n:Str}:∀ (binds:List (Str × Value)) (m:Str → Option Value),n ∉ binds.map (·.1) → bindL κ binds m n = m n
  | [],_,_=>rfl
  | (k,v) :: r,m,h=>by
    simp only [List.map_cons,List.mem_cons,not_or] at h
    unfold bindL
    rw [bindL_other r _ h.2]
    split
    · exact if_neg h.1
    · rfl
theorem bindC_other {κ:Str → Option NameKind} {n:Str}:∀ (binds:List (Str × Value)) (m:Str → Option Value),n ∉ binds.map (·.1) → bindC κ binds m n = m n
  | [],_,_=>rfl
  | (k,v) :: r,m,h=>by
    simp only [List.map_cons,List.mem_cons,not_or] at h
    unfold bindC
    rw [bindC_other r _ h.2]
    split
    · rfl
    · exact if_neg h.1
theorem bindL_at {κ:Str → Option NameKind} {n:Str} {v:Value} (hκ:κ n = some .local):∀ (binds:List (Str × Value)) (m:Str → Option Value),(binds.map (·.1)).Nodup → (n,v) ∈ binds → bindL κ binds m n = some v
  | (k,u) :: r,m,hn,h=>by
    simp only [List.map_cons,List.nodup_cons] at hn
    unfold bindL
    rcases List.mem_cons.mp h with e | h
    · cases e
      rw [bindL_other r _ hn.1,if_pos hκ,if_pos rfl]
    · exact bindL_at hκ r _ hn.2 h
theorem bindC_at {κ:Str → Option NameKind} {n:Str} {v:Value} (hκ:κ n = some .cell):∀ (binds:List (Str × Value)) (m:Str → Option Value),(binds.map (·.1)).Nodup → (n,v) ∈ binds → bindC κ binds m n = some v
  | (k,u) :: r,m,hn,h=>by
    simp only [List.map_cons,List.nodup_cons] at hn
    unfold bindC
    rcases List.mem_cons.mp h with e | h
    · cases e
      rw [bindC_other r _ hn.1,if_neg (by rw [hκ]; decide),if_pos rfl]
    · exact bindC_at hκ r _ hn.2 h
theorem cellsFrom_some {y:Str}:∀ (l:List (Str × NameKind)) (n:Nat) (acc:List (Str × Addr)),((y,NameKind.cell) ∈ l ∨ (acc.lookup y).isSome = true) → ((cellsFrom n l acc).lookup y).isSome = true
  | [],_,acc,h=>by
    rcases h with h | h
    · cases h
    · exact h
  | (k,kd) :: r,n,acc,h=>by
    unfold cellsFrom
    split
    · rename_i hk
      refine cellsFrom_some r _ _ ?_
      by_cases e:y = k
      · refine .inr ?_
        rw [List.lookup_cons,e]
        simp
      · rcases h with h | h
        · rcases List.mem_cons.mp h with e' | h
          · cases e'; exact absurd rfl e
          · exact .inl h
        · refine .inr ?_
          rw [List.lookup_cons]
          have:(y == k) = false:=by simpa using e
          rw [this]; exact h
    · rename_i hk
      refine cellsFrom_some r _ _ ?_
      rcases h with h | h
      · rcases List.mem_cons.mp h with e' | h
        · cases e'; exact absurd rfl hk
        · exact .inl h
      · exact .inr h
section
variable {prog:Program} {w:World} {p:Program} {loose:List Str} {mean:ExcName → Option Value} {mg mb:Str → Option Value} {lvl:Nat} {A:Around} {E:Value → Shared → Prop} {s:Shared} {Φ:FTab}
theorem Ctr.up (T:Ctr prog w p loose mean mg mb lvl Φ):Ctr prog w p loose mean mg mb (lvl + 1) Φ:=by
  intro f ds d fr h
  refine cps fun Gq hGq=>?_
  obtain ⟨a,h1,h2,h3⟩:=T f ds d fr h
  refine hGq ?_
  clear hGq
  exact ⟨a,h1,h2,fun A E s vs Q hh hd hu=>h3 A E s vs Q hh (by lia) (by lia)⟩
theorem zip_get {xs:List Str} {vs:List Value}:∀ {i:Nat} {x:Str} {v:Value},xs[i]? = some x → vs[i]? = some v → (x,v) ∈ xs.zip vs:=by
  induction xs generalizing vs with
  | nil=>intro i x v h; simp at h
  | cons y ys ih =>
    intro i x v h1 h2
    cases vs with
    | nil=>simp at h2
    | cons u us =>
      cases i with
      | zero=>simp at h1 h2; subst h1; subst h2; simp
      | succ i =>
        simp only [List.zip_cons_cons]
        exact List.mem_cons_of_mem _ (ih (by simpa using h1) (by simpa using h2))
theorem zip_keys {xs:List Str} {vs:List Value} (h:xs.length = vs.length):(xs.zip vs).map (·.1) = xs:=by
  induction xs generalizing vs with
  | nil=>rfl
  | cons y ys ih =>
    cases vs with
    | nil=>simp at h
    | cons u us=>simp only [List.zip_cons_cons,List.map_cons]; rw [ih (by simpa using h)]
structure FnFacts (d:DefRec) (xs ys:List Str) (ts:List SStmt):Prop where
  chk:chkSs ts (ceOf (xs ++ ys) d.scope) d.body = true
  co:d.scope.isCoroutine = false
  gen:d.scope.isGenerator = false
  kind:d.scope.kind = .function
  ps:∀ x ∈ xs,isLC (d.scope.names.lookup x) = true
  nd:xs.Nodup
  free:∀ y ∈ d.scope.names,y.2 ≠ .free
  args:d.params.args.map (·.arg) = xs
theorem fnOk_facts {d:DefRec} {xs ys:List Str} {ts:List SStmt} (h:fnOk d xs ys ts = true):FnFacts d xs ys ts:=by
  delta fnOk at h
  simp only [Bool.and_eq_true,Bool.not_eq_true',decide_eq_true_eq,List.all_eq_true] at h
  refine cps fun Gq hGq=>?_
  obtain ⟨⟨⟨⟨⟨⟨⟨h1,h2⟩,h3⟩,h4⟩,h5⟩,h6⟩,h7⟩,h8⟩:=h
  refine hGq ?_
  clear hGq
  exact ⟨h1,h2,h3,isFn_eq h4,fun x hx=>h5 x hx,h6,(fun y hy e=>by have:=h7 y hy; rw [isFree_eq e] at this; cases this),h8⟩
theorem mem_lookup_kind {l:List (Str × NameKind)} {y:Str} {k:NameKind} (h:l.lookup y = some k):(y,k) ∈ l:=mem_of_lookup h
theorem frame_start {d:DefRec} {xs ys:List Str} {ts:List SStmt} {a:Addr} {cd:Value} {h₁:Heap} {tk:Nat} {vs:List Value} {ds:List PV} {Q:Addr → Prop} (FF:FnFacts d xs ys ts) (hh:A.handled = none) (hd:A.depth + (lvl + 1) < recursionLimit) (hu:A.units + 16 * (lvl + 1) + 64 < cLine)
    (hT:Top p loose mean mg mb s.heap) (hQ:∀ b,s.heap.get? b = none → Q b) (hr:RS prog w s.heap Q vs ds) (hl:xs.length = vs.length)
    (Fr1:Fr s.heap s.heap.objs.size h₁ (bindL (envOfC d.name d.scope s.heap.objs.size a cd).kindOf (xs.zip vs) fun zz=>none))
    (Cl1:Cl s.heap.objs.size (cellsFrom (s.heap.objs.size + 1) d.scope.names []) h₁ (bindC (envOfC d.name d.scope s.heap.objs.size a cd).kindOf (xs.zip vs) fun zz=>none)) :
    Fx prog w p loose mean mg mb lvl (A.deeper (envOfC d.name d.scope s.heap.objs.size a cd)) (envOfC d.name d.scope s.heap.objs.size a cd) (ceOf (xs ++ ys) d.scope) Q s ∧
    Sx prog w (envOfC d.name d.scope s.heap.objs.size a cd) (ceOf (xs ++ ys) d.scope) Q s (fun zz=>False) (fun zz=>0) (initσ ys.length ds) { s with heap:=h₁,toks:=tk }:=by
  have kOf:∀ x,(envOfC d.name d.scope s.heap.objs.size a cd).kindOf x = d.scope.names.lookup x:=fun zz=>rfl
  have nolive:∀ b,s.heap.objs.size ≤ b → s.heap.get? b = none:=fun b hb=>by
    cases e:s.heap.get? b with
    | none=>rfl
    | some o=>exact absurd (Heap.lt_size e) (Nat.not_lt.mpr hb)
  have cells:∀ y,hasCell (d.scope.names.lookup y) = true → ∃ c,(cellsFrom (s.heap.objs.size + 1) d.scope.names []).lookup y = some c:=by
    intro y hy
    cases hk:d.scope.names.lookup y with
    | none=>rw [hk] at hy; cases hy
    | some k =>
      rw [hk] at hy
      have hm:=mem_lookup_kind hk
      cases k with
      | cell=>exact Option.isSome_iff_exists.mp (cellsFrom_some _ _ _ (.inl hm))
      | free=>exact absurd rfl (FF.free _ hm)
      | _=>cases hy
  have hlen:=hr.length
  have slot:∀ (i:Nat) (r:RV),(initσ ys.length ds)[i]? = some (some r) → ∃ dd,ds[i]? = some dd ∧ r = parg dd:=by
    intro i r h
    delta initσ at h
    by_cases hi:i < ds.length
    · rw [List.getElem?_append_left (by simpa using hi),List.getElem?_map,Option.map_eq_some_iff] at h
      obtain ⟨dd,h1,h2⟩:=h
      exact ⟨dd,h1,(Option.some.inj h2).symm⟩
    · rw [List.getElem?_append_right (by simpa using hi)] at h
      have:=List.mem_of_getElem? h
      rw [List.mem_replicate] at this
      cases this.2
  have pc:∀ dd,(parg dd).c = true:=fun dd=>by delta parg; split <;> rfl
  have ow:∀ b,Ow (envOfC d.name d.scope s.heap.objs.size a cd) (fun zz=>False) (initσ ys.length ds) (fun zz=>0) b → b = s.heap.objs.size ∨ ∃ y,(cellsFrom (s.heap.objs.size + 1) d.scope.names []).lookup y = some b:=by
    intro b hb
    rcases hb with h | h | h | ⟨i,r,h1,h2,zz⟩
    · exact h.elim
    · exact .inl h
    · exact .inr h
    · obtain ⟨dd,zz,rfl⟩:=slot i r h1
      rw [pc] at h2; cases h2
  have owN:∀ b,Ow (envOfC d.name d.scope s.heap.objs.size a cd) (fun zz=>False) (initσ ys.length ds) (fun zz=>0) b → s.heap.get? b = none:=by
    intro b hb
    rcases ow b hb with e | ⟨y,hy⟩
    · rw [e]; exact size_none _
    · exact nolive b (Nat.le_of_lt (Cl1.above y b (mem_of_lookup hy)))
  refine ⟨⟨hh,by show A.depth + 1 + lvl < _; lia,by show A.units + 3 + 16 * lvl + 64 < _; lia,FF.kind,rfl,rfl,fun x=>rfl,cells,hQ,?_,?_,hT⟩,?_⟩
  · intro y z c hy hz
    exact name_of_addr Cl1.apart (mem_of_lookup hy) (mem_of_lookup hz)
  · intro y c hy e
    exact absurd (Cl1.above y c (mem_of_lookup hy)) (by rw [e]; exact Nat.lt_irrefl _)
  · refine ⟨?_,⟨h₁,tk,s.drawn,rfl,Fr1.keep⟩,owN,?_,⟨_,Fr1.ns⟩,fun y c hy=>⟨_,Cl1.cell y c hy⟩,?_,?_,?_,fun b hb=>hb.elim⟩
    · delta initσ ceOf; simp; lia
    · intro b hb
      rcases ow b hb with e | ⟨y,hy⟩
      · obtain ⟨o,zz,zz,ho,zz⟩:=Fr1.ns
        exact ⟨o,by rw [e]; exact ho⟩
      · obtain ⟨o,ho,zz⟩:=Cl1.cell y b hy
        exact ⟨o,ho⟩
    · intro x i r h1 h2 h3
      obtain ⟨dd,hdd,rfl⟩:=slot i r h3
      have hi:i < ds.length:=by
        rcases Nat.lt_or_ge i ds.length with h | h
        · exact h
        · rw [List.getElem?_eq_none h] at hdd; cases hdd
      obtain ⟨v,hv,rv⟩:=hr.get hdd
      have hx:xs[i]? = some x:=by
        have:=lastIdx_get h1
        simp only [ceOf] at this
        rw [List.getElem?_append_left (by lia)] at this
        exact this
      have hmem:=zip_get hx hv
      have hnd:((xs.zip vs).map (·.1)).Nodup:=by rw [zip_keys hl]; exact FF.nd
      refine ⟨v,?_,fun zz=>?_,fun h=>by rw [pc] at h; cases h⟩
      · have hk:=FF.ps x (List.mem_of_getElem? hx)
        cases hkk:d.scope.names.lookup x with
        | none=>rw [hkk] at hk; cases hk
        | some k =>
          rw [hkk] at hk
          cases k with
          | «local»=>exact .inl ⟨hkk,_,Fr1.ns,bindL_at hkk _ _ hnd hmem⟩
          | cell =>
            obtain ⟨c,hc⟩:=cells x (by rw [hkk]; rfl)
            refine .inr ⟨.inl hkk,c,hc,?_⟩
            have:=Cl1.cell x c hc
            rw [bindC_at hkk _ _ hnd hmem] at this
            exact this
          | _=>cases hk
      · have rv1:R prog w h₁ (Pf Q s.heap (Ow (envOfC d.name d.scope s.heap.objs.size a cd) (fun zz=>False) (initσ ys.length ds) (fun zz=>0)) false true) v dd :=
          rv.frame fun b o hq zz e=>⟨Fr1.keep b o e,hq,(fun h=>by cases h),fun zz ho=>by rw [owN b ho] at e; cases e⟩
        delta parg
        split
        · rename_i ha; exact rv1.atom ha
        · exact rv1
    · intro i j r r' h1 h2 zz zz zz
      obtain ⟨dd,zz,rfl⟩:=slot i r h1
      rw [pc] at h2; cases h2
    · intro i r h1 h2
      obtain ⟨dd,zz,rfl⟩:=slot i r h1
      rw [pc] at h2; cases h2
theorem Ctr.add {d:DefRec} {xs ys:List Str} {ts:List SStmt} {g:List PV → Option (PV × Bool)} (T:Ctr prog w p loose mean mg mb lvl Φ) (D:Wd prog w p loose mean mg mb) (H:Hard prog w) (hT:∃ h,Top p loose mean mg mb h) (hd:d ∈ recsOf p) (FF:FnFacts d xs ys ts)
    (hbind:∀ pm code doc (vals:List Value),vals.length = xs.length → bindArgs (docDef d.name d.params d.body d.scope pm code doc) ⟨vals,[]⟩ = pure (xs.zip vals))
    (hg:∀ ds r,g ds = some r → ds.length = xs.length ∧ ∃ n q,aexecs Φ n ts (initσ ys.length ds) = some (.ret q) ∧ q.d = r.1 ∧ (r.2 = true → q.f = true)) :
    Ctr prog w p loose mean mg mb (lvl + 1) (updΦ Φ d.name g):=by
  intro f ds dd fr h
  delta updΦ at h
  split at h
  · rename_i hf
    subst hf
    refine cps fun Gq hGq=>?_
    obtain ⟨hlen,n,q,hex,hqd,hqf⟩:=hg ds _ h
    obtain ⟨H0,T0⟩:=hT
    obtain ⟨a,zz,zz,zz,zz,ha,zz⟩:=T0.fn d hd
    refine hGq ?_
    clear hGq
    have fn:∀ h,Top p loose mean mg mb h → ∃ o pm code doc,h.get? a = some o ∧ o.data = .func (docDef d.name d.params d.body d.scope pm code doc) ∧ h.CodeRec code d.name:=by
      intro h Th
      refine cps fun Gq hGq=>?_
      obtain ⟨a',o,pm,code,doc,h1,h2,h3,h4⟩:=Th.fn d hd
      refine hGq ?_
      clear hGq
      rw [ha] at h1
      cases h1
      exact ⟨o,pm,code,doc,h2,h3,h4⟩
    refine ⟨a,ha,fun h Th=>?_,?_⟩
    · obtain ⟨o,zz,zz,zz,h1,h2,zz⟩:=fn h Th
      exact ⟨o,_,h1,h2⟩
    · intro A E s vs Q hh hd' hu hTs hQ hr
      refine cps fun Gq hGq=>?_
      obtain ⟨o,pm,code,doc,ho,hdat,hcd⟩:=fn s.heap hTs
      refine hGq ?_
      clear hGq
      have hl:xs.length = vs.length:=by rw [← hlen,hr.length]
      refine wpAny_call (call_cells (by lia) ho hdat hTs.nolimit hcd (hbind pm code doc vs hl.symm) ?_ (fun h₁ tk Fr1 Cl1=>?_) FF.co FF.gen FF.kind)
      · intro x hx
        have hx1:x.1 ∈ xs:=by
          have:=List.mem_map_of_mem (f:=(·.1)) hx
          rwa [zip_keys hl] at this
        have hk:=FF.ps x.1 hx1
        cases hkk:d.scope.names.lookup x.1 with
        | none=>rw [hkk] at hk; cases hk
        | some k =>
          rw [hkk] at hk
          cases k with
          | «local»=>exact .inl rfl
          | cell=>exact .inr ⟨rfl,cellsFrom_some _ _ _ (.inl (mem_lookup_kind hkk))⟩
          | _=>cases hk
      · obtain ⟨Fx1,Sx1⟩:=frame_start (tk:=tk) FF hh hd' hu hTs hQ hr hl Fr1 Cl1
        refine wm (exs (G:=fun zz zz=>False) D H T Fx1 ⟨fun zz zz h=>h.elim,fun zz zz zz zz zz zz zz zz zz zz zz zz zz h=>h.elim⟩ ts d.body _ _ _ _ _ FF.chk Sx1 hex (fun m hm=>by cases hm)) (fun fl s' h'=>?_)
        obtain ⟨v,rfl,k,r⟩:=h'
        rw [hqd] at r
        exact ⟨k,r.mono fun b hb=>⟨hb.1,fun hfr=>hb.2 (hqf hfr)⟩⟩
  · exact T.up f ds dd fr h
end
end Mine
namespace Mine
open PySem PySem.Calls PyProof.Rows
open Builtin Builtin.Str
inductive ExcO (h:Heap) (C:Addr) (bm:List Value) (newId:String):Prop
  | mk {N nm q bs hdct sn sub ab col dd k0 k1 k2 k3 k5 mN}:h.get? C = some (excClassObj nm q C N bs bm hdct sn sub ab col dd k0 k1 k2 k3 k5 newId) → h.Ns N mN → mN ("__str__":Str) = none → ExcO h C bm newId
structure ExcC (h:Heap) (C:Addr) (bm:List Value) (newId:String):Prop where
  obj:ExcO h C bm newId
  mro:mroOf (.type "Exception") = pure bm
  has:bm.contains (.type "BaseException") = true
theorem ExcC.keeps {h h':Heap} {C:Addr} {bm:List Value} {newId:String} (x:ExcC h C bm newId) (hk:∀ b o,h.get? b = some o → h'.get? b = some o):ExcC h' C bm newId :=
  ⟨by cases x.obj with | mk hC hN hs=>exact .mk (hk _ _ hC) (hN.keeps hk) hs,x.mro,x.has⟩
section
variable {prog:Program} {w:World} {A:Around} {E:Value → Shared → Prop} {s:Shared} {C e t0:Addr} {bm:List Value} {newId:String} {oe:Obj} {vs:Array Value}
theorem bexcArgs_own {M:Model} {items:List Value} {Q:Value × List Value → Shared → Prop} (ho:s.heap.get? e = some oe) (hd:oe.data = .fields vs) (h0:vs[0]? = some (.ref t0)) (ht:s.heap.TupAt t0 items) (hq:Q (.ref t0,items) s) :
    wpAny M A (Builtin.BaseException.bexcArgs (.ref e)) Q E s:=by
  refine cps fun Gq hGq=>?_
  obtain ⟨ot,k,hto,zz,htd⟩:=ht
  refine hGq ?_
  clear hGq
  delta Builtin.BaseException.bexcArgs
  refine wpAny_bind (wpAny_field ho hd h0 (wpAny_bind (wpAny_seqItems hto htd ?_)))
  have:items.toArray.toList = items:=by simp
  show wpAny M A (pure (Value.ref t0,items.toArray.toList)) Q E s
  rw [this]; exact wpAny_pure hq
theorem str_entry_own {m:Str} {tk:Tok} {Q:PySem.Fin → Shared → Prop} (ho:s.heap.get? e = some oe) (hd:oe.data = .fields vs) (h0:vs[0]? = some (.ref t0)) (ht:s.heap.TupAt t0 [.str m tk]) (hq:Q (.done (.ret (.str m tk))) s) :
    wpAny (model prog w) A (Builtin.«BaseException.__str__» ⟨[.ref e],[]⟩) Q E s:=by
  delta Builtin.«BaseException.__str__»
  repeat (first | with_reducible refine bexcArgs_own ho hd h0 ht ?_ | wp_step)
  exact hq
theorem check_str_own {M:Model} {Q:Unit → Shared → Prop} (K:ExcC s.heap C bm newId) (ho:s.heap.get? e = some oe) (hc:oe.cls = .ref C) (hq:Q () s):wpAny M A (checkBuiltinCall "BaseException.__str__" ⟨[.ref e],[]⟩) Q E s:=by
  have hk:builtinKind "BaseException.__str__" = some .slot:=by decide +kernel
  have hsplit:splitId "BaseException.__str__" = some ("BaseException","__str__"):=by decide +kernel
  have hcB:(Value.ref C :: bm).contains (.type "BaseException") = true:=by rw [List.contains_cons,K.has]; simp
  have ha:=F.args_bexc_str (.ref e)
  obtain @⟨N,nm,q,bs,hdct,sn,sub,ab,col,dd,k0,k1,k2,k3,k5,mN,hC,hN,hs⟩:=K.obj
  refine cps fun Gq hGq=>?_
  obtain ⟨h,g,d,t,os⟩:=s
  refine hGq ?_
  clear hGq
  simp only [checkBuiltinCall,hk,hsplit]
  refine wpAny_bind ?_
  · delta isInstance
    repeat (first | (with_reducible refine wpAny_loadPart_at ho ?_; rw [hc]) | (with_reducible refine wpAny_isSubtype_exc hC ?_; rw [hcB]) | wp_step)
    exact hq
theorem typeLookup_str_own {M:Model} {Q:Option Value → Shared → Prop} (K:ExcC s.heap C bm newId) (hq:Q (some (.builtin "BaseException.__str__")) s):wpAny M A (typeLookup (.ref C) "__str__") Q E s:=by
  obtain @⟨N,nm,q,bs,hdct,sn,sub,ab,col,dd,k0,k1,k2,k3,k5,mN,hC,hN,hs⟩:=K.obj
  have hB:=F.excStr_Exception.str.lookup
  have hrest:lookupAlong bm "__str__" = pure (some (.builtin "BaseException.__str__")):=by rw [typeLookup_eq,K.mro] at hB; exact hB
  refine cps fun Gq hGq=>?_
  obtain ⟨h,g,d,t,os⟩:=s
  refine hGq ?_
  clear hGq
  rw [typeLookup_eq]
  refine wpAny_bind (wpAny_mroOf_exc hC ?_)
  rw [lookupAlong_cons]
  refine wpAny_bind (wpAny_classOwn_exc hC hN ?_)
  rw [hs]
  show wpAny _ _ (lookupAlong bm "__str__") _ _ _
  rw [hrest]
  exact wpAny_pure hq
theorem typeOf_own {M:Model} {Q:Value → Shared → Prop} (ho:s.heap.get? e = some oe) (hc:oe.cls = .ref C) (hq:Q (.ref C) s):wpAny M A (typeOf (.ref e)) Q E s:=by
  refine cps fun Gq hGq=>?_
  obtain ⟨h,g,d,t,os⟩:=s
  refine hGq ?_
  clear hGq
  delta typeOf
  repeat (first | (with_reducible refine wpAny_loadPart_at ho ?_; rw [hc]) | wp_step)
  exact hq
theorem strOf_own (hu:A.units < cLine) {m:Str} {tk:Tok} {Q:Value → Shared → Prop} (K:ExcC s.heap C bm newId) (ho:s.heap.get? e = some oe) (hc:oe.cls = .ref C) (hd:oe.data = .fields vs) (h0:vs[0]? = some (.ref t0)) (ht:s.heap.TupAt t0 [.str m tk]) (hq:Q (.str m tk) s) :
    wpAny (model prog w) A (Builtin.Str.strOf (.ref e)) Q E s:=by
  have key:∀ {Q':Option Value → Shared → Prop},Q' (some (.str m tk)) s → wpAny (model prog w) A (callSpecial? (.ref e) (Str.ofString "__str__")) Q' E s:=by
    intro Q' hq'
    delta callSpecial? specialOf
    refine wpAny_bind (wpAny_bind (typeOf_own ho hc (typeLookup_str_own K ?_)))
    refine wpAny_holding (wpAny_bind ?_)
    rw [F.excStr_Exception.str.bind]
    refine wpAny_pure (wpAny_bind (wpAny_mono (?_:wpAny _ _ _ (fun v s'=>v = .str m tk ∧ s' = s) _ _) (fun v s' h'=>?_) fun zz zz x=>x))
    · refine wpAny_call (codeAny_call_builtin F.excStr_Exception.str.plain F.entry_bexc_str (check_str_own K ho hc (str_entry_own ho hd h0 ht ⟨rfl,rfl⟩)))
    · obtain ⟨rfl,rfl⟩:=h'
      exact wpAny_pure hq'
  delta Builtin.Str.strOf
  repeat (first | with_reducible refine wpAny_cRoomFor hu ?_ | with_reducible refine key ?_ | wp_step)
  exact hq
theorem str_own (hu:A.units + 2 < cLine) {m:Str} {tk:Tok} {Q:Value → Shared → Prop} (K:ExcC s.heap C bm newId) (ho:s.heap.get? e = some oe) (hc:oe.cls = .ref C) (hd:oe.data = .fields vs) (h0:vs[0]? = some (.ref t0)) (ht:s.heap.TupAt t0 [.str m tk]) (h:Q (.str m tk) s) :
    wpAny (model prog w) A (call (.type "str") [.ref e]) Q E s :=
  callType_new F.called_str (by decide) (F.typeCall_str_1 _) (F.newCall_str_1 _) (fun obj=>F.args_object_init_2 obj _) F.entry_str_new
    (meets_str_new (S:=fun A' R s'=>A'.units + 1 < cLine ∧ s'.heap = s.heap ∧ R (.ok (.ret (.str m tk))) s')
      fun zz zz A' zz s' hq=>by
        have e2:=hq.2.1
        exact strOf_own (A:=A'.in1) hq.1 (by rw [e2]; exact K) (by rw [e2]; exact ho) hc hd h0 (by rw [e2]; exact ht) hq.2.2)
    ⟨(show A.units + 1 + 1 < cLine from hu),rfl,typeIs_str _ _ _,h⟩
end
end Mine
namespace Mine
open PySem PySem.SeqAt PySem.Calls PyProof.Rows
noncomputable def Up (base:Heap) (env:Env) (outer:List Env) (C:Addr) (s0:Shared) (m:Str) (x:Value) (s':Shared):Prop :=
  (∃ h tk dr,s' = { s0 with heap:=h,toks:=tk,drawn:=dr }) ∧ s0.heap.UpToSlots s'.heap ∧
    ((∃ e hh tk,x = .ref e ∧ base.StaysIn hh ∧ hh.FunFrames base (env :: outer) ∧ Heap.MadeExcOf hh s'.heap e (.ref C) [.str m tk]) ∨
     (∃ e t tk,x = .ref e ∧ Heap.HeldW base (env :: outer) e (.ref C) (.ref t) env.locals s'.heap ∧ s'.heap.TupAt t [.str m tk] ∧ base.get? t = none))
noncomputable def Fly (base:Heap) (outer:List Env) (C:Addr) (s0:Shared) (m:Str) (x:Value) (s':Shared):Prop :=
  (∃ h tk dr,s' = { s0 with heap:=h,toks:=tk,drawn:=dr }) ∧ s0.heap.UpToSlots s'.heap ∧ ∃ e t tk,x = .ref e ∧ Heap.FlyingW base outer e (.ref C) (.ref t) s'.heap ∧ s'.heap.TupAt t [.str m tk] ∧ base.get? t = none
section
variable {M:Model} {A:Around} {E:Value → Shared → Prop} {s:Shared} {base:Heap} {env:Env} {outer:List Env} {L e:Addr}
theorem note_made {hh:Heap} {cls:Value} {args:List Value} {Q:Unit → Shared → Prop} (hfr:A.frames = some (env :: outer)) (hf:env.frame = some L) (hkb:base.StaysIn hh) (hl:hh.FunFrames base (env :: outer)) (hx:Heap.MadeExcOf hh s.heap e cls args)
    (hQ:∀ h' t,Heap.HeldW base (env :: outer) e cls (.ref t) L h' → h'.TupAt t args → base.get? t = none → s.heap.UpToSlots h' → Q () { s with heap:=h' }):wpAny M A (noteFrame (.ref e) env) Q E s:=by
  refine cps fun Gq hGq=>?_
  obtain ⟨t,he,htn,ht⟩:=hx.there
  refine hGq ?_
  clear hGq
  have fresh:∀ b,hh.get? b = none → base.get? b = none:=fun b hb=>by
    cases hq:base.get? b with
    | none=>rfl
    | some o'=>have:=hkb b o' hq; rw [hb] at this; cases this
  delta noteFrame
  simp only [hf]
  refine wpAny_bind (wpAny_field he rfl (x:=.none) rfl ?_)
  rw [if_neg (by decide)]
  refine wpAny_entryW (a0:=.ref t) hfr (hl.of_keeps fun b o hb zz=>⟨o,hx.keeps b o hb,rfl⟩) hf he (fun b o hb=>hx.keeps b o (hkb b o hb)) (fresh e hx.new) rfl (by simp) rfl fun h' hL=>?_
  refine cps fun Gq hGq=>?_
  obtain ⟨k1,k2,k3,k4⟩:=hL
  refine hGq ?_
  clear hGq
  exact hQ h' t ⟨k1,fresh e hx.new,k2,k3⟩ (Heap.TupAt.of_slots ⟨_,_,ht,rfl,rfl⟩ k4) (fresh t htn) k4
theorem setFlight_held {l:List Env} {cls a0:Value} {Q:Unit → Shared → Prop} (R:Heap.HeldW base l e cls a0 L s.heap)
    (h:∀ h',Heap.HeldW base l e cls a0 L h' → s.heap.UpToSlots h' → Q () { s with heap:=h' }):wpAny M A (setFlight (.ref e) (some L)) Q E s:=by
  refine cps fun Gq hGq=>?_
  obtain ⟨hkb,hen,hl,oe,vs,T,oT,ts,he,hcls,hd,h1,hnT,hTe,hT,hdT,h3⟩:=R
  refine hGq ?_
  clear hGq
  have hsz3:3 < ts.size:=(Array.getElem?_eq_some_iff.mp h3).1
  have other:∀ b,b ≠ T → (s.heap.update T (Obj.mapFields (·.setIfInBounds 3 ((some L).elim Value.none fun f=>rawInt f)))).get? b = s.heap.get? b :=
    fun b hb=>Heap.get?_update_other _ _ (Ne.symm hb)
  have noRecord:∀ b o,s.heap.get? b = some o → (∀ vs,o.data ≠ .fields vs) → b ≠ T:=fun b o hb hnf q=>by
    rw [q,hT] at hb; injection hb with hb; subst hb; exact hnf ts hdT
  delta setFlight
  refine wpAny_bind (wpAny_field he hd h1 ?_)
  rw [if_pos (show (Value.ref T != Value.none) = true from by simp)]
  refine wpAny_setField hT hdT hsz3 (h _ ⟨fun b o hbo=>(other b fun q=>by rw [q,hnT] at hbo; cases hbo).trans (hkb b o hbo),hen,
    hl.of_keeps fun b o hb hnf=>⟨o,(other b (noRecord b o hb hnf)).trans hb,rfl⟩,?_⟩ fun b o hb hnf=>⟨o.slots,(other b (noRecord b o hb hnf)).trans hb⟩)
  exact ⟨oe,vs,T,_,_,(other e (Ne.symm hTe)).trans he,hcls,hd,h1,hnT,hTe,Heap.get?_update_self _ hT (Obj.isFreed_of_fields (Obj.data_mapFields hdT _)),Obj.data_mapFields hdT _,by simp [hsz3]⟩
theorem cameBack_held {cls a0:Value} {l:List Env} {E0:Value → Shared → Prop} (hf:env.frame = some L) (R:Heap.HeldW base l e cls a0 L s.heap)
    (h:∀ h',Heap.HeldW base l e cls a0 L h' → s.heap.UpToSlots h' → E0 (.ref e) { s with heap:=h' }):cameBackBy M A env E0 (.ref e) s:=by
  delta cameBackBy
  refine cps fun Gq hGq=>?_
  obtain ⟨zz,zz,zz,oe,vs,T,oT,ts,he,hcls,hd,h1,zz⟩:=id R
  refine hGq ?_
  clear hGq
  refine wpAny_bind (wpAny_field he hd h1 ?_)
  rw [if_neg (show ¬ ((Value.ref T == Value.none) = true) from by simp),hf]
  first
    | exact wpAny_bind (wpAny_pure (setFlight_held R h))
    | exact setFlight_held R h
theorem leave_up {C:Addr} {s0:Shared} {m:Str} {x:Value} {Q:Unit → Shared → Prop} (hfr:A.frames = some (env :: outer)) (hf:env.frame = some env.locals) (hx:Up base env outer C s0 m x s) (hQ:∀ s',Fly base outer C s0 m x s' → Q () s'):wpAny M A (leaving env x) Q E s:=by
  obtain ⟨⟨h,tk,dr,rfl⟩,us,hx⟩:=hx
  rcases hx with ⟨e,hh,tk',rfl,h1,h2,h3⟩ | ⟨e,t,tk',rfl,hH,ht,hbt⟩
  · exact wpAny_leaves_madeW hfr hf h1 h2 h3 fun h' t x1 x2 x3 x4=>hQ _ ⟨⟨h',tk,dr,rfl⟩,us.trans x4,e,t,tk',rfl,x1,x2,x3⟩
  · delta leaving
    refine wpAny_bind (wpAny_noteFrame_againW hf hH.2.2.2 ?_)
    refine wpAny_landsW hH fun h' hfl hus=>?_
    refine cps fun Gq hGq=>?_
    obtain ⟨k1,k2,⟨zz,zz,k3⟩,k4⟩:=hfl
    refine hGq ?_
    clear hGq
    exact hQ _ ⟨⟨h',tk,dr,rfl⟩,us.trans hus,e,t,tk',rfl,⟨k1,k2,k3,k4⟩,ht.of_slots hus,hbt⟩
end
section
variable {prog:Program} {w:World} {p:Program} {loose:List Str} {mean:ExcName → Option Value} {mg mb:Str → Option Value} {lvl:Nat} {A:Around} {env:Env} {ce:CE} {Q0:Addr → Prop} {s0:Shared} {X:Addr → Prop} {base:Heap} {outer:List Env} {C:Addr}
theorem gok (F:Fx prog w p loose mean mg mb lvl A env ce Q0 s0) (hfr:A.frames = some (env :: outer)) (hf:env.frame = some env.locals) (Bs:base.StaysIn s0.heap) (Bf:s0.heap.FunFrames base outer) (hb:base.get? env.locals = none)
    (own:OwnClsQ "ParseError" C [.type "Exception",.type "BaseException",.type "object"] "Exception.__new__" mg s0.heap) (hg:isGlob (ce.kind "ParseError") = true) :
    GOk prog w A env ce Q0 s0 X (fun E m=>∀ x s',Up base env outer C s0 m x s' → E x s') where
  up:=by
    intro E m hE x s' hx
    obtain ⟨⟨h,tk,dr,rfl⟩,us,hx⟩:=hx
    show wpAny _ _ (noteFrame x env) _ _ _
    rcases hx with ⟨e,hh,tk',rfl,h1,h2,h3⟩ | ⟨e,t,tk',rfl,hH,ht,hbt⟩
    · refine note_made hfr hf h1 h2 h3 fun h' t x1 x2 x3 x4=>cameBack_held hf x1 fun h'' y1 y2=>hE _ _ ⟨⟨h'',tk,dr,rfl⟩,(us.trans x4).trans y2,.inr ⟨e,t,tk',rfl,y1,x2.of_slots y2,x3⟩⟩
    · exact wpAny_noteFrame_againW hf hH.2.2.2 (cameBack_held hf hH fun h'' y1 y2=>hE _ _ ⟨⟨h'',tk,dr,rfl⟩,us.trans y2,.inr ⟨e,t,tk',rfl,y1,ht.of_slots y2,hbt⟩⟩)
  rse:=by
    intro e np cpos pos E m s ad σ Q S hst hev hG
    have O:=(own.keeps (kheap S.k0)).own
    refine cps fun Gq hGq=>?_
    obtain ⟨tl,N,nm,q,bs,hdct,sn,sub,ab,col,dd,k0,k1,k2,k3,k5,mN,hC,hN,hni,T⟩:=O.obj
    refine hGq ?_
    clear hGq
    have hse:backTo cpos (starEach [e] env) = [(false,eval e env)]:=by
      rw [starEach_ns (env:=env) (l:=[e]) (by simp [hst]),backTo_ns]; rfl
    refine wpAny_Raise_call_subT (C:=C) (nm:=nm) (q:=q) (N:=N) (bs:=bs) (bm:=tl) (hdct:=hdct) (sn:=sn) (sub:=sub) (ab:=ab) (col:=col) (dd:=dd) (k0:=k0) (k1:=k1) (k2:=k2) (k3:=k3) (k5:=k5)
      _root_.PySem.F.excBase_Exception (mN:=mN) (T.hasType _root_.PySem.F.excBase_Exception.hasBase) F.hh (by rw [hse]; rfl) hni (ld_fn (S.cx F) hg own.bound (by decide) ⟨rfl,?_⟩)
    rw [hse]
    refine Calls.evalArgs_plain (spliced_cons (wm (hev E) (fun v s₂ h₂=>spliced_nil ?_)))
    obtain ⟨k2,t,rfl⟩:=h₂
    have S2:=S.keeps k2
    refine ⟨rfl,(show 1 ≤ sizeLine by decide),kheap k2 _ _ hC,hN.keeps (kheap k2),T.keeps (kheap k2),fun h' e' hx=>hG _ _ ⟨?_,?_,.inl ⟨e',s₂.heap,t,rfl,?_,?_,hx⟩⟩⟩
    · obtain ⟨hh,tt,dd,e1,zz⟩:=S2.k0
      exact ⟨h',tt,dd,by rw [e1]⟩
    · exact (Heap.UpToSlots.of_keeps (kheap S2.k0)).trans (Heap.UpToSlots.of_keeps hx.keeps)
    · exact fun b o e1=>kheap S2.k0 b o (Bs b o e1)
    · obtain ⟨mm,hm⟩:=S2.ns
      exact Heap.FunFrames.cons (by rw [F.fn]; decide) hf hm hb (Bf.of_keeps fun b o e1 zz=>⟨o,kheap S2.k0 b o e1,rfl⟩)
noncomputable def CallEnd (prog:Program) (w:World) (base:Heap) (outer:List Env) (C:Addr) (s:Shared) (Q:Addr → Prop):Out → Value → Shared → Prop
  | .ret q,v,s'=>Keeps s s' ∧ R prog w s'.heap (fun b=>Q b ∧ (q.f = true → s.heap.get? b = none)) v q.d
  | _,_,_=>False
noncomputable def CallRaise (base:Heap) (outer:List Env) (C:Addr) (s:Shared):Out → Value → Shared → Prop
  | .exc m,x,s'=>Fly base outer C s m x s'
  | _,_,_=>False
variable {Φ:FTab} {s:Shared}
theorem call_or_raise {d:DefRec} {xs ys:List Str} {ts:List SStmt} {vs:List Value} {ds:List PV} {Q:Addr → Prop} {out:Out} {n:Nat} {a:Addr} (T:Ctr prog w p loose mean mg mb lvl Φ) (D:Wd prog w p loose mean mg mb) (H:Hard prog w) (hd:d ∈ recsOf p) (FF:FnFacts d xs ys ts)
    (hbind:∀ pm code doc (vals:List Value),vals.length = xs.length → bindArgs (docDef d.name d.params d.body d.scope pm code doc) ⟨vals,[]⟩ = pure (xs.zip vals))
    (ha:mg d.name = some (.ref a)) (hlen:ds.length = xs.length) (hex:aexecs Φ n ts (initσ ys.length ds) = some out) (hout:(∃ q,out = .ret q) ∨ ∃ m,out = .exc m) (hgl:isGlob (d.scope.names.lookup ("ParseError":Str)) = true)
    (hh:A.handled = none) (hd':A.depth + (lvl + 1) < recursionLimit) (hu:A.units + 16 * (lvl + 1) + 64 < cLine) (hTs:Top p loose mean mg mb s.heap) (hQ:∀ b,s.heap.get? b = none → Q b) (hr:RS prog w s.heap Q vs ds)
    (hfr:A.frames = some outer) (Bs:base.StaysIn s.heap) (Bf:s.heap.FunFrames base outer) (own:OwnClsQ "ParseError" C [.type "Exception",.type "BaseException",.type "object"] "Exception.__new__" mg s.heap) :
    wpAny (model prog w) A (call (.ref a) vs) (CallEnd prog w base outer C s Q out) (CallRaise base outer C s out) s:=by
  refine cps fun Gq hGq=>?_
  obtain ⟨a',o,pm,code,doc,h1,ho,hdat,hcd⟩:=hTs.fn d hd
  refine hGq ?_
  clear hGq
  rw [ha] at h1
  cases h1
  have hl:xs.length = vs.length:=by rw [← hlen,hr.length]
  refine wpAny_call (call_cells (by lia) ho hdat hTs.nolimit hcd (hbind pm code doc vs hl.symm) ?_ (fun h₁ tk Fr1 Cl1=>?_) FF.co FF.gen FF.kind)
  · intro x hx
    have hx1:x.1 ∈ xs:=by
      have:=List.mem_map_of_mem (f:=(·.1)) hx
      rwa [zip_keys hl] at this
    have hk:=FF.ps x.1 hx1
    cases hkk:d.scope.names.lookup x.1 with
    | none=>rw [hkk] at hk; cases hk
    | some k =>
      rw [hkk] at hk
      cases k with
      | «local»=>exact .inl rfl
      | cell=>exact .inr ⟨rfl,cellsFrom_some _ _ _ (.inl (mem_lookup_kind hkk))⟩
      | _=>cases hk
  · obtain ⟨Fx1,Sx1⟩:=frame_start (tk:=tk) FF hh hd' hu hTs hQ hr hl Fr1 Cl1
    have hbL:base.get? s.heap.objs.size = none:=by
      cases q:base.get? s.heap.objs.size with
      | none=>rfl
      | some o=>have:=Bs _ _ q; rw [size_none] at this; cases this
    have go:=gok (X:=fun zz=>False) (base:=base) (outer:=outer) (C:=C) Fx1 (Around.frames_deeper hfr) rfl Bs Bf hbL own hgl
    refine wm (exs D H T Fx1 go ts d.body _ _ _ _ _ FF.chk Sx1 hex (fun m hm x s' hx=>?_)) (fun fl s' h'=>?_)
    · subst hm
      exact leave_up (Around.frames_deeper hfr) rfl hx fun s'' hf=>hf
    · rcases hout with ⟨q,rfl⟩ | ⟨m,rfl⟩
      · obtain ⟨v,rfl,k,r⟩:=h'
        exact ⟨k,r⟩
      · exact h'.elim
end
end Mine
namespace Mine
open PySem PySem.SeqAt PySem.Calls PyProof.Rows
section
variable {prog:Program} {w:World} {p:Program} {loose:List Str} {mean:ExcName → Option Value} {mg mb:Str → Option Value} {lvl:Nat} {A:Around} {env:Env} {ce:CE} {base:Heap} {outer:List Env} {C:Addr} {s:Shared} {E:Value → Shared → Prop}
theorem boot_str:bootBuiltins "str" = some (.type "str"):=by decide +kernel
abbrev bmE:List Value:=[.type "Exception",.type "BaseException",.type "object"]
theorem handler_ok {x:Value} {m0:Str → Option Value} {s1:Shared} {msg:Str} {np p1 p2 p3 p4 p5 hp:Pos} {Q:Flow → Shared → Prop} (hfn:env.scope.kind = .function) (hgl:env.globals = mainGlobals) (hbl:env.builtins = builtinsNs) (hf:env.frame = some env.locals) (hfr:A.frames = some (env :: outer)) (hu:A.units + 2 < cLine)
    (kP:env.kindOf "ParseError" = some .globalImplicit) (kS:env.kindOf "str" = some .globalImplicit) (kE:env.kindOf "error" = some .local) (kD:env.kindOf "said" = some .local)
    (D:Wd prog w p loose mean mg mb) (hT:Top p loose mean mg mb base) (own:OwnClsQ "ParseError" C bmE "Exception.__new__" mg base) (K:ExcC base C bmE "Exception.__new__")
    (hns:s1.heap.Ns env.locals m0) (hx:Fly base (env :: outer) C s1 msg x s)
    (h:∀ s' tk u,base.StaysIn s'.heap → (∃ h t dr,s' = { s1 with heap:=h,toks:=t,drawn:=dr }) → (∀ b o,b ≠ env.locals → s1.heap.get? b = some o → (∀ vs,o.data ≠ .fields vs) → ∃ sl,s'.heap.get? b = some { o with slots:=sl }) →
      s'.heap.Ns env.locals (fun y=>if y = ("error":Str) then u else if y = ("said":Str) then some (.str msg tk) else m0 y) → Q .next s') :
    wpAny (model prog w) A (noteFrame x env) (fun zz s₂=>wpAny (model prog w) A (setFlight x none) (fun zz s₃ =>
      wpAny (model prog w) A (handleBy x env [.ExceptHandler (some (.Name "ParseError" np)) (some "error") [.Assign [.Name "said" p1] (.Call (.Name "str" p2) [.Name "error" p3] [] p4) p5] hp]) Q E s₃) E s₂) E s:=by
  obtain ⟨⟨h0,t0,d0,rfl⟩,us,e,t,tk,rfl,hfl,htup,hbt⟩:=hx
  refine wpAny_looks_onW hfr hf hfl fun h₄ hheld hsm₄=>?_
  refine wpAny_landsW hheld fun h₅ hfl₅ hsm₅=>?_
  have tup5:=(htup.of_slots hsm₄).of_slots hsm₅
  have ns5:h₅.Ns env.locals m0:=hsm₅.ns (hsm₄.ns (us.ns hns))
  refine handleBy_own_as (x:="ParseError") (C:=C) (bmB:=bmE) (newId:="Exception.__new__") (mg:=mg) (by decide +kernel) ?_
  refine Name_function_global hfn kP (loadGlobal_global (by rw [hgl]; exact (hT.keeps hfl₅.1).g) own.bound ⟨rfl,own.keeps hfl₅.1,hfl₅.there,?_⟩) (by decide)
  refine lands_againW hfl₅ fun h₆ hfl₆ hsm₆=>?_
  have tup6:=tup5.of_slots hsm₆
  have ns6:h₆.Ns env.locals m0:=hsm₆.ns ns5
  have T6:=hT.keeps hfl₆.1
  refine cps fun Gq hGq=>?_
  obtain ⟨oe,vs,hoe,hoec,hoed,hoe0⟩:=hfl₆.first
  refine hGq ?_
  clear hGq
  have notL:∀ {b:Addr} {o:Obj},h₆.get? b = some o → (∀ es n,o.data ≠ .dict es n) → b ≠ env.locals:=by
    intro b o ho hn e
    refine cps fun Gq hGq=>?_
    obtain ⟨oL,es,ep,hL,hd,zz⟩:=ns6
    refine hGq ?_
    clear hGq
    rw [e,hL] at ho
    cases ho
    exact hn es ep hd
  have eL:e ≠ env.locals:=notL hoe (by intro es n q; rw [hoed] at q; cases q)
  have baseL:∀ b o,base.get? b = some o → b ≠ env.locals:=by
    intro b o hb e
    refine cps fun Gq hGq=>?_
    obtain ⟨zz,⟨L',zz,hf',hn',zz⟩,zz⟩:=hfl₆.2.2.1
    refine hGq ?_
    clear hGq
    rw [hf] at hf'
    cases hf'
    rw [e,hn'] at hb; cases hb
  refine wpAny_storeName_local kE ns6 (fun h₇ ns7 sb7=>?_) (by rw [hfn]; rfl)
  have st7:base.StaysIn h₇:=fun b o hb=>sb7.extBut b o (baseL b o hb) (hfl₆.1 b o hb)
  have T7:=hT.keeps st7
  refine cps fun Gq hGq=>?_
  obtain ⟨ot,nt,hot,hotc,hotd⟩:=tup6
  refine hGq ?_
  clear hGq
  have tup7:h₇.TupAt t [.str msg tk]:=⟨ot,nt,sb7.extBut t ot (notL hot (by intro es n q; rw [hotd] at q; cases q)) hot,hotc,hotd⟩
  refine wpAny_execs_cons (wpAny_Assign_Name (Call_Name1 (Name_function_global hfn kS (loadGlobal_builtin (by rw [hgl]; exact T7.g) (D.blt _ (blt_mem (by decide +kernel))) (by rw [hbl]; exact T7.b) ((T7.builtins "str" (by decide)).trans boot_str) (PyProof.Rows.callWith_type rfl (evalArgs_plain (spliced_cons ?_)))) (by decide))) rfl)
  refine wpAny_Name (wpAny_loadName_local hfn kE ns7 (v:=.ref e) (by simp) (spliced_nil ?_))
  refine str_own (by exact hu) (K.keeps st7) (sb7.extBut e oe eL hoe) hoec hoed hoe0 tup7 ?_
  refine wpAny_storeName_local kD ns7 (fun h₈ ns8 sb8=>?_) (by rw [hfn]; rfl)
  refine wpAny_execs_nil ?_
  have st8:base.StaysIn h₈:=fun b o hb=>sb8.extBut b o (baseL b o hb) (st7 b o hb)
  refine wpAny_bind (wpAny_bindName (wpAny_storeName_local kE ns8 (fun h₉ ns9 sb9=>?_) (by rw [hfn]; rfl)))
  delta unbindBehindTheSuite
  refine wpAny_onRaise (wpAny_unbindName_local kE ns9 (v:=.none) (by simp) (by rw [hfn]; rfl) fun h' u nsF sbF=>?_)
  refine h _ tk u (fun b o hb=>sbF.extBut b o (baseL b o hb) (sb9.extBut b o (baseL b o hb) (st8 b o hb))) ⟨h',_,_,rfl⟩ ?_ ?_
  · intro b o hbL hb hnf
    refine cps fun Gq hGq=>?_
    obtain ⟨sl0,q0⟩:=us b o hb hnf
    obtain ⟨sl1,q1⟩:=hsm₄ b _ q0 hnf
    obtain ⟨sl2,q2⟩:=hsm₅ b _ q1 hnf
    obtain ⟨sl3,q3⟩:=hsm₆ b _ q2 hnf
    refine hGq ?_
    clear hGq
    exact ⟨sl3,sbF.extBut b _ hbL (sb9.extBut b _ hbL (sb8.extBut b _ hbL (sb7.extBut b _ hbL q3)))⟩
  · have:(fun y=>if y = ("error":Str) then u else if y = ("error":Str) then some Value.none else if y = ("said":Str) then some (Value.str msg tk) else if y = ("error":Str) then some (Value.ref e) else m0 y) = (fun y=>if y = ("error":Str) then u else if y = ("said":Str) then some (.str msg tk) else m0 y):=by
      funext y
      by_cases h1:y = ("error":Str)
      · simp [h1]
      · simp [h1]
    rw [← this]
    exact nsF
end
end Mine
namespace Mine
open PySem PySem.SeqAt PySem.Calls PyProof.Rows
theorem cellsFrom_none {l:List (Str × NameKind)} (h:∀ y ∈ l,y.2 ≠ .cell):∀ (n:Nat) (acc:List (Str × Addr)),cellsFrom n l acc = acc:=by
  induction l with
  | nil=>intro n acc; rfl
  | cons y l ih =>
    intro n acc
    obtain ⟨k,kd⟩:=y
    unfold cellsFrom
    rw [if_neg (by have:=h (k,kd) (List.mem_cons_self ..); simpa using this)]
    exact ih (fun y hy=>h y (List.mem_cons_of_mem _ hy)) n acc
section
variable {prog:Program} {w:World} {p:Program} {loose:List Str} {mean:ExcName → Option Value} {mg mb:Str → Option Value} {lvl:Nat} {A:Around} {base:Heap} {outer:List Env} {C:Addr} {s:Shared} {E:Value → Shared → Prop} {Φ:FTab}
noncomputable def resOf:Out → PV
  | .ret q=>.tup [q.d,.str Str.empty]
  | .exc m=>.tup [.none,.str m]
  | _=>.none
noncomputable def RunEnd (prog:Program) (w:World) (base:Heap) (s:Shared) (res:PV) (v:Value) (s':Shared):Prop :=
  (∃ h tk dr,s' = { s with heap:=h,toks:=tk,drawn:=dr }) ∧ base.StaysIn s'.heap ∧ s.heap.UpToSlots s'.heap ∧ R prog w s'.heap (fun b=>base.get? b = none ∧ ∀ o,s.heap.get? b = some o → ∃ vs,o.data = .fields vs) v res
set_option genInjectivity false in
set_option genSizeOf false in
structure RunText (d:DefRec) where
  st1:Stmt
  st2:Stmt
  a1:Expr
  a2:Expr
  v5:Expr
  (q1 q2 q3 q4 np p1 p2 p3 p4 p5 hp tp r5:Pos)
  body:d.body = [st1,st2,.Try [.Assign [.Name "answer" q1] (.Call (.Name "parse_ll1" q2) [a1,a2] [] q3) q4] [.ExceptHandler (some (.Name "ParseError" np)) (some "error") [.Assign [.Name "said" p1] (.Call (.Name "str" p2) [.Name "error" p3] [] p4) p5] hp] [] [] tp,.Return (some v5) r5]
  c1:chkS (.set 2 .none) (ceOf ["g","word","answer","said","error"] d.scope) st1 = true
  c2:chkS (.set 3 (.str Str.empty)) (ceOf ["g","word","answer","said","error"] d.scope) st2 = true
  cas:chks [.var 0,.var 1] (ceOf ["g","word","answer","said","error"] d.scope) [a1,a2] = true
  c5:chk (.tup [.var 2,.var 3]) (ceOf ["g","word","answer","said","error"] d.scope) v5 = true
  tg:tgt (ceOf ["g","word","answer","said","error"] d.scope) "answer" 2 = true
  tg3:tgt (ceOf ["g","word","answer","said","error"] d.scope) "said" 3 = true
  kA:d.scope.names.lookup ("answer":Str) = some .local
  kF:d.scope.names.lookup ("parse_ll1":Str) = some .globalImplicit
  kP:d.scope.names.lookup ("ParseError":Str) = some .globalImplicit
  kS:d.scope.names.lookup ("str":Str) = some .globalImplicit
  kE:d.scope.names.lookup ("error":Str) = some .local
  kD:d.scope.names.lookup ("said":Str) = some .local
  nocell:∀ y ∈ d.scope.names,y.2 ≠ .cell
theorem run_call {d dp:DefRec} {xsP ysP:List Str} {tsP:List SStmt} {vs:List Value} {g word:PV} {Q:Addr → Prop} {out:Out} {n:Nat} {a:Addr} (T:Ctr prog w p loose mean mg mb lvl Φ) (D:Wd prog w p loose mean mg mb) (H:Hard prog w)
    (hd:d ∈ recsOf p) (FF:FnFacts { d with body:=[] } ["g","word"] ["answer","said","error"] []) (RT:RunText d)
    (hbind:∀ pm code doc (vals:List Value),vals.length = 2 → bindArgs (docDef d.name d.params d.body d.scope pm code doc) ⟨vals,[]⟩ = pure ((["g","word"]:List Str).zip vals))
    (hdp:dp ∈ recsOf p) (hdpn:dp.name = "parse_ll1") (FP:FnFacts dp xsP ysP tsP) (hlenP:xsP.length = 2)
    (hbindP:∀ pm code doc (vals:List Value),vals.length = xsP.length → bindArgs (docDef dp.name dp.params dp.body dp.scope pm code doc) ⟨vals,[]⟩ = pure (xsP.zip vals))
    (hglP:isGlob (dp.scope.names.lookup ("ParseError":Str)) = true)
    (hex:aexecs Φ n tsP (initσ ysP.length [g,word]) = some out) (hout:(∃ q,out = .ret q ∧ q.f = true) ∨ ∃ m,out = .exc m)
    (ha:mg d.name = some (.ref a))
    (hh:A.handled = none) (hd':A.depth + (lvl + 2) < recursionLimit) (hu:A.units + 16 * (lvl + 2) + 64 < cLine) (hTs:Top p loose mean mg mb s.heap) (hQ:∀ b,s.heap.get? b = none → Q b) (hr:RS prog w s.heap Q vs [g,word])
    (hfr:A.frames = some outer) (Bs:base.StaysIn s.heap) (Bf:s.heap.FunFrames base outer) (hTb:Top p loose mean mg mb base) (own:OwnClsQ "ParseError" C bmE "Exception.__new__" mg base) (K:ExcC base C bmE "Exception.__new__") :
    wpAny (model prog w) A (call (.ref a) vs) (RunEnd prog w base s (resOf out)) E s:=by
  refine cps fun Gq hGq=>?_
  obtain ⟨a',o,pm,code,doc,h1,ho,hdat,hcd⟩:=hTs.fn d hd
  refine hGq ?_
  clear hGq
  rw [ha] at h1
  cases h1
  have hl:(["g","word"]:List Str).length = vs.length:=by rw [hr.length]; rfl
  refine wpAny_call (call_cells (by lia) ho hdat hTs.nolimit hcd (hbind pm code doc vs hl.symm) ?_ (fun h₁ tk Fr1 Cl1=>?_) FF.co FF.gen FF.kind)
  · intro x hx
    have hx1:x.1 ∈ (["g","word"]:List Str):=by
      have:=List.mem_map_of_mem (f:=(·.1)) hx
      rwa [zip_keys hl] at this
    have hk:=FF.ps x.1 hx1
    cases hkk:d.scope.names.lookup x.1 with
    | none=>rw [show ({ d with body:=[] }:DefRec).scope.names.lookup x.1 = none from hkk] at hk; cases hk
    | some k =>
      rw [show ({ d with body:=[] }:DefRec).scope.names.lookup x.1 = some k from hkk] at hk
      cases k with
      | «local»=>exact .inl rfl
      | cell=>exact absurd rfl (RT.nocell _ (mem_lookup_kind hkk))
      | _=>cases hk
  · refine wp_abs fun Qo Eo hQo zz=>?_
    obtain ⟨Fx1,Sx1⟩:=frame_start (lvl:=lvl + 1) (tk:=tk) FF hh hd' hu hTs hQ hr hl Fr1 Cl1
    have F1:Fx prog w p loose mean mg mb (lvl + 1) (A.deeper (envOfC d.name d.scope s.heap.objs.size a code)) (envOfC d.name d.scope s.heap.objs.size a code) (ceOf ["g","word","answer","said","error"] d.scope) Q s:=Fx1
    have S0:Sx prog w (envOfC d.name d.scope s.heap.objs.size a code) (ceOf ["g","word","answer","said","error"] d.scope) Q s (fun zz=>False) (fun zz=>0) [some (parg g),some (parg word),Option.none,Option.none,Option.none] { s with heap:=h₁,toks:=tk }:=Sx1
    clear Fx1 Sx1
    have kOf:∀ x,(envOfC d.name d.scope s.heap.objs.size a code).kindOf x = d.scope.names.lookup x:=fun zz=>rfl
    have hcells:(envOfC d.name d.scope s.heap.objs.size a code).cells = []:=cellsFrom_none RT.nocell _ _
    have c1:=RT.c1; have c2:=RT.c2; have cas:=RT.cas; have c5:=RT.c5; have tg:=RT.tg; have tg3:=RT.tg3
    have cek:∀ x,(ceOf ["g","word","answer","said","error"] d.scope).kind x = d.scope.names.lookup x:=fun zz=>rfl
    have cei2:∀ x,(ceOf ["g","word","answer","said","error"] d.scope).idx x = some 2 → x = "answer":=fun x hx=>(tgt_of tg).uq x hx
    generalize hce:ceOf ["g","word","answer","said","error"] d.scope = ce at F1 S0 c1 c2 cas c5 tg tg3 cek cei2
    generalize henv:envOfC d.name d.scope s.heap.objs.size a code = env at F1 S0 kOf hcells
    rw [RT.body]
    have hlocals:env.locals = s.heap.objs.size:=by rw [← henv]; rfl
    have hframe:env.frame = some env.locals:=by rw [← henv]; rfl
    have hbL:base.get? env.locals = none:=by
      rw [hlocals]
      cases q:base.get? s.heap.objs.size with
      | none=>rfl
      | some o=>have:=Bs _ _ q; rw [size_none] at this; cases this
    have hfr':(A.deeper env).frames = some (env :: outer):=Around.frames_deeper hfr
    have noG:GOk prog w (A.deeper env) env ce Q s (fun zz=>False) (fun zz zz=>False):=⟨fun zz zz h=>h.elim,fun zz zz zz zz zz zz zz zz zz zz zz zz zz h=>h.elim⟩
    have T1:=T.up
    refine wpAny_execs_cons (wm (ex (n:=0) D H T1 F1 noG (.set 2 .none) RT.st1 _ _ _ _ _ c1 S0 rfl (fun m hm=>by cases hm)) (fun fl s₁ h₁=>?_))
    obtain ⟨rfl,ad1,S1,x1⟩:=h₁
    refine wpAny_execs_cons (wm (ex (n:=0) D H T1 F1 noG (.set 3 (.str Str.empty)) RT.st2 _ _ _ _ _ c2 S1 rfl (fun m hm=>by cases hm)) (fun fl s₂ h₂=>?_))
    obtain ⟨rfl,ad2,S2,x2⟩:=h₂
    dsimp only
    have S2:Sx prog w env ce Q s (fun zz=>False) ad2 [some (parg g),some (parg word),some (at1 PV.none),some (at1 (PV.str Str.empty)),Option.none] s₂:=S2
    refine cps fun Gq hGq=>?_
    obtain ⟨hix,hlc,zz,zz,huq⟩:=tgt_of tg
    have stay2:∀ {s':Shared},Keeps s₂ s' → base.StaysIn s'.heap:=fun k b o hb=>kheap k b o (kheap S2.k0 b o (Bs b o hb))
    have pd:∀ d,(parg d).d = d:=fun d=>by delta parg; split <;> rfl
    have fine:∀ {s':Shared},Keeps s s' → (∃ h tk dr,s' = { s with heap:=h,toks:=tk,drawn:=dr }):=fun ⟨h,t,d,e,_⟩=>⟨h,t,d,e⟩
    obtain ⟨ap,zz,zz,zz,zz,hmgp,zz⟩:=hTs.fn dp hdp
    refine hGq ?_
    clear hGq
    have hmgp':mg "parse_ll1" = some (.ref ap):=by rw [← hdpn]; exact hmgp
    have last:∀ {s5:Shared} {ad5:Nat → Addr} {σ5:Sig} {Q5:Addr → Prop} {s05:Shared} {r:RV} {Qf:Flow → Shared → Prop} {E5:Value → Shared → Prop},Fx prog w p loose mean mg mb (lvl + 1) (A.deeper env) env ce Q5 s05 → Sx prog w env ce Q5 s05 (fun zz=>False) ad5 σ5 s5 → aeval Φ (.tup [.var 2,.var 3]) σ5 = some r →
        (∀ v s6,Keeps s5 s6 → R prog w s6.heap (Pf Q5 s05.heap (Ow env (fun zz=>False) σ5 ad5) r.f r.c) v r.d → Qf (.ret v) s6) → wpAny (model prog w) (A.deeper env) (execs [.Return (some RT.v5) RT.r5] env) Qf E5 s5:=by
      intro s5 ad5 σ5 Q5 s05 r Qf E5 F5 S5 hr5 hq
      exact wpAny_execs_cons (wpAny_Return_some (wm (ev D H T1 (.tup [.var 2,.var 3]) ce RT.v5 _ env _ σ5 s5 r E5 c5 (S5.cx F5) hr5) (fun v s6 h6=>hq v s6 h6.1 h6.2)))
    refine wpAny_execs_cons (wpAny_Try_except (wpAny_execs_cons (wpAny_Assign_Name (Call_Name rfl (ld_fn (S2.cx F1) (by rw [cek,RT.kF]; rfl) hmgp' (by decide) ?_)) rfl)))
    refine wp_abs fun Qt Et hQt hEt=>?_
    obtain ⟨hst,hev⟩:=evs D H T1 [.var 0,.var 1] ce [RT.a1,RT.a2] (A.deeper env) env _ _ s₂ [parg g,parg word] _ cas (S2.cx F1) rfl
    rw [starEach_ns hst,backTo_ns]
    refine cps fun Gq hGq=>?_
    obtain ⟨zz,op,pmp,codep,docp,hmgp2,hop,hdatp,zz⟩:=((S2.cx F1).top).fn dp hdp
    refine hGq ?_
    clear hGq
    rw [hmgp] at hmgp2
    cases hmgp2
    refine callWith_function (o:=op) (fd:=docDef dp.name dp.params dp.body dp.scope pmp codep docp) (evalArgs_plain (wm hev (fun vs' s₃ h₃=>⟨⟨?_,?_⟩,?_⟩)))
    · exact kheap h₃.1 _ _ hop
    · exact hdatp
    obtain ⟨k3,rl⟩:=h₃
    have S3:=S2.keeps k3
    rw [List.nil_append]
    have rs3:=rl.toRS (S2.cx F1).pd.mono
    simp only [List.map_cons,List.map_nil,pd] at rs3
    have Bf3:s₃.heap.FunFrames base (env :: outer):=by
      obtain ⟨mm,hm⟩:=S3.ns
      exact Heap.FunFrames.cons (by rw [F1.fn]; decide) hframe hm hbL (Bf.of_keeps fun b o e1 zz=>⟨o,kheap S3.k0 b o e1,rfl⟩)
    have CR:=call_or_raise (base:=base) (outer:=env :: outer) (C:=C) (A:=A.deeper env) (s:=s₃) T D H hdp FP hbindP hmgp (by rw [hlenP]; rfl) hex (hout.elim (fun ⟨q,h,_⟩=>.inl ⟨q,h⟩) fun h=>.inr h) hglP hh (by show A.depth + 1 + (lvl + 1) < _; lia) (by show A.units + 3 + 16 * (lvl + 1) + 64 < _; lia) (S3.cx F1).top (fun b hb=>(S3.cx F1).pd.fresh _ _ b hb) rs3 hfr' (stay2 k3) Bf3 (own.keeps (stay2 k3))
    refine wpAny_mono CR (fun v s₄ h₄=>?_) (fun x s₄ h₄=>?_)
    · rcases hout with ⟨q,rfl,hqf⟩ | ⟨m,rfl⟩
      · refine hQt _ _ ?_
        obtain ⟨k4,r4⟩:=h₄
        have r5:R prog w s₄.heap (Pf Q s.heap (Ow env (fun zz=>False) [some (parg g),some (parg word),some (at1 PV.none),some (at1 (PV.str Str.empty)),Option.none] ad2) true true) v q.d:=r4.mono fun b hb=>(S3.cx F1).pd.fresh _ _ b (hb.2 hqf)
        refine store_ok (r:=⟨q.d,true,true⟩) F1 S2 (ktrans k3 k4) hix huq hlc (fun zz zz=>rfl) (fun zz=>r5) (fun h=>by cases h) fun s₅ S5 x5=>?_
        refine wpAny_execs_nil (wpAny_execs_nil ?_)
        refine last F1 S5 (r:=⟨.tup [q.d,.str Str.empty],true,true⟩) rfl fun v s6 k6 r6=>hQo _ _ ?_
        refine ⟨fine (ktrans S5.k0 k6),fun b o hb=>kheap k6 b o (kheap S5.k0 b o (Bs b o hb)),Heap.UpToSlots.of_keeps (kheap (ktrans S5.k0 k6)),r6.mono fun b hb=>?_⟩
        have hnb:=hb.2.1 rfl
        refine ⟨?_,fun o e=>by rw [hnb] at e; cases e⟩
        cases q:base.get? b with
        | none=>rfl
        | some o=>have:=Bs b o q; rw [hnb] at this; cases this
      · exact h₄.elim
    · rcases hout with ⟨q,rfl,hqf⟩ | ⟨m,rfl⟩
      · exact h₄.elim
      · have h₄:Fly base (env :: outer) C s₃ m x s₄:=h₄
        refine cps fun Gq hGq=>?_
        obtain ⟨va,la,ra,zz⟩:=S3.rd "answer" 2 (at1 .none) hix (isLC_var hlc) rfl
        refine hGq ?_
        clear hGq
        have ra:=R.n (ra rfl)
        subst ra
        have hm0:∃ m0,s₃.heap.Ns env.locals m0 ∧ m0 "answer" = some Value.none:=by
          rcases la with ⟨zz,m0,n0,e0⟩ | ⟨kk,zz⟩
          · exact ⟨m0,n0,e0⟩
          · rw [kOf,RT.kA] at kk; rcases kk with kk | kk <;> cases kk
        obtain ⟨m0,n0,e0⟩:=hm0
        refine hEt _ _ ?_
        refine handler_ok (s1:=s₃) (m0:=m0) F1.fn F1.gl F1.bl hframe hfr' (by show A.units + 3 + 2 < _; lia) (by rw [kOf]; exact RT.kP) (by rw [kOf]; exact RT.kS) (by rw [kOf]; exact RT.kE) (by rw [kOf]; exact RT.kD) D hTb own K n0 h₄ fun s' tk' u st5 sh5 us5 ns5=>?_
        have shape5:∃ h t dr,s' = { s with heap:=h,toks:=t,drawn:=dr }:=by
          obtain ⟨h5,t5,d5,rfl⟩:=sh5
          refine cps fun Gq hGq=>?_
          obtain ⟨h3,t3,d3,e3,zz⟩:=S3.k0
          refine hGq ?_
          clear hGq
          exact ⟨h5,t5,d5,by rw [e3]⟩
        have hin:∀ b o,base.get? b = some o → (s'.heap.hide env.locals).get? b = some o:=fun b o e=>(Heap.hide_ne s'.heap (fun q:b = env.locals=>by rw [q,hbL] at e; cases e)).trans (st5 b o e)
        have F5:Fx prog w p loose mean mg mb (lvl + 1) (A.deeper env) env ce (fun b=>base.get? b = none) { s with heap:=s'.heap.hide env.locals }:=⟨F1.hh,F1.hd,F1.hu,F1.fn,F1.gl,F1.bl,F1.ki,F1.cells,fun b h=>none_of hin h,F1.cinj,F1.cne,hTb.keeps hin⟩
        have slot:∀ i r,([Option.none,Option.none,some (at1 PV.none),some (at1 (PV.str m)),Option.none]:Sig)[i]? = some (some r) → (i = 2 ∧ r = at1 PV.none) ∨ (i = 3 ∧ r = at1 (PV.str m)):=by
          intro i r h
          match i,h with
          | 0,h=>cases h
          | 1,h=>cases h
          | 2,h=>cases h; exact .inl ⟨rfl,rfl⟩
          | 3,h=>cases h; exact .inr ⟨rfl,rfl⟩
          | 4,h=>cases h
          | i + 5,h=>cases h
        have ow5:∀ b,Ow env (fun zz=>False) [Option.none,Option.none,some (at1 PV.none),some (at1 (PV.str m)),Option.none] (fun zz=>0) b → b = env.locals:=by
          intro b hb
          rcases hb with h | h | ⟨y,h⟩ | ⟨i,r,h1,h2,zz⟩
          · exact h.elim
          · exact h
          · rw [hcells] at h; cases h
          · rcases slot i r h1 with ⟨_,rfl⟩ | ⟨_,rfl⟩ <;> cases h2
        have S5:Sx prog w env ce (fun b=>base.get? b = none) { s with heap:=s'.heap.hide env.locals } (fun zz=>False) (fun zz=>0) [Option.none,Option.none,some (at1 PV.none),some (at1 (PV.str m)),Option.none] s':=by
          refine ⟨S2.len,?_,fun b hb=>by rw [ow5 b hb]; exact Heap.hide_self _ _,fun b hb=>?_,⟨_,ns5⟩,fun y c hc=>(by rw [hcells] at hc; cases hc),?_,?_,?_,fun b hb=>hb.elim⟩
          · obtain ⟨h5,t5,d5,rfl⟩:=shape5
            exact ⟨h5,t5,d5,rfl,fun b o e=>Heap.of_hide e⟩
          · rw [ow5 b hb]
            refine cps fun Gq hGq=>?_
            obtain ⟨o,zz,zz,ho,zz⟩:=ns5
            refine hGq ?_
            clear hGq
            exact ⟨o,ho⟩
          · intro y i r h1 h2 h3
            rcases slot i r h3 with ⟨rfl,rfl⟩ | ⟨rfl,rfl⟩
            · have:y = "answer":=huq y h1
              subst this
              refine ⟨.none,.inl ⟨by rw [kOf]; exact RT.kA,_,ns5,?_⟩,fun zz=>.none,fun h=>by cases h⟩
              show (if ("answer":Str) = ("error":Str) then u else if ("answer":Str) = ("said":Str) then some (.str m tk') else m0 "answer") = some Value.none
              rw [if_neg (by decide),if_neg (by decide)]
              exact e0
            · have:y = "said":=(tgt_of tg3).uq y h1
              subst this
              refine ⟨.str m tk',.inl ⟨by rw [kOf]; exact RT.kD,_,ns5,?_⟩,fun zz=>.str m tk',fun h=>by cases h⟩
              show (if ("said":Str) = ("error":Str) then u else if ("said":Str) = ("said":Str) then some (.str m tk') else m0 "said") = some (Value.str m tk')
              rw [if_neg (by decide),if_pos rfl]
          · intro i j r r' h1 h2
            rcases slot i r h1 with ⟨_,rfl⟩ | ⟨_,rfl⟩ <;> cases h2
          · intro i r h1 h2
            rcases slot i r h1 with ⟨_,rfl⟩ | ⟨_,rfl⟩ <;> cases h2
        refine last F5 S5 (r:=⟨.tup [.none,.str m],true,true⟩) rfl fun v s6 k6 r6=>hQo _ _ ?_
        refine ⟨?_,fun b o hb=>kheap k6 b o (st5 b o hb),?_,r6.mono fun b hb=>⟨hb.1,fun o e=>?_⟩⟩
        · obtain ⟨h5,t5,d5,rfl⟩:=shape5
          obtain ⟨h6,t6,d6,rfl,zz⟩:=k6
          exact ⟨h6,t6,d6,rfl⟩
        · intro b o hb hnf
          have hbL':b ≠ env.locals:=fun e=>by rw [e,hlocals,size_none] at hb; cases hb
          obtain ⟨sl,q⟩:=us5 b o hbL' (kheap S3.k0 b o hb) hnf
          exact ⟨sl,kheap k6 _ _ q⟩
        · refine Classical.byContradiction fun hno=>?_
          have hbL':b ≠ env.locals:=fun e'=>by rw [e',hlocals,size_none] at e; cases e
          obtain ⟨sl,q⟩:=us5 b o hbL' (kheap S3.k0 b o e) (fun vs hv=>hno ⟨vs,hv⟩)
          have h1:=hb.2.1 rfl
          have h2:=(Heap.hide_ne s'.heap hbL').trans q
          rw [h1] at h2
          cases h2
end
end Mine
namespace Mine
open PySem PySem.Calls PyProof.Rows
noncomputable def strVal:Value → Option Str
  | .str x _=>some x
  | _=>none
inductive SetS (prog:Program) (w:World) (h:Heap) (a:Addr) (xs:List Str) (led:Bool):Prop
  | mk (o:Obj) (es:Array (Int × Value)) (ep:Nat) (t:SetTable) (ho:h.get? a = some o) (hx:o.ExactSet) (hd:o.data = .set es ep t) (he:ElemsOf (strKind prog w) es.toList) (hy:∃ ys:List Str,es.toList.map (fun e=>strVal e.2) = ys.map some ∧ ys.Perm xs) (hb:es.size < scanBound) (hf:t.fits es.size = true) (hl:t.led = led) (hp:es.size ≠ 0 → t.plain = false):SetS prog w h a xs led
theorem orStandIn_marks (t:SetTable) (n:Nat):(t.orStandIn n).led = t.led ∧ (t.plain = false → (t.orStandIn n).plain = false):=by
  delta SetTable.orStandIn
  split
  · exact ⟨rfl,id⟩
  · exact ⟨rfl,fun zz=>rfl⟩
theorem layNew_marks (t:SetTable) (es:Array (Int × Value)) (h:Int) (x:Value):(layNew t es h x).2.1.led = t.led ∧ (t.plain = false → (layNew t es h x).2.1.plain = false):=by
  delta layNew
  split
  · exact orStandIn_marks _ _
  · exact ⟨rfl,fun zz=>rfl⟩
theorem relayAll_marks (t:SetTable) (es:Array (Int × Value)) (n:Nat):(relayAll t es n).2.1.led = t.led ∧ (t.plain = false → (relayAll t es n).2.1.plain = false):=by
  delta relayAll
  split
  · rename_i t' order hr
    have:t'.led = t.led ∧ t'.plain = t.plain:=by
      delta SetTable.relaid SetTable.laid at hr
      simp only [Option.bind_eq_bind,Option.bind_eq_some_iff] at hr
      obtain ⟨owner,zz,e⟩:=hr
      cases e
      exact ⟨rfl,rfl⟩
    dsimp only
    split
    · exact ⟨this.1,fun h=>this.2.trans h⟩
    · exact ⟨rfl,fun zz=>rfl⟩
  · exact ⟨rfl,fun zz=>rfl⟩
theorem map_strVal_perm {l l':List (Int × Value)} {ys:List Str} (hp:l'.Perm l) (h:l.map (fun e=>strVal e.2) = ys.map some):∃ ys':List Str,l'.map (fun e=>strVal e.2) = ys'.map some ∧ ys'.Perm ys:=by
  have hall:∀ e ∈ l',∃ y,strVal e.2 = some y:=by
    intro e he
    have:strVal e.2 ∈ l.map (fun e=>strVal e.2):=List.mem_map.mpr ⟨e,hp.mem_iff.mp he,rfl⟩
    rw [h,List.mem_map] at this
    obtain ⟨y,zz,e'⟩:=this
    exact ⟨y,e'.symm⟩
  refine ⟨l'.filterMap (fun e=>strVal e.2),?_,?_⟩
  · clear hp h
    induction l' with
    | nil=>rfl
    | cons e l' ih =>
      obtain ⟨y,hy⟩:=hall e (List.mem_cons_self ..)
      rw [List.map_cons,List.filterMap_cons_some (f:=fun e:Int × Value=>strVal e.2) hy,List.map_cons,← ih fun e he=>hall e (List.mem_cons_of_mem _ he),hy]
  · have e1:l.filterMap (fun e=>strVal e.2) = ys:=by
      clear hp hall
      induction l generalizing ys with
      | nil=>cases ys with
        | nil=>rfl
        | cons zz zz=>simp at h
      | cons e l ih =>
        cases ys with
        | nil=>simp at h
        | cons y ys =>
          simp only [List.map_cons,List.cons.injEq] at h
          rw [List.filterMap_cons_some (f:=fun e:Int × Value=>strVal e.2) h.1,ih h.2]
    rw [← e1]
    exact hp.filterMap _
section
variable {prog:Program} {w:World} {A:Around} {E:Value → Shared → Prop} {s:Shared} {a:Addr} {xs:List Str} {led:Bool}
theorem strIs {k y:Str} {t:Tok}:(strKind prog w).is k (.str y t) = decide (k = y):=KeyKind.is_eq_decide (strKind_is prog w y t) k
theorem setAdd_S {x:Str} {t0:Tok} {Q:Bool → Shared → Prop} (hS:SetS prog w s.heap a xs led) (hroom:xs.length + 1 < scanBound)
    (h:∀ h' b,Heap.SameBut a s.heap h' → SetS prog w h' a (if x ∈ xs then xs else xs ++ [x]) led → Q b { s with heap:=h' }) :
    wpAny (model prog w) A (setAddHashed a (.str x t0) ((strKind prog w).hash x)) Q E s:=by
  refine cps fun Gq hGq=>?_
  obtain ⟨o,es,ep,t,ho,hex,hd,hel,⟨ys,hys,hyp⟩,hb,hf,hled,hpl⟩:=hS
  refine hGq ?_
  clear hGq
  have hkey:=strKind_is prog w x t0
  have hsc:(Value.str x t0).scannable = true:=rfl
  have hn:es.size = xs.length:=by
    have:=congrArg List.length hys
    simp at this
    rw [this,hyp.length_eq]
  have hb1:es.size + 1 < scanBound:=by rw [hn]; exact hroom
  have mem:(∃ e ∈ es.toList,(strKind prog w).is x e.2 = true) ↔ x ∈ xs:=by
    rw [← hyp.mem_iff]
    constructor
    · rintro ⟨e,he,hi⟩
      have:strVal e.2 ∈ ys.map some:=by rw [← hys]; exact List.mem_map.mpr ⟨e,he,rfl⟩
      obtain ⟨y,hy,e'⟩:=List.mem_map.mp this
      cases hv:e.2 with
      | str z tz =>
        rw [hv,strIs] at hi
        rw [hv] at e'
        have e':=Option.some.inj (e':some y = some z)
        have:=of_decide_eq_true hi
        rw [this,← e']; exact hy
      | _=>rw [hv] at e'; cases e'
    · intro hx
      have:some x ∈ es.toList.map (fun e=>strVal e.2):=by rw [hys]; exact List.mem_map.mpr ⟨x,hx,rfl⟩
      obtain ⟨e,he,e'⟩:=List.mem_map.mp this
      refine ⟨e,he,?_⟩
      cases hv:e.2 with
      | str z tz =>
        rw [hv] at e'
        have e':z = x:=Option.some.inj e'
        rw [e',strIs]; simp
      | _=>rw [hv] at e'; cases e'
  delta setAddHashed; rw [setAddHashedIn]
  refine wpAny_holding (wpAny_bind (wpAny_setState_of ho hd hf ?_))
  dsimp only
  rw [byScan_of hsc hb hel]
  simp only [↓reduceIte]
  delta setAddByScan
  refine wpAny_bind ?_
  refine wpAny_bind (wpAny_rule ?_)
  refine wpAny_bind (wpAny_setScan_of hkey ho hd hf hel ?_)
  cases hr:List.findIdx? (fun e=>(strKind prog w).is x e.2) es.toList with
  | some j =>
    dsimp only
    obtain ⟨hj,hpj,zz⟩:=List.findIdx?_eq_some_iff_getElem.mp hr
    have hx:x ∈ xs:=mem.mp ⟨es.toList[j],List.getElem_mem hj,hpj⟩
    refine wpAny_pure (wpAny_pure ?_)
    have e:s = { s with heap:=s.heap }:=by cases s; rfl
    have:=h s.heap false (Heap.SameBut.refl a s.heap) (by rw [if_pos hx]; exact ⟨o,es,ep,t,ho,hex,hd,hel,⟨ys,hys,hyp⟩,hb,hf,hled,hpl⟩)
    rw [e]; exact this
  | none =>
    dsimp only
    have hx:x ∉ xs:=fun hx=>by
      obtain ⟨e,he,hp⟩:=mem.mpr hx
      have:=List.findIdx?_eq_none_iff.mp hr e he
      rw [hp] at this; exact Bool.noConfusion this
    have hgw:∀ (b:Bool) {s₁:Shared} {Q':Unit → Shared → Prop},Q' () s₁ → wpAny (model prog w) A (match b with | true=>rule "set.scan.the-table-gave-way" | false=>pure ()) Q' E s₁ :=
      fun b s₁ Q' hq=>by cases b <;> first | exact wpAny_pure hq | exact wpAny_rule hq
    have hperm:=layNew_perm t es ((strKind prog w).hash x) (.str x t0)
    have hfits:=layNew_fits t es ((strKind prog w).hash x) (.str x t0)
    have hmarks:=layNew_marks t es ((strKind prog w).hash x) (.str x t0)
    generalize hL:layNew t es ((strKind prog w).hash x) (.str x t0) = L at hperm hfits hmarks ⊢
    refine cps fun Gq hGq=>?_
    obtain ⟨es1,t1,wasDummy,gave⟩:=L
    refine hGq ?_
    clear hGq
    dsimp only at hperm hfits hmarks ⊢
    rw [Array.toList_push] at hperm
    have hel1:ElemsOf (strKind prog w) es1.toList:=(hel.push hkey hsc).perm hperm
    have hb1':es1.size < scanBound:=by rw [← Array.length_toList,hperm.length_eq,List.length_append,Array.length_toList]; simpa using hb1
    obtain ⟨ys1,hys1,hyp1⟩:=map_strVal_perm (ys:=ys ++ [x]) hperm (by rw [List.map_append,hys,List.map_append]; rfl)
    have hyp1':ys1.Perm (xs ++ [x]):=hyp1.trans (hyp.append_right [x])
    refine wpAny_bind (hgw _ ?_)
    have tail:∀ t2:SetTable,t2.fits es1.size = true → t2.led = led → t2.plain = false → ∀ {g:Bool → Sem Unit},(∀ (b:Bool) (s₁:Shared) (Q':Unit → Shared → Prop),Q' () s₁ → wpAny (model prog w) A (g b) Q' E s₁) → ∀ {R:Option Bool → Shared → Prop},
        (∀ h',Heap.SameBut a s.heap h' → SetS prog w h' a (xs ++ [x]) led → R (some true) { s with heap:=h' }) →
        wpAny (model prog w) A (do
          storeSet a es1 t2
          if (!wasDummy && t2.tooFull) = true then do
              g (relayAll t2 es1 (SetTable.grown es1.size)).2.2
              storeSet a (relayAll t2 es1 (SetTable.grown es1.size)).1 (relayAll t2 es1 (SetTable.grown es1.size)).2.1
              pure (some true)
            else pure (some true)) R E s:=by
      intro t2 hf2 hl2 hp2 g hg R hR
      refine wpAny_bind (wpAny_storeSet_of ho hd ?_ (fits_of_scanBound hb1'))
      have ho1:(s.heap.update a (Obj.putSet es1 t2)).get? a = some { o with data:=.set es1 (ep + 1) t2 }:=by
        have:=Heap.get?_update_self (Obj.putSet es1 t2) ho (by rw [putSet_of es1 t2 hd]; rfl)
        rw [putSet_of es1 t2 hd] at this; exact this
      have hsb1:=Heap.SameBut.update s.heap a (Obj.putSet es1 t2)
      split
      · have hp:=relayAll_perm t2 es1 (SetTable.grown es1.size)
        have hfr:=relayAll_fits t2 es1 (SetTable.grown es1.size)
        have hm:=relayAll_marks t2 es1 (SetTable.grown es1.size)
        generalize hRl:relayAll t2 es1 (SetTable.grown es1.size) = Rl at hp hfr hm ⊢
        obtain ⟨es2,t3,gave2⟩:=Rl
        dsimp only at hp hfr hm ⊢
        have hsz:es2.size = es1.size:=by rw [← Array.length_toList,hp.length_eq,Array.length_toList]
        obtain ⟨ys2,hys2,hyp2⟩:=map_strVal_perm hp hys1
        refine wpAny_bind (hg _ _ _ ?_)
        refine wpAny_bind (wpAny_storeSet_of ho1 rfl ?_ (fits_of_scanBound (by rw [hsz]; exact hb1')))
        have ho2:((s.heap.update a (Obj.putSet es1 t2)).update a (Obj.putSet es2 t3)).get? a = some { o with data:=.set es2 (ep + 1 + 1) t3 }:=by
          have:=Heap.get?_update_self (Obj.putSet es2 t3) ho1 (by rw [putSet_of es2 t3 rfl]; rfl)
          rw [putSet_of es2 t3 rfl] at this; exact this
        exact wpAny_pure (hR _ (hsb1.trans (Heap.SameBut.update _ a _)) ⟨_,es2,_,t3,ho2,hex,rfl,hel1.perm hp,⟨ys2,hys2,hyp2.trans hyp1'⟩,by rw [hsz]; exact hb1',hfr,hm.1.trans hl2,fun zz=>hm.2 hp2⟩)
      · exact wpAny_pure (hR _ hsb1 ⟨_,es1,_,t2,ho1,hex,rfl,hel1,⟨ys1,hys1,hyp1'⟩,hb1',hf2,hl2,fun zz=>hp2⟩)
    have hend:∀ h',Heap.SameBut a s.heap h' → SetS prog w h' a (xs ++ [x]) led → Q true { s with heap:=h' }:=by
      intro h' hsb hS'
      have:=h h' true hsb
      rw [if_neg hx] at this
      exact this hS'
    split
    · refine wpAny_bind ?_
      rw [hashByValue_scannable 8 hsc]
      refine wpAny_pure ?_
      have hpk:plainKind (Value.str x t0) = false:=rfl
      rw [hpk]
      simp only [Bool.false_eq_true,↓reduceIte]
      refine tail { t1 with plain:=false } (SetTable.fits_plain_off hfits) (hmarks.1.trans hled) rfl ?_ ?_
      · intro b s₁ Q' hq; cases b <;> first | exact wpAny_pure hq | exact wpAny_rule hq
      · intro h' hsb hS'; dsimp only; exact wpAny_pure (hend h' hsb hS')
    · rename_i hplain
      refine wpAny_bind (wpAny_pure ?_)
      simp only [↓reduceIte]
      refine tail t1 hfits (hmarks.1.trans hled) (by simpa using hplain) ?_ ?_
      · intro b s₁ Q' hq; cases b <;> first | exact wpAny_pure hq | exact wpAny_rule hq
      · intro h' hsb hS'; dsimp only; exact wpAny_pure (hend h' hsb hS')
end
end Mine
namespace Mine
open PySem PySem.Calls PyProof.Rows
noncomputable def ledOf (w:World):Bool:=!(w.params.followText "set-order")
theorem addS_length (xs:List Str) (x:Str):(addS xs x).length ≤ xs.length + 1:=by
  delta addS; split <;> simp
theorem foldl_addS_length:∀ (l xs:List Str),(l.foldl addS xs).length ≤ xs.length + l.length
  | [],xs=>by simp
  | x :: l,xs=>by
    rw [List.foldl_cons]
    have:=foldl_addS_length l (addS xs x)
    have:=addS_length xs x
    simp only [List.length_cons]; lia
section
variable {prog:Program} {w:World} {A:Around} {E:Value → Shared → Prop} {s:Shared}
theorem code_set_newS (a:Value) {Q₁:Value → Shared → Prop}
    (h:Q₁ (.ref s.heap.objs.size) { s with heap:=s.heap.push { cls:=.type "set",dict:=none,data:=.set #[] 0 (.fresh 0 0 (ledOf w)) } }) :
    codeAny (model prog w) A (.call (.builtin "set.__new__") ⟨[.type "set",a],[]⟩) (wants Q₁ E) s:=by
  refine codeAny_of_tree ?_
  show wpAny _ A.in1 (do checkBuiltinCall "set.__new__" ⟨[.type "set",a],[]⟩; again (.builtin "set.__new__" ⟨[.type "set",a],[]⟩)) _ _ s
  refine wpAny_bind (wpAny_of_eq (_root_.PySem.F.newCall_set_1 a) (wpAny_pure ⟨plainId_quiet _root_.PySem.F.plain_set_new _,codeAny_builtin _root_.PySem.F.entry_set_new ?_⟩))
  rw [Around.under_plainId _root_.PySem.F.plain_set_new _]
  delta Builtin.«set.__new__» Builtin.Frozenset.newClass
  have hsub:=_root_.PySem.sub_set_self
  refine cps fun Gq hGq=>?_
  obtain ⟨hp,g,d,tk,os⟩:=s
  refine hGq ?_
  clear hGq
  dsimp only
  wp_walk
  refine wpAny_askSetting (wpAny_pure ?_)
  dsimp only
  simp only [newObj]
  refine wpAny_bind (wpAny_alloc (wpAny_pure ?_))
  exact wpAny_pure h
theorem set_loopS {I S:Addr} {fp:List Addr} {n:Nat} {Pi:Nat → Value → Prop} {St:Nat → Heap → Prop} {xs:List Str} {led:Bool} {R₀:Result → Shared → Prop} (W:Walks prog w A.in1 I fp [I] n Pi St) (hSf:S ∉ fp)
    (hval:∀ i v,Pi i v → ∃ x t,v = .str x t ∧ xs[i]? = some x) (hn:n = xs.length) (hb:xs.length + 1 < scanBound) :
    ∀ (k i:Nat) (s:Shared),n - i = k → i ≤ n → St i s.heap → SetS prog w s.heap S ((xs.take i).foldl addS []) led →
      (∀ h' tk,(∀ b o,b ≠ S → b ≠ I → s.heap.get? b = some o → h'.get? b = some o) → SetS prog w h' S (metS xs) led → R₀ (.ok (.ret .none)) { s with heap:=h',toks:=tk }) →
      codeAny (model prog w) A (.builtin "set.update.loop" ⟨[.ref S,.ref I],[]⟩) R₀ s:=by
  have hSI:S ≠ I:=fun e=>hSf (by rw [e]; exact W.sub _ (List.mem_singleton.mpr rfl))
  have up:∀ {h h':Heap} {ys:List Str},SetS prog w h S ys led → (∀ o,h.get? S = some o → h'.get? S = some o) → SetS prog w h' S ys led:=by
    intro h h' ys x hk
    cases x with | mk o es ep t ho hx hd he hy hb hf hl hp=>exact ⟨o,es,ep,t,hk _ ho,hx,hd,he,hy,hb,hf,hl,hp⟩
  intro k
  induction k with
  | zero =>
    intro i s hk hi hst hS hR
    have hin:i = n:=by lia
    subst hin
    refine codeAny_builtin PyProof.Rows.F.entry_set_update_loop ?_
    rw [Around.under_plainId PyProof.Rows.F.plain_set_update_loop _]
    show wpAny _ A.in1 (pyNext (.ref I) >>= _) _ _ s
    refine wpAny_bind (W.done s _ _ hst fun h' tk hm=>?_)
    show wpAny _ A.in1 (ret Value.none) _ _ _
    refine wpAny_pure (hR h' tk (fun b o zz hb e=>hm b o (fun hm=>hb (List.mem_singleton.mp hm)) e) ?_)
    rw [hn,List.take_length] at hS
    exact up hS fun o e=>hm S o (fun hm=>hSI (List.mem_singleton.mp hm)) e
  | succ k ih =>
    intro i s hk hi hst hS hR
    have hlt:i < n:=by lia
    refine codeAny_builtin PyProof.Rows.F.entry_set_update_loop ?_
    rw [Around.under_plainId PyProof.Rows.F.plain_set_update_loop _]
    show wpAny _ A.in1 (pyNext (.ref I) >>= _) _ _ s
    refine wpAny_bind (W.item i s _ _ hlt hst fun v h₁ tk₁ hP hst₁ hm=>?_)
    obtain ⟨x,t,rfl,hx⟩:=hval i v hP
    have hS₁:SetS prog w h₁ S ((xs.take i).foldl addS []) led:=up hS fun o e=>hm S o (fun hm=>hSI (List.mem_singleton.mp hm)) e
    show wpAny _ A.in1 (holding [Value.str x t] (setAdd S (.str x t)) >>= _) _ _ _
    refine wpAny_bind (wpAny_holding ?_)
    delta setAdd
    refine wpAny_holding ?_
    refine wpAny_bind ((strKind prog w).pyHash (k:=x) (strKind_is _ _ _ _) ?_)
    have hroom:((xs.take i).foldl addS []).length + 1 < scanBound:=by
      have:=foldl_addS_length (xs.take i) []
      have:(xs.take i).length ≤ xs.length:=by simp; lia
      simp only [List.length_nil] at *
      lia
    refine setAdd_S (s:={ s with heap:=h₁,toks:=tk₁ + 1 }) hS₁ hroom fun h₂ b hsb hS₂=>?_
    have htake:xs.take (i + 1) = xs.take i ++ [x]:=by rw [List.take_add_one,hx]; rfl
    have hS₂':SetS prog w h₂ S ((xs.take (i + 1)).foldl addS []) led:=by
      rw [htake,List.foldl_append]; exact hS₂
    refine wpAny_pure ⟨plainId_quiet PyProof.Rows.F.plain_set_update_loop _,ih (i + 1) _ (by lia) hlt (W.frame _ _ _ hst₁ fun b hb o e=>hsb.extBut b o (fun h:b = S=>hSf (by rw [← h]; exact hb)) e) hS₂' fun h' tk' hk' hS'=>?_⟩
    exact hR h' tk' (fun b o h1 h2 e=>hk' b o h1 h2 (hsb.extBut b o h1 (hm b o (fun hm=>h2 (List.mem_singleton.mp hm)) e))) hS'
theorem SetS_fresh {led:Bool} {h:Heap} {a:Addr} (hg:h.get? a = some { cls:=.type "set",dict:=none,data:=.set #[] 0 (.fresh 0 0 led) }):SetS prog w h a [] led :=
  ⟨_,#[],0,_,hg,⟨rfl,rfl,rfl⟩,rfl,(by intro e he; simp at he),⟨[],rfl,.refl _⟩,(by decide),rfl,rfl,fun h=>absurd rfl h⟩
set_option maxHeartbeats 3200000 in
theorem call_set_strs {l:Addr} {items:Array Value} {xs:List Str} {Q:Value → Shared → Prop}
    (hh:A.handled = none) (hl:s.heap.IsList l items) (hi:∀ (i:Nat) (v:Value),items[i]? = some v → ∃ (x:Str) (t:Tok),v = Value.str x t ∧ xs[i]? = some x) (hn:items.size = xs.length) (hb:xs.length + 1 < scanBound)
    (h:∀ (h':Heap) (tk:Nat),SetS prog w h' s.heap.objs.size (metS xs) (ledOf w) → (∀ b o,s.heap.get? b = some o → h'.get? b = some o) → Q (.ref s.heap.objs.size) { s with heap:=h',toks:=tk }) :
    wpAny (model prog w) A (call (.type "set") [.ref l]) Q E s:=by
  obtain ⟨c,tl,hmro⟩:=_root_.PySem.F.called_set.mro
  have hmade:=_root_.PySem.F.called_set.made
  have hsub:=_root_.PySem.F.called_set.sub
  refine wpAny_call (codeAny_of_tree ?_)
  show wpAny _ _ (callAny (.type "set") _) _ _ _
  refine wpAny_pure ⟨Code.quiet_builtin _ (by decide +kernel),codeAny_builtin _root_.PySem.F.entry_type_call ?_⟩
  rw [Around.under_plain (weight_type_call_type "set" [.ref l] []) rfl]
  have h1:=_root_.PySem.F.called_set.notType
  have h2:=_root_.PySem.F.called_set.canCreate
  have hct:=_root_.PySem.F.typeCall_set_1 (.ref l)
  repeat (any_goals (first | assumption | wp_step))
  refine codeAny_mono (code_set_newS (w:=w) (.ref l) (E:=E) (Q₁:=fun obj s₁=>obj = .ref s.heap.objs.size ∧ s₁ = { s with heap:=s.heap.push { cls:=.type "set",dict:=none,data:=.set #[] 0 (.fresh 0 0 (ledOf w)) } }) ⟨rfl,rfl⟩) fun r s₁ hr=>?_
  cases r with
  | error e=>exact hr
  | ok fl =>
    cases fl with
    | ret obj =>
      obtain ⟨rfl,rfl⟩:=hr
      have hS:(s.heap.push { cls:=.type "set",dict:=none,data:=.set #[] 0 (.fresh 0 0 (ledOf w)) }).get? s.heap.objs.size = some { cls:=.type "set",dict:=none,data:=.set #[] 0 (.fresh 0 0 (ledOf w)) }:=Heap.get?_push_size _ rfl
      have hT:Shared.TypeIs { s with heap:=s.heap.push { cls:=.type "set",dict:=none,data:=.set #[] 0 (.fresh 0 0 (ledOf w)) } } (.ref s.heap.objs.size) "set":=⟨_,hS,rfl⟩
      have hli:=_root_.PySem.F.called_set.init.lookup
      have hbi:=_root_.PySem.F.called_set.init.bind (.ref s.heap.objs.size)
      repeat (any_goals (first | assumption | wp_step))
      refine codeAny_mono (codeAny_call_builtin (R:=wants (fun r s₂=>r = .none ∧ ∃ h' tk,s₂ = { s with heap:=h',toks:=tk } ∧ SetS prog w h' s.heap.objs.size (metS xs) (ledOf w) ∧ (∀ b o,s.heap.get? b = some o → h'.get? b = some o)) E) _root_.PySem.F.called_set.init.plain _root_.PySem.F.entry_set_init (check_set_init_1 hT ?_)) fun r₂ s₂ hr₂=>?_
      · obtain ⟨ol,hol,hcl,nl,hdl⟩:=hl
        refine cps fun Gq hGq=>?_
        obtain ⟨ocls,odict,odata,oslots⟩:=ol
        refine hGq ?_
        clear hGq
        simp only at hcl hdl
        subst hcl; subst hdl
        have hol':(s.heap.push { cls:=.type "set",dict:=none,data:=.set #[] 0 (.fresh 0 0 (ledOf w)) }).get? l = some { cls:=.type "list",dict:=odict,data:=.seq items nl,slots:=oslots }:=Heap.get?_push_of_some _ hol
        have hsls:=_root_.PySem.F.sub_list_set
        have hslf:=_root_.PySem.F.sub_list_frozenset
        have hne:(Value.type "list" == Value.type "dict") = false:=by decide
        have hl1:(s.heap.push { cls:=.type "set",dict:=none,data:=.set #[] 0 (.fresh 0 0 (ledOf w)) }).IsList l items:=⟨_,hol',rfl,nl,rfl⟩
        delta Builtin.«set.__init__» noKeywords Builtin.Frozenset.updateFrom
        generalize hPI:pyIter = PI
        wp_walk
        subst hPI
        refine wpAny_pyIter_list hl1 ?_
        refine wpAny_bind (wpAny_runValue ?_)
        have hlS:l < s.heap.objs.size:=Heap.lt_size hol
        have hh3:A.in1.in1.in1.handled = none:=by simp [hh]
        have hneI:l ≠ (s.heap.push { cls:=.type "set",dict:=none,data:=.set #[] 0 (.fresh 0 0 (ledOf w)) }).objs.size:=by
          rw [Heap.size_push]; exact Nat.ne_of_lt (Nat.lt_succ_of_lt hlS)
        have hSf:s.heap.objs.size ∉ [(s.heap.push { cls:=.type "set",dict:=none,data:=.set #[] 0 (.fresh 0 0 (ledOf w)) }).objs.size,l]:=by
          rw [Heap.size_push]; simp only [List.mem_cons,List.mem_singleton,List.not_mem_nil,or_false,not_or]
          exact ⟨Nat.ne_of_lt (Nat.lt_succ_self _),Nat.ne_of_gt hlS⟩
        refine set_loopS (xs:=xs) (led:=ledOf w) (Walks.list hh3 _ l hneI items) hSf hi hn hb (items.size - 0) 0 _ (by lia) (Nat.zero_le _) ⟨⟨_,Heap.get?_push_size _ rfl,rfl,rfl⟩,(hl1.push _)⟩ ?hS0 ?hR
        case hS0=>exact SetS_fresh (Heap.get?_push_of_some _ hS)
        case hR =>
          intro h' tk' hk hS'
          show wpAny _ _ _ _ _ _
          refine wpAny_pure ?_
          show wpAny _ _ (ret Value.none) _ _ _
          refine wpAny_pure ⟨rfl,h',tk',rfl,hS',fun b o e=>?_⟩
          have hb:=Heap.lt_size e
          have hb1:b ≠ s.heap.objs.size:=Nat.ne_of_lt hb
          have hb2:b ≠ (s.heap.push { cls:=.type "set",dict:=none,data:=.set #[] 0 (.fresh 0 0 (ledOf w)) }).objs.size:=by
            rw [Heap.size_push]; exact Nat.ne_of_lt (Nat.lt_succ_of_lt hb)
          exact hk b o hb1 hb2 (Heap.get?_push_of_some _ (Heap.get?_push_of_some _ e))
      · cases r₂ with
        | error e=>exact hr₂
        | ok fl₂ =>
          cases fl₂ with
          | ret r =>
            obtain ⟨rfl,h',tk,rfl,hS',hk'⟩:=hr₂
            repeat (any_goals (first | assumption | wp_step))
            exact h _ _ hS' hk'
          | _=>exact hr₂.elim
    | _=>exact hr.elim
end
end Mine
set_option backward.match.sparseCases true
namespace Mine
open PySem PySem.Calls PyProof.Rows
namespace ZF
theorem slot_next:Slot "set_iterator" "__next__" "set_iterator.__next__" :=
  .of (owner:="set_iterator") (n:="__next__") (by rw [typeLookup_type,builtinLookup_eq_fast]; kernel_rfl) (by decide +kernel) (by decide +kernel) (by decide +kernel)
    (by first | exact .inl (by decide +kernel) | exact .inr (by decide +kernel)) (by rw [isSubtype_type]; kernel_rfl)
theorem entry_next:entryFor table "set_iterator.__next__" = some Builtin.«set_iterator.__next__»:=entryFor_of_tree (by kernel_rfl)
theorem args_next (a:Value):argsOk "set_iterator.__next__" ⟨[a],[]⟩:=by delta argsOk; kernel_rfl
theorem slot_self:Slot "set_iterator" "__iter__" "set_iterator.__iter__" :=
  .of (owner:="set_iterator") (n:="__iter__") (by rw [typeLookup_type,builtinLookup_eq_fast]; kernel_rfl) (by decide +kernel) (by decide +kernel) (by decide +kernel)
    (by first | exact .inl (by decide +kernel) | exact .inr (by decide +kernel)) (by rw [isSubtype_type]; kernel_rfl)
theorem entry_iter:entryFor table "set.__iter__" = some Builtin.«frozenset.__iter__» :=
  entryFor_alias (id':="frozenset.__iter__") (by kernel_rfl) rfl (by decide +kernel) (by kernel_rfl)
theorem entry_self:entryFor table "set_iterator.__iter__" = some Builtin.«dict_keyiterator.__iter__» :=
  entryFor_alias (id':="dict_keyiterator.__iter__") (by kernel_rfl) rfl (by decide +kernel) (by kernel_rfl)
theorem args_self (a:Value):argsOk "set_iterator.__iter__" ⟨[a],[]⟩:=by delta argsOk; kernel_rfl
end ZF
theorem eraseIdx_perm {α:Type}:∀ (l:List α) (i:Nat) (x:α),l[i]? = some x → (x :: l.eraseIdx i).Perm l
  | [],i,x,h=>by simp at h
  | y :: l,0,x,h=>by simp at h; subst h; simp
  | y :: l,i + 1,x,h=>by
    simp only [List.eraseIdx_cons_succ]
    exact (List.Perm.swap y x _).trans ((eraseIdx_perm l i x (by simpa using h)).cons y)
theorem pickOrder_perm {α:Type} (f:Nat → Nat) (xs:Array α):(pickOrder f xs).toList.Perm xs.toList:=by
  have key:∀ (n k:Nat) (left:List α) (out:Array α),n = left.length → (pickOrder.go f n k left out).toList.Perm (out.toList ++ left):=by
    intro n
    induction n with
    | zero=>intro k left out hn; cases left with
      | nil=>rw [List.append_nil]; exact .refl _
      | cons zz zz=>simp at hn
    | succ n ih =>
      intro k left out hn
      show (match left[f k % left.length]? with | some x=>pickOrder.go f n (k + 1) (left.eraseIdx (f k % left.length)) (out.push x) | none=>out).toList.Perm _
      have hlt:f k % left.length < left.length:=Nat.mod_lt _ (by lia)
      cases hx:left[f k % left.length]? with
      | none=>rw [List.getElem?_eq_none_iff] at hx; lia
      | some x =>
        dsimp only
        have hp:=eraseIdx_perm left _ x hx
        refine (ih (k + 1) _ _ (by rw [List.length_eraseIdx]; simp [hlt]; lia)).trans ?_
        rw [Array.toList_push,List.append_assoc]
        exact List.Perm.append_left _ hp
  show (pickOrder.go f xs.size 0 xs.toList #[]).toList.Perm _
  have:=key xs.size 0 xs.toList #[] (by simp)
  simpa using this
section
variable {prog:Program} {w:World} {A:Around} {E:Value → Shared → Prop} {s:Shared}
theorem drawOrder_ok {α:Type}:∀ (n:Nat) (xs:List α) (s:Shared) (Q:List α → Shared → Prop),n = xs.length → (∀ ys dr,ys.Perm xs → Q ys { s with drawn:=dr }) → wpAny (model prog w) A (drawOrder n xs) Q E s
  | 0,xs,s,Q,hn,h=>by
    cases xs with
    | nil=>exact wpAny_pure (h [] s.drawn (.refl _))
    | cons zz zz=>simp at hn
  | n + 1,[],s,Q,hn,h=>by simp at hn
  | n + 1,y :: ys,s,Q,hn,h=>by
    show wpAny _ _ (choose .order (y :: ys).length >>= fun i=>match (y :: ys)[i]? with | some x=>(do return x :: (← drawOrder n ((y :: ys).eraseIdx i))) | none=>unsupported "internal:drawOrder") _ _ _
    refine wpAny_bind ?_
    intro Γ p hΓ
    delta choose
    rw [Sem.wp_choose]
    refine ⟨by simp,?_⟩
    rw [Sem.wp]
    have hlt:(model prog w).w.draws .order (s.drawn.get .order) % (y :: ys).length < (y :: ys).length:=Nat.mod_lt _ (by simp)
    generalize (model prog w).w.draws .order (s.drawn.get .order) % (y :: ys).length = i at hlt
    have goal:wpAny (model prog w) A (match (y :: ys)[i]? with | some x=>(do return x :: (← drawOrder n ((y :: ys).eraseIdx i))) | none=>unsupported "internal:drawOrder") Q E { s with drawn:=s.drawn.bump .order }:=by
      have hx:(y :: ys)[i]? = some (y :: ys)[i]:=List.getElem?_eq_getElem hlt
      rw [hx]
      dsimp only
      refine wpAny_bind (drawOrder_ok n _ _ _ ?_ fun zs dr hz=>wpAny_pure ?_)
      · rw [List.length_eraseIdx,if_pos hlt]; simp at hn ⊢; lia
      · exact h _ dr ((hz.cons _).trans (eraseIdx_perm _ i _ hx))
    exact goal
noncomputable def sitObj (first:Value) (i:Nat) (a:Value) (n ep:Nat):Obj:={ cls:=.type "set_iterator",data:=.fields #[first,rawInt i,a,rawInt n,rawInt ep] }
variable {I a:Addr} {o:Obj} {es:Array (Int × Value)} {ep:Nat} {t:SetTable} {i n:Nat} {x:Value} {hsh:Int} {Q:Option Value → Shared → Prop}
theorem byText_ok {Qb:Bool → Shared → Prop} (h:Qb (w.params.followText "set-order") s):wpAny (model prog w) A setsByText Qb E s:=by
  delta setsByText
  exact wpAny_bind (wpAny_askSetting (wpAny_pure h))
theorem entries_ok {Qe:Array (Int × Value) → Shared → Prop} (ho:s.heap.get? a = some o) (hd:o.data = .set es ep t) (hf:t.fits es.size = true) (h:Qe es s):wpAny (model prog w) A (setEntries a) Qe E s:=by
  delta setEntries
  exact wpAny_bind (wpAny_setState_of ho hd hf (wpAny_pure h))
theorem next_common {first:Value} (hit:s.heap.get? I = some (sitObj first i (.ref a) n ep)) (ho:s.heap.get? a = some o) (hd:o.data = .set es ep t) (hf:t.fits es.size = true) (hn:es.size = n)
    (h:wpAny (model prog w) A.in1 (match first with
        | .int slot _=>do
          match ← setNext a slot.toNat i ep with
          | some (x,next)=>do
            setField (.ref I) 0 (rawInt next)
            setField (.ref I) 1 (rawInt (i + 1))
            ret x
          | none=>do
            setField (.ref I) 2 .none
            raiseNew (← newExc (.type "StopIteration") [])
        | _=>do
          let some places ← seqItems? first | unsupported "internal:set_iterator"
          match places[i]? with
          | some (.int place _)=>do
            let x ← setNextDrawn a place.toNat ep
            setField (.ref I) 1 (rawInt (i + 1))
            ret x
          | some zz=>unsupported "internal:set_iterator"
          | none=>do
            setField (.ref I) 0 (rawInt 0)
            setField (.ref I) 2 .none
            raiseNew (← newExc (.type "StopIteration") []))
      (fun fin s'=>∃ v,fin = .done (.ret v) ∧ Q (some v) s') (fun e s'=>wpAny (model prog w) A (isInstance e (.type "StopIteration")) (fun b s''=>b = true ∧ Q none s'') E s') s) :
    wpAny (model prog w) A (pyNext (.ref I)) Q E s:=by
  have hT:s.TypeIs (.ref I) "set_iterator":=⟨_,hit,rfl⟩
  delta pyNext
  refine wpAny_bind (wpAny_attempt (wpAny_callSpecial?_slot (name:=Str.ofString "__next__") hT ZF.slot_next (wpAny_call_entry ZF.slot_next hT ZF.entry_next ?_ (ZF.args_next _))))
  delta Builtin.«set_iterator.__next__»
  refine wpAny_bind (wpAny_of_eq (a:=(Value.ref I,([]:List Value))) rfl ?_)
  refine wpAny_bind (wpAny_fieldsOf hit rfl ?_)
  show wpAny _ _ (setEntries a >>= _) _ _ _
  refine wpAny_bind (entries_ok ho hd hf ?_)
  have hne:(((es.size:Int) != (n:Int)) = false):=by rw [hn]; simp
  dsimp only
  rw [hne]
  simp only [Bool.false_eq_true,if_false,Int.toNat_natCast]
  refine wpAny_mono h (fun fin s' h'=>?_) (fun e s' h'=>?_)
  · obtain ⟨v,e,q⟩:=h'
    exact ⟨v,e,wpAny_pure q⟩
  · refine wpAny_bind (wpAny_mono h' (fun b s'' h''=>?_) fun zz zz x=>x)
    obtain ⟨rfl,q⟩:=h''
    simp only [if_true]
    exact wpAny_pure q
theorem stop_ok {Qx:PySem.Fin → Shared → Prop} (hh:A.handled = none) (hQ:∀ h',(∀ b o,s.heap.get? b = some o → h'.get? b = some o) → Q none { s with heap:=h' }) :
    wpAny (model prog w) A.in1 (do raiseNew (← newExc (.type "StopIteration") [])) Qx (fun e s'=>wpAny (model prog w) A (isInstance e (.type "StopIteration")) (fun b s''=>b = true ∧ Q none s'') E s') s:=by
  refine wpAny_bind ?_
  simp only [newExc,newTuple]
  refine wpAny_bind (wpAny_newObj_type ?_ (by size_fits))
  refine wpAny_bind (m:=firstArgMember _ _) (wpAny_of_eq (a:=Value.none) (by first | rfl | (simp only [firstArgMember]; rfl)) ?_)
  refine wpAny_newObj_type ?_ (by size_fits)
  simp only [raiseNew]
  refine wpAny_bind (wpAny_handled ?_)
  rw [show A.in1.handled = none from hh]
  refine wpAny_bind (wpAny_pure (wpAny_throw ?_))
  refine wpAny_isInstance (T:="StopIteration") (b:=true) ⟨_,Heap.get?_push_size _ rfl,rfl⟩ isSubtype_stop ⟨rfl,hQ _ fun b o e=>?_⟩
  exact Heap.get?_push_of_some _ (Heap.get?_push_of_some _ e)
theorem sit_set0 {first v:Value} (hit:s.heap.get? I = some (sitObj first i (.ref a) n ep)) {Qu:Unit → Shared → Prop} (h:∀ h',h'.get? I = some (sitObj v i (.ref a) n ep) → Heap.SameBut I s.heap h' → Qu () { s with heap:=h' }):wpAny (model prog w) A (setField (.ref I) 0 v) Qu E s:=by
  refine wpAny_setField hit rfl (by simp) (h _ ?_ (Heap.SameBut.update ..))
  rw [Heap.get?_update_self _ hit rfl]; rfl
theorem sit_set1 {first:Value} {j:Nat} (hit:s.heap.get? I = some (sitObj first i (.ref a) n ep)) {Qu:Unit → Shared → Prop} (h:∀ h',h'.get? I = some (sitObj first j (.ref a) n ep) → Heap.SameBut I s.heap h' → Qu () { s with heap:=h' }):wpAny (model prog w) A (setField (.ref I) 1 (rawInt j)) Qu E s:=by
  refine wpAny_setField hit rfl (by simp) (h _ ?_ (Heap.SameBut.update ..))
  rw [Heap.get?_update_self _ hit rfl]; rfl
theorem next_A (hne:a ≠ I) (hbt:w.params.followText "set-order" = true) (hit:s.heap.get? I = some (sitObj (rawInt 0) i (.ref a) n ep)) (ho:s.heap.get? a = some o) (hd:o.data = .set es ep t) (hf:t.fits es.size = true) (hn:es.size = n)
    (hx:(pickOrder (w.params.setOrder a ep) es)[i]? = some (hsh,x))
    (hQ:∀ h',h'.get? I = some (sitObj (rawInt 0) (i + 1) (.ref a) n ep) → Heap.SameBut I s.heap h' → Q (some x) { s with heap:=h' }):wpAny (model prog w) A (pyNext (.ref I)) Q E s:=by
  refine next_common hit ho hd hf hn ?_
  show wpAny _ _ (setNext a 0 i ep >>= _) _ _ _
  refine wpAny_bind ?_
  delta setNext
  refine wpAny_bind (wpAny_setState_of ho hd hf ?_)
  dsimp only
  refine wpAny_bind (byText_ok ?_)
  rw [hbt]
  simp only [if_true,bne_self_eq_false,Bool.false_eq_true,if_false]
  refine wpAny_bind ?_
  delta setWalk
  refine wpAny_bind (wpAny_setState_of ho hd hf ?_)
  dsimp only
  refine wpAny_bind (byText_ok ?_)
  rw [hbt]
  simp only [if_true]
  refine wpAny_bind (wpAny_askSetting (wpAny_pure (wpAny_pure ?_)))
  have hx':(pickOrder ((model prog w).w.params.setOrder a ep) es)[i]? = some (hsh,x):=hx
  dsimp only
  rw [hx']
  simp only [Option.map_some]
  refine wpAny_bind (sit_set0 hit fun h₁ hit₁ hs₁=>?_)
  refine wpAny_bind (sit_set1 (s:={ s with heap:=h₁ }) (j:=i + 1) hit₁ fun h₂ hit₂ hs₂=>?_)
  exact wpAny_pure ⟨x,rfl,hQ h₂ hit₂ (hs₁.trans hs₂)⟩
theorem done_A (hh:A.handled = none) (hbt:w.params.followText "set-order" = true) (hit:s.heap.get? I = some (sitObj (rawInt 0) i (.ref a) n ep)) (ho:s.heap.get? a = some o) (hd:o.data = .set es ep t) (hf:t.fits es.size = true) (hn:es.size = n)
    (hx:(pickOrder (w.params.setOrder a ep) es)[i]? = none)
    (hQ:∀ h',(∀ b o,b ≠ I → s.heap.get? b = some o → h'.get? b = some o) → Q none { s with heap:=h' }):wpAny (model prog w) A (pyNext (.ref I)) Q E s:=by
  refine next_common hit ho hd hf hn ?_
  show wpAny _ _ (setNext a 0 i ep >>= _) _ _ _
  refine wpAny_bind ?_
  delta setNext
  refine wpAny_bind (wpAny_setState_of ho hd hf ?_)
  dsimp only
  refine wpAny_bind (byText_ok ?_)
  rw [hbt]
  simp only [if_true,bne_self_eq_false,Bool.false_eq_true,if_false]
  refine wpAny_bind ?_
  delta setWalk
  refine wpAny_bind (wpAny_setState_of ho hd hf ?_)
  dsimp only
  refine wpAny_bind (byText_ok ?_)
  rw [hbt]
  simp only [if_true]
  refine wpAny_bind (wpAny_askSetting (wpAny_pure (wpAny_pure ?_)))
  have hx':(pickOrder ((model prog w).w.params.setOrder a ep) es)[i]? = none:=hx
  dsimp only
  rw [hx']
  simp only [Option.map_none]
  refine wpAny_bind (wpAny_setField hit rfl (by simp) ?_)
  exact stop_ok hh fun h' hk=>hQ h' fun b o hb e=>hk b o ((Heap.get?_update_other _ _ (Ne.symm hb)).trans e)
theorem next_B {T:Addr} {ps:List Nat} {pl:Nat} (hbt:w.params.followText "set-order" = false) (hit:s.heap.get? I = some (sitObj (.ref T) i (.ref a) n ep)) (ho:s.heap.get? a = some o) (hd:o.data = .set es ep t) (hf:t.fits es.size = true) (hn:es.size = n)
    {oT:Obj} {nT:Nat} (hoT:s.heap.get? T = some oT) (hdT:oT.data = .seq (ps.map fun (i:Nat)=>rawInt i).toArray nT) (hp:ps[i]? = some pl) (hx:es[pl]? = some (hsh,x))
    (hQ:∀ h',h'.get? I = some (sitObj (.ref T) (i + 1) (.ref a) n ep) → Heap.SameBut I s.heap h' → Q (some x) { s with heap:=h' }):wpAny (model prog w) A (pyNext (.ref I)) Q E s:=by
  refine next_common hit ho hd hf hn ?_
  show wpAny _ _ (seqItems? (.ref T) >>= _) _ _ _
  refine wpAny_bind (wpAny_seqItems hoT hdT ?_)
  have hpl:(ps.map fun (i:Nat)=>rawInt i).toArray[i]? = some (rawInt pl):=by simp [hp]
  dsimp only
  rw [hpl]
  show wpAny _ _ (setNextDrawn a (pl:Int).toNat ep >>= _) _ _ _
  refine wpAny_bind ?_
  delta setNextDrawn
  refine wpAny_bind (wpAny_setState_of ho hd hf ?_)
  simp only [bne_self_eq_false,Bool.false_eq_true,if_false,Int.toNat_natCast]
  rw [hx]
  refine wpAny_pure ?_
  refine wpAny_bind (sit_set1 (j:=i + 1) hit fun h₂ hit₂ hs₂=>?_)
  exact wpAny_pure ⟨x,rfl,hQ h₂ hit₂ hs₂⟩
theorem done_B {T:Addr} {ps:List Nat} (hh:A.handled = none) (hit:s.heap.get? I = some (sitObj (.ref T) i (.ref a) n ep)) (ho:s.heap.get? a = some o) (hd:o.data = .set es ep t) (hf:t.fits es.size = true) (hn:es.size = n)
    {oT:Obj} {nT:Nat} (hoT:s.heap.get? T = some oT) (hdT:oT.data = .seq (ps.map fun (i:Nat)=>rawInt i).toArray nT) (hp:ps[i]? = none)
    (hQ:∀ h',(∀ b o,b ≠ I → s.heap.get? b = some o → h'.get? b = some o) → Q none { s with heap:=h' }):wpAny (model prog w) A (pyNext (.ref I)) Q E s:=by
  refine next_common hit ho hd hf hn ?_
  show wpAny _ _ (seqItems? (.ref T) >>= _) _ _ _
  refine wpAny_bind (wpAny_seqItems hoT hdT ?_)
  have hpl:(ps.map fun (i:Nat)=>rawInt i).toArray[i]? = none:=by simpa using hp
  dsimp only
  rw [hpl]
  refine wpAny_bind (sit_set0 hit fun h₁ hit₁ hs₁=>?_)
  refine wpAny_bind (wpAny_setField (s:={ s with heap:=h₁ }) hit₁ rfl (by simp) ?_)
  exact stop_ok hh fun h' hk=>hQ h' fun b o hb e=>hk b o ((Heap.get?_update_other _ _ (Ne.symm hb)).trans (hs₁.extBut b o hb e))
theorem below0 (j:Nat):SetTable.below #[j] 0 = 0:=by
  show (if 0 < 1 then (if (#[j]:Array Nat).getD 0 0 < 0 then 1 else 0) else 0) = 0
  exact (if_pos (by decide)).trans (if_neg (Nat.not_lt_zero _))
theorem below1 (j:Nat):SetTable.below #[j] (j + 1) = 1:=by
  show (if 0 < 1 then (if (#[j]:Array Nat).getD ((0 + 1) / 2) (j + 1) < j + 1 then SetTable.below.go #[j] (j + 1) 0 ((0 + 1) / 2 + 1) 1 else SetTable.below.go #[j] (j + 1) 0 0 ((0 + 1) / 2)) else 0) = 1
  exact (if_pos (by decide)).trans (if_pos (Nat.lt_succ_self j))
theorem next_C {e:Int × Value} {mask j finger moves:Nat} {dum:Array Nat} (hbt:w.params.followText "set-order" = false) (hit:s.heap.get? I = some (sitObj (rawInt 0) 0 (.ref a) 1 ep)) (ho:s.heap.get? a = some o)
    (hd:o.data = .set #[e] ep ⟨mask,#[j],dum,finger,true,moves,false⟩) (hf:(⟨mask,#[j],dum,finger,true,moves,false⟩:SetTable).fits (#[e]:Array (Int × Value)).size = true)
    (hQ:∀ h',h'.get? I = some (sitObj (rawInt (j + 1:Nat)) 1 (.ref a) 1 ep) → Heap.SameBut I s.heap h' → Q (some e.2) { s with heap:=h' }):wpAny (model prog w) A (pyNext (.ref I)) Q E s:=by
  refine next_common hit ho hd hf rfl ?_
  show wpAny _ _ (setNext a 0 0 ep >>= _) _ _ _
  refine wpAny_bind ?_
  delta setNext
  refine wpAny_bind (wpAny_setState_of ho hd hf ?_)
  dsimp only
  refine wpAny_bind (byText_ok ?_)
  rw [hbt]
  simp only [Bool.false_eq_true,if_false]
  show wpAny _ _ (pure (match (#[e]:Array (Int × Value))[SetTable.below #[j] 0]?,(#[j]:Array Nat)[SetTable.below #[j] 0]? with | some (_,x),some j=>some (x,j + 1) | _,_=>none)) _ _ _
  rw [below0]
  refine wpAny_pure ?_
  show wpAny _ _ (do setField (.ref I) 0 (rawInt (j + 1:Nat)); setField (.ref I) 1 (rawInt ((0:Nat) + 1:Int)); ret e.2) _ _ _
  refine wpAny_bind (sit_set0 hit fun h₁ hit₁ hs₁=>?_)
  refine wpAny_bind (sit_set1 (s:={ s with heap:=h₁ }) (j:=1) hit₁ fun h₂ hit₂ hs₂=>?_)
  exact wpAny_pure ⟨e.2,rfl,hQ h₂ hit₂ (hs₁.trans hs₂)⟩
theorem done_C {e:Int × Value} {mask j finger moves:Nat} {dum:Array Nat} (hh:A.handled = none) (hbt:w.params.followText "set-order" = false) (hit:s.heap.get? I = some (sitObj (rawInt (j + 1:Nat)) 1 (.ref a) 1 ep)) (ho:s.heap.get? a = some o)
    (hd:o.data = .set #[e] ep ⟨mask,#[j],dum,finger,true,moves,false⟩) (hf:(⟨mask,#[j],dum,finger,true,moves,false⟩:SetTable).fits (#[e]:Array (Int × Value)).size = true)
    (hQ:∀ h',(∀ b o,b ≠ I → s.heap.get? b = some o → h'.get? b = some o) → Q none { s with heap:=h' }):wpAny (model prog w) A (pyNext (.ref I)) Q E s:=by
  refine next_common hit ho hd hf rfl ?_
  show wpAny _ _ (setNext a (j + 1) 1 ep >>= _) _ _ _
  refine wpAny_bind ?_
  delta setNext
  refine wpAny_bind (wpAny_setState_of ho hd hf ?_)
  dsimp only
  refine wpAny_bind (byText_ok ?_)
  rw [hbt]
  simp only [Bool.false_eq_true,if_false]
  show wpAny _ _ (pure (match (#[e]:Array (Int × Value))[SetTable.below #[j] (j + 1)]?,(#[j]:Array Nat)[SetTable.below #[j] (j + 1)]? with | some (_,x),some j=>some (x,j + 1) | _,_=>none)) _ _ _
  rw [below1]
  refine wpAny_pure ?_
  show wpAny _ _ (do setField (.ref I) 2 .none; raiseNew (← newExc (.type "StopIteration") [])) _ _ _
  refine wpAny_bind (wpAny_setField hit rfl (by simp) ?_)
  exact stop_ok hh fun h' hk=>hQ h' fun b o hb e=>hk b o ((Heap.get?_update_other _ _ (Ne.symm hb)).trans e)
end
end Mine
set_option backward.match.sparseCases false
namespace Mine
open PySem PySem.Calls PyProof.Rows
section
variable {prog:Program} {w:World} {A:Around} {E:Value → Shared → Prop} {s:Shared} {I a:Addr} {o:Obj} {es:Array (Int × Value)} {ep:Nat} {t:SetTable} {i n:Nat}
theorem sit_self {first:Value} {Q:Value → Shared → Prop} (hit:s.heap.get? I = some (sitObj first i (.ref a) n ep)) (hQ:Q (.ref I) s):wpAny (model prog w) A (pyIter (.ref I)) Q E s:=by
  have hT:s.TypeIs (.ref I) "set_iterator":=⟨_,hit,rfl⟩
  refine wpAny_pyIter_slot hT ZF.slot_self (wpAny_call_entry ZF.slot_self hT ZF.entry_self ?_ (ZF.args_self _))
  exact wpAny_pure ⟨_,rfl,"set_iterator",_,hT,ZF.slot_next.lookup,hQ⟩
theorem walks_A (hh:A.handled = none) (hne:a ≠ I) (hbt:w.params.followText "set-order" = true) (hd:o.data = .set es ep t) (hf:t.fits es.size = true) :
    Walks prog w A I [I,a] [I] ((pickOrder (w.params.setOrder a ep) es).toList.map (·.2)).length (fun i v=>((pickOrder (w.params.setOrder a ep) es).toList.map (·.2))[i]? = some v) (fun i h=>h.get? I = some (sitObj (rawInt 0) i (.ref a) es.size ep) ∧ h.get? a = some o) where
  sub:=fun b hb=>by simp at hb; simp [hb]
  frame:=fun zz zz zz st hk=>⟨hk I (by simp) _ st.1,hk a (by simp) _ st.2⟩
  item:=fun i s Q E hi st hQ=>by
    have hi':i < (pickOrder (w.params.setOrder a ep) es).toList.length:=by simpa using hi
    have hx:(pickOrder (w.params.setOrder a ep) es)[i]? = some ((pickOrder (w.params.setOrder a ep) es).toList[i].1,(pickOrder (w.params.setOrder a ep) es).toList[i].2):=by
      rw [← Array.getElem?_toList,List.getElem?_eq_getElem hi']
    refine next_A hne hbt st.1 st.2 hd hf rfl hx fun h' hit' hs'=>hQ _ h' s.toks ?_ ⟨hit',hs'.extBut a o hne st.2⟩ fun b o hb e=>hs'.extBut b o (fun q=>hb (by simp [q])) e
    rw [List.getElem?_map,List.getElem?_eq_getElem hi']; rfl
  done:=fun s Q E st hQ=>by
    refine done_A hh hbt st.1 st.2 hd hf rfl ?_ fun h' hk=>hQ h' s.toks fun b o hb e=>hk b o (fun q=>hb (by simp [q])) e
    rw [← Array.getElem?_toList,List.getElem?_eq_none_iff]; simp
  self:=fun i s Q E st hQ=>sit_self st.1 hQ
theorem walks_B {T:Addr} {ps:List Nat} {oT:Obj} {nT:Nat} (hh:A.handled = none) (hne:a ≠ I) (hTI:T ≠ I) (hbt:w.params.followText "set-order" = false) (hd:o.data = .set es ep t) (hf:t.fits es.size = true) (hdT:oT.data = .seq (ps.map fun (i:Nat)=>rawInt i).toArray nT) (hps:∀ p ∈ ps,p < es.size) :
    Walks prog w A I [I,a,T] [I] (ps.map fun p=>((es[p]?).getD (0,.none)).2).length (fun i v=>(ps.map fun p=>((es[p]?).getD (0,.none)).2)[i]? = some v) (fun i h=>h.get? I = some (sitObj (.ref T) i (.ref a) es.size ep) ∧ h.get? a = some o ∧ h.get? T = some oT) where
  sub:=fun b hb=>by simp at hb; simp [hb]
  frame:=fun zz zz zz st hk=>⟨hk I (by simp) _ st.1,hk a (by simp) _ st.2.1,hk T (by simp) _ st.2.2⟩
  item:=fun i s Q E hi st hQ=>by
    have hi':i < ps.length:=by simpa using hi
    have hp:ps[i]? = some ps[i]:=List.getElem?_eq_getElem hi'
    have hlt:=hps ps[i] (List.getElem_mem hi')
    have hx:es[ps[i]]? = some (es[ps[i]].1,es[ps[i]].2):=Array.getElem?_eq_getElem hlt
    refine next_B hbt st.1 st.2.1 hd hf rfl st.2.2 hdT hp hx fun h' hit' hs'=>hQ _ h' s.toks ?_ ⟨hit',hs'.extBut a o hne st.2.1,hs'.extBut T oT hTI st.2.2⟩ fun b o hb e=>hs'.extBut b o (fun q=>hb (by simp [q])) e
    rw [List.getElem?_map,hp]
    simp [hlt]
  done:=fun s Q E st hQ=>by
    refine done_B hh st.1 st.2.1 hd hf rfl st.2.2 hdT ?_ fun h' hk=>hQ h' s.toks fun b o hb e=>hk b o (fun q=>hb (by simp [q])) e
    rw [List.getElem?_eq_none_iff]; simp
  self:=fun i s Q E st hQ=>sit_self st.1 hQ
theorem walks_C {e:Int × Value} {mask j finger moves:Nat} {dum:Array Nat} (hh:A.handled = none) (hne:a ≠ I) (hbt:w.params.followText "set-order" = false)
    (hd:o.data = .set #[e] ep ⟨mask,#[j],dum,finger,true,moves,false⟩) (hf:(⟨mask,#[j],dum,finger,true,moves,false⟩:SetTable).fits (#[e]:Array (Int × Value)).size = true) :
    Walks prog w A I [I,a] [I] [e.2].length (fun i v=>[e.2][i]? = some v) (fun i h=>h.get? I = some (sitObj (rawInt (if i = 0 then 0 else j + 1:Nat)) i (.ref a) 1 ep) ∧ h.get? a = some o) where
  sub:=fun b hb=>by simp at hb; simp [hb]
  frame:=fun zz zz zz st hk=>⟨hk I (by simp) _ st.1,hk a (by simp) _ st.2⟩
  item:=fun i s Q E hi st hQ=>by
    have:i = 0:=by simp at hi; exact hi
    subst this
    exact next_C hbt st.1 st.2 hd hf fun h' hit' hs'=>hQ _ h' s.toks rfl ⟨hit',hs'.extBut a o hne st.2⟩ fun b o hb e=>hs'.extBut b o (fun q=>hb (by simp [q])) e
  done:=fun s Q E st hQ=>done_C hh hbt st.1 st.2 hd hf fun h' hk=>hQ h' s.toks fun b o hb e=>hk b o (fun q=>hb (by simp [q])) e
  self:=fun i s Q E st hQ=>sit_self st.1 hQ
theorem setDrawn_ok {mask finger moves:Nat} {place dum:Array Nat} {led:Bool} {Q:Bool → Shared → Prop} (ho:s.heap.get? a = some o) (hd:o.data = .set es ep ⟨mask,place,dum,finger,led,moves,false⟩) (hf:(⟨mask,place,dum,finger,led,moves,false⟩:SetTable).fits es.size = true)
    (h:Q (!(w.params.followText "set-order") && decide (es.size > 1)) s):wpAny (model prog w) A (setDrawn a) Q E s:=by
  delta setDrawn
  refine wpAny_bind (wpAny_setState_of ho hd hf ?_)
  dsimp only
  exact wpAny_bind (byText_ok (wpAny_pure h))
end
end Mine
namespace Mine
open PySem PySem.Calls PyProof.Rows
theorem vals_perm {vs us:List Value} {ys:List Str} (hp:vs.Perm us) (h:us.map strVal = ys.map some):∃ ys':List Str,vs.map strVal = ys'.map some ∧ ys'.Perm ys:=by
  obtain ⟨ys',h1,h2⟩:=map_strVal_perm (l:=us.map fun v=>((0:Int),v)) (l':=vs.map fun v=>((0:Int),v)) (ys:=ys) (hp.map _) (by rw [List.map_map]; exact h)
  exact ⟨ys',by rw [List.map_map] at h1; exact h1,h2⟩
theorem range_vals (es:Array (Int × Value)):(List.range es.size).map (fun p=>((es[p]?).getD (0,.none)).2) = es.toList.map (·.2):=by
  apply List.ext_getElem
  · simp
  · intro i h1 h2
    have hi:i < es.size:=by simpa using h1
    simp [hi]
theorem arr_one {α:Type} {es:Array α} (h:es.size = 1):∃ e,es = #[e]:=by
  obtain ⟨l⟩:=es
  cases l with
  | nil=>cases h
  | cons e l =>
    cases l with
    | nil=>exact ⟨e,rfl⟩
    | cons zz zz=>cases h
section
variable {prog:Program} {w:World} {A:Around} {E:Value → Shared → Prop} {s:Shared} {a:Addr} {xs:List Str}
theorem iter_set {K:Value → Shared → Prop} (hS:SetS prog w s.heap a xs (ledOf w)) (hne:xs ≠ [])
    (h:∀ (I:Addr) (fp:List Addr) (vs:List Value) (St:Nat → Heap → Prop) (s₂:Shared) (ys:List Str),Keeps s s₂ → s.heap.get? I = none → (∀ b ∈ fp,b < s₂.heap.objs.size) → (∀ b ∈ fp,b = a ∨ s.heap.get? b = none) → I ∈ fp → (∀ A':Around,A'.handled = none → Walks prog w A' I fp [I] vs.length (fun i v=>vs[i]? = some v) St) → St 0 s₂.heap →
      vs.map strVal = ys.map some → ys.Perm xs → K (.ref I) s₂):wpAny (model prog w) A (pyIter (.ref a)) K E s:=by
  refine cps fun Gq hGq=>?_
  obtain ⟨o,es,ep,t,ho,hex,hd,hel,⟨ys,hys,hyp⟩,hb,hf,hled,hpl⟩:=hS
  refine hGq ?_
  clear hGq
  have hsz:es.size = xs.length:=by
    have:=congrArg List.length hys
    simp at this
    rw [this,hyp.length_eq]
  have hsz0:es.size ≠ 0:=by rw [hsz]; intro e; exact hne (List.length_eq_zero_iff.mp e)
  have hpl:=hpl hsz0
  refine cps fun Gq hGq=>?_
  obtain ⟨mask,place,dum,finger,led,moves,plain⟩:=t
  refine hGq ?_
  clear hGq
  simp only at hpl hled
  subst hpl
  subst hled
  have hT:s.TypeIs (.ref a) "set":=⟨o,ho,hex.1⟩
  have halt:a < s.heap.objs.size:=Heap.lt_size ho
  have hys':(es.toList.map (·.2)).map strVal = ys.map some:=by rw [List.map_map]; exact hys
  refine wpAny_pyIter_slot hT _root_.PySem.F.slot_set_iter (wpAny_call_entry _root_.PySem.F.slot_set_iter hT ZF.entry_iter ?_ (_root_.PySem.F.args_set_iter_1 _))
  delta Builtin.«frozenset.__iter__»
  refine wpAny_bind (wpAny_of_eq (a:=a) rfl ?_)
  delta Builtin.Frozenset.sizeOf
  refine wpAny_bind (wpAny_bind (entries_ok ho hd hf (wpAny_pure ?_)))
  refine wpAny_bind (setDrawn_ok ho hd hf ?_)
  cases hbt:w.params.followText "set-order" with
  | true =>
    simp only [Bool.not_true,Bool.false_and,Bool.false_eq_true,if_false]
    refine wpAny_bind (wpAny_pure ?_)
    refine wpAny_bind (wpAny_setEpoch_of ho hd hf ?_)
    refine wpAny_bind (wpAny_newObj_type (wpAny_pure ⟨_,rfl,"set_iterator",_,⟨_,Heap.get?_push_size _ rfl,rfl⟩,ZF.slot_next.lookup,?_⟩))
    have hp:=(pickOrder_perm (w.params.setOrder a ep) es).map (fun e:Int × Value=>e.2)
    obtain ⟨ys',h1,h2⟩:=vals_perm hp hys'
    refine h s.heap.objs.size [s.heap.objs.size,a] _ _ _ ys' (kpush _ _) (size_none _) ?_ (by intro b hb; simp at hb; rcases hb with rfl | rfl <;> first | exact .inr (size_none _) | exact .inl rfl) (by simp) (fun A' hA'=>walks_A hA' (Nat.ne_of_lt halt) hbt hd hf) ⟨Heap.get?_push_size _ rfl,Heap.get?_push_of_some _ ho⟩ h1 (h2.trans hyp)
    intro b hb
    rw [Heap.size_push]
    simp at hb
    rcases hb with rfl | rfl
    · exact Nat.lt_succ_self _
    · exact Nat.lt_succ_of_lt halt
  | false =>
    by_cases h1:es.size > 1
    · simp only [h1,decide_true,Bool.not_false,Bool.and_self,if_true]
      refine wpAny_bind (drawOrder_ok _ _ _ _ (by simp) fun ps dr hps=>?_)
      delta newTuple
      have hpl:(ps.map fun (i:Nat)=>rawInt i).length ≤ sizeLine:=by
        rw [List.length_map,hps.length_eq,List.length_range]
        exact fits_of_scanBound hb
      refine wpAny_bind (wpAny_newObj_type ?_ (by first | exact hpl | (delta sizeOk; simpa using hpl) | (simp only [sizeOk]; simpa using hpl) | size_fits))
      have ho1:(s.heap.push { cls:=.type "tuple",data:=.seq (ps.map fun (i:Nat)=>rawInt i).toArray }).get? a = some o:=Heap.get?_push_of_some _ ho
      refine wpAny_bind (wpAny_setEpoch_of (s:={ s with heap:=s.heap.push { cls:=.type "tuple",data:=.seq (ps.map fun (i:Nat)=>rawInt i).toArray },drawn:=dr }) ho1 hd hf ?_)
      refine wpAny_bind (wpAny_newObj_type (wpAny_pure ⟨_,rfl,"set_iterator",_,⟨_,Heap.get?_push_size _ rfl,rfl⟩,ZF.slot_next.lookup,?_⟩))
      have hvp:(ps.map fun p=>((es[p]?).getD (0,.none)).2).Perm (es.toList.map (·.2)):=by
        rw [← range_vals]; exact hps.map _
      obtain ⟨ys',g1,g2⟩:=vals_perm hvp hys'
      have hI:(s.heap.push { cls:=.type "tuple",data:=.seq (ps.map fun (i:Nat)=>rawInt i).toArray }).objs.size = s.heap.objs.size + 1:=Heap.size_push ..
      refine h _ [_,a,s.heap.objs.size] _ _ _ ys' ⟨_,s.toks,dr,rfl,fun b o e=>Heap.get?_push_of_some _ (Heap.get?_push_of_some _ e)⟩ ?_ ?_ ?_ (by simp) (fun A' hA'=>walks_B (T:=s.heap.objs.size) (ps:=ps) (oT:={ cls:=.type "tuple",data:=.seq (ps.map fun (i:Nat)=>rawInt i).toArray }) (nT:=0) hA' ?_ ?_ hbt hd hf rfl fun p hp=>List.mem_range.mp (hps.mem_iff.mp hp)) ⟨Heap.get?_push_size _ rfl,Heap.get?_push_of_some _ ho1,Heap.get?_push_of_some _ (Heap.get?_push_size _ rfl)⟩ g1 (g2.trans hyp)
      · show s.heap.get? (s.heap.push _).objs.size = none
        rw [hI]
        cases q:s.heap.get? (s.heap.objs.size + 1) with
        | none=>rfl
        | some o=>exact absurd (Heap.lt_size q) (Nat.not_lt.mpr (Nat.le_succ _))
      · intro b hb
        rw [Heap.size_push]
        simp only [List.mem_cons,List.not_mem_nil,or_false] at hb
        rcases hb with rfl | rfl | rfl
        · exact Nat.lt_succ_self _
        · show b < (s.heap.push _).objs.size + 1
          rw [hI]; exact Nat.lt_succ_of_lt (Nat.lt_succ_of_lt halt)
        · show _ < (s.heap.push _).objs.size + 1
          rw [hI]; exact Nat.lt_succ_of_lt (Nat.lt_succ_self _)
      · intro b hb
        simp only [List.mem_cons,List.not_mem_nil,or_false] at hb
        rcases hb with rfl | rfl | rfl
        · refine .inr ?_
          show s.heap.get? (s.heap.push _).objs.size = none
          rw [hI]
          cases q:s.heap.get? (s.heap.objs.size + 1) with
          | none=>rfl
          | some o=>exact absurd (Heap.lt_size q) (Nat.not_lt.mpr (Nat.le_succ _))
        · exact .inl rfl
        · exact .inr (size_none _)
      · show a ≠ (s.heap.push _).objs.size
        rw [hI]; exact Nat.ne_of_lt (Nat.lt_succ_of_lt halt)
      · show s.heap.objs.size ≠ (s.heap.push _).objs.size
        rw [hI]; exact Nat.ne_of_lt (Nat.lt_succ_self _)
    · have h1e:es.size = 1:=by lia
      simp only [h1,decide_false,Bool.and_false,Bool.false_eq_true,if_false]
      refine wpAny_bind (wpAny_pure ?_)
      refine wpAny_bind (wpAny_setEpoch_of ho hd hf ?_)
      refine wpAny_bind (wpAny_newObj_type (wpAny_pure ⟨_,rfl,"set_iterator",_,⟨_,Heap.get?_push_size _ rfl,rfl⟩,ZF.slot_next.lookup,?_⟩))
      obtain ⟨e,rfl⟩:=arr_one h1e
      have hfits:=hf
      simp only [SetTable.fits,Bool.and_eq_true,beq_iff_eq] at hfits
      obtain ⟨j,rfl⟩:=arr_one hfits.1
      have hl1:ledOf w = true:=by delta ledOf; rw [hbt]; rfl
      rw [hl1] at hd hf
      refine h s.heap.objs.size [s.heap.objs.size,a] [e.2] _ _ ys (kpush _ _) (size_none _) ?_ (by intro b hb; simp at hb; rcases hb with rfl | rfl <;> first | exact .inr (size_none _) | exact .inl rfl) (by simp) (fun A' hA'=>walks_C hA' (Nat.ne_of_lt halt) hbt hd hf) ⟨Heap.get?_push_size _ rfl,Heap.get?_push_of_some _ ho⟩ hys' hyp
      intro b hb
      rw [Heap.size_push]
      simp at hb
      rcases hb with rfl | rfl
      · exact Nat.lt_succ_self _
      · exact Nat.lt_succ_of_lt halt
end
end Mine
namespace Mine
open PySem PySem.Calls PyProof.Rows
theorem set_len:typeLookup (.type "set") "__len__" = pure (some (.builtin "set.__len__")):=by rw [typeLookup_type,builtinLookup_eq_fast]; kernel_rfl
section
variable {prog:Program} {w:World} {A:Around} {E:Value → Shared → Prop} {s:Shared} {a:Addr} {xs:List Str}
theorem SetS.at {h h':Heap} {led:Bool} (x:SetS prog w h a xs led) (hk:∀ o,h.get? a = some o → h'.get? a = some o):SetS prog w h' a xs led:=by
  cases x with | mk o es ep t ho hx hd he hy hb hf hl hp=>exact ⟨o,es,ep,t,hk _ ho,hx,hd,he,hy,hb,hf,hl,hp⟩
theorem SetS.typeIs {led:Bool} (x:SetS prog w s.heap a xs led):s.TypeIs (.ref a) "set":=by
  cases x with | mk o es ep t ho hx hd he hy hb hf hl hp=>exact ⟨o,ho,hx.1⟩
theorem SetS.lt {h:Heap} {led:Bool} (x:SetS prog w h a xs led):a < h.objs.size:=by
  cases x with | mk o es ep t ho hx hd he hy hb hf hl hp=>exact Heap.lt_size ho
theorem set_hint (hT:s.TypeIs (.ref a) "set") {Q:Bool → Shared → Prop} (h:Q false s):wpAny (model prog w) A (Builtin.List.listLengthHint (.ref a)) Q E s:=by
  delta Builtin.List.listLengthHint
  refine wpAny_bind (wpAny_specialOf hT set_len ?_)
  generalize hid:("set.__len__":String) = id0
  wp_delta
  rw [show splitId id0 = some ("set","__len__") from by subst hid; decide +kernel]
  subst hid
  refine wpAny_bind (wpAny_isInstance (T:="set") (b:=true) hT (by rw [isSubtype_type]; kernel_rfl) ?_)
  refine wpAny_ite_split (fun hab=>absurd hab (by decide)) (fun zz=>?_)
  refine wpAny_ite_split (fun zz=>?_) (fun hab=>absurd (by decide +kernel) hab)
  refine wpAny_bind (wpAny_typeOf hT ?_)
  exact wpAny_pure h
theorem collect_set {R₀:List Value → Shared → Prop} (hh:A.handled = none) (hS:SetS prog w s.heap a xs (ledOf w)) (hne:xs ≠ []) (hn:xs.length ≤ sizeLine)
    (h:∀ (vs:List Value) (ys:List Str) (s':Shared),Keeps s s' → vs.map strVal = ys.map some → ys.Perm xs → R₀ vs s'):wpAny (model prog w) A (collect (.ref a)) R₀ E s:=by
  have halt:a < s.heap.objs.size:=hS.lt
  delta collect
  refine wpAny_bind (wpAny_runValue (codeAny_builtin _root_.PySem.F.entry_proto_collect ?_))
  rw [Around.under_plainId _root_.PySem.F.plain_proto_collect _]
  show wpAny _ A.in1 (newList [] >>= fun l=>again (.builtin "list.__iadd__" ⟨[l,.ref a],[]⟩)) _ _ s
  refine wpAny_bind (wpAny_newObj_type ?_)
  refine wpAny_pure ⟨plainId_quiet _root_.PySem.F.plain_list_iadd _,codeAny_builtin _root_.PySem.F.entry_list_iadd ?_⟩
  rw [Around.under_plainId _root_.PySem.F.plain_list_iadd _]
  have hL:(s.heap.push { cls:=.type "list",data:=.seq ([]:List Value).toArray }).get? s.heap.objs.size = some { cls:=.type "list",data:=.seq #[] }:=Heap.get?_push_size _ rfl
  have hS1:SetS prog w (s.heap.push { cls:=.type "list",data:=.seq ([]:List Value).toArray }) a xs (ledOf w):=hS.at fun o e=>Heap.get?_push_of_some _ e
  show wpAny _ A.in1 (Builtin.List.listExtendWith (.ref s.heap.objs.size) (.ref a) (.ref s.heap.objs.size)) _ _ _
  delta Builtin.List.listExtendWith
  refine wpAny_bind (wpAny_typeOf (T:="set") hS1.typeIs ?_)
  have h1:Builtin.List.listSameRef (.ref s.heap.objs.size) (.ref a) = false:=by simp [Builtin.List.listSameRef,Nat.ne_of_gt halt]
  have h2:(Value.type "set" == Value.type "list") = false:=by decide
  have h3:(Value.type "set" == Value.type "tuple") = false:=by decide
  simp only [h1,h2,h3,Bool.or_false,Bool.false_eq_true,if_false]
  refine wpAny_bind (iter_set (s:={ s with heap:=s.heap.push { cls:=.type "list",data:=.seq ([]:List Value).toArray } }) hS1 hne fun I fp vs St s₂ ys k2 hI hfp hfq hIf W hst hvs hyp=>?_)
  have hL2:s₂.heap.get? s.heap.objs.size = some { cls:=.type "list",data:=.seq #[] }:=kheap k2 _ _ hL
  have hLf:s.heap.objs.size ∉ fp:=fun hm=>by
    rcases hfq _ hm with e | e
    · exact Nat.ne_of_gt halt e
    · rw [hL] at e; cases e
  have hIl:s.heap.objs.size ≠ I:=fun e=>hLf (e ▸ hIf)
  have hvl:vs.length ≤ sizeLine:=by
    have:=congrArg List.length hvs
    simp only [List.length_map] at this
    rw [this,hyp.length_eq]; exact hn
  have key:∀ {R1:Result → Shared → Prop},(∀ s' acc' c',Keeps s s' → s'.heap.get? s.heap.objs.size = some { cls:=.type "list",dict:=none,data:=.seq acc' c',slots:=#[] } → ItemsOf (fun i v=>vs[i]? = some v) acc' vs.length → R1 (.ok (.ret (.ref s.heap.objs.size))) s') →
      ∀ (h':Heap) (c₁ tk:Nat),(∀ b o,b ≠ s.heap.objs.size → s₂.heap.get? b = some o → h'.get? b = some o) → h'.get? s.heap.objs.size = some { cls:=.type "list",data:=.seq #[] c₁ } →
      codeAny (model prog w) A (.builtin "list.extend.loop" ⟨[.ref s.heap.objs.size,.ref I,.ref s.heap.objs.size],[]⟩) R1 { s₂ with heap:=h',toks:=tk }:=by
    intro R1 hR1 h' c₁ tk hk hL'
    have hst':St 0 h':=(W A.in1 hh).frame _ _ _ hst fun b hb o e=>hk b o (fun q=>hLf (q ▸ hb)) e
    refine codeAny_extend_loopS (W A.in1 hh).toS hvl _ hLf _ vs.length 0 _ #[] c₁ rfl (Nat.zero_le _) hst' hL' (ItemsOf.nil _) fun s' acc' c' hm hS' hacc=>hR1 s' acc' c' ?_ hS' hacc
    obtain ⟨H2,t2,d2,rfl,kk2⟩:=k2
    refine cps fun Gq hGq=>?_
    obtain ⟨h3,g3,d3,t3,o3⟩:=s'
    refine hGq ?_
    clear hGq
    have e1:g3 = s.gens:=hm.gens
    have e2:o3 = s.os:=hm.os
    subst e1; subst e2
    refine ⟨h3,t3,d3,rfl,fun b o e=>hm.heap b o ?_ (hk b o (Nat.ne_of_lt (Heap.lt_size e)) (kk2 b o (Heap.get?_push_of_some _ e)))⟩
    intro hb
    simp only [List.mem_cons,List.not_mem_nil,or_false] at hb
    rcases hb with rfl | rfl
    · rw [size_none] at e; cases e
    · have:=Heap.get?_push_of_some { cls:=.type "list",data:=.seq ([]:List Value).toArray } e
      rw [hI] at this; cases this
  have fin:∀ s' (acc':Array Value) (c':Nat),Keeps s s' → ItemsOf (fun i v=>vs[i]? = some v) acc' vs.length → R₀ acc'.toList s':=by
    intro s' acc' c' k hacc
    have e:acc'.toList = vs:=by
      apply List.ext_getElem?
      intro i
      rcases Nat.lt_or_ge i vs.length with hi | hi
      · have hi':i < acc'.size:=by rw [hacc.1]; exact hi
        have:=hacc.2 i acc'[i] (Array.getElem?_eq_getElem hi')
        rw [this,Array.getElem?_toList,Array.getElem?_eq_getElem hi']
      · rw [List.getElem?_eq_none hi,List.getElem?_eq_none (by simp [hacc.1]; exact hi)]
    rw [e]
    exact h vs ys s' k hvs hyp
  have hT2:s₂.TypeIs (.ref a) "set":=(hS1.at fun o e=>kheap k2 _ o e).typeIs
  refine wpAny_bind (wpAny_holding (set_hint hT2 ?_))
  refine wpAny_ite_split (fun zz=>?_) (fun zz=>?_)
  · refine wpAny_bind (wpAny_rule ?_)
    refine wpAny_bind ?_
    show wpAny _ _ (updateSeq s.heap.objs.size (·.push .none) >>= fun zz=>updateSeq s.heap.objs.size (·.pop)) _ _ _
    refine wpAny_bind (wpAny_updateSeq hL2 rfl ?_)
    have hL3:=Heap.get?_update_self (Obj.mapSeq (·.push Value.none)) hL2 rfl
    refine wpAny_updateSeq (hz:=by seq_fits) hL3 rfl ?_
    have hL4:=Heap.get?_update_self (Obj.mapSeq (·.pop)) hL3 rfl
    refine wpAny_pure ⟨plainId_quiet _root_.PySem.F.plain_extend_loop _,key (fun s' acc' c' k hS' hacc=>?_) _ _ s₂.toks (fun b o hb e=>?_) hL4⟩
    · show wpAny _ A (load s.heap.objs.size >>= _) _ _ s'
      exact wpAny_bind (wpAny_load hS' (wpAny_pure (fin s' acc' c' k hacc)))
    · exact (Heap.get?_update_other _ _ (Ne.symm hb)).trans ((Heap.get?_update_other _ _ (Ne.symm hb)).trans e)
  · refine wpAny_pure ⟨plainId_quiet _root_.PySem.F.plain_extend_loop _,key (fun s' acc' c' k hS' hacc=>?_) _ _ s₂.toks (fun b o hb e=>e) hL2⟩
    show wpAny _ A (load s.heap.objs.size >>= _) _ _ s'
    exact wpAny_bind (wpAny_load hS' (wpAny_pure (fin s' acc' c' k hacc)))
end
end Mine
namespace Mine
open PySem PySem.Calls PyProof.Rows
theorem strsAre_of:∀ {vs:List Value} {ys:List Str},vs.map strVal = ys.map some → StrsAre vs ys
  | [],[],_=>.nil
  | [],_ :: _,h=>by simp at h
  | _ :: _,[],h=>by simp at h
  | v :: vs,y :: ys,h=>by
    simp only [List.map_cons,List.cons.injEq] at h
    cases v with
    | str x t =>
      have:x = y:=Option.some.inj h.1
      subst this
      exact .cons x t (strsAre_of h.2)
    | _=>cases h.1
section
variable {prog:Program} {w:World} {A:Around} {E:Value → Shared → Prop} {s:Shared} {a:Addr} {xs:List Str} {P:Pd}
set_option maxHeartbeats 1000000 in
theorem sorted_set (hh:A.handled = none) (hS:SetS prog w s.heap a xs (ledOf w)) (hne:xs ≠ []) (hl:xs.length < 64) (hP:P.Ok s.heap) :
    wpAny (model prog w) A (call (.builtin "sorted") [.ref a]) (Pst prog w P s (at1 (.list ((sortS xs).map PV.str)))) E s:=by
  refine Calls.call_function_entry kind_sorted plain_sorted entry_sorted (args_sorted1 _) ?_
  delta Builtin.«sorted»
  refine wpAny_bind (m:=checkCount "sorted" 1 1 _) (wpAny_pure ?_)
  refine wpAny_bind (collect_set (A:=A.in1) hh hS hne (by rw [sizeLine_eq]; lia) fun vs ys s' k hvs hyp=>?_)
  have hSt:=strsAre_of hvs
  have hvl:vs.length = xs.length:=by
    have:=congrArg List.length hvs
    simp only [List.length_map] at this
    rw [this,hyp.length_eq]
  refine wpAny_bind (wpAny_newList ?_ (by rw [hvl,sizeLine_eq]; lia))
  have hoL:(s'.heap.push (seqObj "list" vs.toArray 0)).get? s'.heap.objs.size = some (seqObj "list" vs.toArray 0):=Heap.get?_push_size _ rfl
  show wpAny _ _ _ _ _ { s' with heap:=s'.heap.push (seqObj "list" vs.toArray 0) }
  refine wpAny_bind (wpAny_holding (wpAny_call_entry slot_list_sort ⟨_,hoL,rfl⟩ entry_list_sort (list_sort_treeK strKind_oneLt hoL hSt.keysOf (fun v₁ v₂ rest e=>keyKind_strs (by rw [← e]; exact hSt)) (by rw [hvl]; exact hl) fun st' a1 a2=>⟨_,rfl,?_⟩) (args_list_sort _)))
  refine wpAny_pure ⟨_,rfl,?_⟩
  refine cps fun Gq hGq=>?_
  obtain ⟨ss',h1,h2,h3⟩:=sorted_out_str hSt a1 a2
  refine hGq ?_
  clear hGq
  have hss:ss' = sortS xs:=sortS_eq (h2.trans hyp) (pairwise_sortedS h3)
  subst hss
  obtain ⟨n,hat⟩:=sortedHeap_at (out:=(arrOf st').map (·.2)) (vs:=vs) hoL
  have hkeep:∀ b o,s'.heap.get? b = some o → (sortedHeap (s'.heap.push (seqObj "list" vs.toArray 0)) s'.heap.objs.size vs ((arrOf st').map (·.2))).get? b = some o:=by
    intro b o e
    have hlt:=Heap.lt_size e
    rw [sortedHeap_old (Nat.ne_of_lt hlt) (by rw [Heap.size_push]; exact Nat.lt_succ_of_lt hlt)]
    exact Heap.get?_push_of_some _ e
  have hat':(sortedHeap (s'.heap.push (seqObj "list" vs.toArray 0)) s'.heap.objs.size vs ((arrOf st').map (·.2))).get? s'.heap.objs.size = some (lobj ((arrOf st').map (·.2)).toList n):=hat.trans (by delta lobj seqObj; rw [Array.toArray_toList])
  generalize sortedHeap (s'.heap.push (seqObj "list" vs.toArray 0)) s'.heap.objs.size vs ((arrOf st').map (·.2)) = HH at hat' hkeep ⊢
  have k':Keeps s' { s' with heap:=HH }:=⟨_,_,_,rfl,hkeep⟩
  refine ⟨ktrans k k',?_⟩
  refine .list (vs:=((arrOf st').map (·.2)).toList) (n:=n) (hP.fresh _ _ _ ?_) ?_ ?_ (RS_strsAre h1)
  · cases q:s.heap.get? s'.heap.objs.size with
    | none=>rfl
    | some o=>have:=kheap k _ _ q; rw [size_none] at this; cases this
  · exact hat'
  · have hlim:=lim_is
    rw [List.length_map,sortS_length]; lia
end
end Mine
namespace Mine
open PySem PySem.Calls PyProof.Rows
theorem strsAre_get {vs:List Value} {xs:List Str} (h:StrsAre vs xs):∀ {i:Nat} {v:Value},vs[i]? = some v → ∃ (x:Str) (t:Tok),v = Value.str x t ∧ xs[i]? = some x:=by
  induction h with
  | nil=>intro i v h; simp at h
  | cons y t zz ih =>
    intro i v h
    cases i with
    | zero=>rw [List.getElem?_cons_zero] at h; exact ⟨y,t,(Option.some.inj h).symm,rfl⟩
    | succ i=>rw [List.getElem?_cons_succ] at h; exact ih h
theorem foldl_addS_mem:∀ (l xs:List Str) (y:Str),y ∈ l.foldl addS xs ↔ y ∈ xs ∨ y ∈ l
  | [],xs,y=>by simp
  | x :: l,xs,y=>by
    rw [List.foldl_cons,foldl_addS_mem l]
    delta addS
    split
    · rename_i hx
      constructor
      · rintro (h | h)
        · exact .inl h
        · exact .inr (List.mem_cons_of_mem _ h)
      · rintro (h | h)
        · exact .inl h
        · rcases List.mem_cons.mp h with rfl | h
          · exact .inl hx
          · exact .inr h
    · simp only [List.mem_append,List.mem_cons,List.not_mem_nil,or_false,or_assoc]
theorem metS_ne {xs:List Str} (h:xs ≠ []):metS xs ≠ []:=by
  cases xs with
  | nil=>exact absurd rfl h
  | cons x l =>
    intro e
    have:x ∈ (x :: l).foldl addS []:=(foldl_addS_mem (x :: l) [] x).mpr (.inr (List.mem_cons_self ..))
    have e':(x :: l).foldl addS [] = []:=e
    rw [e'] at this
    cases this
theorem metS_length (xs:List Str):(metS xs).length ≤ xs.length:=by
  have:=foldl_addS_length xs []
  rw [List.length_nil,Nat.zero_add] at this
  exact this
section
variable {prog:Program} {w:World}
set_option maxHeartbeats 1000000 in
theorem hard_sortedSet:∀ (A:Around) (s:Shared) (P:Pd) (E:Value → Shared → Prop) (v:Value) (ds:List PV) (xs:List Str) (Q:Addr → Prop),A.handled = none → A.units + 64 < cLine → R prog w s.heap Q v (.list ds) → asStrs ds = some xs → xs.length < 5 → xs ≠ [] → P.Ok s.heap →
    wpAny (model prog w) A (call (.type "set") [v]) (fun sv s₁=>wpAny (model prog w) A (call (.builtin "sorted") [sv]) (Pst prog w P s (at1 (.list ((sortS (metS xs)).map PV.str)))) E s₁) E s:=by
  intro A s P E v ds xs Q hh hu r hx hl hne hP
  induction r.l with
  | @list l vs n p e z rs =>
    have hst:=strsAre_RS rs hx
    have hlen:∀ {vs:List Value} {xs:List Str},StrsAre vs xs → vs.length = xs.length:=by
      intro vs xs h
      induction h with
      | nil=>rfl
      | cons zz zz zz ih=>simp [ih]
    have hget:=fun i v=>strsAre_get (i:=i) (v:=v) hst
    refine call_set_strs (xs:=xs) hh (lobj_isList e) (fun i v hv=>hget i v (by simpa using hv)) (by rw [List.size_toArray]; exact hlen hst) (Nat.lt_trans (Nat.succ_lt_succ hl) (by decide)) fun h' tk hS hk=>?_
    have k:Keeps s { s with heap:=h',toks:=tk }:=⟨h',tk,s.drawn,rfl,hk⟩
    have hmne:metS xs ≠ []:=metS_ne hne
    have hml:(metS xs).length < 64:=Nat.lt_of_le_of_lt (metS_length xs) (Nat.lt_trans hl (by decide))
    refine wpAny_mono (sorted_set (s:={ s with heap:=h',toks:=tk }) (P:=P) hh hS hmne hml (hP.keeps (kheap k))) (fun u s₂ h₂=>?_) fun zz zz e=>e
    exact ⟨ktrans k h₂.1,h₂.2⟩
end
end Mine
namespace Mine
open PySem PySem.Calls PyProof.Rows
theorem str_key {prog:Program} {w:World} {k:Str} {v:Value} (h:(PySem.strKind prog w).is k v = true):∃ t,v = .str k t:=by
  cases v with
  | str y t =>
    have:(PySem.strKind prog w).is k (.str y t) = decide (k = y):=KeyKind.is_eq_decide (strKind_is prog w y t) k
    rw [this] at h
    have:=of_decide_eq_true h
    subst this
    exact ⟨t,rfl⟩
  | _=>cases h
section
variable {prog:Program} {w:World}
theorem items_RS {h:Heap} {Q:Addr → Prop} {kvs:List (Str × Value)} {ds:List PV} {as:List Addr} (rs:RS prog w h Q (kvs.map (·.2)) ds) (hl:as.length = kvs.length) (hQ:∀ a ∈ as,Q a)
    (hp:∀ (j:Nat) (a:Addr),as[j]? = some a → ∃ key k x,kvs[j]? = some (k,x) ∧ (PySem.strKind prog w).is k key = true ∧ h.get? a = some { cls:=.type "tuple",data:=.seq #[key,x] }) :
    RS prog w h Q (as.map Value.ref) (((kvs.map (·.1)).zip ds).map fun p=>.tup [.str p.1,p.2]):=by
  induction kvs generalizing ds as with
  | nil =>
    cases as with
    | nil=>cases rs; exact .nil
    | cons zz zz=>simp at hl
  | cons kv kvs ih =>
    cases as with
    | nil=>simp at hl
    | cons a as =>
      cases rs with
      | @cons v vs d ds' r rs =>
        simp only [List.map_cons,List.zip_cons_cons]
        refine .cons ?_ (ih rs (by simpa using hl) (fun b hb=>hQ b (List.mem_cons_of_mem _ hb)) fun j b hj=>by
          refine cps fun Gq hGq=>?_
          obtain ⟨key,k,x,h1,h2,h3⟩:=hp (j + 1) b (by simpa using hj)
          refine hGq ?_
          clear hGq
          exact ⟨key,k,x,by simpa using h1,h2,h3⟩)
        refine cps fun Gq hGq=>?_
        obtain ⟨key,k,x,h1,h2,h3⟩:=hp 0 a rfl
        refine hGq ?_
        clear hGq
        simp only [List.getElem?_cons_zero,Option.some.injEq] at h1
        subst h1
        obtain ⟨t,rfl⟩:=str_key h2
        exact .tup (vs:=[.str k t,x]) (n:=0) (hQ a (List.mem_cons_self ..)) h3 (show 2 ≤ lim by decide) (.cons (.str k t) (.cons r .nil))
theorem hard_items:∀ (A:Around) (s:Shared) (P:Pd) (E:Value → Shared → Prop) (v:Value) (ks:List Str) (ds:List PV) (x:RV) (pos:Pos),A.handled = none → A.units + 64 < cLine → x.d = .dict ks ds → R prog w s.heap (P x.f x.c) v x.d → P.Ok s.heap →
    MethodOnS prog w A E "items" v pos [] (fun iv s₁=>wpAny (model prog w) A (call (.type "list") [iv]) (Pst prog w P s ⟨.list ((ks.zip ds).map fun p=>.tup [.str p.1,p.2]),x.f || ds.all PV.atom,x.c || ds.all PV.atom⟩) E s₁) s:=by
  intro A s P E v ks ds x pos hh hu hx r hP
  rw [hx] at r
  induction r.d with
  | @dict d kvs p e q hk z rs =>
    subst hk
    refine ⟨"dict","dict.items",F.plainAttrs_dict,F.slot_dict_items,F.type_dict_items,e.typeIs,fun b hb=>?_,?_⟩
    · cases hb
      refine cps fun Gq hGq=>?_
      obtain ⟨ob,zz,zz,hob,hcx,zz⟩:=e
      refine hGq ?_
      clear hGq
      exact ⟨ob,hob,hcx.2.1⟩
    · refine method_meetsIn F.slot_dict_items F.entry_dict_items rfl (PySem.evalArgs_none ⟨rfl,e.typeIs,F.args_dict_items_1 _,_,meets_dict_items (PySem.strKind prog w) d q,⟨kvs,e⟩,?_⟩)
      have e1:(s.heap.push { cls:=.type "dict_items",data:=.fields #[.ref d] }).DictOf (PySem.strKind prog w) d kvs:=e.push _
      obtain ⟨ep,hm⟩:=e1.dictAt
      have hlim:=lim_size
      rw [List.length_map] at z
      refine PySem.W.kdx_call (s:={ s with heap:=s.heap.push { cls:=.type "dict_items",data:=.fields #[.ref d] } }) hh ⟨_,Heap.get?_push_size _ rfl,rfl,rfl⟩ hm (Nat.le_trans z hlim) fun h' tk acc c as hkk hg hl hG hacc=>?_
      have hkeep:∀ b o,s.heap.get? b = some o → h'.get? b = some o:=fun b o eb=>hkk b o (Heap.get?_push_of_some _ eb)
      refine ⟨⟨h',tk,s.drawn,rfl,hkeep⟩,?_⟩
      have nolive:∀ b,s.heap.objs.size ≤ b → s.heap.get? b = none:=fun b hb=>by
        cases eb:s.heap.get? b with
        | none=>rfl
        | some o=>exact absurd (Heap.lt_size eb) (Nat.not_lt.mpr hb)
      have hsz:(s.heap.push { cls:=.type "dict_items",data:=.fields #[.ref d] }).objs.size = s.heap.objs.size + 1:=Heap.size_push ..
      have hfresh:∀ f c,P f c (s.heap.push { cls:=.type "dict_items",data:=.fields #[.ref d] }).objs.size:=fun f c=>hP.fresh f c _ (nolive _ (by rw [hsz]; exact Nat.le_succ _))
      have rs2:RS prog w h' (P (x.f || ds.all PV.atom) (x.c || ds.all PV.atom)) (kvs.map (·.2)) ds:=by
        cases ha:ds.all PV.atom with
        | true=>exact rs.atom ha
        | false=>simp only [Bool.or_false]; exact rs.keeps hkeep
      have hlen:=rs.length
      rw [List.length_map] at hlen
      refine .list (vs:=acc.toList) (n:=c) (hfresh _ _) (by rw [hg]; simp [lobj]) ?_ ?_
      · rw [List.length_map,List.length_zip,List.length_map]; lia
      · rw [hacc]
        refine items_RS rs2 hl (fun a ha=>hP.fresh _ _ _ (nolive _ ?_)) hG.pairs
        have:=hG.above a ha
        have h2:(s.heap.push { cls:=.type "dict_items",data:=.fields #[.ref d] }).objs.size < a:=this
        rw [hsz] at h2
        exact Nat.le_of_lt (Nat.lt_of_succ_lt h2)
end
end Mine
namespace Mine
open PySem PySem.Calls PyProof.Rows
theorem keys_miss:typeLookup (.type "list") "keys" = pure none:=by rw [typeLookup_type,builtinLookup_eq_fast]; kernel_rfl
theorem list_getattr_none:typeLookup (.type "list") "__getattr__" = pure none:=by rw [typeLookup_type,builtinLookup_eq_fast]; kernel_rfl
theorem list_ga_entry:entryFor table "list.__getattribute__" = some Builtin.«object.__getattribute__» :=
  entryFor_alias (id':="object.__getattribute__") (by kernel_rfl) (by decide +kernel) (by decide +kernel) (by kernel_rfl)
theorem loop_entry:entryFor table "dict.update.loop" = some Builtin.«dict.update.loop»:=entryFor_of_tree (by kernel_rfl)
theorem loop_plain:plainId "dict.update.loop" = true:=by decide +kernel
section
variable {prog:Program} {w:World} {A:Around} {E:Value → Shared → Prop} {s:Shared}
theorem list_ga_miss {l:Addr} {vs:List Value} {n:Nat} {u:Tok} {Q:PySem.Fin → Shared → Prop} (hl:s.heap.get? l = some (lobj vs n)) (hh:A.handled = none)
    (h:∀ h' tk e,Heap.NewAttrErr s.heap h' e (.ref l) "keys" → E (.ref e) { s with heap:=h',toks:=tk }) :
    wpAny (model prog w) A (Builtin.«object.__getattribute__» ⟨[.ref l,.str "keys" u],[]⟩) Q E s:=by
  refine cps fun Gq hGq=>?_
  obtain ⟨hp,g,d,tk,os⟩:=s
  refine hGq ?_
  clear hGq
  have hT:Shared.TypeIs ⟨hp,g,d,tk,os⟩ (.ref l) "list":=⟨_,hl,rfl⟩
  have f1:=keys_miss
  delta Builtin.«object.__getattribute__»
  repeat (any_goals (first | assumption | with_reducible refine wpAny_loadPart_at hl ?_ | wp_step))
  exact wpAny_raiseAttrError hh h (attrMsg_fits (by decide +kernel) (by decide +kernel))
theorem keys_none {l:Addr} {vs:List Value} {n:Nat} {Q:Option Value → Shared → Prop} (hl:s.heap.get? l = some (lobj vs n)) (hh:A.handled = none)
    (h:∀ h' tk,(∀ b o,s.heap.get? b = some o → h'.get? b = some o) → Q none { s with heap:=h',toks:=tk }):wpAny (model prog w) A (getAttr? (.ref l) "keys") Q E s:=by
  refine cps fun Gq hGq=>?_
  obtain ⟨hp,g,d,tk,os⟩:=s
  refine hGq ?_
  clear hGq
  have hT:∀ t':Nat,Shared.TypeIs ⟨hp,g,d,t',os⟩ (.ref l) "list":=fun zz=>⟨_,hl,rfl⟩
  have f1:=sub_AttributeError
  have f3:=F.slot_list_getattribute.lookup
  have f4:=F.slot_list_getattribute.bind (.ref l)
  have f5:=list_getattr_none
  have hl':hp.get? l = some { cls:=.type "list",dict:=Option.none,data:=.seq vs.toArray n,slots:=#[] }:=hl
  delta getAttr? getAttrBy? getAttrBy
  repeat (any_goals (first | assumption | (with_reducible refine wpAny_loadPart_at hl' ?_; dsimp only) | ((with_reducible show wpAny _ _ (call (Value.builtin "list.__getattribute__") _ _) _ _ _); refine wpAny_call_entry F.slot_list_getattribute (hT _) list_ga_entry (list_ga_miss hl hh fun h' tk' e hx=>?_) (F.args_list_getattribute_2 _ _)) | wp_step))
  obtain ⟨t',u',he⟩:=hx.there
  repeat (any_goals (first | assumption | (with_reducible refine wpAny_loadPart_at he ?_; dsimp only) | wp_step))
  exact h _ _ fun b o e=>hx.keeps b o e
noncomputable def putV (kvs:List (Str × Value)) (p:Str × Value):List (Str × Value):=stored kvs p.1 p.2
theorem update_loop {I D:Addr} {fp:List Addr} {n:Nat} {Pi:Nat → Value → Prop} {St:Nat → Heap → Prop} {ps:List (Str × Value)} {h0:Heap} {R₀:Result → Shared → Prop} (W:Walks prog w A.in1 I fp [I] n Pi St) (hDf:D ∉ fp) (hn:n = ps.length) (hb:ps.length ≤ lim)
    (hval:∀ i v,Pi i v → ∃ T k x t nn,v = .ref T ∧ ps[i]? = some (k,x) ∧ h0.get? T = some (tobj [.str k t,x] nn) ∧ T ≠ D ∧ T ≠ I) :
    ∀ (k i:Nat) (s:Shared) (kvs:List (Str × Value)) (tkI:Tok),n - i = k → i ≤ n → St i s.heap → (∀ b o,b ≠ D → b ≠ I → h0.get? b = some o → s.heap.get? b = some o) → s.heap.DictOf (PySem.strKind prog w) D kvs → kvs = (ps.take i).foldl putV [] →
      (∀ h' tk,(∀ b o,b ≠ D → b ≠ I → s.heap.get? b = some o → h'.get? b = some o) → h'.DictOf (PySem.strKind prog w) D (ps.foldl putV []) → R₀ (.ok (.ret .none)) { s with heap:=h',toks:=tk }) →
      codeAny (model prog w) A (.builtin "dict.update.loop" ⟨[.ref D,.ref I,.int i tkI,.none],[]⟩) R₀ s:=by
  have hDI:D ≠ I:=fun e=>hDf (by rw [e]; exact W.sub _ (List.mem_singleton.mpr rfl))
  have flen:∀ (l:List (Str × Value)) (acc:List (Str × Value)),(l.foldl putV acc).length ≤ acc.length + l.length:=by
    intro l
    induction l with
    | nil=>intro acc; simp
    | cons p l ih =>
      intro acc
      rw [List.foldl_cons]
      have:=ih (putV acc p)
      have h2:(putV acc p).length ≤ acc.length + 1:=by
        delta putV stored
        split <;> simp
      simp only [List.length_cons]; lia
  intro k
  induction k with
  | zero =>
    intro i s kvs tkI hk hi hst h0k hD hkv hR
    have hin:i = n:=by lia
    subst hin
    refine codeAny_builtin loop_entry ?_
    rw [Around.under_plainId loop_plain _]
    show wpAny _ A.in1 (pyNext (.ref I) >>= _) _ _ s
    refine wpAny_bind (W.done s _ _ hst fun h' tk hm=>?_)
    show wpAny _ A.in1 (Builtin.Dict.addKeywords D [] >>= fun zz=>ret Value.none) _ _ _
    refine wpAny_bind (wpAny_of_eq (a:=()) rfl ?_)
    refine wpAny_pure (hR h' tk (fun b o zz hb e=>hm b o (fun q=>hb (List.mem_singleton.mp q)) e) ?_)
    have:=hD.at fun o e=>hm D o (fun q=>hDI (List.mem_singleton.mp q)) e
    rw [hkv,hn,List.take_length] at this
    exact this
  | succ k ih =>
    intro i s kvs tkI hk hi hst h0k hD hkv hR
    have hlt:i < n:=by lia
    refine codeAny_builtin loop_entry ?_
    rw [Around.under_plainId loop_plain _]
    show wpAny _ A.in1 (pyNext (.ref I) >>= _) _ _ s
    refine wpAny_bind (W.item i s _ _ hlt hst fun v h₁ tk₁ hP hst₁ hm=>?_)
    obtain ⟨T,kk,x,t,nn,rfl,hp,hT,hTD,hTI⟩:=hval i v hP
    have hT1:h₁.get? T = some (tobj [.str kk t,x] nn):=hm T _ (fun q=>hTI (List.mem_singleton.mp q)) (h0k T _ hTD hTI hT)
    have hD1:h₁.DictOf (PySem.strKind prog w) D kvs:=hD.at fun o e=>hm D o (fun q=>hDI (List.mem_singleton.mp q)) e
    have hlen:kvs.length ≤ sizeLine:=by
      have h1:=flen (ps.take i) []
      have h2:(ps.take i).length ≤ ps.length:=by rw [List.length_take]; lia
      rw [List.length_nil,Nat.zero_add,← hkv] at h1
      exact Nat.le_trans (Nat.le_trans h1 (Nat.le_trans h2 hb)) lim_size
    have htake:ps.take (i + 1) = ps.take i ++ [(kk,x)]:=by rw [List.take_add_one,hp]; rfl
    dsimp only
    refine wpAny_bind (wpAny_holding (wpAny_bind (wpAny_tryCatch ?_)))
    delta Builtin.Dict.pairItems
    refine wpAny_bind (wpAny_typeOf (T:="tuple") ⟨_,hT1,rfl⟩ ?_)
    rw [if_pos (by decide)]
    refine wpAny_bind (wpAny_seqItems hT1 rfl (wpAny_pure ?_))
    show wpAny _ _ (holding [Value.str kk t,x] (dictSet D (.str kk t) x)) _ _ _
    refine wpAny_holding (wpAny_dictSet_pairs (strKind_is prog w kk t) hD1 (fun h₂ hD2 hs2=>?_) hlen)
    refine wpAny_pure ⟨plainId_quiet loop_plain _,ih (i + 1) _ (stored kvs kk x) _ (by lia) hlt (W.frame _ _ _ hst₁ fun b hb o e=>hs2.extBut b o (fun q=>hDf (q ▸ hb)) e) (fun b o h1 h2 e=>hs2.extBut b o h1 (hm b o (fun q=>h2 (List.mem_singleton.mp q)) (h0k b o h1 h2 e))) hD2 (by rw [htake,List.foldl_append,← hkv]; rfl) fun h' tk' hk' hD'=>?_⟩
    exact hR h' tk' (fun b o h1 h2 e=>hk' b o h1 h2 (hs2.extBut b o h1 (hm b o (fun q=>h2 (List.mem_singleton.mp q)) e))) hD'
end
end Mine
namespace Mine
open PySem PySem.Calls PyProof.Rows
section
variable {prog:Program} {w:World}
theorem putAll_RS {h:Heap} {Q:Addr → Prop}:∀ (ps:List (Str × Value)) (qs:List (Str × PV)) (kvs:List (Str × Value)) (ks:List Str) (ds:List PV),ps.map (·.1) = qs.map (·.1) → RS prog w h Q (ps.map (·.2)) (qs.map (·.2)) → kvs.map (·.1) = ks → RS prog w h Q (kvs.map (·.2)) ds →
    (ps.foldl putV kvs).map (·.1) = (putAll qs (ks,ds)).1 ∧ RS prog w h Q ((ps.foldl putV kvs).map (·.2)) (putAll qs (ks,ds)).2
  | [],[],kvs,ks,ds,_,_,h3,h4=>⟨h3,h4⟩
  | [],_ :: _,kvs,ks,ds,h1,_,_,_=>by simp at h1
  | _ :: _,[],kvs,ks,ds,h1,_,_,_=>by simp at h1
  | (k,v) :: ps,(k',d) :: qs,kvs,ks,ds,h1,h2,h3,h4=>by
    simp only [List.map_cons,List.cons.injEq] at h1 h2
    obtain ⟨rfl,h1⟩:=h1
    cases h2 with
    | cons r rs =>
      subst h3
      obtain ⟨p1,p2⟩:=put_kvs (k:=k) h4 r
      rw [List.foldl_cons,putAll_cons]
      exact putAll_RS ps qs _ _ _ h1 rs p1 p2
theorem asPairs_cons {d:PV} {ds:List PV} {qs:List (Str × PV)} (h:asPairs (d :: ds) = some qs):∃ x dv qs',d = .tup [.str x,dv] ∧ asPairs ds = some qs' ∧ qs = (x,dv) :: qs':=by
  obtain ⟨y,h1,h2⟩:=bind_of h
  obtain ⟨qs',h3,rfl⟩:=map_of h2
  exact ⟨y.1,y.2,qs',pairOf_eq h1,h3,rfl⟩
inductive PairAt (h:Heap) (v:Value) (kx:Option (Str × Value)):Prop
  | mk (T:Addr) (k:Str) (x:Value) (t:Tok) (nn:Nat) (e1:v = .ref T) (e2:kx = some (k,x)) (e3:h.get? T = some (tobj [.str k t,x] nn)):PairAt h v kx
inductive PairsOf (prog:Program) (w:World) (h:Heap) (Q:Addr → Prop) (vs:List Value) (qs:List (Str × PV)):Prop
  | mk (ps:List (Str × Value)) (g1:ps.map (·.1) = qs.map (·.1)) (g2:RS prog w h Q (ps.map (·.2)) (qs.map (·.2))) (g3:vs.length = ps.length) (g4:∀ (i:Nat) (v:Value),vs[i]? = some v → PairAt h v ps[i]?):PairsOf prog w h Q vs qs
theorem pairs_of {h:Heap} {Q:Addr → Prop}:∀ {vs:List Value} {ds:List PV} {qs:List (Str × PV)},RS prog w h Q vs ds → asPairs ds = some qs → PairsOf prog w h Q vs qs:=by
  intro vs
  induction vs with
  | nil =>
    intro ds qs rs hq
    cases rs
    cases hq
    exact ⟨[],rfl,.nil,rfl,fun i v h=>by simp at h⟩
  | cons v vs ih =>
    intro ds qs rs hq
    cases rs with
    | @cons zz zz d ds' r rs =>
      obtain ⟨x,dv,qs',rfl,hq',rfl⟩:=asPairs_cons hq
      refine cps fun Gq hGq=>?_
      obtain ⟨ps,g1,g2,g3,g4⟩:=ih rs hq'
      refine hGq ?_
      clear hGq
      induction r.t with
      | @tup T ts nn p e z rt =>
        obtain ⟨a,b,rfl,ra,rb⟩:=rs_two rt
        · · induction ra.s with
            | str t =>
              refine ⟨(x,b) :: ps,by simp [g1],.cons rb g2,by simp [g3],fun i v hv=>?_⟩
              cases i with
              | zero =>
                rw [List.getElem?_cons_zero] at hv
                cases hv
                exact ⟨T,x,b,t,nn,rfl,rfl,e⟩
              | succ i =>
                rw [List.getElem?_cons_succ] at hv
                refine cps fun Gq hGq=>?_
                obtain ⟨T',k',x',t',n',e1,e2,e3⟩:=g4 i v hv
                refine hGq ?_
                clear hGq
                exact ⟨T',k',x',t',n',e1,by rw [List.getElem?_cons_succ]; exact e2,e3⟩
theorem putAll_length:∀ (qs:List (Str × PV)) (ks:List Str) (ds:List PV),(putAll qs (ks,ds)).1.length ≤ ks.length + qs.length
  | [],ks,ds=>Nat.le_refl _
  | (k,d) :: qs,ks,ds=>by
    rw [putAll_cons]
    have:=putAll_length qs (put ks ds k d).1 (put ks ds k d).2
    have h2:(put ks ds k d).1.length ≤ ks.length + 1:=by delta put; split <;> simp
    simp only [List.length_cons]
    exact Nat.le_trans this (by lia)
set_option maxHeartbeats 1000000 in
theorem hard_dictOf:∀ (A:Around) (s:Shared) (P:Pd) (E:Value → Shared → Prop) (v:Value) (ds:List PV) (ps:List (Str × PV)) (x:RV),A.handled = none → A.units + 64 < cLine → x.d = .list ds → R prog w s.heap (P x.f x.c) v x.d → asPairs ds = some ps → P.Ok s.heap → (∃ m,s.heap.Ns mainGlobals m) →
    wpAny (model prog w) A (call (.type "dict") [v]) (Pst prog w P s ⟨.dict (putAll ps ([],[])).1 (putAll ps ([],[])).2,x.f || ps.all (fun p=>p.2.atom),x.c || ps.all (fun p=>p.2.atom)⟩) E s:=by
  intro A s P E v ds qs x hh hu hx r hq hP hg
  rw [hx] at r
  induction r.l with
  | @list l vs n p e z rs =>
    refine cps fun Gq hGq=>?_
    obtain ⟨ps,g1,g2,g3,g4⟩:=pairs_of rs hq
    refine hGq ?_
    clear hGq
    have hlt:=Heap.lt_size e
    have hpl:ps.length ≤ lim:=by rw [← g3,rs.length]; exact z
    refine callType_codes (Q₁:=fun obj s₁=>obj = .ref s.heap.objs.size ∧ s₁ = { s with heap:=s.heap.push { cls:=.type "dict",data:=.dict #[] } }) F.kt_called_dict (F.kt_typeCall_dict_1 _) F.entry_dict_init (kt_code_dict_new _ ⟨rfl,rfl⟩) ?_
    rintro obj s₁ ⟨rfl,rfl⟩
    have hnew:(s.heap.push { cls:=.type "dict",data:=.dict #[] }).DictOf (PySem.strKind prog w) s.heap.objs.size []:=Heap.DictOf.new s.heap
    have e1:(s.heap.push { cls:=.type "dict",data:=.dict #[] }).get? l = some (lobj vs n):=Heap.get?_push_of_some _ e
    refine ⟨hnew.typeIs,F.args_dict_init_2 _ _,?_⟩
    delta Builtin.«dict.__init__»
    refine wpAny_bind ?_
    delta Builtin.Dict.selfAndRest
    refine wpAny_bind (wpAny_notOrdered_dict hnew.typeIs ?_)
    show wpAny _ _ (pure (s.heap.objs.size,[Value.ref l])) _ _ _
    refine wpAny_pure ?_
    show wpAny _ _ (Builtin.Dict.updateFrom "dict.__init__" s.heap.objs.size (.ref l) [] .none) _ _ _
    delta Builtin.Dict.updateFrom
    refine wpAny_bind (wpAny_typeOf (T:="list") ⟨_,e1,rfl⟩ ?_)
    rw [if_pos (by decide)]
    refine wpAny_bind (keys_none (s:={ s with heap:=s.heap.push { cls:=.type "dict",data:=.dict #[] } }) e1 hh fun h₂ tk₂ hk2=>?_)
    rw [if_pos (by rfl)]
    refine wpAny_bind (wpAny_rule ?_)
    have e2:h₂.get? l = some (lobj vs n):=hk2 _ _ e1
    refine wpAny_bind (wpAny_pyIter_list (s:={ s with heap:=h₂,toks:=tk₂ }) (lobj_isList e2) ?_)
    have hI1:l ≠ h₂.objs.size:=Nat.ne_of_lt (Heap.lt_size e2)
    have hD2:h₂.DictOf (PySem.strKind prog w) s.heap.objs.size []:=hnew.at fun o e=>hk2 _ o e
    have hDlt:s.heap.objs.size < h₂.objs.size:=by
      refine cps fun Gq hGq=>?_
      obtain ⟨ob,zz,zz,hob,zz⟩:=hD2
      refine hGq ?_
      clear hGq
      exact Heap.lt_size hob
    have hDl:s.heap.objs.size ≠ l:=fun q=>absurd hlt (q ▸ Nat.lt_irrefl _)
    have hh1:A.in1.in1.handled = none:=hh
    have W:=Walks.list (prog:=prog) (w:=w) (A:=A.in1.in1) hh1 h₂.objs.size l hI1 vs.toArray
    have hk0:∀ b o,s.heap.get? b = some o → h₂.get? b = some o:=fun b o q=>hk2 b o (Heap.get?_push_of_some _ q)
    refine wpAny_pure ⟨plainId_quiet loop_plain _,?_⟩
    refine update_loop (A:=A.in1) (ps:=ps) (h0:=s.heap) W ?_ (by rw [List.size_toArray]; exact g3) hpl ?_ _ 0 _ [] _ rfl (Nat.zero_le _) ⟨⟨_,Heap.get?_push_size _ rfl,rfl,rfl⟩,(lobj_isList e2).at fun o e=>Heap.get?_push_of_some _ e⟩ (fun b o zz zz q=>Heap.get?_push_of_some _ (hk0 b o q)) (hD2.at fun o e=>Heap.get?_push_of_some _ e) rfl ?_
    · intro hm
      rcases List.mem_cons.mp hm with q | hm
      · exact absurd hDlt (q ▸ Nat.lt_irrefl _)
      · exact hDl (List.mem_singleton.mp hm)
    · intro i v hv
      refine cps fun Gq hGq=>?_
      obtain ⟨T,k,y,t,nn,q1,q2,q3⟩:=g4 i v (by simpa using hv)
      refine hGq ?_
      clear hGq
      have hT:=Heap.lt_size q3
      exact ⟨T,k,y,t,nn,q1,q2,q3,Nat.ne_of_lt hT,Nat.ne_of_lt (Nat.lt_trans hT hDlt)⟩
    · intro h' tk hk' hD'
      have hkeep:∀ b o,s.heap.get? b = some o → h'.get? b = some o:=fun b o q=>by
        have hb:=Heap.lt_size q
        exact hk' b o (Nat.ne_of_lt hb) (Nat.ne_of_lt (Nat.lt_trans hb hDlt)) (Heap.get?_push_of_some _ (hk0 b o q))
      show Value.none = .none ∧ Pst prog w P s _ (.ref s.heap.objs.size) { s with heap:=h',toks:=tk }
      refine ⟨rfl,⟨h',tk,s.drawn,rfl,hkeep⟩,?_⟩
      obtain ⟨m,hg⟩:=hg
      have hlt0:mainGlobals < s.heap.objs.size:=hg.lt
      have hne:(s.heap.objs.size == sysModules) = false:=by
        rw [beq_eq_false_iff_ne]
        intro q
        rw [q] at hlt0
        exact absurd hlt0 (by decide)
      have rs2:RS prog w h' (P (x.f || qs.all (fun p=>p.2.atom)) (x.c || qs.all (fun p=>p.2.atom))) (ps.map (·.2)) (qs.map (·.2)):=by
        cases ha:qs.all (fun p=>p.2.atom) with
        | true=>exact g2.atom (by rw [List.all_map]; exact ha)
        | false=>simp only [Bool.or_false]; exact g2.keeps hkeep
      obtain ⟨f1,f2⟩:=putAll_RS ps qs [] [] [] g1 rs2 rfl .nil
      refine .dict (kvs:=ps.foldl putV []) (hP.fresh _ _ _ (size_none _)) hD' hne f1 ?_ f2
      refine Nat.le_trans (putAll_length qs [] []) ?_
      have h1:=congrArg List.length g1
      rw [List.length_map,List.length_map] at h1
      rw [List.length_nil,Nat.zero_add,← h1]
      exact hpl
theorem hard:Hard prog w:=⟨hard_sortedSet,hard_dictOf,hard_items⟩
end
end Mine
namespace Mine
open PySem PySem.SeqAt PySem.Calls PyProof.Rows
structure ExtW (env:Env) (X:Addr → Prop) (ad:Nat → Addr) (σ:Sig) (s:Shared) (X':Addr → Prop) (ad':Nat → Addr) (σ':Sig) (s':Shared):Prop where
  kp:∀ b o,s.heap.get? b = some o → ¬ Ow env X σ ad b → s'.heap.get? b = some o
  ow:∀ b,Ow env X' σ' ad' b → Ow env X σ ad b ∨ s.heap.get? b = none
  lv:∀ b,(∃ o,s.heap.get? b = some o) → ∃ o,s'.heap.get? b = some o
  mv:Moved s s'
section
variable {prog:Program} {w:World} {p:Program} {loose:List Str} {mean:ExcName → Option Value} {mg mb:Str → Option Value} {lvl:Nat} {A:Around} {env:Env} {ce:CE} {Q0:Addr → Prop} {s0 s s' s'':Shared} {X X' X'':Addr → Prop} {ad ad' ad'':Nat → Addr} {σ σ' σ'':Sig} {E:Value → Shared → Prop} {Φ:FTab}
theorem Ext.toW (x:Ext env ce X ad σ s ad' σ' s'):ExtW env X ad σ s X ad' σ' s':=⟨fun b o e h=>x.1 b o e (.inl h),x.ow,x.lv,x.mv⟩
theorem extw_trans (x:ExtW env X ad σ s X' ad' σ' s') (y:ExtW env X' ad' σ' s' X'' ad'' σ'' s''):ExtW env X ad σ s X'' ad'' σ'' s'':=by
  obtain ⟨x1,x2,x3,h,t,dr,rfl⟩:=x
  obtain ⟨y1,y2,y3,h',t',dr',rfl⟩:=y
  refine ⟨fun b o e hb=>?_,fun b hb=>?_,fun b hb=>y3 b (x3 b hb),h',t',dr',rfl⟩
  · refine y1 b o (x1 b o e hb) fun ho=>?_
    rcases x2 b ho with h | h
    · exact hb h
    · rw [h] at e; cases e
  · rcases y2 b hb with h1 | h1
    · exact x2 b h1
    · refine .inr ?_
      cases q:s.heap.get? b with
      | none=>rfl
      | some o=>obtain ⟨o',e'⟩:=x3 b ⟨o,q⟩; rw [h1] at e'; cases e'
theorem extw_keeps (k:Keeps s s'):ExtW env X ad σ s X ad σ s':=(ext_keeps (ce:=⟨[],fun zz=>none⟩) k).toW
theorem ExtW.frame {h0:Heap} {f:Bool} (x:ExtW env X ad σ s X' ad' σ' s') (b:Addr) (o:Obj) (hp:Pf Q0 h0 (Ow env X σ ad) f true b) (e:s.heap.get? b = some o):s'.heap.get? b = some o ∧ Pf Q0 h0 (Ow env X' σ' ad') f true b:=by
  refine cps fun Gq hGq=>?_
  obtain ⟨x1,x2,zz,zz⟩:=x
  obtain ⟨q1,q2,q3⟩:=hp
  refine hGq ?_
  clear hGq
  refine ⟨x1 b o e (q3 rfl),q1,q2,fun zz ho=>?_⟩
  rcases x2 b ho with h | h
  · exact q3 rfl h
  · rw [h] at e; cases e
theorem ExtW.R {h0:Heap} {f:Bool} {v:Value} {d:PV} (x:ExtW env X ad σ s X' ad' σ' s') (r:R prog w s.heap (Pf Q0 h0 (Ow env X σ ad) f true) v d):R prog w s'.heap (Pf Q0 h0 (Ow env X' σ' ad') f true) v d :=
  r.frame fun b o hp zz e=>x.frame b o hp e
theorem extw_iter {I:Addr} {s₁:Shared} {h':Heap} {tk:Nat} (x:ExtW env X ad σ s₁ X' ad' σ' s) (hI:s₁.heap.get? I = none) (hk:∀ b o,b ≠ I → s.heap.get? b = some o → h'.get? b = some o):ExtW env X ad σ s₁ X' ad' σ' { s with heap:=h',toks:=tk }:=by
  obtain ⟨x1,x2,x3,h,t,dr,rfl⟩:=x
  refine ⟨fun b o e hb=>hk b o (fun q=>?_) (x1 b o e hb),x2,fun b ⟨o,e⟩=>?_,h',tk,dr,rfl⟩
  · rw [q,hI] at e; cases e
  · obtain ⟨o',e'⟩:=x3 b ⟨o,e⟩
    exact ⟨o',hk b o' (fun q=>by rw [q,hI] at e; cases e) e'⟩
noncomputable def Stb (env:Env) (ce:CE) (X:Addr → Prop) (s s':Shared):Prop :=
  (∀ b o,X b → s.heap.get? b = some o → s'.heap.get? b = some o) ∧ ∀ y u,ce.idx y = none → isVar (ce.kind y) = true → Loads env s.heap y u → Loads env s'.heap y u
theorem Ext.stb (x:Ext env ce X ad σ s ad' σ' s'):Stb env ce X s s':=⟨fun b o h e=>x.1 b o e (.inr h),x.ld⟩
theorem stb_keeps (k:Keeps s s'):Stb env ce X s s':=⟨fun b o zz e=>kheap k b o e,fun y u zz zz l=>l.keeps (kheap k)⟩
theorem stb_trans (x:Stb env ce X s s') (y:Stb env ce X s' s''):Stb env ce X s s'':=⟨fun b o h e=>y.1 b o h (x.1 b o h e),fun z u h1 h2 l=>y.2 z u h1 h2 (x.2 z u h1 h2 l)⟩
set_option maxHeartbeats 1000000 in
inductive ForW (prog:Program) (w:World) (env:Env) (ce:CE) (Q0:Addr → Prop) (s0:Shared) (X:Addr → Prop) (ad:Nat → Addr) (σ:Sig) (s₁:Shared) (St:Nat → Heap → Prop) (J:Nat → (Addr → Prop) → Sig → Shared → Prop) (n:Nat):Nat → Shared → Prop
  | mk {j:Nat} {X':Addr → Prop} {σ':Sig} {ad':Nat → Addr} {s':Shared} (hj:j ≤ n) (S:Sx prog w env ce Q0 s0 X' ad' σ' s') (x:ExtW env X ad σ s₁ X' ad' σ' s') (hst:St j s'.heap) (hI:¬ Ow env X' σ' ad' s₁.heap.objs.size) (ha:J j X' σ' s'):ForW prog w env ce Q0 s0 X ad σ s₁ St J n (n + 1 - j) s'
theorem for_w {J:Nat → (Addr → Prop) → Sig → Shared → Prop} {x:Str} {i:Nat} {px:Pos} {it:Expr} {bd:List Stmt} {pos:Pos} {q:RV} {ds:List PV} {Q:Flow → Shared → Prop} (F:Fx prog w p loose mean mg mb lvl A env ce Q0 s0) (S:Sx prog w env ce Q0 s0 X ad σ s) (hx:tgt ce x i = true) (hns:isSetE it = false)
    (hit:wpAny (model prog w) A (eval it env) (Pst prog w (Pf Q0 s0.heap (Ow env X σ ad)) s q) E s) (hq:q.c = true) (hds:aiter q.d = some ds)
    (hJ:∀ j X σ s s',J j X σ s → Stb env ce X s s' → J j X σ s') (h0:J 0 X σ s)
    (body:∀ (j:Nat) (d:PV) (X':Addr → Prop) (ad':Nat → Addr) (σ':Sig) (s₀ s':Shared) (E':Value → Shared → Prop),ds[j]? = some d → ExtW env X ad σ s X' ad' σ' s₀ → J j X' σ' s₀ → Sx prog w env ce Q0 s0 X' ad' (σ'.set i (some (part q d))) s' → Stb env ce X' s₀ s' → ExtW env X' ad' σ' s₀ X' ad' (σ'.set i (some (part q d))) s' →
      wpAny (model prog w) A (execs bd env) (fun fl s₁=>fl = .next ∧ ∃ X'' ad'' σ'',Sx prog w env ce Q0 s0 X'' ad'' σ'' s₁ ∧ ExtW env X' ad' (σ'.set i (some (part q d))) s' X'' ad'' σ'' s₁ ∧ J (j + 1) X'' σ'' s₁) E' s')
    (done:∀ X' ad' σ' s',Sx prog w env ce Q0 s0 X' ad' σ' s' → ExtW env X ad σ s X' ad' σ' s' → J ds.length X' σ' s' → Q .next s') :
    wpAny (model prog w) A (exec (.For (.Name x px) it bd [] pos) env) Q E s:=by
  refine cps fun Gq hGq=>?_
  obtain ⟨hix,hlc,zz,zz,huq⟩:=tgt_of hx
  refine hGq ?_
  clear hGq
  refine wpAny_For (wm hit (fun v s₁ h₁=>?_)) (folded_plain hns env)
  obtain ⟨k1,r1⟩:=h₁
  rw [hq] at r1
  have r1':R prog w s₁.heap (fun a=>Pf Q0 s0.heap (Ow env X σ ad) q.f true a ∧ ∃ o,s₁.heap.get? a = some o) v q.d:=r1.frame fun a o hp zz e=>⟨e,hp,o,e⟩
  refine iter_R r1' hds fun fp Pi St s₂ k2 W hst hfp hfq hI hId hPi hsz hLv=>?_
  have S1:=S.keeps k1
  have hI0:s0.heap.get? s₁.heap.objs.size = none:=none_of (kheap S1.k0) (size_none _)
  have hIo:¬ Ow env X σ ad s₁.heap.objs.size:=fun ho=>by
    obtain ⟨o,e⟩:=S1.lv _ ho
    rw [size_none] at e; cases e
  refine codeAny_forLoop (ForW prog w env ce Q0 s0 X ad σ s₁ St J ds.length) ?_ (ds.length + 1)
    (.mk (j:=0) (Nat.zero_le _) (S1.keeps k2) (extw_keeps k2) hst hIo (hJ _ _ _ _ _ h0 (stb_keeps (ktrans k1 k2))))
  intro k s' hFI
  obtain @⟨j,X',σ',ad',s',hj,S',x',hst',hIo',ha⟩:=hFI
  have WW:=W A F.hh
  have fpo:∀ {X₂:Addr → Prop} {σ₂:Sig} {ad₂:Nat → Addr} {s₃:Shared},ExtW env X ad σ s₁ X₂ ad₂ σ₂ s₃ → ¬ Ow env X₂ σ₂ ad₂ s₁.heap.objs.size → ∀ b ∈ fp,¬ Ow env X₂ σ₂ ad₂ b:=by
    intro X₂ σ₂ ad₂ s₃ x₂ hI₂ b hb ho
    rcases hfq b hb with e | ⟨hp,o,e⟩
    · exact hI₂ (e ▸ ho)
    · rcases x₂.ow b ho with q1 | q1
      · exact hp.2.2 rfl q1
      · rw [q1] at e; cases e
  by_cases hlt:j < ds.length
  · refine WW.item j _ _ _ hlt hst' fun v h₁ tk₁ hPv hst₁ hk₁=>?_
    have hk₁':∀ b o,b ≠ s₁.heap.objs.size → s'.heap.get? b = some o → h₁.get? b = some o:=fun b o hb e=>hk₁ b o (fun hm=>hb (List.mem_singleton.mp hm)) e
    obtain ⟨d,hd,rd⟩:=hPi j v hPv
    have S2:=S'.iterI (tk:=tk₁) hIo' hI0 (hId j _ hst') hk₁'
    have rd1:R prog w s₁.heap (Pf Q0 s0.heap (Ow env X σ ad) q.f true) v d:=rd.mono fun a h=>h.1
    have rd2:R prog w h₁ (Pf Q0 s0.heap (Ow env X' σ' ad') q.f true) v d:=(x'.R rd1).frame fun a o hp dd e=>⟨hk₁' a o (fun e'=>hId j _ hst' o (e' ▸ e) dd) e,hp⟩
    have rd3:R prog w h₁ (Pf Q0 s0.heap (Ow env X' σ' ad') (part q d).f true) v (part q d).d:=by
      have:=part_ok (P:=Pf Q0 s0.heap (Ow env X' σ' ad')) (r:=q) (by rw [hq]; exact rd2)
      rw [part_c hq] at this
      exact this
    have st2:Stb env ce X' s' { s' with heap:=h₁,toks:=tk₁ }:=⟨fun b o hb e=>hk₁' b o (fun q=>hIo' (q ▸ .inl hb)) e,fun y u zz zz l=>loads_off hIo' hk₁' l⟩
    refine wpAny_assign_Name (store_ok F S2 (krefl _) hix huq hlc (fun zz zz=>rfl) (fun zz=>rd3) (fun h=>by rw [part_c hq] at h; cases h) fun s₄ S4 x4=>?_)
    have x2':ExtW env X ad σ s₁ X' ad' σ' { s' with heap:=h₁,toks:=tk₁ }:=extw_iter x' (size_none _) hk₁'
    have x4':ExtW env X ad σ s₁ X' ad' (σ'.set i (some (part q d))) s₄:=extw_trans x2' x4.toW
    have hI4:¬ Ow env X' (σ'.set i (some (part q d))) ad' s₁.heap.objs.size:=fun ho=>hIo' (ow_set (part_c hq) ho)
    have live1:∃ o,h₁.get? s₁.heap.objs.size = some o:=hLv (j + 1) h₁ hst₁
    obtain ⟨oI1,hoI1⟩:=live1
    have hoI4:s₄.heap.get? s₁.heap.objs.size = some oI1:=x4.1 _ _ hoI1 (.inl hIo')
    have hst4:St (j + 1) s₄.heap:=WW.frame _ _ _ hst₁ fun b hb o e=>x4.1 b o e (.inl (fpo x' hIo' b hb))
    refine wm (body j d X' ad' σ' _ s₄ _ hd (extw_trans (extw_keeps k1) x2') (hJ _ _ _ _ _ ha st2) S4 x4.stb x4.toW) (fun fl s₅ h₅=>?_)
    obtain ⟨rfl,X5,ad5,σ₅,S5,x5,ha5⟩:=h₅
    refine ⟨_,lt_step hlt,.mk hlt S5 (extw_trans x4' x5) (WW.frame _ _ _ hst4 fun b hb o e=>x5.1 b o e (fpo x4' hI4 b hb)) (fun ho=>?_) ha5⟩
    · rcases x5.ow _ ho with q1 | q1
      · exact hI4 q1
      · rw [q1] at hoI4; cases hoI4
  · have hjn:j = ds.length:=by lia
    subst hjn
    refine WW.done _ _ _ hst' fun h₁ tk₁ hk₁=>?_
    have hk₁':∀ b o,b ≠ s₁.heap.objs.size → s'.heap.get? b = some o → h₁.get? b = some o:=fun b o hb e=>hk₁ b o (fun hm=>hb (List.mem_singleton.mp hm)) e
    have st2:Stb env ce X' s' { s' with heap:=h₁,toks:=tk₁ }:=⟨fun b o hb e=>hk₁' b o (fun q=>hIo' (q ▸ .inl hb)) e,fun y u zz zz l=>loads_off hIo' hk₁' l⟩
    exact wpAny_execs_nil (done X' ad' σ' _ (S'.iterI hIo' hI0 (hId _ _ hst') hk₁') (extw_trans (extw_keeps k1) (extw_iter x' (size_none _) hk₁')) (hJ _ _ _ _ _ ha st2))
end
end Mine
namespace Mine
open PySem PySem.SeqAt PySem.Calls PyProof.Rows
section
variable {prog:Program} {w:World} {p:Program} {loose:List Str} {mean:ExcName → Option Value} {mg mb:Str → Option Value} {lvl:Nat} {A:Around} {env:Env} {ce:CE} {Q0:Addr → Prop} {s0 s s' s'':Shared} {X X' X'':Addr → Prop} {ad ad' ad'':Nat → Addr} {σ σ' σ'':Sig} {E:Value → Shared → Prop} {Φ:FTab}
theorem store_pin {x:Str} {v:Value} {Q:Unit → Shared → Prop} (F:Fx prog w p loose mean mg mb lvl A env ce Q0 s0) (S:Sx prog w env ce Q0 s0 X ad σ s) (hix:ce.idx x = none) (hx:isLC (ce.kind x) = true)
    (h:∀ s',Sx prog w env ce Q0 s0 X ad σ s' → ExtW env X ad σ s X ad σ s' → (∀ b o,X b → s.heap.get? b = some o → s'.heap.get? b = some o) → Loads env s'.heap x v → (∀ y u,y ≠ x → Loads env s.heap y u → Loads env s'.heap y u) → Q () s'):wpAny (model prog w) A (storeName env x v) Q E s:=by
  refine store_core F S hx fun h' tk b hb hs hns hcl hl hls=>?_
  have hbo:Ow env X σ ad b:=hb.elim (fun e=>.inr (.inl e)) fun e=>.inr (.inr (.inl e))
  have hbX:¬ X b:=fun q=>by
    obtain ⟨q1,q2⟩:=S.xn b q
    rcases hb with e | ⟨y,hy⟩
    · exact q1 e
    · exact q2 y hy
  have live:∀ a,(∃ o,s.heap.get? a = some o) → ∃ o,h'.get? a = some o:=fun a ⟨o,e⟩=>by
    by_cases hab:a = b
    · subst hab
      rcases hb with e1 | ⟨y,hy⟩
      · obtain ⟨m,o,zz,zz,ho,zz⟩:=hns; exact ⟨o,e1 ▸ ho⟩
      · obtain ⟨v,o,ho,zz⟩:=hcl y a hy; exact ⟨o,ho⟩
    · exact ⟨o,hs.extBut a o hab e⟩
  have up:∀ f a o,Pf Q0 s0.heap (Ow env X σ ad) f true a → s.heap.get? a = some o → h'.get? a = some o ∧ Pf Q0 s0.heap (Ow env X σ ad) f true a:=fun f a o hp e=>⟨hs.extBut a o (fun q=>hp.2.2 rfl (q ▸ hbo)) e,hp⟩
  refine h _ ⟨S.len,?_,S.ob,fun a ha=>live a (S.lv a ha),hns,hcl,?_,S.adj,S.adn,S.xn⟩ ⟨fun a o e ha=>hs.extBut a o (fun q=>ha (q ▸ hbo)) e,fun a ha=>.inl ha,live,h',tk,s.drawn,rfl⟩ (fun a o ha e=>hs.extBut a o (fun q=>hbX (q ▸ ha)) e) hl hls
  · have k0:=kheap S.k0
    refine cps fun Gq hGq=>?_
    obtain ⟨h2,t2,dr2,e2,zz⟩:=S.k0
    refine hGq ?_
    clear hGq
    refine ⟨h',tk,dr2,by rw [e2],fun a o e=>hs.extBut a o (fun q=>?_) (k0 a o e)⟩
    rw [q,S.ob b hbo] at e; cases e
  · intro y j q e1 e2 e4
    refine cps fun Gq hGq=>?_
    obtain ⟨u,l,c1,c2⟩:=S.rd y j q e1 e2 e4
    refine hGq ?_
    clear hGq
    have hyx:y ≠ x:=fun e=>by rw [e,hix] at e1; cases e1
    refine ⟨u,hls y u hyx l,fun hc=>(c1 hc).frame fun a o hp zz e=>up _ a o hp e,fun hc=>?_⟩
    obtain ⟨e5,o5⟩:=c2 hc
    refine ⟨e5,o5.frame (fun a o hp zz e=>up _ a o hp e) fun o e=>hs.extBut _ o (fun qq=>?_) e⟩
    obtain ⟨n1,n2,n3⟩:=S.adn j q e4 hc
    rcases hb with e | ⟨y,hy⟩
    · exact n1 (qq.trans e)
    · exact n2 y (by rw [hy,qq])
theorem Sx.mutX {C:Addr} {h':Heap} {tk:Nat} (S:Sx prog w env ce Q0 s0 X ad σ s) (hC:X C) (hs:Heap.SameBut C s.heap h') (hl:∃ o,h'.get? C = some o) :
    Sx prog w env ce Q0 s0 X ad σ { s with heap:=h',toks:=tk } ∧ ExtW env X ad σ s X ad σ { s with heap:=h',toks:=tk } ∧ ∀ y u,Loads env s.heap y u → Loads env h' y u:=by
  have hb:Ow env X σ ad C:=.inl hC
  obtain ⟨x1,x2⟩:=S.xn C hC
  have up:∀ f a o,Pf Q0 s0.heap (Ow env X σ ad) f true a → s.heap.get? a = some o → h'.get? a = some o ∧ Pf Q0 s0.heap (Ow env X σ ad) f true a:=fun f a o hp e=>⟨hs.extBut a o (fun q=>hp.2.2 rfl (q ▸ hb)) e,hp⟩
  have live:∀ a,(∃ o,s.heap.get? a = some o) → ∃ o,h'.get? a = some o:=fun a ⟨o,e⟩=>by
    by_cases hab:a = C
    · subst hab; exact hl
    · exact ⟨o,hs.extBut a o hab e⟩
  have ldk:∀ y u,Loads env s.heap y u → Loads env h' y u:=by
    intro y u l
    rcases l with ⟨k,m2,nn,e⟩ | ⟨k,c',hc',n⟩
    · exact .inl ⟨k,m2,nn.sameBut hs (fun e=>x1 e.symm),e⟩
    · refine .inr ⟨k,c',hc',?_⟩
      obtain ⟨o,ho,r⟩:=n
      exact ⟨o,hs.extBut c' o (fun e=>x2 y (e ▸ hc')) ho,r⟩
  refine ⟨⟨S.len,?_,S.ob,fun b hb=>live b (S.lv b hb),?_,?_,?_,S.adj,S.adn,S.xn⟩,⟨fun a o e ha=>hs.extBut a o (fun q=>ha (q ▸ hb)) e,fun a ha=>.inl ha,live,h',tk,s.drawn,rfl⟩,ldk⟩
  · have k0:=kheap S.k0
    refine cps fun Gq hGq=>?_
    obtain ⟨h2,t2,dr2,e2,zz⟩:=S.k0
    refine hGq ?_
    clear hGq
    refine ⟨h',tk,dr2,by rw [e2],fun a o e=>hs.extBut a o (fun q=>?_) (k0 a o e)⟩
    rw [q,S.ob _ hb] at e; cases e
  · obtain ⟨m,hm⟩:=S.ns
    exact ⟨m,hm.sameBut hs (fun e=>x1 e.symm)⟩
  · intro y c hcc
    refine cps fun Gq hGq=>?_
    obtain ⟨v,o,ho,r⟩:=S.cl y c hcc
    refine hGq ?_
    clear hGq
    exact ⟨v,o,hs.extBut c o (fun e=>x2 y (e ▸ hcc)) ho,r⟩
  · intro y j q e1 e2 e3
    refine cps fun Gq hGq=>?_
    obtain ⟨u,l,c1,c2⟩:=S.rd y j q e1 e2 e3
    refine hGq ?_
    clear hGq
    refine ⟨u,ldk y u l,fun h=>(c1 h).frame fun a o hp zz e=>up _ a o hp e,fun h=>⟨(c2 h).1,(c2 h).2.frame (fun a o hp zz e=>up _ a o hp e) fun o e=>hs.extBut _ o (fun qq=>(S.adn j q e3 h).2.2 (qq ▸ hC)) e⟩⟩
theorem Sx.cx2 {more:List Str} {τ:Sig} (F:Fx prog w p loose mean mg mb lvl A env ce Q0 s0) (S:Sx prog w env ce Q0 s0 X ad σ s) (hl:τ.length = more.length)
    (hr:∀ x i r,(⟨ce.names ++ more,ce.kind⟩:CE).idx x = some i → isVar (ce.kind x) = true → (σ ++ τ)[i]? = some (some r) → (ce.idx x = some i ∧ σ[i]? = some (some r)) ∨ ∃ v,Loads env s.heap x v ∧ R prog w s.heap (Pf Q0 s0.heap (Ow env X σ ad) r.f r.c) v r.d) :
    Cx prog w p loose mean mg mb lvl A env ⟨ce.names ++ more,ce.kind⟩ (Pf Q0 s0.heap (Ow env X σ ad)) (σ ++ τ) s where
  hh:=F.hh
  hd:=F.hd
  hu:=F.hu
  fn:=F.fn
  gl:=F.gl
  bl:=F.bl
  ki:=F.ki
  len:=by rw [List.length_append,List.length_append,S.len,hl]
  cells:=F.cells
  pd:=Pf.ok F S
  top:=F.top0.keeps (kheap S.k0)
  rd:=fun x i r h1 h2 h3=>by
    rcases hr x i r h1 h2 h3 with ⟨e1,e2⟩ | h
    · exact (S.cx F).rd x i r e1 h2 e2
    · exact h
end
end Mine
namespace Mine
open PySem
namespace L7
noncomputable def xs_heads_of:List Str:=["g"]
noncomputable def ys_heads_of:List Str:=["heads","rule"]
noncomputable def ss_heads_of:List SStmt:=[.ownl 1 [],.fr 2 (.var 0) [.ife (.cmp .NotIn (.idx (.var 2) (.int 0)) (.var 1)) [.app 1 (.idx (.var 2) (.int 0))] []],.ret (.var 1)]
noncomputable def xs_merged:List Str:=["a","b"]
noncomputable def ys_merged:List Str:=["union","symbol"]
noncomputable def ss_merged:List SStmt:=[.ownl 2 [],.fr 3 (.bin .Add (.var 0) (.var 1)) [.ife (.cmp .NotIn (.var 3) (.var 2)) [.app 2 (.var 3)] []],.ret (.sorted (.var 2))]
noncomputable def xs_heads_built_from:List Str:=["g","given"]
noncomputable def ys_heads_built_from:List Str:=["found","changed","rule"]
noncomputable def ss_heads_built_from:List SStmt:=[.ownl 2 [],.set 3 (.bool true),.whl (.var 3) [.set 3 (.bool false),.fr 4 (.var 0) [.ife (.band [.cmp .NotIn (.idx (.var 4) (.int 0)) (.var 2),.all (.comp (.bor [.cmp .In (.var 5) (.var 1),.cmp .In (.var 5) (.var 2)]) (.idx (.var 4) (.int 1)))]) [.app 2 (.idx (.var 4) (.int 0)),.set 3 (.bool true)] []]],.ret (.sorted (.var 2))]
noncomputable def xs_nullable_heads:List Str:=["g"]
noncomputable def ys_nullable_heads:List Str:=[]
noncomputable def ss_nullable_heads:List SStmt:=[.ret (.call "heads_built_from" [.var 0,.list []])]
noncomputable def xs_first_of_string:List Str:=["symbols","firsts","nullables"]
noncomputable def ys_first_of_string:List Str:=["begins","symbol"]
noncomputable def ss_first_of_string:List SStmt:=[.set 3 (.list []),.fr 4 (.var 0) [.ife (.cmp .NotIn (.var 4) (.var 1)) [.ret (.tup [.call "merged" [.var 3,.list [.var 4]],.bool false])] [],.set 3 (.call "merged" [.var 3,.idx (.var 1) (.var 4)]),.ife (.cmp .NotIn (.var 4) (.var 2)) [.ret (.tup [.var 3,.bool false])] []],.ret (.tup [.var 3,.bool true])]
noncomputable def xs_first_sets:List Str:=["g"]
noncomputable def ys_first_sets:List Str:=["nullables","firsts","head","changed","rule","grown"]
noncomputable def ss_first_sets:List SStmt:=[.set 1 (.call "nullable_heads" [.var 0]),.ownd 2,.fr 3 (.call "heads_of" [.var 0]) [.put 2 (.var 3) (.list [])],.set 4 (.bool true),.whl (.var 4) [.set 4 (.bool false),.fr 5 (.var 0) [.set 6 (.call "merged" [.idx (.var 2) (.idx (.var 5) (.int 0)),.idx (.call "first_of_string" [.idx (.var 5) (.int 1),.var 2,.var 1]) (.int 0)]),.ife (.cmp .NotEq (.var 6) (.idx (.var 2) (.idx (.var 5) (.int 0)))) [.put 2 (.idx (.var 5) (.int 0)) (.var 6),.set 4 (.bool true)] []]],.ret (.var 2)]
noncomputable def xs_follow_sets:List Str:=["g"]
noncomputable def ys_follow_sets:List Str:=["nullables","firsts","follows","head","changed","rule","i","symbol","begins","vanishes","grown"]
noncomputable def ss_follow_sets:List SStmt:=[.set 1 (.call "nullable_heads" [.var 0]),.set 2 (.call "first_sets" [.var 0]),.ownd 3,.fr 4 (.call "heads_of" [.var 0]) [.put 3 (.var 4) (.list [])],.put 3 (.idx (.idx (.var 0) (.int 0)) (.int 0)) (.list [.str "$"]),.set 5 (.bool true),.whl (.var 5) [.set 5 (.bool false),.fr 6 (.var 0) [.fr 7 (.range (.len (.idx (.var 6) (.int 1)))) [.set 8 (.idx (.idx (.var 6) (.int 1)) (.var 7)),.ife (.cmp .In (.var 8) (.var 3)) [.unpk 9 10 (.call "first_of_string" [.sfrom (.idx (.var 6) (.int 1)) (.bin .Add (.var 7) (.int 1)),.var 2,.var 1]),.set 11 (.call "merged" [.idx (.var 3) (.var 8),.var 9]),.ife (.var 10) [.set 11 (.call "merged" [.var 11,.idx (.var 3) (.idx (.var 6) (.int 0))])] [],.ife (.cmp .NotEq (.var 11) (.idx (.var 3) (.var 8))) [.put 3 (.var 8) (.var 11),.set 5 (.bool true)] []] []]]],.ret (.var 3)]
noncomputable def xs_predict_sets:List Str:=["g"]
noncomputable def ys_predict_sets:List Str:=["nullables","firsts","follows","predicts","rule","begins","vanishes"]
noncomputable def ss_predict_sets:List SStmt:=[.set 1 (.call "nullable_heads" [.var 0]),.set 2 (.call "first_sets" [.var 0]),.set 3 (.call "follow_sets" [.var 0]),.ownl 4 [],.fr 5 (.var 0) [.unpk 6 7 (.call "first_of_string" [.idx (.var 5) (.int 1),.var 2,.var 1]),.ife (.var 7) [.set 6 (.call "merged" [.var 6,.idx (.var 3) (.idx (.var 5) (.int 0))])] [],.app 4 (.var 6)],.ret (.var 4)]
noncomputable def xs_parse_ll1:List Str:=["g","tokens"]
noncomputable def ys_parse_ll1:List Str:=["table","unread","place","stack","steps","fuel","top","k"]
noncomputable def ss_parse_ll1:List SStmt:=[.set 2 (.idx (.call "ll1_table" [.var 0]) (.int 0)),.set 3 (.bin .Add (.var 1) (.list [.str "$"])),.set 4 (.int 0),.ownl 5 [.str "$",.idx (.idx (.var 0) (.int 0)) (.int 0)],.ownl 6 [],.set 7 (.bin .Mult (.bin .Mult (.int 50) (.bin .Add (.len (.var 1)) (.int 2))) (.bin .Add (.len (.var 0)) (.int 1))),.whl (.cmp .Gt (.len (.var 5)) (.int 0)) [.ife (.cmp .Eq (.var 7) (.int 0)) [.rse (.str "the fuel is spent")] [],.set 7 (.bin .Sub (.var 7) (.int 1)),.set 8 (.idx (.var 5) (.neg 1)),.del1 5,.ife (.cmp .In (.var 8) (.var 2)) [.ife (.cmp .NotIn (.idx (.var 3) (.var 4)) (.idx (.var 2) (.var 8))) [.rse (.fstr [.str "token ",.fval (.var 4),.str ": no rule of ",.fval (.var 8),.str " begins at ",.fval (.idx (.var 3) (.var 4))])] [],.set 9 (.idx (.idx (.var 2) (.var 8)) (.idx (.var 3) (.var 4))),.app 6 (.var 9),.ownf 5 (.bin .Add (.var 5) (.srev (.idx (.idx (.var 0) (.var 9)) (.int 1))))] [.ife (.cmp .Eq (.var 8) (.idx (.var 3) (.var 4))) [.set 4 (.bin .Add (.var 4) (.int 1))] [.rse (.fstr [.str "token ",.fval (.var 4),.str ": ",.fval (.var 8),.str " is due, ",.fval (.idx (.var 3) (.var 4)),.str " stands there"])]]],.ife (.cmp .NotEq (.var 4) (.len (.var 3))) [.rse (.fstr [.str "token ",.fval (.var 4),.str ": the parse ends before the tokens do"])] [],.ret (.var 6)]
noncomputable def xs_law_letter:List Str:=["n"]
noncomputable def ys_law_letter:List Str:=[]
noncomputable def ss_law_letter:List SStmt:=[.ret (.idx (.str "abcde") (.bin .Mod (.var 0) (.int 5)))]
noncomputable def xs_law_rules:List Str:=["x","y","s","tail","must","shift","flip"]
noncomputable def ys_law_rules:List Str:=["end","after","start","rest"]
noncomputable def ss_law_rules:List SStmt:=[.set 7 (.idx (.bin .Add (.var 3) (.list [.str "$"])) (.int 0)),.set 8 (.sortedSet (.list [.var 2,.var 7])),.set 9 (.list [.var 0]),.ownl 10 [.tup [.str "T",.list [.var 2,.str "L"],.list [.var 2],.str "L"],.tup [.str "T",.list [],.list [.var 7],.str ""],.tup [.str "O",.list [.var 0,.str "V"],.list [.var 0],.str "V"],.tup [.str "V",.list [.var 1],.list [.var 1],.str "T"],.tup [.str "V",.list [],.var 8,.str "T"]],.ife (.cmp .Lt (.var 4) (.int 2)) [.set 9 (.sortedSet (.list [.var 0,.var 2,.var 7])),.app 10 (.tup [.str "O",.list [],.var 8,.str "T"])] [],.rel 10,.set 10 (.bin .Add (.list [.tup [.str "L",.list [.str "O",.str "T"],.var 9,.str "O"]]) (.var 10)),.set 10 (.bin .Add (.sfrom (.var 10) (.var 5)) (.supto (.var 10) (.var 5))),.ife (.cmp .Eq (.var 6) (.int 1)) [.set 10 (.srev (.var 10))] [],.ret (.bin .Add (.list [.tup [.str "S",.bin .Add (.list [.str "L"]) (.var 3),.var 9,.str "L"]]) (.var 10))]
noncomputable def xs_law_word:List Str:=["x","y","s","tail","first","second","third"]
noncomputable def ys_law_word:List Str:=["items","word","n"]
noncomputable def ss_law_word:List SStmt:=[.set 7 (.list [.list [],.list [.var 0],.list [.var 0,.var 1]]),.set 8 (.idx (.var 7) (.var 4)),.fr 9 (.tup [.var 5,.var 6]) [.ife (.cmp .Lt (.var 9) (.int 3)) [.set 8 (.bin .Add (.bin .Add (.var 8) (.list [.var 2])) (.idx (.var 7) (.var 9)))] []],.ret (.bin .Add (.var 8) (.var 3))]
noncomputable def xs_law_hurt:List Str:=["word","kind","where","odd"]
noncomputable def ys_law_hurt:List Str:=["at"]
noncomputable def ss_law_hurt:List SStmt:=[.set 4 (.bin .Mod (.var 2) (.bin .Add (.len (.var 0)) (.int 1))),.ife (.cmp .Eq (.var 1) (.int 1)) [.ret (.bin .Add (.bin .Add (.supto (.var 0) (.var 4)) (.list [.var 3])) (.sfrom (.var 0) (.var 4)))] [],.ife (.cmp .Eq (.var 1) (.int 2)) [.ret (.bin .Add (.supto (.var 0) (.var 4)) (.sfrom (.var 0) (.bin .Add (.var 4) (.int 1))))] [],.ife (.cmp .Eq (.var 1) (.int 3)) [.ret (.bin .Add (.bin .Add (.supto (.var 0) (.var 4)) (.list [.var 3])) (.sfrom (.var 0) (.bin .Add (.var 4) (.int 1))))] [],.ret (.var 0)]
noncomputable def xs_law_table:List Str:=["rules"]
noncomputable def ys_law_table:List Str:=["heads","r","rows","clashes","head","pairs"]
noncomputable def ss_law_table:List SStmt:=[.ownl 1 [],.fr 2 (.var 0) [.ife (.cmp .NotIn (.idx (.var 2) (.int 0)) (.var 1)) [.app 1 (.idx (.var 2) (.int 0))] []],.ownl 3 [],.set 4 (.int 0),.rel 1,.fr 5 (.var 1) [.setc 6 (.comp2 (.tup [.var 8,.var 7]) (.rangeDown (.bin .Sub (.len (.var 0)) (.int 1))) (.cmp .Eq (.idx (.idx (.var 0) (.var 7)) (.int 0)) (.var 5)) (.idx (.idx (.var 0) (.var 7)) (.int 2))),.app 3 (.tup [.var 5,.dictOf (.var 6)]),.set 4 (.bin .Sub (.bin .Add (.var 4) (.len (.var 6))) (.len (.dictOf (.var 6))))],.ret (.tup [.var 3,.var 4])]
noncomputable def xs_law_answer:List Str:=["rules","table","tail","word"]
noncomputable def ys_law_answer:List Str:=["unread","steps","place","head","u","k","symbol"]
noncomputable def ss_law_answer:List SStmt:=[.set 4 (.bin .Add (.var 3) (.list [.str "$"])),.ownl 5 [],.set 6 (.int 0),.set 7 (.str "S"),.whl (.bool true) [.ife (.cmp .Eq (.var 7) (.str "")) [.brk] [],.set 8 (.idx (.var 4) (.var 6)),.set 9 (.get (.idx (.var 1) (.var 7)) (.var 8) (.neg 1)),.ife (.cmp .Lt (.var 9) (.int 0)) [.ret (.tup [.none,.fstr [.str "token ",.fval (.var 6),.str ": no rule of ",.fval (.var 7),.str " begins at ",.fval (.var 8)]])] [],.app 5 (.var 9),.ife (.cmp .Eq (.supto (.idx (.idx (.var 0) (.var 9)) (.int 1)) (.int 1)) (.list [.var 8])) [.set 6 (.bin .Add (.var 6) (.int 1))] [],.set 7 (.idx (.idx (.var 0) (.var 9)) (.int 3))],.fr 10 (.bin .Add (.var 2) (.list [.str "$"])) [.ife (.cmp .NotEq (.idx (.var 4) (.var 6)) (.var 10)) [.ret (.tup [.none,.fstr [.str "token ",.fval (.var 6),.str ": ",.fval (.var 10),.str " is due, ",.fval (.idx (.var 4) (.var 6)),.str " stands there"]])] [],.set 6 (.bin .Add (.var 6) (.int 1))],.ife (.cmp .NotEq (.var 6) (.len (.var 4))) [.ret (.tup [.none,.fstr [.str "token ",.fval (.var 6),.str ": the parse ends before the tokens do"]])] [],.ret (.tup [.var 5,.str ""])]
noncomputable def xs_law:List Str:=["script"]
noncomputable def ys_law:List Str:=["x","y","s","tail","rules","whole","word","rows","clashes","due","g","handed","got","found"]
end L7
end Mine
namespace Mine
open PySem
theorem bind_mono {α β:Type} {o o':Option α} {f f':α → Option β} {b:β} (h:o.bind f = some b) (ho:∀ a,o = some a → o' = some a) (hf:∀ a,f a = some b → f' a = some b):o'.bind f' = some b:=by
  obtain ⟨a,h1,h2⟩:=bind_of h
  rw [ho a h1]; exact hf a h2
theorem turn_mono {o r:Out} {g g':Sig → Option Out} (hg:∀ σ,g σ = some r → g' σ = some r) (h:turn o g = some r):turn o g' = some r:=by
  cases o with
  | next σ=>exact hg σ h
  | _=>exact h
theorem andThen_mono {o r:Out} {g g':Sig → Option Out} (hg:∀ σ,g σ = some r → g' σ = some r) (h:andThen o g = some r):andThen o g' = some r:=by
  cases o with
  | next σ=>exact hg σ h
  | _=>exact h
theorem afor_mono {b b':Sig → Option Out} (hb:∀ σ o,b σ = some o → b' σ = some o) (x:Nat) (q:RV) (ds:List PV) (o:Out):∀ (σ:Sig),afor b x q ds σ = some o → afor b' x q ds σ = some o:=by
  induction ds with
  | nil=>exact fun σ h=>h
  | cons d ds ih=>exact fun σ h=>bind_mono h (hb _) fun r=>turn_mono ih
theorem awhl_mono {c:Sig → Option Bool} {b b':Sig → Option Out} (hb:∀ σ o,b σ = some o → b' σ = some o) (o:Out) (n:Nat):∀ (m:Nat) (σ:Sig),n ≤ m → awhl c b n σ = some o → awhl c b' m σ = some o:=by
  induction n with
  | zero=>exact fun m σ zz h=>nomatch h
  | succ n ih =>
    intro m σ hm h
    cases m with
    | zero=>cases hm
    | succ m =>
      refine bind_mono h (fun zz e=>e) fun k h=>?_
      cases k with
      | false=>exact h
      | true=>exact bind_mono h (hb _) fun r=>turn_mono fun σ=>ih m σ (Nat.le_of_succ_le_succ hm)
abbrev MonoS (Φ:FTab) (n m:Nat) (t:SStmt):Prop:=∀ (σ:Sig) (o:Out),aexec Φ n t σ = some o → aexec Φ m t σ = some o
abbrev MonoL (Φ:FTab) (n m:Nat) (ts:List SStmt):Prop:=∀ (σ:Sig) (o:Out),aexecs Φ n ts σ = some o → aexecs Φ m ts σ = some o
theorem monoL_cons {Φ:FTab} {n m:Nat} {t:SStmt} {ts:List SStmt} (h:MonoS Φ n m t) (h':MonoL Φ n m ts):MonoL Φ n m (t :: ts):=fun σ o e=>bind_mono e (h σ) fun r=>andThen_mono fun σ=>h' σ o
theorem mono_ife {Φ:FTab} {n m:Nat} {c:SExpr} {a b:List SStmt} (h:MonoL Φ n m a) (h':MonoL Φ n m b):MonoS Φ n m (.ife c a b):=fun σ o e=>bind_mono e (fun zz e=>e) fun t e=>bind_mono e (fun zz e=>e) fun k e=>by
  cases k with
  | true=>exact h σ o e
  | false=>exact h' σ o e
theorem mono_fr {Φ:FTab} {n m:Nat} {x:Nat} {e:SExpr} {b:List SStmt} (h:MonoL Φ n m b):MonoS Φ n m (.fr x e b):=fun σ o e=>bind_mono e (fun zz e=>e) fun t e=>bind_mono e (fun zz e=>e) fun ds e=>by
  obtain ⟨hc,e⟩:=ifo_of e
  rw [if_pos hc]
  exact afor_mono h x t ds o σ e
theorem aexecs_mono (Φ:FTab) {n m:Nat} (hm:n ≤ m) (ts:List SStmt):MonoL Φ n m ts :=
  SStmt.rec_1 (motive_1:=MonoS Φ n m) (motive_2:=MonoL Φ n m) (fun zz zz zz zz h=>h) (fun zz zz zz zz h=>h) (fun zz zz zz zz h=>h) (fun zz zz zz h=>h) (fun zz zz zz zz h=>h) (fun zz zz zz zz zz h=>h) (fun zz zz zz zz h=>h) (fun zz zz zz zz zz h=>h) (fun zz zz zz h=>h)
    (fun c a b=>mono_ife) (fun x e b=>mono_fr) (fun c b h σ o e=>awhl_mono h o n m σ hm e) (fun zz zz zz h=>h) (fun zz zz zz h=>h) (fun zz zz h=>h) (fun zz zz zz h=>h) (fun zz zz h=>h) (fun t ts=>monoL_cons) ts
theorem aexec_mono (Φ:FTab) {n m:Nat} (hm:n ≤ m) (t:SStmt):MonoS Φ n m t :=
  SStmt.rec (motive_1:=MonoS Φ n m) (motive_2:=MonoL Φ n m) (fun zz zz zz zz h=>h) (fun zz zz zz zz h=>h) (fun zz zz zz zz h=>h) (fun zz zz zz h=>h) (fun zz zz zz zz h=>h) (fun zz zz zz zz zz h=>h) (fun zz zz zz zz h=>h) (fun zz zz zz zz zz h=>h) (fun zz zz zz h=>h)
    (fun c a b=>mono_ife) (fun x e b=>mono_fr) (fun c b h σ o e=>awhl_mono h o n m σ hm e) (fun zz zz zz h=>h) (fun zz zz zz h=>h) (fun zz zz h=>h) (fun zz zz zz h=>h) (fun zz zz h=>h) (fun t ts=>monoL_cons) t
theorem aexecs_det {Φ:FTab} {n m:Nat} {ts:List SStmt} {σ:Sig} {o o':Out} (h:aexecs Φ n ts σ = some o) (h':aexecs Φ m ts σ = some o'):o = o':=by
  have a:=aexecs_mono Φ (Nat.le_max_left n m) ts σ o h
  have b:=aexecs_mono Φ (Nat.le_max_right n m) ts σ o' h'
  exact Option.some.inj (a.symm.trans b)
noncomputable def gOf (Φ:FTab) (ts:List SStmt) (k m:Nat) (ds:List PV):Option (PV × Bool) :=
  open Classical in if h:ds.length = k ∧ ∃ q n,aexecs Φ n ts (initσ m ds) = some (.ret q) then some (Classical.choose h.2 |>.d,Classical.choose h.2 |>.f) else Option.none
theorem gOf_some {Φ:FTab} {ts:List SStmt} {k m:Nat} {ds:List PV} {r:PV × Bool} (h:gOf Φ ts k m ds = some r):ds.length = k ∧ ∃ n q,aexecs Φ n ts (initσ m ds) = some (.ret q) ∧ q.d = r.1 ∧ (r.2 = true → q.f = true):=by
  delta gOf at h
  split at h
  · rename_i hh
    cases h
    obtain ⟨n,hn⟩:=Classical.choose_spec hh.2
    exact ⟨hh.1,n,_,hn,rfl,fun e=>e⟩
  · cases h
theorem gOf_eq {Φ:FTab} {ts:List SStmt} {k m n:Nat} {ds:List PV} {q:RV} (hl:ds.length = k) (h:aexecs Φ n ts (initσ m ds) = some (.ret q)):gOf Φ ts k m ds = some (q.d,q.f):=by
  delta gOf
  have hh:ds.length = k ∧ ∃ q n,aexecs Φ n ts (initσ m ds) = some (.ret q):=⟨hl,q,n,h⟩
  rw [dif_pos hh]
  obtain ⟨n',hn⟩:=Classical.choose_spec hh.2
  have:=aexecs_det hn h
  injection this with e
  rw [e]
end Mine
namespace Mine
open PySem L7
noncomputable def encS (xs:List Str):PV:=.list (xs.map PV.str)
abbrev Rule:=Str × List Str
noncomputable def encR (r:Rule):PV:=.tup [.str r.1,encS r.2]
noncomputable def encG (g:List Rule):PV:=.list (g.map encR)
noncomputable def encD (ks:List Str) (vs:List (List Str)):PV:=.dict ks (vs.map encS)
theorem part_str (r:RV) (x:Str):part r (.str x) = at1 (.str x):=rfl
theorem part_int (r:RV) (x:Int):part r (.int x) = at1 (.int x):=rfl
theorem amem_str (x:Str) (xs:List Str):amem (.str x) (xs.map PV.str) = some (decide (x ∈ xs)):=by
  induction xs with
  | nil=>rfl
  | cons y ys ih =>
    show ((some (y == x)).bind fun a=>(amem (.str x) (ys.map PV.str)).bind fun b=>some (a || b)) = _
    rw [ih]
    show some (decide (y = x) || decide (x ∈ ys)) = _
    rw [← Bool.decide_or]
    exact congrArg some (decide_eq_decide.mpr (by rw [List.mem_cons,eq_comm]))
theorem aeqs_str (xs ys:List Str):aeqs (xs.map PV.str) (ys.map PV.str) = some (decide (xs = ys)):=by
  induction xs generalizing ys with
  | nil=>cases ys <;> rfl
  | cons x xs ih =>
    cases ys with
    | nil=>rfl
    | cons y ys =>
      show ((some (x == y)).bind fun a=>(aeqs (xs.map PV.str) (ys.map PV.str)).bind fun b=>some (a && b)) = _
      rw [ih]
      show some (decide (x = y) && decide (xs = ys)) = _
      rw [← Bool.decide_and]
      exact congrArg some (decide_eq_decide.mpr (List.cons.injEq .. ▸ Iff.rfl))
theorem aeq_encS (xs ys:List Str):aeq (encS xs) (encS ys) = some (decide (xs = ys)):=aeqs_str xs ys
theorem ane_encS (xs ys:List Str):ane (encS xs) (encS ys) = some (!decide (xs = ys)):=by
  delta ane; rw [aeq_encS]; rfl
theorem depth_encS (xs:List Str):(encS xs).depth = 1:=congrArg (· + 1) (depths_str xs)
theorem in_encS (x:Str) (xs:List Str):acmp .In (.str x) (encS xs) = some (decide (x ∈ xs)):=by
  show (if PV.depths (xs.map PV.str) + 0 ≤ 40 then amem (.str x) (xs.map PV.str) else Option.none) = _
  rw [depths_str,amem_str]; rfl
theorem notIn_encS (x:Str) (xs:List Str):acmp .NotIn (.str x) (encS xs) = some (!decide (x ∈ xs)):=by
  show (acmp .In (.str x) (encS xs)).map (!·) = _
  rw [in_encS]; rfl
theorem ne_encS (xs ys:List Str):acmp .NotEq (encS xs) (encS ys) = some (!decide (xs = ys)):=by
  have:acmp .NotEq (encS xs) (encS ys) = if (encS xs).depth + (encS ys).depth ≤ 40 then ane (encS xs) (encS ys) else Option.none:=rfl
  rw [this,depth_encS,depth_encS,ane_encS]; rfl
theorem in_dict (x:Str) (ks:List Str) (vs:List PV):acmp .In (.str x) (.dict ks vs) = some (look ks vs x).isSome:=rfl
theorem notIn_dict (x:Str) (ks:List Str) (vs:List PV):acmp .NotIn (.str x) (.dict ks vs) = some !(look ks vs x).isSome:=rfl
theorem newl_str (f c:Bool) (xs:List Str) (h:xs.length ≤ lim):newl f c (xs.map PV.str) = some ⟨encS xs,true,true⟩:=by
  delta newl; rw [if_pos (by simpa using h),if_pos (atoms_str xs)]; rfl
theorem bind_to {α β:Type} {o:Option α} {f:α → Option β} {a:α} {b:β} (h:o = some a) (h':f a = some b):o.bind f = some b:=by rw [h]; exact h'
theorem map_to {α β:Type} {o:Option α} {f:α → β} {a:α} (h:o = some a):o.map f = some (f a):=by rw [h]; rfl
theorem own_to {σ:Sig} {x:Nat} {d:PV} {f:Bool} (h:σ[x]? = some (some ⟨d,f,false⟩)):ownAt σ x = some ⟨d,f,false⟩:=by delta ownAt; rw [h]; rfl
theorem afor_pre {A:Type} (dec:A → PV) {body:Sig → Option Out} {x:Nat} {q:RV} (l:List A) (I:List A → Sig → Prop)
    (hb:∀ pre a post σ,l = pre ++ a :: post → I pre σ → ∃ σ',body (σ.set x (some (part q (dec a)))) = some (.next σ') ∧ I (pre ++ [a]) σ') :
    ∀ σ,I [] σ → ∃ σ',afor body x q (l.map dec) σ = some (.next σ') ∧ I l σ':=by
  have key:∀ (post pre:List A) (σ:Sig),l = pre ++ post → I pre σ → ∃ σ',afor body x q (post.map dec) σ = some (.next σ') ∧ I l σ':=by
    intro post
    induction post with
    | nil=>intro pre σ e h; rw [List.append_nil] at e; subst e; exact ⟨σ,rfl,h⟩
    | cons a post ih =>
      intro pre σ e h
      refine cps fun Gq hGq=>?_
      obtain ⟨σ',h1,h2⟩:=hb pre a post σ e h
      obtain ⟨σ'',h3,h4⟩:=ih (pre ++ [a]) σ' (by rw [e]; simp) h2
      refine hGq ?_
      clear hGq
      refine ⟨σ'',?_,h4⟩
      exact bind_to h1 h3
  exact fun σ h=>key l [] σ rfl h
section
variable {Φ:FTab} {n:Nat} {σ σ':Sig} {ts:List SStmt} {o:Out}
theorem seq {t:SStmt} (h:aexec Φ n t σ = some (.next σ')) (h':aexecs Φ n ts σ' = some o):aexecs Φ n (t :: ts) σ = some o:=bind_to h h'
theorem seq_nil:aexecs Φ n [] σ = some (.next σ):=rfl
theorem ex_set1 {x:Nat} {e:SExpr} {r:RV} (he:aeval Φ e σ = some r) (hc:r.c = true):aexec Φ n (.set x e) σ = some (.next (σ.set x (some r))):=bind_to he (if_pos hc)
theorem seq_set {x:Nat} {e:SExpr} {r:RV} (he:aeval Φ e σ = some r) (hc:r.c = true) (h:aexecs Φ n ts (σ.set x (some r)) = some o):aexecs Φ n (.set x e :: ts) σ = some o :=
  seq (bind_to he (if_pos hc)) h
theorem seq_setc {x:Nat} {e:SExpr} {r:RV} (he:aeval Φ e σ = some r) (hc:r.c = true) (h:aexecs Φ n ts (σ.set x (some r)) = some o):aexecs Φ n (.setc x e :: ts) σ = some o :=
  seq (bind_to he (if_pos hc)) h
theorem seq_ownl {x:Nat} {es:List SExpr} {rs:List RV} {r:RV} (he:aevals Φ es σ = some rs) (hr:newlR rs = some r) (hc:r.c = true) (h:aexecs Φ n ts (σ.set x (some ⟨r.d,r.f,false⟩)) = some o):aexecs Φ n (.ownl x es :: ts) σ = some o :=
  seq (bind_to he (bind_to hr (if_pos hc))) h
theorem seq_ownl0 {x:Nat} (h:aexecs Φ n ts (σ.set x (some ⟨.list [],true,false⟩)) = some o):aexecs Φ n (.ownl x [] :: ts) σ = some o :=
  seq_ownl (rs:=[]) rfl rfl rfl h
theorem seq_ownd {x:Nat} (h:aexecs Φ n ts (σ.set x (some ⟨.dict [] [],true,false⟩)) = some o):aexecs Φ n (.ownd x :: ts) σ = some o :=
  seq rfl h
theorem seq_ret {e:SExpr} {r:RV} (he:aeval Φ e σ = some r):aexecs Φ n (.ret e :: ts) σ = some (.ret r):=bind_to (map_to he) rfl
theorem if_ex {c:SExpr} {a b:List SStmt} {t:RV} {k:Bool} {r:Out} (hc:aeval Φ c σ = some t) (hk:boolOf t.d = some k) (h:aexecs Φ n (if k then a else b) σ = some r):aexec Φ n (.ife c a b) σ = some r :=
  bind_to hc (bind_to hk (by cases k <;> exact h))
theorem seq_if {c:SExpr} {a b:List SStmt} {t:RV} {k:Bool} (hc:aeval Φ c σ = some t) (hk:boolOf t.d = some k) (h:aexecs Φ n (if k then a else b) σ = some (.next σ')) (h':aexecs Φ n ts σ' = some o):aexecs Φ n (.ife c a b :: ts) σ = some o :=
  seq (if_ex hc hk h) h'
theorem seq_if_ret {c:SExpr} {a b:List SStmt} {t:RV} {k:Bool} {r:RV} (hc:aeval Φ c σ = some t) (hk:boolOf t.d = some k) (h:aexecs Φ n (if k then a else b) σ = some (.ret r)):aexecs Φ n (.ife c a b :: ts) σ = some (.ret r) :=
  bind_to (if_ex hc hk h) rfl
theorem seq_if_exc {c:SExpr} {a b:List SStmt} {t:RV} {k:Bool} {r:Str} (hc:aeval Φ c σ = some t) (hk:boolOf t.d = some k) (h:aexecs Φ n (if k then a else b) σ = some (.exc r)):aexecs Φ n (.ife c a b :: ts) σ = some (.exc r) :=
  bind_to (if_ex hc hk h) rfl
theorem seq_if_brk {c:SExpr} {a b:List SStmt} {t:RV} {k:Bool} {r:Sig} (hc:aeval Φ c σ = some t) (hk:boolOf t.d = some k) (h:aexecs Φ n (if k then a else b) σ = some (.brk r)):aexecs Φ n (.ife c a b :: ts) σ = some (.brk r) :=
  bind_to (if_ex hc hk h) rfl
theorem seq_rse {e:SExpr} {r:RV} {m:Str} (he:aeval Φ e σ = some r) (hm:r.d = .str m):aexecs Φ n (.rse e :: ts) σ = some (.exc m) :=
  bind_to (bind_to he (by rw [hm]; rfl)) rfl
theorem ex_ownf {x:Nat} {e:SExpr} {ds:List PV} (he:aeval Φ e (σ.map dropF) = some ⟨.list ds,true,true⟩) (ha:ds.all PV.atom = true):aexec Φ n (.ownf x e) σ = some (.next (σ.set x (some ⟨.list ds,true,false⟩))):=bind_to he (if_pos ha)
theorem ex_fr {x:Nat} {e:SExpr} {b:List SStmt} {q:RV} {ds:List PV} (he:aeval Φ e σ = some q) (hi:aiter q.d = some ds) (hc:q.c = true) (h:afor (aexecs Φ n b) x q ds σ = some o):aexec Φ n (.fr x e b) σ = some o:=bind_to he (bind_to hi ((if_pos hc).trans h))
theorem seq_fr {A:Type} (dec:A → PV) {x:Nat} {e:SExpr} {b:List SStmt} {q:RV} (l:List A) (I:List A → Sig → Prop) (he:aeval Φ e σ = some q) (hi:aiter q.d = some (l.map dec)) (hc:q.c = true) (h0:I [] σ)
    (hb:∀ pre a post σ,l = pre ++ a :: post → I pre σ → ∃ σ',aexecs Φ n b (σ.set x (some (part q (dec a)))) = some (.next σ') ∧ I (pre ++ [a]) σ')
    (h:∀ σ',I l σ' → aexecs Φ n ts σ' = some o):aexecs Φ n (.fr x e b :: ts) σ = some o:=by
  obtain ⟨σ',h1,h2⟩:=afor_pre dec l I hb σ h0
  exact seq (σ':=σ') (ex_fr he hi hc h1) (h σ' h2)
theorem and_tt {a:Bool} {p:Prop} [Decidable p] (h:a = true) (h':p):(a && decide p) = true:=by rw [h,decide_eq_true h']; rfl
theorem seq_app {x:Nat} {e:SExpr} {ds:List PV} {f:Bool} {r:RV} (hx:σ[x]? = some (some ⟨.list ds,f,false⟩)) (he:aeval Φ e σ = some r) (hc:r.c = true) (hl:ds.length < lim) (h:aexecs Φ n ts (σ.set x (some ⟨.list (ds ++ [r.d]),f && r.f,false⟩)) = some o):aexecs Φ n (.app x e :: ts) σ = some o :=
  seq (bind_to (own_to hx) (bind_to (a:=ds) rfl (bind_to he (if_pos (and_tt hc hl))))) h
theorem seq_put {x:Nat} {k e:SExpr} {ks:List Str} {ds:List PV} {f:Bool} {r q:RV} {kk:Str} (hx:σ[x]? = some (some ⟨.dict ks ds,f,false⟩)) (he:aeval Φ e σ = some r) (hk:aeval Φ k σ = some q) (hq:q.d = .str kk) (hc:r.c = true) (hl:ks.length < lim)
    (h:aexecs Φ n ts (σ.set x (some ⟨.dict (put ks ds kk r.d).1 (put ks ds kk r.d).2,f && r.f,false⟩)) = some o):aexecs Φ n (.put x k e :: ts) σ = some o :=
  seq (bind_to (own_to hx) (bind_to (a:=(ks,ds)) rfl (bind_to he (bind_to hk (bind_to (a:=kk) (by rw [hq]; rfl) (if_pos (and_tt hc hl))))))) h
theorem seq_rel {x:Nat} {d:PV} {f:Bool} (hx:σ[x]? = some (some ⟨d,f,false⟩)) (h:aexecs Φ n ts (σ.set x (some ⟨d,f,true⟩)) = some o):aexecs Φ n (.rel x :: ts) σ = some o :=
  seq (map_to (own_to hx)) h
theorem seq_unpk {x y:Nat} {e:SExpr} {d d':PV} {f:Bool} (he:aeval Φ e σ = some ⟨.tup [d,d'],f,true⟩) (h:aexecs Φ n ts ((σ.set x (some (part ⟨.tup [d,d'],f,true⟩ d))).set y (some (part ⟨.tup [d,d'],f,true⟩ d'))) = some o):aexecs Φ n (.unpk x y e :: ts) σ = some o :=
  seq (bind_to he rfl) h
theorem seq_del1 {x:Nat} {d:PV} {ds:List PV} {f:Bool} (hx:σ[x]? = some (some ⟨.list (d :: ds),f,false⟩)) (h:aexecs Φ n ts (σ.set x (some ⟨.list (d :: ds).dropLast,f,false⟩)) = some o):aexecs Φ n (.del1 x :: ts) σ = some o :=
  seq (bind_to (own_to hx) rfl) h
inductive Turn {S:Type} (I:S → Sig → Prop) (μ:S → Nat) (fin:S → Prop) (c:Option Bool) (b:Sig → Prop) (s:S):Prop
  | halt:c = some false → fin s → Turn I μ fin c b s
  | go {σ':Sig} {s':S}:c = some true → b σ' → I s' σ' → μ s' < μ s → Turn I μ fin c b s
inductive Done {S:Type} (I:S → Sig → Prop) (fin:S → Prop) (b:Sig → Prop):Prop
  | mk {σ':Sig} {s':S}:b σ' → I s' σ' → fin s' → Done I fin b
theorem awhl_meas {S:Type} (I:S → Sig → Prop) (μ:S → Nat) (fin:S → Prop) {c:Sig → Option Bool} {b:Nat → Sig → Option Out}
    (hb:∀ s σ,I s σ → Turn I μ fin (c σ) (fun σ'=>∀ m,b m σ = some (.next σ')) s) (k:Nat) :
    ∀ (s:S) (σ:Sig),μ s < k → I s σ → Done I fin (fun σ'=>∀ m j,awhl c (b m) (k + j) σ = some (.next σ')):=by
  induction k with
  | zero=>exact fun s σ hk=>absurd hk (Nat.not_lt_zero _)
  | succ k ih =>
    intro s σ hk h
    cases hb s σ h with
    | halt hc hf =>
      refine .mk (fun m j=>?_) h hf
      rw [Nat.succ_add]
      exact bind_to hc rfl
    | go hc hb1 hI hm =>
      cases ih _ _ (Nat.lt_of_lt_of_le hm (Nat.le_of_lt_succ hk)) hI with
      | mk h1 h2 h3 =>
        refine .mk (fun m j=>?_) h2 h3
        rw [Nat.succ_add]
        exact bind_to hc (bind_to (hb1 m) (h1 m j))
theorem ex_whl {S:Type} (I:S → Sig → Prop) (μ:S → Nat) (fin:S → Prop) {c:SExpr} {b:List SStmt} (s:S) {σ:Sig}
    (hb:∀ s σ,I s σ → (((aeval Φ c σ).bind fun t=>boolOf t.d) = some false ∧ fin s) ∨ (((aeval Φ c σ).bind fun t=>boolOf t.d) = some true ∧ ∃ σ' s',aexecs Φ 0 b σ = some (.next σ') ∧ I s' σ' ∧ μ s' < μ s))
    (h0:I s σ):∃ s' σ' k,I s' σ' ∧ fin s' ∧ aexec Φ k (.whl c b) σ = some (.next σ'):=by
  cases awhl_meas I μ fin (b:=fun m=>aexecs Φ m b) (c:=fun σ=>(aeval Φ c σ).bind fun t=>boolOf t.d) (fun s σ h=>(hb s σ h).elim (fun h=>.halt h.1 h.2) fun h=>h.2.elim fun σ' q=>q.elim fun s' q=>.go h.1 (fun m=>aexecs_mono Φ (Nat.zero_le m) _ _ _ q.1) q.2.1 q.2.2) (μ s + 1) s σ (Nat.lt_succ_self _) h0 with
  | mk h1 h2 h3=>exact ⟨_,_,μ s + 1,h2,h3,h1 _ 0⟩
theorem seq_k {t:SStmt} {k:Nat} (h:aexec Φ k t σ = some (.next σ')) (h':∃ m,aexecs Φ m ts σ' = some o):∃ m,aexecs Φ m (t :: ts) σ = some o:=by
  obtain ⟨m,hm⟩:=h'
  refine ⟨max k m,seq (σ':=σ') (aexec_mono Φ (Nat.le_max_left k m) _ _ _ h) (aexecs_mono Φ (Nat.le_max_right k m) _ _ _ hm)⟩
end
theorem idx_encR1 (r:Rule) (f c:Bool):aidx ⟨encR r,f,c⟩ (.int 1) = some ⟨encS r.2,f,c⟩:=rfl
variable {Φ:FTab}
theorem metS_len (xs:List Str):(metS xs).length ≤ xs.length:=by
  have:∀ (xs acc:List Str),(xs.foldl addS acc).length ≤ acc.length + xs.length:=by
    intro xs
    induction xs with
    | nil=>intro acc; simp
    | cons x xs ih =>
      intro acc
      rw [List.foldl_cons]
      refine Nat.le_trans (ih _) ?_
      delta addS
      split <;> simp <;> lia
  simpa [metS] using this xs []
theorem metS_snoc (xs:List Str) (x:Str):metS (xs ++ [x]) = addS (metS xs) x:=by simp [metS]
theorem pre_len {A:Type} {l pre post:List A} {a:A} (h:l = pre ++ a :: post):pre.length < l.length:=by rw [h]; simp
theorem ev_var {i:Nat} {σ:Sig} {r:RV} (h:σ[i]? = some (some r)):aeval Φ (.var i) σ = some r:=congrArg Option.join h
theorem add_turn {n:Nat} {σ:Sig} {e:SExpr} {i:Nat} {x:Str} {xs:List Str} (he:aeval Φ e σ = some (at1 (.str x))) (hi:σ[i]? = some (some ⟨encS xs,true,false⟩)) (hl:xs.length < lim) :
    aexecs Φ n [.ife (.cmp .NotIn e (.var i)) [.app i e] []] σ = some (.next (σ.set i (some ⟨encS (addS xs x),true,false⟩))):=by
  refine seq_if (t:=at1 (.bool (!decide (x ∈ xs)))) (bind_to he (bind_to (ev_var hi) (map_to (notIn_encS x xs)))) rfl ?_ seq_nil
  delta addS
  by_cases hm:x ∈ xs
  · rw [decide_eq_true hm,if_pos hm]
    obtain ⟨h,e⟩:=List.getElem?_eq_some_iff.mp hi
    rw [← e,List.set_getElem_self]
    rfl
  · rw [decide_eq_false hm,if_neg hm]
    refine seq_app hi he rfl (by rw [List.length_map]; exact hl) ?_
    delta encS
    rw [List.map_append]; rfl
theorem run_heads_of (g:List Rule) (hg:g.length ≤ lim) (n:Nat):aexecs Φ n ss_heads_of (initσ 2 [encG g]) = some (.ret ⟨encS (metS (g.map (·.1))),true,false⟩):=by
  refine seq_ownl0 (seq_fr (A:=Rule) encR g (q:=⟨encG g,false,true⟩) (fun pre σ=>∃ r,σ = [some ⟨encG g,false,true⟩,some ⟨encS (metS (pre.map (·.1))),true,false⟩,r]) (ev_var rfl) rfl rfl ⟨_,rfl⟩ ?_ ?_)
  · rintro pre a post σ e ⟨r,rfl⟩
    refine ⟨_,add_turn (x:=a.1) (xs:=metS (pre.map (·.1))) rfl rfl (Nat.lt_of_le_of_lt (metS_len _) (by rw [List.length_map]; exact Nat.lt_of_lt_of_le (pre_len e) hg)),?_⟩
    rw [List.map_append,← metS_snoc]; exact ⟨_,rfl⟩
  · rintro σ ⟨r,rfl⟩
    exact seq_ret (ev_var rfl)
theorem run_merged (a b:List Str) (hl:a.length + b.length < 64) (n:Nat):aexecs Φ n ss_merged (initσ 2 [encS a,encS b]) = some (.ret ⟨encS (sortS (metS (a ++ b))),true,true⟩):=by
  have hab:(a ++ b).length < 64:=by rw [List.length_append]; exact hl
  have hadd:aeval Φ (.bin .Add (.var 0) (.var 1)) [some ⟨encS a,false,true⟩,some ⟨encS b,false,true⟩,some ⟨.list [],true,false⟩,Option.none] = some ⟨encS (a ++ b),true,true⟩:=by
    show newl (false && false) (true && true) (a.map PV.str ++ b.map PV.str) = _
    rw [← List.map_append,newl_str _ _ _ (Nat.le_trans (Nat.le_of_lt hab) (by decide))]
  refine seq_ownl0 (seq_fr (A:=Str) PV.str (a ++ b) (q:=⟨encS (a ++ b),true,true⟩) (fun pre σ=>∃ r,σ = [some ⟨encS a,false,true⟩,some ⟨encS b,false,true⟩,some ⟨encS (metS pre),true,false⟩,r]) hadd rfl rfl ⟨_,rfl⟩ ?_ ?_)
  · rintro pre x post σ e ⟨r,rfl⟩
    refine ⟨_,add_turn (x:=x) (xs:=metS pre) rfl rfl (Nat.lt_of_le_of_lt (metS_len _) (Nat.lt_trans (pre_len e) (Nat.lt_of_lt_of_le hab (by decide)))),?_⟩
    rw [← metS_snoc]; exact ⟨_,rfl⟩
  · rintro σ ⟨r,rfl⟩
    refine seq_ret (bind_to (a:=⟨encS (metS (a ++ b)),true,false⟩) rfl (bind_to (a:=(metS (a ++ b)).map PV.str) rfl (bind_to (asStrs_map _) (if_pos ?_))))
    exact Nat.lt_of_le_of_lt (metS_len _) hab
end Mine
namespace Mine
open PySem L7
theorem mem_addS (xs:List Str) (x y:Str):y ∈ addS xs x ↔ y ∈ xs ∨ y = x:=by
  delta addS; split
  · rename_i h
    constructor
    · exact .inl
    · rintro (h' | rfl)
      · exact h'
      · exact h
  · simp
theorem nodup_addS {xs:List Str} (x:Str) (h:xs.Nodup):(addS xs x).Nodup:=by
  delta addS; split
  · exact h
  · rename_i hx
    rw [List.nodup_append]
    refine ⟨h,by simp,?_⟩
    intro a ha b hb e
    rw [List.mem_singleton] at hb
    subst hb; subst e
    exact hx ha
theorem metS_aux (xs:List Str):∀ acc:List Str,acc.Nodup → (xs.foldl addS acc).Nodup ∧ ∀ y,y ∈ xs.foldl addS acc ↔ y ∈ acc ∨ y ∈ xs:=by
  induction xs with
  | nil=>intro acc h; exact ⟨h,by simp⟩
  | cons x xs ih =>
    intro acc h
    obtain ⟨h1,h2⟩:=ih (addS acc x) (nodup_addS x h)
    refine ⟨h1,fun y=>?_⟩
    rw [List.foldl_cons,h2,mem_addS,List.mem_cons,or_assoc]
theorem mem_metS {xs:List Str} {y:Str}:y ∈ metS xs ↔ y ∈ xs:=by
  have:=(metS_aux xs [] List.nodup_nil).2 y
  simpa [metS] using this
theorem nodup_metS (xs:List Str):(metS xs).Nodup:=(metS_aux xs [] List.nodup_nil).1
noncomputable def SN (l:List Str):Prop:=l.Nodup ∧ l.Pairwise (fun a b=>leS a b = true)
theorem SN.ext {l l':List Str} (h:SN l) (h':SN l') (e:∀ x,x ∈ l ↔ x ∈ l'):l = l' :=
  sorted_unique ((List.perm_ext_iff_of_nodup h.1 h'.1).mpr e) h.2 h'.2
theorem mem_sortS {l:List Str} {x:Str}:x ∈ sortS l ↔ x ∈ l:=(sortS_perm l).mem_iff
theorem SN_sortS {l:List Str} (h:l.Nodup):SN (sortS l):=⟨(sortS_perm l).nodup_iff.mpr h,sortS_sorted l⟩
theorem SN_nil:SN []:=⟨List.nodup_nil,.nil⟩
theorem SN_one (x:Str):SN [x]:=⟨by simp,by simp⟩
noncomputable def mg (a b:List Str):List Str:=sortS (metS (a ++ b))
theorem mem_mg {a b:List Str} {x:Str}:x ∈ mg a b ↔ x ∈ a ∨ x ∈ b:=by delta mg; rw [mem_sortS,mem_metS,List.mem_append]
theorem SN_mg (a b:List Str):SN (mg a b):=SN_sortS (nodup_metS _)
theorem mg_grow {a b:List Str} (ha:SN a):(mg a b = a ∧ ∀ x ∈ b,x ∈ a) ∨ (mg a b ≠ a ∧ a.length < (mg a b).length):=by
  by_cases h:∀ x ∈ b,x ∈ a
  · refine .inl ⟨(SN_mg a b).ext ha fun x=>?_,h⟩
    rw [mem_mg]
    exact ⟨fun h'=>h'.elim id (h x),.inl⟩
  · refine .inr ?_
    have:∃ x,x ∈ b ∧ x ∉ a:=by
      refine Classical.byContradiction fun hn=>h fun x hx=>Classical.byContradiction fun ha=>hn ⟨x,hx,ha⟩
    obtain ⟨x,hx,hxa⟩:=this
    have hm:x ∈ mg a b:=mem_mg.mpr (.inr hx)
    refine ⟨fun e=>hxa (e ▸ hm),?_⟩
    have hnd:(x :: a).Nodup:=List.nodup_cons.mpr ⟨hxa,ha.1⟩
    have:=hnd.length_le_of_subset (l₂:=mg a b) fun y hy=>by
      rcases List.mem_cons.mp hy with rfl | hy
      · exact hm
      · exact mem_mg.mpr (.inl hy)
    exact this
theorem look_none {α:Type} {ks:List Str} {vs:List α} {k:Str} (h:k ∉ ks):look ks vs k = none:=by
  induction ks generalizing vs with
  | nil=>cases vs <;> rfl
  | cons x ks ih =>
    cases vs with
    | nil=>rfl
    | cons v vs =>
      rw [look_cons,if_neg (fun e:x = k=>h (by rw [e]; exact List.mem_cons_self ..))]
      exact ih (fun hm=>h (List.mem_cons_of_mem _ hm))
theorem look_some {α:Type} {ks:List Str} {vs:List α} {k:Str} (hl:ks.length ≤ vs.length) (h:k ∈ ks):∃ v,look ks vs k = some v:=by
  induction ks generalizing vs with
  | nil=>cases h
  | cons x ks ih =>
    cases vs with
    | nil=>simp at hl
    | cons v vs =>
      rw [look_cons]
      by_cases e:x = k
      · rw [if_pos e]; exact ⟨v,rfl⟩
      · rw [if_neg e]
        exact ih (by simpa using hl) ((List.mem_cons.mp h).resolve_left fun q=>e q.symm)
theorem look_mem {α:Type} {ks:List Str} {vs:List α} {k:Str} {v:α} (h:look ks vs k = some v):k ∈ ks ∧ v ∈ vs:=by
  induction ks generalizing vs with
  | nil=>cases vs <;> cases h
  | cons x ks ih =>
    cases vs with
    | nil=>cases h
    | cons u vs =>
      rw [look_cons] at h
      split at h
      · rename_i e; cases h; exact ⟨e ▸ List.mem_cons_self ..,List.mem_cons_self ..⟩
      · exact ⟨List.mem_cons_of_mem _ (ih h).1,List.mem_cons_of_mem _ (ih h).2⟩
theorem look_map {α β:Type} (f:α → β) (ks:List Str) (vs:List α) (k:Str):look ks (vs.map f) k = (look ks vs k).map f:=by
  induction ks generalizing vs with
  | nil=>cases vs <;> rfl
  | cons x ks ih =>
    cases vs with
    | nil=>rfl
    | cons v vs =>
      rw [List.map_cons,look_cons,look_cons]
      split
      · rfl
      · exact ih vs
theorem look_isSome {α:Type} {ks:List Str} {vs:List α} (hl:ks.length = vs.length) (k:Str):(look ks vs k).isSome = decide (k ∈ ks):=by
  by_cases h:k ∈ ks
  · obtain ⟨v,e⟩:=look_some (Nat.le_of_eq hl) h
    rw [e]; simp [h]
  · rw [look_none h]; simp [h]
noncomputable def upd {α:Type} (ks:List Str) (vs:List α) (k:Str) (v:α):List α:=(ks.zip vs).map fun p=>if p.1 = k then v else p.2
theorem put_mem {α:Type} {ks:List Str} {vs:List α} {k:Str} {v:α} (h:k ∈ ks):put ks vs k v = (ks,upd ks vs k v):=by
  delta put upd; rw [if_pos h]
theorem put_new {α:Type} {ks:List Str} {vs:List α} {k:Str} {v:α} (h:k ∉ ks):put ks vs k v = (ks ++ [k],vs ++ [v]):=by
  delta put; rw [if_neg h]
theorem upd_length {α:Type} {ks:List Str} {vs:List α} {k:Str} {v:α} (h:ks.length = vs.length):(upd ks vs k v).length = ks.length:=by
  delta upd; simp; lia
theorem look_upd {α:Type} {ks:List Str} {vs:List α} {k j:Str} {v:α} (hl:ks.length = vs.length) (hk:k ∈ ks):look ks (upd ks vs k v) j = if j = k then some v else look ks vs j:=by
  induction ks generalizing vs with
  | nil=>cases hk
  | cons x ks ih =>
    cases vs with
    | nil=>simp at hl
    | cons u vs =>
      have hl':ks.length = vs.length:=by simpa using hl
      have e:upd (x :: ks) (u :: vs) k v = (if x = k then v else u) :: upd ks vs k v:=rfl
      rw [e,look_cons,look_cons]
      by_cases hx:x = j
      · subst hx
        simp only [if_true]
        by_cases hk':x = k
        · simp [hk']
        · simp [hk']
      · simp only [if_neg hx]
        by_cases hkk:k ∈ ks
        · exact ih hl' hkk
        · have hxk:k = x:=(List.mem_cons.mp hk).resolve_right hkk
          have hjk:¬ j = k:=fun q=>hx (by rw [q,hxk])
          rw [if_neg hjk]
          have:∀ {ks:List Str} {vs:List α},ks.length = vs.length → k ∉ ks → upd ks vs k v = vs:=by
            intro ks
            induction ks with
            | nil=>intro vs h _; cases vs with
              | nil=>rfl
              | cons=>simp at h
            | cons y ks ih =>
              intro vs h hn
              cases vs with
              | nil=>simp at h
              | cons w vs =>
                have e:upd (y :: ks) (w :: vs) k v = (if y = k then v else w) :: upd ks vs k v:=rfl
                rw [e,if_neg (fun q:y = k=>hn (by rw [q]; exact List.mem_cons_self ..)),ih (by simpa using h) (fun hm=>hn (List.mem_cons_of_mem _ hm))]
          rw [this hl' hkk]
theorem upd_map {α β:Type} (f:α → β) (ks:List Str) (vs:List α) (k:Str) (v:α):upd ks (vs.map f) k (f v) = (upd ks vs k v).map f:=by
  delta upd
  induction ks generalizing vs with
  | nil=>rfl
  | cons x ks ih =>
    cases vs with
    | nil=>rfl
    | cons u vs =>
      simp only [List.map_cons,List.zip_cons_cons,ih vs]
      split <;> rfl
noncomputable def Stp {V:Type} (size:V → Nat) (C:V → Prop) (v:V) (ch:Bool) (v':V) (ch':Bool):Prop:=(v' = v ∧ ch' = ch ∧ C v) ∨ (size v < size v' ∧ ch' = true)
section
variable {Φ:FTab} {V A:Type} {size:V → Nat} {Good:V → Prop} {I:V → Bool → Sig → Prop}
theorem pass (Cl:A → V → Prop) (dec:A → PV) (l:List A) {b:List SStmt} {x:Nat} {e:SExpr} {q:RV}
    (hb:∀ a ∈ l,∀ v ch σ,Good v → I v ch σ → ∃ σ' v' ch',aexecs Φ 0 b (σ.set x (some (part q (dec a)))) = some (.next σ') ∧ I v' ch' σ' ∧ Good v' ∧ Stp size (Cl a) v ch v' ch')
    {v:V} {ch:Bool} {σ:Sig} (hg:Good v) (hI:I v ch σ) (he:aeval Φ e σ = some q) (hi:aiter q.d = some (l.map dec)) (hc:q.c = true) :
    ∃ σ' v' ch',aexec Φ 0 (.fr x e b) σ = some (.next σ') ∧ I v' ch' σ' ∧ Good v' ∧ Stp size (fun v=>∀ a ∈ l,Cl a v) v ch v' ch':=by
  obtain ⟨σ',h1,v',ch',h2,h3,h4⟩:=afor_pre (body:=aexecs Φ 0 b) (x:=x) (q:=q) dec l (fun pre σ=>∃ v' ch',I v' ch' σ ∧ Good v' ∧ Stp size (fun v=>∀ a ∈ pre,Cl a v) v ch v' ch') (by
    rintro pre a post σ1 hl ⟨v1,ch1,hI1,hg1,hs1⟩
    refine cps fun Gq hGq=>?_
    obtain ⟨σ2,v2,ch2,h1,h2,h3,h4⟩:=hb a (by rw [hl]; simp) v1 ch1 σ1 hg1 hI1
    refine hGq ?_
    clear hGq
    refine ⟨σ2,h1,v2,ch2,h2,h3,?_⟩
    rcases hs1 with ⟨rfl,rfl,hC⟩ | ⟨hs,rfl⟩
    · rcases h4 with ⟨rfl,rfl,hC2⟩ | h4
      · refine .inl ⟨rfl,rfl,fun z hz=>?_⟩
        rcases List.mem_append.mp hz with hz | hz
        · exact hC z hz
        · rw [List.mem_singleton.mp hz]; exact hC2
      · exact .inr h4
    · rcases h4 with ⟨rfl,rfl,hC2⟩ | ⟨h4,h5⟩
      · exact .inr ⟨hs,rfl⟩
      · exact .inr ⟨Nat.lt_trans hs h4,h5⟩) σ ⟨v,ch,hI,hg,.inl ⟨rfl,rfl,fun a ha=>by cases ha⟩⟩
  refine ⟨σ',v',ch',?_,h2,h3,h4⟩
  exact ex_fr he hi hc h1
theorem cl_lt {B a b:Nat} (hb:b ≤ B) (h:a < b):(2 * (B - b) + if true then 1 else 0) < (2 * (B - a) + if true then 1 else 0):=Nat.add_lt_add_right (Nat.mul_lt_mul_of_pos_left (Nat.sub_lt_sub_left (Nat.lt_of_lt_of_le h hb) h) (by decide)) _
theorem chaos (B:Nat) (Cl:A → V → Prop) (dec:A → PV) (l:List A) {b:List SStmt} {x cx:Nat} {e:SExpr} {q:RV}
    (hB:∀ v,Good v → size v ≤ B)
    (hset:∀ v ch σ,I v ch σ → I v false (σ.set cx (some (at1 (.bool false)))))
    (hcond:∀ v ch σ,I v ch σ → σ[cx]? = some (some (at1 (.bool ch))))
    (he:∀ v ch σ,I v ch σ → aeval Φ e σ = some q) (hi:aiter q.d = some (l.map dec)) (hc:q.c = true)
    (hb:∀ a ∈ l,∀ v ch σ,Good v → I v ch σ → ∃ σ' v' ch',aexecs Φ 0 b (σ.set x (some (part q (dec a)))) = some (.next σ') ∧ I v' ch' σ' ∧ Good v' ∧ Stp size (Cl a) v ch v' ch')
    {v:V} {σ:Sig} (hg:Good v) (hI:I v true σ) :
    ∃ v' σ' k,Good v' ∧ (∀ a ∈ l,Cl a v') ∧ I v' false σ' ∧ aexec Φ k (.whl (.var cx) [.set cx (.bool false),.fr x e b]) σ = some (.next σ'):=by
  have key:∀ (s:V × Bool) σ,(I s.1 s.2 σ ∧ Good s.1 ∧ (s.2 = false → ∀ a ∈ l,Cl a s.1)) → (((aeval Φ (.var cx) σ).bind fun t=>boolOf t.d) = some false ∧ s.2 = false) ∨ (((aeval Φ (.var cx) σ).bind fun t=>boolOf t.d) = some true ∧ ∃ (σ':Sig) (s':V × Bool),aexecs Φ 0 [.set cx (.bool false),.fr x e b] σ = some (.next σ') ∧ (I s'.1 s'.2 σ' ∧ Good s'.1 ∧ (s'.2 = false → ∀ a ∈ l,Cl a s'.1)) ∧ (2 * (B - size s'.1) + if s'.2 then 1 else 0) < (2 * (B - size s.1) + if s.2 then 1 else 0)):=by
    rintro ⟨v,ch⟩ σ ⟨hI,hg,hcl⟩
    have hcv:((aeval Φ (.var cx) σ).bind fun t=>boolOf t.d) = some ch:=by
      rw [ev_var (hcond v ch σ hI)]; rfl
    cases ch with
    | false=>exact .inl ⟨hcv,rfl⟩
    | true =>
      refine .inr ⟨hcv,?_⟩
      have hI0:=hset v true σ hI
      refine cps fun Gq hGq=>?_
      obtain ⟨σ',v',ch',h1,h2,h3,h4⟩:=pass (I:=I) (size:=size) (Φ:=Φ) Cl dec l hb hg hI0 (he _ _ _ hI0) hi hc
      refine hGq ?_
      clear hGq
      refine ⟨σ',(v',ch'),?_,⟨h2,h3,fun hch=>?_⟩,?_⟩
      · refine seq_set (r:=at1 (.bool false)) rfl rfl ?_
        exact seq h1 seq_nil
      · rcases h4 with ⟨rfl,zz,hC⟩ | ⟨zz,h5⟩
        · exact hC
        · simp only at hch; rw [hch] at h5; cases h5
      · have b1:=hB _ hg
        have b2:=hB _ h3
        rcases h4 with ⟨rfl,rfl,hC⟩ | ⟨h5,rfl⟩
        · simp
        · exact cl_lt b2 h5
  refine cps fun Gq hGq=>?_
  obtain ⟨⟨v',ch'⟩,σ',k,⟨hI',hg',hcl'⟩,hf,hx⟩:=ex_whl (S:=V × Bool) (Φ:=Φ) (c:=.var cx) (b:=[.set cx (.bool false),.fr x e b]) (fun s σ=>I s.1 s.2 σ ∧ Good s.1 ∧ (s.2 = false → ∀ a ∈ l,Cl a s.1)) (fun s=>2 * (B - size s.1) + if s.2 then 1 else 0) (fun s=>s.2 = false) (v,true) (σ:=σ) key ⟨hI,hg,fun h=>by cases h⟩
  refine hGq ?_
  clear hGq
  simp only at hf
  subst hf
  exact ⟨v',σ',k,hg',hcl' rfl,hI',hx⟩
end
end Mine
namespace Mine
open PySem L7
section
variable {Φ:FTab}
section
variable {σ:Sig} {a b c i:SExpr} {es:List SExpr} {r q t:RV} {rs:List RV}
theorem ev_int {k:Int}:aeval Φ (.int k) σ = some (at1 (.int k)):=rfl
theorem ev_neg {k:Int}:aeval Φ (.neg k) σ = some (at1 (.int (-k))):=rfl
theorem ev_str {k:Str}:aeval Φ (.str k) σ = some (at1 (.str k)):=rfl
theorem ev_bool {k:Bool}:aeval Φ (.bool k) σ = some (at1 (.bool k)):=rfl
theorem ev_none:aeval Φ .none σ = some (at1 .none):=rfl
theorem ev_idx (h1:aeval Φ a σ = some r) (h2:aeval Φ i σ = some q) (h:aidx r q.d = some t):aeval Φ (.idx a i) σ = some t:=bind_to h1 (bind_to h2 h)
theorem ev_cmp {op:CmpOp} {k:Bool} (h1:aeval Φ a σ = some r) (h2:aeval Φ b σ = some q) (h:acmp op r.d q.d = some k):aeval Φ (.cmp op a b) σ = some (at1 (.bool k)):=bind_to h1 (bind_to h2 (map_to h))
theorem ev_bin {op:Operator} (h1:aeval Φ a σ = some r) (h2:aeval Φ b σ = some q) (h:abin op r q = some t):aeval Φ (.bin op a b) σ = some t:=bind_to h1 (bind_to h2 h)
theorem evs_nil:aevals Φ [] σ = some []:=rfl
theorem evs_cons (h1:aeval Φ a σ = some r) (h2:aevals Φ es σ = some rs):aevals Φ (a :: es) σ = some (r :: rs):=bind_to h1 (bind_to h2 rfl)
theorem ev_list (h1:aevals Φ es σ = some rs) (h:newlR rs = some t):aeval Φ (.list es) σ = some t:=bind_to h1 h
theorem ev_tup (h1:aevals Φ es σ = some rs) (h:rs.length ≤ lim):aeval Φ (.tup es) σ = some ⟨.tup (rs.map (·.d)),rs.all (·.f),rs.all (·.c)⟩:=bind_to h1 (if_pos h)
theorem ev_call {f:Str} {p:PV × Bool} (h1:aevals Φ es σ = some rs) (h:Φ f (rs.map (·.d)) = some p):aeval Φ (.call f es) σ = some ⟨p.1,p.2 || p.1.atom || rs.all (·.f),p.2 || p.1.atom || rs.all (·.c)⟩:=bind_to h1 (map_to h)
theorem ev_callT {f:Str} {d:PV} (h1:aevals Φ es σ = some rs) (h:Φ f (rs.map (·.d)) = some (d,true)):aeval Φ (.call f es) σ = some ⟨d,true,true⟩:=ev_call h1 h
theorem ev_len {n:Nat} (h1:aeval Φ a σ = some r) (h:alen r.d = some n):aeval Φ (.len a) σ = some (at1 (.int n)):=bind_to h1 (map_to h)
theorem asBools_of {A:Type} (p:A → Bool) (l:List A):asBools (l.map fun x=>PV.bool (p x)) = some (l.map p):=by
  induction l with
  | nil=>rfl
  | cons x l ih=>exact map_to (f:=(p x :: ·)) ih
theorem ev_all {A:Type} {p:A → Bool} {l:List A} {f c:Bool} (h1:aeval Φ a σ = some ⟨.list (l.map fun x=>.bool (p x)),f,c⟩):aeval Φ (.all a) σ = some (at1 (.bool (l.all p))):=by
  refine bind_to h1 (bind_to (a:=l.map fun x=>.bool (p x)) rfl ((map_to (asBools_of p l)).trans ?_))
  rw [List.all_map]; rfl
theorem ands_nil:aands Φ [] σ = some true:=rfl
theorem ands_cons {k l:Bool} (h1:aeval Φ a σ = some (at1 (.bool k))) (h2:aands Φ es σ = some l):aands Φ (a :: es) σ = some (k && l) :=
  bind_to h1 (bind_to (a:=k) rfl (by cases k <;> first | exact h2 | rfl))
theorem ors_cons {k l:Bool} (h1:aeval Φ a σ = some (at1 (.bool k))) (h2:aors Φ es σ = some l):aors Φ (a :: es) σ = some (k || l) :=
  bind_to h1 (bind_to (a:=k) rfl (by cases k <;> first | exact h2 | rfl))
theorem ev_band {k:Bool} (h:aands Φ es σ = some k):aeval Φ (.band es) σ = some (at1 (.bool k)):=map_to h
theorem ev_bor {k:Bool} (h:aors Φ es σ = some k):aeval Φ (.bor es) σ = some (at1 (.bool k)):=map_to h
theorem ev_not {k:Bool} (h1:aeval Φ a σ = some (at1 (.bool k))):aeval Φ (.not a) σ = some (at1 (.bool !k)):=bind_to h1 rfl
theorem ev_range {k:Nat} {f c:Bool} (h1:aeval Φ a σ = some ⟨.int k,f,c⟩) (h:k ≤ lim):aeval Φ (.range a) σ = some ⟨.rng 0 k 1,true,true⟩ :=
  bind_to h1 (bind_to (a:=(k:Int)) rfl (if_pos ⟨Int.natCast_nonneg k,Int.ofNat_le.mpr h⟩))
theorem ev_sorted {xs:List Str} {f c:Bool} (h1:aeval Φ a σ = some ⟨encS xs,f,c⟩) (h:xs.length < 64):aeval Φ (.sorted a) σ = some ⟨encS (sortS xs),true,true⟩ :=
  bind_to h1 (bind_to (a:=xs.map PV.str) rfl (bind_to (asStrs_map xs) (if_pos h)))
theorem ev_compP {A:Type} {dec:A → PV} {f:A → RV} {l:List A} (h1:aeval Φ b σ = some r) (h2:aiter r.d = some (l.map dec)) (h3:∀ x ∈ l,aeval Φ a (σ ++ [some (part r (dec x))]) = some (f x)) (h:newlR (l.map f) = some t):aeval Φ (.comp a b) σ = some t:=by
  refine bind_to h1 (bind_to h2 (bind_to ?_ h))
  clear h h2
  induction l with
  | nil=>rfl
  | cons x l ih=>exact bind_to (map_to (h3 x (List.mem_cons_self ..))) (bind_to (ih fun y hy=>h3 y (List.mem_cons_of_mem _ hy)) rfl)
end
theorem newlR_bools {A:Type} (b:A → Bool) (l:List A) (h:l.length ≤ lim):newlR (l.map fun a=>at1 (.bool (b a))) = some ⟨.list (l.map fun a=>.bool (b a)),true,true⟩:=by
  delta newlR newl
  rw [if_pos (by simpa using h)]
  have e1:(l.map fun a=>at1 (.bool (b a))).map (·.d) = l.map fun a=>.bool (b a):=by rw [List.map_map]; rfl
  rw [e1,if_pos (atoms_of _ (fun zz=>rfl) _)]
noncomputable def NulClosed (g:List Rule) (N:Str → Prop):Prop:=∀ r ∈ g,(∀ s ∈ r.2,N s) → N r.1
structure IsNul (g:List Rule) (l:List Str):Prop where
  sn:SN l
  closed:NulClosed g (· ∈ l)
  least:∀ N,NulClosed g N → ∀ h ∈ l,N h
theorem run_hbf (g:List Rule) (hg:g.length < 64) (hb:∀ r ∈ g,r.2.length ≤ lim):∃ l,IsNul g l ∧ ∃ k,aexecs Φ k ss_heads_built_from (initσ 3 [encG g,encS []]) = some (.ret ⟨encS l,true,true⟩):=by
  let I:List Str → Bool → Sig → Prop:=fun f ch σ=>∃ r,σ = [some ⟨encG g,false,true⟩,some ⟨encS [],false,true⟩,some ⟨encS f,true,false⟩,some (at1 (.bool ch)),r]
  let Good:List Str → Prop:=fun f=>f.Nodup ∧ (∀ h ∈ f,h ∈ g.map (·.1)) ∧ ∀ N,NulClosed g N → ∀ h ∈ f,N h
  have hlen:∀ f,Good f → f.length ≤ g.length:=fun f hf=>by
    have:=hf.1.length_le_of_subset hf.2.1
    simpa using this
  obtain ⟨f,σ',k,hgf,hcl,hI,hx⟩:=chaos (Φ:=Φ) (V:=List Str) (size:=List.length) (Good:=Good) (I:=I) g.length (fun r f=>(∀ s ∈ r.2,s ∈ f) → r.1 ∈ f) encR g (x:=4) (cx:=3) (e:=.var 0) (q:=⟨encG g,false,true⟩)
    (b:=[.ife (.band [.cmp .NotIn (.idx (.var 4) (.int 0)) (.var 2),.all (.comp (.bor [.cmp .In (.var 5) (.var 1),.cmp .In (.var 5) (.var 2)]) (.idx (.var 4) (.int 1)))]) [.app 2 (.idx (.var 4) (.int 0)),.set 3 (.bool true)] []])
    hlen (by rintro v ch σ ⟨r,rfl⟩; exact ⟨r,rfl⟩) (by rintro v ch σ ⟨r,rfl⟩; rfl) (by rintro v ch σ ⟨r,rfl⟩; exact ev_var rfl) rfl rfl (by
      rintro r hr f ch σ hgf ⟨rr,rfl⟩
      have htest:aeval Φ (.band [.cmp .NotIn (.idx (.var 4) (.int 0)) (.var 2),.all (.comp (.bor [.cmp .In (.var 5) (.var 1),.cmp .In (.var 5) (.var 2)]) (.idx (.var 4) (.int 1)))]) [some ⟨encG g,false,true⟩,some ⟨encS [],false,true⟩,some ⟨encS f,true,false⟩,some (at1 (.bool ch)),some ⟨encR r,false,true⟩] = some (at1 (.bool (!decide (r.1 ∈ f) && r.2.all fun s=>decide (s ∈ f)))):=by
        refine ev_band ((ands_cons (ev_cmp (ev_idx (ev_var rfl) ev_int rfl) (ev_var rfl) (notIn_encS _ _)) (ands_cons (ev_all (l:=r.2) (p:=fun s=>decide (s ∈ f)) (f:=true) (c:=true) (ev_compP (dec:=PV.str) (l:=r.2) (f:=fun s=>at1 (.bool (decide (s ∈ f)))) (ev_idx (ev_var rfl) ev_int (idx_encR1 r false true)) rfl ?_ (newlR_bools _ _ (hb r hr)))) ands_nil)).trans ?_)
        · intro s zz
          refine (ev_bor (ors_cons (ev_cmp (ev_var rfl) (ev_var rfl) (in_encS s [])) (ors_cons (ev_cmp (ev_var rfl) (ev_var rfl) (in_encS s f)) (l:=false) rfl))).trans ?_
          rw [Bool.or_false]; rfl
        · rw [Bool.and_true]
      by_cases hc:r.1 ∉ f ∧ ∀ s ∈ r.2,s ∈ f
      · have hl:=hlen f hgf
        refine ⟨_,f ++ [r.1],true,seq_if (k:=true) htest ?_ (σ':=[some ⟨encG g,false,true⟩,some ⟨encS [],false,true⟩,some ⟨encS (f ++ [r.1]),true,false⟩,some (at1 (.bool true)),some ⟨encR r,false,true⟩]) ?_ seq_nil,⟨_,rfl⟩,⟨?_,?_,?_⟩,.inr ⟨by simp,rfl⟩⟩
        · refine congrArg some ?_
          simp only [Bool.and_eq_true,Bool.not_eq_true',decide_eq_false_iff_not,List.all_eq_true,decide_eq_true_eq]
          exact hc
        · refine seq_app (ds:=f.map PV.str) (r:=at1 (.str r.1)) rfl ?_ rfl (by rw [List.length_map]; delta lim; lia) ?_
          · rfl
          · refine seq_set (r:=at1 (.bool true)) rfl rfl ?_
            delta encS
            rw [List.map_append]; rfl
        · rw [List.nodup_append]
          refine ⟨hgf.1,by simp,fun a ha b hb e=>?_⟩
          rw [List.mem_singleton] at hb
          subst hb; subst e
          exact hc.1 ha
        · intro h hh
          rcases List.mem_append.mp hh with hh | hh
          · exact hgf.2.1 h hh
          · rw [List.mem_singleton.mp hh]; exact List.mem_map_of_mem hr
        · intro N hN h hh
          rcases List.mem_append.mp hh with hh | hh
          · exact hgf.2.2 N hN h hh
          · rw [List.mem_singleton.mp hh]
            exact hN r hr fun s hs=>hgf.2.2 N hN s (hc.2 s hs)
      · refine ⟨_,f,ch,seq_if (k:=false) htest ?_ seq_nil seq_nil,⟨_,rfl⟩,hgf,.inl ⟨rfl,rfl,fun hs=>Classical.byContradiction fun hn=>hc ⟨hn,hs⟩⟩⟩
        refine congrArg some ?_
        cases hq:(!decide (r.1 ∈ f) && r.2.all fun s=>decide (s ∈ f)) with
        | false=>rfl
        | true =>
          refine absurd ?_ hc
          simpa using hq) (v:=[]) (σ:=[some ⟨encG g,false,true⟩,some ⟨encS [],false,true⟩,some ⟨encS [],true,false⟩,some (at1 (.bool true)),Option.none]) ⟨List.nodup_nil,by simp,by simp⟩ ⟨_,rfl⟩
  refine ⟨sortS f,⟨SN_sortS hgf.1,fun r hr hs=>mem_sortS.mpr (hcl r hr fun s h=>mem_sortS.mp (hs s h)),fun N hN h hh=>hgf.2.2 N hN h (mem_sortS.mp hh)⟩,?_⟩
  obtain ⟨r,rfl⟩:=hI
  have hend:∃ m,aexecs Φ m [.ret (.sorted (.var 2))] [some ⟨encG g,false,true⟩,some ⟨encS [],false,true⟩,some ⟨encS f,true,false⟩,some (at1 (.bool false)),r] = some (.ret ⟨encS (sortS f),true,true⟩):=by
    exact ⟨0,seq_ret (ev_sorted (ev_var rfl) (by have:=hlen f hgf; lia))⟩
  obtain ⟨m,hm⟩:=seq_k hx hend
  refine ⟨m,?_⟩
  delta ss_heads_built_from
  exact seq_ownl0 (seq_set (r:=at1 (.bool true)) rfl rfl hm)
end
end Mine
namespace Mine
open PySem L7
noncomputable def fos (ks:List Str) (vs:List (List Str)) (nl:List Str):List Str → List Str → List Str × Bool
  | b,[]=>(b,true)
  | b,X :: rest=>(look ks vs X).elim (mg b [X],false) fun l=>if X ∈ nl then fos ks vs nl (mg b l) rest else (mg b l,false)
theorem fos_cons {ks:List Str} {vs:List (List Str)} {nl b r:List Str} {X:Str}:fos ks vs nl b (X :: r) = (look ks vs X).elim (mg b [X],false) fun l=>if X ∈ nl then fos ks vs nl (mg b l) r else (mg b l,false):=rfl
theorem fos_none {ks:List Str} {vs:List (List Str)} {nl b r:List Str} {X:Str} (h:look ks vs X = none):fos ks vs nl b (X :: r) = (mg b [X],false):=by rw [fos_cons,h]; rfl
theorem fos_some {ks:List Str} {vs:List (List Str)} {nl b r l:List Str} {X:Str} (h:look ks vs X = some l):fos ks vs nl b (X :: r) = if X ∈ nl then fos ks vs nl (mg b l) r else (mg b l,false):=by rw [fos_cons,h]; rfl
noncomputable def FF (ks:List Str) (vs:List (List Str)) (h t:Str):Prop:=∃ l,look ks vs h = some l ∧ t ∈ l
noncomputable def inFos (ks nl:List Str) (F:Str → Str → Prop):List Str → Str → Prop
  | [],_=>False
  | X :: rest,t=>if X ∈ ks then (F X t ∨ (X ∈ nl ∧ inFos ks nl F rest t)) else t = X
noncomputable def vanF (ks nl:List Str):List Str → Prop
  | []=>True
  | X :: rest=>X ∈ ks ∧ X ∈ nl ∧ vanF ks nl rest
theorem inFos_cons {ks nl r:List Str} {F:Str → Str → Prop} {X t:Str}:inFos ks nl F (X :: r) t = if X ∈ ks then (F X t ∨ (X ∈ nl ∧ inFos ks nl F r t)) else t = X:=rfl
theorem vanF_nil {ks nl:List Str}:vanF ks nl [] = True:=rfl
theorem vanF_cons {ks nl r:List Str} {X:Str}:vanF ks nl (X :: r) = (X ∈ ks ∧ X ∈ nl ∧ vanF ks nl r):=rfl
theorem inFos_mono {ks nl:List Str} {F G:Str → Str → Prop} (h:∀ x t,F x t → G x t):∀ {xs:List Str} {t:Str},inFos ks nl F xs t → inFos ks nl G xs t
  | [],t,hh=>hh
  | X :: xs,t,hh=>by
    rw [inFos_cons] at hh ⊢
    split at hh
    · rename_i hk
      rw [if_pos hk]
      exact hh.imp (h _ _) fun ⟨a,b⟩=>⟨a,inFos_mono h b⟩
    · rename_i hk; rw [if_neg hk]; exact hh
theorem mem_fos {ks nl:List Str} {vs:List (List Str)} (hl:ks.length = vs.length):∀ (xs b:List Str) (t:Str),t ∈ (fos ks vs nl b xs).1 ↔ t ∈ b ∨ inFos ks nl (FF ks vs) xs t
  | [],b,t=>by show t ∈ b ↔ t ∈ b ∨ False; simp
  | X :: xs,b,t=>by
    rw [inFos_cons]
    by_cases hk:X ∈ ks
    · obtain ⟨l,e⟩:=look_some (Nat.le_of_eq hl) hk
      rw [if_pos hk,fos_some e]
      have hF:FF ks vs X t ↔ t ∈ l:=by delta FF; rw [e]; simp
      by_cases hn:X ∈ nl
      · rw [if_pos hn,mem_fos hl xs,mem_mg,hF,or_assoc]; simp [hn]
      · rw [if_neg hn,mem_mg,hF]; simp [hn]
    · rw [if_neg hk,fos_none (look_none hk),mem_mg]; simp
theorem van_fos {ks nl:List Str} {vs:List (List Str)} (hl:ks.length = vs.length):∀ (xs b:List Str),(fos ks vs nl b xs).2 = true ↔ vanF ks nl xs
  | [],b=>by show true = true ↔ True; simp
  | X :: xs,b=>by
    rw [vanF_cons]
    by_cases hk:X ∈ ks
    · obtain ⟨l,e⟩:=look_some (Nat.le_of_eq hl) hk
      rw [fos_some e]
      by_cases hn:X ∈ nl
      · rw [if_pos hn,van_fos hl xs]; simp [hk,hn]
      · rw [if_neg hn]; simp [hn]
    · rw [fos_none (look_none hk)]; simp [hk]
theorem SN_fos {ks nl:List Str} {vs:List (List Str)}:∀ (xs b:List Str),SN b → SN (fos ks vs nl b xs).1
  | [],b,h=>h
  | X :: xs,b,h=>by
    cases e:look ks vs X with
    | none=>rw [fos_none e]; exact SN_mg _ _
    | some l =>
      rw [fos_some e]
      split
      · exact SN_fos xs _ (SN_mg _ _)
      · exact SN_mg _ _
section
variable {Φ:FTab}
structure Hm (Φ:FTab):Prop where
  merged:∀ a b,a.length + b.length < 64 → Φ "merged" [encS a,encS b] = some (encS (mg a b),true)
theorem idx_encD {ks:List Str} {vs:List (List Str)} {k:Str} {l:List Str} {f c:Bool} (h:look ks vs k = some l):aidx ⟨encD ks vs,f,c⟩ (.str k) = some ⟨encS l,f,c⟩:=by
  show (look ks (vs.map encS) k).map _ = _
  rw [look_map,h]; rfl
theorem newlR_one (x:Str):newlR [at1 (.str x)] = some ⟨encS [x],true,true⟩:=rfl
noncomputable def fosBody:List SStmt:=[.ife (.cmp .NotIn (.var 4) (.var 1)) [.ret (.tup [.call "merged" [.var 3,.list [.var 4]],.bool false])] [],.set 3 (.call "merged" [.var 3,.idx (.var 1) (.var 4)]),.ife (.cmp .NotIn (.var 4) (.var 2)) [.ret (.tup [.var 3,.bool false])] []]
theorem fos_loop (H:Hm Φ) {ks nl U:List Str} {vs:List (List Str)} {p:Option RV} {q:RV} {f1 f2 c1 c2:Bool} (hl:ks.length = vs.length) (hU:U.length < 32) (hv:∀ l ∈ vs,SN l ∧ ∀ t ∈ l,t ∈ U) (n:Nat):∀ (xs b:List Str) (r:Option RV),(∀ x ∈ xs,x ∈ U) → SN b → (∀ t ∈ b,t ∈ U) →
    ∃ r',afor (aexecs Φ n fosBody) 4 q (xs.map PV.str) [p,some ⟨encD ks vs,f1,c1⟩,some ⟨encS nl,f2,c2⟩,some ⟨encS b,true,true⟩,r] =
      some (if (fos ks vs nl b xs).2 then .next [p,some ⟨encD ks vs,f1,c1⟩,some ⟨encS nl,f2,c2⟩,some ⟨encS (fos ks vs nl b xs).1,true,true⟩,r'] else .ret ⟨.tup [encS (fos ks vs nl b xs).1,.bool false],true,true⟩)
  | [],b,r,_,_,_=>⟨r,rfl⟩
  | X :: xs,b,r,hx,hb,hbU=>by
    have lenb:b.length < 32:=Nat.lt_of_le_of_lt (hb.1.length_le_of_subset hbU) hU
    rw [List.map_cons]
    by_cases hk:X ∈ ks
    · obtain ⟨l,e⟩:=look_some (Nat.le_of_eq hl) hk
      rw [fos_some e]
      have hlm:=hv l (look_mem e).2
      have lenl:l.length < 32:=Nat.lt_of_le_of_lt (hlm.1.1.length_le_of_subset hlm.2) hU
      have hbody:∀ o,aexecs Φ n [.ife (.cmp .NotIn (.var 4) (.var 2)) [.ret (.tup [.var 3,.bool false])] []] [p,some ⟨encD ks vs,f1,c1⟩,some ⟨encS nl,f2,c2⟩,some ⟨encS (mg b l),true,true⟩,some (at1 (.str X))] = some o → aexecs Φ n fosBody [p,some ⟨encD ks vs,f1,c1⟩,some ⟨encS nl,f2,c2⟩,some ⟨encS b,true,true⟩,some (at1 (.str X))] = some o:=by
        intro o ho
        delta fosBody
        refine seq_if (k:=false) (t:=at1 (.bool false)) (ev_cmp (ev_var rfl) (ev_var rfl) ?_) rfl seq_nil ?_
        · show acmp .NotIn (.str X) (.dict ks (vs.map encS)) = _
          rw [notIn_dict,look_isSome (by simpa using hl)]; simp [hk]
        · refine seq_set (r:=⟨encS (mg b l),true,true⟩) (ev_callT (evs_cons (ev_var rfl) (evs_cons (ev_idx (ev_var rfl) (ev_var rfl) (idx_encD e)) evs_nil)) ?_) rfl ho
          exact H.merged b l (lt64 lenb lenl)
      by_cases hn:X ∈ nl
      · rw [if_pos hn]
        obtain ⟨r',ih⟩:=fos_loop H hl hU hv n xs (mg b l) (some (at1 (.str X))) (fun x h=>hx x (List.mem_cons_of_mem _ h)) (SN_mg _ _) (fun t ht=>(mem_mg.mp ht).elim (hbU t) (hlm.2 t)) (p:=p) (q:=q) (f1:=f1) (f2:=f2) (c1:=c1) (c2:=c2)
        refine ⟨r',?_⟩
        rw [← ih,afor_cons,part_str]
        simp only [List.set_cons_succ,List.set_cons_zero]
        rw [hbody (.next _) (seq_if (k:=false) (t:=at1 (.bool false)) (ev_cmp (ev_var rfl) (ev_var rfl) (by show acmp .NotIn (.str X) (encS nl) = _; rw [notIn_encS]; simp [hn])) rfl seq_nil seq_nil)]
        rfl
      · rw [if_neg hn]
        refine ⟨r,?_⟩
        rw [afor_cons,part_str]
        simp only [List.set_cons_succ,List.set_cons_zero]
        rw [hbody (.ret ⟨.tup [encS (mg b l),.bool false],true,true⟩) (seq_if_ret (k:=true) (t:=at1 (.bool true)) (ev_cmp (ev_var rfl) (ev_var rfl) (by show acmp .NotIn (.str X) (encS nl) = _; rw [notIn_encS]; simp [hn])) rfl (seq_ret (ev_tup (rs:=[⟨encS (mg b l),true,true⟩,at1 (.bool false)]) (evs_cons (ev_var rfl) (evs_cons ev_bool evs_nil)) (show 2 ≤ lim by decide))))]
        rfl
    · rw [fos_none (look_none hk)]
      refine ⟨r,?_⟩
      rw [afor_cons,part_str]
      simp only [List.set_cons_succ,List.set_cons_zero]
      have:aexecs Φ n fosBody [p,some ⟨encD ks vs,f1,c1⟩,some ⟨encS nl,f2,c2⟩,some ⟨encS b,true,true⟩,some (at1 (.str X))] = some (.ret ⟨.tup [encS (mg b [X]),.bool false],true,true⟩):=by
        delta fosBody
        refine seq_if_ret (k:=true) (t:=at1 (.bool true)) (ev_cmp (ev_var rfl) (ev_var rfl) ?_) rfl ?_
        · show acmp .NotIn (.str X) (.dict ks (vs.map encS)) = _
          rw [notIn_dict,look_isSome (by simpa using hl)]; simp [hk]
        · refine seq_ret (ev_tup (rs:=[⟨encS (mg b [X]),true,true⟩,at1 (.bool false)]) (evs_cons (ev_callT (evs_cons (ev_var rfl) (evs_cons (ev_list (evs_cons (ev_var rfl) evs_nil) (newlR_one X)) evs_nil)) ?_) (evs_cons ev_bool evs_nil)) (show 2 ≤ lim by decide))
          exact H.merged b [X] (lt64 lenb (show 1 < 32 by decide))
      rw [this]
      rfl
theorem run_fos (H:Hm Φ) {ks nl U xs:List Str} {vs:List (List Str)} (hl:ks.length = vs.length) (hU:U.length < 32) (hv:∀ l ∈ vs,SN l ∧ ∀ t ∈ l,t ∈ U) (hx:∀ x ∈ xs,x ∈ U) (n:Nat) :
    aexecs Φ n ss_first_of_string (initσ 2 [encS xs,encD ks vs,encS nl]) = some (.ret ⟨.tup [encS (fos ks vs nl [] xs).1,.bool (fos ks vs nl [] xs).2],true,true⟩):=by
  delta ss_first_of_string
  refine seq_set (r:=⟨encS [],true,true⟩) (ev_list evs_nil rfl) rfl ?_
  obtain ⟨r',h⟩:=fos_loop H (p:=some ⟨encS xs,false,true⟩) (q:=⟨encS xs,false,true⟩) (f1:=false) (c1:=true) (f2:=false) (c2:=true) hl hU hv n xs [] Option.none hx SN_nil (by simp) (nl:=nl)
  have hfr:aexec Φ n (.fr 4 (.var 0) fosBody) [some ⟨encS xs,false,true⟩,some ⟨encD ks vs,false,true⟩,some ⟨encS nl,false,true⟩,some ⟨encS [],true,true⟩,Option.none] = afor (aexecs Φ n fosBody) 4 ⟨encS xs,false,true⟩ (xs.map PV.str) [some ⟨encS xs,false,true⟩,some ⟨encD ks vs,false,true⟩,some ⟨encS nl,false,true⟩,some ⟨encS [],true,true⟩,Option.none]:=by
    rfl
  show aexecs Φ n (.fr 4 (.var 0) fosBody :: [.ret (.tup [.var 3,.bool true])]) [some ⟨encS xs,false,true⟩,some ⟨encD ks vs,false,true⟩,some ⟨encS nl,false,true⟩,some ⟨encS [],true,true⟩,Option.none] = _
  show (aexec Φ n (.fr 4 (.var 0) fosBody) _).bind _ = _
  rw [hfr,h]
  cases hb:(fos ks vs nl [] xs).2 with
  | true =>
    simp only [if_true,Option.bind_some]
    exact seq_ret (ev_tup (rs:=[⟨encS _,true,true⟩,at1 (.bool true)]) (evs_cons (ev_var rfl) (evs_cons ev_bool evs_nil)) (show 2 ≤ lim by decide))
  | false=>rfl
end
end Mine
namespace Mine
open PySem L7
noncomputable def FstClosed (g:List Rule) (ks nl:List Str) (F:Str → Str → Prop):Prop:=∀ r ∈ g,∀ t,inFos ks nl F r.2 t → F r.1 t
structure IsFst (g:List Rule) (ks nl:List Str) (vs:List (List Str)):Prop where
  len:ks.length = vs.length
  sn:∀ l ∈ vs,SN l
  closed:FstClosed g ks nl (FF ks vs)
  least:∀ G,FstClosed g ks nl G → ∀ h t,FF ks vs h t → G h t
theorem upd_not {α:Type} {k:Str} {v:α}:∀ {ks:List Str} {vs:List α},ks.length = vs.length → k ∉ ks → upd ks vs k v = vs
  | [],[],_,_=>rfl
  | [],_ :: _,h,_=>by simp at h
  | _ :: _,[],h,_=>by simp at h
  | y :: ks,w :: vs,h,hn=>by
    have e:upd (y :: ks) (w :: vs) k v = (if y = k then v else w) :: upd ks vs k v:=rfl
    rw [e,if_neg (fun q:y = k=>hn (by rw [q]; exact List.mem_cons_self ..)),upd_not (by simpa using h) (fun hm=>hn (List.mem_cons_of_mem _ hm))]
noncomputable def szS (vs:List (List Str)):Nat:=(vs.map List.length).sum
theorem szS_upd {ks:List Str} {vs:List (List Str)} {k:Str} {l v:List Str} (hn:ks.Nodup) (hl:ks.length = vs.length) (h:look ks vs k = some l):szS (upd ks vs k v) + l.length = szS vs + v.length:=by
  induction ks generalizing vs with
  | nil=>cases vs <;> cases h
  | cons x ks ih =>
    cases vs with
    | nil=>cases h
    | cons u vs =>
      have hl':ks.length = vs.length:=by simpa using hl
      rw [List.nodup_cons] at hn
      have e:upd (x :: ks) (u :: vs) k v = (if x = k then v else u) :: upd ks vs k v:=rfl
      have e2:∀ (a:List Str) (b:List (List Str)),szS (a :: b) = a.length + szS b:=fun a b=>by simp [szS]
      rw [e,e2,e2]
      rw [look_cons] at h
      split at h
      · rename_i hx
        cases h
        rw [if_pos hx]
        have:upd ks vs k v = vs:=upd_not hl' (hx ▸ hn.1)
        rw [this]; lia
      · rename_i hx
        rw [if_neg hx]
        have:=ih hn.2 hl' h
        lia
theorem szS_le {vs:List (List Str)} {U:List Str} (h:∀ l ∈ vs,SN l ∧ ∀ t ∈ l,t ∈ U):szS vs ≤ vs.length * U.length:=by
  induction vs with
  | nil=>simp [szS]
  | cons v vs ih =>
    have h1:=h v (List.mem_cons_self ..)
    have h2:=h1.1.1.length_le_of_subset h1.2
    have h3:=ih fun l hl=>h l (List.mem_cons_of_mem _ hl)
    have e2:szS (v :: vs) = v.length + szS vs:=by simp [szS]
    rw [e2,List.length_cons,Nat.succ_mul,Nat.add_comm]
    exact Nat.add_le_add h3 h2
theorem mem_upd {α:Type} {ks:List Str} {vs:List α} {k:Str} {v x:α} (h:x ∈ upd ks vs k v):x = v ∨ x ∈ vs:=by
  delta upd at h
  obtain ⟨p,hp,e⟩:=List.mem_map.mp h
  have:=List.of_mem_zip hp
  split at e
  · exact .inl e.symm
  · exact .inr (e ▸ this.2)
theorem FF_upd {ks:List Str} {vs:List (List Str)} {k h t:Str} {v:List Str} (hl:ks.length = vs.length) (hk:k ∈ ks):FF ks (upd ks vs k v) h t ↔ (h = k ∧ t ∈ v) ∨ (h ≠ k ∧ FF ks vs h t):=by
  delta FF
  rw [look_upd hl hk]
  by_cases e:h = k
  · simp [e]
  · simp [e]
section
variable {Φ:FTab}
structure Hg (Φ:FTab) (g:List Rule) (ks nl U:List Str):Prop extends Hm Φ where
  hks:ks = metS (g.map (·.1))
  heads:Φ "heads_of" [encG g] = some (encS ks,true)
  nul:Φ "nullable_heads" [encG g] = some (encS nl,true)
  isNul:IsNul g nl
  hU:U.length < 32
  body:∀ r ∈ g,∀ x ∈ r.2,x ∈ U
  small:g.length < 64
  dollar:("$":Str) ∈ U
  fos:∀ vs xs,ks.length = vs.length → (∀ l ∈ vs,SN l ∧ ∀ t ∈ l,t ∈ U) → (∀ x ∈ xs,x ∈ U) → Φ "first_of_string" [encS xs,encD ks vs,encS nl] = some (.tup [encS (fos ks vs nl [] xs).1,.bool (fos ks vs nl [] xs).2],true)
variable {g:List Rule} {ks nl U:List Str}
theorem Hg.nd (H:Hg Φ g ks nl U):ks.Nodup:=by rw [H.hks]; exact nodup_metS _
theorem Hg.hd (H:Hg Φ g ks nl U) {r:Rule} (hr:r ∈ g):r.1 ∈ ks:=by rw [H.hks]; exact mem_metS.mpr (List.mem_map_of_mem hr)
theorem Hg.klen (H:Hg Φ g ks nl U):ks.length < 64:=by
  rw [H.hks]
  exact Nat.lt_of_le_of_lt (metS_len _) (by rw [List.length_map]; exact H.small)
theorem encD_rep (ks:List Str):encD ks (ks.map fun zz=>[]) = .dict ks (ks.map fun zz=>.list []):=by
  delta encD; rw [List.map_map]; rfl
theorem put_heads {pre post:List Str} {k:Str} (h:(pre ++ k :: post).Nodup):put pre (pre.map fun zz=>PV.list []) k (.list []) = (pre ++ [k],(pre ++ [k]).map fun zz=>PV.list []):=by
  have:k ∉ pre:=by
    rw [List.nodup_append] at h
    intro hm
    exact h.2.2 k hm k (List.mem_cons_self ..) rfl
  rw [put_new this]; simp
noncomputable def σE (g:List Rule) (nl:List Str) (a b c d e:Option RV):Sig:=[some ⟨encG g,false,true⟩,some ⟨encS nl,true,true⟩,a,b,c,d,e]
noncomputable def fstBody:List SStmt:=[.set 6 (.call "merged" [.idx (.var 2) (.idx (.var 5) (.int 0)),.idx (.call "first_of_string" [.idx (.var 5) (.int 1),.var 2,.var 1]) (.int 0)]),.ife (.cmp .NotEq (.var 6) (.idx (.var 2) (.idx (.var 5) (.int 0)))) [.put 2 (.idx (.var 5) (.int 0)) (.var 6),.set 4 (.bool true)] []]
theorem FF_nil {ks:List Str} {h t:Str}:¬ FF ks (ks.map fun zz=>[]) h t:=by
  rintro ⟨l,h1,h2⟩
  have:=(look_mem h1).2
  obtain ⟨zz,zz,e⟩:=List.mem_map.mp this
  rw [← e] at h2
  cases h2
theorem run_first_sets (H:Hg Φ g ks nl U):∃ vs,IsFst g ks nl vs ∧ (∀ l ∈ vs,∀ t ∈ l,t ∈ U) ∧ ∃ k,aexecs Φ k ss_first_sets (initσ 6 [encG g]) = some (.ret ⟨encD ks vs,true,false⟩):=by
  let I:List (List Str) → Bool → Sig → Prop:=fun vs ch σ=>∃ r1 r2 r3,σ = (σE g nl (some ⟨encD ks vs,true,false⟩) r1 (some (at1 (.bool ch))) r2 r3)
  let Good:List (List Str) → Prop:=fun vs=>ks.length = vs.length ∧ (∀ l ∈ vs,SN l ∧ ∀ t ∈ l,t ∈ U) ∧ ∀ G,FstClosed g ks nl G → ∀ h t,FF ks vs h t → G h t
  have hU:=H.hU
  have key:∀ r1,∃ vs σ' k,Good vs ∧ (∀ r ∈ g,∀ t,inFos ks nl (FF ks vs) r.2 t → FF ks vs r.1 t) ∧ I vs false σ' ∧ aexec Φ k (.whl (.var 4) [.set 4 (.bool false),.fr 5 (.var 0) fstBody]) (σE g nl (some ⟨encD ks (ks.map fun zz=>[]),true,false⟩) r1 (some (at1 (.bool true))) Option.none Option.none) = some (.next σ'):=by
    intro r1
    refine chaos (Φ:=Φ) (V:=List (List Str)) (size:=szS) (Good:=Good) (I:=I) (ks.length * U.length) (fun r vs=>∀ t,inFos ks nl (FF ks vs) r.2 t → FF ks vs r.1 t) encR g (x:=5) (cx:=4) (e:=.var 0) (q:=⟨encG g,false,true⟩) (b:=fstBody)
      (fun vs hg=>by rw [hg.1]; exact szS_le hg.2.1) (by rintro v ch σ ⟨r1,r2,r3,rfl⟩; exact ⟨r1,r2,r3,rfl⟩) (by rintro v ch σ ⟨r1,r2,r3,rfl⟩; rfl) (by rintro v ch σ ⟨r1,r2,r3,rfl⟩; exact ev_var rfl) rfl rfl ?_
      (v:=ks.map fun zz=>[]) (σ:=(σE g nl (some ⟨encD ks (ks.map fun zz=>[]),true,false⟩) r1 (some (at1 (.bool true))) Option.none Option.none))
      ⟨by simp,(fun l hl=>by obtain ⟨zz,zz,e⟩:=List.mem_map.mp hl; rw [← e]; exact ⟨SN_nil,by simp⟩),fun G zz h t hf=>(FF_nil hf).elim⟩ ⟨_,_,_,rfl⟩
    rintro r hr vs ch σ hg ⟨r1,r2,r3,rfl⟩
    have hhd:=H.hd hr
    obtain ⟨l,e⟩:=look_some (Nat.le_of_eq hg.1) hhd
    have hlm:=hg.2.1 l (look_mem e).2
    have lenl:l.length < 32:=Nat.lt_of_le_of_lt (hlm.1.1.length_le_of_subset hlm.2) hU
    let B:=(fos ks vs nl [] r.2).1
    have hB:SN B ∧ ∀ t ∈ B,t ∈ U:=by
      refine ⟨SN_fos _ _ SN_nil,fun t ht=>?_⟩
      rcases (mem_fos hg.1 r.2 [] t).mp ht with h | h
      · cases h
      · have:∀ (xs:List Str),(∀ x ∈ xs,x ∈ U) → inFos ks nl (FF ks vs) xs t → t ∈ U:=by
          intro xs
          induction xs with
          | nil=>intro _ h; exact h.elim
          | cons X xs ih =>
            intro hx h
            rw [inFos_cons] at h
            split at h
            · rcases h with ⟨l',h1,h2⟩ | ⟨zz,h⟩
              · exact (hg.2.1 l' (look_mem h1).2).2 t h2
              · exact ih (fun x hh=>hx x (List.mem_cons_of_mem _ hh)) h
            · rw [h]; exact hx X (List.mem_cons_self ..)
        exact this r.2 (H.body r hr) h
    have lenB:B.length < 32:=Nat.lt_of_le_of_lt (hB.1.1.length_le_of_subset hB.2) hU
    have hset:aeval Φ (.call "merged" [.idx (.var 2) (.idx (.var 5) (.int 0)),.idx (.call "first_of_string" [.idx (.var 5) (.int 1),.var 2,.var 1]) (.int 0)]) (σE g nl (some ⟨encD ks vs,true,false⟩) r1 (some (at1 (.bool ch))) (some ⟨encR r,false,true⟩) r3) = some ⟨encS (mg l B),true,true⟩:=by
      refine ev_callT (evs_cons (ev_idx (ev_var rfl) (ev_idx (ev_var rfl) ev_int rfl) (idx_encD e)) (evs_cons (ev_idx (t:=⟨encS B,true,true⟩) (ev_callT (evs_cons (ev_idx (ev_var rfl) ev_int (idx_encR1 _ _ _)) (evs_cons (ev_var rfl) (evs_cons (ev_var rfl) evs_nil))) (H.fos vs r.2 hg.1 hg.2.1 (H.body r hr))) ev_int rfl) evs_nil)) ?_
      exact H.merged l B (lt64 (Nat.lt_of_le_of_lt (hlm.1.1.length_le_of_subset hlm.2) hU) lenB)
    have htest:aeval Φ (.cmp .NotEq (.var 6) (.idx (.var 2) (.idx (.var 5) (.int 0)))) (σE g nl (some ⟨encD ks vs,true,false⟩) r1 (some (at1 (.bool ch))) (some ⟨encR r,false,true⟩) (some ⟨encS (mg l B),true,true⟩)) = some (at1 (.bool (!decide (mg l B = l)))) :=
      ev_cmp (ev_var rfl) (ev_idx (ev_var rfl) (ev_idx (ev_var rfl) ev_int rfl) (idx_encD e)) (ne_encS _ _)
    rcases mg_grow (b:=B) hlm.1 with ⟨he,hin⟩ | ⟨hne,hgr⟩
    · refine ⟨_,vs,ch,seq_set (r:=⟨encS (mg l B),true,true⟩) hset rfl (seq_if (k:=false) htest (by simp [at1,boolOf,dB_bool,he]) seq_nil seq_nil),⟨_,_,_,rfl⟩,hg,.inl ⟨rfl,rfl,fun t ht=>?_⟩⟩
      exact ⟨l,e,hin t ((mem_fos hg.1 r.2 [] t).mpr (.inr ht))⟩
    · have hsz:=szS_upd (v:=mg l B) H.nd hg.1 e
      refine ⟨_,upd ks vs r.1 (mg l B),true,seq_set (r:=⟨encS (mg l B),true,true⟩) hset rfl (seq_if (k:=true) htest (by simp [at1,boolOf,dB_bool,hne]) ?_ seq_nil),⟨r1,some ⟨encR r,false,true⟩,some ⟨encS (mg l B),true,true⟩,rfl⟩,⟨?_,?_,?_⟩,.inr ⟨lt_upd hgr hsz,rfl⟩⟩
      · refine seq_put (ks:=ks) (ds:=vs.map encS) (r:=⟨encS (mg l B),true,true⟩) (kk:=r.1) rfl (ev_var rfl) (ev_idx (ev_var rfl) ev_int rfl) rfl rfl (by have:=H.klen; delta lim; lia) ?_
        rw [put_mem hhd,upd_map encS]
        exact seq_set (r:=at1 (.bool true)) ev_bool rfl seq_nil
      · rw [upd_length hg.1]
      · intro l' hl'
        rcases mem_upd hl' with rfl | hl'
        · exact ⟨SN_mg _ _,fun t ht=>(mem_mg.mp ht).elim (hlm.2 t) (hB.2 t)⟩
        · exact hg.2.1 l' hl'
      · intro G hG h t hf
        rcases (FF_upd hg.1 hhd).mp hf with ⟨rfl,ht⟩ | ⟨zz,hf⟩
        · rcases mem_mg.mp ht with ht | ht
          · exact hg.2.2 G hG _ t ⟨l,e,ht⟩
          · refine hG r hr t (inFos_mono (hg.2.2 G hG) ?_)
            exact ((mem_fos hg.1 r.2 [] t).mp ht).resolve_left (by simp)
        · exact hg.2.2 G hG h t hf
  have hinit:∃ r1,∀ m o,aexecs Φ m [.set 4 (.bool true),.whl (.var 4) [.set 4 (.bool false),.fr 5 (.var 0) fstBody],.ret (.var 2)] (σE g nl (some ⟨encD ks (ks.map fun zz=>[]),true,false⟩) r1 Option.none Option.none Option.none) = some o → aexecs Φ m ss_first_sets (initσ 6 [encG g]) = some o:=by
    let J:List Str → Sig → Prop:=fun pre σ=>∃ r1,σ = (σE g nl (some ⟨.dict pre (pre.map fun zz=>.list []),true,false⟩) r1 Option.none Option.none Option.none)
    have hb:∀ pre a post σ,ks = pre ++ a :: post → J pre σ → ∃ σ',aexecs Φ 0 [.put 2 (.var 3) (.list [])] (σ.set 3 (some (part ⟨encS ks,true,true⟩ (.str a)))) = some (.next σ') ∧ J (pre ++ [a]) σ':=by
      rintro pre a post σ he ⟨r1,rfl⟩
      refine ⟨_,?_,some (at1 (.str a)),rfl⟩
      refine seq_put (r:=⟨.list [],true,true⟩) (kk:=a) (q:=at1 (.str a)) rfl (ev_list evs_nil rfl) (ev_var rfl) rfl rfl ?_ ?_
      · have:=pre_len he; have:=H.klen; delta lim; lia
      · rw [put_heads (by rw [← he]; exact H.nd)]; exact seq_nil
    obtain ⟨σ',h1,r1,rfl⟩:=afor_pre (body:=aexecs Φ 0 [.put 2 (.var 3) (.list [])]) (x:=3) (q:=⟨encS ks,true,true⟩) PV.str ks J hb (σE g nl (some ⟨.dict [] [],true,false⟩) Option.none Option.none Option.none Option.none) ⟨_,rfl⟩
    refine ⟨r1,fun m o ho=>?_⟩
    delta ss_first_sets
    refine seq_set (r:=⟨encS nl,true,true⟩) (ev_callT (evs_cons (ev_var rfl) evs_nil) H.nul) rfl (seq_ownd (seq (σ':=(σE g nl (some ⟨encD ks (ks.map fun zz=>[]),true,false⟩) r1 Option.none Option.none Option.none)) ?_ ho))
    rw [encD_rep]
    exact bind_to (ev_callT (rs:=[⟨encG g,false,true⟩]) (evs_cons (ev_var rfl) evs_nil) H.heads) (afor_mono (fun σ o h=>aexecs_mono Φ (Nat.zero_le m) _ σ o h) _ _ _ _ _ h1)
  obtain ⟨r1,hinit⟩:=hinit
  obtain ⟨vs,σ',k,hg,hcl,⟨r1',r2,r3,rfl⟩,hx⟩:=key r1
  refine ⟨vs,⟨hg.1,fun l hl=>(hg.2.1 l hl).1,hcl,hg.2.2⟩,fun l hl=>(hg.2.1 l hl).2,?_⟩
  obtain ⟨m,hm⟩:=seq_k hx ⟨0,seq_ret (ts:=[]) (e:=.var 2) (ev_var rfl)⟩
  exact ⟨m,hinit m _ (seq_set (r:=at1 (.bool true)) ev_bool rfl hm)⟩
end
end Mine
namespace Mine
open PySem L7
noncomputable def FolClosed (g:List Rule) (ks nl:List Str) (F:Str → Str → Prop) (h0:Str) (W:Str → Str → Prop):Prop :=
  W h0 "$" ∧ ∀ r ∈ g,∀ i X,r.2[i]? = some X → X ∈ ks → (∀ t,inFos ks nl F (r.2.drop (i + 1)) t → W X t) ∧ (vanF ks nl (r.2.drop (i + 1)) → ∀ t,W r.1 t → W X t)
structure IsFol (g:List Rule) (ks nl:List Str) (F:Str → Str → Prop) (h0:Str) (ws:List (List Str)):Prop where
  len:ks.length = ws.length
  sn:∀ l ∈ ws,SN l
  closed:FolClosed g ks nl F h0 (FF ks ws)
  least:∀ G,FolClosed g ks nl F h0 G → ∀ h t,FF ks ws h t → G h t
theorem upFrom_range (n:Nat):upFrom 0 n = (List.range n).map fun i:Nat=>PV.int i:=by
  have:∀ (n:Nat) (a:Nat),upFrom a n = (List.range' a n).map fun i:Nat=>PV.int i:=by
    intro n
    induction n with
    | zero=>intro a; rfl
    | succ n ih=>intro a; rw [upFrom_succ,List.range'_succ,List.map_cons]; congr 1; exact ih (a + 1)
  rw [List.range_eq_range']
  exact this n 0
theorem aiter_range (n:Nat):aiter (.rng 0 n 1) = some ((List.range n).map fun i:Nat=>PV.int i):=by
  have:aiter (.rng 0 n 1) = some (upFrom 0 ((n:Int) - 0).toNat):=by delta aiter; simp
  rw [this,show ((n:Int) - 0).toNat = n by rw [Int.sub_zero]; rfl,upFrom_range]
theorem idx_list {ds:List PV} {i:Nat} {d:PV} {f c:Bool} (h:ds[i]? = some d):aidx ⟨.list ds,f,c⟩ (.int i) = some (part ⟨.list ds,f,c⟩ d) :=
  Eq.trans (show aidx ⟨.list ds,f,c⟩ (.int i) = (if 0 ≤ (i:Int) then (ds[i]?).map (part ⟨.list ds,f,c⟩) else if -(ds.length:Int) ≤ (i:Int) then (ds[((i:Int) + (ds.length:Int)).toNat]?).map (part ⟨.list ds,f,c⟩) else Option.none) from rfl) ((if_pos (nn i)).trans (congrArg (Option.map (part ⟨.list ds,f,c⟩)) h))
theorem idx_encS {xs:List Str} {i:Nat} {X:Str} {f c:Bool} (h:xs[i]? = some X):aidx ⟨encS xs,f,c⟩ (.int i) = some (at1 (.str X)):=by
  exact idx_list (d:=.str X) (by rw [List.getElem?_map,h]; rfl)
section
variable {Φ:FTab} {σ:Sig} {a i:SExpr}
theorem ev_sfrom {xs:List Str} {f c f' c':Bool} {k:Nat} (h1:aeval Φ a σ = some ⟨encS xs,f,c⟩) (h2:aeval Φ i σ = some ⟨.int k,f',c'⟩) (hl:xs.length ≤ lim):aeval Φ (.sfrom a i) σ = some ⟨encS (xs.drop k),true,true⟩:=by
  refine bind_to h1 (bind_to h2 ?_)
  show (if 0 ≤ (k:Int) then newl f c ((xs.map PV.str).drop (k:Int).toNat) else Option.none) = _
  rw [if_pos (nn k),Int.toNat_natCast,← List.map_drop,newl_str _ _ _ (by rw [List.length_drop]; exact Nat.le_trans (Nat.sub_le _ _) hl)]
theorem ev_supto {xs:List Str} {f c f' c':Bool} {k:Nat} (h1:aeval Φ a σ = some ⟨encS xs,f,c⟩) (h2:aeval Φ i σ = some ⟨.int k,f',c'⟩) (hl:xs.length ≤ lim):aeval Φ (.supto a i) σ = some ⟨encS (xs.take k),true,true⟩:=by
  refine bind_to h1 (bind_to h2 ?_)
  show (if 0 ≤ (k:Int) then newl f c ((xs.map PV.str).take (k:Int).toNat) else Option.none) = _
  rw [if_pos (nn k),Int.toNat_natCast,← List.map_take,newl_str _ _ _ (by rw [List.length_take]; exact Nat.le_trans (Nat.min_le_right _ _) hl)]
end
noncomputable def σF (g:List Rule) (nl ks:List Str) (vs:List (List Str)) (a3 a4 a5 a6 a7 a8 a9 a10 a11:Option RV):Sig:=[some ⟨encG g,false,true⟩,some ⟨encS nl,true,true⟩,some ⟨encD ks vs,true,true⟩,a3,a4,a5,a6,a7,a8,a9,a10,a11]
section
variable {Φ:FTab}
structure Hf (Φ:FTab) (g:List Rule) (ks nl U:List Str) (vs:List (List Str)):Prop extends Hg Φ g ks nl U where
  first:Φ "first_sets" [encG g] = some (encD ks vs,true)
  isFst:IsFst g ks nl vs
  vU:∀ l ∈ vs,∀ t ∈ l,t ∈ U
  blen:∀ r ∈ g,r.2.length ≤ lim
variable {g:List Rule} {ks nl U:List Str} {vs:List (List Str)}
theorem Hf.vSN (H:Hf Φ g ks nl U vs):∀ l ∈ vs,SN l ∧ ∀ t ∈ l,t ∈ U:=fun l hl=>⟨H.isFst.sn l hl,H.vU l hl⟩
theorem Hf.fosU (H:Hf Φ g ks nl U vs) {xs:List Str} (hx:∀ x ∈ xs,x ∈ U) {t:Str} (ht:t ∈ (fos ks vs nl [] xs).1):t ∈ U:=by
  rcases (mem_fos H.isFst.len xs [] t).mp ht with h | h
  · cases h
  · clear ht
    induction xs with
    | nil=>exact h.elim
    | cons X xs ih =>
      rw [inFos_cons] at h
      split at h
      · rcases h with ⟨l',h1,h2⟩ | ⟨zz,h⟩
        · exact H.vU l' (look_mem h1).2 t h2
        · exact ih (fun x hh=>hx x (List.mem_cons_of_mem _ hh)) h
      · rw [h]; exact hx X (List.mem_cons_self ..)
theorem lenU {U l:List Str} (hU:U.length < 32) (h:SN l ∧ ∀ t ∈ l,t ∈ U):l.length < 32:=Nat.lt_of_le_of_lt (h.1.1.length_le_of_subset h.2) hU
noncomputable def folIn:List SStmt:=[.set 8 (.idx (.idx (.var 6) (.int 1)) (.var 7)),.ife (.cmp .In (.var 8) (.var 3)) [.unpk 9 10 (.call "first_of_string" [.sfrom (.idx (.var 6) (.int 1)) (.bin .Add (.var 7) (.int 1)),.var 2,.var 1]),.set 11 (.call "merged" [.idx (.var 3) (.var 8),.var 9]),.ife (.var 10) [.set 11 (.call "merged" [.var 11,.idx (.var 3) (.idx (.var 6) (.int 0))])] [],.ife (.cmp .NotEq (.var 11) (.idx (.var 3) (.var 8))) [.put 3 (.var 8) (.var 11),.set 5 (.bool true)] []] []]
noncomputable def folBody:List SStmt:=[.fr 7 (.range (.len (.idx (.var 6) (.int 1)))) folIn]
theorem run_follow_sets (H:Hf Φ g ks nl U vs) {h0:Str} {b0:List Str} {gs:List Rule} (hg0:g = (h0,b0) :: gs):∃ ws,IsFol g ks nl (FF ks vs) h0 ws ∧ (∀ l ∈ ws,∀ t ∈ l,t ∈ U) ∧ ∃ k,aexecs Φ k ss_follow_sets (initσ 11 [encG g]) = some (.ret ⟨encD ks ws,true,false⟩):=by
  let Io:List (List Str) → Bool → Sig → Prop:=fun ws ch σ=>∃ r4 r6 r7 r8 r9 r10 r11,σ = (σF g nl ks vs (some ⟨encD ks ws,true,false⟩) r4 (some (at1 (.bool ch))) r6 r7 r8 r9 r10 r11)
  let Good:List (List Str) → Prop:=fun ws=>ks.length = ws.length ∧ (∀ l ∈ ws,SN l ∧ ∀ t ∈ l,t ∈ U) ∧ FF ks ws h0 "$" ∧ ∀ G,FolClosed g ks nl (FF ks vs) h0 G → ∀ h t,FF ks ws h t → G h t
  let Cl:Rule → List (List Str) → Prop:=fun r ws=>∀ i ∈ List.range r.2.length,∀ X,r.2[i]? = some X → X ∈ ks → (∀ t,inFos ks nl (FF ks vs) (r.2.drop (i + 1)) t → FF ks ws X t) ∧ (vanF ks nl (r.2.drop (i + 1)) → ∀ t,FF ks ws r.1 t → FF ks ws X t)
  have hU:=H.hU
  have hh0:h0 ∈ ks:=H.hd (r:=(h0,b0)) (by rw [hg0]; exact List.mem_cons_self ..)
  let ws0:List (List Str):=upd ks (ks.map fun zz=>[]) h0 ["$"]
  have hws0:Good ws0:=by
    have l0:ks.length = (ks.map fun zz=>([]:List Str)).length:=by simp
    refine ⟨by rw [upd_length l0],fun l hl=>?_,(FF_upd l0 hh0).mpr (.inl ⟨rfl,by simp⟩),fun G hG h t hf=>?_⟩
    · rcases mem_upd hl with rfl | hl
      · exact ⟨SN_one _,fun t ht=>by rw [List.mem_singleton.mp ht]; exact H.dollar⟩
      · obtain ⟨zz,zz,e⟩:=List.mem_map.mp hl
        rw [← e]; exact ⟨SN_nil,by simp⟩
    · rcases (FF_upd l0 hh0).mp hf with ⟨rfl,ht⟩ | ⟨zz,hf⟩
      · rw [List.mem_singleton.mp ht]; exact hG.1
      · exact (FF_nil hf).elim
  have key:∀ r4,∃ ws σ' k,Good ws ∧ (∀ r ∈ g,Cl r ws) ∧ Io ws false σ' ∧ aexec Φ k (.whl (.var 5) [.set 5 (.bool false),.fr 6 (.var 0) folBody]) (σF g nl ks vs (some ⟨encD ks ws0,true,false⟩) r4 (some (at1 (.bool true))) Option.none Option.none Option.none Option.none Option.none Option.none) = some (.next σ'):=by
    intro r4
    refine chaos (Φ:=Φ) (V:=List (List Str)) (size:=szS) (Good:=Good) (I:=Io) (ks.length * U.length) Cl encR g (x:=6) (cx:=5) (e:=.var 0) (q:=⟨encG g,false,true⟩) (b:=folBody)
      (fun vs hg=>by rw [hg.1]; exact szS_le hg.2.1) (by rintro v ch σ ⟨r4,r6,r7,r8,r9,r10,r11,rfl⟩; exact ⟨r4,r6,r7,r8,r9,r10,r11,rfl⟩) (by rintro v ch σ ⟨r4,r6,r7,r8,r9,r10,r11,rfl⟩; rfl) (by rintro v ch σ ⟨r4,r6,r7,r8,r9,r10,r11,rfl⟩; exact ev_var rfl) rfl rfl ?_
      (v:=ws0) hws0 ⟨_,_,_,_,_,_,_,rfl⟩
    rintro r hr ws ch σ hg ⟨r4,r6,r7,r8,r9,r10,r11,rfl⟩
    let Ii:List (List Str) → Bool → Sig → Prop:=fun ws ch σ=>∃ r7 r8 r9 r10 r11,σ = (σF g nl ks vs (some ⟨encD ks ws,true,false⟩) r4 (some (at1 (.bool ch))) (some ⟨encR r,false,true⟩) r7 r8 r9 r10 r11)
    obtain ⟨σ',ws',ch',h1,⟨r7',r8',r9',r10',r11',rfl⟩,h3,h4⟩:=pass (Φ:=Φ) (V:=List (List Str)) (size:=szS) (Good:=Good) (I:=Ii) (fun i ws=>∀ X,r.2[i]? = some X → X ∈ ks → (∀ t,inFos ks nl (FF ks vs) (r.2.drop (i + 1)) t → FF ks ws X t) ∧ (vanF ks nl (r.2.drop (i + 1)) → ∀ t,FF ks ws r.1 t → FF ks ws X t)) (fun i:Nat=>PV.int i) (List.range r.2.length) (b:=folIn) (x:=7) (e:=.range (.len (.idx (.var 6) (.int 1)))) (q:=⟨.rng 0 r.2.length 1,true,true⟩) (by
      rintro i hi ws ch σ hg ⟨r7,r8,r9,r10,r11,rfl⟩
      rw [List.mem_range] at hi
      have hX:r.2[i]? = some r.2[i]:=List.getElem?_eq_getElem hi
      generalize r.2[i] = X at hX
      have pre:∀ o,aexecs Φ 0 [.ife (.cmp .In (.var 8) (.var 3)) [.unpk 9 10 (.call "first_of_string" [.sfrom (.idx (.var 6) (.int 1)) (.bin .Add (.var 7) (.int 1)),.var 2,.var 1]),.set 11 (.call "merged" [.idx (.var 3) (.var 8),.var 9]),.ife (.var 10) [.set 11 (.call "merged" [.var 11,.idx (.var 3) (.idx (.var 6) (.int 0))])] [],.ife (.cmp .NotEq (.var 11) (.idx (.var 3) (.var 8))) [.put 3 (.var 8) (.var 11),.set 5 (.bool true)] []] []] (σF g nl ks vs (some ⟨encD ks ws,true,false⟩) r4 (some (at1 (.bool ch))) (some ⟨encR r,false,true⟩) (some (at1 (.int i))) (some (at1 (.str X))) r9 r10 r11) = some o → aexecs Φ 0 folIn (σF g nl ks vs (some ⟨encD ks ws,true,false⟩) r4 (some (at1 (.bool ch))) (some ⟨encR r,false,true⟩) (some (at1 (.int i))) r8 r9 r10 r11) = some o:=fun o ho =>
        seq_set (r:=at1 (.str X)) (ev_idx (ev_idx (ev_var rfl) ev_int (idx_encR1 _ _ _)) (ev_var rfl) (idx_encS hX)) rfl ho
      have hin:aeval Φ (.cmp .In (.var 8) (.var 3)) (σF g nl ks vs (some ⟨encD ks ws,true,false⟩) r4 (some (at1 (.bool ch))) (some ⟨encR r,false,true⟩) (some (at1 (.int i))) (some (at1 (.str X))) r9 r10 r11) = some (at1 (.bool (decide (X ∈ ks)))):=by
        refine ev_cmp (ev_var rfl) (ev_var rfl) ?_
        show acmp .In (.str X) (.dict ks (ws.map encS)) = _
        rw [in_dict,look_isSome (by simpa using hg.1)]
      by_cases hk:X ∈ ks
      · obtain ⟨l,e⟩:=look_some (Nat.le_of_eq hg.1) hk
        obtain ⟨l0,e0⟩:=look_some (Nat.le_of_eq hg.1) (H.hd hr)
        have hlm:=hg.2.1 l (look_mem e).2
        have hlm0:=hg.2.1 l0 (look_mem e0).2
        have hrest:∀ x ∈ r.2.drop (i + 1),x ∈ U:=fun x hx=>H.body r hr x (List.mem_of_mem_drop hx)
        let B:=fos ks vs nl [] (r.2.drop (i + 1))
        have hB:SN B.1 ∧ ∀ t ∈ B.1,t ∈ U:=⟨SN_fos _ _ SN_nil,fun t ht=>H.fosU hrest ht⟩
        have l1:=lenU hU hlm
        have l2:=lenU hU hlm0
        have l3:=lenU hU hB
        have hM:SN (mg l B.1) ∧ ∀ t ∈ mg l B.1,t ∈ U:=⟨SN_mg _ _,fun t ht=>(mem_mg.mp ht).elim (hlm.2 t) (hB.2 t)⟩
        have l4:=lenU hU hM
        let N:=if B.2 then mg (mg l B.1) l0 else mg l B.1
        have hN:SN N ∧ ∀ t ∈ N,t ∈ U:=by
          show SN (if B.2 then mg (mg l B.1) l0 else mg l B.1) ∧ ∀ t ∈ (if B.2 then mg (mg l B.1) l0 else mg l B.1),t ∈ U
          split
          · exact ⟨SN_mg _ _,fun t ht=>(mem_mg.mp ht).elim (hM.2 t) (hlm0.2 t)⟩
          · exact hM
        have memN:∀ t,t ∈ N ↔ t ∈ l ∨ inFos ks nl (FF ks vs) (r.2.drop (i + 1)) t ∨ (vanF ks nl (r.2.drop (i + 1)) ∧ t ∈ l0):=by
          intro t
          have hb1:t ∈ B.1 ↔ inFos ks nl (FF ks vs) (r.2.drop (i + 1)) t:=by
            rw [mem_fos H.isFst.len]; simp
          have hb2:B.2 = true ↔ vanF ks nl (r.2.drop (i + 1)):=van_fos H.isFst.len _ _
          show t ∈ (if B.2 then mg (mg l B.1) l0 else mg l B.1) ↔ _
          cases hB2:B.2 with
          | true=>rw [if_pos rfl,mem_mg,mem_mg,hb1,or_assoc]; simp [hb2.mp hB2]
          | false =>
            have:¬ vanF ks nl (r.2.drop (i + 1)):=fun h=>by rw [hb2.mpr h] at hB2; cases hB2
            simp [mem_mg,hb1,this]
        have mid:∀ o,aexecs Φ 0 [.ife (.cmp .NotEq (.var 11) (.idx (.var 3) (.var 8))) [.put 3 (.var 8) (.var 11),.set 5 (.bool true)] []] (σF g nl ks vs (some ⟨encD ks ws,true,false⟩) r4 (some (at1 (.bool ch))) (some ⟨encR r,false,true⟩) (some (at1 (.int i))) (some (at1 (.str X))) (some ⟨encS B.1,true,true⟩) (some (at1 (.bool B.2))) (some ⟨encS N,true,true⟩)) = some (.next o) → aexecs Φ 0 folIn (σF g nl ks vs (some ⟨encD ks ws,true,false⟩) r4 (some (at1 (.bool ch))) (some ⟨encR r,false,true⟩) (some (at1 (.int i))) r8 r9 r10 r11) = some (.next o):=by
          intro o ho
          refine pre _ (seq_if (k:=true) hin (by simp [hk,at1,boolOf,dB_bool]) ?_ seq_nil)
          refine seq_unpk (d:=encS B.1) (d':=.bool B.2) (f:=true) (ev_callT (evs_cons (ev_sfrom (k:=i + 1) (f':=true) (c':=true) (ev_idx (ev_var rfl) ev_int (idx_encR1 _ _ _)) (ev_bin (ev_var rfl) ev_int rfl) (H.blen r hr)) (evs_cons (ev_var rfl) (evs_cons (ev_var rfl) evs_nil))) (H.fos vs _ H.isFst.len H.vSN hrest)) ?_
          refine seq_set (r:=⟨encS (mg l B.1),true,true⟩) (ev_callT (evs_cons (ev_idx (ev_var rfl) (ev_var rfl) (idx_encD e)) (evs_cons (ev_var rfl) evs_nil)) (H.merged l B.1 (by lia))) rfl ?_
          refine seq_if (k:=B.2) (t:=at1 (.bool B.2)) (ev_var rfl) rfl ?_ ho
          cases hB2:B.2 with
          | true =>
            refine seq_set (r:=⟨encS (mg (mg l B.1) l0),true,true⟩) (ev_callT (evs_cons (ev_var rfl) (evs_cons (ev_idx (ev_var rfl) (ev_idx (ev_var rfl) ev_int rfl) (idx_encD e0)) evs_nil)) (H.merged _ l0 (by lia))) rfl ?_
            rw [seq_nil]
            have:N = mg (mg l B.1) l0:=if_pos hB2
            rw [this]; rfl
          | false =>
            have:N = mg l B.1:=if_neg (by rw [hB2]; simp)
            rw [this]; exact seq_nil
        have htest:aeval Φ (.cmp .NotEq (.var 11) (.idx (.var 3) (.var 8))) (σF g nl ks vs (some ⟨encD ks ws,true,false⟩) r4 (some (at1 (.bool ch))) (some ⟨encR r,false,true⟩) (some (at1 (.int i))) (some (at1 (.str X))) (some ⟨encS B.1,true,true⟩) (some (at1 (.bool B.2))) (some ⟨encS N,true,true⟩)) = some (at1 (.bool (!decide (N = l)))) :=
          ev_cmp (ev_var rfl) (ev_idx (ev_var rfl) (ev_var rfl) (idx_encD e)) (ne_encS _ _)
        by_cases he:N = l
        · refine ⟨_,ws,ch,mid _ (seq_if (k:=false) htest (by simp [at1,boolOf,dB_bool,he]) seq_nil seq_nil),⟨_,_,_,_,_,rfl⟩,hg,.inl ⟨rfl,rfl,fun X' hX' hk'=>?_⟩⟩
          rw [hX] at hX'
          cases hX'
          refine ⟨fun t ht=>⟨l,e,?_⟩,fun hv t ht=>⟨l,e,?_⟩⟩
          · rw [← he]; exact (memN t).mpr (.inr (.inl ht))
          · obtain ⟨l',e',ht'⟩:=ht
            rw [e0] at e'
            cases e'
            rw [← he]; exact (memN t).mpr (.inr (.inr ⟨hv,ht'⟩))
        · have hsub:∀ t ∈ l,t ∈ N:=fun t ht=>(memN t).mpr (.inl ht)
          have hlt:l.length < N.length:=by
            have:∃ x,x ∈ N ∧ x ∉ l:=Classical.byContradiction fun hn=>he (hN.1.ext hlm.1 fun x=>⟨fun hx=>Classical.byContradiction fun hxl=>hn ⟨x,hx,hxl⟩,hsub x⟩)
            obtain ⟨x,hx,hxl⟩:=this
            have hnd:(x :: l).Nodup:=List.nodup_cons.mpr ⟨hxl,hlm.1.1⟩
            have:=hnd.length_le_of_subset (l₂:=N) fun y hy=>by
              rcases List.mem_cons.mp hy with rfl | hy
              · exact hx
              · exact hsub y hy
            exact this
          have hsz:=szS_upd (v:=N) H.nd hg.1 e
          refine ⟨_,upd ks ws X N,true,mid _ (seq_if (k:=true) htest (by simp [at1,boolOf,dB_bool,he]) ?_ seq_nil),⟨some (at1 (.int i)),some (at1 (.str X)),some ⟨encS B.1,true,true⟩,some (at1 (.bool B.2)),some ⟨encS N,true,true⟩,rfl⟩,⟨?_,?_,?_,?_⟩,.inr ⟨lt_upd hlt hsz,rfl⟩⟩
          · refine seq_put (ks:=ks) (ds:=ws.map encS) (r:=⟨encS N,true,true⟩) (kk:=X) rfl (ev_var rfl) (ev_var rfl) rfl rfl (by have:=H.klen; delta lim; lia) ?_
            rw [put_mem hk,upd_map encS]
            exact seq_set (r:=at1 (.bool true)) ev_bool rfl seq_nil
          · rw [upd_length hg.1]
          · intro l' hl'
            rcases mem_upd hl' with rfl | hl'
            · exact hN
            · exact hg.2.1 l' hl'
          · obtain ⟨l',e',h'⟩:=hg.2.2.1
            refine (FF_upd hg.1 hk).mpr ?_
            by_cases hx:h0 = X
            · refine .inl ⟨hx,?_⟩
              subst hx
              rw [e] at e'; cases e'
              exact hsub _ h'
            · exact .inr ⟨hx,l',e',h'⟩
          · intro G hG h t hf
            rcases (FF_upd hg.1 hk).mp hf with ⟨rfl,ht⟩ | ⟨zz,hf⟩
            · have hGc:=hG.2 r hr i h hX hk
              rcases (memN t).mp ht with ht | ht | ⟨hv,ht⟩
              · exact hg.2.2.2 G hG _ t ⟨l,e,ht⟩
              · exact hGc.1 t ht
              · exact hGc.2 hv t (hg.2.2.2 G hG _ t ⟨l0,e0,ht⟩)
            · exact hg.2.2.2 G hG h t hf
      · refine ⟨_,ws,ch,pre _ (seq_if (k:=false) hin (by simp [hk,at1,boolOf,dB_bool]) seq_nil seq_nil),⟨_,_,_,_,_,rfl⟩,hg,.inl ⟨rfl,rfl,fun X' hX' hk'=>?_⟩⟩
        rw [hX] at hX'
        cases hX'
        exact absurd hk' hk)
      (v:=ws) (ch:=ch) (σ:=(σF g nl ks vs (some ⟨encD ks ws,true,false⟩) r4 (some (at1 (.bool ch))) (some ⟨encR r,false,true⟩) r7 r8 r9 r10 r11)) hg ⟨_,_,_,_,_,rfl⟩ (ev_range (ev_len (ev_idx (ev_var rfl) ev_int (idx_encR1 _ _ _)) (by show some (r.2.map PV.str).length = _; rw [List.length_map])) (H.blen r hr)) (aiter_range _) rfl
    exact ⟨_,ws',ch',seq h1 seq_nil,⟨_,_,_,_,_,_,_,rfl⟩,h3,h4⟩
  have hinit:∃ r1,∀ m o,aexecs Φ m [.put 3 (.idx (.idx (.var 0) (.int 0)) (.int 0)) (.list [.str "$"]),.set 5 (.bool true),.whl (.var 5) [.set 5 (.bool false),.fr 6 (.var 0) folBody],.ret (.var 3)] (σF g nl ks vs (some ⟨encD ks (ks.map fun zz=>[]),true,false⟩) r1 Option.none Option.none Option.none Option.none Option.none Option.none Option.none) = some o → aexecs Φ m ss_follow_sets (initσ 11 [encG g]) = some o:=by
    let J:List Str → Sig → Prop:=fun pre σ=>∃ r1,σ = (σF g nl ks vs (some ⟨.dict pre (pre.map fun zz=>.list []),true,false⟩) r1 Option.none Option.none Option.none Option.none Option.none Option.none Option.none)
    have hb:∀ pre a post σ,ks = pre ++ a :: post → J pre σ → ∃ σ',aexecs Φ 0 [.put 3 (.var 4) (.list [])] (σ.set 4 (some (part ⟨encS ks,true,true⟩ (.str a)))) = some (.next σ') ∧ J (pre ++ [a]) σ':=by
      rintro pre a post σ he ⟨r1,rfl⟩
      refine ⟨_,?_,some (at1 (.str a)),rfl⟩
      refine seq_put (r:=⟨.list [],true,true⟩) (kk:=a) (q:=at1 (.str a)) rfl (ev_list evs_nil rfl) (ev_var rfl) rfl rfl ?_ ?_
      · have:=pre_len he; have:=H.klen; delta lim; lia
      · rw [put_heads (by rw [← he]; exact H.nd)]; exact seq_nil
    obtain ⟨σ',h1,r1,rfl⟩:=afor_pre (body:=aexecs Φ 0 [.put 3 (.var 4) (.list [])]) (x:=4) (q:=⟨encS ks,true,true⟩) PV.str ks J hb (σF g nl ks vs (some ⟨.dict [] [],true,false⟩) Option.none Option.none Option.none Option.none Option.none Option.none Option.none Option.none) ⟨_,rfl⟩
    refine ⟨r1,fun m o ho=>?_⟩
    delta ss_follow_sets
    refine seq_set (r:=⟨encS nl,true,true⟩) (ev_callT (evs_cons (ev_var rfl) evs_nil) H.nul) rfl (seq_set (r:=⟨encD ks vs,true,true⟩) (ev_callT (evs_cons (ev_var rfl) evs_nil) H.first) rfl (seq_ownd (seq (σ':=(σF g nl ks vs (some ⟨encD ks (ks.map fun zz=>[]),true,false⟩) r1 Option.none Option.none Option.none Option.none Option.none Option.none Option.none)) ?_ ho)))
    rw [encD_rep]
    exact bind_to (ev_callT (rs:=[⟨encG g,false,true⟩]) (evs_cons (ev_var rfl) evs_nil) H.heads) (afor_mono (fun σ o h=>aexecs_mono Φ (Nat.zero_le m) _ σ o h) _ _ _ _ _ h1)
  obtain ⟨r1,hinit⟩:=hinit
  obtain ⟨ws,σ',k,hg,hcl,⟨r4,r6,r7,r8,r9,r10,r11,rfl⟩,hx⟩:=key r1
  refine ⟨ws,⟨hg.1,fun l hl=>(hg.2.1 l hl).1,⟨hg.2.2.1,fun r hr i X hX hk=>hcl r hr i (List.mem_range.mpr ?_) X hX hk⟩,hg.2.2.2⟩,fun l hl=>(hg.2.1 l hl).2,?_⟩
  · rcases Nat.lt_or_ge i r.2.length with h | h
    · exact h
    · rw [List.getElem?_eq_none h] at hX; cases hX
  · obtain ⟨m,hm⟩:=seq_k hx ⟨0,seq_ret (ts:=[]) (e:=.var 3) (ev_var rfl)⟩
    refine ⟨m,hinit m _ (seq_put (ks:=ks) (ds:=(ks.map fun zz=>[]).map encS) (r:=⟨encS ["$"],true,true⟩) (kk:=h0) (q:=at1 (.str h0)) rfl (ev_list (evs_cons ev_str evs_nil) rfl) (ev_idx (r:=⟨encR (h0,b0),false,true⟩) (ev_idx (ev_var rfl) ev_int (by rw [hg0]; rfl)) ev_int rfl) rfl rfl (by have:=H.klen; delta lim; lia) ?_)⟩
    rw [put_mem hh0,upd_map encS]
    exact seq_set (r:=at1 (.bool true)) ev_bool rfl hm
end
end Mine
namespace Mine
open PySem L7
section
variable {Φ:FTab}
structure Hw (Φ:FTab) (g:List Rule) (ks nl U:List Str) (vs:List (List Str)) (h0:Str) (ws:List (List Str)):Prop extends Hf Φ g ks nl U vs where
  follow:Φ "follow_sets" [encG g] = some (encD ks ws,true)
  isFol:IsFol g ks nl (FF ks vs) h0 ws
  wU:∀ l ∈ ws,∀ t ∈ l,t ∈ U
variable {g:List Rule} {ks nl U:List Str} {vs ws:List (List Str)} {h0:Str}
noncomputable def pred (ks nl:List Str) (vs ws:List (List Str)) (r:Rule):List Str :=
  if (fos ks vs nl [] r.2).2 then mg (fos ks vs nl [] r.2).1 ((look ks ws r.1).getD []) else (fos ks vs nl [] r.2).1
theorem pred_SN (r:Rule):SN (pred ks nl vs ws r):=by
  delta pred; split
  · exact SN_mg _ _
  · exact SN_fos _ _ SN_nil
theorem mem_pred (hv:ks.length = vs.length) (hw:ks.length = ws.length) {r:Rule} (hr:r.1 ∈ ks) {t:Str}:t ∈ pred ks nl vs ws r ↔ inFos ks nl (FF ks vs) r.2 t ∨ (vanF ks nl r.2 ∧ FF ks ws r.1 t):=by
  have h1:∀ t,t ∈ (fos ks vs nl [] r.2).1 ↔ inFos ks nl (FF ks vs) r.2 t:=fun t=>by rw [mem_fos hv]; simp
  have h2:(fos ks vs nl [] r.2).2 = true ↔ vanF ks nl r.2:=van_fos hv _ _
  obtain ⟨l,e⟩:=look_some (Nat.le_of_eq hw) hr
  have h3:FF ks ws r.1 t ↔ t ∈ l:=by delta FF; rw [e]; simp
  delta pred
  rw [e,h3]
  cases hb:(fos ks vs nl [] r.2).2 with
  | true=>rw [if_pos rfl,mem_mg,h1]; simp [h2.mp hb]
  | false =>
    have:¬ vanF ks nl r.2:=fun h=>by rw [h2.mpr h] at hb; cases hb
    simp [h1,this]
theorem run_predict_sets (H:Hw Φ g ks nl U vs h0 ws) (n:Nat):aexecs Φ n ss_predict_sets (initσ 7 [encG g]) = some (.ret ⟨.list (g.map fun r=>encS (pred ks nl vs ws r)),true,false⟩):=by
  delta ss_predict_sets
  have hU:=H.hU
  refine seq_set (r:=⟨encS nl,true,true⟩) (ev_callT (evs_cons (ev_var rfl) evs_nil) H.nul) rfl (seq_set (r:=⟨encD ks vs,true,true⟩) (ev_callT (evs_cons (ev_var rfl) evs_nil) H.first) rfl (seq_set (r:=⟨encD ks ws,true,true⟩) (ev_callT (evs_cons (ev_var rfl) evs_nil) H.follow) rfl (seq_ownl0 ?_)))
  refine seq_fr (A:=Rule) encR g (q:=⟨encG g,false,true⟩) (fun pre σ=>∃ r5 r6 r7,σ = [some ⟨encG g,false,true⟩,some ⟨encS nl,true,true⟩,some ⟨encD ks vs,true,true⟩,some ⟨encD ks ws,true,true⟩,some ⟨.list (pre.map fun r=>encS (pred ks nl vs ws r)),true,false⟩,r5,r6,r7]) (ev_var rfl) rfl rfl ⟨_,_,_,rfl⟩ ?_ ?_
  · rintro pre r post σ e ⟨r5,r6,r7,rfl⟩
    have hr:r ∈ g:=by rw [e]; simp
    obtain ⟨l,el⟩:=look_some (Nat.le_of_eq H.isFol.len) (H.hd hr)
    have hlm:SN l ∧ ∀ t ∈ l,t ∈ U:=⟨H.isFol.sn l (look_mem el).2,H.wU l (look_mem el).2⟩
    let B:=fos ks vs nl [] r.2
    have hB:SN B.1 ∧ ∀ t ∈ B.1,t ∈ U:=⟨SN_fos _ _ SN_nil,fun t ht=>H.fosU (H.body r hr) ht⟩
    have l1:=lenU hU hlm
    have l2:=lenU hU hB
    refine ⟨_,?_,some ⟨encR r,false,true⟩,some ⟨encS (pred ks nl vs ws r),true,true⟩,some (at1 (.bool B.2)),rfl⟩
    refine seq_unpk (d:=encS B.1) (d':=.bool B.2) (f:=true) (ev_callT (evs_cons (ev_idx (ev_var rfl) ev_int (idx_encR1 _ _ _)) (evs_cons (ev_var rfl) (evs_cons (ev_var rfl) evs_nil))) (H.fos vs _ H.isFst.len H.vSN (H.body r hr))) ?_
    refine seq_if (k:=B.2) (t:=at1 (.bool B.2)) (ev_var rfl) rfl (σ':=[some ⟨encG g,false,true⟩,some ⟨encS nl,true,true⟩,some ⟨encD ks vs,true,true⟩,some ⟨encD ks ws,true,true⟩,some ⟨.list (pre.map fun r=>encS (pred ks nl vs ws r)),true,false⟩,some ⟨encR r,false,true⟩,some ⟨encS (pred ks nl vs ws r),true,true⟩,some (at1 (.bool B.2))]) ?_ ?_
    · cases hB2:B.2 with
      | true =>
        refine seq_set (r:=⟨encS (mg B.1 l),true,true⟩) (ev_callT (evs_cons (ev_var rfl) (evs_cons (ev_idx (ev_var rfl) (ev_idx (ev_var rfl) ev_int rfl) (idx_encD el)) evs_nil)) (H.merged _ l (lt64 l2 l1))) rfl ?_
        rw [seq_nil]
        have:pred ks nl vs ws r = mg B.1 l:=by delta pred; rw [if_pos hB2,el]; rfl
        rw [this]; rfl
      | false =>
        have:pred ks nl vs ws r = B.1:=by delta pred; rw [if_neg (by rw [show (fos ks vs nl [] r.2).2 = false from hB2]; simp)]
        rw [this]; exact seq_nil
    · refine seq_app (r:=⟨encS (pred ks nl vs ws r),true,true⟩) rfl (ev_var rfl) rfl ?_ ?_
      · have:=pre_len e; have:=H.small; rw [List.length_map]; delta lim; lia
      · rw [seq_nil]; simp
  · rintro σ ⟨r5,r6,r7,rfl⟩
    exact seq_ret (ev_var rfl)
theorem run_nullable {l:List Str} (h:Φ "heads_built_from" [encG g,encS []] = some (encS l,true)) (n:Nat):aexecs Φ n ss_nullable_heads (initσ 0 [encG g]) = some (.ret ⟨encS l,true,true⟩):=by
  delta ss_nullable_heads
  exact seq_ret (ev_callT (evs_cons (ev_var rfl) (evs_cons (ev_list evs_nil rfl) evs_nil)) h)
end
end Mine
namespace Mine
open PySem L7
noncomputable def encI (ks:List Nat):PV:=.list (ks.map fun k:Nat=>PV.int k)
structure Tab (ks:List Str) (rs:List PV) (T:Str → Str → Option Nat):Prop where
  out:∀ h,h ∉ ks → look ks rs h = none
  row:∀ h ∈ ks,∃ rk rd,look ks rs h = some (.dict rk rd) ∧ ∀ u,look rk rd u = (T h u).map fun k:Nat=>PV.int k
section
variable {Φ:FTab} {σ σ':Sig} {c:SExpr} {b ts:List SStmt} {o:Out} {t:RV}
theorem awhl_go {C:Sig → Option Bool} {B:Sig → Option Out} {n:Nat} {r:Out} (hc:C σ = some true) (hb:B σ = some r):awhl C B (n + 1) σ = turn r (awhl C B n):=by
  show ((C σ).bind fun b=>if b then (B σ).bind fun o=>turn o (awhl C B n) else some (.next σ)) = _
  rw [hc,hb]; rfl
theorem whl_to {m:Nat} {r:Out} (h:awhl (fun σ=>(aeval Φ c σ).bind fun t=>boolOf t.d) (aexecs Φ m b) m σ = some r) (h':andThen r (aexecs Φ m ts) = some o):∃ m,aexecs Φ m (.whl c b :: ts) σ = some o:=⟨m,bind_to h h'⟩
theorem whl_step (hc:aeval Φ c σ = some t) (hk:boolOf t.d = some true) (hb:∃ m,aexecs Φ m b σ = some (.next σ')) (h:∃ m,aexecs Φ m (.whl c b :: ts) σ' = some o):∃ m,aexecs Φ m (.whl c b :: ts) σ = some o:=by
  refine cps fun Gq hGq=>?_
  obtain ⟨m1,hb⟩:=hb
  obtain ⟨m,h⟩:=h
  have hM:m ≤ m1 + m:=Nat.le_add_left m m1
  obtain ⟨r,h1,h2⟩:=bind_of h
  refine hGq ?_
  clear hGq
  refine whl_to (m:=m1 + m + 1) ((awhl_go (bind_to hc hk) (aexecs_mono Φ (Nat.le_succ_of_le (Nat.le_add_right m1 m)) _ _ _ hb)).trans (awhl_mono (aexecs_mono Φ (Nat.le_succ_of_le hM) b) _ _ _ _ hM h1)) (andThen_mono (fun σ=>aexecs_mono Φ (Nat.le_succ_of_le hM) ts σ o) h2)
theorem whl_brk (hc:aeval Φ c σ = some t) (hk:boolOf t.d = some true) (hb:∃ m,aexecs Φ m b σ = some (.brk σ')) (h:∃ m,aexecs Φ m ts σ' = some o):∃ m,aexecs Φ m (.whl c b :: ts) σ = some o:=by
  obtain ⟨m1,hb⟩:=hb
  obtain ⟨m,h⟩:=h
  exact whl_to (m:=m1 + m + 1) (awhl_go (bind_to hc hk) (aexecs_mono Φ (Nat.le_succ_of_le (Nat.le_add_right m1 m)) _ _ _ hb)) (aexecs_mono Φ (Nat.le_succ_of_le (Nat.le_add_left m m1)) _ _ _ h)
theorem whl_ret {q:RV} (hc:aeval Φ c σ = some t) (hk:boolOf t.d = some true) (hb:∃ m,aexecs Φ m b σ = some (.ret q)):∃ m,aexecs Φ m (.whl c b :: ts) σ = some (.ret q):=by
  obtain ⟨m1,hb⟩:=hb
  exact whl_to (m:=m1 + 1) (awhl_go (bind_to hc hk) (aexecs_mono Φ (Nat.le_succ _) _ _ _ hb)) rfl
theorem whl_exc {q:Str} (hc:aeval Φ c σ = some t) (hk:boolOf t.d = some true) (hb:∃ m,aexecs Φ m b σ = some (.exc q)):∃ m,aexecs Φ m (.whl c b :: ts) σ = some (.exc q):=by
  obtain ⟨m1,hb⟩:=hb
  exact whl_to (m:=m1 + 1) (awhl_go (bind_to hc hk) (aexecs_mono Φ (Nat.le_succ _) _ _ _ hb)) rfl
theorem whl_done (hc:aeval Φ c σ = some t) (hk:boolOf t.d = some false) (h:∃ m,aexecs Φ m ts σ = some o):∃ m,aexecs Φ m (.whl c b :: ts) σ = some o:=by
  obtain ⟨m,h⟩:=h
  exact whl_to (m:=m + 1) (bind_to (bind_to hc hk) rfl) (aexecs_mono Φ (Nat.le_succ _) _ _ _ h)
end
noncomputable def msgNo (place:Nat) (h u:Str):Str:="token " ++ (Str.ofString (toString (place:Int)) ++ (": no rule of " ++ (h ++ (" begins at " ++ (u ++ Str.empty)))))
noncomputable def msgDue (place:Nat) (h u:Str):Str:="token " ++ (Str.ofString (toString (place:Int)) ++ (": " ++ (h ++ (" is due, " ++ (u ++ (" stands there" ++ Str.empty))))))
noncomputable def msgEnd (place:Nat):Str:="token " ++ (Str.ofString (toString (place:Int)) ++ (": the parse ends before the tokens do" ++ Str.empty))
theorem len_app (a b:Str):(a ++ b).length = a.length + b.length:=by show (a.cps ++ b.cps).size = _; simp [Str.length]
theorem len_num:∀ p < 32,(Str.ofString (toString ((p:Nat):Int))).length ≤ 100:=by decide
theorem ml {a b:Str} {k:Nat} (h1:a.length ≤ 100) (h2:b.length ≤ k):(a ++ b).length ≤ 100 + k:=by rw [len_app]; exact Nat.add_le_add h1 h2
theorem lits:(Str.ofString "token ").length ≤ 100 ∧ (Str.ofString ": no rule of ").length ≤ 100 ∧ (Str.ofString " begins at ").length ≤ 100 ∧ (Str.ofString ": ").length ≤ 100 ∧ (Str.ofString " is due, ").length ≤ 100 ∧ (Str.ofString " stands there").length ≤ 100 ∧ (Str.ofString ": the parse ends before the tokens do").length ≤ 100 ∧ Str.empty.length ≤ 100:=by decide +kernel
theorem msgNo_len {p:Nat} {h u:Str} (hp:p < 32) (hh:h.length ≤ 100) (hu:u.length ≤ 100):(msgNo p h u).length ≤ lim:=by
  exact Nat.le_trans (ml lits.1 (ml (len_num p hp) (ml lits.2.1 (ml hh (ml lits.2.2.1 (ml hu lits.2.2.2.2.2.2.2)))))) (by decide)
theorem msgDue_len {p:Nat} {h u:Str} (hp:p < 32) (hh:h.length ≤ 100) (hu:u.length ≤ 100):(msgDue p h u).length ≤ lim:=by
  exact Nat.le_trans (ml lits.1 (ml (len_num p hp) (ml lits.2.2.2.1 (ml hh (ml lits.2.2.2.2.1 (ml hu (ml lits.2.2.2.2.2.1 lits.2.2.2.2.2.2.2))))))) (by decide)
theorem msgEnd_len {p:Nat} (hp:p < 32):(msgEnd p).length ≤ lim:=by
  exact Nat.le_trans (ml lits.1 (ml (len_num p hp) (ml lits.2.2.2.2.2.2.1 lits.2.2.2.2.2.2.2))) (by decide)
section
variable {Φ:FTab} {σ:Sig} {a:SExpr} {es:List SExpr}
theorem ev_fstr {rs:List RV} {x:Str} (h1:aevals Φ es σ = some rs) (h2:joinAll (rs.map (·.d)) = some x) (h3:x.length ≤ lim):aeval Φ (.fstr es) σ = some (at1 (.str x)):=by
  exact bind_to h1 (bind_to h2 (if_pos h3))
theorem ev_fval_str {x:Str} {f c:Bool} (h1:aeval Φ a σ = some ⟨.str x,f,c⟩) (h:x.length ≤ 100):aeval Φ (.fval a) σ = some (at1 (.str x)):=by
  refine bind_to h1 ?_
  show (if x.length ≤ lim then some x else Option.none).map _ = _
  rw [if_pos (Nat.le_trans h (by decide))]; rfl
theorem ev_fval_int {p:Nat} {f c:Bool} (h1:aeval Φ a σ = some ⟨.int p,f,c⟩) (h:p < 32):aeval Φ (.fval a) σ = some (at1 (.str (Str.ofString (toString (p:Int))))):=by
  refine bind_to h1 ?_
  show (if (p:Int).natAbs < 10 ^ 10 then some (Str.ofString (toString (p:Int))) else Option.none).map _ = _
  rw [if_pos (Nat.lt_trans h (by decide):(p:Int).natAbs < 10 ^ 10)]; rfl
end
noncomputable def pBody:List SStmt:=[.ife (.cmp .Eq (.var 7) (.int 0)) [.rse (.str "the fuel is spent")] [],.set 7 (.bin .Sub (.var 7) (.int 1)),.set 8 (.idx (.var 5) (.neg 1)),.del1 5,.ife (.cmp .In (.var 8) (.var 2)) [.ife (.cmp .NotIn (.idx (.var 3) (.var 4)) (.idx (.var 2) (.var 8))) [.rse (.fstr [.str "token ",.fval (.var 4),.str ": no rule of ",.fval (.var 8),.str " begins at ",.fval (.idx (.var 3) (.var 4))])] [],.set 9 (.idx (.idx (.var 2) (.var 8)) (.idx (.var 3) (.var 4))),.app 6 (.var 9),.ownf 5 (.bin .Add (.var 5) (.srev (.idx (.idx (.var 0) (.var 9)) (.int 1))))] [.ife (.cmp .Eq (.var 8) (.idx (.var 3) (.var 4))) [.set 4 (.bin .Add (.var 4) (.int 1))] [.rse (.fstr [.str "token ",.fval (.var 4),.str ": ",.fval (.var 8),.str " is due, ",.fval (.idx (.var 3) (.var 4)),.str " stands there"])]]]
noncomputable def pLoop:List SStmt:=[.whl (.cmp .Gt (.len (.var 5)) (.int 0)) pBody,.ife (.cmp .NotEq (.var 4) (.len (.var 3))) [.rse (.fstr [.str "token ",.fval (.var 4),.str ": the parse ends before the tokens do"])] [],.ret (.var 6)]
noncomputable def pσ (g:List Rule) (tk:Option RV) (ks:List Str) (rs:List PV) (unread:List Str) (place:Nat) (stack:List Str) (steps:List Nat) (fuel:Nat) (r8 r9:Option RV):Sig :=
  [some ⟨encG g,false,true⟩,tk,some ⟨.dict ks rs,true,true⟩,some ⟨encS unread,true,true⟩,some (at1 (.int place)),some ⟨encS stack,true,false⟩,some ⟨encI steps,true,false⟩,some (at1 (.int fuel)),r8,r9]
noncomputable def PG (Φ:FTab) (g:List Rule) (tk:Option RV) (ks:List Str) (rs:List PV) (unread:List Str) (place:Nat) (stack:List Str) (steps:List Nat) (fuel:Nat) (o:Out):Prop :=
  ∀ r8 r9,∃ m,aexecs Φ m pLoop (pσ g tk ks rs unread place stack steps fuel r8 r9) = some o
section
variable {Φ:FTab} {g:List Rule} {tk:Option RV} {ks:List Str} {rs:List PV} {T:Str → Str → Option Nat} {unread stack:List Str} {place fuel:Nat} {steps:List Nat} {o:Out}
theorem gt_enc {r8 r9:Option RV}:aeval Φ (.cmp .Gt (.len (.var 5)) (.int 0)) (pσ g tk ks rs unread place stack steps fuel r8 r9) = some (at1 (.bool (decide ((stack.length:Int) > 0)))):=by
  refine ev_cmp (ev_len (n:=stack.length) (ev_var rfl) ?_) ev_int rfl
  show some (stack.map PV.str).length = _
  rw [List.length_map]
theorem idx_last {stack:List Str} {top:Str} {f c:Bool}:aidx ⟨encS (stack ++ [top]),f,c⟩ (.int (-1)) = some (at1 (.str top)):=by
  have hl:(((stack ++ [top]).map PV.str).length:Int) = stack.length + 1:=by simp
  have:aidx ⟨encS (stack ++ [top]),f,c⟩ (.int (-1)) = if 0 ≤ (-1:Int) then (((stack ++ [top]).map PV.str)[(-1:Int).toNat]?).map (part ⟨encS (stack ++ [top]),f,c⟩) else if -(((stack ++ [top]).map PV.str).length:Int) ≤ (-1:Int) then (((stack ++ [top]).map PV.str)[((-1:Int) + (((stack ++ [top]).map PV.str).length:Int)).toNat]?).map (part ⟨encS (stack ++ [top]),f,c⟩) else Option.none:=rfl
  rw [this,if_neg (by decide),hl,if_pos (Int.neg_le_neg (Int.le_add_of_nonneg_left (nn _))),show ((-1:Int) + (stack.length + 1)).toNat = stack.length by rw [Int.add_comm,Int.add_neg_cancel_right]; rfl,List.getElem?_map,List.getElem?_append_right (Nat.le_refl _)]
  simp [part_str]
theorem eqInt {a b:Int}:acmp .Eq (.int a) (.int b) = some (a == b):=rfl
theorem eqStr {a b:Str}:acmp .Eq (.str a) (.str b) = some (a == b):=rfl
theorem p_head {r8 r9:Option RV} {top:Str} {o:Out}
    (h:aexecs Φ 0 [.ife (.cmp .In (.var 8) (.var 2)) [.ife (.cmp .NotIn (.idx (.var 3) (.var 4)) (.idx (.var 2) (.var 8))) [.rse (.fstr [.str "token ",.fval (.var 4),.str ": no rule of ",.fval (.var 8),.str " begins at ",.fval (.idx (.var 3) (.var 4))])] [],.set 9 (.idx (.idx (.var 2) (.var 8)) (.idx (.var 3) (.var 4))),.app 6 (.var 9),.ownf 5 (.bin .Add (.var 5) (.srev (.idx (.idx (.var 0) (.var 9)) (.int 1))))] [.ife (.cmp .Eq (.var 8) (.idx (.var 3) (.var 4))) [.set 4 (.bin .Add (.var 4) (.int 1))] [.rse (.fstr [.str "token ",.fval (.var 4),.str ": ",.fval (.var 8),.str " is due, ",.fval (.idx (.var 3) (.var 4)),.str " stands there"])]]]
      (pσ g tk ks rs unread place stack steps fuel (some (at1 (.str top))) r9) = some o) :
    aexecs Φ 0 pBody (pσ g tk ks rs unread place (stack ++ [top]) steps (fuel + 1) r8 r9) = some o:=by
  delta pBody
  refine seq_if (k:=false) (t:=at1 (.bool false)) (ev_cmp (ev_var rfl) ev_int (by show acmp .Eq (.int ((fuel + 1:Nat):Int)) (.int 0) = _; rw [eqInt]; congr 1)) rfl seq_nil ?_
  refine seq_set (r:=at1 (.int fuel)) (ev_bin (ev_var rfl) ev_int (by show some (at1 (.int (((fuel + 1:Nat):Int) - 1))) = _; congr 3; exact Int.add_sub_cancel (fuel:Int) 1)) rfl ?_
  refine seq_set (r:=at1 (.str top)) (ev_idx (ev_var rfl) ev_neg idx_last) rfl ?_
  cases hs:stack ++ [top] with
  | nil=>simp at hs
  | cons d ds =>
    refine seq_del1 (d:=.str d) (ds:=ds.map PV.str) (f:=true) rfl ?_
    have e:(PV.str d :: ds.map PV.str).dropLast = stack.map PV.str:=by
      rw [← List.map_cons,← hs,List.map_append]
      simp
    rw [e]
    exact h
theorem p_no (hT:Tab ks rs T) {h u:Str} (hh:h ∈ ks) (hu:unread[place]? = some u) (hn:T h u = none) (hp:place < 32) (lh:h.length ≤ 100) (lu:u.length ≤ 100):PG Φ g tk ks rs unread place (stack ++ [h]) steps (fuel + 1) (.exc (msgNo place h u)):=by
  intro r8 r9
  refine whl_exc gt_enc ?_ ⟨0,p_head ?_⟩
  · simp [at1,boolOf,dB_bool]
  · obtain ⟨rk,rd,h1,h2⟩:=hT.row h hh
    refine seq_if_exc (k:=true) (t:=at1 (.bool true)) (ev_cmp (ev_var rfl) (ev_var rfl) (by show acmp .In (.str h) (.dict ks rs) = _; rw [in_dict,h1]; rfl)) rfl ?_
    refine seq_if_exc (k:=true) (t:=at1 (.bool true)) (ev_cmp (ev_idx (ev_var rfl) (ev_var rfl) (idx_encS hu)) (ev_idx (t:=⟨.dict rk rd,true,true⟩) (ev_var rfl) (ev_var rfl) (by show (look ks rs h).map _ = _; rw [h1]; rfl)) (by show acmp .NotIn (.str u) (.dict rk rd) = _; rw [notIn_dict,h2,hn]; rfl)) rfl ?_
    exact seq_rse (r:=at1 (.str (msgNo place h u))) (ev_fstr (evs_cons ev_str (evs_cons (ev_fval_int (ev_var rfl) hp) (evs_cons ev_str (evs_cons (ev_fval_str (ev_var rfl) lh) (evs_cons ev_str (evs_cons (ev_fval_str (ev_idx (ev_var rfl) (ev_var rfl) (idx_encS hu)) lu) evs_nil)))))) rfl (msgNo_len hp lh lu)) rfl
theorem p_rule (hT:Tab ks rs T) {h u:Str} {k:Nat} {r:Rule} (hh:h ∈ ks) (hu:unread[place]? = some u) (hk:T h u = some k) (hr:g[k]? = some r) (hs:steps.length < lim) (hl:stack.length + r.2.length ≤ lim)
    (H:PG Φ g tk ks rs unread place (stack ++ r.2.reverse) (steps ++ [k]) fuel o):PG Φ g tk ks rs unread place (stack ++ [h]) steps (fuel + 1) o:=by
  intro r8 r9
  refine cps fun Gq hGq=>?_
  obtain ⟨rk,rd,h1,h2⟩:=hT.row h hh
  refine hGq ?_
  clear hGq
  have hidx:∀ r9,aeval Φ (.idx (.var 2) (.var 8)) (pσ g tk ks rs unread place stack steps fuel (some (at1 (.str h))) r9) = some ⟨.dict rk rd,true,true⟩:=fun r9 =>
    ev_idx (ev_var rfl) (ev_var rfl) (by show (look ks rs h).map _ = _; rw [h1]; rfl)
  refine whl_step (σ':=pσ g tk ks rs unread place (stack ++ r.2.reverse) (steps ++ [k]) fuel (some (at1 (.str h))) (some (at1 (.int k)))) gt_enc ?_ ⟨0,p_head ?_⟩ (H _ _)
  · simp [at1,boolOf,dB_bool]
  · refine seq_if (k:=true) (t:=at1 (.bool true)) (ev_cmp (ev_var rfl) (ev_var rfl) (by show acmp .In (.str h) (.dict ks rs) = _; rw [in_dict,h1]; rfl)) rfl ?_ seq_nil
    refine seq_if (k:=false) (t:=at1 (.bool false)) (ev_cmp (ev_idx (ev_var rfl) (ev_var rfl) (idx_encS hu)) (hidx r9) (by show acmp .NotIn (.str u) (.dict rk rd) = _; rw [notIn_dict,h2,hk]; rfl)) rfl seq_nil ?_
    refine seq_set (r:=at1 (.int k)) (ev_idx (hidx r9) (ev_idx (ev_var rfl) (ev_var rfl) (idx_encS hu)) (by show (look rk rd u).map _ = _; rw [h2,hk]; rfl)) rfl ?_
    refine seq_app (ds:=steps.map fun k:Nat=>PV.int k) (r:=at1 (.int k)) rfl (ev_var rfl) rfl (by rw [List.length_map]; exact hs) ?_
    rw [show (steps.map fun k:Nat=>PV.int k) ++ [RV.d (at1 (.int k))] = (steps ++ [k]).map fun k:Nat=>PV.int k from by rw [List.map_append]; rfl]
    have hst:aeval Φ (.bin .Add (.var 5) (.srev (.idx (.idx (.var 0) (.var 9)) (.int 1)))) ((pσ g tk ks rs unread place stack (steps ++ [k]) fuel (some (at1 (.str h))) (some (at1 (.int k)))).map dropF) = some ⟨encS (stack ++ r.2.reverse),true,true⟩:=by
      have hg:aeval Φ (.idx (.var 0) (.var 9)) ((pσ g tk ks rs unread place stack (steps ++ [k]) fuel (some (at1 (.str h))) (some (at1 (.int k)))).map dropF) = some ⟨encR r,false,true⟩:=by
        refine ev_idx (r:=⟨encG g,false,true⟩) (q:=at1 (.int k)) (ev_var rfl) (ev_var rfl) ?_
        exact idx_list (d:=encR r) (by rw [List.getElem?_map,hr]; rfl)
      have hrev:aeval Φ (.srev (.idx (.idx (.var 0) (.var 9)) (.int 1))) ((pσ g tk ks rs unread place stack (steps ++ [k]) fuel (some (at1 (.str h))) (some (at1 (.int k)))).map dropF) = some ⟨encS r.2.reverse,true,true⟩:=by
        refine bind_to (ev_idx hg ev_int (idx_encR1 _ _ _)) ?_
        show newl false true (r.2.map PV.str).reverse = _
        rw [← List.map_reverse,newl_str _ _ _ (by rw [List.length_reverse]; exact Nat.le_trans (Nat.le_add_left _ _) hl)]
      refine ev_bin (r:=⟨encS stack,false,false⟩) (ev_var rfl) hrev ?_
      show newl (false && true) (false && true) (stack.map PV.str ++ r.2.reverse.map PV.str) = _
      rw [← List.map_append,newl_str _ _ _ (by rw [List.length_append,List.length_reverse]; exact hl)]
    exact seq (ex_ownf hst (atoms_str _)) seq_nil
theorem p_tok (hT:Tab ks rs T) {u:Str} (hh:u ∉ ks) (hu:unread[place]? = some u) (H:PG Φ g tk ks rs unread (place + 1) stack steps fuel o):PG Φ g tk ks rs unread place (stack ++ [u]) steps (fuel + 1) o:=by
  intro r8 r9
  refine whl_step (σ':=pσ g tk ks rs unread (place + 1) stack steps fuel (some (at1 (.str u))) r9) gt_enc ?_ ⟨0,p_head ?_⟩ (H _ _)
  · simp [at1,boolOf,dB_bool]
  · refine seq_if (k:=false) (t:=at1 (.bool false)) (ev_cmp (ev_var rfl) (ev_var rfl) (by show acmp .In (.str u) (.dict ks rs) = _; rw [in_dict,hT.out u hh]; rfl)) rfl ?_ seq_nil
    refine seq_if (k:=true) (t:=at1 (.bool true)) (ev_cmp (ev_var rfl) (ev_idx (ev_var rfl) (ev_var rfl) (idx_encS hu)) (by show acmp .Eq (.str u) (.str u) = _; rw [eqStr]; simp)) rfl ?_ seq_nil
    refine seq_set (r:=at1 (.int ((place + 1:Nat):Int))) (ev_bin (ev_var rfl) ev_int rfl) rfl seq_nil
theorem p_due (hT:Tab ks rs T) {d u:Str} (hh:d ∉ ks) (hu:unread[place]? = some u) (hne:d ≠ u) (hp:place < 32) (lh:d.length ≤ 100) (lu:u.length ≤ 100):PG Φ g tk ks rs unread place (stack ++ [d]) steps (fuel + 1) (.exc (msgDue place d u)):=by
  intro r8 r9
  refine whl_exc gt_enc ?_ ⟨0,p_head ?_⟩
  · simp [at1,boolOf,dB_bool]
  · refine seq_if_exc (k:=false) (t:=at1 (.bool false)) (ev_cmp (ev_var rfl) (ev_var rfl) (by show acmp .In (.str d) (.dict ks rs) = _; rw [in_dict,hT.out d hh]; rfl)) rfl ?_
    refine seq_if_exc (k:=false) (t:=at1 (.bool false)) (ev_cmp (ev_var rfl) (ev_idx (ev_var rfl) (ev_var rfl) (idx_encS hu)) (by show acmp .Eq (.str d) (.str u) = _; rw [eqStr]; simp [hne])) rfl ?_
    exact seq_rse (r:=at1 (.str (msgDue place d u))) (ev_fstr (evs_cons ev_str (evs_cons (ev_fval_int (ev_var rfl) hp) (evs_cons ev_str (evs_cons (ev_fval_str (ev_var rfl) lh) (evs_cons ev_str (evs_cons (ev_fval_str (ev_idx (ev_var rfl) (ev_var rfl) (idx_encS hu)) lu) (evs_cons ev_str evs_nil))))))) rfl (msgDue_len hp lh lu)) rfl
theorem neInt {a b:Int}:acmp .NotEq (.int a) (.int b) = some !(a == b):=rfl
theorem p_end (hp:place < 32):PG Φ g tk ks rs unread place [] steps fuel (if place = unread.length then .ret ⟨encI steps,true,false⟩ else .exc (msgEnd place)):=by
  intro r8 r9
  refine whl_done gt_enc rfl ⟨0,?_⟩
  have hc:aeval Φ (.cmp .NotEq (.var 4) (.len (.var 3))) (pσ g tk ks rs unread place [] steps fuel r8 r9) = some (at1 (.bool (!decide (place = unread.length)))):=by
    refine ev_cmp (ev_var rfl) (ev_len (n:=unread.length) (ev_var rfl) (by show some (unread.map PV.str).length = _; rw [List.length_map])) ?_
    show acmp .NotEq (.int place) (.int unread.length) = _
    rw [neInt]
    congr 2
    by_cases h:place = unread.length
    · simp [h]
    · have:¬ (place:Int) = unread.length:=fun e=>h (Int.ofNat_inj.mp e)
      simp [h,this]
  by_cases h:place = unread.length
  · rw [if_pos h]
    refine seq_if (k:=false) hc (by simp [h,at1,boolOf,dB_bool]) seq_nil (seq_ret (ev_var rfl))
  · rw [if_neg h]
    refine seq_if_exc (k:=true) hc (by simp [h,at1,boolOf,dB_bool]) ?_
    exact seq_rse (r:=at1 (.str (msgEnd place))) (ev_fstr (evs_cons ev_str (evs_cons (ev_fval_int (ev_var rfl) hp) (evs_cons ev_str evs_nil))) rfl (msgEnd_len hp)) rfl
theorem p_spent {top:Str}:PG Φ g tk ks rs unread place (stack ++ [top]) steps 0 (.exc "the fuel is spent"):=by
  intro r8 r9
  refine whl_exc gt_enc ?_ ⟨0,?_⟩
  · simp [at1,boolOf,dB_bool]
  · delta pBody
    exact seq_if_exc (k:=true) (t:=at1 (.bool true)) (ev_cmp (ev_var rfl) ev_int rfl) rfl (seq_rse ev_str rfl)
end
end Mine
namespace Mine
open PySem L7
structure Rl where
  h:Str
  b:List Str
  p:List Str
  nx:Str
noncomputable def encQ (r:Rl):PV:=.tup [.str r.h,encS r.b,encS r.p,.str r.nx]
noncomputable def encQs (rs:List Rl):PV:=.list (rs.map encQ)
noncomputable def outP:List Nat ⊕ Str → Out
  | .inl steps=>.ret ⟨encI steps,true,false⟩
  | .inr m=>.exc m
noncomputable def outA:List Nat ⊕ Str → Out
  | .inl steps=>.ret ⟨.tup [encI steps,.str ""],true,false⟩
  | .inr m=>.ret ⟨.tup [.none,.str m],true,true⟩
noncomputable def aBody:List SStmt:=[.ife (.cmp .Eq (.var 7) (.str "")) [.brk] [],.set 8 (.idx (.var 4) (.var 6)),.set 9 (.get (.idx (.var 1) (.var 7)) (.var 8) (.neg 1)),.ife (.cmp .Lt (.var 9) (.int 0)) [.ret (.tup [.none,.fstr [.str "token ",.fval (.var 6),.str ": no rule of ",.fval (.var 7),.str " begins at ",.fval (.var 8)]])] [],.app 5 (.var 9),.ife (.cmp .Eq (.supto (.idx (.idx (.var 0) (.var 9)) (.int 1)) (.int 1)) (.list [.var 8])) [.set 6 (.bin .Add (.var 6) (.int 1))] [],.set 7 (.idx (.idx (.var 0) (.var 9)) (.int 3))]
noncomputable def aFin:List SStmt:=[.ife (.cmp .NotEq (.idx (.var 4) (.var 6)) (.var 10)) [.ret (.tup [.none,.fstr [.str "token ",.fval (.var 6),.str ": ",.fval (.var 10),.str " is due, ",.fval (.idx (.var 4) (.var 6)),.str " stands there"]])] [],.set 6 (.bin .Add (.var 6) (.int 1))]
noncomputable def aEnd:List SStmt:=[.ife (.cmp .NotEq (.var 6) (.len (.var 4))) [.ret (.tup [.none,.fstr [.str "token ",.fval (.var 6),.str ": the parse ends before the tokens do"]])] [],.ret (.tup [.var 5,.str ""])]
noncomputable def aLoop:List SStmt:=.whl (.bool true) aBody :: .fr 10 (.bin .Add (.var 2) (.list [.str "$"])) aFin :: aEnd
noncomputable def aσ (rules:List Rl) (ks:List Str) (rs:List PV) (tail:List Str) (wd:Option RV) (unread:List Str) (place:Nat) (head:Str) (steps:List Nat) (r8 r9 r10:Option RV):Sig :=
  [some ⟨encQs rules,false,true⟩,some ⟨.dict ks rs,false,true⟩,some ⟨encS tail,false,true⟩,wd,some ⟨encS unread,true,true⟩,some ⟨encI steps,true,false⟩,some (at1 (.int place)),some (at1 (.str head)),r8,r9,r10]
noncomputable def AG (Φ:FTab) (rules:List Rl) (ks:List Str) (rs:List PV) (tail:List Str) (wd:Option RV) (unread:List Str) (place:Nat) (head:Str) (steps:List Nat) (o:Out):Prop :=
  ∀ r8 r9 r10,∃ m,aexecs Φ m aLoop (aσ rules ks rs tail wd unread place head steps r8 r9 r10) = some o
noncomputable def AF (Φ:FTab) (rules:List Rl) (ks:List Str) (rs:List PV) (tail:List Str) (wd:Option RV) (unread:List Str) (place:Nat) (head:Str) (steps:List Nat) (ds:List Str) (o:Out):Prop :=
  ∀ m r8 r9 r10,((afor (aexecs Φ m aFin) 10 ⟨encS (tail ++ [("$":Str)]),true,true⟩ (ds.map PV.str) (aσ rules ks rs tail wd unread place head steps r8 r9 r10)).bind fun o=>andThen o (aexecs Φ m aEnd)) = some o
theorem eqStrs {a b:List Str}:acmp .Eq (encS a) (encS b) = some (decide (a = b)):=by
  have:acmp .Eq (encS a) (encS b) = if (encS a).depth + (encS b).depth ≤ 40 then aeq (encS a) (encS b) else Option.none:=rfl
  rw [this,depth_encS,depth_encS,aeq_encS]; rfl
theorem neStr {a b:Str}:acmp .NotEq (.str a) (.str b) = some !(a == b):=rfl
section
variable {Φ:FTab} {rules:List Rl} {ks:List Str} {rs:List PV} {T:Str → Str → Option Nat} {tail:List Str} {wd:Option RV} {unread:List Str} {place:Nat} {head:Str} {steps:List Nat} {o:Out}
theorem a_get (hT:Tab ks rs T) {u:Str} (hh:head ∈ ks) {r8 r9 r10:Option RV}:aeval Φ (.get (.idx (.var 1) (.var 7)) (.var 8) (.neg 1)) (aσ rules ks rs tail wd unread place head steps (some (at1 (.str u))) r9 r10) = some (at1 (.int (match T head u with | some k=>(k:Int) | none=>-1))):=by
  refine cps fun Gq hGq=>?_
  obtain ⟨rk,rd,h1,h2⟩:=hT.row head hh
  refine hGq ?_
  clear hGq
  have hidx:aeval Φ (.idx (.var 1) (.var 7)) (aσ rules ks rs tail wd unread place head steps (some (at1 (.str u))) r9 r10) = some ⟨.dict rk rd,false,true⟩ :=
    ev_idx (ev_var rfl) (ev_var rfl) (by show (look ks rs head).map _ = _; rw [h1]; rfl)
  refine bind_to hidx (bind_to (ev_var (r:=at1 (.str u)) rfl) (bind_to ev_neg (bind_to (a:=(rk,rd)) rfl ?_)))
  show some (((look rk rd u).map (part ⟨.dict rk rd,false,true⟩)).getD (at1 (.int (-1)))) = _
  rw [h2]
  cases T head u <;> rfl
theorem a_no (hT:Tab ks rs T) {u:Str} (hh:head ∈ ks) (h0:head ≠ "") (hu:unread[place]? = some u) (hn:T head u = none) (hp:place < 32) (lh:head.length ≤ 100) (lu:u.length ≤ 100):AG Φ rules ks rs tail wd unread place head steps (outA (.inr (msgNo place head u))):=by
  intro r8 r9 r10
  refine whl_ret (t:=at1 (.bool true)) ev_bool rfl ⟨0,?_⟩
  refine seq_if (k:=false) (t:=at1 (.bool false)) (ev_cmp (ev_var rfl) ev_str (by show acmp .Eq (.str head) (.str _) = _; rw [eqStr]; simp [h0])) rfl seq_nil ?_
  refine seq_set (r:=at1 (.str u)) (ev_idx (ev_var rfl) (ev_var rfl) (idx_encS hu)) rfl ?_
  refine seq_set (r:=at1 (.int (-1))) ((a_get hT hh (r8:=r8)).trans (by rw [hn])) rfl ?_
  refine seq_if_ret (k:=true) (t:=at1 (.bool true)) (ev_cmp (ev_var rfl) ev_int rfl) rfl ?_
  exact seq_ret (ev_tup (rs:=[at1 .none,at1 (.str (msgNo place head u))]) (evs_cons ev_none (evs_cons (ev_fstr (evs_cons ev_str (evs_cons (ev_fval_int (ev_var rfl) hp) (evs_cons ev_str (evs_cons (ev_fval_str (ev_var rfl) lh) (evs_cons ev_str (evs_cons (ev_fval_str (ev_var rfl) lu) evs_nil)))))) rfl (msgNo_len hp lh lu)) evs_nil)) (show 2 ≤ lim by decide))
theorem a_rule (hT:Tab ks rs T) {u:Str} {k:Nat} {r:Rl} (hh:head ∈ ks) (h0:head ≠ "") (hu:unread[place]? = some u) (hk:T head u = some k) (hr:rules[k]? = some r) (hb:r.b.length ≤ lim) (hs:steps.length < lim)
    (H:AG Φ rules ks rs tail wd unread (if r.b.head? = some u then place + 1 else place) r.nx (steps ++ [k]) o):AG Φ rules ks rs tail wd unread place head steps o:=by
  intro r8 r9 r10
  refine whl_step (t:=at1 (.bool true)) (σ':=aσ rules ks rs tail wd unread (if r.b.head? = some u then place + 1 else place) r.nx (steps ++ [k]) (some (at1 (.str u))) (some (at1 (.int k))) r10) ev_bool rfl ⟨0,?_⟩ (H _ _ _)
  have hidx:∀ p hd st,aeval Φ (.idx (.var 0) (.var 9)) (aσ rules ks rs tail wd unread p hd st (some (at1 (.str u))) (some (at1 (.int k))) r10) = some ⟨encQ r,false,true⟩:=by
    intro p hd st
    refine ev_idx (r:=⟨encQs rules,false,true⟩) (q:=at1 (.int k)) (ev_var rfl) (ev_var rfl) ?_
    exact idx_list (d:=encQ r) (by rw [List.getElem?_map,hr]; rfl)
  refine seq_if (k:=false) (t:=at1 (.bool false)) (ev_cmp (ev_var rfl) ev_str (by show acmp .Eq (.str head) (.str _) = _; rw [eqStr]; simp [h0])) rfl seq_nil ?_
  refine seq_set (r:=at1 (.str u)) (ev_idx (ev_var rfl) (ev_var rfl) (idx_encS hu)) rfl ?_
  refine seq_set (r:=at1 (.int k)) ((a_get hT hh (r8:=r8)).trans (by rw [hk])) rfl ?_
  refine seq_if (k:=false) (t:=at1 (.bool false)) (ev_cmp (ev_var rfl) ev_int (by show some (decide ((k:Int) < 0)) = _; simp)) rfl seq_nil ?_
  refine seq_app (ds:=steps.map fun k:Nat=>PV.int k) (r:=at1 (.int k)) rfl (ev_var rfl) rfl (by rw [List.length_map]; exact hs) ?_
  have es:PV.list ((steps.map fun k:Nat=>PV.int k) ++ [(at1 (.int k)).d]) = encI (steps ++ [k]):=by simp [encI,at1]
  rw [es]
  have hone:r.b.take 1 = [u] ↔ r.b.head? = some u:=by
    cases r.b with
    | nil=>simp
    | cons x xs=>simp
  refine seq_if (k:=decide (r.b.take 1 = [u])) (t:=at1 (.bool (decide (r.b.take 1 = [u])))) (ev_cmp (ev_supto (k:=1) (f:=false) (c:=true) (f':=true) (c':=true) (ev_idx (hidx place head (steps ++ [k])) ev_int rfl) ev_int hb) (ev_list (evs_cons (ev_var rfl) evs_nil) (newlR_one u)) eqStrs) rfl (σ':=aσ rules ks rs tail wd unread (if r.b.head? = some u then place + 1 else place) head (steps ++ [k]) (some (at1 (.str u))) (some (at1 (.int k))) r10) ?_ ?_
  · by_cases hx:r.b.head? = some u
    · have hd:decide (r.b.take 1 = [u]) = true:=by simpa using hone.mpr hx
      rw [hd,if_pos hx]
      exact seq_set (r:=at1 (.int ((place + 1:Nat):Int))) (ev_bin (ev_var rfl) ev_int rfl) rfl seq_nil
    · have hd:decide (r.b.take 1 = [u]) = false:=by simpa using fun e=>hx (hone.mp e)
      rw [hd,if_neg hx]
      exact seq_nil
  · refine seq_set (r:=at1 (.str r.nx)) (ev_idx (hidx _ head (steps ++ [k])) ev_int rfl) rfl seq_nil
theorem a_fin (ht:tail.length < 100) (H:AF Φ rules ks rs tail wd unread place "" steps (tail ++ [("$":Str)]) o):AG Φ rules ks rs tail wd unread place "" steps o:=by
  intro r8 r9 r10
  refine whl_brk (t:=at1 (.bool true)) (σ':=aσ rules ks rs tail wd unread place "" steps r8 r9 r10) ev_bool rfl ⟨0,?_⟩ ⟨0,?_⟩
  · refine seq_if_brk (k:=true) (t:=at1 (.bool true)) (ev_cmp (ev_var rfl) ev_str rfl) rfl ?_
    rfl
  · have hadd:aeval Φ (.bin .Add (.var 2) (.list [.str "$"])) (aσ rules ks rs tail wd unread place "" steps r8 r9 r10) = some ⟨encS (tail ++ [("$":Str)]),true,true⟩:=by
      refine ev_bin (r:=⟨encS tail,false,true⟩) (ev_var rfl) (ev_list (evs_cons ev_str evs_nil) (newlR_one "$")) ?_
      show newl (false && true) (true && true) (tail.map PV.str ++ [PV.str "$"]) = _
      have:tail.map PV.str ++ [PV.str "$"] = (tail ++ [("$":Str)]).map PV.str:=by simp
      rw [this,newl_str _ _ _ (lim_snoc (Nat.le_of_lt ht))]
    refine Eq.trans ?_ (H 0 r8 r9 r10)
    show ((aeval Φ (.bin .Add (.var 2) (.list [.str "$"])) _).bind _).bind _ = _
    rw [hadd]; rfl
theorem af_nil (hp:place < 32):AF Φ rules ks rs tail wd unread place head steps [] (if place = unread.length then outA (.inl steps) else outA (.inr (msgEnd place))):=by
  intro m r8 r9 r10
  show aexecs Φ m aEnd (aσ rules ks rs tail wd unread place head steps r8 r9 r10) = _
  have hc:aeval Φ (.cmp .NotEq (.var 6) (.len (.var 4))) (aσ rules ks rs tail wd unread place head steps r8 r9 r10) = some (at1 (.bool (!decide (place = unread.length)))):=by
    refine ev_cmp (ev_var rfl) (ev_len (n:=unread.length) (ev_var rfl) (by show some (unread.map PV.str).length = _; rw [List.length_map])) ?_
    show acmp .NotEq (.int place) (.int unread.length) = _
    rw [neInt]
    congr 2
    by_cases h:place = unread.length
    · simp [h]
    · have:¬ (place:Int) = unread.length:=fun e=>h (Int.ofNat_inj.mp e)
      simp [h,this]
  by_cases h:place = unread.length
  · rw [if_pos h]
    exact seq_if (k:=false) hc (by simp [h,at1,boolOf,dB_bool]) seq_nil (seq_ret (ev_tup (rs:=[⟨encI steps,true,false⟩,at1 (.str "")]) (evs_cons (ev_var rfl) (evs_cons ev_str evs_nil)) (show 2 ≤ lim by decide)))
  · rw [if_neg h]
    refine seq_if_ret (k:=true) hc (by simp [h,at1,boolOf,dB_bool]) ?_
    exact seq_ret (ev_tup (rs:=[at1 .none,at1 (.str (msgEnd place))]) (evs_cons ev_none (evs_cons (ev_fstr (evs_cons ev_str (evs_cons (ev_fval_int (ev_var rfl) hp) (evs_cons ev_str evs_nil))) rfl (msgEnd_len hp)) evs_nil)) (show 2 ≤ lim by decide))
theorem af_tok {d:Str} {ds:List Str} (hu:unread[place]? = some d) (H:AF Φ rules ks rs tail wd unread (place + 1) head steps ds o):AF Φ rules ks rs tail wd unread place head steps (d :: ds) o:=by
  intro m r8 r9 r10
  rw [List.map_cons,afor_cons,part_str]
  have:aexecs Φ m aFin ((aσ rules ks rs tail wd unread place head steps r8 r9 r10).set 10 (some (at1 (.str d)))) = some (.next (aσ rules ks rs tail wd unread (place + 1) head steps r8 r9 (some (at1 (.str d))))):=by
    refine seq_if (k:=false) (t:=at1 (.bool false)) (ev_cmp (ev_idx (ev_var rfl) (ev_var rfl) (idx_encS hu)) (ev_var rfl) (by show acmp .NotEq (.str d) (.str d) = _; rw [neStr]; simp)) rfl seq_nil ?_
    exact seq_set (r:=at1 (.int ((place + 1:Nat):Int))) (ev_bin (ev_var rfl) ev_int rfl) rfl seq_nil
  rw [this]
  exact H m r8 r9 _
theorem af_due {d u:Str} {ds:List Str} (hu:unread[place]? = some u) (hne:d ≠ u) (hp:place < 32) (lh:d.length ≤ 100) (lu:u.length ≤ 100):AF Φ rules ks rs tail wd unread place head steps (d :: ds) (outA (.inr (msgDue place d u))):=by
  intro m r8 r9 r10
  rw [List.map_cons,afor_cons,part_str]
  have:aexecs Φ m aFin ((aσ rules ks rs tail wd unread place head steps r8 r9 r10).set 10 (some (at1 (.str d)))) = some (outA (.inr (msgDue place d u))):=by
    refine seq_if_ret (k:=true) (t:=at1 (.bool true)) (ev_cmp (ev_idx (ev_var rfl) (ev_var rfl) (idx_encS hu)) (ev_var rfl) (by show acmp .NotEq (.str u) (.str d) = _; rw [neStr]; simp [Ne.symm hne])) rfl ?_
    exact seq_ret (ev_tup (rs:=[at1 .none,at1 (.str (msgDue place d u))]) (evs_cons ev_none (evs_cons (ev_fstr (evs_cons ev_str (evs_cons (ev_fval_int (ev_var rfl) hp) (evs_cons ev_str (evs_cons (ev_fval_str (ev_var rfl) lh) (evs_cons ev_str (evs_cons (ev_fval_str (ev_idx (ev_var rfl) (ev_var rfl) (idx_encS hu)) lu) (evs_cons ev_str evs_nil))))))) rfl (msgDue_len hp lh lu)) evs_nil)) (show 2 ≤ lim by decide))
  rw [this]
  rfl
end
structure Mach (ks:List Str) (T:Str → Str → Option Nat) (rules:List Rl) (tail:List Str) (stk:Str → List Str) (rest:Str → List Str) (rank:Str → Nat) (hs:List Str):Prop where
  top:∀ h ∈ hs,stk h = rest h ++ [h] ∧ h ∈ ks ∧ h ≠ "" ∧ h.length ≤ 100 ∧ (rest h).length ≤ 100
  done:stk "" = (tail ++ [("$":Str)]).reverse
  fit:∀ h ∈ hs,∀ u k,T h u = some k → ∃ r,rules[k]? = some r ∧ r.b.length ≤ 100 ∧ (r.nx ∈ hs ∨ r.nx = "") ∧
    ((r.b.head? = some u ∧ u ∉ ks ∧ u ≠ "$" ∧ rest h ++ r.b.reverse = stk r.nx ++ [u] ∧ rank r.nx ≤ 6) ∨ (r.b.head? ≠ some u ∧ rest h ++ r.b.reverse = stk r.nx ∧ rank r.nx < rank h))
  tl:∀ d ∈ tail,d ≠ "$" ∧ d ∉ ks ∧ d.length ≤ 100
  dl:("$":Str) ∉ ks ∧ ("$":Str).length ≤ 100
  few:tail.length ≤ 20
section
variable {Φ Ψ:FTab} {rules:List Rl} {ks ks':List Str} {rs rs':List PV} {T:Str → Str → Option Nat} {tail word:List Str} {tk wd:Option RV} {stk rest:Str → List Str} {rank:Str → Nat} {hs:List Str}
noncomputable def gOfR (rules:List Rl):List Rule:=rules.map fun r=>(r.h,r.b)
theorem fu {a f:Nat} (h:a + 1 ≤ f):∃ g,f = g + 1 ∧ a ≤ g:=by
  cases f with
  | zero=>cases h
  | succ g=>exact ⟨g,rfl,Nat.le_of_succ_le_succ h⟩
theorem lt32 {n:Nat} (h:n ≤ 21):n < 32:=Nat.lt_of_le_of_lt h (by decide)
theorem sl2 {w p r x n:Nat} (h:10 * w + r ≤ n + 10 * p) (hp:p + 1 ≤ w) (hx:x ≤ 6):∃ k,n = k + 2 ∧ 10 * w + x ≤ k + 10 * (p + 1):=by
  have h2:10 * w ≤ n + 10 * p:=Nat.le_trans (Nat.le_add_right _ _) h
  have h3:10 ≤ n:=Nat.le_of_add_le_add_left (a:=10 * p) (Nat.le_trans (Nat.mul_le_mul_left 10 hp) (Nat.add_comm n _ ▸ h2))
  obtain ⟨k,rfl⟩:=Nat.exists_eq_add_of_le' h3
  refine ⟨k + 8,rfl,Nat.le_trans (Nat.add_le_add h2 hx) ?_⟩
  rw [Nat.add_right_comm k 10,Nat.add_right_comm k 8]
  exact Nat.le_add_right (k + 10 * p + 16) 2
theorem sl1 {w p r x n:Nat} (h:10 * w + r ≤ n + 10 * p) (hp:p ≤ w) (hx:x < r):∃ k,n = k + 1 ∧ 10 * w + x ≤ k + 10 * p:=by
  have h2:10 * w + x + 1 ≤ n + 10 * p:=Nat.le_trans (Nat.add_le_add_left hx _) h
  cases n with
  | zero=>exact absurd (Nat.le_trans h2 ((Nat.zero_add (10 * p)).symm ▸ Nat.mul_le_mul_left 10 hp)) (Nat.not_le_of_lt (Nat.succ_le_succ (Nat.le_add_right _ _)))
  | succ k=>exact ⟨k,rfl,Nat.le_of_succ_le_succ (Nat.succ_add k _ ▸ h2)⟩
theorem st1 {l:List Nat} {k n:Nat} (h:l.length + (n + 1) ≤ 1000):(l ++ [k]).length + n ≤ 1000:=by
  rw [List.length_append,Nat.add_assoc,Nat.add_comm _ n]; exact h
theorem sim_end (M:Mach ks T rules tail stk rest rank hs) (hT:Tab ks rs T) (hT':Tab ks' rs' T) (hw:word.length ≤ 20) (hlen:∀ x ∈ word,x.length ≤ 100) (steps:List Nat):∀ (pre:List Str) (place:Nat),(∀ d ∈ pre,d ∈ tail) → place ≤ word.length →
    ∃ res,(∀ fuel,pre.length + 1 ≤ fuel → PG Φ (gOfR rules) tk ks rs (word ++ [("$":Str)]) place (pre ++ [("$":Str)]).reverse steps fuel (outP res)) ∧ AF Ψ rules ks' rs' tail wd (word ++ [("$":Str)]) place "" steps (pre ++ [("$":Str)]) (outA res)
  | [],place,hp,hpl=>by
    have hget:∃ u,(word ++ [("$":Str)])[place]? = some u ∧ u.length ≤ 100:=by
      rcases Nat.lt_or_ge place word.length with h | h
      · exact ⟨word[place],by rw [List.getElem?_append_left h,List.getElem?_eq_getElem h],hlen _ (List.getElem_mem h)⟩
      · have:place = word.length:=Nat.le_antisymm hpl h
        subst this
        exact ⟨"$",by simp,M.dl.2⟩
    obtain ⟨u,hu,hul⟩:=hget
    by_cases e:("$":Str) = u
    · subst e
      by_cases hend:place + 1 = (word ++ [("$":Str)]).length
      · refine ⟨.inl steps,fun fuel hf=>?_,?_⟩
        · obtain ⟨f,rfl,hg⟩:=fu hf
          have:=p_end (Φ:=Φ) (g:=gOfR rules) (tk:=tk) (ks:=ks) (rs:=rs) (unread:=word ++ [("$":Str)]) (place:=place + 1) (steps:=steps) (fuel:=f) (lt32 (Nat.succ_le_succ (Nat.le_trans hpl hw)))
          rw [if_pos hend] at this
          exact p_tok (stack:=[]) hT M.dl.1 hu this
        · have:=af_nil (Φ:=Ψ) (rules:=rules) (ks:=ks') (rs:=rs') (tail:=tail) (wd:=wd) (unread:=word ++ [("$":Str)]) (place:=place + 1) (head:="") (steps:=steps) (lt32 (Nat.succ_le_succ (Nat.le_trans hpl hw)))
          rw [if_pos hend] at this
          exact af_tok hu this
      · refine ⟨.inr (msgEnd (place + 1)),fun fuel hf=>?_,?_⟩
        · obtain ⟨f,rfl,hg⟩:=fu hf
          have:=p_end (Φ:=Φ) (g:=gOfR rules) (tk:=tk) (ks:=ks) (rs:=rs) (unread:=word ++ [("$":Str)]) (place:=place + 1) (steps:=steps) (fuel:=f) (lt32 (Nat.succ_le_succ (Nat.le_trans hpl hw)))
          rw [if_neg hend] at this
          exact p_tok (stack:=[]) hT M.dl.1 hu this
        · have:=af_nil (Φ:=Ψ) (rules:=rules) (ks:=ks') (rs:=rs') (tail:=tail) (wd:=wd) (unread:=word ++ [("$":Str)]) (place:=place + 1) (head:="") (steps:=steps) (lt32 (Nat.succ_le_succ (Nat.le_trans hpl hw)))
          rw [if_neg hend] at this
          exact af_tok hu this
    · refine ⟨.inr (msgDue place "$" u),fun fuel hf=>?_,af_due hu e (lt32 (Nat.le_trans hpl (Nat.le_succ_of_le hw))) M.dl.2 hul⟩
      obtain ⟨f,rfl,hg⟩:=fu hf
      exact p_due (stack:=[]) hT M.dl.1 hu e (lt32 (Nat.le_trans hpl (Nat.le_succ_of_le hw))) M.dl.2 hul
  | d :: pre,place,hp,hpl=>by
    have hd:=M.tl d (hp d (List.mem_cons_self ..))
    have er:(d :: pre ++ [("$":Str)]).reverse = (pre ++ [("$":Str)]).reverse ++ [d]:=by simp
    rw [er]
    have hget:∃ u,(word ++ [("$":Str)])[place]? = some u ∧ u.length ≤ 100 ∧ (u = d → place + 1 ≤ word.length):=by
      rcases Nat.lt_or_ge place word.length with h | h
      · exact ⟨word[place],by rw [List.getElem?_append_left h,List.getElem?_eq_getElem h],hlen _ (List.getElem_mem h),fun zz=>h⟩
      · have:place = word.length:=Nat.le_antisymm hpl h
        subst this
        exact ⟨"$",by simp,M.dl.2,fun q=>absurd q.symm hd.1⟩
    refine cps fun Gq hGq=>?_
    obtain ⟨u,hu,hul,hnext⟩:=hget
    refine hGq ?_
    clear hGq
    by_cases e:d = u
    · subst e
      obtain ⟨res,h1,h2⟩:=sim_end M hT hT' hw hlen steps pre (place + 1) (fun x hx=>hp x (List.mem_cons_of_mem _ hx)) (hnext rfl)
      refine ⟨res,fun fuel hf=>?_,af_tok hu h2⟩
      obtain ⟨f,rfl,hg⟩:=fu hf
      exact p_tok hT hd.2.1 hu (h1 _ hg)
    · refine ⟨.inr (msgDue place d u),fun fuel hf=>?_,af_due hu e (lt32 (Nat.le_trans hpl (Nat.le_succ_of_le hw))) hd.2.2 hul⟩
      obtain ⟨f,rfl,hg⟩:=fu hf
      exact p_due hT hd.2.1 hu e (lt32 (Nat.le_trans hpl (Nat.le_succ_of_le hw))) hd.2.2 hul
theorem sim (M:Mach ks T rules tail stk rest rank hs) (hT:Tab ks rs T) (hT':Tab ks' rs' T) (hks:∀ h ∈ hs,h ∈ ks') (hw:word.length ≤ 20) (hlen:∀ x ∈ word,x.length ≤ 100):∀ (n:Nat) (h:Str) (place:Nat) (steps:List Nat),(h ∈ hs ∨ h = "") → place ≤ word.length → 10 * word.length + rank h ≤ n + 10 * place → steps.length + n ≤ 1000 →
    ∃ res,(∀ fuel,tail.length + n + 1 ≤ fuel → PG Φ (gOfR rules) tk ks rs (word ++ [("$":Str)]) place (stk h) steps fuel (outP res)) ∧ AG Ψ rules ks' rs' tail wd (word ++ [("$":Str)]) place h steps (outA res):=by
  intro n
  induction n using Nat.strongRecOn with
  | ind n ih =>
    intro h place steps hh hpl hn hst
    rcases hh with hh | rfl
    · obtain ⟨e1,hk,h0,hl,hrl⟩:=M.top h hh
      have hget:∃ u,(word ++ [("$":Str)])[place]? = some u ∧ u.length ≤ 100 ∧ (u ≠ "$" → place + 1 ≤ word.length):=by
        rcases Nat.lt_or_ge place word.length with hlt | hge
        · exact ⟨word[place],by rw [List.getElem?_append_left hlt,List.getElem?_eq_getElem hlt],hlen _ (List.getElem_mem hlt),fun zz=>hlt⟩
        · have:place = word.length:=Nat.le_antisymm hpl hge
          subst this
          exact ⟨"$",by simp,M.dl.2,fun q=>absurd rfl q⟩
      refine cps fun Gq hGq=>?_
      obtain ⟨u,hu,hul,hnext⟩:=hget
      refine hGq ?_
      clear hGq
      have hp32:=lt32 (Nat.le_trans hpl (Nat.le_succ_of_le hw))
      have hsl:steps.length < lim:=Nat.lt_of_le_of_lt (Nat.le_trans (Nat.le_add_right _ _) hst) (by decide)
      cases hTu:T h u with
      | none =>
        refine ⟨.inr (msgNo place h u),fun fuel hf=>?_,a_no hT' (hks h hh) h0 hu hTu hp32 hl hul⟩
        obtain ⟨f,rfl,hg⟩:=fu hf
        rw [e1]
        exact p_no hT hk hu hTu hp32 hl hul
      | some k =>
        refine cps fun Gq hGq=>?_
        obtain ⟨r,hr,hbl,hnx,hcase⟩:=M.fit h hh u k hTu
        refine hGq ?_
        clear hGq
        have hgr:(gOfR rules)[k]? = some (r.h,r.b):=by delta gOfR; rw [List.getElem?_map,hr]; rfl
        have hb2:=Nat.le_trans hbl (show 100 ≤ lim by decide)
        have hb3:=Nat.le_trans (Nat.add_le_add hrl hbl) (show 200 ≤ lim by decide)
        rcases hcase with ⟨hb,huk,hud,hstk,hrank⟩ | ⟨hb,hstk,hrank⟩
        · have hp1:=hnext hud
          obtain ⟨n,rfl,hm⟩:=sl2 hn hp1 hrank
          obtain ⟨res,h1,h2⟩:=ih n (Nat.le_succ _) r.nx (place + 1) (steps ++ [k]) hnx hp1 hm (st1 (Nat.le_of_succ_le hst))
          refine ⟨res,fun fuel hf=>?_,a_rule hT' (hks h hh) h0 hu hTu hr hb2 hsl (by rw [if_pos hb]; exact h2)⟩
          obtain ⟨e,rfl,hg⟩:=fu hf
          obtain ⟨f,rfl,hf2⟩:=fu hg
          rw [e1]
          refine p_rule (fuel:=f + 1) hT hk hu hTu hgr hsl hb3 ?_
          rw [hstk]
          exact p_tok hT huk hu (h1 f hf2)
        · obtain ⟨n,rfl,hm⟩:=sl1 hn hpl hrank
          obtain ⟨res,h1,h2⟩:=ih n (Nat.le_refl _) r.nx place (steps ++ [k]) hnx hpl hm (st1 hst)
          refine ⟨res,fun fuel hf=>?_,a_rule hT' (hks h hh) h0 hu hTu hr hb2 hsl (by rw [if_neg hb]; exact h2)⟩
          obtain ⟨f,rfl,hg⟩:=fu hf
          rw [e1]
          refine p_rule (fuel:=f) hT hk hu hTu hgr hsl hb3 ?_
          rw [hstk]
          exact h1 _ hg
    · obtain ⟨res,h1,h2⟩:=sim_end (Φ:=Φ) (Ψ:=Ψ) (tk:=tk) (wd:=wd) M hT hT' hw hlen steps tail place (fun d hd=>hd) hpl
      refine ⟨res,fun fuel hf=>?_,a_fin (Nat.lt_of_le_of_lt M.few (by decide)) h2⟩
      rw [M.done]
      exact h1 fuel (Nat.le_trans (Nat.succ_le_succ (Nat.le_add_right _ _)) hf)
end
end Mine
namespace Mine
open PySem L7
noncomputable def firstR (l:List (Str × List Str)) (h u:Str):Option Nat:=l.findIdx? fun r=>decide (r.1 = h) && decide (u ∈ r.2)
theorem firstR_snoc (l:List (Str × List Str)) (x:Str × List Str) (h u:Str):firstR (l ++ [x]) h u = (firstR l h u).or (if x.1 = h ∧ u ∈ x.2 then some l.length else none):=by
  delta firstR
  rw [List.findIdx?_append]
  congr 1
  by_cases e:x.1 = h ∧ u ∈ x.2
  · rw [if_pos e]; simp [List.findIdx?_cons,e]
  · rw [if_neg e]
    have:(decide (x.1 = h) && decide (u ∈ x.2)) = false:=by simpa using e
    simp [List.findIdx?_cons,this]
theorem firstR_some {l:List (Str × List Str)} {h u:Str} {k:Nat} (e:firstR l h u = some k):∃ r,l[k]? = some r ∧ r.1 = h ∧ u ∈ r.2:=by
  delta firstR at e
  rw [List.findIdx?_eq_some_iff_getElem] at e
  obtain ⟨hk,h1,zz⟩:=e
  refine ⟨l[k],List.getElem?_eq_getElem hk,?_⟩
  simpa using h1
abbrev Row:=List (Str × Nat)
noncomputable def rk (r:Row):List Str:=r.map (·.1)
noncomputable def rv (r:Row):List Nat:=r.map (·.2)
noncomputable def addTok (k:Nat):List Str → Row × Nat → Row × Nat
  | [],s=>s
  | t :: ts,s=>if t ∈ rk s.1 then addTok k ts (s.1,s.2 + 1) else addTok k ts (s.1 ++ [(t,k)],s.2)
noncomputable def tabAll (ks:List Str):Nat → List (Str × List Str) → List Row × Nat → List Row × Nat
  | _,[],s=>s
  | k,x :: rest,s=>tabAll ks (k + 1) rest (upd ks s.1 x.1 (addTok k x.2 ((look ks s.1 x.1).getD [],s.2)).1,(addTok k x.2 ((look ks s.1 x.1).getD [],s.2)).2)
theorem addTok_nil {k:Nat} {s:Row × Nat}:addTok k [] s = s:=rfl
theorem addTok_cons {k:Nat} {t:Str} {ts:List Str} {s:Row × Nat}:addTok k (t :: ts) s = if t ∈ rk s.1 then addTok k ts (s.1,s.2 + 1) else addTok k ts (s.1 ++ [(t,k)],s.2):=rfl
theorem tabAll_cons {ks:List Str} {k:Nat} {x:Str × List Str} {r:List (Str × List Str)} {s:List Row × Nat}:tabAll ks k (x :: r) s = tabAll ks (k + 1) r (upd ks s.1 x.1 (addTok k x.2 ((look ks s.1 x.1).getD [],s.2)).1,(addTok k x.2 ((look ks s.1 x.1).getD [],s.2)).2):=rfl
theorem look_snoc {α:Type} {ks:List Str} {vs:List α} {k u:Str} {v:α} (hl:ks.length = vs.length):look (ks ++ [k]) (vs ++ [v]) u = (look ks vs u).or (if u = k then some v else none):=by
  induction ks generalizing vs with
  | nil =>
    cases vs with
    | nil =>
      show (if k = u then some v else none) = _
      by_cases e:u = k
      · subst e; simp [look_cons,look_nil]
      · have e':¬ k = u:=fun q=>e q.symm
        simp [look_cons,look_nil,e,e']
    | cons=>simp at hl
  | cons x ks ih =>
    cases vs with
    | nil=>simp at hl
    | cons w vs =>
      rw [List.cons_append,List.cons_append,look_cons,look_cons]
      split
      · rfl
      · exact ih (by simpa using hl)
theorem addTok_spec (k:Nat):∀ (ts:List Str) (s:Row × Nat),(rk s.1).Nodup → (rk (addTok k ts s).1).Nodup ∧ (addTok k ts s).2 + (addTok k ts s).1.length = s.2 + s.1.length + ts.length ∧ ∀ u,look (rk (addTok k ts s).1) (rv (addTok k ts s).1) u = (look (rk s.1) (rv s.1) u).or (if u ∈ ts then some k else none)
  | [],s,h=>⟨h,rfl,fun u=>by simp [addTok_nil]⟩
  | t :: ts,s,h=>by
    rw [addTok_cons]
    split
    · rename_i ht
      obtain ⟨h1,h2,h3⟩:=addTok_spec k ts (s.1,s.2 + 1) h
      refine ⟨h1,by simp only [List.length_cons] at h2 ⊢; lia,fun u=>?_⟩
      rw [h3 u]
      by_cases e:u = t
      · subst e
        obtain ⟨v,hv⟩:=look_some (ks:=rk s.1) (vs:=rv s.1) (k:=u) (by simp [rk,rv]) ht
        rw [hv]; rfl
      · simp only [List.mem_cons,e,false_or]
    · rename_i ht
      have hnd:(rk (s.1 ++ [(t,k)])).Nodup:=by
        delta rk
        rw [List.map_append,List.nodup_append]
        refine ⟨h,by simp,fun a ha b hb e=>?_⟩
        simp at hb
        subst hb; subst e
        exact ht ha
      obtain ⟨h1,h2,h3⟩:=addTok_spec k ts (s.1 ++ [(t,k)],s.2) hnd
      refine ⟨h1,by simp only [List.length_cons,List.length_append,List.length_nil] at h2 ⊢; lia,fun u=>?_⟩
      rw [h3 u]
      have e1:rk (s.1 ++ [(t,k)]) = rk s.1 ++ [t]:=by simp [rk]
      have e2:rv (s.1 ++ [(t,k)]) = rv s.1 ++ [k]:=by simp [rv]
      simp only [e1,e2]
      rw [look_snoc (by simp [rk,rv])]
      by_cases e:u = t
      · subst e
        rw [look_none ht]; simp
      · simp [e]
noncomputable def szR (rows:List Row):Nat:=(rows.map List.length).sum
theorem szR_upd {ks:List Str} {vs:List Row} {k:Str} {l v:Row} (hn:ks.Nodup) (hl:ks.length = vs.length) (h:look ks vs k = some l):szR (upd ks vs k v) + l.length = szR vs + v.length:=by
  induction ks generalizing vs with
  | nil=>cases vs <;> cases h
  | cons x ks ih =>
    cases vs with
    | nil=>cases h
    | cons u vs =>
      have hl':ks.length = vs.length:=by simpa using hl
      rw [List.nodup_cons] at hn
      have e:upd (x :: ks) (u :: vs) k v = (if x = k then v else u) :: upd ks vs k v:=rfl
      have e2:∀ (a:Row) (b:List Row),szR (a :: b) = a.length + szR b:=fun a b=>by simp [szR]
      rw [e,e2,e2]
      rw [look_cons] at h
      split at h
      · rename_i hx
        cases h
        rw [if_pos hx]
        have:upd ks vs k v = vs:=upd_not hl' (hx ▸ hn.1)
        rw [this]; lia
      · rename_i hx
        rw [if_neg hx]
        have:=ih hn.2 hl' h
        lia
structure RowsOk (ks:List Str) (l:List (Str × List Str)) (s:List Row × Nat):Prop where
  len:ks.length = s.1.length
  row:∀ h ∈ ks,∃ r,look ks s.1 h = some r ∧ (rk r).Nodup ∧ ∀ u,look (rk r) (rv r) u = firstR l h u
  sum:s.2 + szR s.1 = (l.map fun x=>x.2.length).sum
theorem tabAll_spec {ks:List Str} (hn:ks.Nodup):∀ (post pre:List (Str × List Str)) (s:List Row × Nat),(∀ x ∈ post,x.1 ∈ ks) → RowsOk ks pre s → RowsOk ks (pre ++ post) (tabAll ks pre.length post s)
  | [],pre,s,_,H=>by rw [List.append_nil]; exact H
  | x :: post,pre,s,hx,H=>by
    have hk:=hx x (List.mem_cons_self ..)
    refine cps fun Gq hGq=>?_
    obtain ⟨r,e,hnd,hr⟩:=H.row x.1 hk
    obtain ⟨a1,a2,a3⟩:=addTok_spec pre.length x.2 (r,s.2) hnd
    refine hGq ?_
    clear hGq
    have H':RowsOk ks (pre ++ [x]) (upd ks s.1 x.1 (addTok pre.length x.2 ((look ks s.1 x.1).getD [],s.2)).1,(addTok pre.length x.2 ((look ks s.1 x.1).getD [],s.2)).2):=by
      rw [e]
      simp only [Option.getD_some]
      refine ⟨by rw [upd_length H.len],fun h hh=>?_,?_⟩
      · simp only
        rw [look_upd H.len hk]
        by_cases q:h = x.1
        · subst q
          rw [if_pos rfl]
          refine ⟨_,rfl,a1,fun u=>?_⟩
          rw [a3 u,hr u,firstR_snoc]
          simp
        · rw [if_neg q]
          refine cps fun Gq hGq=>?_
          obtain ⟨r',e',hnd',hr'⟩:=H.row h hh
          refine hGq ?_
          clear hGq
          refine ⟨r',e',hnd',fun u=>?_⟩
          rw [hr' u,firstR_snoc,if_neg (fun c=>q c.1.symm)]; simp
      · have:=szR_upd (v:=(addTok pre.length x.2 (r,s.2)).1) hn H.len e
        have h0:=H.sum
        simp only [List.map_append,List.sum_append,List.map_cons,List.map_nil,List.sum_cons,List.sum_nil] at a2 ⊢
        lia
    have:=tabAll_spec hn post (pre ++ [x]) _ (fun y hy=>hx y (List.mem_cons_of_mem _ hy)) H'
    rw [List.length_append,List.length_singleton] at this
    rw [show pre ++ x :: post = (pre ++ [x]) ++ post by simp]
    exact this
theorem look_rep {α:Type} {ks:List Str} {v:α} {h:Str} (hh:h ∈ ks):look ks (ks.map fun zz=>v) h = some v:=by
  refine cps fun Gq hGq=>?_
  obtain ⟨w,e⟩:=look_some (ks:=ks) (vs:=ks.map fun zz=>v) (k:=h) (by simp) hh
  obtain ⟨zz,zz,q⟩:=List.mem_map.mp (look_mem e).2
  refine hGq ?_
  clear hGq
  rw [e,q]
theorem tab_spec {ks:List Str} (hn:ks.Nodup) (l:List (Str × List Str)) (hl:∀ x ∈ l,x.1 ∈ ks):RowsOk ks l (tabAll ks 0 l (ks.map fun zz=>[],0)):=by
  have:=tabAll_spec hn l [] (ks.map fun zz=>[],0) hl ⟨by simp,fun h hh=>⟨[],look_rep hh,List.nodup_nil,fun u=>rfl⟩,by
    simp only [szR,List.map_map,List.map_nil,List.sum_nil,Nat.zero_add]
    clear hn hl
    induction ks with
    | nil=>rfl
    | cons x ks ih=>simpa using ih⟩
  simpa using this
noncomputable def prsDown (l:List (Str × List Str)) (h:Str):Nat → List (Str × Nat)
  | 0=>[]
  | n + 1=>(match l[n]? with
    | some r=>if r.1 = h then r.2.map fun u=>(u,n) else []
    | none=>[]) ++ prsDown l h n
noncomputable def lastP {α:Type}:List (Str × α) → Str → Option α
  | [],_=>none
  | x :: r,u=>(lastP r u).or (if x.1 = u then some x.2 else none)
theorem lastP_nil {α:Type} {u:Str}:lastP ([]:List (Str × α)) u = none:=rfl
theorem lastP_cons {α:Type} {x:Str × α} {r:List (Str × α)} {u:Str}:lastP (x :: r) u = (lastP r u).or (if x.1 = u then some x.2 else none):=rfl
theorem prsDown_succ {l:List (Str × List Str)} {h:Str} {n:Nat} {r:Str × List Str} (e:l[n]? = some r):prsDown l h (n + 1) = (if r.1 = h then r.2.map fun u=>(u,n) else []) ++ prsDown l h n:=by
  have:prsDown l h (n + 1) = (match l[n]? with | some r=>if r.1 = h then r.2.map fun u=>(u,n) else [] | none=>[]) ++ prsDown l h n:=rfl
  rw [this,e]
theorem lastP_app {α:Type} (a b:List (Str × α)) (u:Str):lastP (a ++ b) u = (lastP b u).or (lastP a u):=by
  induction a with
  | nil=>simp [lastP_nil]
  | cons x a ih=>rw [List.cons_append,lastP_cons,lastP_cons,ih,Option.or_assoc]
theorem lastP_row (p:List Str) (n:Nat) (u:Str):lastP (p.map fun u=>(u,n)) u = if u ∈ p then some n else none:=by
  induction p with
  | nil=>rfl
  | cons x p ih =>
    rw [List.map_cons,lastP_cons,ih]
    by_cases h:u ∈ p
    · simp [h]
    · by_cases e:x = u
      · subst e; simp [h]
      · have e':¬ u = x:=fun q=>e q.symm
        simp [h,e,e']
theorem prsDown_last (l:List (Str × List Str)) (h u:Str):∀ n,n ≤ l.length → lastP (prsDown l h n) u = firstR (l.take n) h u
  | 0,_=>by simp [show prsDown l h 0 = [] from rfl,lastP_nil,firstR]
  | n + 1,hn=>by
    have hlt:n < l.length:=by lia
    have hget:l[n]? = some l[n]:=List.getElem?_eq_getElem hlt
    rw [prsDown_succ hget,lastP_app,prsDown_last l h u n (by lia),List.take_add_one,hget]
    simp only [Option.toList_some]
    rw [firstR_snoc,List.length_take,Nat.min_eq_left (by lia)]
    congr 1
    by_cases e:l[n].1 = h
    · rw [if_pos e,lastP_row]; simp [e]
    · rw [if_neg e,if_neg (fun c=>e c.1)]; rfl
theorem prsDown_len (l:List (Str × List Str)) (h:Str):∀ n,n ≤ l.length → (prsDown l h n).length = (((l.take n).filter fun x=>decide (x.1 = h)).map fun x=>x.2.length).sum
  | 0,_=>rfl
  | n + 1,hn=>by
    have hlt:n < l.length:=by lia
    have hget:l[n]? = some l[n]:=List.getElem?_eq_getElem hlt
    rw [prsDown_succ hget,List.length_append,prsDown_len l h n (by lia),List.take_add_one,hget]
    simp only [Option.toList_some,List.filter_append,List.map_append,List.sum_append]
    by_cases e:l[n].1 = h
    · rw [if_pos e]; simp [e]; lia
    · rw [if_neg e]; simp [e]
theorem look_put {ks:List Str} {vs:List PV} {k u:Str} {v:PV} (hl:ks.length = vs.length):look (put ks vs k v).1 (put ks vs k v).2 u = if u = k then some v else look ks vs u:=by
  by_cases h:k ∈ ks
  · rw [put_mem h]; exact look_upd hl h
  · rw [put_new h]
    simp only
    rw [look_snoc hl]
    by_cases e:u = k
    · subst e; rw [look_none h]; simp
    · simp [e]
theorem put_ok {ks:List Str} {vs:List PV} {k:Str} {v:PV} (hl:ks.length = vs.length) (hn:ks.Nodup):(put ks vs k v).1.length = (put ks vs k v).2.length ∧ (put ks vs k v).1.Nodup:=by
  by_cases h:k ∈ ks
  · rw [put_mem h]; exact ⟨(upd_length hl).symm,hn⟩
  · rw [put_new h]
    refine ⟨by simp [hl],?_⟩
    rw [List.nodup_append]
    refine ⟨hn,by simp,fun a ha b hb e=>?_⟩
    rw [List.mem_singleton] at hb
    subst hb; subst e
    exact h ha
theorem putAll_spec:∀ (ps:List (Str × PV)) (kd:List Str × List PV),kd.1.length = kd.2.length → kd.1.Nodup →
    (putAll ps kd).1.length = (putAll ps kd).2.length ∧ (putAll ps kd).1.Nodup ∧ ∀ u,look (putAll ps kd).1 (putAll ps kd).2 u = (lastP ps u).or (look kd.1 kd.2 u)
  | [],kd,hl,hn=>⟨hl,hn,fun u=>by simp [show putAll [] kd = kd from rfl,lastP_nil]⟩
  | (k,d) :: r,kd,hl,hn=>by
    refine cps fun Gq hGq=>?_
    obtain ⟨h1,h2⟩:=put_ok (k:=k) (v:=d) hl hn
    obtain ⟨a,b,c⟩:=putAll_spec r (put kd.1 kd.2 k d) h1 h2
    refine hGq ?_
    clear hGq
    rw [putAll_cons]
    refine ⟨a,b,fun u=>?_⟩
    rw [c u,look_put hl,lastP_cons,Option.or_assoc]
    congr 1
    by_cases e:u = k
    · subst e; simp
    · have e':¬ k = u:=fun q=>e q.symm
      simp [e,e']
noncomputable def pvs (ps:List (Str × Nat)):List (Str × PV):=ps.map fun p=>(p.1,PV.int p.2)
theorem lastP_pvs (ps:List (Str × Nat)) (u:Str):lastP (pvs ps) u = (lastP ps u).map fun k:Nat=>PV.int k:=by
  induction ps with
  | nil=>rfl
  | cons x ps ih =>
    have:pvs (x :: ps) = (x.1,PV.int x.2) :: pvs ps:=rfl
    rw [this,lastP_cons,lastP_cons,ih]
    cases lastP ps u with
    | none=>simp only [Option.map_none,Option.none_or]; split <;> rfl
    | some k=>rfl
noncomputable def lawRow (l:List (Str × List Str)) (h:Str):List Str × List PV:=putAll (pvs (prsDown l h l.length)) ([],[])
theorem lawRow_spec (l:List (Str × List Str)) (h:Str):(lawRow l h).1.length = (lawRow l h).2.length ∧ (lawRow l h).1.Nodup ∧ ∀ u,look (lawRow l h).1 (lawRow l h).2 u = (firstR l h u).map fun k:Nat=>PV.int k:=by
  obtain ⟨a,b,c⟩:=putAll_spec (pvs (prsDown l h l.length)) ([],[]) rfl List.nodup_nil
  refine ⟨a,b,fun u=>?_⟩
  have:=c u
  delta lawRow
  rw [this,lastP_pvs,prsDown_last l h u _ (Nat.le_refl _),List.take_length]
  simp [look_cons,look_nil]
theorem keys_len {ks ks':List Str} {α β:Type} {vs:List α} {vs':List β} (hl:ks.length = vs.length) (hl':ks'.length = vs'.length) (hn:ks.Nodup) (hn':ks'.Nodup) (h:∀ u,(look ks vs u).isSome = (look ks' vs' u).isSome):ks.length = ks'.length:=by
  have hm:∀ u,u ∈ ks ↔ u ∈ ks':=fun u=>by
    have:=h u
    rw [look_isSome hl,look_isSome hl'] at this
    simpa using this
  exact ((List.perm_ext_iff_of_nodup hn hn').mpr hm).length_eq
noncomputable def encRow (r:Row):PV:=.dict (rk r) ((rv r).map fun k:Nat=>PV.int k)
theorem look_zip {α:Type}:∀ {ks:List Str} {vs:List α} {p:Str × α},ks.Nodup → p ∈ ks.zip vs → look ks vs p.1 = some p.2
  | [],vs,p,_,h=>by simp at h
  | x :: ks,[],p,_,h=>by simp at h
  | x :: ks,v :: vs,p,hn,h=>by
    rw [List.nodup_cons] at hn
    rw [List.zip_cons_cons,List.mem_cons] at h
    rw [look_cons]
    rcases h with rfl | h
    · simp
    · have hk:=(List.of_mem_zip h).1
      rw [if_neg (fun e:x = p.1=>hn.1 (e ▸ hk))]
      exact look_zip hn.2 h
theorem row_eq {l:List (Str × List Str)} {h:Str} {r:Row} (hn:(rk r).Nodup) (hr:∀ u,look (rk r) (rv r) u = firstR l h u):(rk r).length = (lawRow l h).1.length ∧ rowEq (.tup [.str h,encRow r]) (.tup [.str h,.dict (lawRow l h).1 (lawRow l h).2]) = true:=by
  obtain ⟨a,b,c⟩:=lawRow_spec l h
  have hlen:(rk r).length = (lawRow l h).1.length:=keys_len (vs:=rv r) (by simp [rk,rv]) a hn b fun u=>by rw [hr u,c u]; simp
  refine ⟨hlen,?_⟩
  show (decide (h = h) && (decide ((rk r).length = (lawRow l h).1.length) && ((rk r).zip ((rv r).map fun k:Nat=>PV.int k)).all (hitAt (lawRow l h).1 (lawRow l h).2))) = true
  rw [decide_eq_true hlen,decide_eq_true rfl,Bool.true_and,Bool.true_and,List.all_eq_true]
  intro p hp
  have h1:=look_zip hn hp
  rw [look_map,hr p.1] at h1
  have h2:=c p.1
  cases hf:firstR l h p.1 with
  | none=>rw [hf] at h1; cases h1
  | some k =>
    rw [hf] at h1 h2
    simp only [Option.map_some,Option.some.injEq] at h1 h2
    delta hitAt
    rw [h2,← h1]
    exact beq_self_eq_true _
theorem sum_heads (l:List (Str × List Str)):∀ (ks:List Str),ks.Nodup → (∀ x ∈ l,x.1 ∈ ks) → (ks.map fun h=>((l.filter fun x=>decide (x.1 = h)).map fun x=>x.2.length).sum).sum = (l.map fun x=>x.2.length).sum:=by
  induction l with
  | nil =>
    intro ks hn zz
    clear hn
    induction ks with
    | nil=>rfl
    | cons k ks ih =>
      rw [List.map_cons,List.sum_cons,ih (by simp)]
      rfl
  | cons x l ih =>
    intro ks hn hx
    have h0:=ih ks hn fun y hy=>hx y (List.mem_cons_of_mem _ hy)
    rw [List.map_cons,List.sum_cons,← h0]
    have hk:=hx x (List.mem_cons_self ..)
    clear ih h0 hx
    induction ks with
    | nil=>cases hk
    | cons k ks ih =>
      rw [List.nodup_cons] at hn
      rw [List.map_cons,List.map_cons,List.sum_cons,List.sum_cons]
      by_cases e:x.1 = k
      · have hf:∀ h ∈ ks,((x :: l).filter fun y=>decide (y.1 = h)) = l.filter fun y=>decide (y.1 = h):=fun h hh=>by
          rw [List.filter_cons,if_neg (by simp; intro q; exact hn.1 (by rw [← e,q]; exact hh))]
        have e2:(ks.map fun h=>(((x :: l).filter fun y=>decide (y.1 = h)).map fun y=>y.2.length).sum) = ks.map fun h=>((l.filter fun y=>decide (y.1 = h)).map fun y=>y.2.length).sum:=List.map_congr_left fun h hh=>by rw [hf h hh]
        rw [e2,List.filter_cons,if_pos (by simpa using e)]
        simp only [List.map_cons,List.sum_cons]
        lia
      · have hk':x.1 ∈ ks:=(List.mem_cons.mp hk).resolve_left e
        rw [ih hn.2 hk',List.filter_cons,if_neg (by simpa using e)]
        lia
end Mine
namespace Mine
open PySem L7
noncomputable def ruleP (rules:List Rl):List (Str × List Str):=rules.map fun r=>(r.h,r.p)
noncomputable def encP (p:Str × Nat):PV:=.tup [.str p.1,.int p.2]
theorem asPairs_enc (ps:List (Str × Nat)):asPairs (ps.map encP) = some (pvs ps):=by
  induction ps with
  | nil=>rfl
  | cons p ps ih =>
    rw [List.map_cons]
    show (asPairs (ps.map encP)).map _ = _
    rw [ih]; rfl
theorem newlR_pairs (ps:List (Str × Nat)) (h:ps.length ≤ lim):newlR (ps.map fun p=>⟨encP p,true,true⟩) = some ⟨.list (ps.map encP),true,true⟩:=by
  delta newlR newl
  have e1:(ps.map fun p=>(⟨encP p,true,true⟩:RV)).map (·.d) = ps.map encP:=by rw [List.map_map]; rfl
  have e2:(ps.map fun p=>(⟨encP p,true,true⟩:RV)).all (·.f) = true:=by simp
  have e3:(ps.map fun p=>(⟨encP p,true,true⟩:RV)).all (·.c) = true:=by simp
  rw [e1,e2,e3,if_pos (by simpa using h)]
  split <;> rfl
theorem acompL_row {go:PV → Option (List RV)} (k:Nat) (p:List Str) (h:∀ u ∈ p,go (.str u) = some [⟨encP (u,k),true,true⟩]):acompL go (p.map PV.str) = some ((p.map fun u=>(u,k)).map fun q=>⟨encP q,true,true⟩):=by
  induction p with
  | nil=>rfl
  | cons u p ih =>
    rw [List.map_cons,acompL_cons,h u (List.mem_cons_self ..),Option.bind_some,ih (fun v hv=>h v (List.mem_cons_of_mem _ hv)),Option.bind_some]
    rfl
theorem acompL_down {go:PV → Option (List RV)} {l:List (Str × List Str)} {hd:Str}:∀ (n:Nat),n ≤ l.length → (∀ k < n,∀ r,l[k]? = some r → go (.int k) = some ((if r.1 = hd then r.2.map fun u=>(u,k) else []).map fun q=>⟨encP q,true,true⟩)) →
    acompL go (downFrom ((n:Int) - 1) n) = some ((prsDown l hd n).map fun q=>⟨encP q,true,true⟩)
  | 0,_,_=>rfl
  | n + 1,hn,h=>by
    have hlt:n < l.length:=by lia
    have hget:l[n]? = some l[n]:=List.getElem?_eq_getElem hlt
    have ih:=acompL_down n (by lia) (go:=go) (hd:=hd) fun k hk r hr=>h k (by lia) r hr
    rw [downFrom_succ,acompL_cons,show (((n + 1:Nat):Int) - 1) = (n:Int) by lia,h n (by lia) _ hget,Option.bind_some,ih,Option.bind_some,prsDown_succ hget,List.map_append]
section
variable {Φ:FTab}
theorem ev_rangeDown {σ:Sig} {a:SExpr} {n:Nat} {f c:Bool} (h1:aeval Φ a σ = some ⟨.int ((n:Int) - 1),f,c⟩) (h:n ≤ lim):aeval Φ (.rangeDown a) σ = some ⟨.rng ((n:Int) - 1) (-1) (-1),true,true⟩:=by
  exact bind_to h1 (bind_to (a:=(n:Int) - 1) rfl (if_pos ⟨by lia,by lia⟩))
theorem aiter_down (n:Nat):aiter (.rng ((n:Int) - 1) (-1) (-1)) = some (downFrom ((n:Int) - 1) n):=by
  have:aiter (.rng ((n:Int) - 1) (-1) (-1)) = some (downFrom ((n:Int) - 1) (((n:Int) - 1) - (-1)).toNat):=by delta aiter; simp
  rw [this,show (((n:Int) - 1) - (-1)).toNat = n by lia]
theorem ev_dictOf {σ:Sig} {a:SExpr} {ps:List (Str × Nat)} (h1:aeval Φ a σ = some ⟨.list (ps.map encP),true,true⟩):aeval Φ (.dictOf a) σ = some ⟨.dict (putAll (pvs ps) ([],[])).1 (putAll (pvs ps) ([],[])).2,true,true⟩:=by
  exact bind_to h1 (bind_to (a:=ps.map encP) rfl (bind_to (asPairs_enc _) rfl))
noncomputable def clI (l:List (Str × List Str)) (hs:List Str):Int:=(hs.map fun h=>((prsDown l h l.length).length:Int) - ((lawRow l h).1.length:Int)).sum
noncomputable def lawRows (l:List (Str × List Str)) (hs:List Str):List PV:=hs.map fun h=>.tup [.str h,.dict (lawRow l h).1 (lawRow l h).2]
theorem idx_encQs {rules:List Rl} {k:Nat} {r:Rl} {f c:Bool} (hr:rules[k]? = some r):aidx ⟨encQs rules,f,c⟩ (.int k) = some ⟨encQ r,f,c⟩:=by
  have:aidx ⟨encQs rules,f,c⟩ (.int k) = if 0 ≤ (k:Int) then ((rules.map encQ)[(k:Int).toNat]?).map (part ⟨encQs rules,f,c⟩) else if -((rules.map encQ).length:Int) ≤ (k:Int) then ((rules.map encQ)[((k:Int) + ((rules.map encQ).length:Int)).toNat]?).map (part ⟨encQs rules,f,c⟩) else Option.none:=rfl
  rw [this,if_pos (by lia),Int.toNat_natCast,List.getElem?_map,hr]; rfl
theorem run_law_table (rules:List Rl) (hr:rules.length ≤ 100) (hp:∀ h,(prsDown (ruleP rules) h rules.length).length ≤ lim) (n:Nat) :
    aexecs Φ n ss_law_table (initσ 6 [encQs rules]) = some (.ret ⟨.tup [.list (lawRows (ruleP rules) (metS (rules.map (·.h)))),.int (clI (ruleP rules) (metS (rules.map (·.h))))],true,false⟩):=by
  delta ss_law_table
  refine seq_ownl0 (seq_fr (A:=Rl) encQ rules (q:=⟨encQs rules,false,true⟩) (fun pre σ=>∃ r,σ = [some ⟨encQs rules,false,true⟩,some ⟨encS (metS (pre.map (·.h))),true,false⟩,r,Option.none,Option.none,Option.none,Option.none]) (ev_var rfl) rfl rfl ⟨_,rfl⟩ ?_ ?_)
  · rintro pre a post σ e ⟨r,rfl⟩
    have hlen:(metS (pre.map (·.h))).length < lim:=Nat.lt_of_le_of_lt (metS_len _) (by have:=pre_len e; rw [List.length_map]; delta lim; lia)
    have hc:aeval Φ (.cmp .NotIn (.idx (.var 2) (.int 0)) (.var 1)) [some ⟨encQs rules,false,true⟩,some ⟨encS (metS (pre.map (·.h))),true,false⟩,some ⟨encQ a,false,true⟩,Option.none,Option.none,Option.none,Option.none] = some (at1 (.bool (!decide (a.h ∈ metS (pre.map (·.h)))))) :=
      ev_cmp (ev_idx (ev_var rfl) ev_int rfl) (ev_var rfl) (notIn_encS _ _)
    refine ⟨[some ⟨encQs rules,false,true⟩,some ⟨encS (metS ((pre ++ [a]).map (·.h))),true,false⟩,some ⟨encQ a,false,true⟩,Option.none,Option.none,Option.none,Option.none],seq_if hc rfl ?_ seq_nil,_,rfl⟩
    rw [List.map_append,List.map_cons,List.map_nil,metS_snoc,addS]
    by_cases hm:a.h ∈ metS (pre.map (·.h))
    · simp only [hm,decide_true,Bool.not_true,Bool.false_eq_true,if_false,if_true]
      exact seq_nil
    · simp only [hm,decide_false,Bool.not_false,if_false,if_true]
      refine seq_app (ds:=(metS (pre.map (·.h))).map PV.str) (r:=at1 (.str a.h)) rfl (ev_idx (ev_var rfl) ev_int rfl) rfl (by rw [List.length_map]; exact hlen) ?_
      rw [seq_nil]
      simp [encS,at1]
      rfl
  · rintro σ ⟨r,rfl⟩
    let l:=ruleP rules
    let hs:=metS (rules.map (·.h))
    have hll:l.length = rules.length:=by simp [l,ruleP]
    refine seq_ownl0 (seq_set (r:=at1 (.int 0)) ev_int rfl (seq_rel (d:=encS hs) (f:=true) rfl ?_))
    refine seq_fr (A:=Str) PV.str hs (q:=⟨encS hs,true,true⟩) (fun pre σ=>∃ r5 r6,σ = [some ⟨encQs rules,false,true⟩,some ⟨encS hs,true,true⟩,r,some ⟨.list (lawRows l pre),true,false⟩,some (at1 (.int (clI l pre))),r5,r6]) (ev_var rfl) rfl rfl ⟨_,_,rfl⟩ ?_ ?_
    · rintro pre hd post σ e ⟨r5,r6,rfl⟩
      have hsl:pre.length < 1000:=by
        have:=pre_len e
        have h2:hs.length ≤ (rules.map (·.h)).length:=metS_len _
        rw [List.length_map] at h2
        lia
      have hcomp:aeval Φ (.comp2 (.tup [.var 8,.var 7]) (.rangeDown (.bin .Sub (.len (.var 0)) (.int 1))) (.cmp .Eq (.idx (.idx (.var 0) (.var 7)) (.int 0)) (.var 5)) (.idx (.idx (.var 0) (.var 7)) (.int 2))) [some ⟨encQs rules,false,true⟩,some ⟨encS hs,true,true⟩,r,some ⟨.list (lawRows l pre),true,false⟩,some (at1 (.int (clI l pre))),some (at1 (.str hd)),r6] = some ⟨.list ((prsDown l hd l.length).map encP),true,true⟩:=by
        have hrd:aeval Φ (.rangeDown (.bin .Sub (.len (.var 0)) (.int 1))) [some ⟨encQs rules,false,true⟩,some ⟨encS hs,true,true⟩,r,some ⟨.list (lawRows l pre),true,false⟩,some (at1 (.int (clI l pre))),some (at1 (.str hd)),r6] = some ⟨.rng ((l.length:Int) - 1) (-1) (-1),true,true⟩:=by
          refine ev_rangeDown (f:=true) (c:=true) (ev_bin (ev_len (n:=rules.length) (ev_var rfl) ?_) ev_int ?_) (by delta lim; lia)
          · show some (rules.map encQ).length = _
            rw [List.length_map]
          · rw [hll]; rfl
        refine bind_to hrd (bind_to (aiter_down _) (bind_to (acompL_down (l:=l) (hd:=hd) l.length (Nat.le_refl _) ?_) ?_))
        rotate_left
        · exact newlR_pairs _ (by rw [hll]; exact hp hd)
        · intro k hk rr hrr
          have hgk:∃ q,rules[k]? = some q ∧ rr = (q.h,q.p):=by
            have hr':(rules.map fun r=>(r.h,r.p))[k]? = some rr:=hrr
            rw [List.getElem?_map,Option.map_eq_some_iff] at hr'
            obtain ⟨q,h1,h2⟩:=hr'
            exact ⟨q,h1,h2.symm⟩
          obtain ⟨q,hq,rfl⟩:=hgk
          rw [part_int]
          simp only [List.cons_append,List.nil_append]
          rw [ev_cmp (k:=decide (q.h = hd)) (ev_idx (t:=at1 (.str q.h)) (ev_idx (r:=⟨encQs rules,false,true⟩) (q:=at1 (.int k)) (t:=⟨encQ q,false,true⟩) (ev_var rfl) (ev_var rfl) (idx_encQs hq)) ev_int rfl) (ev_var (r:=at1 (.str hd)) rfl) (by show acmp .Eq (.str q.h) (.str hd) = _; rw [eqStr]; congr 1),Option.bind_some]
          show (if decide (q.h = hd) then _ else some []) = _
          by_cases e:q.h = hd
          · rw [if_pos (by simpa using e),if_pos e]
            rw [ev_idx (t:=⟨encS q.p,false,true⟩) (ev_idx (r:=⟨encQs rules,false,true⟩) (q:=at1 (.int k)) (t:=⟨encQ q,false,true⟩) (ev_var rfl) (ev_var rfl) (idx_encQs hq)) ev_int rfl,Option.bind_some]
            show acompL _ (q.p.map PV.str) = _
            refine acompL_row k q.p fun u zz=>?_
            rw [ev_tup (rs:=[at1 (.str u),at1 (.int k)]) (evs_cons (ev_var rfl) (evs_cons (ev_var rfl) evs_nil)) (show 2 ≤ lim by decide)]
            rfl
          · rw [if_neg (by simpa using e),if_neg e]; rfl
      refine ⟨[some ⟨encQs rules,false,true⟩,some ⟨encS hs,true,true⟩,r,some ⟨.list (lawRows l (pre ++ [hd])),true,false⟩,some (at1 (.int (clI l (pre ++ [hd])))),some (at1 (.str hd)),some ⟨.list ((prsDown l hd l.length).map encP),true,true⟩],seq_setc (r:=⟨.list ((prsDown l hd l.length).map encP),true,true⟩) hcomp rfl ?_,_,_,rfl⟩
      refine seq_app (ds:=lawRows l pre) (r:=⟨.tup [.str hd,.dict (lawRow l hd).1 (lawRow l hd).2],true,true⟩) rfl (ev_tup (rs:=[at1 (.str hd),⟨.dict (lawRow l hd).1 (lawRow l hd).2,true,true⟩]) (evs_cons (ev_var rfl) (evs_cons (ev_dictOf (ev_var rfl)) evs_nil)) (show 2 ≤ lim by decide)) rfl (by simp [lawRows,lim]; lia) ?_
      refine seq_set (r:=at1 (.int (clI l (pre ++ [hd])))) (ev_bin (ev_bin (t:=at1 (.int (clI l pre + (prsDown l hd l.length).length))) (ev_var rfl) (ev_len (n:=(prsDown l hd l.length).length) (ev_var rfl) (by show some ((prsDown l hd l.length).map encP).length = _; rw [List.length_map])) rfl) (ev_len (n:=(lawRow l hd).1.length) (ev_dictOf (ev_var rfl)) rfl) ?_) rfl ?_
      · show some (at1 (.int (clI l pre + (prsDown l hd l.length).length - (lawRow l hd).1.length))) = _
        congr 3
        simp only [clI,List.map_append,List.map_cons,List.map_nil,List.sum_append,List.sum_cons,List.sum_nil]
        lia
      · rw [seq_nil]
        simp [lawRows]
        rfl
    · rintro σ ⟨r5,r6,rfl⟩
      exact seq_ret (ev_tup (rs:=[⟨.list (lawRows l hs),true,false⟩,at1 (.int (clI l hs))]) (evs_cons (ev_var rfl) (evs_cons (ev_var rfl) evs_nil)) (show 2 ≤ lim by decide))
end
end Mine
namespace Mine
open PySem L7
structure Nm where
  (S L T O V D x y s e:Str)
  tail:List Str
  o:Bool
noncomputable def Nm.after (m:Nm):List Str:=sortS (metS [m.s,m.e])
noncomputable def Nm.start (m:Nm):List Str:=if m.o then sortS (metS [m.x,m.s,m.e]) else [m.x]
noncomputable def Nm.base (m:Nm):List Rl:=[⟨m.S,m.L :: m.tail,m.start,m.L⟩,⟨m.L,[m.O,m.T],m.start,m.O⟩,⟨m.T,[m.s,m.L],[m.s],m.L⟩,⟨m.T,[],[m.e],""⟩,⟨m.O,[m.x,m.V],[m.x],m.V⟩,⟨m.V,[m.y],[m.y],m.T⟩,⟨m.V,[],m.after,m.T⟩] ++ (if m.o then [⟨m.O,[],m.after,m.T⟩] else [])
structure Nm.Ok (m:Nm):Prop where
  SL:m.S ≠ m.L
  ST:m.S ≠ m.T
  SO:m.S ≠ m.O
  SV:m.S ≠ m.V
  LT:m.L ≠ m.T
  LO:m.L ≠ m.O
  LV:m.L ≠ m.V
  TO:m.T ≠ m.O
  TV:m.T ≠ m.V
  OV:m.O ≠ m.V
  let_:∀ z ∈ m.x :: m.y :: m.s :: m.D :: m.tail,z ≠ m.S ∧ z ≠ m.L ∧ z ≠ m.T ∧ z ≠ m.O ∧ z ≠ m.V
  he:m.e = (match m.tail with | []=>m.D | t :: _=>t)
variable {m:Nm}
theorem Nm.Ok.e_ne (H:m.Ok):m.e ≠ m.S ∧ m.e ≠ m.L ∧ m.e ≠ m.T ∧ m.e ≠ m.O ∧ m.e ≠ m.V:=by
  rw [H.he]
  have h:=H.let_
  cases ht:m.tail with
  | nil=>rw [ht] at h; exact h _ (by simp)
  | cons t r=>rw [ht] at h; exact h _ (by simp)
structure GrM (m:Nm) (R:List Rl):Prop where
  ok:m.Ok
  mem:∀ r,r ∈ R ↔ r ∈ m.base
variable {R:List Rl}
noncomputable def headsM (m:Nm):List Str:=[m.S,m.L,m.T,m.O,m.V]
theorem GrM.gmem (H:GrM m R) {r:Rule}:r ∈ gOfR R ↔ ∃ q ∈ m.base,r = (q.h,q.b):=by
  delta gOfR
  rw [List.mem_map]
  constructor
  · rintro ⟨q,hq,rfl⟩; exact ⟨q,(H.mem q).mp hq,rfl⟩
  · rintro ⟨q,hq,rfl⟩; exact ⟨q,(H.mem q).mpr hq,rfl⟩
theorem mem5 {α:Type} {q a b c d e:α} (h:q ∈ [a,b,c,d,e]):q = a ∨ q = b ∨ q = c ∨ q = d ∨ q = e:=by simpa using h
theorem mem7 {α:Type} {q a b c d e f g:α} (h:q ∈ [a,b,c,d,e,f,g]):q = a ∨ q = b ∨ q = c ∨ q = d ∨ q = e ∨ q = f ∨ q = g:=by simpa using h
theorem or78 {a b c d e f g h:Prop} (x:a ∨ b ∨ c ∨ d ∨ e ∨ f ∨ g):a ∨ b ∨ c ∨ d ∨ e ∨ f ∨ g ∨ h:=x.imp id (Or.imp id (Or.imp id (Or.imp id (Or.imp id (Or.imp id .inl)))))
theorem or88 {a b c d e f g h:Prop} (x:h):a ∨ b ∨ c ∨ d ∨ e ∨ f ∨ g ∨ h:=.inr (.inr (.inr (.inr (.inr (.inr (.inr x))))))
theorem mem_if {α:Type} {q a:α} {b:Bool} (h:q ∈ (if b then [a] else [])):b = true ∧ q = a:=by
  cases b with
  | false=>cases h
  | true=>exact ⟨rfl,List.mem_singleton.mp h⟩
theorem base_cases {q:Rl} (h:q ∈ m.base):q = ⟨m.S,m.L :: m.tail,m.start,m.L⟩ ∨ q = ⟨m.L,[m.O,m.T],m.start,m.O⟩ ∨ q = ⟨m.T,[m.s,m.L],[m.s],m.L⟩ ∨ q = ⟨m.T,[],[m.e],""⟩ ∨ q = ⟨m.O,[m.x,m.V],[m.x],m.V⟩ ∨ q = ⟨m.V,[m.y],[m.y],m.T⟩ ∨ q = ⟨m.V,[],m.after,m.T⟩ ∨ (m.o = true ∧ q = ⟨m.O,[],m.after,m.T⟩):=(List.mem_append.mp h).elim (fun h=>or78 (mem7 h)) fun h=>or88 (mem_if h)
theorem b1:(⟨m.S,m.L :: m.tail,m.start,m.L⟩:Rl) ∈ m.base:=List.mem_append_left _ (.head _)
theorem b2:(⟨m.L,[m.O,m.T],m.start,m.O⟩:Rl) ∈ m.base:=List.mem_append_left _ (.tail _ (.head _))
theorem b3:(⟨m.T,[m.s,m.L],[m.s],m.L⟩:Rl) ∈ m.base:=List.mem_append_left _ (.tail _ (.tail _ (.head _)))
theorem b4:(⟨m.T,[],[m.e],""⟩:Rl) ∈ m.base:=List.mem_append_left _ (.tail _ (.tail _ (.tail _ (.head _))))
theorem b5:(⟨m.O,[m.x,m.V],[m.x],m.V⟩:Rl) ∈ m.base:=List.mem_append_left _ (.tail _ (.tail _ (.tail _ (.tail _ (.head _)))))
theorem b6:(⟨m.V,[m.y],[m.y],m.T⟩:Rl) ∈ m.base:=List.mem_append_left _ (.tail _ (.tail _ (.tail _ (.tail _ (.tail _ (.head _))))))
theorem b7:(⟨m.V,[],m.after,m.T⟩:Rl) ∈ m.base:=List.mem_append_left _ (.tail _ (.tail _ (.tail _ (.tail _ (.tail _ (.tail _ (.head _)))))))
theorem b8 (ho:m.o = true):(⟨m.O,[],m.after,m.T⟩:Rl) ∈ m.base:=List.mem_append_right _ (by rw [ho]; exact .head _)
noncomputable def hdsR (R:List Rl):List Str:=metS ((gOfR R).map (·.1))
theorem GrM.ks (H:GrM m R) (h:Str):h ∈ hdsR R ↔ h ∈ headsM m:=by
  delta hdsR
  rw [mem_metS,List.mem_map]
  constructor
  · rintro ⟨r,hr,rfl⟩
    obtain ⟨q,hq,rfl⟩:=H.gmem.mp hr
    rcases base_cases hq with rfl | rfl | rfl | rfl | rfl | rfl | rfl | ⟨_,rfl⟩ <;> simp [headsM]
  · intro hh
    simp only [headsM,List.mem_cons,List.not_mem_nil,or_false] at hh
    rcases hh with rfl | rfl | rfl | rfl | rfl
    · exact ⟨_,H.gmem.mpr ⟨_,b1,rfl⟩,rfl⟩
    · exact ⟨_,H.gmem.mpr ⟨_,b2,rfl⟩,rfl⟩
    · exact ⟨_,H.gmem.mpr ⟨_,b3,rfl⟩,rfl⟩
    · exact ⟨_,H.gmem.mpr ⟨_,b5,rfl⟩,rfl⟩
    · exact ⟨_,H.gmem.mpr ⟨_,b6,rfl⟩,rfl⟩
theorem GrM.rule (H:GrM m R) {q:Rl} (hq:q ∈ m.base):(q.h,q.b) ∈ gOfR R:=H.gmem.mpr ⟨q,hq,rfl⟩
noncomputable def nulM (m:Nm) (h:Str):Prop:=h = m.T ∨ h = m.V ∨ (m.o = true ∧ (h = m.O ∨ h = m.L)) ∨ (m.o = true ∧ m.tail = [] ∧ h = m.S)
theorem GrM.nul (H:GrM m R) {nl:List Str} (N:IsNul (gOfR R) nl) (h:Str):h ∈ nl ↔ nulM m h:=by
  have K:=H.ok
  have hT:m.T ∈ nl:=N.closed _ (H.rule b4) (by simp)
  have hV:m.V ∈ nl:=N.closed _ (H.rule b7) (by simp)
  have hO:m.o = true → m.O ∈ nl:=fun ho=>N.closed _ (H.rule (b8 ho)) (by simp)
  have hL:m.o = true → m.L ∈ nl:=fun ho=>N.closed _ (H.rule b2) (by simp [hO ho,hT])
  constructor
  · intro hh
    refine N.least (nulM m) ?_ h hh
    intro r hr hs
    obtain ⟨q,hq,rfl⟩:=H.gmem.mp hr
    rcases base_cases hq with rfl | rfl | rfl | rfl | rfl | rfl | rfl | ⟨ho,rfl⟩
    · have h1:=hs m.L (by simp)
      have ho:m.o = true:=by
        rcases h1 with e | e | ⟨ho,zz⟩ | ⟨ho,zz⟩
        · exact absurd e K.LT
        · exact absurd e K.LV
        · exact ho
        · exact ho
      refine .inr (.inr (.inr ⟨ho,?_,rfl⟩))
      cases ht:m.tail with
      | nil=>rfl
      | cons t tl =>
        have h2:=hs t (by simp [ht])
        have h3:=K.let_ t (by simp [ht])
        rcases h2 with e | e | ⟨zz,e | e⟩ | ⟨zz,zz,e⟩
        · exact absurd e h3.2.2.1
        · exact absurd e h3.2.2.2.2
        · exact absurd e h3.2.2.2.1
        · exact absurd e h3.2.1
        · exact absurd e h3.1
    · have h1:=hs m.O (by simp)
      have ho:m.o = true:=by
        rcases h1 with e | e | ⟨ho,zz⟩ | ⟨ho,zz⟩
        · exact absurd e.symm K.TO
        · exact absurd e K.OV
        · exact ho
        · exact ho
      exact .inr (.inr (.inl ⟨ho,.inr rfl⟩))
    · exact .inl rfl
    · exact .inl rfl
    · have h3:=K.let_ m.x (by simp)
      rcases hs m.x (by simp) with e | e | ⟨zz,e | e⟩ | ⟨zz,zz,e⟩
      · exact absurd e h3.2.2.1
      · exact absurd e h3.2.2.2.2
      · exact absurd e h3.2.2.2.1
      · exact absurd e h3.2.1
      · exact absurd e h3.1
    · exact .inr (.inl rfl)
    · exact .inr (.inl rfl)
    · exact .inr (.inr (.inl ⟨ho,.inl rfl⟩))
  · rintro (rfl | rfl | ⟨ho,rfl | rfl⟩ | ⟨ho,ht,rfl⟩)
    · exact hT
    · exact hV
    · exact hO ho
    · exact hL ho
    · exact N.closed _ (H.rule b1) (by simp [ht,hL ho])
noncomputable def fstM (m:Nm) (h t:Str):Prop:=(h = m.T ∧ t = m.s) ∨ (h = m.V ∧ t = m.y) ∨ (h = m.O ∧ t = m.x) ∨ (h = m.L ∧ (t = m.x ∨ (m.o = true ∧ t = m.s))) ∨ (h = m.S ∧ (t = m.x ∨ (m.o = true ∧ (t = m.s ∨ m.tail.head? = some t))))
noncomputable def folM (m:Nm) (h t:Str):Prop:=(h = m.S ∧ t = m.D) ∨ ((h = m.L ∨ h = m.T) ∧ t = m.e) ∨ ((h = m.O ∨ h = m.V) ∧ (t = m.s ∨ t = m.e))
structure Kn (m:Nm) (ks nl:List Str):Prop where
  kS:m.S ∈ ks
  kL:m.L ∈ ks
  kT:m.T ∈ ks
  kO:m.O ∈ ks
  kV:m.V ∈ ks
  kx:m.x ∉ ks
  ky:m.y ∉ ks
  ksm:m.s ∉ ks
  kD:m.D ∉ ks
  ktail:∀ t ∈ m.tail,t ∉ ks
  nT:m.T ∈ nl
  nV:m.V ∈ nl
  nO:m.O ∈ nl ↔ m.o = true
  nL:m.L ∈ nl ↔ m.o = true
theorem GrM.kn (H:GrM m R) {nl:List Str} (N:IsNul (gOfR R) nl):Kn m (hdsR R) nl:=by
  have K:=H.ok
  have notin:∀ z ∈ m.x :: m.y :: m.s :: m.D :: m.tail,z ∉ hdsR R:=fun z hz hh=>by
    have:=(H.ks z).mp hh
    have h3:=K.let_ z hz
    simp only [headsM,List.mem_cons,List.not_mem_nil,or_false] at this
    rcases this with e | e | e | e | e
    · exact h3.1 e
    · exact h3.2.1 e
    · exact h3.2.2.1 e
    · exact h3.2.2.2.1 e
    · exact h3.2.2.2.2 e
  refine ⟨(H.ks _).mpr (by first | exact .head _ | exact .tail _ (.head _) | exact .tail _ (.tail _ (.head _)) | exact .tail _ (.tail _ (.tail _ (.head _))) | exact .tail _ (.tail _ (.tail _ (.tail _ (.head _))))),(H.ks _).mpr (by first | exact .head _ | exact .tail _ (.head _) | exact .tail _ (.tail _ (.head _)) | exact .tail _ (.tail _ (.tail _ (.head _))) | exact .tail _ (.tail _ (.tail _ (.tail _ (.head _))))),(H.ks _).mpr (by first | exact .head _ | exact .tail _ (.head _) | exact .tail _ (.tail _ (.head _)) | exact .tail _ (.tail _ (.tail _ (.head _))) | exact .tail _ (.tail _ (.tail _ (.tail _ (.head _))))),(H.ks _).mpr (by first | exact .head _ | exact .tail _ (.head _) | exact .tail _ (.tail _ (.head _)) | exact .tail _ (.tail _ (.tail _ (.head _))) | exact .tail _ (.tail _ (.tail _ (.tail _ (.head _))))),(H.ks _).mpr (by first | exact .head _ | exact .tail _ (.head _) | exact .tail _ (.tail _ (.head _)) | exact .tail _ (.tail _ (.tail _ (.head _))) | exact .tail _ (.tail _ (.tail _ (.tail _ (.head _))))),notin _ (by simp),notin _ (by simp),notin _ (by simp),notin _ (by simp),fun t ht=>notin t (by simp [ht]),(H.nul N _).mpr (.inl rfl),(H.nul N _).mpr (.inr (.inl rfl)),?_,?_⟩
  · rw [H.nul N]
    constructor
    · rintro (e | e | ⟨ho,zz⟩ | ⟨ho,zz⟩)
      · exact absurd e.symm K.TO
      · exact absurd e K.OV
      · exact ho
      · exact ho
    · exact fun ho=>.inr (.inr (.inl ⟨ho,.inl rfl⟩))
  · rw [H.nul N]
    constructor
    · rintro (e | e | ⟨ho,zz⟩ | ⟨ho,zz⟩)
      · exact absurd e K.LT
      · exact absurd e K.LV
      · exact ho
      · exact ho
    · exact fun ho=>.inr (.inr (.inl ⟨ho,.inr rfl⟩))
section
variable {ks nl:List Str} {F:Str → Str → Prop} {t:Str}
theorem fo_nil:inFos ks nl F [] t ↔ False:=Iff.rfl
theorem fo_tok {X:Str} {r:List Str} (h:X ∉ ks):inFos ks nl F (X :: r) t ↔ t = X:=by rw [inFos_cons,if_neg h]
theorem fo_hd {X:Str} {r:List Str} (h:X ∈ ks):inFos ks nl F (X :: r) t ↔ F X t ∨ (X ∈ nl ∧ inFos ks nl F r t):=by rw [inFos_cons,if_pos h]
theorem fo_tail {r:List Str} (h:∀ z ∈ r,z ∉ ks):inFos ks nl F r t ↔ r.head? = some t:=by
  cases r with
  | nil=>show False ↔ none = some t; simp
  | cons a r=>rw [fo_tok (h a (by simp))]; simp [eq_comm]
theorem va_tail {r:List Str} (h:∀ z ∈ r,z ∉ ks):vanF ks nl r ↔ r = []:=by
  cases r with
  | nil=>exact ⟨fun zz=>rfl,fun zz=>trivial⟩
  | cons a r=>simp [vanF_cons,vanF_nil,h a (by simp)]
theorem Kn.S (k:Kn m ks nl):inFos ks nl F (m.L :: m.tail) t ↔ F m.L t ∨ (m.o = true ∧ m.tail.head? = some t):=by
  rw [fo_hd k.kL,fo_tail k.ktail,k.nL]
theorem Kn.L (k:Kn m ks nl):inFos ks nl F [m.O,m.T] t ↔ F m.O t ∨ (m.o = true ∧ F m.T t):=by
  rw [fo_hd k.kO,fo_hd k.kT,k.nO,fo_nil]; simp
theorem Kn.T (k:Kn m ks nl):inFos ks nl F [m.T] t ↔ F m.T t:=by
  rw [fo_hd k.kT,fo_nil]; simp
end
theorem GrM.fst (H:GrM m R) {nl:List Str} {vs:List (List Str)} (N:IsNul (gOfR R) nl) (V:IsFst (gOfR R) (hdsR R) nl vs) (h t:Str):FF (hdsR R) vs h t ↔ fstM m h t:=by
  have k:=H.kn N
  have K:=H.ok
  have hT:FF (hdsR R) vs m.T m.s:=V.closed _ (H.rule b3) _ ((fo_tok k.ksm).mpr rfl)
  have hV:FF (hdsR R) vs m.V m.y:=V.closed _ (H.rule b6) _ ((fo_tok k.ky).mpr rfl)
  have hO:FF (hdsR R) vs m.O m.x:=V.closed _ (H.rule b5) _ ((fo_tok k.kx).mpr rfl)
  have hL1:FF (hdsR R) vs m.L m.x:=V.closed _ (H.rule b2) _ (k.L.mpr (.inl hO))
  have hL2:m.o = true → FF (hdsR R) vs m.L m.s:=fun ho=>V.closed _ (H.rule b2) _ (k.L.mpr (.inr ⟨ho,hT⟩))
  constructor
  · intro hf
    refine V.least (fstM m) ?_ h t hf
    intro r hr t ht
    obtain ⟨q,hq,rfl⟩:=H.gmem.mp hr
    have nS:=K.SL; have n2:=K.ST; have n3:=K.SO; have n4:=K.SV; have n5:=K.LT; have n6:=K.LO; have n7:=K.LV; have n8:=K.TO; have n9:=K.TV; have n10:=K.OV
    rcases base_cases hq with rfl | rfl | rfl | rfl | rfl | rfl | rfl | ⟨ho,rfl⟩
    · rcases k.S.mp ht with h | ⟨ho,h⟩
      · rcases h with ⟨e,zz⟩ | ⟨e,zz⟩ | ⟨e,zz⟩ | ⟨zz,h⟩ | ⟨e,zz⟩
        · exact absurd e n5
        · exact absurd e n7
        · exact absurd e n6
        · exact .inr (.inr (.inr (.inr ⟨rfl,h.imp id fun ⟨a,b⟩=>⟨a,.inl b⟩⟩)))
        · exact absurd e.symm nS
      · exact .inr (.inr (.inr (.inr ⟨rfl,.inr ⟨ho,.inr h⟩⟩)))
    · rcases k.L.mp ht with h | ⟨ho,h⟩
      · rcases h with ⟨e,zz⟩ | ⟨e,zz⟩ | ⟨zz,h⟩ | ⟨e,zz⟩ | ⟨e,zz⟩
        · exact absurd e.symm n8
        · exact absurd e n10
        · exact .inr (.inr (.inr (.inl ⟨rfl,.inl h⟩)))
        · exact absurd e.symm n6
        · exact absurd e.symm n3
      · rcases h with ⟨zz,h⟩ | ⟨e,zz⟩ | ⟨e,zz⟩ | ⟨e,zz⟩ | ⟨e,zz⟩
        · exact .inr (.inr (.inr (.inl ⟨rfl,.inr ⟨ho,h⟩⟩)))
        · exact absurd e n9
        · exact absurd e n8
        · exact absurd e.symm n5
        · exact absurd e.symm n2
    · exact .inl ⟨rfl,(fo_tok k.ksm).mp ht⟩
    · exact ht.elim
    · exact .inr (.inr (.inl ⟨rfl,(fo_tok k.kx).mp ht⟩))
    · exact .inr (.inl ⟨rfl,(fo_tok k.ky).mp ht⟩)
    · exact ht.elim
    · exact ht.elim
  · rintro (⟨rfl,rfl⟩ | ⟨rfl,rfl⟩ | ⟨rfl,rfl⟩ | ⟨rfl,rfl | ⟨ho,rfl⟩⟩ | ⟨rfl,rfl | ⟨ho,rfl | ht⟩⟩)
    · exact hT
    · exact hV
    · exact hO
    · exact hL1
    · exact hL2 ho
    · exact V.closed _ (H.rule b1) _ (k.S.mpr (.inl hL1))
    · exact V.closed _ (H.rule b1) _ (k.S.mpr (.inl (hL2 ho)))
    · exact V.closed _ (H.rule b1) _ (k.S.mpr (.inr ⟨ho,ht⟩))
theorem GrM.fol (H:GrM m R) (hD:m.D = "$") {nl:List Str} {vs ws:List (List Str)} (N:IsNul (gOfR R) nl) (V:IsFst (gOfR R) (hdsR R) nl vs) (W:IsFol (gOfR R) (hdsR R) nl (FF (hdsR R) vs) m.S ws) (h t:Str):FF (hdsR R) ws h t ↔ folM m h t:=by
  have k:=H.kn N
  have K:=H.ok
  have f:=H.fst N V
  have n1:=K.SL; have n2:=K.ST; have n3:=K.SO; have n4:=K.SV; have n5:=K.LT; have n6:=K.LO; have n7:=K.LV; have n8:=K.TO; have n9:=K.TV; have n10:=K.OV
  have fT:∀ t,FF (hdsR R) vs m.T t ↔ t = m.s:=fun t=>by
    rw [f]; delta fstM; simp [n9,n8,Ne.symm n5,Ne.symm n2]
  have hS:FF (hdsR R) ws m.S m.D:=by have:=W.closed.1; rw [← hD] at this; exact this
  have cS:=W.closed.2 _ (H.rule b1)
  have cL:=W.closed.2 _ (H.rule b2)
  have cT:=W.closed.2 _ (H.rule b3)
  have cO:=W.closed.2 _ (H.rule b5)
  simp only at cS cL cT cO
  have hL:FF (hdsR R) ws m.L m.e:=by
    have:=cS 0 m.L (by simp) k.kL
    simp only [Nat.zero_add,List.drop_succ_cons,List.drop_zero] at this
    rw [K.he]
    cases ht:m.tail with
    | nil=>exact this.2 (by rw [ht]; trivial) _ hS
    | cons a r=>exact this.1 a ((fo_tail k.ktail).mpr (by rw [ht]; rfl))
  have hT:FF (hdsR R) ws m.T m.e:=by
    have:=cL 1 m.T (by simp) k.kT
    exact this.2 (by simp [vanF_cons,vanF_nil]) _ hL
  have hOb:FF (hdsR R) ws m.O m.s ∧ FF (hdsR R) ws m.O m.e:=by
    have:=cL 0 m.O (by simp) k.kO
    simp only [Nat.zero_add,List.drop_succ_cons,List.drop_zero] at this
    exact ⟨this.1 _ (k.T.mpr ((fT _).mpr rfl)),this.2 (by simp [vanF_cons,vanF_nil,k.kT,k.nT]) _ hL⟩
  have hVb:∀ t,FF (hdsR R) ws m.O t → FF (hdsR R) ws m.V t:=by
    have:=cO 1 m.V (by simp) k.kV
    exact this.2 (by simp [vanF_cons,vanF_nil])
  constructor
  · intro hf
    refine W.least (folM m) ⟨.inl ⟨rfl,hD.symm⟩,?_⟩ h t hf
    intro r hr i X hX hXk
    obtain ⟨q,hq,rfl⟩:=H.gmem.mp hr
    simp only at hX ⊢
    rcases base_cases hq with rfl | rfl | rfl | rfl | rfl | rfl | rfl | ⟨ho,rfl⟩
    · simp only at hX ⊢
      cases i with
      | zero =>
        simp at hX
        subst hX
        simp only [Nat.zero_add,List.drop_succ_cons,List.drop_zero]
        refine ⟨fun t ht=>.inr (.inl ⟨.inl rfl,?_⟩),fun hv t ht=>.inr (.inl ⟨.inl rfl,?_⟩)⟩
        · rw [K.he]
          have:=(fo_tail k.ktail).mp ht
          cases htl:m.tail with
          | nil=>rw [htl] at this; cases this
          | cons a r=>rw [htl] at this; simpa using this.symm
        · rw [K.he,(va_tail k.ktail).mp hv]
          rcases ht with ⟨zz,e⟩ | ⟨e | e,zz⟩ | ⟨e | e,zz⟩
          · exact e
          · exact absurd e n1
          · exact absurd e n2
          · exact absurd e n3
          · exact absurd e n4
      | succ i =>
        exfalso
        simp only [List.getElem?_cons_succ] at hX
        exact k.ktail X (List.mem_of_getElem? hX) hXk
    · simp only at hX ⊢
      cases i with
      | zero =>
        simp at hX
        subst hX
        simp only [Nat.zero_add,List.drop_succ_cons,List.drop_zero]
        refine ⟨fun t ht=>.inr (.inr ⟨.inl rfl,.inl ((fT t).mp (k.T.mp ht))⟩),fun hv t ht=>.inr (.inr ⟨.inl rfl,.inr ?_⟩)⟩
        rcases ht with ⟨e,zz⟩ | ⟨zz,e⟩ | ⟨e | e,zz⟩
        · exact absurd e.symm n1
        · exact e
        · exact absurd e n6
        · exact absurd e n7
      | succ i =>
        cases i with
        | zero =>
          simp at hX
          subst hX
          refine ⟨fun t ht=>ht.elim,fun hv t ht=>.inr (.inl ⟨.inr rfl,?_⟩)⟩
          rcases ht with ⟨e,zz⟩ | ⟨zz,e⟩ | ⟨e | e,zz⟩
          · exact absurd e.symm n1
          · exact e
          · exact absurd e n6
          · exact absurd e n7
        | succ i=>simp at hX
    · simp only at hX ⊢
      cases i with
      | zero =>
        simp at hX
        subst hX
        exact absurd hXk k.ksm
      | succ i =>
        cases i with
        | zero =>
          simp at hX
          subst hX
          refine ⟨fun t ht=>ht.elim,fun hv t ht=>.inr (.inl ⟨.inl rfl,?_⟩)⟩
          rcases ht with ⟨e,zz⟩ | ⟨zz,e⟩ | ⟨e | e,zz⟩
          · exact absurd e.symm n2
          · exact e
          · exact absurd e n8
          · exact absurd e n9
        | succ i=>simp at hX
    · simp at hX
    · simp only at hX ⊢
      cases i with
      | zero =>
        simp at hX
        subst hX
        exact absurd hXk k.kx
      | succ i =>
        cases i with
        | zero =>
          simp at hX
          subst hX
          refine ⟨fun t ht=>ht.elim,fun hv t ht=>.inr (.inr ⟨.inr rfl,?_⟩)⟩
          rcases ht with ⟨e,zz⟩ | ⟨e | e,zz⟩ | ⟨zz,e⟩
          · exact absurd e.symm n3
          · exact absurd e.symm n6
          · exact absurd e.symm n8
          · exact e
        | succ i=>simp at hX
    · simp only at hX ⊢
      cases i with
      | zero =>
        simp at hX
        subst hX
        exact absurd hXk k.ky
      | succ i=>simp at hX
    · simp at hX
    · simp at hX
  · rintro (⟨rfl,rfl⟩ | ⟨rfl | rfl,rfl⟩ | ⟨rfl | rfl,rfl | rfl⟩)
    · exact hS
    · exact hL
    · exact hT
    · exact hOb.1
    · exact hOb.2
    · exact hVb _ hOb.1
    · exact hVb _ hOb.2
theorem GrM.pred (H:GrM m R) (hD:m.D = "$") {nl:List Str} {vs ws:List (List Str)} (N:IsNul (gOfR R) nl) (V:IsFst (gOfR R) (hdsR R) nl vs) (W:IsFol (gOfR R) (hdsR R) nl (FF (hdsR R) vs) m.S ws) {q:Rl} (hq:q ∈ R):pred (hdsR R) nl vs ws (q.h,q.b) = q.p:=by
  have k:=H.kn N
  have K:=H.ok
  have f:=H.fst N V
  have w:=H.fol hD N V W
  have n1:=K.SL; have n2:=K.ST; have n3:=K.SO; have n4:=K.SV; have n5:=K.LT; have n6:=K.LO; have n7:=K.LV; have n8:=K.TO; have n9:=K.TV; have n10:=K.OV
  have hqb:=(H.mem q).mp hq
  have hhd:q.h ∈ hdsR R:=mem_metS.mpr (List.mem_map_of_mem (f:=fun r:Rule=>r.1) (H.rule hqb))
  have mm:∀ t,t ∈ Mine.pred (hdsR R) nl vs ws (q.h,q.b) ↔ _:=fun t=>mem_pred V.len W.len hhd
  have SNafter:SN m.after:=SN_sortS (nodup_metS _)
  have SNstart:SN m.start:=by delta Nm.start; split; exact SN_sortS (nodup_metS _); exact SN_one _
  have memafter:∀ t,t ∈ m.after ↔ t = m.s ∨ t = m.e:=fun t=>by delta Nm.after; rw [mem_sortS,mem_metS]; simp
  have memstart:∀ t,t ∈ m.start ↔ t = m.x ∨ (m.o = true ∧ (t = m.s ∨ t = m.e)):=fun t=>by
    delta Nm.start
    cases ho:m.o with
    | true=>rw [if_pos rfl,mem_sortS,mem_metS]; simp
    | false=>simp
  have fT:∀ t,FF (hdsR R) vs m.T t ↔ t = m.s:=fun t=>by
    rw [f]; delta fstM; simp [n9,n8,Ne.symm n5,Ne.symm n2]
  have fO:∀ t,FF (hdsR R) vs m.O t ↔ t = m.x:=fun t=>by
    rw [f]; delta fstM; simp [Ne.symm n8,n10,Ne.symm n6,Ne.symm n3]
  have fL:∀ t,FF (hdsR R) vs m.L t ↔ t = m.x ∨ (m.o = true ∧ t = m.s):=fun t=>by
    rw [f]; delta fstM; simp [n5,n7,n6,Ne.symm n1]
  have wS:∀ t,FF (hdsR R) ws m.S t ↔ t = m.D:=fun t=>by rw [w]; delta folM; simp [n1,n2,n3,n4]
  have wL:∀ t,FF (hdsR R) ws m.L t ↔ t = m.e:=fun t=>by rw [w]; delta folM; simp [Ne.symm n1,n6,n7]
  have wT:∀ t,FF (hdsR R) ws m.T t ↔ t = m.e:=fun t=>by rw [w]; delta folM; simp [Ne.symm n2,n8,n9]
  have wO:∀ t,FF (hdsR R) ws m.O t ↔ t = m.s ∨ t = m.e:=fun t=>by rw [w]; delta folM; simp [Ne.symm n3,Ne.symm n6,Ne.symm n8]
  have wV:∀ t,FF (hdsR R) ws m.V t ↔ t = m.s ∨ t = m.e:=fun t=>by rw [w]; delta folM; simp [Ne.symm n4,Ne.symm n7,Ne.symm n9]
  rcases base_cases hqb with rfl | rfl | rfl | rfl | rfl | rfl | rfl | ⟨ho,rfl⟩
  · refine (pred_SN _).ext SNstart fun t=>?_
    rw [mm t,memstart,k.S,fL,wS]
    simp only [vanF_cons,vanF_nil]
    rw [va_tail k.ktail,K.he,k.nL]
    cases ht:m.tail with
    | nil =>
      simp only [List.head?_nil]
      constructor
      · rintro (((h | ⟨a,b⟩) | ⟨zz,h⟩) | ⟨⟨zz,ho,zz⟩,h⟩)
        · exact .inl h
        · exact .inr ⟨a,.inl b⟩
        · cases h
        · exact .inr ⟨ho,.inr h⟩
      · rintro (h | ⟨ho,h | h⟩)
        · exact .inl (.inl (.inl h))
        · exact .inl (.inl (.inr ⟨ho,h⟩))
        · exact .inr ⟨⟨k.kL,ho,by simp⟩,h⟩
    | cons a r =>
      simp only [List.head?_cons,Option.some.injEq]
      constructor
      · rintro (((h | ⟨a,b⟩) | ⟨ho,h⟩) | ⟨⟨zz,zz,h⟩,zz⟩)
        · exact .inl h
        · exact .inr ⟨a,.inl b⟩
        · exact .inr ⟨ho,.inr h.symm⟩
        · cases h
      · rintro (h | ⟨ho,h | h⟩)
        · exact .inl (.inl (.inl h))
        · exact .inl (.inl (.inr ⟨ho,h⟩))
        · exact .inl (.inr ⟨ho,h.symm⟩)
  · refine (pred_SN _).ext SNstart fun t=>?_
    rw [mm t,memstart,k.L,fO,fT,wL]
    simp only [vanF_cons,vanF_nil]
    rw [k.nO]
    constructor
    · rintro ((h | ⟨ho,h⟩) | ⟨⟨zz,ho,zz⟩,h⟩)
      · exact .inl h
      · exact .inr ⟨ho,.inl h⟩
      · exact .inr ⟨ho,.inr h⟩
    · rintro (h | ⟨ho,h | h⟩)
      · exact .inl (.inl h)
      · exact .inl (.inr ⟨ho,h⟩)
      · exact .inr ⟨⟨k.kO,ho,k.kT,k.nT,trivial⟩,h⟩
  · refine (pred_SN _).ext (SN_one _) fun t=>?_
    rw [mm t,fo_tok k.ksm]
    simp [vanF_cons,vanF_nil,k.ksm]
  · refine (pred_SN _).ext (SN_one _) fun t=>?_
    rw [mm t,fo_nil,wT]
    simp [vanF_cons,vanF_nil]
  · refine (pred_SN _).ext (SN_one _) fun t=>?_
    rw [mm t,fo_tok k.kx]
    simp [vanF_cons,vanF_nil,k.kx]
  · refine (pred_SN _).ext (SN_one _) fun t=>?_
    rw [mm t,fo_tok k.ky]
    simp [vanF_cons,vanF_nil,k.ky]
  · refine (pred_SN _).ext SNafter fun t=>?_
    rw [mm t,fo_nil,wV,memafter]
    simp [vanF_cons,vanF_nil]
  · refine (pred_SN _).ext SNafter fun t=>?_
    rw [mm t,fo_nil,wO,memafter]
    simp [vanF_cons,vanF_nil]
end Mine
namespace Mine
open PySem L7
structure Nm.Ok2 (m:Nm):Prop extends Nm.Ok m where
  dd:m.D = "$"
  xD:m.x ≠ m.D
  yD:m.y ≠ m.D
  sD:m.s ≠ m.D
  tD:∀ t ∈ m.tail,t ≠ m.D
  len:∀ z ∈ m.D :: m.tail ++ headsM m,z.length ≤ 100
  ne:∀ z ∈ headsM m,z ≠ ""
  few:m.tail.length ≤ 20
noncomputable def Nm.bs (m:Nm):List Str:=(m.tail ++ [("$":Str)]).reverse
noncomputable def sel {α:Type} (h S L O V T:Str) (a b c d e z:α):α:=if h = S then a else if h = L then b else if h = O then c else if h = V then d else if h = T then e else z
section
variable {α:Type} {h S L O V T:Str} {a b c d e z:α}
theorem sel1:sel S S L O V T a b c d e z = a:=if_pos rfl
theorem sel2 (n:L ≠ S):sel L S L O V T a b c d e z = b:=(if_neg n).trans (if_pos rfl)
theorem sel3 (n:O ≠ S) (n':O ≠ L):sel O S L O V T a b c d e z = c:=(if_neg n).trans ((if_neg n').trans (if_pos rfl))
theorem sel4 (n:V ≠ S) (n':V ≠ L) (n2:V ≠ O):sel V S L O V T a b c d e z = d:=(if_neg n).trans ((if_neg n').trans ((if_neg n2).trans (if_pos rfl)))
theorem sel5 (n:T ≠ S) (n':T ≠ L) (n2:T ≠ O) (n3:T ≠ V):sel T S L O V T a b c d e z = e:=(if_neg n).trans ((if_neg n').trans ((if_neg n2).trans ((if_neg n3).trans (if_pos rfl))))
theorem sel6 (n:h ≠ S) (n':h ≠ L) (n2:h ≠ O) (n3:h ≠ V) (n4:h ≠ T):sel h S L O V T a b c d e z = z:=(if_neg n).trans ((if_neg n').trans ((if_neg n2).trans ((if_neg n3).trans (if_neg n4))))
end
noncomputable def Nm.stk (m:Nm) (h:Str):List Str:=sel h m.S m.L m.O m.V m.T ["$",m.S] (m.bs ++ [m.L]) (m.bs ++ [m.T,m.O]) (m.bs ++ [m.T,m.V]) (m.bs ++ [m.T]) m.bs
noncomputable def Nm.rest (m:Nm) (h:Str):List Str:=sel h m.S m.L m.O m.V m.T ["$"] m.bs (m.bs ++ [m.T]) (m.bs ++ [m.T]) m.bs m.bs
noncomputable def Nm.rank (m:Nm) (h:Str):Nat:=sel h m.S m.L m.O m.V m.T 6 5 4 3 2 0
theorem mach {m:Nm} {R:List Rl} (H:GrM m R) (K:m.Ok2) {ks:List Str} (hks:∀ h,h ∈ ks ↔ h ∈ headsM m):Mach ks (firstR (ruleP R)) R m.tail m.stk m.rest m.rank (headsM m):=by
  have n1:=K.SL; have n2:=K.ST; have n3:=K.SO; have n4:=K.SV; have n5:=K.LT; have n6:=K.LO; have n7:=K.LV; have n8:=K.TO; have n9:=K.TV; have n10:=K.OV
  have nk:∀ z,(z ≠ m.S ∧ z ≠ m.L ∧ z ≠ m.T ∧ z ≠ m.O ∧ z ≠ m.V) → z ∉ ks:=fun z h3 hh=>by
    rcases mem5 ((hks z).mp hh) with e | e | e | e | e
    · exact h3.1 e
    · exact h3.2.1 e
    · exact h3.2.2.1 e
    · exact h3.2.2.2.1 e
    · exact h3.2.2.2.2 e
  have bl:m.bs.length ≤ 21:=by delta Nm.bs; have:=K.few; simp; lia
  have e0:∀ h ∈ headsM m,("":Str) ≠ h:=fun h hh e=>K.ne h hh e.symm
  have hmS:m.S ∈ headsM m:=.head _
  have hmL:m.L ∈ headsM m:=.tail _ (.head _)
  have hmT:m.T ∈ headsM m:=.tail _ (.tail _ (.head _))
  have hmO:m.O ∈ headsM m:=.tail _ (.tail _ (.tail _ (.head _)))
  have hmV:m.V ∈ headsM m:=.tail _ (.tail _ (.tail _ (.tail _ (.head _))))
  have sS:m.stk m.S = [("$":Str),m.S]:=sel1
  have sL:m.stk m.L = m.bs ++ [m.L]:=sel2 (Ne.symm n1)
  have sO:m.stk m.O = m.bs ++ [m.T,m.O]:=sel3 (Ne.symm n3) (Ne.symm n6)
  have sV:m.stk m.V = m.bs ++ [m.T,m.V]:=sel4 (Ne.symm n4) (Ne.symm n7) (Ne.symm n10)
  have sT:m.stk m.T = m.bs ++ [m.T]:=sel5 (Ne.symm n2) (Ne.symm n5) n8 n9
  have s0:m.stk "" = m.bs:=sel6 (e0 _ hmS) (e0 _ hmL) (e0 _ hmO) (e0 _ hmV) (e0 _ hmT)
  have rS:m.rest m.S = [("$":Str)]:=sel1
  have rL:m.rest m.L = m.bs:=sel2 (Ne.symm n1)
  have rO:m.rest m.O = m.bs ++ [m.T]:=sel3 (Ne.symm n3) (Ne.symm n6)
  have rV:m.rest m.V = m.bs ++ [m.T]:=sel4 (Ne.symm n4) (Ne.symm n7) (Ne.symm n10)
  have rT:m.rest m.T = m.bs:=sel5 (Ne.symm n2) (Ne.symm n5) n8 n9
  have kS:m.rank m.S = 6:=sel1
  have kL:m.rank m.L = 5:=sel2 (Ne.symm n1)
  have kO:m.rank m.O = 4:=sel3 (Ne.symm n3) (Ne.symm n6)
  have kV:m.rank m.V = 3:=sel4 (Ne.symm n4) (Ne.symm n7) (Ne.symm n10)
  have kT:m.rank m.T = 2:=sel5 (Ne.symm n2) (Ne.symm n5) n8 n9
  have k0:m.rank "" = 0:=sel6 (e0 _ hmS) (e0 _ hmL) (e0 _ hmO) (e0 _ hmV) (e0 _ hmT)
  have lx:=K.let_ m.x (by simp)
  have ly:=K.let_ m.y (by simp)
  have ls:=K.let_ m.s (by simp)
  have lD:=K.let_ m.D (by simp)
  have le:=K.toOk.e_ne
  have memstart:∀ t,t ∈ m.start → t = m.x ∨ t = m.s ∨ t = m.e:=fun t h=>by
    delta Nm.start at h
    split at h
    · rw [mem_sortS,mem_metS] at h; simpa using h
    · simp at h; exact .inl h
  refine ⟨?_,s0,?_,?_,?_,K.few⟩
  · intro h hh
    have hlen:=K.len h (by simp [hh])
    have hne:=K.ne h hh
    refine ⟨?_,(hks h).mpr hh,hne,hlen,?_⟩
    · rcases mem5 hh with rfl | rfl | rfl | rfl | rfl
      · rw [sS,rS]; rfl
      · rw [sL,rL]
      · rw [sT,rT]
      · rw [sO,rO,List.append_assoc]; rfl
      · rw [sV,rV,List.append_assoc]; rfl
    · rcases mem5 hh with rfl | rfl | rfl | rfl | rfl
      · rw [rS]; decide
      · rw [rL]; lia
      · rw [rT]; lia
      · rw [rO,List.length_append]; exact Nat.succ_le_succ (Nat.le_trans bl (by decide))
      · rw [rV,List.length_append]; exact Nat.succ_le_succ (Nat.le_trans bl (by decide))
  · intro h hh u k hk
    refine cps fun Gq hGq=>?_
    obtain ⟨r,h1,h2,h3⟩:=firstR_some hk
    refine hGq ?_
    clear hGq
    delta ruleP at h1
    rw [List.getElem?_map,Option.map_eq_some_iff] at h1
    obtain ⟨q,hq,rfl⟩:=h1
    simp only at h2 h3
    subst h2
    refine ⟨q,hq,?_⟩
    have hqb:=(H.mem q).mp (List.mem_of_getElem? hq)
    have tl:=K.few
    rcases base_cases hqb with rfl | rfl | rfl | rfl | rfl | rfl | rfl | ⟨ho,rfl⟩
    · simp only at h3 ⊢
      have hu:u ≠ m.L:=by
        rcases memstart u h3 with rfl | rfl | rfl
        · exact lx.2.1
        · exact ls.2.1
        · exact le.2.1
      refine ⟨by simp; lia,.inl hmL,.inr ⟨by simp [Ne.symm hu],?_,by lia⟩⟩
      rw [rS,sL]; simp [Nm.bs]
    · simp only at h3 ⊢
      have hu:u ≠ m.O:=by
        rcases memstart u h3 with rfl | rfl | rfl
        · exact lx.2.2.2.1
        · exact ls.2.2.2.1
        · exact le.2.2.2.1
      refine ⟨by simp,.inl hmO,.inr ⟨by simp [Ne.symm hu],?_,by lia⟩⟩
      rw [rL,sO]; simp
    · simp only [List.mem_singleton] at h3 ⊢
      subst h3
      refine ⟨by simp,.inl hmL,.inl ⟨by simp,nk _ ls,by rw [← K.dd]; exact K.sD,?_,by lia⟩⟩
      rw [rT,sL]; simp
    · simp only at h3 ⊢
      refine ⟨by simp,.inr trivial,.inr ⟨by simp,?_,by lia⟩⟩
      rw [rT,s0]; simp
    · simp only [List.mem_singleton] at h3 ⊢
      subst h3
      refine ⟨by simp,.inl hmV,.inl ⟨by simp,nk _ lx,by rw [← K.dd]; exact K.xD,?_,by lia⟩⟩
      rw [rO,sV]; simp
    · simp only [List.mem_singleton] at h3 ⊢
      subst h3
      refine ⟨by simp,.inl hmT,.inl ⟨by simp,nk _ ly,by rw [← K.dd]; exact K.yD,?_,by lia⟩⟩
      rw [rV,sT]; simp
    · simp only at h3 ⊢
      refine ⟨by simp,.inl hmT,.inr ⟨by simp,?_,by lia⟩⟩
      rw [rV,sT]; simp
    · simp only at h3 ⊢
      refine ⟨by simp,.inl hmT,.inr ⟨by simp,?_,by lia⟩⟩
      rw [rO,sT]; simp
  · intro d hd
    exact ⟨by rw [← K.dd]; exact K.tD d hd,nk _ (K.let_ d (by simp [hd])),K.len d (by simp [hd])⟩
  · rw [← K.dd]
    exact ⟨nk _ lD,K.len _ (by simp)⟩
end Mine
namespace Mine
open PySem L7
noncomputable def LET:List Str:=["a","b","c","d","e"]
section
variable {Φ:FTab} {σ:Sig}
theorem fmod_range {n k:Int} (hk:0 < k):0 ≤ n.fmod k ∧ n.fmod k < k:=⟨Int.fmod_nonneg_of_pos _ hk,Int.fmod_lt_of_pos _ hk⟩
theorem run_letter (n:Int) (j:Nat):∃ x ∈ LET,aexecs Φ j ss_law_letter (initσ 0 [.int n]) = some (.ret (at1 (.str x))):=by
  have h:=fmod_range (n:=n) (k:=5) (by decide)
  have hc:(Str.ofString "abcde").cps = #[97,98,99,100,101]:=by decide +kernel
  have hL:LET = [⟨#[97]⟩,⟨#[98]⟩,⟨#[99]⟩,⟨#[100]⟩,⟨#[101]⟩]:=by decide +kernel
  have key:∀ k:Nat,k < 5 → ∃ x ∈ LET,aidx (at1 (.str "abcde")) (.int k) = some (at1 (.str x)):=by
    intro k hk
    have e:aidx (at1 (.str "abcde")) (.int k) = if 0 ≤ (k:Int) ∧ (k:Int) ≤ 1000000 then ((Str.ofString "abcde").cps[(k:Int).toNat]?).map fun c=>at1 (.str ⟨#[c]⟩) else Option.none:=rfl
    rw [hL,e,if_pos ⟨nn k,(Int.ofNat_le.mpr (Nat.le_trans (Nat.le_of_lt hk) (by decide)):(k:Int) ≤ ((1000000:Nat):Int))⟩,hc,Int.toNat_natCast]
    have:k = 0 ∨ k = 1 ∨ k = 2 ∨ k = 3 ∨ k = 4:=(by decide:∀ k:Nat,k < 5 → k = 0 ∨ k = 1 ∨ k = 2 ∨ k = 3 ∨ k = 4) k hk
    rcases this with rfl | rfl | rfl | rfl | rfl
    · exact ⟨⟨#[97]⟩,by simp,rfl⟩
    · exact ⟨⟨#[98]⟩,by simp,rfl⟩
    · exact ⟨⟨#[99]⟩,by simp,rfl⟩
    · exact ⟨⟨#[100]⟩,by simp,rfl⟩
    · exact ⟨⟨#[101]⟩,by simp,rfl⟩
  obtain ⟨x,hx,e⟩:=key (n.fmod 5).toNat ((Int.toNat_lt h.1).mpr h.2)
  refine ⟨x,hx,?_⟩
  delta ss_law_letter
  refine seq_ret (ev_idx ev_str (ev_bin (t:=at1 (.int (n.fmod 5))) (r:=at1 (.int n)) (ev_var rfl) ev_int rfl) ?_)
  rw [Int.toNat_of_nonneg h.1] at e
  exact e
noncomputable def Nm.rest0 (m:Nm):List Rl:=[⟨m.T,[m.s,m.L],[m.s],m.L⟩,⟨m.T,[],[m.e],""⟩,⟨m.O,[m.x,m.V],[m.x],m.V⟩,⟨m.V,[m.y],[m.y],m.T⟩,⟨m.V,[],m.after,m.T⟩] ++ (if m.o then [⟨m.O,[],m.after,m.T⟩] else [])
noncomputable def Nm.rest1 (m:Nm):List Rl:=⟨m.L,[m.O,m.T],m.start,m.O⟩ :: m.rest0
noncomputable def rot (shift:Nat) (l:List Rl):List Rl:=l.drop shift ++ l.take shift
noncomputable def Nm.all (m:Nm) (shift:Nat) (flip:Bool):List Rl:=⟨m.S,m.L :: m.tail,m.start,m.L⟩ :: (if flip then (rot shift m.rest1).reverse else rot shift m.rest1)
theorem rest_len (m:Nm):m.rest1.length ≤ 7:=by
  delta Nm.rest1 Nm.rest0
  cases m.o
  · exact Nat.le_succ 6
  · exact Nat.le_refl 7
theorem rot_len (n:Nat) (l:List Rl):(rot n l).length = l.length:=by
  delta rot; rw [List.length_append,Nat.add_comm,← List.length_append,List.take_append_drop]
theorem flip_len (m:Nm) (n:Nat) (b:Bool):(if b then (rot n m.rest1).reverse else rot n m.rest1).length ≤ 7:=by
  refine Nat.le_trans (Nat.le_of_eq ?_) (rest_len m)
  cases b
  · exact rot_len n _
  · exact List.length_reverse.trans (rot_len n _)
theorem all_len (m:Nm) (n:Nat) (b:Bool):(m.all n b).length ≤ 8:=Nat.succ_le_succ (flip_len m n b)
theorem Nm.all_mem (m:Nm) (shift:Nat) (flip:Bool) (r:Rl):r ∈ m.all shift flip ↔ r ∈ m.base:=by
  have h1:r ∈ (if flip then (rot shift m.rest1).reverse else rot shift m.rest1) ↔ r ∈ m.rest1:=by
    have h2:r ∈ rot shift m.rest1 ↔ r ∈ m.rest1:=by
      delta rot
      rw [List.mem_append,Or.comm,← List.mem_append,List.take_append_drop]
    cases flip
    · exact h2
    · simp [h2]
  delta Nm.all
  rw [List.mem_cons,h1]
  delta Nm.rest1 Nm.rest0 Nm.base
  simp only [List.mem_cons,List.mem_append,List.not_mem_nil,or_false]
  simp only [or_assoc]
theorem newl_Q {rs:List Rl} {f c:Bool} (hf:f = true) (hc:c = true) (h:rs.length ≤ lim):newl f c (rs.map encQ) = some ⟨encQs rs,true,true⟩:=by
  subst hf; subst hc
  delta newl
  rw [if_pos (by simpa using h)]
  split <;> rfl
theorem ev_sortedSet {a:SExpr} {xs:List Str} {f c:Bool} (h1:aeval Φ a σ = some ⟨encS xs,f,c⟩) (h:xs.length < 5) (h0:xs ≠ []):aeval Φ (.sortedSet a) σ = some ⟨encS (sortS (metS xs)),true,true⟩:=by
  exact bind_to h1 (bind_to (a:=xs.map PV.str) rfl (bind_to (asStrs_map xs) (if_pos ⟨h,h0⟩)))
theorem newlR_strs (xs:List Str) (h:xs.length ≤ lim):newlR (xs.map fun x=>at1 (.str x)) = some ⟨encS xs,true,true⟩:=by
  delta newlR
  have:(xs.map fun x=>at1 (.str x)).map (·.d) = xs.map PV.str:=by rw [List.map_map]; rfl
  rw [this]
  exact newl_str _ _ _ h
theorem newlR_Q (rs:List Rl) (h:rs.length ≤ lim):newlR (rs.map fun r=>⟨encQ r,true,true⟩) = some ⟨encQs rs,true,true⟩:=by
  delta newlR
  have e1:(rs.map fun r=>(⟨encQ r,true,true⟩:RV)).map (·.d) = rs.map encQ:=by rw [List.map_map]; rfl
  rw [e1]
  exact newl_Q (by simp) (by simp) h
noncomputable def Nm.mk7 (x y s:Str) (tail:List Str) (o:Bool):Nm:=⟨"S","L","T","O","V","$",x,y,s,(match tail with | []=>"$" | t :: _=>t),tail,o⟩
theorem run_law_rules (x y s:Str) (tail:List Str) (must:Int) (shift:Nat) (flip:Int) (ht:tail.length ≤ 10) (n:Nat) :
    aexecs Φ n ss_law_rules (initσ 4 [.str x,.str y,.str s,encS tail,.int must,.int shift,.int flip]) = some (.ret ⟨encQs ((Nm.mk7 x y s tail (decide (must < 2))).all shift (flip == 1)),true,true⟩):=by
  let m:=Nm.mk7 x y s tail (decide (must < 2))
  have hend:∀ (a b c d:Option RV),aeval Φ (.idx (.bin .Add (.var 3) (.list [.str "$"])) (.int 0)) [some (at1 (.str x)),some (at1 (.str y)),some (at1 (.str s)),some ⟨encS tail,false,true⟩,some (at1 (.int must)),some (at1 (.int shift)),some (at1 (.int flip)),a,b,c,d] = some (at1 (.str m.e)):=by
    intro a b c d
    refine ev_idx (r:=⟨encS (tail ++ [("$":Str)]),true,true⟩) (ev_bin (r:=⟨encS tail,false,true⟩) (ev_var rfl) (ev_list (evs_cons ev_str evs_nil) (newlR_one "$")) ?_) ev_int ?_
    · show newl (false && true) (true && true) (tail.map PV.str ++ [PV.str "$"]) = _
      have:tail.map PV.str ++ [PV.str "$"] = (tail ++ [("$":Str)]).map PV.str:=by simp
      rw [this,newl_str _ _ _ (lim_snoc (Nat.le_trans ht (by decide)))]
    · refine idx_encS (i:=0) ?_
      show (tail ++ [("$":Str)])[0]? = some (match tail with | []=>("$":Str) | t :: _=>t)
      cases tail <;> rfl
  have rl1:m.rest1.length ≤ 7:=rest_len m
  have rotl:(rot shift m.rest1).length ≤ 7:=Nat.le_trans (Nat.le_of_eq (rot_len _ _)) rl1
  delta ss_law_rules
  refine seq_set (r:=at1 (.str m.e)) (hend _ _ _ _) rfl ?_
  refine seq_set (r:=⟨encS m.after,true,true⟩) (ev_sortedSet (xs:=[s,m.e]) (f:=true) (c:=true) (ev_list (evs_cons (ev_var rfl) (evs_cons (ev_var rfl) evs_nil)) (newlR_strs [s,m.e] (show 2 ≤ lim by decide))) (show 2 < 5 by decide) (by simp)) rfl ?_
  refine seq_set (r:=⟨encS [x],true,true⟩) (ev_list (evs_cons (ev_var rfl) evs_nil) (newlR_one x)) rfl ?_
  let r5:List Rl:=[⟨m.T,[m.s,m.L],[m.s],m.L⟩,⟨m.T,[],[m.e],""⟩,⟨m.O,[m.x,m.V],[m.x],m.V⟩,⟨m.V,[m.y],[m.y],m.T⟩,⟨m.V,[],m.after,m.T⟩]
  refine seq_ownl (rs:=r5.map fun r=>⟨encQ r,true,true⟩) (r:=⟨encQs r5,true,true⟩) ?_ (newlR_Q r5 (show 5 ≤ lim by decide)) rfl ?_
  · refine evs_cons (ev_tup (rs:=[at1 (.str "T"),⟨encS [s,"L"],true,true⟩,⟨encS [s],true,true⟩,at1 (.str "L")]) (evs_cons ev_str (evs_cons (ev_list (evs_cons (ev_var rfl) (evs_cons ev_str evs_nil)) rfl) (evs_cons (ev_list (evs_cons (ev_var rfl) evs_nil) rfl) (evs_cons ev_str evs_nil)))) (show 4 ≤ lim by decide)) ?_
    refine evs_cons (ev_tup (rs:=[at1 (.str "T"),⟨encS [],true,true⟩,⟨encS [m.e],true,true⟩,at1 (.str "")]) (evs_cons ev_str (evs_cons (ev_list evs_nil rfl) (evs_cons (ev_list (evs_cons (ev_var rfl) evs_nil) rfl) (evs_cons ev_str evs_nil)))) (show 4 ≤ lim by decide)) ?_
    refine evs_cons (ev_tup (rs:=[at1 (.str "O"),⟨encS [x,"V"],true,true⟩,⟨encS [x],true,true⟩,at1 (.str "V")]) (evs_cons ev_str (evs_cons (ev_list (evs_cons (ev_var rfl) (evs_cons ev_str evs_nil)) rfl) (evs_cons (ev_list (evs_cons (ev_var rfl) evs_nil) rfl) (evs_cons ev_str evs_nil)))) (show 4 ≤ lim by decide)) ?_
    refine evs_cons (ev_tup (rs:=[at1 (.str "V"),⟨encS [y],true,true⟩,⟨encS [y],true,true⟩,at1 (.str "T")]) (evs_cons ev_str (evs_cons (ev_list (evs_cons (ev_var rfl) evs_nil) rfl) (evs_cons (ev_list (evs_cons (ev_var rfl) evs_nil) rfl) (evs_cons ev_str evs_nil)))) (show 4 ≤ lim by decide)) ?_
    exact evs_cons (ev_tup (rs:=[at1 (.str "V"),⟨encS [],true,true⟩,⟨encS m.after,true,true⟩,at1 (.str "T")]) (evs_cons ev_str (evs_cons (ev_list evs_nil rfl) (evs_cons (ev_var rfl) (evs_cons ev_str evs_nil)))) (show 4 ≤ lim by decide)) evs_nil
  refine seq_if (k:=decide (must < 2)) (t:=at1 (.bool (decide (must < 2)))) (ev_cmp (ev_var rfl) ev_int rfl) rfl (σ':=[some (at1 (.str x)),some (at1 (.str y)),some (at1 (.str s)),some ⟨encS tail,false,true⟩,some (at1 (.int must)),some (at1 (.int shift)),some (at1 (.int flip)),some (at1 (.str m.e)),some ⟨encS m.after,true,true⟩,some ⟨encS m.start,true,true⟩,some ⟨encQs m.rest0,true,false⟩]) ?_ ?_
  · cases hm:decide (must < 2) with
    | true =>
      have hs:m.start = sortS (metS [x,s,m.e]):=if_pos hm
      have h0:m.rest0 = r5 ++ [⟨m.O,[],m.after,m.T⟩]:=by delta Nm.rest0; rw [if_pos (show m.o = true from hm)]
      rw [hs,h0]
      refine seq_set (r:=⟨encS (sortS (metS [x,s,m.e])),true,true⟩) (ev_sortedSet (xs:=[x,s,m.e]) (f:=true) (c:=true) (ev_list (evs_cons (ev_var rfl) (evs_cons (ev_var rfl) (evs_cons (ev_var rfl) evs_nil))) (newlR_strs [x,s,m.e] (show 3 ≤ lim by decide))) (show 3 < 5 by decide) (by simp)) rfl ?_
      refine seq_app (ds:=r5.map encQ) (r:=⟨encQ ⟨m.O,[],m.after,m.T⟩,true,true⟩) rfl (ev_tup (rs:=[at1 (.str "O"),⟨encS [],true,true⟩,⟨encS m.after,true,true⟩,at1 (.str "T")]) (evs_cons ev_str (evs_cons (ev_list evs_nil rfl) (evs_cons (ev_var rfl) (evs_cons ev_str evs_nil)))) (show 4 ≤ lim by decide)) rfl (show 5 < lim by decide) ?_
      exact seq_nil
    | false =>
      have hs:m.start = [x]:=if_neg (by show ¬ decide (must < 2) = true; rw [hm]; simp)
      have h0:m.rest0 = r5:=by delta Nm.rest0; rw [if_neg (by show ¬ decide (must < 2) = true; rw [hm]; simp)]; simp [r5]
      rw [hs,h0]
      exact seq_nil
  refine seq_rel (d:=encQs m.rest0) (f:=true) rfl ?_
  refine seq_set (r:=⟨encQs m.rest1,true,true⟩) (ev_bin (r:=⟨encQs [⟨m.L,[m.O,m.T],m.start,m.O⟩],true,true⟩) (q:=⟨encQs m.rest0,true,true⟩) (ev_list (rs:=[⟨encQ ⟨m.L,[m.O,m.T],m.start,m.O⟩,true,true⟩]) (evs_cons (ev_tup (rs:=[at1 (.str "L"),⟨encS ["O","T"],true,true⟩,⟨encS m.start,true,true⟩,at1 (.str "O")]) (evs_cons ev_str (evs_cons (ev_list (evs_cons ev_str (evs_cons ev_str evs_nil)) rfl) (evs_cons (ev_var rfl) (evs_cons ev_str evs_nil)))) (show 4 ≤ lim by decide)) evs_nil) rfl) (ev_var rfl) ?_) rfl ?_
  · show newl (true && true) (true && true) ([encQ ⟨m.L,[m.O,m.T],m.start,m.O⟩] ++ m.rest0.map encQ) = _
    exact newl_Q (rs:=m.rest1) rfl rfl (Nat.le_trans rl1 (by decide))
  have hrot:aeval Φ (.bin .Add (.sfrom (.var 10) (.var 5)) (.supto (.var 10) (.var 5))) [some (at1 (.str x)),some (at1 (.str y)),some (at1 (.str s)),some ⟨encS tail,false,true⟩,some (at1 (.int must)),some (at1 (.int shift)),some (at1 (.int flip)),some (at1 (.str m.e)),some ⟨encS m.after,true,true⟩,some ⟨encS m.start,true,true⟩,some ⟨encQs m.rest1,true,true⟩] = some ⟨encQs (rot shift m.rest1),true,true⟩:=by
    refine ev_bin (r:=⟨encQs (m.rest1.drop shift),true,true⟩) (q:=⟨encQs (m.rest1.take shift),true,true⟩) ?_ ?_ ?_
    · refine bind_to (ev_var (r:=⟨encQs m.rest1,true,true⟩) rfl) (bind_to (ev_var (r:=at1 (.int shift)) rfl) ?_)
      show (if 0 ≤ (shift:Int) then newl true true ((m.rest1.map encQ).drop (shift:Int).toNat) else Option.none) = _
      rw [if_pos (nn shift),Int.toNat_natCast,← List.map_drop,newl_Q rfl rfl (by rw [List.length_drop]; exact Nat.le_trans (Nat.sub_le _ _) (Nat.le_trans rl1 (by decide)))]
    · refine bind_to (ev_var (r:=⟨encQs m.rest1,true,true⟩) rfl) (bind_to (ev_var (r:=at1 (.int shift)) rfl) ?_)
      show (if 0 ≤ (shift:Int) then newl true true ((m.rest1.map encQ).take (shift:Int).toNat) else Option.none) = _
      rw [if_pos (nn shift),Int.toNat_natCast,← List.map_take,newl_Q rfl rfl (by rw [List.length_take]; exact Nat.le_trans (Nat.min_le_right _ _) (Nat.le_trans rl1 (by decide)))]
    · show newl (true && true) (true && true) ((m.rest1.drop shift).map encQ ++ (m.rest1.take shift).map encQ) = _
      rw [← List.map_append]
      exact newl_Q rfl rfl (Nat.le_trans rotl (by decide))
  refine seq_set (r:=⟨encQs (rot shift m.rest1),true,true⟩) hrot rfl ?_
  let F:List Rl:=if (flip == 1) then (rot shift m.rest1).reverse else rot shift m.rest1
  have Fl:F.length ≤ 7:=flip_len m shift _
  refine seq_if (k:=flip == 1) (t:=at1 (.bool (flip == 1))) (ev_cmp (ev_var rfl) ev_int rfl) rfl (σ':=[some (at1 (.str x)),some (at1 (.str y)),some (at1 (.str s)),some ⟨encS tail,false,true⟩,some (at1 (.int must)),some (at1 (.int shift)),some (at1 (.int flip)),some (at1 (.str m.e)),some ⟨encS m.after,true,true⟩,some ⟨encS m.start,true,true⟩,some ⟨encQs F,true,true⟩]) ?_ ?_
  · cases hf:(flip == 1) with
    | true =>
      have:F = (rot shift m.rest1).reverse:=if_pos hf
      rw [this]
      refine seq_set (r:=⟨encQs (rot shift m.rest1).reverse,true,true⟩) ?_ rfl seq_nil
      refine bind_to (ev_var (r:=⟨encQs (rot shift m.rest1),true,true⟩) rfl) ?_
      show newl true true ((rot shift m.rest1).map encQ).reverse = _
      rw [← List.map_reverse]
      exact newl_Q rfl rfl (by rw [List.length_reverse]; exact Nat.le_trans rotl (by decide))
    | false =>
      have:F = rot shift m.rest1:=if_neg (by rw [hf]; simp)
      rw [this]
      exact seq_nil
  refine seq_ret (ev_bin (r:=⟨encQs [⟨m.S,m.L :: m.tail,m.start,m.L⟩],true,true⟩) (q:=⟨encQs F,true,true⟩) (ev_list (rs:=[⟨encQ ⟨m.S,m.L :: m.tail,m.start,m.L⟩,true,true⟩]) (evs_cons (ev_tup (rs:=[at1 (.str "S"),⟨encS (m.L :: m.tail),true,true⟩,⟨encS m.start,true,true⟩,at1 (.str "L")]) (evs_cons ev_str (evs_cons (ev_bin (r:=⟨encS [m.L],true,true⟩) (q:=⟨encS tail,false,true⟩) (ev_list (evs_cons ev_str evs_nil) rfl) (ev_var rfl) ?_) (evs_cons (ev_var rfl) (evs_cons ev_str evs_nil)))) (show 4 ≤ lim by decide)) evs_nil) rfl) (ev_var rfl) ?_)
  · show newl (true && false) (true && true) ([PV.str m.L] ++ tail.map PV.str) = _
    exact newl_str _ _ (m.L :: tail) (Nat.le_trans (Nat.succ_le_succ ht) (by decide))
  · show newl (true && true) (true && true) ([encQ ⟨m.S,m.L :: m.tail,m.start,m.L⟩] ++ F.map encQ) = _
    exact newl_Q (rs:=⟨m.S,m.L :: m.tail,m.start,m.L⟩ :: F) rfl rfl (Nat.le_trans (Nat.succ_le_succ Fl) (by decide))
end
end Mine
namespace Mine
open PySem L7
section
variable {Φ:FTab} {σ:Sig}
theorem addS_enc {a b:List Str} {f c f' c':Bool} (h:a.length + b.length ≤ lim):abin .Add ⟨encS a,f,c⟩ ⟨encS b,f',c'⟩ = some ⟨encS (a ++ b),true,true⟩:=by
  show newl (f && f') (c && c') (a.map PV.str ++ b.map PV.str) = _
  rw [← List.map_append]
  exact newl_str _ _ _ (by rw [List.length_append]; exact h)
theorem run_law_word (x y s:Str) (tail:List Str) (i j k:Nat) (hi:i < 3) (ht:tail.length ≤ 10) (n:Nat) :
    ∃ w,w.length ≤ 8 + tail.length ∧ (∀ z ∈ w,z ∈ x :: y :: s :: tail) ∧ aexecs Φ n ss_law_word (initσ 3 [.str x,.str y,.str s,encS tail,.int i,.int j,.int k]) = some (.ret ⟨encS w,true,true⟩):=by
  let its:List (List Str):=[[],[x],[x,y]]
  have hit:∀ a:Nat,a < 3 → ∃ t,t.length ≤ 2 ∧ (∀ z ∈ t,z ∈ x :: y :: s :: tail) ∧ aidx ⟨.list (its.map encS),true,true⟩ (.int a) = some ⟨encS t,true,true⟩:=by
    intro a ha
    have:a = 0 ∨ a = 1 ∨ a = 2:=by lia
    rcases this with rfl | rfl | rfl
    · exact ⟨[],by simp,by simp,rfl⟩
    · exact ⟨[x],by simp,by simp,rfl⟩
    · exact ⟨[x,y],by simp,by simp,rfl⟩
  refine cps fun Gq hGq=>?_
  obtain ⟨t,t1,t2,t3⟩:=hit i hi
  refine hGq ?_
  clear hGq
  let J:List Nat → Sig → Prop:=fun pre σ=>∃ w r9,w.length ≤ 2 + 3 * pre.length ∧ (∀ z ∈ w,z ∈ x :: y :: s :: tail) ∧ σ = [some (at1 (.str x)),some (at1 (.str y)),some (at1 (.str s)),some ⟨encS tail,false,true⟩,some (at1 (.int i)),some (at1 (.int j)),some (at1 (.int k)),some ⟨.list (its.map encS),true,true⟩,some ⟨encS w,true,true⟩,r9]
  have hb:∀ pre a post σ,[j,k] = pre ++ a :: post → J pre σ → ∃ σ',aexecs Φ n [.ife (.cmp .Lt (.var 9) (.int 3)) [.set 8 (.bin .Add (.bin .Add (.var 8) (.list [.var 2])) (.idx (.var 7) (.var 9)))] []] (σ.set 9 (some (part ⟨.tup [.int j,.int k],true,true⟩ (.int (a:Nat))))) = some (.next σ') ∧ J (pre ++ [a]) σ':=by
    rintro pre a post σ e ⟨w,r9,h1,h2,rfl⟩
    have hpl:=pre_len e
    simp at hpl
    by_cases ha:a < 3
    · obtain ⟨u,u1,u2,u3⟩:=hit a ha
      refine ⟨[some (at1 (.str x)),some (at1 (.str y)),some (at1 (.str s)),some ⟨encS tail,false,true⟩,some (at1 (.int i)),some (at1 (.int j)),some (at1 (.int k)),some ⟨.list (its.map encS),true,true⟩,some ⟨encS (w ++ [s] ++ u),true,true⟩,some (at1 (.int a))],?_,w ++ [s] ++ u,_,?_,?_,rfl⟩
      · refine seq_if (k:=true) (t:=at1 (.bool true)) (ev_cmp (ev_var rfl) ev_int (by show some (decide ((a:Int) < 3)) = _; simp; lia)) rfl ?_ seq_nil
        exact seq_set (r:=⟨encS (w ++ [s] ++ u),true,true⟩) (ev_bin (ev_bin (ev_var rfl) (ev_list (evs_cons (ev_var rfl) evs_nil) (newlR_one s)) (addS_enc (by simp [lim]; lia))) (ev_idx (ev_var rfl) (ev_var rfl) u3) (addS_enc (by simp [lim]; lia))) rfl seq_nil
      · simp; lia
      · intro z hz
        simp only [List.mem_append,List.mem_singleton] at hz
        rcases hz with (hz | hz) | hz
        · exact h2 z hz
        · rw [hz]; simp
        · exact u2 z hz
    · refine ⟨_,seq_if (k:=false) (t:=at1 (.bool false)) (ev_cmp (ev_var rfl) ev_int (by show some (decide ((a:Int) < 3)) = _; simp; lia)) rfl seq_nil seq_nil,w,_,by simp; lia,h2,rfl⟩
  obtain ⟨σ',h1,w,r9,h2,h3,rfl⟩:=afor_pre (body:=aexecs Φ n [.ife (.cmp .Lt (.var 9) (.int 3)) [.set 8 (.bin .Add (.bin .Add (.var 8) (.list [.var 2])) (.idx (.var 7) (.var 9)))] []]) (x:=9) (q:=⟨.tup [.int j,.int k],true,true⟩) (fun a:Nat=>PV.int a) [j,k] J hb [some (at1 (.str x)),some (at1 (.str y)),some (at1 (.str s)),some ⟨encS tail,false,true⟩,some (at1 (.int i)),some (at1 (.int j)),some (at1 (.int k)),some ⟨.list (its.map encS),true,true⟩,some ⟨encS t,true,true⟩,Option.none] ⟨t,_,by simp; lia,t2,rfl⟩
  simp at h2
  refine ⟨w ++ tail,by simp; lia,?_,?_⟩
  · intro z hz
    rcases List.mem_append.mp hz with hz | hz
    · exact h3 z hz
    · simp [hz]
  · delta ss_law_word
    refine seq_set (r:=⟨.list (its.map encS),true,true⟩) (ev_list (rs:=[⟨encS [],true,true⟩,⟨encS [x],true,true⟩,⟨encS [x,y],true,true⟩]) (evs_cons (ev_list evs_nil rfl) (evs_cons (ev_list (evs_cons (ev_var rfl) evs_nil) (newlR_one x)) (evs_cons (ev_list (evs_cons (ev_var rfl) (evs_cons (ev_var rfl) evs_nil)) (newlR_strs [x,y] (show 2 ≤ lim by decide))) evs_nil))) rfl) rfl ?_
    refine seq_set (r:=⟨encS t,true,true⟩) (ev_idx (ev_var rfl) (ev_var rfl) t3) rfl ?_
    refine seq (σ':=[some (at1 (.str x)),some (at1 (.str y)),some (at1 (.str s)),some ⟨encS tail,false,true⟩,some (at1 (.int i)),some (at1 (.int j)),some (at1 (.int k)),some ⟨.list (its.map encS),true,true⟩,some ⟨encS w,true,true⟩,r9]) ?_ (seq_ret (ev_bin (ev_var rfl) (ev_var rfl) (addS_enc (by delta lim; lia))))
    exact ex_fr (ev_tup (rs:=[at1 (.int j),at1 (.int k)]) (evs_cons (ev_var rfl) (evs_cons (ev_var rfl) evs_nil)) (show 2 ≤ lim by decide)) rfl rfl h1
theorem len_td (w:List Str) (p q:Nat) (h:p ≤ q):(w.take p ++ w.drop q).length ≤ w.length:=by
  rw [List.length_append,List.length_take,List.length_drop]
  refine Nat.le_trans (Nat.add_le_add_right (Nat.le_min.mpr ⟨Nat.min_le_right _ _,Nat.le_trans (Nat.min_le_left _ _) h⟩) _) ?_
  rw [Nat.add_comm,Nat.sub_add_min_cancel]
  exact Nat.le_refl _
theorem len_td1 (w:List Str) (p q:Nat) (x:Str) (h:p ≤ q):(w.take p ++ [x] ++ w.drop q).length ≤ w.length + 1:=by
  have:=len_td w p q h
  rw [List.length_append] at this
  rw [List.length_append,List.length_append,Nat.add_right_comm]
  exact Nat.succ_le_succ this
theorem lim_td {w:List Str} {p q:Nat} (h:w.length ≤ 30):(w.take p).length + (w.drop q).length ≤ lim:=by
  rw [List.length_take,List.length_drop]
  exact Nat.le_trans (Nat.add_le_add (Nat.le_trans (Nat.min_le_right _ _) h) (Nat.le_trans (Nat.sub_le _ _) h)) (by decide)
theorem lim_t1 {w:List Str} {p:Nat} {x:Str} (h:w.length ≤ 30):(w.take p).length + [x].length ≤ lim:=by
  rw [List.length_take]
  exact Nat.le_trans (Nat.succ_le_succ (Nat.le_trans (Nat.min_le_right _ _) h)) (by decide)
theorem lim_td1 {w:List Str} {p q:Nat} {x:Str} (h:w.length ≤ 30):(w.take p ++ [x]).length + (w.drop q).length ≤ lim:=by
  rw [List.length_append,List.length_take,List.length_drop]
  exact Nat.le_trans (Nat.add_le_add (Nat.succ_le_succ (Nat.le_trans (Nat.min_le_right _ _) h)) (Nat.le_trans (Nat.sub_le _ _) h)) (by decide)
theorem run_law_hurt (w:List Str) (kind wh:Int) (odd:Str) (hw:w.length ≤ 30) (n:Nat) :
    ∃ w' f,w'.length ≤ w.length + 1 ∧ (∀ z ∈ w',z ∈ odd :: w) ∧ aexecs Φ n ss_law_hurt (initσ 1 [encS w,.int kind,.int wh,.str odd]) = some (.ret ⟨encS w',f,true⟩):=by
  have hwl:w.length ≤ lim:=Nat.le_trans hw (by decide)
  have hr:=fmod_range (n:=wh) (k:=(w.length:Int) + 1) (by omega)
  obtain ⟨p,hp⟩:∃ p:Nat,wh.fmod ((w.length:Int) + 1) = p:=⟨_,(Int.toNat_of_nonneg hr.1).symm⟩
  have hpl:p ≤ w.length:=by omega
  have hat:aeval Φ (.bin .Mod (.var 2) (.bin .Add (.len (.var 0)) (.int 1))) [some ⟨encS w,false,true⟩,some (at1 (.int kind)),some (at1 (.int wh)),some (at1 (.str odd)),Option.none] = some (at1 (.int p)):=by
    refine ev_bin (r:=at1 (.int wh)) (q:=at1 (.int ((w.length:Int) + 1))) (ev_var rfl) (ev_bin (ev_len (n:=w.length) (ev_var rfl) (by show some (w.map PV.str).length = _; rw [List.length_map])) ev_int rfl) ?_
    show (if (w.length:Int) + 1 ≠ 0 then some (at1 (.int (wh.fmod ((w.length:Int) + 1)))) else Option.none) = _
    rw [if_pos (by omega),hp]
  let σ1:Sig:=[some ⟨encS w,false,true⟩,some (at1 (.int kind)),some (at1 (.int wh)),some (at1 (.str odd)),some (at1 (.int p))]
  have e1:aeval Φ (.supto (.var 0) (.var 4)) σ1 = some ⟨encS (w.take p),true,true⟩:=ev_supto (ev_var rfl) (ev_var rfl) hwl
  have e2:aeval Φ (.sfrom (.var 0) (.var 4)) σ1 = some ⟨encS (w.drop p),true,true⟩:=ev_sfrom (ev_var rfl) (ev_var rfl) hwl
  have e3:aeval Φ (.sfrom (.var 0) (.bin .Add (.var 4) (.int 1))) σ1 = some ⟨encS (w.drop (p + 1)),true,true⟩:=ev_sfrom (k:=p + 1) (f':=true) (c':=true) (ev_var rfl) (ev_bin (ev_var rfl) ev_int rfl) hwl
  have e4:aeval Φ (.list [.var 3]) σ1 = some ⟨encS [odd],true,true⟩:=ev_list (evs_cons (ev_var rfl) evs_nil) (newlR_one odd)
  have hk:∀ k:Int,aeval Φ (.cmp .Eq (.var 1) (.int k)) σ1 = some (at1 (.bool (kind == k))):=fun k=>ev_cmp (ev_var rfl) ev_int rfl
  have m1:∀ z ∈ w.take p,z ∈ odd :: w:=fun z hz=>List.mem_cons_of_mem _ (List.mem_of_mem_take hz)
  have m2:∀ q,∀ z ∈ w.drop q,z ∈ odd :: w:=fun q z hz=>List.mem_cons_of_mem _ (List.mem_of_mem_drop hz)
  have pre:∀ o,aexecs Φ n [.ife (.cmp .Eq (.var 1) (.int 1)) [.ret (.bin .Add (.bin .Add (.supto (.var 0) (.var 4)) (.list [.var 3])) (.sfrom (.var 0) (.var 4)))] [],.ife (.cmp .Eq (.var 1) (.int 2)) [.ret (.bin .Add (.supto (.var 0) (.var 4)) (.sfrom (.var 0) (.bin .Add (.var 4) (.int 1))))] [],.ife (.cmp .Eq (.var 1) (.int 3)) [.ret (.bin .Add (.bin .Add (.supto (.var 0) (.var 4)) (.list [.var 3])) (.sfrom (.var 0) (.bin .Add (.var 4) (.int 1))))] [],.ret (.var 0)] σ1 = some o → aexecs Φ n ss_law_hurt (initσ 1 [encS w,.int kind,.int wh,.str odd]) = some o:=fun o ho=>by
    delta ss_law_hurt
    exact seq_set (r:=at1 (.int p)) hat rfl ho
  by_cases h1:kind = 1
  · refine ⟨w.take p ++ [odd] ++ w.drop p,true,len_td1 w p p odd (Nat.le_refl p),?_,pre _ (seq_if_ret (k:=true) (hk 1) (by simp [h1,at1,boolOf,dB_bool]) (seq_ret (ev_bin (ev_bin e1 e4 (addS_enc (lim_t1 hw))) e2 (addS_enc (lim_td1 hw)))))⟩
    intro z hz
    simp only [List.mem_append,List.mem_singleton] at hz
    rcases hz with (hz | hz) | hz
    · exact m1 z hz
    · simp [hz]
    · exact m2 _ z hz
  · by_cases h2:kind = 2
    · refine ⟨w.take p ++ w.drop (p + 1),true,Nat.le_succ_of_le (len_td w p (p + 1) (Nat.le_succ p)),?_,pre _ (seq_if (k:=false) (hk 1) (by simp [h1,at1,boolOf,dB_bool]) seq_nil (seq_if_ret (k:=true) (hk 2) (by simp [h2,at1,boolOf,dB_bool]) (seq_ret (ev_bin e1 e3 (addS_enc (lim_td hw))))))⟩
      intro z hz
      simp only [List.mem_append] at hz
      rcases hz with hz | hz
      · exact m1 z hz
      · exact m2 _ z hz
    · by_cases h3:kind = 3
      · refine ⟨w.take p ++ [odd] ++ w.drop (p + 1),true,len_td1 w p (p + 1) odd (Nat.le_succ p),?_,pre _ (seq_if (k:=false) (hk 1) (by simp [h1,at1,boolOf,dB_bool]) seq_nil (seq_if (k:=false) (hk 2) (by simp [h2,at1,boolOf,dB_bool]) seq_nil (seq_if_ret (k:=true) (hk 3) (by simp [h3,at1,boolOf,dB_bool]) (seq_ret (ev_bin (ev_bin e1 e4 (addS_enc (lim_t1 hw))) e3 (addS_enc (lim_td1 hw)))))))⟩
        intro z hz
        simp only [List.mem_append,List.mem_singleton] at hz
        rcases hz with (hz | hz) | hz
        · exact m1 z hz
        · simp [hz]
        · exact m2 _ z hz
      · refine ⟨w,false,by omega,fun z hz=>List.mem_cons_of_mem _ hz,pre _ (seq_if (k:=false) (hk 1) (by simp [h1,at1,boolOf,dB_bool]) seq_nil (seq_if (k:=false) (hk 2) (by simp [h2,at1,boolOf,dB_bool]) seq_nil (seq_if (k:=false) (hk 3) (by simp [h3,at1,boolOf,dB_bool]) seq_nil (seq_ret (ev_var rfl)))))⟩
end
theorem mk7_ok {x y s:Str} {tail:List Str} {o:Bool} (hx:x ∈ LET) (hy:y ∈ LET) (hs:s ∈ LET) (ht:∀ t ∈ tail,t ∈ LET) (hl:tail.length ≤ 10):(Nm.mk7 x y s tail o).Ok2:=by
  have hLET:∀ z ∈ LET,(z ≠ "S" ∧ z ≠ "L" ∧ z ≠ "T" ∧ z ≠ "O" ∧ z ≠ "V") ∧ z ≠ "$" ∧ z.length ≤ 100:=by decide +kernel
  have hD:(("$":Str) ≠ "S" ∧ ("$":Str) ≠ "L" ∧ ("$":Str) ≠ "T" ∧ ("$":Str) ≠ "O" ∧ ("$":Str) ≠ "V"):=by decide +kernel
  have hH:∀ z ∈ [("$":Str),"S","L","T","O","V"],z.length ≤ 100 ∧ z ≠ "":=by decide +kernel
  refine ⟨⟨by show ("S":Str) ≠ "L"; decide +kernel,by show ("S":Str) ≠ "T"; decide +kernel,by show ("S":Str) ≠ "O"; decide +kernel,by show ("S":Str) ≠ "V"; decide +kernel,by show ("L":Str) ≠ "T"; decide +kernel,by show ("L":Str) ≠ "O"; decide +kernel,by show ("L":Str) ≠ "V"; decide +kernel,by show ("T":Str) ≠ "O"; decide +kernel,by show ("T":Str) ≠ "V"; decide +kernel,by show ("O":Str) ≠ "V"; decide +kernel,?_,rfl⟩,rfl,(hLET x hx).2.1,(hLET y hy).2.1,(hLET s hs).2.1,fun t h=>(hLET t (ht t h)).2.1,?_,?_,?_⟩
  · intro z hz
    change z ∈ x :: y :: s :: ("$":Str) :: tail at hz
    simp only [List.mem_cons] at hz
    rcases hz with rfl | rfl | rfl | rfl | hz
    · exact (hLET _ hx).1
    · exact (hLET _ hy).1
    · exact (hLET _ hs).1
    · exact hD
    · exact (hLET z (ht z hz)).1
  · intro z hz
    change z ∈ ("$":Str) :: tail ++ [("S":Str),"L","T","O","V"] at hz
    simp only [List.cons_append,List.mem_cons,List.mem_append,List.not_mem_nil,or_false] at hz
    rcases hz with rfl | hz | rfl | rfl | rfl | rfl | rfl
    · exact (hH _ (by simp)).1
    · exact (hLET z (ht z hz)).2.2
    · exact (hH _ (by simp)).1
    · exact (hH _ (by simp)).1
    · exact (hH _ (by simp)).1
    · exact (hH _ (by simp)).1
    · exact (hH _ (by simp)).1
  · intro z hz
    change z ∈ [("S":Str),"L","T","O","V"] at hz
    exact (hH z (List.mem_cons_of_mem _ hz)).2
  · show tail.length ≤ 20; lia
theorem gr7 {x y s:Str} {tail:List Str} {o:Bool} (hx:x ∈ LET) (hy:y ∈ LET) (hs:s ∈ LET) (ht:∀ t ∈ tail,t ∈ LET) (hl:tail.length ≤ 10) (shift:Nat) (flip:Bool):GrM (Nm.mk7 x y s tail o) ((Nm.mk7 x y s tail o).all shift flip) :=
  ⟨(mk7_ok hx hy hs ht hl).toOk,Nm.all_mem _ _ _⟩
end Mine
namespace Mine
open PySem L7
theorem tab_of_rows {ks:List Str} {l:List (Str × List Str)} {s:List Row × Nat} (H:RowsOk ks l s):Tab ks (s.1.map encRow) (firstR l):=by
  refine ⟨fun h hh=>look_none hh,fun h hh=>?_⟩
  refine cps fun Gq hGq=>?_
  obtain ⟨r,e,zz,hr⟩:=H.row h hh
  refine hGq ?_
  clear hGq
  refine ⟨rk r,(rv r).map fun k:Nat=>PV.int k,by rw [look_map,e]; rfl,fun u=>?_⟩
  rw [look_map,hr u]
abbrev cS:Str:="S"
abbrev cA:Str:="A"
abbrev cB:Str:="B"
abbrev cC:Str:="C"
abbrev cD:Str:="$"
noncomputable def tallG (pad:Nat):List Rule:=[(cS,List.replicate 7 cA ++ List.replicate pad cC),(cA,List.replicate 7 cB),(cB,List.replicate 9 cC),(cC,[])]
theorem fo_none {ks nl:List Str} {F:Str → Str → Prop} (hF:∀ h t,¬ F h t) {t:Str}:∀ {xs:List Str},(∀ x ∈ xs,x ∈ ks) → ¬ inFos ks nl F xs t
  | [],_=>fun h=>h
  | x :: xs,hx=>by
    rw [fo_hd (hx x (by simp))]
    rintro (h | ⟨zz,h⟩)
    · exact hF _ _ h
    · exact fo_none hF (fun y hy=>hx y (by simp [hy])) h
theorem va_all {ks nl:List Str}:∀ {xs:List Str},(∀ x ∈ xs,x ∈ ks ∧ x ∈ nl) → vanF ks nl xs
  | [],_=>trivial
  | x :: xs,h=>⟨(h x (by simp)).1,(h x (by simp)).2,va_all fun y hy=>h y (by simp [hy])⟩
noncomputable def tallH:List Str:=[cS,cA,cB,cC]
theorem tall_body {pad:Nat} {r:Rule} (hr:r ∈ tallG pad):r.1 ∈ tallH ∧ ∀ x ∈ r.2,x ∈ tallH:=by
  simp only [tallG,List.mem_cons,List.not_mem_nil,or_false] at hr
  rcases hr with rfl | rfl | rfl | rfl
  · refine ⟨by simp [tallH],fun x hx=>?_⟩
    rcases List.mem_append.mp hx with hx | hx
    · rw [List.eq_of_mem_replicate hx]; simp [tallH]
    · rw [List.eq_of_mem_replicate hx]; simp [tallH]
  · exact ⟨by simp [tallH],fun x hx=>by rw [List.eq_of_mem_replicate hx]; simp [tallH]⟩
  · exact ⟨by simp [tallH],fun x hx=>by rw [List.eq_of_mem_replicate hx]; simp [tallH]⟩
  · exact ⟨by simp [tallH],by simp⟩
noncomputable def hdsT (pad:Nat):List Str:=metS ((tallG pad).map (·.1))
theorem tall_ks (pad:Nat) (h:Str):h ∈ hdsT pad ↔ h ∈ tallH:=by
  delta hdsT; rw [mem_metS]; rfl
theorem tall_pred {pad:Nat} {nl:List Str} {vs ws:List (List Str)} (N:IsNul (tallG pad) nl) (V:IsFst (tallG pad) (hdsT pad) nl vs) (W:IsFol (tallG pad) (hdsT pad) nl (FF (hdsT pad) vs) cS ws) {r:Rule} (hr:r ∈ tallG pad) :
    pred (hdsT pad) nl vs ws r = [cD]:=by
  have hC:cC ∈ nl:=N.closed (cC,[]) (by first | exact .head _ | exact .tail _ (.head _) | exact .tail _ (.tail _ (.head _)) | exact .tail _ (.tail _ (.tail _ (.head _))) | exact .tail _ (.tail _ (.tail _ (.tail _ (.head _))))) (by simp)
  have hB:cB ∈ nl:=N.closed (cB,List.replicate 9 cC) (by first | exact .head _ | exact .tail _ (.head _) | exact .tail _ (.tail _ (.head _)) | exact .tail _ (.tail _ (.tail _ (.head _))) | exact .tail _ (.tail _ (.tail _ (.tail _ (.head _))))) (fun x hx=>by rw [List.eq_of_mem_replicate hx]; exact hC)
  have hA:cA ∈ nl:=N.closed (cA,List.replicate 7 cB) (by first | exact .head _ | exact .tail _ (.head _) | exact .tail _ (.tail _ (.head _)) | exact .tail _ (.tail _ (.tail _ (.head _))) | exact .tail _ (.tail _ (.tail _ (.tail _ (.head _))))) (fun x hx=>by rw [List.eq_of_mem_replicate hx]; exact hB)
  have hS:cS ∈ nl:=N.closed (cS,List.replicate 7 cA ++ List.replicate pad cC) (by first | exact .head _ | exact .tail _ (.head _) | exact .tail _ (.tail _ (.head _)) | exact .tail _ (.tail _ (.tail _ (.head _))) | exact .tail _ (.tail _ (.tail _ (.tail _ (.head _))))) (fun x hx=>by
    rcases List.mem_append.mp hx with hx | hx
    · rw [List.eq_of_mem_replicate hx]; exact hA
    · rw [List.eq_of_mem_replicate hx]; exact hC)
  have hnl:∀ x ∈ tallH,x ∈ hdsT pad ∧ x ∈ nl:=fun x hx=>by
    refine ⟨(tall_ks pad x).mpr hx,?_⟩
    simp only [tallH,List.mem_cons,List.not_mem_nil,or_false] at hx
    rcases hx with rfl | rfl | rfl | rfl
    · exact hS
    · exact hA
    · exact hB
    · exact hC
  have hF:∀ h t,¬ FF (hdsT pad) vs h t:=fun h t hf =>
    V.least (fun zz zz=>False) (fun r hr t ht=>fo_none (fun zz zz h=>h) (fun x hx=>(hnl x ((tall_body hr).2 x hx)).1) ht) h t hf
  have hk:∀ {x},x ∈ tallH → x ∈ hdsT pad:=fun hx=>(hnl _ hx).1
  have van:∀ {r:Rule},r ∈ tallG pad → ∀ i,vanF (hdsT pad) nl (r.2.drop i):=fun hr i=>va_all fun x hx=>hnl x ((tall_body hr).2 x (List.mem_of_mem_drop hx))
  have wS:FF (hdsT pad) ws cS cD:=W.closed.1
  have wA:FF (hdsT pad) ws cA cD:=(W.closed.2 (cS,List.replicate 7 cA ++ List.replicate pad cC) (by first | exact .head _ | exact .tail _ (.head _) | exact .tail _ (.tail _ (.head _)) | exact .tail _ (.tail _ (.tail _ (.head _))) | exact .tail _ (.tail _ (.tail _ (.tail _ (.head _))))) 0 cA (by simp) (hk (by first | exact .head _ | exact .tail _ (.head _) | exact .tail _ (.tail _ (.head _)) | exact .tail _ (.tail _ (.tail _ (.head _))) | exact .tail _ (.tail _ (.tail _ (.tail _ (.head _))))))).2 (van (r:=(cS,List.replicate 7 cA ++ List.replicate pad cC)) (by first | exact .head _ | exact .tail _ (.head _) | exact .tail _ (.tail _ (.head _)) | exact .tail _ (.tail _ (.tail _ (.head _))) | exact .tail _ (.tail _ (.tail _ (.tail _ (.head _))))) _) _ wS
  have wB:FF (hdsT pad) ws cB cD:=(W.closed.2 (cA,List.replicate 7 cB) (by first | exact .head _ | exact .tail _ (.head _) | exact .tail _ (.tail _ (.head _)) | exact .tail _ (.tail _ (.tail _ (.head _))) | exact .tail _ (.tail _ (.tail _ (.tail _ (.head _))))) 0 cB (by simp) (hk (by first | exact .head _ | exact .tail _ (.head _) | exact .tail _ (.tail _ (.head _)) | exact .tail _ (.tail _ (.tail _ (.head _))) | exact .tail _ (.tail _ (.tail _ (.tail _ (.head _))))))).2 (van (r:=(cA,List.replicate 7 cB)) (by first | exact .head _ | exact .tail _ (.head _) | exact .tail _ (.tail _ (.head _)) | exact .tail _ (.tail _ (.tail _ (.head _))) | exact .tail _ (.tail _ (.tail _ (.tail _ (.head _))))) _) _ wA
  have wC:FF (hdsT pad) ws cC cD:=(W.closed.2 (cB,List.replicate 9 cC) (by first | exact .head _ | exact .tail _ (.head _) | exact .tail _ (.tail _ (.head _)) | exact .tail _ (.tail _ (.tail _ (.head _))) | exact .tail _ (.tail _ (.tail _ (.tail _ (.head _))))) 0 cC (by simp) (hk (by first | exact .head _ | exact .tail _ (.head _) | exact .tail _ (.tail _ (.head _)) | exact .tail _ (.tail _ (.tail _ (.head _))) | exact .tail _ (.tail _ (.tail _ (.tail _ (.head _))))))).2 (van (r:=(cB,List.replicate 9 cC)) (by first | exact .head _ | exact .tail _ (.head _) | exact .tail _ (.tail _ (.head _)) | exact .tail _ (.tail _ (.tail _ (.head _))) | exact .tail _ (.tail _ (.tail _ (.tail _ (.head _))))) _) _ wB
  have wall:∀ x ∈ tallH,FF (hdsT pad) ws x cD:=fun x hx=>by
    simp only [tallH,List.mem_cons,List.not_mem_nil,or_false] at hx
    rcases hx with rfl | rfl | rfl | rfl
    · exact wS
    · exact wA
    · exact wB
    · exact wC
  have wonly:∀ h t,FF (hdsT pad) ws h t → t = cD:=fun h t hf =>
    W.least (fun zz t=>t = cD) ⟨rfl,fun r hr i X hX hXk=>⟨fun t ht=>absurd ht (fo_none hF fun x hx=>(hnl x ((tall_body hr).2 x (List.mem_of_mem_drop hx))).1),fun zz t ht=>ht⟩⟩ h t hf
  have hb:=tall_body hr
  refine (pred_SN _).ext (SN_one _) fun t=>?_
  rw [mem_pred V.len W.len (hk hb.1),List.mem_singleton]
  constructor
  · rintro (h | ⟨zz,h⟩)
    · exact absurd h (fo_none hF fun x hx=>(hnl x (hb.2 x hx)).1)
    · exact wonly _ _ h
  · rintro rfl
    exact .inr ⟨van hr 0,wall _ hb.1⟩
noncomputable def tallL (pad:Nat):List (Str × List Str):=(tallG pad).map fun r=>(r.1,[cD])
theorem tall_T (pad:Nat):firstR (tallL pad) cS cD = some 0 ∧ firstR (tallL pad) cA cD = some 1 ∧ firstR (tallL pad) cB cD = some 2 ∧ firstR (tallL pad) cC cD = some 3:=by
  have e:tallL pad = [(cS,[cD]),(cA,[cD]),(cB,[cD]),(cC,[cD])]:=rfl
  rw [e]
  decide +kernel
section
variable {Φ:FTab} {pad:Nat} {tk:Option RV} {ks:List Str} {rs:List PV} {o:Out} {stack:List Str} {steps:List Nat} {fuel:Nat}
theorem tall_C (hT:Tab ks rs (firstR (tallL pad))) (hk:cC ∈ ks):∀ (n:Nat) (steps:List Nat),steps.length + n < 10000 → stack.length + n < 10000 → PG Φ (tallG pad) tk ks rs [cD] 0 stack (steps ++ List.replicate n 3) fuel o → PG Φ (tallG pad) tk ks rs [cD] 0 (stack ++ List.replicate n cC) steps (fuel + n) o
  | 0,steps,_,_,H=>by simpa using H
  | n + 1,steps,hs,hst,H=>by
    have e:List.replicate (n + 1) cC = List.replicate n cC ++ [cC]:=List.replicate_succ'
    rw [e,← List.append_assoc]
    refine p_rule (fuel:=fuel + n) (r:=(cC,[])) (u:=cD) (k:=3) hT hk rfl (tall_T pad).2.2.2 rfl (by delta lim; lia) (by simp [lim]; lia) ?_
    simp only [List.reverse_nil,List.append_nil]
    refine tall_C hT hk n (steps ++ [3]) (by simp; lia) (by lia) ?_
    have e2:steps ++ [3] ++ List.replicate n 3 = steps ++ List.replicate (n + 1) 3:=by rw [List.append_assoc,List.replicate_succ]; rfl
    rw [e2]; exact H
noncomputable def stB:List Nat:=2 :: List.replicate 9 3
theorem tall_B (hT:Tab ks rs (firstR (tallL pad))) (hk:∀ x ∈ tallH,x ∈ ks):∀ (n:Nat) (steps:List Nat),steps.length + 10 * n < 10000 → stack.length + n < 9000 → PG Φ (tallG pad) tk ks rs [cD] 0 stack (steps ++ (List.replicate n stB).flatten) fuel o → PG Φ (tallG pad) tk ks rs [cD] 0 (stack ++ List.replicate n cB) steps (fuel + 10 * n) o
  | 0,steps,_,_,H=>by simpa using H
  | n + 1,steps,hs,hst,H=>by
    have e:List.replicate (n + 1) cB = List.replicate n cB ++ [cB]:=List.replicate_succ'
    rw [e,← List.append_assoc]
    refine p_rule (fuel:=fuel + 10 * n + 9) (r:=(cB,List.replicate 9 cC)) (u:=cD) (k:=2) hT (hk _ (by first | exact .head _ | exact .tail _ (.head _) | exact .tail _ (.tail _ (.head _)) | exact .tail _ (.tail _ (.tail _ (.head _))) | exact .tail _ (.tail _ (.tail _ (.tail _ (.head _)))))) rfl (tall_T pad).2.2.1 rfl (by delta lim; lia) (by simp [lim]; lia) ?_
    simp only [List.reverse_replicate]
    refine tall_C hT (hk _ (by first | exact .head _ | exact .tail _ (.head _) | exact .tail _ (.tail _ (.head _)) | exact .tail _ (.tail _ (.tail _ (.head _))) | exact .tail _ (.tail _ (.tail _ (.tail _ (.head _)))))) 9 (steps ++ [2]) (by simp; lia) (by simp; lia) ?_
    refine tall_B hT hk n (steps ++ [2] ++ List.replicate 9 3) (by simp; lia) (by lia) ?_
    have e2:steps ++ [2] ++ List.replicate 9 3 ++ (List.replicate n stB).flatten = steps ++ (List.replicate (n + 1) stB).flatten:=by
      rw [List.replicate_succ (n:=n) (a:=stB),List.flatten_cons]
      show _ = steps ++ ((2 :: List.replicate 9 3) ++ _)
      generalize (List.replicate n stB).flatten = z
      simp
    rw [e2]; exact H
noncomputable def stA:List Nat:=1 :: (List.replicate 7 stB).flatten
theorem tall_A (hT:Tab ks rs (firstR (tallL pad))) (hk:∀ x ∈ tallH,x ∈ ks):∀ (n:Nat) (steps:List Nat),steps.length + 100 * n < 9000 → stack.length + n < 8000 → PG Φ (tallG pad) tk ks rs [cD] 0 stack (steps ++ (List.replicate n stA).flatten) fuel o → PG Φ (tallG pad) tk ks rs [cD] 0 (stack ++ List.replicate n cA) steps (fuel + 71 * n) o
  | 0,steps,_,_,H=>by simpa using H
  | n + 1,steps,hs,hst,H=>by
    have e:List.replicate (n + 1) cA = List.replicate n cA ++ [cA]:=List.replicate_succ'
    rw [e,← List.append_assoc]
    refine p_rule (fuel:=fuel + 71 * n + 70) (r:=(cA,List.replicate 7 cB)) (u:=cD) (k:=1) hT (hk _ (by first | exact .head _ | exact .tail _ (.head _) | exact .tail _ (.tail _ (.head _)) | exact .tail _ (.tail _ (.tail _ (.head _))) | exact .tail _ (.tail _ (.tail _ (.tail _ (.head _)))))) rfl (tall_T pad).2.1 rfl (by delta lim; lia) (by simp [lim]; lia) ?_
    simp only [List.reverse_replicate]
    refine tall_B hT hk 7 (steps ++ [1]) (by simp; lia) (by simp; lia) ?_
    refine tall_A hT hk n (steps ++ [1] ++ (List.replicate 7 stB).flatten) ?_ (by lia) ?_
    · have:((List.replicate 7 stB).flatten).length = 70:=by decide
      simp only [List.length_append,List.length_singleton,this]; lia
    · have e2:steps ++ [1] ++ (List.replicate 7 stB).flatten ++ (List.replicate n stA).flatten = steps ++ (List.replicate (n + 1) stA).flatten:=by
        rw [List.replicate_succ (n:=n) (a:=stA),List.flatten_cons]
        show _ = steps ++ ((1 :: (List.replicate 7 stB).flatten) ++ _)
        generalize (List.replicate n stA).flatten = z
        generalize (List.replicate 7 stB).flatten = y
        simp
      rw [e2]; exact H
noncomputable def tallSteps (pad:Nat):List Nat:=[0] ++ (List.replicate 7 stA).flatten ++ List.replicate pad 3
theorem tall_parse (hT:Tab ks rs (firstR (tallL pad))) (hk:∀ h,h ∈ ks ↔ h ∈ tallH) (hp:pad < 3):PG Φ (tallG pad) tk ks rs [cD] 0 [cD,cS] [] 500 (if pad = 2 then .exc "the fuel is spent" else .ret ⟨encI (tallSteps pad),true,false⟩):=by
  have hin:∀ x ∈ tallH,x ∈ ks:=fun x hx=>(hk x).mpr hx
  have hd:cD ∉ ks:=fun h=>by
    have:cD ∉ tallH:=by decide +kernel
    exact this ((hk _).mp h)
  have e1:([cD,cS]:List Str) = [cD] ++ [cS]:=rfl
  rw [e1]
  refine p_rule (fuel:=499) (r:=(cS,List.replicate 7 cA ++ List.replicate pad cC)) (u:=cD) (k:=0) hT (hin _ (by first | exact .head _ | exact .tail _ (.head _) | exact .tail _ (.tail _ (.head _)) | exact .tail _ (.tail _ (.tail _ (.head _))) | exact .tail _ (.tail _ (.tail _ (.tail _ (.head _)))))) rfl (tall_T pad).1 rfl (by decide) (by simp [lim]; lia) ?_
  simp only [List.reverse_append,List.reverse_replicate,List.nil_append]
  rw [← List.append_assoc]
  have hlen:((List.replicate 7 stA).flatten).length = 497:=by decide
  refine tall_A (fuel:=2) hT hin 7 [0] (by simp) (by simp; lia) ?_
  have hst:([0] ++ (List.replicate 7 stA).flatten).length = 498:=by rw [List.length_append,hlen]; rfl
  have:pad = 0 ∨ pad = 1 ∨ pad = 2:=by lia
  rcases this with rfl | rfl | rfl
  · rw [if_neg (by decide)]
    refine tall_C (fuel:=2) hT (hin _ (by first | exact .head _ | exact .tail _ (.head _) | exact .tail _ (.tail _ (.head _)) | exact .tail _ (.tail _ (.tail _ (.head _))) | exact .tail _ (.tail _ (.tail _ (.tail _ (.head _)))))) 0 _ (by rw [hst]; decide) (by simp) ?_
    have:=p_end (Φ:=Φ) (g:=tallG 0) (tk:=tk) (ks:=ks) (rs:=rs) (unread:=[cD]) (place:=1) (steps:=tallSteps 0) (fuel:=1) (by decide)
    exact p_tok (stack:=[]) (u:=cD) hT hd rfl this
  · rw [if_neg (by decide)]
    refine tall_C (fuel:=1) hT (hin _ (by first | exact .head _ | exact .tail _ (.head _) | exact .tail _ (.tail _ (.head _)) | exact .tail _ (.tail _ (.tail _ (.head _))) | exact .tail _ (.tail _ (.tail _ (.tail _ (.head _)))))) 1 _ (by rw [hst]; decide) (by simp) ?_
    have:=p_end (Φ:=Φ) (g:=tallG 1) (tk:=tk) (ks:=ks) (rs:=rs) (unread:=[cD]) (place:=1) (steps:=tallSteps 1) (fuel:=0) (by decide)
    exact p_tok (stack:=[]) (u:=cD) hT hd rfl this
  · rw [if_pos rfl]
    refine tall_C (fuel:=0) hT (hin _ (by first | exact .head _ | exact .tail _ (.head _) | exact .tail _ (.tail _ (.head _)) | exact .tail _ (.tail _ (.tail _ (.head _))) | exact .tail _ (.tail _ (.tail _ (.tail _ (.head _)))))) 2 _ (by rw [hst]; decide) (by simp) ?_
    exact p_spent (stack:=[])
end
end Mine
namespace Mine
open PySem L7
theorem upd_eq (Φ:FTab) (f:Str) (g:List PV → Option (PV × Bool)) (ds:List PV):updΦ Φ f g f ds = g ds:=if_pos rfl
theorem upd_ne {Φ:FTab} {f x:Str} {g:List PV → Option (PV × Bool)} {ds:List PV} (h:x ≠ f):updΦ Φ f g x ds = Φ x ds:=if_neg h
noncomputable def Sub (Φ Ψ:FTab):Prop:=∀ f ds r,Φ f ds = some r → Ψ f ds = some r
theorem Sub.trans {Φ Ψ Θ:FTab} (h:Sub Φ Ψ) (h':Sub Ψ Θ):Sub Φ Θ:=fun f ds r e=>h' f ds r (h f ds r e)
theorem sub_upd {Φ:FTab} {f:Str} {g:List PV → Option (PV × Bool)} (h:∀ ds,Φ f ds = none):Sub Φ (updΦ Φ f g):=fun x ds r e=>by
  by_cases hx:x = f
  · subst hx; rw [h ds] at e; cases e
  · rw [upd_ne hx]; exact e
structure GllOk (Φ:FTab) (g:List Rule) (ks:List Str) (ps:List (List Str)):Prop where
  pre:Φ "predict_sets" [encG g] = some (.list (ps.map encS),true)
  hds:Φ "heads_of" [encG g] = some (encS ks,true)
  len:ps.length = g.length
  hd:∀ r ∈ g,r.1 ∈ ks
  nd:ks.Nodup
  g1:g.length ≤ 900
  g2:ks.length ≤ 1000
  g3:∀ p ∈ ps,p.length ≤ 1000
noncomputable def rowsOf (g:List Rule) (ps:List (List Str)):List (Str × List Str):=(g.zip ps).map fun x=>(x.1.1,x.2)
noncomputable def gllR (g:List Rule) (ks:List Str) (ps:List (List Str)):List Row × Nat:=tabAll ks 0 (rowsOf g ps) (ks.map fun zz=>[],0)
noncomputable def encT (ks:List Str) (t:List Row × Nat):PV:=.tup [.dict ks (t.1.map encRow),.int t.2]
noncomputable def gll (Φ:FTab) (ds:List PV):Option (PV × Bool) :=
  open Classical in if h:∃ x:List Rule × List Str × List (List Str),ds = [encG x.1] ∧ GllOk Φ x.1 x.2.1 x.2.2 then some (encT (Classical.choose h).2.1 (gllR (Classical.choose h).1 (Classical.choose h).2.1 (Classical.choose h).2.2),true) else none
theorem gll_some {Φ:FTab} {ds:List PV} {r:PV × Bool} (h:gll Φ ds = some r):∃ g ks ps,ds = [encG g] ∧ GllOk Φ g ks ps ∧ r = (encT ks (gllR g ks ps),true):=by
  delta gll at h
  split at h
  · rename_i hh
    cases h
    have:=Classical.choose_spec hh
    exact ⟨_,_,_,this.1,this.2,rfl⟩
  · cases h
theorem map_inj {α β:Type} {f:α → β} (hf:∀ a b,f a = f b → a = b):∀ {xs ys:List α},xs.map f = ys.map f → xs = ys
  | [],[],_=>rfl
  | [],_ :: _,h=>by cases h
  | _ :: _,[],h=>by cases h
  | x :: xs,y :: ys,h=>by
    rw [List.map_cons,List.map_cons,List.cons.injEq] at h
    rw [hf _ _ h.1,map_inj hf h.2]
theorem encS_inj {a b:List Str} (h:encS a = encS b):a = b:=by
  delta encS at h
  injection h with h
  exact map_inj (fun x y e=>by injection e) h
theorem encR_inj {a b:Rule} (h:encR a = encR b):a = b:=by
  delta encR at h
  injection h with h
  rw [List.cons.injEq,List.cons.injEq] at h
  have h1:=h.1
  injection h1 with h1
  exact Prod.ext h1 (encS_inj h.2.1)
theorem encG_inj {a b:List Rule} (h:encG a = encG b):a = b:=by
  delta encG at h
  injection h with h
  exact map_inj (fun x y e=>encR_inj e) h
theorem gll_eq {Φ:FTab} {g:List Rule} {ks:List Str} {ps:List (List Str)} (H:GllOk Φ g ks ps):gll Φ [encG g] = some (encT ks (gllR g ks ps),true):=by
  have hh:∃ x:List Rule × List Str × List (List Str),[encG g] = [encG x.1] ∧ GllOk Φ x.1 x.2.1 x.2.2:=⟨(g,ks,ps),rfl,H⟩
  cases e:gll Φ [encG g] with
  | none =>
    delta gll at e
    rw [dif_pos hh] at e
    cases e
  | some r =>
    refine cps fun Gq hGq=>?_
    obtain ⟨g',ks',ps',h1,h2,h3⟩:=gll_some e
    refine hGq ?_
    clear hGq
    rw [List.cons.injEq] at h1
    have hg:=encG_inj h1.1
    subst hg
    have e1:=H.pre.symm.trans h2.pre
    have e2:=H.hds.symm.trans h2.hds
    have hks:ks = ks':=encS_inj (congrArg Prod.fst (Option.some.inj e2))
    have hps:ps = ps':=by
      have:=congrArg Prod.fst (Option.some.inj e1)
      simp only at this
      injection this with this
      exact map_inj (fun x y e=>encS_inj e) this
    subst hks; subst hps
    rw [h3]
noncomputable section
noncomputable def Φ0:FTab:=fun zz zz=>none
noncomputable def Φ1:FTab:=updΦ Φ0 "heads_of" (gOf Φ0 ss_heads_of 1 2)
noncomputable def Φ2:FTab:=updΦ Φ1 "merged" (gOf Φ1 ss_merged 2 2)
noncomputable def Φ3:FTab:=updΦ Φ2 "heads_built_from" (gOf Φ2 ss_heads_built_from 2 3)
noncomputable def Φ4:FTab:=updΦ Φ3 "nullable_heads" (gOf Φ3 ss_nullable_heads 1 0)
noncomputable def Φ5:FTab:=updΦ Φ4 "first_of_string" (gOf Φ4 ss_first_of_string 3 2)
noncomputable def Φ6:FTab:=updΦ Φ5 "first_sets" (gOf Φ5 ss_first_sets 1 6)
noncomputable def Φ7:FTab:=updΦ Φ6 "follow_sets" (gOf Φ6 ss_follow_sets 1 11)
noncomputable def Φ8:FTab:=updΦ Φ7 "predict_sets" (gOf Φ7 ss_predict_sets 1 7)
noncomputable def Φ9:FTab:=updΦ Φ8 "ll1_table" (gll Φ8)
noncomputable def Φ10:FTab:=updΦ Φ9 "_law_letter" (gOf Φ9 ss_law_letter 1 0)
noncomputable def Φ11:FTab:=updΦ Φ10 "_law_rules" (gOf Φ10 ss_law_rules 7 4)
noncomputable def Φ12:FTab:=updΦ Φ11 "_law_word" (gOf Φ11 ss_law_word 7 3)
noncomputable def Φ13:FTab:=updΦ Φ12 "_law_hurt" (gOf Φ12 ss_law_hurt 4 1)
noncomputable def Φ14:FTab:=updΦ Φ13 "_law_table" (gOf Φ13 ss_law_table 1 6)
noncomputable def Φ15:FTab:=updΦ Φ14 "_law_answer" (gOf Φ14 ss_law_answer 4 7)
end
noncomputable def nms:List Str:=["_law_answer","_law_table","_law_hurt","_law_word","_law_rules","_law_letter","ll1_table","predict_sets","follow_sets","first_sets","first_of_string","nullable_heads","heads_built_from","merged","heads_of"]
noncomputable def Only (Φ:FTab) (l:List Str):Prop:=∀ f,f ∉ l → ∀ ds,Φ f ds = none
theorem only_upd {Φ:FTab} {l:List Str} {f:Str} {g:List PV → Option (PV × Bool)} (h:Only Φ l):Only (updΦ Φ f g) (f :: l):=fun x hx ds=>by
  rw [upd_ne (fun e=>hx (by rw [e]; exact List.mem_cons_self ..))]
  exact h x (fun hm=>hx (List.mem_cons_of_mem _ hm)) ds
theorem sub_only {Φ:FTab} {l:List Str} {f:Str} {g:List PV → Option (PV × Bool)} (h:Only Φ l) (hf:f ∉ l):Sub Φ (updΦ Φ f g):=sub_upd (h f hf)
theorem o0:Only Φ0 []:=fun zz zz zz=>rfl
theorem o1:Only Φ1 (nms.drop 14):=only_upd o0
theorem o2:Only Φ2 (nms.drop 13):=only_upd o1
theorem o3:Only Φ3 (nms.drop 12):=only_upd o2
theorem o4:Only Φ4 (nms.drop 11):=only_upd o3
theorem o5:Only Φ5 (nms.drop 10):=only_upd o4
theorem o6:Only Φ6 (nms.drop 9):=only_upd o5
theorem o7:Only Φ7 (nms.drop 8):=only_upd o6
theorem o8:Only Φ8 (nms.drop 7):=only_upd o7
theorem o9:Only Φ9 (nms.drop 6):=only_upd o8
theorem o10:Only Φ10 (nms.drop 5):=only_upd o9
theorem o11:Only Φ11 (nms.drop 4):=only_upd o10
theorem o12:Only Φ12 (nms.drop 3):=only_upd o11
theorem o13:Only Φ13 (nms.drop 2):=only_upd o12
theorem o14:Only Φ14 (nms.drop 1):=only_upd o13
theorem s1:Sub Φ1 Φ2:=sub_only o1 (by decide +kernel)
theorem s2:Sub Φ2 Φ3:=sub_only o2 (by decide +kernel)
theorem s3:Sub Φ3 Φ4:=sub_only o3 (by decide +kernel)
theorem s4:Sub Φ4 Φ5:=sub_only o4 (by decide +kernel)
theorem s5:Sub Φ5 Φ6:=sub_only o5 (by decide +kernel)
theorem s6:Sub Φ6 Φ7:=sub_only o6 (by decide +kernel)
theorem s7:Sub Φ7 Φ8:=sub_only o7 (by decide +kernel)
theorem s8:Sub Φ8 Φ9:=sub_only o8 (by decide +kernel)
theorem s9:Sub Φ9 Φ10:=sub_only o9 (by decide +kernel)
theorem s10:Sub Φ10 Φ11:=sub_only o10 (by decide +kernel)
theorem s11:Sub Φ11 Φ12:=sub_only o11 (by decide +kernel)
theorem s12:Sub Φ12 Φ13:=sub_only o12 (by decide +kernel)
theorem s13:Sub Φ13 Φ14:=sub_only o13 (by decide +kernel)
theorem s14:Sub Φ14 Φ15:=sub_only o14 (by decide +kernel)
theorem s9_15:Sub Φ9 Φ15:=s9.trans (s10.trans (s11.trans (s12.trans (s13.trans s14))))
theorem heads1 (g:List Rule) (hg:g.length ≤ lim):Φ1 "heads_of" [encG g] = some (encS (metS (g.map (·.1))),true):=by
  delta Φ1
  rw [upd_eq]
  exact gOf_eq rfl (run_heads_of (Φ:=Φ0) g hg 0)
theorem merged2:Hm Φ2:=⟨fun a b h=>by
  delta Φ2
  rw [upd_eq]
  exact gOf_eq rfl (run_merged (Φ:=Φ1) a b h 0)⟩
theorem Hm.sub {Φ Ψ:FTab} (h:Hm Φ) (s:Sub Φ Ψ):Hm Ψ:=⟨fun a b e=>s _ _ _ (h.merged a b e)⟩
structure GSmall (g:List Rule) (U:List Str):Prop where
  hU:U.length < 32
  body:∀ r ∈ g,∀ x ∈ r.2,x ∈ U
  small:g.length < 64
  dollar:("$":Str) ∈ U
  blen:∀ r ∈ g,r.2.length ≤ lim
theorem sets {g:List Rule} {U:List Str} (G:GSmall g U) {h0:Str} {b0:List Str} {gs:List Rule} (hg0:g = (h0,b0) :: gs) :
    ∃ nl vs ws,IsNul g nl ∧ IsFst g (metS (g.map (·.1))) nl vs ∧ IsFol g (metS (g.map (·.1))) nl (FF (metS (g.map (·.1))) vs) h0 ws ∧ (∀ r ∈ g,∀ t ∈ pred (metS (g.map (·.1))) nl vs ws r,t ∈ U) ∧
      Φ8 "predict_sets" [encG g] = some (.list (g.map fun r=>encS (pred (metS (g.map (·.1))) nl vs ws r)),true) ∧ Φ8 "heads_of" [encG g] = some (encS (metS (g.map (·.1))),true):=by
  have hsm:=G.small
  have hh:=heads1 g (Nat.le_trans (Nat.le_of_lt hsm) (by decide))
  refine cps fun Gq hGq=>?_
  obtain ⟨nl,N,k,hk⟩:=run_hbf (Φ:=Φ2) g G.small G.blen
  refine hGq ?_
  clear hGq
  have h3:Φ3 "heads_built_from" [encG g,encS []] = some (encS nl,true):=by
    delta Φ3; rw [upd_eq]; exact gOf_eq rfl hk
  have h4:Φ4 "nullable_heads" [encG g] = some (encS nl,true):=by
    delta Φ4; rw [upd_eq]; exact gOf_eq rfl (run_nullable (Φ:=Φ3) h3 0)
  have H4:Hm Φ4:=merged2.sub (s2.trans s3)
  have H5:Hg Φ5 g (metS (g.map (·.1))) nl U:=by
    refine { merged:=(H4.sub s4).merged,hks:=rfl,heads:=(s1.trans (s2.trans (s3.trans s4))) _ _ _ hh,nul:=s4 _ _ _ h4,isNul:=N,hU:=G.hU,body:=G.body,small:=G.small,dollar:=G.dollar,fos:=?_ }
    intro vs xs hl hv hx
    delta Φ5; rw [upd_eq]
    exact gOf_eq rfl (run_fos H4 hl G.hU hv hx 0)
  refine cps fun Gq hGq=>?_
  obtain ⟨vs,V,vU,k6,hk6⟩:=run_first_sets H5
  refine hGq ?_
  clear hGq
  have h6:Φ6 "first_sets" [encG g] = some (encD (metS (g.map (·.1))) vs,true):=by
    delta Φ6; rw [upd_eq]; exact gOf_eq rfl hk6
  have H6:Hf Φ6 g (metS (g.map (·.1))) nl U vs :=
    { merged:=fun a b h=>s5 _ _ _ (H5.merged a b h),hks:=rfl,heads:=s5 _ _ _ H5.heads,nul:=s5 _ _ _ H5.nul,isNul:=N,hU:=G.hU,body:=G.body,small:=G.small,dollar:=G.dollar,fos:=fun vs xs a b c=>s5 _ _ _ (H5.fos vs xs a b c),first:=h6,isFst:=V,vU:=vU,blen:=G.blen }
  refine cps fun Gq hGq=>?_
  obtain ⟨ws,W,wU,k7,hk7⟩:=run_follow_sets H6 hg0
  refine hGq ?_
  clear hGq
  have h7:Φ7 "follow_sets" [encG g] = some (encD (metS (g.map (·.1))) ws,true):=by
    delta Φ7; rw [upd_eq]; exact gOf_eq rfl hk7
  have H7:Hw Φ7 g (metS (g.map (·.1))) nl U vs h0 ws :=
    { merged:=fun a b h=>s6 _ _ _ (H6.merged a b h),hks:=rfl,heads:=s6 _ _ _ H6.heads,nul:=s6 _ _ _ H6.nul,isNul:=N,hU:=G.hU,body:=G.body,small:=G.small,dollar:=G.dollar,fos:=fun vs xs a b c=>s6 _ _ _ (H6.fos vs xs a b c),first:=s6 _ _ _ h6,isFst:=V,vU:=vU,blen:=G.blen,follow:=h7,isFol:=W,wU:=wU }
  have h8:Φ8 "predict_sets" [encG g] = some (.list (g.map fun r=>encS (pred (metS (g.map (·.1))) nl vs ws r)),true):=by
    delta Φ8; rw [upd_eq]; exact gOf_eq rfl (run_predict_sets H7 0)
  refine ⟨nl,vs,ws,N,V,W,?_,h8,s7 _ _ _ H7.heads⟩
  intro r hr t ht
  delta pred at ht
  split at ht
  · rcases mem_mg.mp ht with ht | ht
    · exact H7.fosU (G.body r hr) ht
    · cases e:look (metS (g.map (·.1))) ws r.1 with
      | none=>rw [e] at ht; cases ht
      | some l=>rw [e] at ht; exact wU l (look_mem e).2 t ht
  · exact H7.fosU (G.body r hr) ht
theorem table {g:List Rule} {U:List Str} (G:GSmall g U) {h0:Str} {b0:List Str} {gs:List Rule} (hg0:g = (h0,b0) :: gs) {ps:List (List Str)}
    (hP:∀ nl vs ws,IsNul g nl → IsFst g (metS (g.map (·.1))) nl vs → IsFol g (metS (g.map (·.1))) nl (FF (metS (g.map (·.1))) vs) h0 ws → g.map (pred (metS (g.map (·.1))) nl vs ws) = ps) :
    Φ9 "predict_sets" [encG g] = some (.list (ps.map encS),true) ∧ ∃ t,Φ9 "ll1_table" [encG g] = some (encT (metS (g.map (·.1))) t,true) ∧ RowsOk (metS (g.map (·.1))) (rowsOf g ps) t:=by
  refine cps fun Gq hGq=>?_
  obtain ⟨nl,vs,ws,N,V,W,hpu,h8,hh⟩:=sets G hg0
  refine hGq ?_
  clear hGq
  have hp:=hP nl vs ws N V W
  have e1:(g.map fun r=>encS (pred (metS (g.map (·.1))) nl vs ws r)) = ps.map encS:=by rw [← hp,List.map_map]; rfl
  rw [e1] at h8
  refine ⟨s8 _ _ _ h8,?_⟩
  have GL:GllOk Φ8 g (metS (g.map (·.1))) ps:=by
    refine ⟨h8,hh,by rw [← hp]; simp,fun r hr=>mem_metS.mpr (List.mem_map_of_mem hr),nodup_metS _,?_,?_,?_⟩
    · have:=G.small; lia
    · have:=G.small
      have h2:=metS_len (g.map (·.1))
      rw [List.length_map] at h2
      lia
    · intro p hpm
      rw [← hp] at hpm
      obtain ⟨r,hr,rfl⟩:=List.mem_map.mp hpm
      have:(pred (metS (g.map (·.1))) nl vs ws r).length ≤ U.length:=(pred_SN r).1.length_le_of_subset (hpu r hr)
      have:=G.hU
      lia
  refine ⟨gllR g (metS (g.map (·.1))) ps,by delta Φ9; rw [upd_eq]; exact gll_eq GL,?_⟩
  delta gllR
  exact tab_spec (nodup_metS _) _ fun x hx=>by
    delta rowsOf at hx
    obtain ⟨q,hq,rfl⟩:=List.mem_map.mp hx
    exact mem_metS.mpr (List.mem_map.mpr ⟨q.1,(List.of_mem_zip hq).1,rfl⟩)
theorem run_parse {g:List Rule} {ks:List Str} {rs:List PV} {c:Int} {word:List Str} {h0:Str} {b0:List Str} {gs:List Rule} (hg0:g = (h0,b0) :: gs) (hg:g.length ≤ 100) (hw:word.length ≤ 100) (ht:Φ9 "ll1_table" [encG g] = some (.tup [.dict ks rs,.int c],true)) {o:Out}
    (H:PG Φ9 g (some ⟨encS word,false,true⟩) ks rs (word ++ [("$":Str)]) 0 [("$":Str),h0] [] (50 * (word.length + 2) * (g.length + 1)) o):∃ m,aexecs Φ9 m ss_parse_ll1 (initσ 8 [encG g,encS word]) = some o:=by
  obtain ⟨m,hm⟩:=H Option.none Option.none
  refine ⟨m,?_⟩
  delta ss_parse_ll1
  refine seq_set (r:=⟨.dict ks rs,true,true⟩) (ev_idx (ev_callT (evs_cons (ev_var rfl) evs_nil) ht) ev_int rfl) rfl ?_
  refine seq_set (r:=⟨encS (word ++ [("$":Str)]),true,true⟩) (ev_bin (ev_var rfl) (ev_list (evs_cons ev_str evs_nil) (newlR_one "$")) (addS_enc (Nat.le_trans (Nat.succ_le_succ hw) (by decide)))) rfl ?_
  refine seq_set (r:=at1 (.int 0)) ev_int rfl ?_
  refine seq_ownl (rs:=[at1 (.str "$"),at1 (.str h0)]) (r:=⟨encS [("$":Str),h0],true,true⟩) (evs_cons ev_str (evs_cons (ev_idx (r:=⟨encR (h0,b0),false,true⟩) (ev_idx (ev_var rfl) ev_int (by rw [hg0]; rfl)) ev_int rfl) evs_nil)) (newlR_strs [("$":Str),h0] (show 2 ≤ lim by decide)) rfl ?_
  refine seq_ownl0 ?_
  refine seq_set (r:=at1 (.int ((50 * (word.length + 2) * (g.length + 1):Nat):Int))) (ev_bin (r:=at1 (.int ((50 * (word.length + 2):Nat):Int))) (q:=at1 (.int ((g.length + 1:Nat):Int))) (ev_bin (r:=at1 (.int 50)) (q:=at1 (.int ((word.length + 2:Nat):Int))) ev_int (ev_bin (ev_len (n:=word.length) (ev_var rfl) (by show some (word.map PV.str).length = _; rw [List.length_map])) ev_int rfl) ?_) (ev_bin (ev_len (n:=g.length) (ev_var rfl) (by show some (g.map encR).length = _; rw [List.length_map])) ev_int rfl) ?_) rfl ?_
  · show (if (50:Int).natAbs ≤ 2 ^ 31 ∧ ((word.length + 2:Nat):Int).natAbs ≤ 2 ^ 31 then some (at1 (.int (50 * ((word.length + 2:Nat):Int)))) else Option.none) = _
    rw [if_pos ⟨by decide,(Nat.le_trans (Nat.add_le_add_right hw 2) (by decide):((word.length + 2:Nat):Int).natAbs ≤ 2 ^ 31)⟩]
    congr 3
  · show (if ((50 * (word.length + 2):Nat):Int).natAbs ≤ 2 ^ 31 ∧ ((g.length + 1:Nat):Int).natAbs ≤ 2 ^ 31 then some (at1 (.int (((50 * (word.length + 2):Nat):Int) * ((g.length + 1:Nat):Int)))) else Option.none) = _
    rw [if_pos ⟨(Nat.le_trans (Nat.mul_le_mul_left 50 (Nat.add_le_add_right hw 2)) (by decide):((50 * (word.length + 2):Nat):Int).natAbs ≤ 2 ^ 31),(Nat.le_trans (Nat.add_le_add_right hg 1) (by decide):((g.length + 1:Nat):Int).natAbs ≤ 2 ^ 31)⟩]
    congr 3
  · exact hm
end Mine
namespace Mine
open PySem L7
noncomputable def resA:List Nat ⊕ Str → PV
  | .inl steps=>.tup [encI steps,.str ""]
  | .inr m=>.tup [.none,.str m]
theorem putAll_nd:∀ (ps:List (Str × PV)) (kd:List Str × List PV),(kd.1 ++ ps.map (·.1)).Nodup → putAll ps kd = (kd.1 ++ ps.map (·.1),kd.2 ++ ps.map (·.2))
  | [],kd,_=>by show kd = _; simp
  | (k,d) :: r,kd,h=>by
    have hk:k ∉ kd.1:=by
      rw [List.nodup_append] at h
      intro hm
      exact h.2.2 k hm k (by simp) rfl
    rw [putAll_cons,put_new hk,putAll_nd r _ (by simpa using h)]
    simp
noncomputable def lawT (l:List (Str × List Str)) (hs:List Str):PV:=.dict hs (hs.map fun h=>.dict (lawRow l h).1 (lawRow l h).2)
theorem asPairs_rows (l:List (Str × List Str)) (hs:List Str):asPairs (lawRows l hs) = some (hs.map fun h=>(h,.dict (lawRow l h).1 (lawRow l h).2)):=by
  delta lawRows
  induction hs with
  | nil=>rfl
  | cons h hs ih =>
    rw [List.map_cons]
    show (asPairs (hs.map _)).map _ = _
    rw [ih]; rfl
theorem ev_dictRows {Φ:FTab} {σ:Sig} {a:SExpr} {l:List (Str × List Str)} {hs:List Str} {c:Bool} (hn:hs.Nodup) (h1:aeval Φ a σ = some ⟨.list (lawRows l hs),true,c⟩):∃ c',aeval Φ (.dictOf a) σ = some ⟨lawT l hs,true,c'⟩ ∧ (c = true → c' = true):=by
  refine ⟨c || (hs.map fun h=>(h,PV.dict (lawRow l h).1 (lawRow l h).2)).all (fun p=>p.2.atom),?_,fun h=>by rw [h]; rfl⟩
  refine bind_to h1 (bind_to (a:=lawRows l hs) rfl (bind_to (asPairs_rows ..) ?_))
  have e1:(hs.map fun h=>(h,PV.dict (lawRow l h).1 (lawRow l h).2)).map (·.1) = hs:=by
    rw [List.map_map]
    exact List.map_id hs
  have e:=putAll_nd (hs.map fun h=>(h,PV.dict (lawRow l h).1 (lawRow l h).2)) ([],[]) (by rw [e1]; exact hn)
  rw [e,e1,List.map_map]
  rfl
theorem tab_law (l:List (Str × List Str)) (hs:List Str):Tab hs (hs.map fun h=>.dict (lawRow l h).1 (lawRow l h).2) (firstR l):=by
  refine ⟨fun h hh=>look_none hh,fun h hh=>⟨(lawRow l h).1,(lawRow l h).2,?_,(lawRow_spec l h).2.2⟩⟩
  induction hs with
  | nil=>cases hh
  | cons x hs ih =>
    rw [List.map_cons,look_cons]
    by_cases e:x = h
    · rw [if_pos e,e]
    · rw [if_neg e]
      exact ih ((List.mem_cons.mp hh).resolve_left fun q=>e q.symm)
theorem rows_list {α:Type} {ks:List Str} {vs:List α} (d:α) (hn:ks.Nodup) (hl:ks.length = vs.length):vs = ks.map fun h=>(look ks vs h).getD d:=by
  induction ks generalizing vs with
  | nil=>cases vs with
    | nil=>rfl
    | cons=>simp at hl
  | cons x ks ih =>
    cases vs with
    | nil=>simp at hl
    | cons v vs =>
      rw [List.nodup_cons] at hn
      rw [List.map_cons]
      have e1:look (x :: ks) (v :: vs) x = some v:=by rw [look_cons,if_pos rfl]
      rw [e1]
      congr 1
      have:=ih hn.2 (by simpa using hl)
      rw [this]
      refine List.map_congr_left fun h hh=>?_
      have hx:¬ x = h:=fun e=>hn.1 (e ▸ hh)
      rw [← this,look_cons,if_neg hx]
theorem sum_int (l:List Str) (f g:Str → Nat):(l.map fun h=>((f h:Nat):Int) - ((g h:Nat):Int)).sum = ((l.map f).sum:Nat) - ((l.map g).sum:Nat):=by
  induction l with
  | nil=>rfl
  | cons a l ih=>simp only [List.map_cons,List.sum_cons,ih]; lia
theorem clash {l:List (Str × List Str)} {ks:List Str} {t:List Row × Nat} (hn:ks.Nodup) (hl:∀ x ∈ l,x.1 ∈ ks) (H:RowsOk ks l t):clI l ks = (t.2:Int):=by
  delta clI
  rw [sum_int ks (fun h=>(prsDown l h l.length).length) (fun h=>(lawRow l h).1.length)]
  have e1:(ks.map fun h=>(prsDown l h l.length).length).sum = (l.map fun x=>x.2.length).sum:=by
    rw [← sum_heads l ks hn hl]
    congr 1
    refine List.map_congr_left fun h zz=>?_
    rw [prsDown_len l h _ (Nat.le_refl _),List.take_length]
  have e2:(ks.map fun h=>(lawRow l h).1.length).sum = szR t.1:=by
    have hr:=rows_list (d:=([]:Row)) hn H.len
    have hz:szR t.1 = szR (ks.map fun h=>(look ks t.1 h).getD []):=by rw [← hr]
    rw [hz]
    delta szR
    rw [List.map_map]
    congr 1
    refine List.map_congr_left fun h hh=>?_
    refine cps fun Gq hGq=>?_
    obtain ⟨r,e,hnd,hrr⟩:=H.row h hh
    refine hGq ?_
    clear hGq
    simp only [Function.comp]
    rw [e]
    have:=(row_eq hnd hrr).1
    simp [rk] at this ⊢
    lia
  rw [e1,e2]
  have:=H.sum
  lia
noncomputable def itemsPV (ks:List Str) (ds:List PV):List PV:=(ks.zip ds).map fun p=>.tup [.str p.1,p.2]
theorem items_rows {l:List (Str × List Str)} {ks:List Str} {t:List Row × Nat} (hn:ks.Nodup) (H:RowsOk ks l t):rowsEq (itemsPV ks (t.1.map encRow)) (lawRows l ks) = true:=by
  have hr:=rows_list (d:=([]:Row)) hn H.len
  have key:∀ hs:List Str,(∀ h ∈ hs,h ∈ ks) → rowsEq (itemsPV hs ((hs.map fun h=>(look ks t.1 h).getD []).map encRow)) (lawRows l hs) = true:=by
    intro hs
    induction hs with
    | nil=>intro _; rfl
    | cons h hs ih =>
      intro hh
      refine cps fun Gq hGq=>?_
      obtain ⟨r,e,hnd,hrr⟩:=H.row h (hh h (by simp))
      refine hGq ?_
      clear hGq
      have:=(row_eq hnd hrr).2
      show (rowEq (.tup [.str h,encRow ((look ks t.1 h).getD [])]) (.tup [.str h,.dict (lawRow l h).1 (lawRow l h).2]) && rowsEq (itemsPV hs ((hs.map fun h=>(look ks t.1 h).getD []).map encRow)) (lawRows l hs)) = true
      rw [e,ih fun x hx=>hh x (by simp [hx])]
      simpa using this
  have:=key ks fun h hh=>hh
  rw [← hr] at this
  exact this
theorem items_ne {l:List (Str × List Str)} {ks:List Str} {t:List Row × Nat} (hn:ks.Nodup) (h0:ks ≠ []) (H:RowsOk ks l t):ane (.list (itemsPV ks (t.1.map encRow))) (.list (lawRows l ks)) = some false:=by
  have hr:=items_rows hn H
  have hlen:=H.len
  delta ane
  cases ks with
  | nil=>exact absurd rfl h0
  | cons k ks =>
    cases ht:t.1 with
    | nil=>rw [ht] at hlen; simp at hlen
    | cons r rs =>
      rw [ht] at hr
      have:aeq (.list (itemsPV (k :: ks) ((r :: rs).map encRow))) (.list (lawRows l (k :: ks))) = none:=rfl
      rw [this]
      exact if_pos hr
theorem mem2 {α:Type} {q a b:α} (h:q ∈ [a,b]):q = a ∨ q = b:=by simpa using h
inductive Main7 (m:Nm) (tail word:List Str) (shift:Nat) (flip:Bool):Prop
  | mk (R:List Rl) (hds:List Str) (t:List Row × Nat) (res:List Nat ⊕ Str) (c:Bool) (h1:R = m.all shift flip) (h2:hds = metS (R.map (·.h))) (h3:hds ≠ []) (h4:RowsOk hds (ruleP R) t) (h5:∀ r ∈ R,r.b.length ≤ 100) (h6:R.length ≤ 10)
      (h7:Φ15 "_law_table" [encQs R] = some (.tup [.list (lawRows (ruleP R) hds),.int (t.2:Int)],true)) (h8:Φ15 "_law_answer" [encQs R,lawT (ruleP R) hds,encS tail,encS word] = some (resA res,true)) (h9:∃ m,aexecs Φ9 m ss_parse_ll1 (initσ 8 [encG (gOfR R),encS word]) = some (outP res))
      (h10:Φ15 "predict_sets" [encG (gOfR R)] = some (.list (R.map fun r=>encS r.p),true)) (h11:Φ15 "ll1_table" [encG (gOfR R)] = some (encT hds t,true)):Main7 m tail word shift flip
theorem fuel7 {t w g:Nat} (h:t ≤ 2):t + (10 * w + 6) + 1 ≤ 50 * (w + 2) * (g + 1):=by
  refine Nat.le_trans (Nat.succ_le_succ (Nat.add_le_add_right h _)) (Nat.le_trans ?_ (Nat.le_mul_of_pos_right _ (Nat.succ_pos g)))
  rw [Nat.add_comm 2]
  exact Nat.add_le_add (Nat.mul_le_mul_right w (show 10 ≤ 50 by decide)) (show 9 ≤ 100 by decide)
theorem main7 {x y s:Str} {tail word:List Str} {o:Bool} (hx:x ∈ LET) (hy:y ∈ LET) (hs:s ∈ LET) (ht:∀ t ∈ tail,t ∈ LET) (hl:tail.length ≤ 2) (shift:Nat) (flip:Bool) (hw:word.length ≤ 20) (hwl:∀ z ∈ word,z.length ≤ 100):Main7 (Nm.mk7 x y s tail o) tail word shift flip:=by
  let m:=Nm.mk7 x y s tail o
  let R:=m.all shift flip
  have K:=mk7_ok (o:=o) hx hy hs ht (Nat.le_trans hl (by decide))
  have G:=gr7 (o:=o) hx hy hs ht (Nat.le_trans hl (by decide)) shift flip
  have hhd:(gOfR R).map (·.1) = R.map (·.h):=by delta gOfR; rw [List.map_map]; rfl
  have hks:∀ h,h ∈ metS (R.map (·.h)) ↔ h ∈ headsM m:=fun h=>by rw [← hhd]; exact G.ks h
  have hRl:R.length ≤ 8:=all_len m shift flip
  have mx:x ∈ [x,y,s,("$":Str),"S","L","T","O","V"] ++ tail:=List.mem_append_left _ (.head _)
  have my:y ∈ [x,y,s,("$":Str),"S","L","T","O","V"] ++ tail:=List.mem_append_left _ (.tail _ (.head _))
  have ms:s ∈ [x,y,s,("$":Str),"S","L","T","O","V"] ++ tail:=List.mem_append_left _ (.tail _ (.tail _ (.head _)))
  have mL:("L":Str) ∈ [x,y,s,("$":Str),"S","L","T","O","V"] ++ tail:=List.mem_append_left _ (.tail _ (.tail _ (.tail _ (.tail _ (.tail _ (.head _))))))
  have mT:("T":Str) ∈ [x,y,s,("$":Str),"S","L","T","O","V"] ++ tail:=List.mem_append_left _ (.tail _ (.tail _ (.tail _ (.tail _ (.tail _ (.tail _ (.head _)))))))
  have mO:("O":Str) ∈ [x,y,s,("$":Str),"S","L","T","O","V"] ++ tail:=List.mem_append_left _ (.tail _ (.tail _ (.tail _ (.tail _ (.tail _ (.tail _ (.tail _ (.head _))))))))
  have mV:("V":Str) ∈ [x,y,s,("$":Str),"S","L","T","O","V"] ++ tail:=List.mem_append_left _ (.tail _ (.tail _ (.tail _ (.tail _ (.tail _ (.tail _ (.tail _ (.tail _ (.head _)))))))))
  have hbody:∀ r ∈ R,r.b.length ≤ 3 ∧ ∀ z ∈ r.b,z ∈ [x,y,s,("$":Str),"S","L","T","O","V"] ++ tail:=by
    intro r hr
    rcases base_cases ((G.mem r).mp hr) with rfl | rfl | rfl | rfl | rfl | rfl | rfl | ⟨zz,rfl⟩
    · exact ⟨Nat.succ_le_succ hl,fun z hz=>(List.mem_cons.mp hz).elim (fun e=>e ▸ mL) fun hz=>List.mem_append_right _ hz⟩
    · exact ⟨(by decide:2 ≤ 3),fun z hz=>(mem2 hz).elim (fun e=>e ▸ mO) fun e=>e ▸ mT⟩
    · exact ⟨(by decide:2 ≤ 3),fun z hz=>(mem2 hz).elim (fun e=>e ▸ ms) fun e=>e ▸ mL⟩
    · exact ⟨Nat.zero_le _,fun z hz=>nomatch hz⟩
    · exact ⟨(by decide:2 ≤ 3),fun z hz=>(mem2 hz).elim (fun e=>e ▸ mx) fun e=>e ▸ mV⟩
    · exact ⟨(by decide:1 ≤ 3),fun z hz=>List.mem_singleton.mp hz ▸ my⟩
    · exact ⟨Nat.zero_le _,fun z hz=>nomatch hz⟩
    · exact ⟨Nat.zero_le _,fun z hz=>nomatch hz⟩
  have hp4:∀ r ∈ R,r.p.length ≤ 4:=by
    intro r hr
    have hst:m.start.length ≤ 4:=by
      delta Nm.start
      split
      · rw [(sortS_perm _).length_eq]
        exact Nat.le_trans (metS_len _) (by simp)
      · simp
    have haf:m.after.length ≤ 4:=by
      delta Nm.after
      rw [(sortS_perm _).length_eq]
      exact Nat.le_trans (metS_len _) (by simp)
    rcases base_cases ((G.mem r).mp hr) with rfl | rfl | rfl | rfl | rfl | rfl | rfl | ⟨zz,rfl⟩
    · exact hst
    · exact hst
    · simp
    · simp
    · simp
    · simp
    · exact haf
    · exact haf
  have GS:GSmall (gOfR R) ([x,y,s,("$":Str),"S","L","T","O","V"] ++ tail):=by
    refine ⟨by rw [List.length_append]; exact Nat.lt_of_le_of_lt (Nat.add_le_add_left hl 9) (by decide),?_,by delta gOfR; rw [List.length_map]; exact Nat.lt_of_le_of_lt hRl (by decide),by simp,?_⟩
    · intro r hr
      obtain ⟨q,hq,rfl⟩:=List.mem_map.mp hr
      exact (hbody q hq).2
    · intro r hr
      obtain ⟨q,hq,rfl⟩:=List.mem_map.mp hr
      have:=(hbody q hq).1
      exact Nat.le_trans this (by decide)
  have hg0:gOfR R = ((("S":Str),("L":Str) :: tail):Rule) :: gOfR (if flip then (rot shift m.rest1).reverse else rot shift m.rest1):=rfl
  obtain ⟨h1,t,h2,h3⟩:=table GS hg0 (ps:=R.map (·.p)) (fun nl vs ws N V W=>by
    delta gOfR
    rw [List.map_map]
    refine List.map_congr_left fun q hq=>?_
    exact G.pred rfl N V W hq)
  have hro:rowsOf (gOfR R) (R.map (·.p)) = ruleP R:=by
    delta rowsOf gOfR ruleP
    have:∀ R:List Rl,((R.map fun r=>(r.h,r.b)).zip (R.map (·.p))).map (fun x=>(x.1.1,x.2)) = R.map fun r=>(r.h,r.p):=by
      intro R
      induction R with
      | nil=>rfl
      | cons a R ih=>simp at ih ⊢; exact ih
    exact this R
  rw [hro] at h3
  rw [hhd] at h2 h3
  have hdk:∀ z ∈ ruleP R,z.1 ∈ metS (R.map (·.h)):=by
    intro z hz
    obtain ⟨q,hq,rfl⟩:=List.mem_map.mp hz
    exact mem_metS.mpr (List.mem_map_of_mem hq)
  have M:=mach G K hks
  obtain ⟨res,hP,hA⟩:=sim (Φ:=Φ9) (Ψ:=Φ14) (tk:=some ⟨encS word,false,true⟩) (wd:=some ⟨encS word,false,true⟩) (word:=word) M (tab_of_rows h3) (tab_law (ruleP R) (metS (R.map (·.h)))) (fun h hh=>(hks h).mpr hh) hw hwl (10 * word.length + 6) m.S 0 [] (.inl (show m.S ∈ headsM m by simp [headsM])) (Nat.zero_le _) (Nat.le_of_eq (congrArg (10 * word.length + ·) (sel1:(Nm.mk7 x y s tail o).rank m.S = 6))) (by rw [List.length_nil,Nat.zero_add]; exact Nat.le_trans (Nat.add_le_add_right (Nat.mul_le_mul_left 10 hw) 6) (by decide))
  refine ⟨R,metS (R.map (·.h)),t,res,true,rfl,rfl,?_,h3,fun r hr=>Nat.le_trans (hbody r hr).1 (by decide),Nat.le_trans hRl (by decide),?_,?_,?_,?_,s9_15 _ _ _ h2⟩
  · intro e
    have:=(hks m.S).mpr (by first | exact .head _ | exact .tail _ (.head _) | exact .tail _ (.tail _ (.head _)) | exact .tail _ (.tail _ (.tail _ (.head _))) | exact .tail _ (.tail _ (.tail _ (.tail _ (.head _)))))
    rw [e] at this
    cases this
  · have hc:=clash (nodup_metS _) hdk h3
    have hlaw:Φ14 "_law_table" [encQs R] = some (.tup [.list (lawRows (ruleP R) (metS (R.map (·.h)))),.int (clI (ruleP R) (metS (R.map (·.h))))],true):=by
      delta Φ14; rw [upd_eq]
      refine gOf_eq rfl (run_law_table (Φ:=Φ13) R (Nat.le_trans hRl (by decide)) (fun h=>?_) 0)
      have hl':R.length = (ruleP R).length:=by delta ruleP; simp
      rw [hl',prsDown_len _ _ _ (Nat.le_refl _),List.take_length]
      have:∀ (L:List (Str × List Str)),(∀ z ∈ L,z.2.length ≤ 4) → ((L.filter fun x=>decide (x.1 = h)).map fun x=>x.2.length).sum ≤ 4 * L.length:=by
        intro L
        induction L with
        | nil=>intro _; simp
        | cons a L ih =>
          intro hL
          have:=ih fun z hz=>hL z (by simp [hz])
          have ha:=hL a (by simp)
          rw [List.filter_cons]
          split <;> simp <;> lia
      have:=this (ruleP R) (fun z hz=>by
        obtain ⟨q,hq,rfl⟩:=List.mem_map.mp hz
        exact hp4 q hq)
      rw [← hl'] at this
      exact Nat.le_trans this (Nat.le_trans (Nat.mul_le_mul_left 4 hRl) (by decide))
    rw [hc] at hlaw
    exact s14 _ _ _ hlaw
  · delta Φ15
    rw [upd_eq]
    obtain ⟨mm,hm⟩:=hA Option.none Option.none Option.none
    have hfin:aexecs Φ14 mm ss_law_answer (initσ 7 [encQs R,lawT (ruleP R) (metS (R.map (·.h))),encS tail,encS word]) = some (outA res):=by
      delta ss_law_answer
      refine seq_set (r:=⟨encS (word ++ [("$":Str)]),true,true⟩) (ev_bin (ev_var rfl) (ev_list (evs_cons ev_str evs_nil) (newlR_one "$")) (addS_enc (Nat.le_trans (Nat.succ_le_succ hw) (by decide)))) rfl ?_
      exact seq_ownl0 (seq_set (r:=at1 (.int 0)) ev_int rfl (seq_set (r:=at1 (.str "S")) ev_str rfl hm))
    cases res with
    | inl st=>exact gOf_eq rfl hfin
    | inr st=>exact gOf_eq rfl hfin
  · refine run_parse hg0 (by delta gOfR; rw [List.length_map]; exact Nat.le_trans hRl (by decide)) (Nat.le_trans hw (by decide)) h2 ?_
    have hstk:m.stk m.S = [("$":Str),"S"]:=by simp [Nm.stk]; rfl
    have:=hP (50 * (word.length + 2) * ((gOfR R).length + 1)) (fuel7 hl)
    rw [hstk] at this
    exact this
  · have:=s9_15 _ _ _ h1
    rw [List.map_map] at this
    exact this
theorem tall7 (pad:Nat) (hp:pad < 3):∃ m,aexecs Φ9 m ss_parse_ll1 (initσ 8 [encG (tallG pad),encS []]) = some (if pad = 2 then .exc "the fuel is spent" else .ret ⟨encI (tallSteps pad),true,false⟩):=by
  have GS:GSmall (tallG pad) (cD :: tallH):=by
    refine ⟨by simp [tallH],fun r hr x hx=>List.mem_cons_of_mem _ ((tall_body hr).2 x hx),by simp [tallG],by simp,fun r hr=>?_⟩
    simp only [tallG,List.mem_cons,List.not_mem_nil,or_false] at hr
    rcases hr with rfl | rfl | rfl | rfl <;> simp [lim] <;> lia
  have hg0:tallG pad = (cS,List.replicate 7 cA ++ List.replicate pad cC) :: [(cA,List.replicate 7 cB),(cB,List.replicate 9 cC),(cC,[])]:=rfl
  refine cps fun Gq hGq=>?_
  obtain ⟨h1,t,h2,h3⟩:=table GS hg0 (ps:=(tallG pad).map fun zz=>[cD]) (fun nl vs ws N V W=>List.map_congr_left fun r hr=>tall_pred N V W hr)
  refine hGq ?_
  clear hGq
  have hro:rowsOf (tallG pad) ((tallG pad).map fun zz=>[cD]) = tallL pad:=rfl
  rw [hro] at h3
  exact run_parse hg0 (by simp [tallG]) (by simp) h2 (tall_parse (tab_of_rows h3) (tall_ks pad) hp)
end Mine
namespace Mine
open PySem PySem.SeqAt PySem.Calls PyProof.Rows
theorem addTok_snoc (k:Nat) (t:Str):∀ (ts:List Str) (s:Row × Nat),addTok k (ts ++ [t]) s = if t ∈ rk (addTok k ts s).1 then ((addTok k ts s).1,(addTok k ts s).2 + 1) else ((addTok k ts s).1 ++ [(t,k)],(addTok k ts s).2)
  | [],s=>by
    by_cases h:t ∈ rk s.1 <;> simp [addTok_cons,addTok_nil,h]
  | u :: ts,s=>by
    rw [List.cons_append,addTok,addTok]
    split
    · exact addTok_snoc k t ts _
    · exact addTok_snoc k t ts _
noncomputable def tabStep (ks:List Str) (k:Nat) (x:Str × List Str) (s:List Row × Nat):List Row × Nat:=(upd ks s.1 x.1 (addTok k x.2 ((look ks s.1 x.1).getD [],s.2)).1,(addTok k x.2 ((look ks s.1 x.1).getD [],s.2)).2)
theorem tabAll_snoc (ks:List Str) (x:Str × List Str):∀ (l:List (Str × List Str)) (k:Nat) (s:List Row × Nat),tabAll ks k (l ++ [x]) s = tabStep ks (k + l.length) x (tabAll ks k l s)
  | [],k,s=>rfl
  | y :: l,k,s=>by
    rw [List.cons_append,tabAll_cons,tabAll_cons,tabAll_snoc ks x l (k + 1),List.length_cons,show k + 1 + l.length = k + (l.length + 1) by lia]
section
variable {prog:Program} {w:World} {p:Program} {loose:List Str} {mean:ExcName → Option Value} {mg mb:Str → Option Value} {lvl:Nat} {A:Around} {env:Env} {ce:CE} {Q0:Addr → Prop} {s0 s s' s'':Shared} {X X' X'':Addr → Prop} {ad ad' ad'':Nat → Addr} {σ σ' σ'':Sig} {E:Value → Shared → Prop} {Φ:FTab}
noncomputable def RowAt (prog:Program) (w:World) (h:Heap) (a:Addr) (r:Row):Prop:=∃ kvs,h.DictOf (strKind prog w) a kvs ∧ kvs.map (·.1) = rk r ∧ RS prog w h (fun zz=>False) (kvs.map (·.2)) ((rv r).map fun k:Nat=>PV.int k)
theorem RowAt.frame {h h':Heap} {a:Addr} {r:Row} (x:RowAt prog w h a r) (hk:∀ o,h.get? a = some o → h'.get? a = some o):RowAt prog w h' a r:=by
  refine cps fun Gq hGq=>?_
  obtain ⟨kvs,⟨o,es,ep,ho,q⟩,e,rs⟩:=x
  refine hGq ?_
  clear hGq
  exact ⟨kvs,⟨o,es,ep,hk o ho,q⟩,e,rs.atom (atoms_of _ (fun zz=>rfl) _)⟩
structure Tb (prog:Program) (w:World) (env:Env) (D:Addr) (ks:List Str) (as:List Addr) (rows:List Row) (X:Addr → Prop) (s:Shared):Prop where
  ld:Loads env s.heap "table" (.ref D)
  dD:s.heap.DictOf (strKind prog w) D (ks.zip (as.map Value.ref))
  l1:ks.length = as.length
  l2:rows.length = as.length
  row:∀ (j:Nat) a r,as[j]? = some a → rows[j]? = some r → RowAt prog w s.heap a r
  xD:X D
  xa:∀ a ∈ as,X a
  nd:(D :: as).Nodup
  ne:∀ a ∈ D :: as,(a == sysModules) = false
theorem Tb.stb {D:Addr} {ks:List Str} {as:List Addr} {rows:List Row} (T:Tb prog w env D ks as rows X s) (hx:ce.idx "table" = none) (hv:isVar (ce.kind "table") = true) (h:Stb env ce X s s'):Tb prog w env D ks as rows X s' where
  ld:=h.2 _ _ hx hv T.ld
  dD:=by obtain ⟨o,es,ep,ho,q⟩:=T.dD; exact ⟨o,es,ep,h.1 _ _ T.xD ho,q⟩
  l1:=T.l1
  l2:=T.l2
  row:=fun j a r h1 h2=>(T.row j a r h1 h2).frame fun o e=>h.1 a o (T.xa a (List.mem_of_getElem? h1)) e
  xD:=T.xD
  xa:=T.xa
  nd:=T.nd
  ne:=T.ne
theorem zip_map_fst {α:Type} {ks:List Str} {vs:List α} (h:ks.length = vs.length):(ks.zip vs).map (·.1) = ks:=by
  rw [List.map_fst_zip (by lia)]
theorem zip_map_snd {α:Type} {ks:List Str} {vs:List α} (h:ks.length = vs.length):(ks.zip vs).map (·.2) = vs:=by
  rw [List.map_snd_zip (by lia)]
theorem valueAt_zip {ks:List Str} {vs:List Value} {k:Str}:valueAt (ks.zip vs) k = look ks vs k:=by
  induction ks generalizing vs with
  | nil=>show valueAt [] k = Option.none; simp [valueAt]
  | cons x ks ih =>
    cases vs with
    | nil=>show valueAt [] k = Option.none; simp [valueAt]
    | cons v vs =>
      rw [List.zip_cons_cons,look_cons]
      by_cases e:x = k
      · simp [valueAt,e]
      · rw [if_neg e,← ih]
        simp [valueAt,e]
theorem look_at {α β:Type} {ks:List Str} {vs:List α} {us:List β} {k:Str} {v:α} (h:look ks vs k = some v) (hl:vs.length = us.length):∃ j:Nat,vs[j]? = some v ∧ ∃ u,us[j]? = some u ∧ look ks us k = some u:=by
  induction ks generalizing vs us with
  | nil=>cases vs <;> cases h
  | cons x ks ih =>
    cases vs with
    | nil=>cases h
    | cons w vs =>
      cases us with
      | nil=>simp at hl
      | cons u us =>
        rw [look_cons] at h
        split at h
        · rename_i e
          cases h
          exact ⟨0,rfl,u,rfl,by rw [look_cons,if_pos e]⟩
        · rename_i e
          refine cps fun Gq hGq=>?_
          obtain ⟨j,h1,u',h2,h3⟩:=ih h (by simpa using hl)
          refine hGq ?_
          clear hGq
          exact ⟨j + 1,by simpa using h1,u',by simpa using h2,by rw [look_cons,if_neg e]; exact h3⟩
theorem upd_get {α β:Type} {ks:List Str} {vs:List α} {us:List β} {k:Str} {v nv:α} {u:β} (hn:us.Nodup) (hl:ks.length = vs.length) (hl':vs.length = us.length) (hv:look ks vs k = some v) (hu:look ks us k = some u) (hk:ks.Nodup):∀ (j:Nat) a r,us[j]? = some a → (upd ks vs k nv)[j]? = some r → (a = u ∧ r = nv) ∨ (a ≠ u ∧ vs[j]? = some r):=by
  induction ks generalizing vs us with
  | nil=>cases vs <;> cases hv
  | cons x ks ih =>
    cases vs with
    | nil=>cases hv
    | cons w vs =>
      cases us with
      | nil=>simp at hl'
      | cons b us =>
        have e:upd (x :: ks) (w :: vs) k nv = (if x = k then nv else w) :: upd ks vs k nv:=rfl
        rw [e]
        rw [List.nodup_cons] at hn hk
        intro j a r h1 h2
        rw [look_cons] at hv hu
        by_cases hx:x = k
        · rw [if_pos hx] at hv hu h2
          cases hv; cases hu
          have hno:upd ks vs k nv = vs:=upd_not (by simpa using hl) (hx ▸ hk.1)
          rw [hno] at h2
          cases j with
          | zero=>simp at h1 h2; exact .inl ⟨h1.symm,h2.symm⟩
          | succ j =>
            simp at h1 h2
            refine .inr ⟨fun e=>hn.1 (e ▸ List.mem_of_getElem? h1),by simpa using h2⟩
        · rw [if_neg hx] at hv hu h2
          cases j with
          | zero =>
            simp at h1 h2
            subst h1; subst h2
            refine .inr ⟨fun e=>hn.1 ?_,rfl⟩
            rw [e]
            exact (look_mem hu).2
          | succ j =>
            simp only [List.getElem?_cons_succ] at h1 h2 ⊢
            exact ih hn.2 (by simpa using hl) (by simpa using hl') hv hu hk.2 j a r h1 h2
theorem stored_new {kvs:List (Str × Value)} {k:Str} {v:Value} (h:k ∉ kvs.map (·.1)):stored kvs k v = kvs ++ [(k,v)]:=by
  delta stored
  rw [if_neg]
  simp only [List.any_eq_true,decide_eq_true_eq,not_exists,not_and]
  intro kv hm e
  exact h (by rw [← e]; exact List.mem_map_of_mem hm)
end
end Mine
namespace Mine
open PySem PySem.SeqAt PySem.Calls PyProof.Rows
noncomputable def tabNames:List Str:=["g","predicts","head","clashes","k","token"]
noncomputable def tabCe (d:DefRec):CE:=ceOf tabNames d.scope
noncomputable def tabCeR (d:DefRec):CE:=⟨tabNames ++ [("row":Str)],fun x=>d.scope.names.lookup x⟩
noncomputable def tabCeT (d:DefRec):CE:=⟨tabNames ++ [("table":Str)],fun x=>d.scope.names.lookup x⟩
set_option genInjectivity false in
set_option genSizeOf false in
structure TabText (d:DefRec) where
  (st1 st4 st7:Stmt)
  (it1 it2 it3 i1 ix i2 v2 ret test:Expr)
  (q1 q2 q3 q4 q5 q6 q7 q8 q9 q10 q11 q12 q13 q14 q15 q16 q17 q18 q19 q20 q21 q24:Pos)
  body:d.body = [st1,.Assign [.Name "table" q1] (.Dict [] [] q2) q3,.For (.Name "head" q4) it1 [.Assign [.Subscript (.Name "table" q5) i1 q6] (.Dict [] [] q7) q8] [] q9,st4,.For (.Name "k" q10) it2 [.Assign [.Name "row" q11] (.Subscript (.Name "table" q12) ix q13) q14,.For (.Name "token" q15) it3 [.If test [st7] [.Assign [.Subscript (.Name "row" q16) i2 q17] v2 q18] q19] [] q20] [] q21,.Return (some ret) q24]
  c1:chkS (.set 1 (.call "predict_sets" [.var 0])) (tabCe d) st1 = true
  ci1:chk (.call "heads_of" [.var 0]) (tabCe d) it1 = true
  ns1:isSetE it1 = false
  cx1:chk (.var 2) (tabCe d) i1 = true
  c4:chkS (.set 3 (.int 0)) (tabCe d) st4 = true
  ci2:chk (.range (.len (.var 0))) (tabCe d) it2 = true
  ns2:isSetE it2 = false
  cix:chk (.idx (.idx (.var 0) (.var 4)) (.int 0)) (tabCe d) ix = true
  ci3:chk (.idx (.var 1) (.var 4)) (tabCe d) it3 = true
  ns3:isSetE it3 = false
  ctest:chk (.cmp .In (.var 5) (.var 6)) (tabCeR d) test = true
  c7:chkS (.set 3 (.bin .Add (.var 3) (.int 1))) (tabCe d) st7 = true
  cx2:chk (.var 5) (tabCe d) i2 = true
  cv2:chk (.var 4) (tabCe d) v2 = true
  cret:chk (.tup [.var 6,.var 3]) (tabCeT d) ret = true
  th:tgt (tabCe d) "head" 2 = true
  tk:tgt (tabCe d) "k" 4 = true
  tt:tgt (tabCe d) "token" 5 = true
  kT:isLC (d.scope.names.lookup ("table":Str)) = true
  kR:isLC (d.scope.names.lookup ("row":Str)) = true
theorem lastIdx_snoc {x y:Str} {l:List Str} {n:Nat}:lastIdx x (l ++ [y]) n = if y = x then some (n + l.length) else lastIdx x l n:=by
  rw [lastIdx_appendL]
  show (match (if y = x then some (n + l.length) else none) with | some i=>some i | none=>lastIdx x l n) = _
  by_cases e:y = x
  · rw [if_pos e,if_pos e]
  · rw [if_neg e,if_neg e]
section
variable {prog:Program} {w:World} {p:Program} {loose:List Str} {mean:ExcName → Option Value} {mg mb:Str → Option Value} {lvl:Nat} {A:Around} {env:Env} {ce:CE} {Q0:Addr → Prop} {s0 s s' s'':Shared} {X X' X'':Addr → Prop} {ad ad' ad'':Nat → Addr} {σ σ' σ'':Sig} {E:Value → Shared → Prop} {Φ:FTab}
theorem extw_addX {C:Addr} (k:Keeps s s') (hC:s.heap.get? C = none):ExtW env X ad σ s (fun a=>X a ∨ a = C) ad σ s':=by
  refine ⟨fun b o e zz=>kheap k b o e,fun b hb=>?_,fun b ⟨o,e⟩=>⟨o,kheap k b o e⟩,?_⟩
  · rcases hb with (hb | hb) | hb
    · exact .inl (.inl hb)
    · exact .inr (hb ▸ hC)
    · exact .inl (.inr hb)
  · obtain ⟨h,t,d,e,zz⟩:=k
    exact ⟨h,t,d,e⟩
theorem Sx.cx1 {y:Str} {r:RV} {v:Value} (F:Fx prog w p loose mean mg mb lvl A env ce Q0 s0) (S:Sx prog w env ce Q0 s0 X ad σ s) (l:Loads env s.heap y v) (hr:R prog w s.heap (Pf Q0 s0.heap (Ow env X σ ad) r.f r.c) v r.d) :
    Cx prog w p loose mean mg mb lvl A env ⟨ce.names ++ [y],ce.kind⟩ (Pf Q0 s0.heap (Ow env X σ ad)) (σ ++ [some r]) s:=by
  refine S.cx2 F rfl fun x i q h1 h2 h3=>?_
  unfold CE.idx at h1
  simp only at h1
  rw [lastIdx_snoc] at h1
  by_cases e:y = x
  · rw [if_pos e,Nat.zero_add] at h1
    cases h1
    rw [← S.len,List.getElem?_append_right (Nat.le_refl _)] at h3
    simp at h3
    subst h3
    exact .inr ⟨v,e ▸ l,hr⟩
  · rw [if_neg e] at h1
    have hi:i < σ.length:=by
      rw [S.len]
      have:=lastIdx_get h1
      rcases Nat.lt_or_ge i ce.names.length with q | q
      · exact q
      · rw [List.getElem?_eq_none q] at this; cases this
    rw [List.getElem?_append_left hi] at h3
    exact .inl ⟨h1,h3⟩
theorem RowAt.toR {a:Addr} {r:Row} {P:Addr → Prop} (h:RowAt prog w s.heap a r) (hp:P a) (hne:(a == sysModules) = false) (hl:r.length ≤ lim):R prog w s.heap P (.ref a) (encRow r):=by
  refine cps fun Gq hGq=>?_
  obtain ⟨kvs,hd,hk,rs⟩:=h
  refine hGq ?_
  clear hGq
  exact .dict hp hd hne hk (by delta rk; rw [List.length_map]; exact hl) (rs.atom (atoms_of _ (fun zz=>rfl) _))
theorem Tb.toR {D:Addr} {ks:List Str} {as:List Addr} {rows:List Row} {P:Addr → Prop} (T:Tb prog w env D ks as rows X s) (hp:∀ a ∈ D :: as,P a) (hl:ks.length ≤ lim) (hr:∀ r ∈ rows,r.length ≤ lim):R prog w s.heap P (.ref D) (.dict ks (rows.map encRow)):=by
  refine .dict (hp D (List.mem_cons_self ..)) T.dD (T.ne D (List.mem_cons_self ..)) (zip_map_fst (by rw [List.length_map]; exact T.l1)) hl ?_
  rw [zip_map_snd (by rw [List.length_map]; exact T.l1)]
  have key:∀ (as:List Addr) (rows:List Row),rows.length = as.length → (∀ (j:Nat) a r,as[j]? = some a → rows[j]? = some r → R prog w s.heap P (.ref a) (encRow r)) → RS prog w s.heap P (as.map Value.ref) (rows.map encRow):=by
    intro as
    induction as with
    | nil=>intro rows hl _; cases rows with
      | nil=>exact .nil
      | cons=>simp at hl
    | cons a as ih =>
      intro rows hl h
      cases rows with
      | nil=>simp at hl
      | cons r rows =>
        refine .cons (h 0 a r rfl rfl) (ih rows (by simpa using hl) fun j b q h1 h2=>h (j + 1) b q (by simpa using h1) (by simpa using h2))
  exact key as rows T.l2 fun j a r h1 h2=>(T.row j a r h1 h2).toR (hp a (List.mem_cons_of_mem _ (List.mem_of_getElem? h1))) (T.ne a (List.mem_cons_of_mem _ (List.mem_of_getElem? h1))) (hr r (List.mem_of_getElem? h2))
theorem Tb.addHead {D r:Addr} {ks:List Str} {as:List Addr} {rows:List Row} {h:Str} {h':Heap} {tk:Nat} (T:Tb prog w env D ks as rows X s) (hh:h ∉ ks) (hr:s.heap.DictOf (strKind prog w) r []) (hrn:r ∉ D :: as) (hrs:(r == sysModules) = false) (hX:∀ a,X a → X' a) (hXr:X' r)
    (hd:h'.DictOf (strKind prog w) D (stored (ks.zip (as.map Value.ref)) h (.ref r))) (hs:Heap.SameBut D s.heap h') (hl:∀ y u,Loads env s.heap y u → Loads env h' y u):Tb prog w env D (ks ++ [h]) (as ++ [r]) (rows ++ [[]]) X' { s with heap:=h',toks:=tk }:=by
  have e1:(ks.zip (as.map Value.ref)).map (·.1) = ks:=zip_map_fst (by rw [List.length_map]; exact T.l1)
  rw [stored_new (by rw [e1]; exact hh)] at hd
  have e2:ks.zip (as.map Value.ref) ++ [(h,Value.ref r)] = (ks ++ [h]).zip ((as ++ [r]).map Value.ref):=by
    rw [List.map_append,List.zip_append (by rw [List.length_map]; exact T.l1)]; rfl
  rw [e2] at hd
  have hDr:∀ a ∈ as,a ≠ D:=fun a ha e=>by have:=T.nd; rw [List.nodup_cons] at this; exact this.1 (e ▸ ha)
  have hrD:r ≠ D:=fun e=>hrn (e ▸ List.mem_cons_self ..)
  refine ⟨hl _ _ T.ld,hd,by simp [T.l1],by simp [T.l2],?_,hX _ T.xD,?_,?_,?_⟩
  · intro j a q h1 h2
    rcases Nat.lt_or_ge j as.length with hj | hj
    · rw [List.getElem?_append_left hj] at h1
      rw [List.getElem?_append_left (by rw [T.l2]; exact hj)] at h2
      exact (T.row j a q h1 h2).frame fun o e=>hs.extBut a o (hDr a (List.mem_of_getElem? h1)) e
    · rw [List.getElem?_append_right hj] at h1
      rw [List.getElem?_append_right (by rw [T.l2]; exact hj),T.l2] at h2
      cases hz:j - as.length with
      | zero =>
        rw [hz] at h1 h2
        simp at h1 h2
        subst h1; subst h2
        refine cps fun Gq hGq=>?_
        obtain ⟨o,es,ep,ho,qq⟩:=hr
        refine hGq ?_
        clear hGq
        exact ⟨[],⟨o,es,ep,hs.extBut _ _ hrD ho,qq⟩,rfl,.nil⟩
      | succ z=>rw [hz] at h1; simp at h1
  · intro a ha
    rcases List.mem_append.mp ha with ha | ha
    · exact hX a (T.xa a ha)
    · rw [List.mem_singleton.mp ha]; exact hXr
  · rw [← List.cons_append,List.nodup_append]
    refine ⟨T.nd,by simp,fun a ha b hb e=>?_⟩
    rw [List.mem_singleton] at hb
    subst hb; subst e
    exact hrn ha
  · intro a ha
    rw [← List.cons_append] at ha
    rcases List.mem_append.mp ha with ha | ha
    · exact T.ne a ha
    · rw [List.mem_singleton.mp ha]; exact hrs
theorem Tb.addTok {D a:Addr} {ks:List Str} {as:List Addr} {rows:List Row} {h t:Str} {r:Row} {k:Nat} {v:Value} {h':Heap} {tk:Nat} {kvs:List (Str × Value)} (T:Tb prog w env D ks as rows X s) (hn:ks.Nodup) (ha:look ks as h = some a) (hr:look ks rows h = some r) (ht:t ∉ rk r)
    (hkv:kvs.map (·.1) = rk r) (rs:RS prog w s.heap (fun zz=>False) (kvs.map (·.2)) ((rv r).map fun k:Nat=>PV.int k)) (hv:R prog w s.heap (fun zz=>False) v (.int k))
    (hd:h'.DictOf (strKind prog w) a (stored kvs t v)) (hs:Heap.SameBut a s.heap h') (hl:∀ y u,Loads env s.heap y u → Loads env h' y u):Tb prog w env D ks as (upd ks rows h (r ++ [(t,k)])) X { s with heap:=h',toks:=tk }:=by
  rw [stored_new (by rw [hkv]; exact ht)] at hd
  have haas:a ∈ as:=(look_mem ha).2
  have hDa:D ≠ a:=fun e=>by have:=T.nd; rw [List.nodup_cons] at this; exact this.1 (e ▸ haas)
  have hll:ks.length = rows.length:=by rw [T.l2]; exact T.l1
  refine ⟨hl _ _ T.ld,?_,T.l1,by rw [upd_length hll]; exact T.l1,?_,T.xD,T.xa,T.nd,T.ne⟩
  · obtain ⟨o,es,ep,ho,q⟩:=T.dD
    exact ⟨o,es,ep,hs.extBut _ _ hDa ho,q⟩
  · intro j b q h1 h2
    have hnd:as.Nodup:=(List.nodup_cons.mp T.nd).2
    rcases upd_get hnd hll T.l2 hr ha hn j b q h1 h2 with ⟨rfl,rfl⟩ | ⟨hne,h3⟩
    · refine ⟨kvs ++ [(t,v)],hd,by rw [List.map_append,hkv]; simp [rk],?_⟩
      rw [List.map_append]
      have e:((rv (r ++ [(t,k)])).map fun k:Nat=>PV.int k) = ((rv r).map fun k:Nat=>PV.int k) ++ [PV.int k]:=by simp [rv]
      rw [e]
      exact (rs.atom (atoms_of _ (fun zz=>rfl) _)).append (.one (hv.atom rfl))
    · exact (T.row j b q h1 h3).frame fun o e=>hs.extBut b o hne e
end
end Mine
namespace Mine
open PySem PySem.SeqAt PySem.Calls PyProof.Rows
noncomputable def σY (g:List Rule) (ps:List (List Str)) (a b c d:Option RV):Sig:=[some ⟨encG g,false,true⟩,some ⟨.list (ps.map encS),true,true⟩,a,b,c,d]
section
variable {prog:Program} {w:World} {p:Program} {loose:List Str} {mean:ExcName → Option Value} {mg mb:Str → Option Value} {lvl:Nat} {A:Around} {env:Env} {Q0:Addr → Prop} {s0 s s' s'':Shared} {X X' X'':Addr → Prop} {ad ad' ad'':Nat → Addr} {E:Value → Shared → Prop} {Φ:FTab} {d:DefRec}
theorem noGok {ce:CE}:GOk prog w A env ce Q0 s0 X (fun zz zz=>False):=⟨fun zz zz h=>h.elim,fun zz zz zz zz zz zz zz zz zz zz zz zz zz h=>h.elim⟩
theorem upd_same {α:Type} {ks:List Str} {vs:List α} {k:Str} {v:α} (hn:ks.Nodup) (hl:ks.length = vs.length) (h:look ks vs k = some v):upd ks vs k v = vs:=by
  induction ks generalizing vs with
  | nil=>cases vs <;> cases h
  | cons x ks ih =>
    cases vs with
    | nil=>cases h
    | cons u vs =>
      rw [List.nodup_cons] at hn
      have e:upd (x :: ks) (u :: vs) k v = (if x = k then v else u) :: upd ks vs k v:=rfl
      rw [e]
      rw [look_cons] at h
      split at h
      · rename_i hx
        cases h
        rw [if_pos hx,upd_not (by simpa using hl) (hx ▸ hn.1)]
      · rename_i hx
        rw [if_neg hx,ih hn.2 (by simpa using hl) h]
theorem upd_upd {α:Type} {ks:List Str} {vs:List α} {k:Str} {v u:α}:upd ks (upd ks vs k v) k u = upd ks vs k u:=by
  delta upd
  induction ks generalizing vs with
  | nil=>rfl
  | cons x ks ih =>
    cases vs with
    | nil=>rfl
    | cons z vs =>
      simp only [List.zip_cons_cons,List.map_cons,ih]
      congr 1
      split <;> rfl
theorem addTok_len (k:Nat) (ts:List Str) (s:Row × Nat):(addTok k ts s).1.length ≤ s.1.length + ts.length:=by
  induction ts generalizing s with
  | nil=>simp [addTok_nil]
  | cons t ts ih =>
    rw [addTok]
    split
    · have:=ih (s.1,s.2 + 1); simp only [List.length_cons]; simp only at this; lia
    · have:=ih (s.1 ++ [(t,k)],s.2); simp only [List.length_cons,List.length_append,List.length_nil] at this ⊢; lia
noncomputable def σk (g:List Rule) (ps:List (List Str)) (r2:Option RV) (c:Nat) (k:Nat) (r5:Option RV):Sig:=(σY g ps r2 (some (at1 (.int c))) (some (at1 (.int k))) r5)
set_option maxHeartbeats 1000000 in
theorem tab_inner (TT:TabText d) (D:Wd prog w p loose mean mg mb) (H:Hard prog w) (T:Ctr prog w p loose mean mg mb lvl Φ) (F:Fx prog w p loose mean mg mb lvl A env (tabCe d) Q0 s0)
    {g:List Rule} {ps:List (List Str)} {ks:List Str} {as:List Addr} {rows:List Row} {Dd a:Addr} {h:Str} {r:Row} {c k:Nat} {pk:List Str} {r2 r5:Option RV} {Qf:Flow → Shared → Prop} {X:Addr → Prop}
    (S:Sx prog w env (tabCe d) Q0 s0 X ad (σk g ps r2 c k r5) s) (B:Tb prog w env Dd ks as rows X s) (hn:ks.Nodup) (ha:look ks as h = some a) (hr:look ks rows h = some r) (hrow:Loads env s.heap "row" (.ref a)) (hpk:ps[k]? = some pk) (hlen:r.length + pk.length ≤ lim)
    (done:∀ X' ad' r2' r5' s',Sx prog w env (tabCe d) Q0 s0 X' ad' (σk g ps r2' (addTok k pk (r,c)).2 k r5') s' → ExtW env X ad (σk g ps r2 c k r5) s X' ad' (σk g ps r2' (addTok k pk (r,c)).2 k r5') s' → Tb prog w env Dd ks as (upd ks rows h (addTok k pk (r,c)).1) X' s' → Qf .next s') :
    wpAny (model prog w) A (exec (.For (.Name "token" TT.q15) TT.it3 [.If TT.test [TT.st7] [.Assign [.Subscript (.Name "row" TT.q16) TT.i2 TT.q17] TT.v2 TT.q18] TT.q19] [] TT.q20) env) Qf E s:=by
  have hll:ks.length = rows.length:=by rw [B.l2]; exact B.l1
  have ixR:(tabCe d).idx "row" = none:=by show lastIdx ("row":Str) tabNames 0 = none; decide +kernel
  have ixT:(tabCe d).idx "table" = none:=by show lastIdx ("table":Str) tabNames 0 = none; decide +kernel
  have vR:isVar ((tabCe d).kind "row") = true:=isLC_var TT.kR
  have vT:isVar ((tabCe d).kind "table") = true:=isLC_var TT.kT
  have hit:aeval Φ (.idx (.var 1) (.var 4)) (σk g ps r2 c k r5) = some ⟨encS pk,true,true⟩:=by
    refine ev_idx (r:=⟨.list (ps.map encS),true,true⟩) (q:=at1 (.int k)) (ev_var rfl) (ev_var rfl) ?_
    have:aidx ⟨.list (ps.map encS),true,true⟩ (.int k) = if 0 ≤ (k:Int) then ((ps.map encS)[(k:Int).toNat]?).map (part ⟨.list (ps.map encS),true,true⟩) else if -((ps.map encS).length:Int) ≤ (k:Int) then ((ps.map encS)[((k:Int) + ((ps.map encS).length:Int)).toNat]?).map (part ⟨.list (ps.map encS),true,true⟩) else Option.none:=rfl
    show aidx ⟨.list (ps.map encS),true,true⟩ (.int k) = _
    rw [this,if_pos (by lia),Int.toNat_natCast,List.getElem?_map,hpk]; rfl
  refine for_w (q:=⟨encS pk,true,true⟩) (ds:=pk.map PV.str) (i:=5) (J:=fun i X σ s=>(∃ r2 r5,σ = σk g ps r2 (addTok k (pk.take i) (r,c)).2 k r5) ∧ Tb prog w env Dd ks as (upd ks rows h (addTok k (pk.take i) (r,c)).1) X s ∧ Loads env s.heap "row" (.ref a)) F S TT.tt TT.ns3
    (ev D H T _ _ _ A env _ _ s _ E TT.ci3 (S.cx F) hit) rfl rfl ?_ ?_ ?_ ?_
  · rintro j X1 σ1 s1 s2 ⟨h1,h2,h3⟩ hst
    exact ⟨h1,h2.stb ixT vT hst,hst.2 _ _ ixR vR h3⟩
  · refine ⟨⟨r2,r5,rfl⟩,?_,hrow⟩
    show Tb prog w env Dd ks as (upd ks rows h r) X s
    rw [upd_same hn hll hr]; exact B
  · rintro i dd X1 ad1 σ1 s₀ s₁ E1 hd x0 ⟨⟨r2',r5',rfl⟩,B1,l1⟩ S1 st1 x1
    refine wp_abs fun Q5 E5 hQ5 zz=>?_
    rw [List.getElem?_map,Option.map_eq_some_iff] at hd
    obtain ⟨t,ht,rfl⟩:=hd
    have hi:i < pk.length:=by
      rcases Nat.lt_or_ge i pk.length with q | q
      · exact q
      · rw [List.getElem?_eq_none q] at ht; cases ht
    have htake:pk.take (i + 1) = pk.take i ++ [t]:=by rw [List.take_add_one,ht]; rfl
    let ri:=(addTok k (pk.take i) (r,c)).1
    let ci:=(addTok k (pk.take i) (r,c)).2
    have hril:ri.length ≤ lim:=Nat.le_trans (addTok_len k (pk.take i) (r,c)) (by rw [List.length_take]; simp only; lia)
    have B1':=B1.stb (ce:=tabCe d) ixT vT st1
    have l1':=st1.2 _ _ ixR vR l1
    have hri:look ks (upd ks rows h ri) h = some ri:=by rw [look_upd hll (look_mem hr).1,if_pos rfl]
    refine cps fun Gq hGq=>?_
    obtain ⟨jj,hj1,u,hj2,hj3⟩:=look_at ha (us:=upd ks rows h ri) (by rw [upd_length hll]; exact B.l1.symm)
    refine hGq ?_
    clear hGq
    rw [hri] at hj3
    cases hj3
    have hra:=B1'.row jj a ri hj1 hj2
    have haas:a ∈ as:=List.mem_of_getElem? hj1
    have hXa:=B1'.xa a haas
    have hne:=B1'.ne a (List.mem_cons_of_mem _ haas)
    have hob:=S1.ob a (.inl hXa)
    have hRow:R prog w s₁.heap (Pf Q0 s0.heap (Ow env X1 ((σk g ps r2' ci k r5').set 5 (some (part ⟨encS pk,true,true⟩ (.str t)))) ad1) true false) (.ref a) (encRow ri):=hra.toR ⟨F.q0 a hob,fun zz=>hob,fun q=>by cases q⟩ hne hril
    have Cx1:=S1.cx1 (y:="row") (r:=⟨encRow ri,true,false⟩) F l1' hRow
    have hT:aeval Φ (.cmp .In (.var 5) (.var 6)) (σk g ps r2' ci k (some (at1 (.str t))) ++ [some ⟨encRow ri,true,false⟩]) = some (at1 (.bool (decide (t ∈ rk ri)))):=by
      refine ev_cmp (r:=at1 (.str t)) (q:=⟨encRow ri,true,false⟩) (ev_var rfl) (ev_var rfl) ?_
      show acmp .In (.str t) (.dict (rk ri) ((rv ri).map fun k:Nat=>PV.int k)) = _
      rw [in_dict,look_isSome (by simp [rk,rv])]
    refine wpAny_execs_cons (wpAny_If (wm (te D H T (.cmp .In (.var 5) (.var 6)) _ TT.test A env _ _ s₁ (at1 (.bool (decide (t ∈ rk ri)))) (decide (t ∈ rk ri)) _ TT.ctest Cx1 hT rfl) (fun b s₂ h₂=>?_)))
    obtain ⟨rfl,k2⟩:=h₂
    have S2:=S1.keeps k2
    by_cases htm:t ∈ rk ri
    · rw [if_pos (by simpa using htm)]
      refine wpAny_execs_cons (wm (ex (n:=0) D H T F noGok (.set 3 (.bin .Add (.var 3) (.int 1))) TT.st7 _ _ _ (.next (σk g ps r2' (ci + 1) k (some (at1 (.str t))))) _ TT.c7 S2 ?_ (fun m hm=>by cases hm)) (fun fl s₃ h₃=>?_))
      · exact ex_set1 (ev_bin (op:=.Add) (r:=at1 (.int ci)) (q:=at1 (.int 1)) (t:=at1 (.int ((ci + 1:Nat):Int))) (ev_var rfl) ev_int rfl) rfl
      · obtain ⟨rfl,ad3,S3,x3⟩:=h₃
        refine wpAny_execs_nil (wpAny_execs_nil (hQ5 _ _ ⟨rfl,X1,ad3,_,S3,extw_trans (extw_keeps k2) x3.toW,?_⟩))
        have hadd:addTok k (pk.take (i + 1)) (r,c) = (ri,ci + 1):=by rw [htake,addTok_snoc,if_pos htm]
        rw [hadd]
        have st3:Stb env (tabCe d) X1 s₁ s₃:=stb_trans (stb_keeps k2) x3.stb
        exact ⟨⟨_,_,rfl⟩,B1'.stb ixT vT st3,st3.2 _ _ ixR vR l1'⟩
    · rw [if_neg (by simpa using htm)]
      refine wpAny_execs_cons (wpAny_Assign_Subscript (wm (ev D H T (.var 4) _ TT.v2 A env _ _ s₂ (at1 (.int k)) _ TT.cv2 (S2.cx F) (ev_var rfl)) (fun u3 s₃ h₃=>?_)) swaps_sub)
      obtain ⟨k3,r3⟩:=h₃
      have S3:=S2.keeps k3
      refine ld_var F.fn ((l1'.keeps (kheap k2)).keeps (kheap k3)) (by decide) (by decide) ?_
      refine wm (ev D H T (.var 5) _ TT.i2 A env _ _ s₃ (at1 (.str t)) _ TT.cx2 (S3.cx F) (ev_var rfl)) (fun u4 s₄ h₄=>?_)
      obtain ⟨k4,r4⟩:=h₄
      have S4:=S3.keeps k4
      have r4:R prog w s₄.heap _ u4 (.str t):=r4
      induction r4.s with
      | str tk4 =>
        have B4:=(B1'.stb (ce:=tabCe d) ixT vT (stb_keeps (ktrans k2 (ktrans k3 k4))))
        refine cps fun Gq hGq=>?_
        obtain ⟨kvs,hd4,hk4,rs4⟩:=B4.row jj a ri hj1 hj2
        refine hGq ?_
        clear hGq
        have r3':R prog w s₄.heap (fun zz=>False) u3 (.int k):=r3.atom rfl
        refine wpAny_setItem_pairs (strKind_is prog w t tk4) hd4 (fun h' hd' hs=>?_) ?_
        · obtain ⟨S5,x5,l5⟩:=S4.mutX (tk:=s₄.toks + 1) hXa hs (let ⟨o,_,_,ho,_⟩:=hd'; ⟨o,ho⟩)
          refine wpAny_execs_nil (wpAny_execs_nil (hQ5 _ _ ⟨rfl,X1,ad1,_,S5,extw_trans (extw_keeps (ktrans k2 (ktrans k3 k4))) x5,?_⟩))
          have hadd:addTok k (pk.take (i + 1)) (r,c) = (ri ++ [(t,k)],ci):=by rw [htake,addTok_snoc,if_neg htm]
          rw [hadd]
          have B5:=B4.addTok (tk:=s₄.toks + 1) hn ha hri htm hk4 rs4 r3' hd' hs l5
          rw [upd_upd] at B5
          exact ⟨⟨_,_,rfl⟩,B5,l5 _ _ (l1'.keeps (kheap (ktrans k2 (ktrans k3 k4))))⟩
        · have:kvs.length = ri.length:=by
            have:=congrArg List.length hk4
            simpa [rk] using this
          rw [this]
          exact Nat.le_trans hril lim_size
  · rintro X1 ad1 σ1 s1 S1 x1 ⟨⟨r2',r5',rfl⟩,B1,l1⟩
    have htl:pk.take (pk.map PV.str).length = pk:=by rw [List.length_map]; exact List.take_length
    rw [htl] at B1 S1 x1
    exact done X1 ad1 r2' r5' s1 S1 x1 B1
end
end Mine
namespace Mine
open PySem PySem.SeqAt PySem.Calls PyProof.Rows
section
variable {prog:Program} {w:World} {p:Program} {loose:List Str} {mean:ExcName → Option Value} {mg mb:Str → Option Value} {lvl:Nat} {A:Around} {env:Env} {Q0:Addr → Prop} {s0 s s' s'':Shared} {X X' X'':Addr → Prop} {ad ad' ad'':Nat → Addr} {E:Value → Shared → Prop} {Φ:FTab} {d:DefRec}
noncomputable def stK (g:List Rule) (ks:List Str) (ps:List (List Str)) (k:Nat):List Row × Nat:=tabAll ks 0 ((rowsOf g ps).take k) (ks.map fun zz=>[],0)
theorem rows_get_at {g:List Rule} {ps:List (List Str)} {k:Nat} {r:Rule} {pk:List Str} (h1:g[k]? = some r) (h2:ps[k]? = some pk):(rowsOf g ps)[k]? = some (r.1,pk):=by
  delta rowsOf
  rw [List.getElem?_map,List.getElem?_zip_eq_some (z:=(r,pk)) |>.mpr ⟨h1,h2⟩]; rfl
theorem stK_succ {g:List Rule} {ks:List Str} {ps:List (List Str)} {k:Nat} {r:Rule} {pk:List Str} (h1:g[k]? = some r) (h2:ps[k]? = some pk):stK g ks ps (k + 1) = tabStep ks k (r.1,pk) (stK g ks ps k):=by
  have hg:=rows_get_at h1 h2
  have hlt:k < (rowsOf g ps).length:=by
    rcases Nat.lt_or_ge k (rowsOf g ps).length with q | q
    · exact q
    · rw [List.getElem?_eq_none q] at hg; cases hg
  delta stK
  rw [List.take_add_one,hg]
  simp only [Option.toList_some]
  rw [tabAll_snoc,List.length_take,Nat.min_eq_left (by lia),Nat.zero_add]
theorem rowsOk_len {ks:List Str} {l:List (Str × List Str)} {s:List Row × Nat} (H:RowsOk ks l s):∀ r ∈ s.1,r.length ≤ (l.map fun x=>x.2.length).sum:=by
  have key:∀ (rows:List Row),∀ r ∈ rows,r.length ≤ szR rows:=by
    intro rows
    induction rows with
    | nil=>intro r h; cases h
    | cons a rows ih =>
      intro r h
      have e2:szR (a :: rows) = a.length + szR rows:=by simp [szR]
      rw [e2]
      rcases List.mem_cons.mp h with rfl | h
      · lia
      · have:=ih r h; lia
  intro r hr
  have:=key s.1 r hr
  have:=H.sum
  lia
theorem sum_len_le {l:List (Str × List Str)} (h:∀ x ∈ l,x.2.length ≤ 1000):(l.map fun x=>x.2.length).sum ≤ 1000 * l.length:=by
  induction l with
  | nil=>simp
  | cons a l ih =>
    have h1:=h a (by simp)
    have h2:=ih fun x hx=>h x (by simp [hx])
    simp only [List.map_cons,List.sum_cons,List.length_cons]
    lia
set_option maxHeartbeats 1000000 in
theorem ll1_body (TT:TabText d) (D:Wd prog w p loose mean mg mb) (H:Hard prog w) (T:Ctr prog w p loose mean mg mb lvl Φ) (F:Fx prog w p loose mean mg mb lvl A env (tabCe d) Q0 s0)
    {g:List Rule} {ks:List Str} {ps:List (List Str)} (GL:GllOk Φ g ks ps)
    (S:Sx prog w env (tabCe d) Q0 s0 (fun zz=>False) ad [some ⟨encG g,false,true⟩,Option.none,Option.none,Option.none,Option.none,Option.none] s) :
    wpAny (model prog w) A (execs d.body env) (fun fl s'=>∃ v,fl = .ret v ∧ Keeps s0 s' ∧ R prog w s'.heap (fun a=>Q0 a ∧ s0.heap.get? a = none) v (encT ks (gllR g ks ps))) E s:=by
  refine wp_abs fun QQ EE hQQ zz=>?_
  have ixR:(tabCe d).idx "row" = none:=by show lastIdx ("row":Str) tabNames 0 = none; decide +kernel
  have ixT:(tabCe d).idx "table" = none:=by show lastIdx ("table":Str) tabNames 0 = none; decide +kernel
  have vR:isVar ((tabCe d).kind "row") = true:=isLC_var TT.kR
  have vT:isVar ((tabCe d).kind "table") = true:=isLC_var TT.kT
  have hn:=GL.nd
  have hg3:1000 * g.length + 1000 ≤ lim:=by have:=GL.g1; delta lim; lia
  have notSys:∀ {t:Shared},Top p loose mean mg mb t.heap → (t.heap.objs.size == sysModules) = false:=fun {t} Tp=>by
    have hlt:mainGlobals < t.heap.objs.size:=Tp.g.lt
    rw [beq_eq_false_iff_ne]
    intro e
    rw [e] at hlt
    exact absurd hlt (by decide)
  rw [TT.body]
  refine wpAny_execs_cons (wm (ex (n:=0) D H T F noGok (.set 1 (.call "predict_sets" [.var 0])) TT.st1 _ _ _ (.next (σY g ps Option.none Option.none Option.none Option.none)) _ TT.c1 S (ex_set1 (ev_callT (rs:=[⟨encG g,false,true⟩]) (evs_cons (ev_var rfl) evs_nil) GL.pre) rfl) (fun m hm=>by cases hm)) (fun fl s₁ h₁=>?_))
  obtain ⟨rfl,ad1,S1,x1⟩:=h₁
  dsimp only
  refine wpAny_execs_cons (wpAny_Assign_Name ?_ (swaps_plain rfl))
  rw [eval_Dict_empty]
  refine wpAny_bind (wpAny_standAt (wpAny_newObj_type ?_))
  refine store_pin F (S1.addX (kpush s₁ _) (size_none _) ⟨_,Heap.get?_push_size _ rfl⟩) ixT TT.kT fun s₂ S2 x2 stX ldT lds=>?_
  have B2:Tb prog w env s₁.heap.objs.size [] [] [] (fun a=>False ∨ a = s₁.heap.objs.size) s₂:=by
    refine ⟨ldT,?_,rfl,rfl,fun j a r h1 h2=>by simp at h1,.inr rfl,by simp,by simp,fun a ha=>?_⟩
    · obtain ⟨o,es,ep,ho,q⟩:=Heap.DictOf.new (prog:=prog) (w:=w) (knd:=strKind prog w) s₁.heap
      exact ⟨o,es,ep,stX _ _ (.inr rfl) ho,q⟩
    · simp at ha
      rw [ha]
      exact notSys (S1.cx F).top
  dsimp only
  generalize hD:s₁.heap.objs.size = Dd at S2 x2 stX ldT B2
  clear hD
  have hhd:aeval Φ (.call "heads_of" [.var 0]) (σY g ps Option.none Option.none Option.none Option.none) = some ⟨encS ks,true,true⟩:=ev_callT (rs:=[⟨encG g,false,true⟩]) (evs_cons (ev_var rfl) evs_nil) GL.hds
  refine wpAny_execs_cons (for_w (q:=⟨encS ks,true,true⟩) (ds:=ks.map PV.str) (i:=2) (J:=fun j X σ s=>(∃ r2,σ = (σY g ps r2 Option.none Option.none Option.none)) ∧ ∃ as,Tb prog w env Dd (ks.take j) as (List.replicate j []) X s) F S2 TT.th TT.ns1
    (ev D H T _ _ _ A env _ _ s₂ _ EE TT.ci1 (S2.cx F) hhd) rfl rfl ?_ ⟨⟨_,rfl⟩,[],B2⟩ ?_ ?_)
  · rintro j X1 σ1 t1 t2 ⟨h1,as,h2⟩ hst
    exact ⟨h1,as,h2.stb ixT vT hst⟩
  · rintro j dd X1 ad3 σ1 t₀ t₁ E1 hd x0 ⟨⟨r2,rfl⟩,as,B3⟩ S3 st3 x3
    refine wp_abs fun Q5 E5 hQ5 zz=>?_
    rw [List.getElem?_map,Option.map_eq_some_iff] at hd
    obtain ⟨h,hh,rfl⟩:=hd
    have hj:j < ks.length:=by
      rcases Nat.lt_or_ge j ks.length with q | q
      · exact q
      · rw [List.getElem?_eq_none q] at hh; cases hh
    have htake:ks.take (j + 1) = ks.take j ++ [h]:=by rw [List.take_add_one,hh]; rfl
    have hnew:h ∉ ks.take j:=by
      intro hm
      have:(ks.take (j + 1)).Nodup:=hn.sublist (List.take_sublist _ _)
      rw [htake,List.nodup_append] at this
      exact this.2.2 h hm h (by simp) rfl
    have B3':=B3.stb (ce:=tabCe d) ixT vT st3
    have Tp3:=(S3.cx F).top
    have hrn:t₁.heap.objs.size ∉ Dd :: as:=fun hm=>by
      have:∃ o,t₁.heap.get? t₁.heap.objs.size = some o:=by
        rcases List.mem_cons.mp hm with e | hm
        · rw [e]; exact S3.lv Dd (.inl B3'.xD)
        · exact S3.lv _ (.inl (B3'.xa _ hm))
      obtain ⟨o,e⟩:=this
      rw [size_none] at e; cases e
    refine wpAny_execs_cons (wpAny_Assign_Subscript ?_ swaps_sub)
    rw [eval_Dict_empty]
    refine wpAny_bind (wpAny_standAt (wpAny_newObj_type ?_))
    have S4:=S3.addX (kpush t₁ { cls:=.type "dict",data:=.dict #[] }) (size_none _) ⟨_,Heap.get?_push_size _ rfl⟩
    have x4:ExtW env X1 ad3 _ t₁ (fun a=>X1 a ∨ a = t₁.heap.objs.size) ad3 _ { t₁ with heap:=t₁.heap.push { cls:=.type "dict",data:=.dict #[] } }:=extw_addX (σ:=(σY g ps (some (at1 (.str h))) Option.none Option.none Option.none)) (kpush t₁ _) (size_none _)
    refine ld_var F.fn (B3'.ld.keeps fun zz zz e=>Heap.get?_push_of_some _ e) (by decide) (by decide) ?_
    refine wm (ev D H T (.var 2) _ TT.i1 A env _ _ _ (at1 (.str h)) _ TT.cx1 (S4.cx F) (ev_var rfl)) (fun u5 t₅ h₅=>?_)
    obtain ⟨k5,r5⟩:=h₅
    have r5:R prog w t₅.heap _ u5 (.str h):=r5
    induction r5.s with
    | str tk5 =>
      have S5:=S4.keeps k5
      have B5:Tb prog w env Dd (ks.take j) as (List.replicate j []) X1 t₅:=B3'.stb (ce:=tabCe d) ixT vT (stb_keeps (ktrans (kpush t₁ _) k5))
      have hr5:t₅.heap.DictOf (strKind prog w) t₁.heap.objs.size []:=by
        refine cps fun Gq hGq=>?_
        obtain ⟨o,es,ep,ho,q⟩:=Heap.DictOf.new (prog:=prog) (w:=w) (knd:=strKind prog w) t₁.heap
        refine hGq ?_
        clear hGq
        exact ⟨o,es,ep,kheap k5 _ _ ho,q⟩
      refine wpAny_setItem_pairs (strKind_is prog w h tk5) B5.dD (fun h' hd' hs=>?_) ?_
      · obtain ⟨S6,x6,l6⟩:=S5.mutX (tk:=t₅.toks + 1) (.inl B5.xD) hs (let ⟨o,_,_,ho,_⟩:=hd'; ⟨o,ho⟩)
        have B6:=B5.addHead (X':=fun a=>X1 a ∨ a = t₁.heap.objs.size) (tk:=t₅.toks + 1) hnew hr5 hrn (notSys Tp3) (fun a ha=>.inl ha) (.inr rfl) hd' hs l6
        refine wpAny_execs_nil (hQ5 _ _ ⟨rfl,_,ad3,_,S6,extw_trans x4 (extw_trans (extw_keeps k5) x6),⟨_,rfl⟩,as ++ [t₁.heap.objs.size],?_⟩)
        rw [htake,List.replicate_succ']
        exact B6
      · have h1:=GL.g2
        have h2:((ks.take j).zip (as.map Value.ref)).length ≤ 1000:=by
          rw [List.length_zip,List.length_take]; lia
        exact Nat.le_trans h2 (by decide)
  · rintro X3 ad3 σ3 s₃ S3 x3 ⟨⟨r2,rfl⟩,as,B3⟩
    have htl:ks.take (ks.map PV.str).length = ks:=by rw [List.length_map]; exact List.take_length
    have hrl:List.replicate (ks.map PV.str).length ([]:Row) = ks.map fun zz=>[]:=by rw [List.length_map,List.map_const']
    rw [htl,hrl] at B3
    dsimp only
    refine wpAny_execs_cons (wm (ex (n:=0) D H T F noGok (.set 3 (.int 0)) TT.st4 _ _ _ (.next (σY g ps r2 (some (at1 (.int 0))) Option.none Option.none)) _ TT.c4 S3 (ex_set1 ev_int rfl) (fun m hm=>by cases hm)) (fun fl s₄ h₄=>?_))
    obtain ⟨rfl,ad4,S4,x4⟩:=h₄
    dsimp only
    have B4:=B3.stb ixT vT x4.stb
    have hrg:aeval Φ (.range (.len (.var 0))) (σY g ps r2 (some (at1 (.int 0))) Option.none Option.none) = some ⟨.rng 0 g.length 1,true,true⟩:=by
      refine ev_range (f:=true) (c:=true) (ev_len (n:=g.length) (ev_var rfl) ?_) (by have:=GL.g1; delta lim; lia)
      show some (g.map encR).length = _
      rw [List.length_map]
    have hdr:∀ x ∈ rowsOf g ps,x.1 ∈ ks ∧ x.2.length ≤ 1000:=by
      intro x hx
      delta rowsOf at hx
      obtain ⟨q,hq,rfl⟩:=List.mem_map.mp hx
      have:=List.of_mem_zip hq
      exact ⟨GL.hd q.1 this.1,GL.g3 _ this.2⟩
    have hok:∀ k,RowsOk ks ((rowsOf g ps).take k) (stK g ks ps k):=fun k=>tab_spec hn _ fun x hx=>(hdr x (List.mem_of_mem_take hx)).1
    have hsum:∀ k,(((rowsOf g ps).take k).map fun x=>x.2.length).sum ≤ 1000 * g.length:=fun k=>by
      refine Nat.le_trans (sum_len_le fun x hx=>(hdr x (List.mem_of_mem_take hx)).2) ?_
      have:((rowsOf g ps).take k).length ≤ g.length:=by
        delta rowsOf
        rw [List.length_take,List.length_map,List.length_zip]; lia
      lia
    refine wpAny_execs_cons (for_w (q:=⟨.rng 0 g.length 1,true,true⟩) (ds:=(List.range g.length).map fun i:Nat=>PV.int i) (i:=4) (J:=fun k X σ s=>(∃ r2 r4 r5,σ = (σY g ps r2 (some (at1 (.int (stK g ks ps k).2))) r4 r5)) ∧ ∃ as,Tb prog w env Dd ks as (stK g ks ps k).1 X s) F S4 TT.tk TT.ns2
      (ev D H T _ _ _ A env _ _ s₄ _ EE TT.ci2 (S4.cx F) hrg) rfl (aiter_range _) ?_ ⟨⟨_,_,_,rfl⟩,as,B4⟩ ?_ ?_)
    · rintro j X1 σ1 t1 t2 ⟨h1,as,h2⟩ hst
      exact ⟨h1,as,h2.stb ixT vT hst⟩
    · rintro k dd X1 ad5 σ1 t₀ t₁ E1 hd x0 ⟨⟨r2',r4',r5',rfl⟩,as,B5⟩ S5 st5 x5
      refine wp_abs fun Q5 E5 hQ5 zz=>?_
      rw [List.getElem?_map,Option.map_eq_some_iff] at hd
      obtain ⟨k',hk',rfl⟩:=hd
      have hkk:k' = k ∧ k < g.length:=by
        rw [List.getElem?_eq_some_iff] at hk'
        obtain ⟨h1,h2⟩:=hk'
        simp at h1 h2
        exact ⟨h2.symm,h1⟩
      obtain ⟨rfl,hkl⟩:=hkk
      have hgk:g[k']? = some g[k']:=List.getElem?_eq_getElem hkl
      generalize g[k'] = rl at hgk
      have hpk:ps[k']? = some (ps[k']'(by rw [GL.len]; exact hkl)):=List.getElem?_eq_getElem _
      generalize ps[k']'(by rw [GL.len]; exact hkl) = pk at hpk
      have hpl:pk.length ≤ 1000:=GL.g3 pk (List.mem_of_getElem? hpk)
      have hhead:=GL.hd rl (List.mem_of_getElem? hgk)
      have B5':=B5.stb (ce:=tabCe d) ixT vT st5
      refine cps fun Gq hGq=>?_
      obtain ⟨a,ha⟩:=look_some (Nat.le_of_eq B5'.l1) hhead
      obtain ⟨jj,hj1,r,hj2,hr⟩:=look_at ha (us:=(stK g ks ps k').1) B5'.l2.symm
      refine hGq ?_
      clear hGq
      have hrl:r.length ≤ 1000 * g.length:=Nat.le_trans (rowsOk_len (hok k') r (List.mem_of_getElem? hj2)) (hsum k')
      have hval:valueAt (ks.zip (as.map Value.ref)) rl.1 = some (.ref a):=by rw [valueAt_zip,look_map,ha]; rfl
      have σe:(List.set (σY g ps r2' (some (at1 (.int (stK g ks ps k').2))) r4' r5') 4 (some (part ⟨.rng 0 g.length 1,true,true⟩ (.int k')))) = σk g ps r2' (stK g ks ps k').2 k' r5':=rfl
      rw [σe] at S5 x5
      have hix:aeval Φ (.idx (.idx (.var 0) (.var 4)) (.int 0)) (σk g ps r2' (stK g ks ps k').2 k' r5') = some (at1 (.str rl.1)):=by
        refine ev_idx (r:=⟨encR rl,false,true⟩) (ev_idx (r:=⟨encG g,false,true⟩) (q:=at1 (.int k')) (ev_var rfl) (ev_var rfl) ?_) ev_int rfl
        have:aidx ⟨encG g,false,true⟩ (.int k') = if 0 ≤ (k':Int) then ((g.map encR)[(k':Int).toNat]?).map (part ⟨encG g,false,true⟩) else if -((g.map encR).length:Int) ≤ (k':Int) then ((g.map encR)[((k':Int) + ((g.map encR).length:Int)).toNat]?).map (part ⟨encG g,false,true⟩) else Option.none:=rfl
        show aidx ⟨encG g,false,true⟩ (.int k') = _
        rw [this,if_pos (by lia),Int.toNat_natCast,List.getElem?_map,hgk]; rfl
      refine wpAny_execs_cons (wpAny_Assign_Name (ev_Subscript (ld_var F.fn B5'.ld (by decide) (by decide) (wm (ev D H T _ _ TT.ix A env _ _ t₁ (at1 (.str rl.1)) _ TT.cix (S5.cx F) hix) (fun u6 t₆ h₆=>?_)))) (swaps_plain rfl))
      obtain ⟨k6,r6⟩:=h₆
      have r6:R prog w t₆.heap _ u6 (.str rl.1):=r6
      induction r6.s with
      | str tk6 =>
        have B6:=B5'.stb (ce:=tabCe d) ixT vT (stb_keeps k6)
        refine ⟨"dict",_,B6.dD.typeIs,slot_dict_getitem.lookup,wpAny_getItem_of (strKind_is prog w rl.1 tk6) B6.dD.mapOf hval ?_⟩
        have S6:=(S5.keeps k6).keeps (ktoks t₆ (t₆.toks + 1))
        have B6':=B6.stb (ce:=tabCe d) ixT vT (stb_keeps (ktoks t₆ (t₆.toks + 1)))
        refine store_pin F S6 ixR TT.kR fun t₇ S7 x7 stX ldR lds=>?_
        have B7:Tb prog w env Dd ks as (stK g ks ps k').1 X1 t₇:=by
          refine ⟨lds _ _ (by decide +kernel) B6'.ld,?_,B6'.l1,B6'.l2,fun j b q h1 h2=>(B6'.row j b q h1 h2).frame fun o e=>stX b o (B6'.xa b (List.mem_of_getElem? h1)) e,B6'.xD,B6'.xa,B6'.nd,B6'.ne⟩
          refine cps fun Gq hGq=>?_
          obtain ⟨o,es,ep,ho,q⟩:=B6'.dD
          refine hGq ?_
          clear hGq
          exact ⟨o,es,ep,stX _ _ B6'.xD ho,q⟩
        refine wpAny_execs_cons (tab_inner TT D H T F S7 B7 hn ha hr ldR hpk (by have:=GL.g1; lia) fun X8 ad8 r2'' r5'' t₈ S8 x8 B8=>?_)
        refine wpAny_execs_nil (hQ5 _ _ ⟨rfl,X8,ad8,_,S8,extw_trans (extw_keeps (ktrans k6 (ktoks t₆ (t₆.toks + 1)))) (extw_trans x7 x8),?_⟩)
        have hst:stK g ks ps (k' + 1) = (upd ks (stK g ks ps k').1 rl.1 (addTok k' pk (r,(stK g ks ps k').2)).1,(addTok k' pk (r,(stK g ks ps k').2)).2):=by
          rw [stK_succ hgk hpk]
          delta tabStep
          rw [hr]; rfl
        rw [hst]
        exact ⟨⟨_,_,_,rfl⟩,as,B8⟩
    · rintro X9 ad9 σ9 s₉ S9 x9 ⟨⟨r2',r4',r5',rfl⟩,as,B9⟩
      dsimp only
      have hkl:((List.range g.length).map fun i:Nat=>PV.int i).length = g.length:=by simp
      rw [hkl] at B9 S9
      have hfull:stK g ks ps g.length = gllR g ks ps:=by
        delta stK gllR
        rw [List.take_of_length_le]
        delta rowsOf
        rw [List.length_map,List.length_zip]; lia
      rw [hfull] at B9 S9
      have hrows:∀ r ∈ (gllR g ks ps).1,r.length ≤ lim:=fun r hr=>by
        rw [← hfull] at hr
        have:=rowsOk_len (hok g.length) r hr
        have:=hsum g.length
        lia
      have hob:∀ a ∈ Dd :: as,s0.heap.get? a = none:=fun a ha=>by
        rcases List.mem_cons.mp ha with rfl | ha
        · exact S9.ob _ (.inl B9.xD)
        · exact S9.ob _ (.inl (B9.xa a ha))
      have hRT:=B9.toR (P:=Pf Q0 s0.heap (Ow env X9 (σY g ps r2' (some (at1 (.int (gllR g ks ps).2))) r4' r5') ad9) true false) (fun a ha=>⟨F.q0 a (hob a ha),fun zz=>hob a ha,fun q=>by cases q⟩) (by have:=GL.g2; delta lim; lia) hrows
      have Cx9:=S9.cx1 (y:="table") (r:=⟨.dict ks ((gllR g ks ps).1.map encRow),true,false⟩) F B9.ld hRT
      have hret:aeval Φ (.tup [.var 6,.var 3]) ((σY g ps r2' (some (at1 (.int (gllR g ks ps).2))) r4' r5') ++ [some ⟨.dict ks ((gllR g ks ps).1.map encRow),true,false⟩]) = some ⟨encT ks (gllR g ks ps),true,false⟩ :=
        ev_tup (rs:=[⟨.dict ks ((gllR g ks ps).1.map encRow),true,false⟩,at1 (.int (gllR g ks ps).2)]) (evs_cons (ev_var rfl) (evs_cons (ev_var rfl) evs_nil)) (show 2 ≤ lim by decide)
      refine wpAny_execs_cons (wpAny_Return_some (wm (ev D H T (.tup [.var 6,.var 3]) _ TT.ret A env _ _ s₉ _ EE TT.cret Cx9 hret) (fun v t h=>?_)))
      exact hQQ _ _ ⟨v,rfl,ktrans S9.k0 h.1,h.2.mono fun a ha=>⟨ha.1,ha.2.1 rfl⟩⟩
end
end Mine
namespace Mine
open PySem PySem.SeqAt PySem.Calls PyProof.Rows
section
variable {prog:Program} {w:World} {p:Program} {loose:List Str} {mean:ExcName → Option Value} {mg mb:Str → Option Value} {lvl:Nat} {A:Around} {E:Value → Shared → Prop} {s:Shared} {Φ:FTab}
theorem Ctr.addT {d:DefRec} (T:Ctr prog w p loose mean mg mb lvl Φ) (D:Wd prog w p loose mean mg mb) (H:Hard prog w) (hT:∃ h,Top p loose mean mg mb h) (hd:d ∈ recsOf p) (FF:FnFacts { d with body:=[] } ["g"] ["predicts","head","clashes","k","token"] []) (TT:TabText d)
    (hbind:∀ pm code doc (vals:List Value),vals.length = 1 → bindArgs (docDef d.name d.params d.body d.scope pm code doc) ⟨vals,[]⟩ = pure ((["g"]:List Str).zip vals)) :
    Ctr prog w p loose mean mg mb (lvl + 1) (updΦ Φ d.name (gll Φ)):=by
  intro f ds dd fr h
  delta updΦ at h
  split at h
  · rename_i hf
    subst hf
    obtain ⟨g,ks,ps,rfl,GL,he⟩:=gll_some h
    cases he
    refine cps fun Gq hGq=>?_
    obtain ⟨H0,T0⟩:=hT
    obtain ⟨a,zz,zz,zz,zz,ha,zz⟩:=T0.fn d hd
    refine hGq ?_
    clear hGq
    have fn:∀ h,Top p loose mean mg mb h → ∃ o pm code doc,h.get? a = some o ∧ o.data = .func (docDef d.name d.params d.body d.scope pm code doc) ∧ h.CodeRec code d.name:=by
      intro h Th
      refine cps fun Gq hGq=>?_
      obtain ⟨a',o,pm,code,doc,h1,h2,h3,h4⟩:=Th.fn d hd
      refine hGq ?_
      clear hGq
      rw [ha] at h1
      cases h1
      exact ⟨o,pm,code,doc,h2,h3,h4⟩
    refine ⟨a,ha,fun h Th=>?_,?_⟩
    · obtain ⟨o,zz,zz,zz,h1,h2,zz⟩:=fn h Th
      exact ⟨o,_,h1,h2⟩
    · intro A E s vs Q hh hd' hu hTs hQ hr
      refine cps fun Gq hGq=>?_
      obtain ⟨o,pm,code,doc,ho,hdat,hcd⟩:=fn s.heap hTs
      refine hGq ?_
      clear hGq
      have hl:(["g"]:List Str).length = vs.length:=by rw [hr.length]; rfl
      refine wpAny_call (call_cells (by lia) ho hdat hTs.nolimit hcd (hbind pm code doc vs hl.symm) ?_ (fun h₁ tk Fr1 Cl1=>?_) FF.co FF.gen FF.kind)
      · intro x hx
        have hx1:x.1 ∈ (["g"]:List Str):=by
          have:=List.mem_map_of_mem (f:=(·.1)) hx
          rwa [zip_keys hl] at this
        have hk:isLC (d.scope.names.lookup x.1) = true:=FF.ps x.1 hx1
        cases hkk:d.scope.names.lookup x.1 with
        | none=>rw [hkk] at hk; cases hk
        | some k =>
          rw [hkk] at hk
          cases k with
          | «local»=>exact .inl rfl
          | cell=>exact .inr ⟨rfl,cellsFrom_some _ _ _ (.inl (mem_lookup_kind hkk))⟩
          | _=>cases hk
      · obtain ⟨Fx1,Sx1⟩:=frame_start (tk:=tk) FF hh hd' hu hTs hQ hr hl Fr1 Cl1
        have F1:Fx prog w p loose mean mg mb lvl (A.deeper (envOfC d.name d.scope s.heap.objs.size a code)) (envOfC d.name d.scope s.heap.objs.size a code) (tabCe d) Q s:=Fx1
        have S1:Sx prog w (envOfC d.name d.scope s.heap.objs.size a code) (tabCe d) Q s (fun zz=>False) (fun zz=>0) [some ⟨encG g,false,true⟩,Option.none,Option.none,Option.none,Option.none,Option.none] { s with heap:=h₁,toks:=tk }:=Sx1
        refine wm (ll1_body TT D H T F1 GL S1) (fun fl s' h'=>?_)
        obtain ⟨v,rfl,k,r⟩:=h'
        exact ⟨k,r.mono fun b hb=>⟨hb.1,fun zz=>hb.2⟩⟩
  · exact T.up f ds dd fr h
end
end Mine
namespace Mine
open PySem PySem.SeqAt PySem.Calls PyProof.Rows
namespace L7
noncomputable def p7:Program:=PySem.Challenge.pw_sx_vaugur_7
noncomputable def rec7 (n:Str):DefRec:=((recsOf p7).find? fun d=>d.name == n).getD ⟨n,⟨[],[],Option.none,[],[],Option.none,[]⟩,[],default,default⟩
theorem mem7 {n:Str} (h:((recsOf p7).find? fun d=>d.name == n).isSome = true):rec7 n ∈ recsOf p7 ∧ (rec7 n).name = n:=by
  delta rec7
  cases e:(recsOf p7).find? fun d=>d.name == n with
  | none=>rw [e] at h; cases h
  | some d =>
    refine ⟨List.mem_of_find?_eq_some e,?_⟩
    have:=List.find?_some e
    simpa using this
theorem all7:(["heads_of","merged","heads_built_from","nullable_heads","first_of_string","first_sets","follow_sets","predict_sets","ll1_table","parse_ll1","_law_letter","_law_rules","_law_word","_law_hurt","_law_table","_law_answer","_law_run","_law_tall"]:List Str).all (fun n=>((recsOf p7).find? fun d=>d.name == n).isSome) = true:=by decide +kernel
theorem mm7 {n:Str} (h:n ∈ (["heads_of","merged","heads_built_from","nullable_heads","first_of_string","first_sets","follow_sets","predict_sets","ll1_table","parse_ll1","_law_letter","_law_rules","_law_word","_law_hurt","_law_table","_law_answer","_law_run","_law_tall"]:List Str)):rec7 n ∈ recsOf p7 ∧ (rec7 n).name = n :=
  mem7 (List.all_eq_true.mp all7 n h)
theorem len_cons {α:Type} {l:List α} {n:Nat} (h:l.length = n + 1):∃ a l',l = a :: l' ∧ l'.length = n:=by
  cases l with
  | nil=>cases h
  | cons a l=>exact ⟨a,l,rfl,Nat.succ.inj h⟩
theorem len0 {α:Type} {l:List α} (h:l.length = 0):l = []:=List.length_eq_zero_iff.mp h
theorem len1 {α:Type} {l:List α} (h:l.length = 1):∃ a,l = [a]:=by
  obtain ⟨a,l',rfl,h'⟩:=len_cons h
  exact ⟨a,by rw [len0 h']⟩
theorem len2 {α:Type} {l:List α} (h:l.length = 2):∃ a1 a2,l = [a1,a2]:=by
  obtain ⟨a1,l',rfl,h'⟩:=len_cons h
  obtain ⟨a2,rfl⟩:=len1 h'
  exact ⟨a1,a2,rfl⟩
theorem len3 {α:Type} {l:List α} (h:l.length = 3):∃ a1 a2 a3,l = [a1,a2,a3]:=by
  obtain ⟨a1,l',rfl,h'⟩:=len_cons h
  obtain ⟨a2,a3,rfl⟩:=len2 h'
  exact ⟨a1,a2,a3,rfl⟩
theorem len4 {α:Type} {l:List α} (h:l.length = 4):∃ a1 a2 a3 a4,l = [a1,a2,a3,a4]:=by
  obtain ⟨a1,l',rfl,h'⟩:=len_cons h
  obtain ⟨a2,a3,a4,rfl⟩:=len3 h'
  exact ⟨a1,a2,a3,a4,rfl⟩
theorem len5 {α:Type} {l:List α} (h:l.length = 5):∃ a1 a2 a3 a4 a5,l = [a1,a2,a3,a4,a5]:=by
  obtain ⟨a1,l',rfl,h'⟩:=len_cons h
  obtain ⟨a2,a3,a4,a5,rfl⟩:=len4 h'
  exact ⟨a1,a2,a3,a4,a5,rfl⟩
theorem len6 {α:Type} {l:List α} (h:l.length = 6):∃ a1 a2 a3 a4 a5 a6,l = [a1,a2,a3,a4,a5,a6]:=by
  obtain ⟨a1,l',rfl,h'⟩:=len_cons h
  obtain ⟨a2,a3,a4,a5,a6,rfl⟩:=len5 h'
  exact ⟨a1,a2,a3,a4,a5,a6,rfl⟩
theorem len7 {α:Type} {l:List α} (h:l.length = 7):∃ a1 a2 a3 a4 a5 a6 a7,l = [a1,a2,a3,a4,a5,a6,a7]:=by
  obtain ⟨a1,l',rfl,h'⟩:=len_cons h
  obtain ⟨a2,a3,a4,a5,a6,a7,rfl⟩:=len6 h'
  exact ⟨a1,a2,a3,a4,a5,a6,a7,rfl⟩
def BindOk (d:DefRec) (xs:List Str):Prop:=∀ pm code doc (vals:List Value),vals.length = xs.length → bindArgs (docDef d.name d.params d.body d.scope pm code doc) ⟨vals,[]⟩ = pure (xs.zip vals)
theorem ok_heads_of:fnOk (rec7 "heads_of") xs_heads_of ys_heads_of ss_heads_of = true:=by decide +kernel
theorem bind_heads_of:BindOk (rec7 "heads_of") xs_heads_of:=by
  intro pm code doc vals h
  obtain ⟨a1,rfl⟩:=len1 h
  rfl
theorem ok_merged:fnOk (rec7 "merged") xs_merged ys_merged ss_merged = true:=by decide +kernel
theorem bind_merged:BindOk (rec7 "merged") xs_merged:=by
  intro pm code doc vals h
  obtain ⟨a1,a2,rfl⟩:=len2 h
  rfl
theorem ok_heads_built_from:fnOk (rec7 "heads_built_from") xs_heads_built_from ys_heads_built_from ss_heads_built_from = true:=by decide +kernel
theorem bind_heads_built_from:BindOk (rec7 "heads_built_from") xs_heads_built_from:=by
  intro pm code doc vals h
  obtain ⟨a1,a2,rfl⟩:=len2 h
  rfl
theorem ok_nullable_heads:fnOk (rec7 "nullable_heads") xs_nullable_heads ys_nullable_heads ss_nullable_heads = true:=by decide +kernel
theorem bind_nullable_heads:BindOk (rec7 "nullable_heads") xs_nullable_heads:=by
  intro pm code doc vals h
  obtain ⟨a1,rfl⟩:=len1 h
  rfl
theorem ok_first_of_string:fnOk (rec7 "first_of_string") xs_first_of_string ys_first_of_string ss_first_of_string = true:=by decide +kernel
theorem bind_first_of_string:BindOk (rec7 "first_of_string") xs_first_of_string:=by
  intro pm code doc vals h
  obtain ⟨a1,a2,a3,rfl⟩:=len3 h
  rfl
theorem ok_first_sets:fnOk (rec7 "first_sets") xs_first_sets ys_first_sets ss_first_sets = true:=by decide +kernel
theorem bind_first_sets:BindOk (rec7 "first_sets") xs_first_sets:=by
  intro pm code doc vals h
  obtain ⟨a1,rfl⟩:=len1 h
  rfl
theorem ok_follow_sets:fnOk (rec7 "follow_sets") xs_follow_sets ys_follow_sets ss_follow_sets = true:=by decide +kernel
theorem bind_follow_sets:BindOk (rec7 "follow_sets") xs_follow_sets:=by
  intro pm code doc vals h
  obtain ⟨a1,rfl⟩:=len1 h
  rfl
theorem ok_predict_sets:fnOk (rec7 "predict_sets") xs_predict_sets ys_predict_sets ss_predict_sets = true:=by decide +kernel
theorem bind_predict_sets:BindOk (rec7 "predict_sets") xs_predict_sets:=by
  intro pm code doc vals h
  obtain ⟨a1,rfl⟩:=len1 h
  rfl
theorem ok_parse_ll1:fnOk (rec7 "parse_ll1") xs_parse_ll1 ys_parse_ll1 ss_parse_ll1 = true:=by decide +kernel
theorem bind_parse_ll1:BindOk (rec7 "parse_ll1") xs_parse_ll1:=by
  intro pm code doc vals h
  obtain ⟨a1,a2,rfl⟩:=len2 h
  rfl
theorem ok_law_letter:fnOk (rec7 "_law_letter") xs_law_letter ys_law_letter ss_law_letter = true:=by decide +kernel
theorem bind_law_letter:BindOk (rec7 "_law_letter") xs_law_letter:=by
  intro pm code doc vals h
  obtain ⟨a1,rfl⟩:=len1 h
  rfl
theorem ok_law_rules:fnOk (rec7 "_law_rules") xs_law_rules ys_law_rules ss_law_rules = true:=by decide +kernel
theorem bind_law_rules:BindOk (rec7 "_law_rules") xs_law_rules:=by
  intro pm code doc vals h
  obtain ⟨a1,a2,a3,a4,a5,a6,a7,rfl⟩:=len7 h
  rfl
theorem ok_law_word:fnOk (rec7 "_law_word") xs_law_word ys_law_word ss_law_word = true:=by decide +kernel
theorem bind_law_word:BindOk (rec7 "_law_word") xs_law_word:=by
  intro pm code doc vals h
  obtain ⟨a1,a2,a3,a4,a5,a6,a7,rfl⟩:=len7 h
  rfl
theorem ok_law_hurt:fnOk (rec7 "_law_hurt") xs_law_hurt ys_law_hurt ss_law_hurt = true:=by decide +kernel
theorem bind_law_hurt:BindOk (rec7 "_law_hurt") xs_law_hurt:=by
  intro pm code doc vals h
  obtain ⟨a1,a2,a3,a4,rfl⟩:=len4 h
  rfl
theorem ok_law_table:fnOk (rec7 "_law_table") xs_law_table ys_law_table ss_law_table = true:=by decide +kernel
theorem bind_law_table:BindOk (rec7 "_law_table") xs_law_table:=by
  intro pm code doc vals h
  obtain ⟨a1,rfl⟩:=len1 h
  rfl
theorem ok_law_answer:fnOk (rec7 "_law_answer") xs_law_answer ys_law_answer ss_law_answer = true:=by decide +kernel
theorem bind_law_answer:BindOk (rec7 "_law_answer") xs_law_answer:=by
  intro pm code doc vals h
  obtain ⟨a1,a2,a3,a4,rfl⟩:=len4 h
  rfl
theorem bind_ll1:∀ pm code doc (vals:List Value),vals.length = 1 → bindArgs (docDef (rec7 "ll1_table").name (rec7 "ll1_table").params (rec7 "ll1_table").body (rec7 "ll1_table").scope pm code doc) ⟨vals,[]⟩ = pure ((["g"]:List Str).zip vals):=by
  intro pm code doc vals h
  obtain ⟨a1,rfl⟩:=len1 h
  rfl
theorem bind_run:∀ pm code doc (vals:List Value),vals.length = 2 → bindArgs (docDef (rec7 "_law_run").name (rec7 "_law_run").params (rec7 "_law_run").body (rec7 "_law_run").scope pm code doc) ⟨vals,[]⟩ = pure ((["g","word"]:List Str).zip vals):=by
  intro pm code doc vals h
  obtain ⟨a1,a2,rfl⟩:=len2 h
  rfl
theorem bind_tall:∀ pm code doc (vals:List Value),vals.length = 1 → bindArgs (docDef (rec7 "_law_tall").name (rec7 "_law_tall").params (rec7 "_law_tall").body (rec7 "_law_tall").scope pm code doc) ⟨vals,[]⟩ = pure ((["pad"]:List Str).zip vals):=by
  intro pm code doc vals h
  obtain ⟨a1,rfl⟩:=len1 h
  rfl
theorem ok_ll1:fnOk { (rec7 "ll1_table") with body:=[] } ["g"] ["predicts","head","clashes","k","token"] [] = true:=by decide +kernel
theorem ok_run:fnOk { (rec7 "_law_run") with body:=[] } ["g","word"] ["answer","said","error"] [] = true:=by decide +kernel
end L7
end Mine
namespace Mine
open PySem PySem.SeqAt PySem.Calls PyProof.Rows
namespace L7
noncomputable def tt7:TabText (rec7 "ll1_table") where
  st1:=_
  st4:=_
  st7:=_
  it1:=_
  it2:=_
  it3:=_
  i1:=_
  ix:=_
  i2:=_
  v2:=_
  ret:=_
  test:=_
  q1:=_
  q2:=_
  q3:=_
  q4:=_
  q5:=_
  q6:=_
  q7:=_
  q8:=_
  q9:=_
  q10:=_
  q11:=_
  q12:=_
  q13:=_
  q14:=_
  q15:=_
  q16:=_
  q17:=_
  q18:=_
  q19:=_
  q20:=_
  q21:=_
  q24:=_
  body:=rfl
  c1:=by decide +kernel
  ci1:=by decide +kernel
  ns1:=by decide +kernel
  cx1:=by decide +kernel
  c4:=by decide +kernel
  ci2:=by decide +kernel
  ns2:=by decide +kernel
  cix:=by decide +kernel
  ci3:=by decide +kernel
  ns3:=by decide +kernel
  ctest:=by decide +kernel
  c7:=by decide +kernel
  cx2:=by decide +kernel
  cv2:=by decide +kernel
  cret:=by decide +kernel
  th:=by decide +kernel
  tk:=by decide +kernel
  tt:=by decide +kernel
  kT:=by decide +kernel
  kR:=by decide +kernel
noncomputable def rt7:RunText (rec7 "_law_run") where
  st1:=_
  st2:=_
  a1:=_
  a2:=_
  v5:=_
  q1:=_
  q2:=_
  q3:=_
  q4:=_
  np:=_
  p1:=_
  p2:=_
  p3:=_
  p4:=_
  p5:=_
  hp:=_
  tp:=_
  r5:=_
  body:=rfl
  c1:=by decide +kernel
  c2:=by decide +kernel
  cas:=by decide +kernel
  c5:=by decide +kernel
  tg:=by decide +kernel
  tg3:=by decide +kernel
  kA:=by decide +kernel
  kF:=by decide +kernel
  kP:=by decide +kernel
  kS:=by decide +kernel
  kE:=by decide +kernel
  kD:=by decide +kernel
  nocell:=by decide +kernel
end L7
end Mine
namespace Mine
open PySem PySem.SeqAt PySem.Calls PyProof.Rows
namespace L7
section
variable {prog:Program} {w:World} {p:Program} {loose:List Str} {mean:ExcName → Option Value} {mg mb:Str → Option Value}
theorem ctr0:Ctr prog w p loose mean mg mb 0 Φ0:=fun f ds d fr h=>by cases h
theorem ctr1 (hp:recsOf p = recsOf p7) (D:Wd prog w p loose mean mg mb) (hT:∃ h,Top p loose mean mg mb h):Ctr prog w p loose mean mg mb 1 Φ1:=by
  have h:=Ctr.add (g:=gOf Φ0 ss_heads_of 1 2) (ctr0) D hard hT (hp ▸ (mm7 (n:="heads_of") (by decide +kernel)).1) (fnOk_facts ok_heads_of) bind_heads_of (fun ds r h=>gOf_some h)
  rw [(mm7 (n:="heads_of") (by decide +kernel)).2] at h
  exact h
theorem ctr2 (hp:recsOf p = recsOf p7) (D:Wd prog w p loose mean mg mb) (hT:∃ h,Top p loose mean mg mb h):Ctr prog w p loose mean mg mb 2 Φ2:=by
  have h:=Ctr.add (g:=gOf Φ1 ss_merged 2 2) (ctr1 (w:=w) (prog:=prog) hp D hT) D hard hT (hp ▸ (mm7 (n:="merged") (by decide +kernel)).1) (fnOk_facts ok_merged) bind_merged (fun ds r h=>gOf_some h)
  rw [(mm7 (n:="merged") (by decide +kernel)).2] at h
  exact h
theorem ctr3 (hp:recsOf p = recsOf p7) (D:Wd prog w p loose mean mg mb) (hT:∃ h,Top p loose mean mg mb h):Ctr prog w p loose mean mg mb 3 Φ3:=by
  have h:=Ctr.add (g:=gOf Φ2 ss_heads_built_from 2 3) (ctr2 (w:=w) (prog:=prog) hp D hT) D hard hT (hp ▸ (mm7 (n:="heads_built_from") (by decide +kernel)).1) (fnOk_facts ok_heads_built_from) bind_heads_built_from (fun ds r h=>gOf_some h)
  rw [(mm7 (n:="heads_built_from") (by decide +kernel)).2] at h
  exact h
theorem ctr4 (hp:recsOf p = recsOf p7) (D:Wd prog w p loose mean mg mb) (hT:∃ h,Top p loose mean mg mb h):Ctr prog w p loose mean mg mb 4 Φ4:=by
  have h:=Ctr.add (g:=gOf Φ3 ss_nullable_heads 1 0) (ctr3 (w:=w) (prog:=prog) hp D hT) D hard hT (hp ▸ (mm7 (n:="nullable_heads") (by decide +kernel)).1) (fnOk_facts ok_nullable_heads) bind_nullable_heads (fun ds r h=>gOf_some h)
  rw [(mm7 (n:="nullable_heads") (by decide +kernel)).2] at h
  exact h
theorem ctr5 (hp:recsOf p = recsOf p7) (D:Wd prog w p loose mean mg mb) (hT:∃ h,Top p loose mean mg mb h):Ctr prog w p loose mean mg mb 5 Φ5:=by
  have h:=Ctr.add (g:=gOf Φ4 ss_first_of_string 3 2) (ctr4 (w:=w) (prog:=prog) hp D hT) D hard hT (hp ▸ (mm7 (n:="first_of_string") (by decide +kernel)).1) (fnOk_facts ok_first_of_string) bind_first_of_string (fun ds r h=>gOf_some h)
  rw [(mm7 (n:="first_of_string") (by decide +kernel)).2] at h
  exact h
theorem ctr6 (hp:recsOf p = recsOf p7) (D:Wd prog w p loose mean mg mb) (hT:∃ h,Top p loose mean mg mb h):Ctr prog w p loose mean mg mb 6 Φ6:=by
  have h:=Ctr.add (g:=gOf Φ5 ss_first_sets 1 6) (ctr5 (w:=w) (prog:=prog) hp D hT) D hard hT (hp ▸ (mm7 (n:="first_sets") (by decide +kernel)).1) (fnOk_facts ok_first_sets) bind_first_sets (fun ds r h=>gOf_some h)
  rw [(mm7 (n:="first_sets") (by decide +kernel)).2] at h
  exact h
theorem ctr7 (hp:recsOf p = recsOf p7) (D:Wd prog w p loose mean mg mb) (hT:∃ h,Top p loose mean mg mb h):Ctr prog w p loose mean mg mb 7 Φ7:=by
  have h:=Ctr.add (g:=gOf Φ6 ss_follow_sets 1 11) (ctr6 (w:=w) (prog:=prog) hp D hT) D hard hT (hp ▸ (mm7 (n:="follow_sets") (by decide +kernel)).1) (fnOk_facts ok_follow_sets) bind_follow_sets (fun ds r h=>gOf_some h)
  rw [(mm7 (n:="follow_sets") (by decide +kernel)).2] at h
  exact h
theorem ctr8 (hp:recsOf p = recsOf p7) (D:Wd prog w p loose mean mg mb) (hT:∃ h,Top p loose mean mg mb h):Ctr prog w p loose mean mg mb 8 Φ8:=by
  have h:=Ctr.add (g:=gOf Φ7 ss_predict_sets 1 7) (ctr7 (w:=w) (prog:=prog) hp D hT) D hard hT (hp ▸ (mm7 (n:="predict_sets") (by decide +kernel)).1) (fnOk_facts ok_predict_sets) bind_predict_sets (fun ds r h=>gOf_some h)
  rw [(mm7 (n:="predict_sets") (by decide +kernel)).2] at h
  exact h
theorem ctr9 (hp:recsOf p = recsOf p7) (D:Wd prog w p loose mean mg mb) (hT:∃ h,Top p loose mean mg mb h):Ctr prog w p loose mean mg mb 9 Φ9:=by
  have h:=Ctr.addT (ctr8 (w:=w) (prog:=prog) hp D hT) D hard hT (hp ▸ (mm7 (n:="ll1_table") (by decide +kernel)).1) (fnOk_facts ok_ll1) tt7 bind_ll1
  rw [(mm7 (n:="ll1_table") (by decide +kernel)).2] at h
  exact h
theorem ctr10 (hp:recsOf p = recsOf p7) (D:Wd prog w p loose mean mg mb) (hT:∃ h,Top p loose mean mg mb h):Ctr prog w p loose mean mg mb 10 Φ10:=by
  have h:=Ctr.add (g:=gOf Φ9 ss_law_letter 1 0) (ctr9 (w:=w) (prog:=prog) hp D hT) D hard hT (hp ▸ (mm7 (n:="_law_letter") (by decide +kernel)).1) (fnOk_facts ok_law_letter) bind_law_letter (fun ds r h=>gOf_some h)
  rw [(mm7 (n:="_law_letter") (by decide +kernel)).2] at h
  exact h
theorem ctr11 (hp:recsOf p = recsOf p7) (D:Wd prog w p loose mean mg mb) (hT:∃ h,Top p loose mean mg mb h):Ctr prog w p loose mean mg mb 11 Φ11:=by
  have h:=Ctr.add (g:=gOf Φ10 ss_law_rules 7 4) (ctr10 (w:=w) (prog:=prog) hp D hT) D hard hT (hp ▸ (mm7 (n:="_law_rules") (by decide +kernel)).1) (fnOk_facts ok_law_rules) bind_law_rules (fun ds r h=>gOf_some h)
  rw [(mm7 (n:="_law_rules") (by decide +kernel)).2] at h
  exact h
theorem ctr12 (hp:recsOf p = recsOf p7) (D:Wd prog w p loose mean mg mb) (hT:∃ h,Top p loose mean mg mb h):Ctr prog w p loose mean mg mb 12 Φ12:=by
  have h:=Ctr.add (g:=gOf Φ11 ss_law_word 7 3) (ctr11 (w:=w) (prog:=prog) hp D hT) D hard hT (hp ▸ (mm7 (n:="_law_word") (by decide +kernel)).1) (fnOk_facts ok_law_word) bind_law_word (fun ds r h=>gOf_some h)
  rw [(mm7 (n:="_law_word") (by decide +kernel)).2] at h
  exact h
theorem ctr13 (hp:recsOf p = recsOf p7) (D:Wd prog w p loose mean mg mb) (hT:∃ h,Top p loose mean mg mb h):Ctr prog w p loose mean mg mb 13 Φ13:=by
  have h:=Ctr.add (g:=gOf Φ12 ss_law_hurt 4 1) (ctr12 (w:=w) (prog:=prog) hp D hT) D hard hT (hp ▸ (mm7 (n:="_law_hurt") (by decide +kernel)).1) (fnOk_facts ok_law_hurt) bind_law_hurt (fun ds r h=>gOf_some h)
  rw [(mm7 (n:="_law_hurt") (by decide +kernel)).2] at h
  exact h
theorem ctr14 (hp:recsOf p = recsOf p7) (D:Wd prog w p loose mean mg mb) (hT:∃ h,Top p loose mean mg mb h):Ctr prog w p loose mean mg mb 14 Φ14:=by
  have h:=Ctr.add (g:=gOf Φ13 ss_law_table 1 6) (ctr13 (w:=w) (prog:=prog) hp D hT) D hard hT (hp ▸ (mm7 (n:="_law_table") (by decide +kernel)).1) (fnOk_facts ok_law_table) bind_law_table (fun ds r h=>gOf_some h)
  rw [(mm7 (n:="_law_table") (by decide +kernel)).2] at h
  exact h
theorem ctr15 (hp:recsOf p = recsOf p7) (D:Wd prog w p loose mean mg mb) (hT:∃ h,Top p loose mean mg mb h):Ctr prog w p loose mean mg mb 15 Φ15:=by
  have h:=Ctr.add (g:=gOf Φ14 ss_law_answer 4 7) (ctr14 (w:=w) (prog:=prog) hp D hT) D hard hT (hp ▸ (mm7 (n:="_law_answer") (by decide +kernel)).1) (fnOk_facts ok_law_answer) bind_law_answer (fun ds r h=>gOf_some h)
  rw [(mm7 (n:="_law_answer") (by decide +kernel)).2] at h
  exact h
end
end L7
end Mine
namespace Mine
open PySem PySem.SeqAt PySem.Calls PyProof.Rows PySem.W
namespace L7
theorem ns_slots {h h':Heap} {a:Addr} {m:Str → Option Value} (n:h.Ns a m) (u:h.UpToSlots h'):h'.Ns a m:=by
  refine cps fun Gq hGq=>?_
  obtain ⟨o,es,ep,ho,hd,r⟩:=n
  obtain ⟨sl,e⟩:=u a o ho (fun vs q=>by rw [hd] at q; cases q)
  refine hGq ?_
  clear hGq
  exact ⟨_,es,ep,e,hd,r⟩
noncomputable def OutOk (h:Heap) (outer:List Env):Prop:=∀ e ∈ outer,e.scope.kind ≠ .module ∧ ∃ L o,e.frame = some L ∧ h.get? L = some o ∧ ∀ vs,o.data ≠ .fields vs
theorem funFrames_of {h base:Heap}:∀ {l:List Env},OutOk h l → (∀ e ∈ l,∀ L,e.frame = some L → base.get? L = none) → h.FunFrames base l
  | [],_,_=>trivial
  | e :: l,ho,hb=>by
    refine cps fun Gq hGq=>?_
    obtain ⟨h1,L,o,h2,h3,h4⟩:=ho e (List.mem_cons_self ..)
    refine hGq ?_
    clear hGq
    exact ⟨h1,⟨L,o,h2,hb e (List.mem_cons_self ..) L h2,h3,h4⟩,funFrames_of (fun x hx=>ho x (List.mem_cons_of_mem _ hx)) fun x hx=>hb x (List.mem_cons_of_mem _ hx)⟩
section
variable {prog:Program} {w:World} {p:Program} {loose:List Str} {mean:ExcName → Option Value} {mg mb:Str → Option Value} {lvl:Nat} {A:Around} {env:Env} {ce:CE} {Q0:Addr → Prop} {s0 s:Shared} {ad:Nat → Addr} {σ:Sig} {E:Value → Shared → Prop} {Φ:FTab}
structure Wk (prog:Program) (w:World) (p:Program) (loose:List Str) (mean:ExcName → Option Value) (mg mb:Str → Option Value) (base0:Heap) (C:Addr):Prop where
  hp:recsOf p = recsOf p7
  D:Wd prog w p loose mean mg mb
  top:Top p loose mean mg mb base0
  own:OwnClsQ "ParseError" C bmE "Exception.__new__" mg base0
  K:ExcC base0 C bmE "Exception.__new__"
set_option maxHeartbeats 1000000 in
theorem run_stmt {base0:Heap} {C:Addr} {outer:List Env} {x:Nat} {q1 q2 q3 q4:Pos} {a1 a2:Expr} {e1 e2:SExpr} {r1 r2:RV} {out:Out} {n:Nat} {Q:Flow → Shared → Prop} (W:Wk prog w p loose mean mg mb base0 C) (T:Ctr prog w p loose mean mg mb lvl Φ) (hlvl:11 ≤ lvl)
    (F:Fx prog w p loose mean mg mb lvl A env ce Q0 s0) (S:Sx prog w env ce Q0 s0 (fun zz=>False) ad σ s)
    (hcells:env.cells = []) (hfrm:env.frame = some env.locals) (hA:A.frames = some (env :: outer)) (ho:OutOk s0.heap outer) (hσ:∀ (i:Nat) r,σ[i]? = some (some r) → r.c = true ∧ (r.f = true ∨ outer = []))
    (hb0:base0.StaysIn s0.heap) (hbo:∀ e ∈ outer,∀ L,e.frame = some L → base0.get? L = none)
    (cas:chks [e1,e2] ce [a1,a2] = true) (hev:aevals Φ [e1,e2] σ = some [r1,r2]) (hex:aexecs Φ9 n ss_parse_ll1 (initσ 8 [r1.d,r2.d]) = some out) (hout:(∃ q,out = .ret q ∧ q.f = true) ∨ ∃ m,out = .exc m)
    (tg:tgt ce "got" x = true) (kg:isGlob (ce.kind "_law_run") = true)
    (h:∀ s0' s',Fx prog w p loose mean mg mb lvl A env ce (fun zz=>True) s0' → Sx prog w env ce (fun zz=>True) s0' (fun zz=>False) (fun zz=>0) ((σ.map dropF).set x (some ⟨resOf out,true,true⟩)) s' → base0.StaysIn s0'.heap → (∀ e ∈ outer,∀ L,e.frame = some L → s0'.heap.get? L = none) → (∃ hh tk dr,s0' = { s with heap:=hh,toks:=tk,drawn:=dr }) → Q .next s') :
    wpAny (model prog w) A (exec (.Assign [.Name "got" q1] (.Call (.Name "_law_run" q2) [a1,a2] [] q3) q4) env) Q E s:=by
  have hrun:rec7 "_law_run" ∈ recsOf p:=W.hp ▸ (mm7 (n:="_law_run") (by decide +kernel)).1
  have hpar:rec7 "parse_ll1" ∈ recsOf p:=W.hp ▸ (mm7 (n:="parse_ll1") (by decide +kernel)).1
  have hrn:=(mm7 (n:="_law_run") (by decide +kernel)).2
  have hpn:=(mm7 (n:="parse_ll1") (by decide +kernel)).2
  have Tp:=(S.cx F).top
  refine cps fun Gq hGq=>?_
  obtain ⟨af,of,pm,code,doc,hmg,hof,hdat,zz⟩:=Tp.fn _ hrun
  refine hGq ?_
  clear hGq
  rw [hrn] at hmg
  refine cps fun Gq hGq=>?_
  obtain ⟨hix,hlc,zz,zz,huq⟩:=tgt_of tg
  refine hGq ?_
  clear hGq
  refine wpAny_Assign_Name (Call_Name rfl (ld_fn (S.cx F) kg hmg (by decide) ?_)) rfl
  obtain ⟨hst,hevw⟩:=evs W.D hard T [e1,e2] ce [a1,a2] A env _ _ s [r1,r2] E cas (S.cx F) hev
  rw [starEach_ns hst,backTo_ns]
  refine callWith_function (o:=of) (fd:=docDef (rec7 "_law_run").name (rec7 "_law_run").params (rec7 "_law_run").body (rec7 "_law_run").scope pm code doc) (evalArgs_plain (wm hevw (fun vs s₁ h₁=>⟨⟨?_,hdat⟩,?_⟩)))
  · exact kheap h₁.1 _ _ hof
  obtain ⟨k1,rl⟩:=h₁
  rw [List.nil_append]
  have S1:=S.keeps k1
  have rs0:=rl.toRS (S.cx F).pd.mono
  have rs:RS prog w s₁.heap (fun b=>Pf Q0 s0.heap (Ow env (fun zz=>False) σ ad) false false b) vs [r1.d,r2.d]:=rs0.mono fun a ha=>Pf.mono (fun q=>by cases q) (fun q=>by cases q) ha
  let fs:List Addr:=(env :: outer).filterMap (·.frame)
  have hfs:∀ e ∈ env :: outer,∀ L,e.frame = some L → L ∈ fs:=fun e he L hL=>List.mem_filterMap.mpr ⟨e,he,hL⟩
  have fsof:∀ b ∈ fs,b = env.locals ∨ ∃ e ∈ outer,e.frame = some b:=fun b hb=>by
    obtain ⟨e,he,hL⟩:=List.mem_filterMap.mp hb
    rcases List.mem_cons.mp he with rfl | he
    · rw [hfrm] at hL; cases hL; exact .inl rfl
    · exact .inr ⟨e,he,hL⟩
  have hOw:Ow env (fun zz=>False) σ ad env.locals:=.inr (.inl rfl)
  have hL0:s0.heap.get? env.locals = none:=S.ob _ hOw
  have Bs:(hideAll s₁.heap fs).StaysIn s₁.heap:=fun b o e=>of_hideAll _ e
  have outLive:∀ e ∈ outer,∀ L,e.frame = some L → ∃ o,s0.heap.get? L = some o:=fun e he L hL=>by
    refine cps fun Gq hGq=>?_
    obtain ⟨zz,L',o,h2,h3,zz⟩:=ho e he
    refine hGq ?_
    clear hGq
    rw [hL] at h2; cases h2
    exact ⟨o,h3⟩
  have b0in:base0.StaysIn (hideAll s₁.heap fs):=fun b o e=>hideAll_get _ (kheap S1.k0 _ _ (hb0 b o e)) fun hm=>by
    rcases fsof b hm with rfl | ⟨e',he',hL'⟩
    · rw [hb0 _ _ e] at hL0; cases hL0
    · rw [hbo e' he' b hL'] at e; cases e
  have Tb:Top p loose mean mg mb (hideAll s₁.heap fs):=W.top.keeps b0in
  have Bf:s₁.heap.FunFrames (hideAll s₁.heap fs) (env :: outer):=by
    refine funFrames_of ?_ fun e he L hL=>hideAll_none _ (hfs e he L hL)
    intro e he
    rcases List.mem_cons.mp he with rfl | he
    · obtain ⟨m,o,es,ep,h1,h2,zz⟩:=S1.ns
      exact ⟨by rw [F.fn]; decide,e.locals,o,hfrm,h1,fun vs q=>by rw [h2] at q; cases q⟩
    · obtain ⟨h1,L,o,h2,h3,h4⟩:=ho e he
      exact ⟨h1,L,o,h2,kheap S1.k0 _ _ h3,h4⟩
  have RC:=run_call (A:=A) (s:=s₁) (base:=hideAll s₁.heap fs) (outer:=env :: outer) (C:=C) (a:=af) (E:=E) (out:=out) (n:=n) (vs:=vs) (Q:=fun b=>Pf Q0 s0.heap (Ow env (fun zz=>False) σ ad) false false b) (ctr9 (prog:=prog) (w:=w) W.hp W.D ⟨_,W.top⟩) W.D hard hrun (fnOk_facts ok_run) rt7 bind_run hpar hpn (fnOk_facts ok_parse_ll1) rfl bind_parse_ll1 (by decide +kernel) hex hout (by rw [hrn]; exact hmg)
    F.hh (by have:=F.hd; lia) (by have:=F.hu; lia) (Tp.keeps (kheap k1)) (fun b hb=>(S1.cx F).pd.fresh _ _ b hb) rs hA Bs Bf Tb (W.own.keeps b0in) (W.K.keeps b0in)
  refine wm RC (fun v s₂ h₂=>?_)
  obtain ⟨⟨hh2,tk2,dr2,rfl⟩,st2,us2,r2v⟩:=h₂
  let s0':Shared:={ s₁ with heap:=hideAll s₁.heap fs }
  have F':Fx prog w p loose mean mg mb lvl A env ce (fun zz=>True) s0':=⟨F.hh,F.hd,F.hu,F.fn,F.gl,F.bl,F.ki,F.cells,fun zz zz=>trivial,F.cinj,F.cne,Tb⟩
  have ow':∀ b,Ow env (fun zz=>False) (σ.map dropF) (fun zz=>0) b → b = env.locals:=by
    intro b hb
    rcases hb with h | h | ⟨y,h⟩ | ⟨i,r,h1,h2,zz⟩
    · exact h.elim
    · exact h
    · rw [hcells] at h; cases h
    · rw [List.getElem?_map,Option.map_eq_some_iff] at h1
      obtain ⟨q,hq,e⟩:=h1
      cases q with
      | none=>cases e
      | some q =>
        delta dropF at e
        rw [Option.map_some,Option.some.injEq] at e
        have:=(hσ i q hq).1
        subst e
        split at h2 <;> exact absurd (this.symm.trans h2) (by simp)
  have S':Sx prog w env ce (fun zz=>True) s0' (fun zz=>False) (fun zz=>0) (σ.map dropF) { s₁ with heap:=hh2,toks:=tk2,drawn:=dr2 }:=by
    refine ⟨by rw [List.length_map]; exact S.len,⟨hh2,tk2,dr2,rfl,st2⟩,fun b hb=>by rw [ow' b hb]; exact hideAll_none _ (hfs env (List.mem_cons_self ..) _ hfrm),fun b hb=>?_,?_,fun y c hc=>(by rw [hcells] at hc; cases hc),?_,?_,?_,fun b hb=>hb.elim⟩
    · rw [ow' b hb]
      refine cps fun Gq hGq=>?_
      obtain ⟨m,o,es,ep,h1,h2,zz⟩:=S1.ns
      obtain ⟨sl,e⟩:=us2 _ _ h1 (fun vs q=>by rw [h2] at q; cases q)
      refine hGq ?_
      clear hGq
      exact ⟨_,e⟩
    · obtain ⟨m,hm⟩:=S1.ns
      exact ⟨m,ns_slots hm us2⟩
    · intro y i r h1 h2 h3
      rw [List.getElem?_map,Option.map_eq_some_iff] at h3
      obtain ⟨q,hq,e⟩:=h3
      cases q with
      | none=>cases e
      | some q =>
        refine cps fun Gq hGq=>?_
        obtain ⟨u,l,c1,c2⟩:=S1.rd y i q h1 h2 hq
        refine hGq ?_
        clear hGq
        have hqc:=(hσ i q hq).1
        have hrd:r.d = q.d ∧ r.c = true ∧ (r.f = true → q.d.atom = true):=by
          delta dropF at e
          rw [Option.map_some,Option.some.injEq] at e
          subst e
          split
          · rename_i ha; exact ⟨rfl,hqc,fun zz=>ha⟩
          · exact ⟨rfl,hqc,fun hf=>by cases hf⟩
        have lu:Loads env hh2 y u:=by
          rcases l with ⟨kk,m,nn,em⟩ | ⟨kk,c,hc,zz⟩
          · exact .inl ⟨kk,m,ns_slots nn us2,em⟩
          · rw [hcells] at hc; cases hc
        refine ⟨u,lu,fun zz=>?_,fun hc=>by rw [hrd.2.1] at hc; cases hc⟩
        have ru:R prog w hh2 (Pf (fun zz=>True) (hideAll s₁.heap fs) (Ow env (fun zz=>False) (σ.map dropF) (fun zz=>0)) false true) u q.d:=by
          refine (c1 hqc).frame fun a o hpa zz e=>?_
          have hnl:a ≠ env.locals:=fun q=>hpa.2.2 rfl (q ▸ hOw)
          have hna:a ∉ fs:=fun hm=>by
            rcases fsof a hm with q | ⟨e',he',hL'⟩
            · exact hnl q
            · rcases (hσ i q hq).2 with hf | hf
              · obtain ⟨o',ho'⟩:=outLive e' he' a hL'
                rw [hpa.2.1 hf] at ho'; cases ho'
              · rw [hf] at he'; cases he'
          exact ⟨st2 a o (hideAll_get _ e hna),trivial,(fun hf=>by cases hf),fun zz hw=>hnl (ow' a hw)⟩
        rw [hrd.1]
        cases hf:r.f with
        | true=>exact ru.atom (hrd.2.2 hf)
        | false=>exact ru
    · intro i j r r' h1 h2
      rw [List.getElem?_map,Option.map_eq_some_iff] at h1
      obtain ⟨q,hq,e⟩:=h1
      cases q with
      | none=>cases e
      | some q =>
        delta dropF at e
        rw [Option.map_some,Option.some.injEq] at e
        have:=(hσ i q hq).1
        subst e
        split at h2 <;> exact absurd (this.symm.trans h2) (by simp)
    · intro i r h1 h2
      rw [List.getElem?_map,Option.map_eq_some_iff] at h1
      obtain ⟨q,hq,e⟩:=h1
      cases q with
      | none=>cases e
      | some q =>
        delta dropF at e
        rw [Option.map_some,Option.some.injEq] at e
        have:=(hσ i q hq).1
        subst e
        split at h2 <;> exact absurd (this.symm.trans h2) (by simp)
  have rv:R prog w hh2 (Pf (fun zz=>True) s0'.heap (Ow env (fun zz=>False) (σ.map dropF) (fun zz=>0)) true true) v (resOf out):=by
    refine r2v.frame fun a o hpa hda e=>⟨e,trivial,fun zz=>hpa.1,fun zz hw=>?_⟩
    have hal:=ow' a hw
    refine cps fun Gq hGq=>?_
    obtain ⟨m,o',es,ep,h1,h2,zz⟩:=S1.ns
    obtain ⟨vs',hv⟩:=hpa.2 o' (hal ▸ h1)
    refine hGq ?_
    clear hGq
    rw [h2] at hv
    cases hv
  refine store_ok (r:=⟨resOf out,true,true⟩) F' S' (krefl _) hix huq hlc (fun zz zz=>rfl) (fun zz=>rv) (fun h=>by cases h) fun s₃ S3 x3=>?_
  refine h s0' s₃ F' S3 b0in (fun e he L hL=>hideAll_none _ (hfs e (List.mem_cons_of_mem _ he) L hL)) ?_
  · obtain ⟨h4,t4,d4,e4,zz⟩:=k1
    exact ⟨_,t4,d4,by rw [show s0' = { s₁ with heap:=hideAll s₁.heap fs } from rfl,e4]⟩
end
end L7
end Mine
namespace Mine
open PySem PySem.SeqAt PySem.Calls PyProof.Rows PySem.W
namespace L7
mutual
noncomputable def pl:PV → Bool
  | .list xs=>pls xs
  | .tup xs=>pls xs
  | .dict _ _=>false
  | .rng _ _ _=>false
  | _=>true
noncomputable def pls:List PV → Bool
  | []=>true
  | x :: xs=>pl x && pls xs
end
theorem aeq_pl (d:PV):pl d = true → aeq d d = some true :=
  PV.rec (motive_1:=fun d=>pl d = true → aeq d d = some true) (motive_2:=fun ds=>pls ds = true → aeqs ds ds = some true)
    (fun zz=>rfl) (fun b zz=>congrArg some (beq_self_eq_true b)) (fun b zz=>congrArg some (beq_self_eq_true b)) (fun b zz=>congrArg some (beq_self_eq_true b))
    (fun ds ih=>ih) (fun ds ih=>ih) (fun zz zz zz h=>nomatch h) (fun zz zz zz h=>nomatch h) (fun zz=>rfl)
    (fun x xs i1 i2 h=>bind_to (i1 (and2 h).1) (bind_to (i2 (and2 h).2) rfl)) d
theorem ne_pl {d:PV} (h:pl d = true) (hd:d.depth ≤ 20):acmp .NotEq d d = some false:=by
  have:acmp .NotEq d d = if d.depth + d.depth ≤ 40 then ane d d else Option.none:=rfl
  rw [this,if_pos (by lia)]
  delta ane
  rw [aeq_pl d h]; rfl
theorem pls_map {α:Type} (f:α → PV) (h:∀ a,pl (f a) = true) (l:List α):pls (l.map f) = true:=by
  induction l with
  | nil=>rfl
  | cons a l ih=>exact (congrArg (· && pls (l.map f)) (h a)).trans ih
theorem depths_map {α:Type} (f:α → PV) {n:Nat} (h:∀ a,(f a).depth ≤ n) (l:List α):PV.depths (l.map f) ≤ n:=by
  induction l with
  | nil=>exact Nat.zero_le _
  | cons a l ih=>rw [List.map_cons,dpC]; have:=h a; lia
theorem pl_encI (l:List Nat):pl (encI l) = true:=pls_map _ (fun zz=>rfl) l
theorem depth_encI (l:List Nat):(encI l).depth ≤ 1:=by
  delta encI; rw [dpL]
  have:=depths_map (fun k:Nat=>PV.int k) (n:=0) (fun zz=>Nat.le_refl _) l
  lia
theorem pl_encS (l:List Str):pl (encS l) = true:=pls_map _ (fun zz=>rfl) l
theorem pl_encG (g:List Rule):pl (encG g) = true:=by
  exact pls_map encR (fun r=>congrArg (fun z=>true && (z && true)) (pl_encS r.2)) g
theorem depth_encG (g:List Rule):(encG g).depth ≤ 3:=by
  delta encG; rw [dpL]
  have:=depths_map encR (n:=2) (fun r=>by delta encR; rw [dpT,dpC,dpC,depth_encS]; show max 0 (max 1 0) + 1 ≤ 2; decide) g
  lia
section
variable {Φ:FTab} {σ:Sig}
theorem newl_ints (f c:Bool) (xs:List Nat) (h:xs.length ≤ lim):newl f c (xs.map fun k:Nat=>PV.int k) = some ⟨encI xs,true,true⟩:=by
  delta newl
  rw [if_pos (by simpa using h),if_pos (atoms_of _ (fun zz=>rfl) _)]; rfl
theorem addI {a b:List Nat} {f c f' c':Bool} (h:a.length + b.length ≤ lim):abin .Add ⟨encI a,f,c⟩ ⟨encI b,f',c'⟩ = some ⟨encI (a ++ b),true,true⟩:=by
  show newl (f && f') (c && c') ((a.map fun k:Nat=>PV.int k) ++ (b.map fun k:Nat=>PV.int k)) = _
  rw [← List.map_append]
  exact newl_ints _ _ _ (by rw [List.length_append]; exact h)
theorem flat_map {α β:Type} (f:α → β) (n:Nat) (l:List α):(List.replicate n (l.map f)).flatten = (List.replicate n l).flatten.map f:=by
  induction n with
  | zero=>rfl
  | succ n ih=>rw [List.replicate_succ,List.replicate_succ,List.flatten_cons,List.flatten_cons,List.map_append,ih]
theorem flat_len {α:Type} (n:Nat) (l:List α):(List.replicate n l).flatten.length = n * l.length:=by
  induction n with
  | zero=>simp
  | succ n ih=>rw [List.replicate_succ,List.flatten_cons,List.length_append,ih,Nat.add_mul]; lia
theorem mulI {a:List Nat} {n:Nat} {f c f' c':Bool} (h:a.length * n ≤ lim) (hn:n ≤ lim):abin .Mult ⟨encI a,f,c⟩ ⟨.int n,f',c'⟩ = some ⟨encI (List.replicate n a).flatten,true,true⟩:=by
  show (if (a.map fun k:Nat=>PV.int k).length * (n:Int).toNat ≤ lim ∧ (n:Int).natAbs ≤ lim then newl f c (List.replicate (n:Int).toNat (a.map fun k:Nat=>PV.int k)).flatten else Option.none) = _
  rw [Int.toNat_natCast,List.length_map,if_pos ⟨h,by lia⟩,flat_map]
  exact newl_ints _ _ _ (by rw [flat_len,Nat.mul_comm]; exact h)
theorem flat_one {α:Type} (n:Nat) (x:α):(List.replicate n [x]).flatten = List.replicate n x:=by
  induction n with
  | zero=>rfl
  | succ n ih=>rw [List.replicate_succ,List.flatten_cons,ih,List.replicate_succ]; rfl
theorem mulS {x:Str} {n:Nat} {f c f' c':Bool} (hn:n ≤ lim):abin .Mult ⟨encS [x],f,c⟩ ⟨.int n,f',c'⟩ = some ⟨encS (List.replicate n x),true,true⟩:=by
  show (if ([x].map PV.str).length * (n:Int).toNat ≤ lim ∧ (n:Int).natAbs ≤ lim then newl f c (List.replicate (n:Int).toNat ([x].map PV.str)).flatten else Option.none) = _
  rw [Int.toNat_natCast,List.length_map,if_pos ⟨by simpa using hn,by lia⟩,flat_map,flat_one]
  exact newl_str _ _ _ (by simpa using hn)
theorem newlR_G (g:List Rule) (h:g.length ≤ lim):newlR (g.map fun r=>⟨encR r,true,true⟩) = some ⟨encG g,true,true⟩:=by
  delta newlR
  have e1:(g.map fun r=>(⟨encR r,true,true⟩:RV)).map (·.d) = g.map encR:=by rw [List.map_map]; rfl
  have e2:(g.map fun r=>(⟨encR r,true,true⟩:RV)).all (·.f) = true:=by simp
  have e3:(g.map fun r=>(⟨encR r,true,true⟩:RV)).all (·.c) = true:=by simp
  rw [e1,e2,e3]
  delta newl
  rw [if_pos (by simpa using h)]
  split <;> rfl
theorem ev_tallG {pad:Nat} (hp:pad < 3) (h0:aeval Φ (.var 0) σ = some (at1 (.int pad))):aeval Φ (.list [.tup [.str "S",.bin .Add (.bin .Mult (.list [.str "A"]) (.int 7)) (.bin .Mult (.list [.str "C"]) (.var 0))],.tup [.str "A",.bin .Mult (.list [.str "B"]) (.int 7)],.tup [.str "B",.bin .Mult (.list [.str "C"]) (.int 9)],.tup [.str "C",.list []]]) σ = some ⟨encG (tallG pad),true,true⟩:=by
  have one:∀ x:Str,aeval Φ (.list [.str x]) σ = some ⟨encS [x],true,true⟩:=fun x=>ev_list (evs_cons ev_str evs_nil) (newlR_one x)
  refine ev_list (rs:=(tallG pad).map fun r=>⟨encR r,true,true⟩) ?_ (newlR_G _ (show 4 ≤ lim by decide))
  refine evs_cons (ev_tup (rs:=[at1 (.str "S"),⟨encS (List.replicate 7 cA ++ List.replicate pad cC),true,true⟩]) (evs_cons ev_str (evs_cons (ev_bin (ev_bin (one _) ev_int (mulS (n:=7) (by decide))) (ev_bin (one _) h0 (mulS (by delta lim; lia))) (addS_enc (by simp [lim]; lia))) evs_nil)) (show 2 ≤ lim by decide)) ?_
  refine evs_cons (ev_tup (rs:=[at1 (.str "A"),⟨encS (List.replicate 7 cB),true,true⟩]) (evs_cons ev_str (evs_cons (ev_bin (one _) ev_int (mulS (n:=7) (by decide))) evs_nil)) (show 2 ≤ lim by decide)) ?_
  refine evs_cons (ev_tup (rs:=[at1 (.str "B"),⟨encS (List.replicate 9 cC),true,true⟩]) (evs_cons ev_str (evs_cons (ev_bin (one _) ev_int (mulS (n:=9) (by decide))) evs_nil)) (show 2 ≤ lim by decide)) ?_
  exact evs_cons (ev_tup (rs:=[at1 (.str "C"),⟨encS [],true,true⟩]) (evs_cons ev_str (evs_cons (ev_list evs_nil rfl) evs_nil)) (show 2 ≤ lim by decide)) evs_nil
theorem ev_tallD {pad:Nat} (hp:pad < 3) (h0:aeval Φ (.var 0) σ = some (at1 (.int pad))):aeval Φ (.tup [.bin .Add (.bin .Add (.list [.int 0]) (.bin .Mult (.bin .Add (.list [.int 1]) (.bin .Mult (.bin .Add (.list [.int 2]) (.bin .Mult (.list [.int 3]) (.int 9))) (.int 7))) (.int 7))) (.bin .Mult (.list [.int 3]) (.var 0)),.str ""]) σ = some ⟨.tup [encI (tallSteps pad),.str ""],true,true⟩:=by
  have one:∀ x:Nat,aeval Φ (.list [.int (x:Int)]) σ = some ⟨encI [x],true,true⟩:=fun x=>ev_list (evs_cons ev_int evs_nil) (newl_ints _ _ [x] (show 1 ≤ lim by decide))
  have b1:aeval Φ (.bin .Mult (.list [.int 3]) (.int 9)) σ = some ⟨encI (List.replicate 9 3),true,true⟩:=by
    have:=ev_bin (one 3) (ev_int (k:=9)) (mulI (a:=[3]) (n:=9) (f:=true) (c:=true) (f':=true) (c':=true) (by decide) (by decide))
    rw [flat_one] at this
    exact this
  have b2:aeval Φ (.bin .Add (.list [.int 2]) (.bin .Mult (.list [.int 3]) (.int 9))) σ = some ⟨encI stB,true,true⟩:=ev_bin (one 2) b1 (addI (a:=[2]) (b:=List.replicate 9 3) (by decide))
  have b3:aeval Φ (.bin .Mult (.bin .Add (.list [.int 2]) (.bin .Mult (.list [.int 3]) (.int 9))) (.int 7)) σ = some ⟨encI (List.replicate 7 stB).flatten,true,true⟩:=ev_bin b2 ev_int (mulI (n:=7) (by decide) (by decide))
  have b4:aeval Φ (.bin .Add (.list [.int 1]) (.bin .Mult (.bin .Add (.list [.int 2]) (.bin .Mult (.list [.int 3]) (.int 9))) (.int 7))) σ = some ⟨encI stA,true,true⟩:=ev_bin (one 1) b3 (addI (a:=[1]) (by decide))
  have b5:aeval Φ (.bin .Mult (.bin .Add (.list [.int 1]) (.bin .Mult (.bin .Add (.list [.int 2]) (.bin .Mult (.list [.int 3]) (.int 9))) (.int 7))) (.int 7)) σ = some ⟨encI (List.replicate 7 stA).flatten,true,true⟩:=ev_bin b4 ev_int (mulI (n:=7) (by decide) (by decide))
  have hl:((List.replicate 7 stA).flatten).length = 497:=by decide
  have b6:aeval Φ (.bin .Add (.list [.int 0]) (.bin .Mult (.bin .Add (.list [.int 1]) (.bin .Mult (.bin .Add (.list [.int 2]) (.bin .Mult (.list [.int 3]) (.int 9))) (.int 7))) (.int 7))) σ = some ⟨encI ([0] ++ (List.replicate 7 stA).flatten),true,true⟩:=ev_bin (one 0) b5 (addI (a:=[0]) (by rw [hl]; decide))
  have b7:aeval Φ (.bin .Mult (.list [.int 3]) (.var 0)) σ = some ⟨encI (List.replicate pad 3),true,true⟩:=by
    have:=ev_bin (one 3) h0 (mulI (a:=[3]) (n:=pad) (f:=true) (c:=true) (f':=true) (c':=true) (by simp [lim]; lia) (by delta lim; lia))
    rw [flat_one] at this
    exact this
  exact ev_tup (rs:=[⟨encI (tallSteps pad),true,true⟩,at1 (.str "")]) (evs_cons (ev_bin b6 b7 (addI (by rw [List.length_append,hl,List.length_replicate]; delta lim; simp; lia))) (evs_cons ev_str evs_nil)) (show 2 ≤ lim by decide)
end
end L7
end Mine
namespace Mine
open PySem PySem.SeqAt PySem.Calls PyProof.Rows PySem.W
namespace L7
noncomputable def tallCe (d:DefRec):CE:=ceOf ((["pad"]:List Str) ++ (["g","due","got"]:List Str)) d.scope
set_option genInjectivity false in
set_option genSizeOf false in
structure TallText (d:DefRec) where
  (st1 st2 st3:Stmt)
  (a1 a2:Expr)
  (q1 q2 q3 q4:Pos)
  post:List Stmt
  body:d.body = st1 :: st2 :: st3 :: .Assign [.Name "got" q1] (.Call (.Name "_law_run" q2) [a1,a2] [] q3) q4 :: post
  c1:chkS (.set 1 (.list [.tup [.str "S",.bin .Add (.bin .Mult (.list [.str "A"]) (.int 7)) (.bin .Mult (.list [.str "C"]) (.var 0))],.tup [.str "A",.bin .Mult (.list [.str "B"]) (.int 7)],.tup [.str "B",.bin .Mult (.list [.str "C"]) (.int 9)],.tup [.str "C",.list []]])) (tallCe d) st1 = true
  c2:chkS (.set 2 (.tup [.bin .Add (.bin .Add (.list [.int 0]) (.bin .Mult (.bin .Add (.list [.int 1]) (.bin .Mult (.bin .Add (.list [.int 2]) (.bin .Mult (.list [.int 3]) (.int 9))) (.int 7))) (.int 7))) (.bin .Mult (.list [.int 3]) (.var 0)),.str ""])) (tallCe d) st2 = true
  c3:chkS (.ife (.cmp .Eq (.var 0) (.int 2)) [.set 2 (.tup [.none,.str "the fuel is spent"])] []) (tallCe d) st3 = true
  cas:chks [.var 1,.list []] (tallCe d) [a1,a2] = true
  cpost:chkSs [.ife (.cmp .NotEq (.var 3) (.var 2)) [.ret (.bool false)] [],.ret (.bool true)] (tallCe d) post = true
  tg:tgt (tallCe d) "got" 3 = true
  kg:isGlob ((tallCe d).kind "_law_run") = true
  nocell:∀ y ∈ d.scope.names,y.2 ≠ .cell
noncomputable def tlt7:TallText (rec7 "_law_tall") where
  st1:=_
  st2:=_
  st3:=_
  a1:=_
  a2:=_
  q1:=_
  q2:=_
  q3:=_
  q4:=_
  post:=_
  body:=rfl
  c1:=by decide +kernel
  c2:=by decide +kernel
  c3:=by decide +kernel
  cas:=by decide +kernel
  cpost:=by decide +kernel
  tg:=by decide +kernel
  kg:=by decide +kernel
  nocell:=by decide +kernel
theorem ok_tall:fnOk { (rec7 "_law_tall") with body:=[] } ["pad"] ["g","due","got"] [] = true:=by decide +kernel
section
variable {prog:Program} {w:World} {p:Program} {loose:List Str} {mean:ExcName → Option Value} {mg mb:Str → Option Value} {A:Around} {s:Shared} {E:Value → Shared → Prop}
noncomputable def tallOut (pad:Nat):Out:=if pad = 2 then .exc "the fuel is spent" else .ret ⟨encI (tallSteps pad),true,false⟩
noncomputable def tallDue (pad:Nat):PV:=if pad = 2 then .tup [.none,.str "the fuel is spent"] else .tup [encI (tallSteps pad),.str ""]
theorem empty_str:Str.empty = Str.ofString "":=by decide +kernel
theorem tall_res (pad:Nat):resOf (tallOut pad) = tallDue pad:=by
  delta tallOut tallDue
  split
  · rfl
  · show PV.tup [encI (tallSteps pad),.str Str.empty] = _
    rw [empty_str]
theorem tall_pl (pad:Nat):pl (tallDue pad) = true ∧ (tallDue pad).depth ≤ 20:=by
  delta tallDue
  split
  · exact ⟨rfl,by decide⟩
  · refine ⟨congrArg (fun z=>z && (true && true)) (pl_encI _),?_⟩
    rw [dpT,dpC,dpC]
    have:=depth_encI (tallSteps pad)
    show max (encI (tallSteps pad)).depth (max 0 0) + 1 ≤ 20
    lia
set_option maxHeartbeats 1000000 in
theorem tall_call {base0:Heap} {C a:Addr} {outer:List Env} {vs:List Value} {Q:Addr → Prop} {pad:Nat} (W:Wk prog w p loose mean mg mb base0 C) (hp:pad < 3) (ha:mg "_law_tall" = some (.ref a))
    (hh:A.handled = none) (hd':A.depth + 16 < recursionLimit) (hu:A.units + 16 * 16 + 64 < cLine) (hTs:Top p loose mean mg mb s.heap) (hQ:∀ b,s.heap.get? b = none → Q b) (hr:RS prog w s.heap Q vs [.int pad])
    (hA:A.frames = some outer) (ho:OutOk s.heap outer) (hb0:base0.StaysIn s.heap) (hbo:∀ e ∈ outer,∀ L,e.frame = some L → base0.get? L = none) :
    wpAny (model prog w) A (call (.ref a) vs) (fun v s'=>v = .bool true ∧ base0.StaysIn s'.heap ∧ ∃ h tk dr,s' = { s with heap:=h,toks:=tk,drawn:=dr }) E s:=by
  have hmem:rec7 "_law_tall" ∈ recsOf p:=W.hp ▸ (mm7 (n:="_law_tall") (by decide +kernel)).1
  have hnm:=(mm7 (n:="_law_tall") (by decide +kernel)).2
  have FF:=fnOk_facts ok_tall
  refine cps fun Gq hGq=>?_
  obtain ⟨a',o,pm,code,doc,h1,hof,hdat,hcd⟩:=hTs.fn _ hmem
  refine hGq ?_
  clear hGq
  rw [hnm,ha] at h1
  cases h1
  have hl:(["pad"]:List Str).length = vs.length:=by rw [hr.length]; rfl
  have TT:=tlt7
  generalize hdd:rec7 "_law_tall" = d at *
  have hbind:=bind_tall
  rw [hdd] at hbind
  refine wpAny_call (call_cells (by lia) hof hdat hTs.nolimit hcd (hbind pm code doc vs hl.symm) ?_ (fun h₁ tk Fr1 Cl1=>?_) FF.co FF.gen FF.kind)
  · intro x hx
    have hx1:x.1 ∈ (["pad"]:List Str):=by
      have:=List.mem_map_of_mem (f:=(·.1)) hx
      rwa [zip_keys hl] at this
    have hk:isLC (d.scope.names.lookup x.1) = true:=FF.ps x.1 hx1
    cases hkk:d.scope.names.lookup x.1 with
    | none=>rw [hkk] at hk; cases hk
    | some k =>
      rw [hkk] at hk
      cases k with
      | «local»=>exact .inl rfl
      | cell=>exact .inr ⟨rfl,cellsFrom_some _ _ _ (.inl (mem_lookup_kind hkk))⟩
      | _=>cases hk
  · obtain ⟨Fx1,Sx1⟩:=frame_start (lvl:=15) (tk:=tk) FF hh hd' hu hTs hQ hr hl Fr1 Cl1
    have F1:Fx prog w p loose mean mg mb 15 (A.deeper (envOfC d.name d.scope s.heap.objs.size a code)) (envOfC d.name d.scope s.heap.objs.size a code) (tallCe d) Q s:=Fx1
    have S1:Sx prog w (envOfC d.name d.scope s.heap.objs.size a code) (tallCe d) Q s (fun zz=>False) (fun zz=>0) [some (at1 (.int pad)),Option.none,Option.none,Option.none] { s with heap:=h₁,toks:=tk }:=Sx1
    clear Fx1 Sx1
    have hcells:(envOfC d.name d.scope s.heap.objs.size a code).cells = []:=cellsFrom_none TT.nocell _ _
    have hfrm:(envOfC d.name d.scope s.heap.objs.size a code).frame = some (envOfC d.name d.scope s.heap.objs.size a code).locals:=rfl
    have hA':(A.deeper (envOfC d.name d.scope s.heap.objs.size a code)).frames = some (envOfC d.name d.scope s.heap.objs.size a code :: outer):=Around.frames_deeper hA
    generalize henv:envOfC d.name d.scope s.heap.objs.size a code = env at F1 S1 hcells hfrm hA'
    have T:=ctr15 (prog:=prog) (w:=w) W.hp W.D ⟨_,W.top⟩
    rw [TT.body]
    refine wpAny_execs_cons (wm (ex (n:=0) W.D hard T F1 noGok _ TT.st1 _ _ _ (.next [some (at1 (.int pad)),some ⟨encG (tallG pad),true,true⟩,Option.none,Option.none]) _ TT.c1 S1 (ex_set1 (ev_tallG hp (ev_var rfl)) rfl) (fun m hm=>by cases hm)) (fun fl s₁ h₁=>?_))
    obtain ⟨rfl,ad1,S1',x1⟩:=h₁
    dsimp only
    refine wpAny_execs_cons (wm (ex (n:=0) W.D hard T F1 noGok _ TT.st2 _ _ _ (.next [some (at1 (.int pad)),some ⟨encG (tallG pad),true,true⟩,some ⟨.tup [encI (tallSteps pad),.str ""],true,true⟩,Option.none]) _ TT.c2 S1' (ex_set1 (ev_tallD hp (ev_var rfl)) rfl) (fun m hm=>by cases hm)) (fun fl s₂ h₂=>?_))
    obtain ⟨rfl,ad2,S2,x2⟩:=h₂
    dsimp only
    refine wpAny_execs_cons (wm (ex (n:=0) W.D hard T F1 noGok _ TT.st3 _ _ _ (.next [some (at1 (.int pad)),some ⟨encG (tallG pad),true,true⟩,some ⟨tallDue pad,true,true⟩,Option.none]) _ TT.c3 S2 ?_ (fun m hm=>by cases hm)) (fun fl s₃ h₃=>?_))
    · have hc:aeval Φ15 (.cmp .Eq (.var 0) (.int 2)) [some (at1 (.int pad)),some ⟨encG (tallG pad),true,true⟩,some ⟨.tup [encI (tallSteps pad),.str ""],true,true⟩,Option.none] = some (at1 (.bool (decide (pad = 2)))):=by
        refine ev_cmp (ev_var rfl) ev_int ?_
        show acmp .Eq (.int pad) (.int 2) = _
        rw [eqInt]
        congr 1
        by_cases e:pad = 2
        · simp [e]
        · have:¬ (pad:Int) = 2:=by lia
          simp [e,this]
      refine if_ex hc rfl ?_
      delta tallDue
      by_cases e:pad = 2
      · rw [decide_eq_true e,if_pos e,if_pos rfl]
        exact seq_set (r:=⟨.tup [.none,.str "the fuel is spent"],true,true⟩) (ev_tup (rs:=[at1 .none,at1 (.str "the fuel is spent")]) (evs_cons ev_none (evs_cons ev_str evs_nil)) (show 2 ≤ lim by decide)) rfl seq_nil
      · rw [decide_eq_false e,if_neg e,if_neg Bool.false_ne_true]
        exact seq_nil
    obtain ⟨rfl,ad3,S3,x3⟩:=h₃
    dsimp only
    obtain ⟨n,hex⟩:=tall7 pad hp
    refine wpAny_execs_cons (run_stmt (n:=n) (out:=tallOut pad) (r1:=⟨encG (tallG pad),true,true⟩) (r2:=⟨encS [],true,true⟩) W T (by decide) F1 S3 hcells hfrm hA' ho ?_ hb0 hbo TT.cas (evs_cons (ev_var rfl) (evs_cons (ev_list evs_nil rfl) evs_nil)) hex ?_ TT.tg TT.kg fun s0' s₄ F4 S4 b4 zz shp=>?_)
    · intro i r hi
      exact ⟨sig_all (f:=RV.c) rfl hi,.inl (sig_all (f:=RV.f) rfl hi)⟩
    · delta tallOut
      split
      · exact .inr ⟨_,rfl⟩
      · exact .inl ⟨_,rfl,rfl⟩
    · rw [tall_res] at S4
      have hq:aexecs Φ15 0 [.ife (.cmp .NotEq (.var 3) (.var 2)) [.ret (.bool false)] [],.ret (.bool true)] (([some (at1 (.int pad)),some ⟨encG (tallG pad),true,true⟩,some ⟨tallDue pad,true,true⟩,Option.none].map dropF).set 3 (some ⟨tallDue pad,true,true⟩)) = some (.ret (at1 (.bool true))):=by
        have hna:(tallDue pad).atom = false:=by delta tallDue; split <;> rfl
        have e1:dropF (some ⟨tallDue pad,true,true⟩) = some ⟨tallDue pad,false,true⟩:=by delta dropF; simp [hna]
        simp only [List.map_cons,List.map_nil,e1,List.set_cons_succ,List.set_cons_zero]
        refine seq_if (k:=false) (t:=at1 (.bool false)) (ev_cmp (r:=⟨tallDue pad,true,true⟩) (q:=⟨tallDue pad,false,true⟩) (ev_var rfl) (ev_var rfl) (ne_pl (tall_pl pad).1 (tall_pl pad).2)) rfl seq_nil (seq_ret ev_bool)
      refine wm (exs (n:=0) W.D hard T F4 noGok _ TT.post _ _ _ _ _ TT.cpost S4 hq (fun m hm=>by cases hm)) (fun fl s₅ h₅=>?_)
      obtain ⟨v,rfl,k5,r5⟩:=h₅
      rw [R.b (b:=true) r5]
      · refine ⟨rfl,fun b o e=>kheap k5 b o (b4 b o e),?_⟩
        obtain ⟨hh1,t1,d1,rfl⟩:=shp
        refine cps fun Gq hGq=>?_
        obtain ⟨hh2,t2,d2,e2,zz⟩:=k5
        obtain ⟨hh3,t3,d3,e3,zz⟩:=S3.k0
        refine hGq ?_
        clear hGq
        exact ⟨hh2,t2,d2,by rw [e2,e3]⟩
end
end L7
end Mine
namespace Mine
open PySem PySem.SeqAt PySem.Calls PyProof.Rows PySem.W
namespace L7
theorem wp_execs_app {M:Model} {Γ:Ctx} {env:Env} {ys:List Stmt} {post:Flow → Pos → Shared → Prop} {exc:Value → Pos → Shared → Prop}:∀ (xs:List Stmt) (p:Pos) (s:Shared),
    Sem.wp M Γ (execs xs env) (fun f p' s'=>match f with | .next=>Sem.wp M Γ (execs ys env) post exc p' s' | f=>post f p' s') exc p s → Sem.wp M Γ (execs (xs ++ ys) env) post exc p s
  | [],p,s,h=>h
  | x :: xs,p,s,h=>by
    rw [execs_cons,Sem.wp_bind'] at h
    rw [List.cons_append,execs_cons,Sem.wp_bind']
    refine Sem.wp_mono M Γ _ (fun f p' s' h'=>?_) (fun zz zz zz h'=>h') _ _ h
    cases f with
    | next=>exact wp_execs_app xs p' s' h'
    | _=>exact h'
theorem wpAny_execs_app {M:Model} {A:Around} {env:Env} {xs ys:List Stmt} {Q:Flow → Shared → Prop} {E:Value → Shared → Prop} {s:Shared} (h:wpAny M A (execs xs env) (fun f s'=>match f with | .next=>wpAny M A (execs ys env) Q E s' | f=>Q f s') E s):wpAny M A (execs (xs ++ ys) env) Q E s:=fun Γ p hΓ =>
  wp_execs_app xs p s (Sem.wp_mono M Γ _ (fun f p' s' h'=>by cases f <;> first | exact h' Γ p' hΓ | exact h') (fun zz zz zz h'=>h') _ _ (h Γ p hΓ))
noncomputable def encZ (ns:List Int):PV:=.list (ns.map PV.int)
section
variable {Φ:FTab} {σ:Sig}
theorem idx_encZ {ns:List Int} {i:Nat} {z:Int} {f c:Bool} (h:ns[i]? = some z):aidx ⟨encZ ns,f,c⟩ (.int i) = some (at1 (.int z)):=by
  have:aidx ⟨encZ ns,f,c⟩ (.int i) = if 0 ≤ (i:Int) then ((ns.map PV.int)[(i:Int).toNat]?).map (part ⟨encZ ns,f,c⟩) else if -((ns.map PV.int).length:Int) ≤ (i:Int) then ((ns.map PV.int)[((i:Int) + ((ns.map PV.int).length:Int)).toNat]?).map (part ⟨encZ ns,f,c⟩) else Option.none:=rfl
  rw [this,if_pos (by lia),Int.toNat_natCast,List.getElem?_map,h]; rfl
theorem ev_at {ns:List Int} {f c:Bool} (i:Nat) (hi:i < ns.length) (h0:aeval Φ (.var 0) σ = some ⟨encZ ns,f,c⟩):aeval Φ (.idx (.var 0) (.int (i:Int))) σ = some (at1 (.int ns[i])) :=
  ev_idx h0 ev_int (idx_encZ (List.getElem?_eq_getElem hi))
theorem ev_mod {a:SExpr} {z:Int} {k:Nat} (hk:0 < k) (h:aeval Φ a σ = some (at1 (.int z))):∃ r:Nat,r < k ∧ z.fmod k = r ∧ aeval Φ (.bin .Mod a (.int (k:Int))) σ = some (at1 (.int r)):=by
  have hr:=fmod_range (n:=z) (k:=(k:Int)) (by lia)
  refine ⟨(z.fmod k).toNat,by lia,(Int.toNat_of_nonneg hr.1).symm,ev_bin h ev_int ?_⟩
  show (if (k:Int) ≠ 0 then some (at1 (.int (z.fmod k))) else Option.none) = _
  rw [if_pos (by lia),Int.toNat_of_nonneg hr.1]
end
theorem s10_15:Sub Φ10 Φ15:=s10.trans (s11.trans (s12.trans (s13.trans s14)))
theorem letter15 (n:Int):∃ x ∈ LET,Φ15 "_law_letter" [.int n] = some (.str x,true):=by
  obtain ⟨x,hx,h⟩:=run_letter (Φ:=Φ9) n 0
  refine ⟨x,hx,s10_15 _ _ _ ?_⟩
  delta Φ10; rw [upd_eq]; exact gOf_eq rfl h
theorem rules15 (x y s:Str) (tail:List Str) (must:Int) (shift:Nat) (flip:Int) (ht:tail.length ≤ 10):Φ15 "_law_rules" [.str x,.str y,.str s,encS tail,.int must,.int shift,.int flip] = some (encQs ((Nm.mk7 x y s tail (decide (must < 2))).all shift (flip == 1)),true):=by
  refine (s11.trans (s12.trans (s13.trans s14))) _ _ _ ?_
  delta Φ11; rw [upd_eq]; exact gOf_eq rfl (run_law_rules (Φ:=Φ10) x y s tail must shift flip ht 0)
theorem word15 (x y s:Str) (tail:List Str) (i j k:Nat) (hi:i < 3) (ht:tail.length ≤ 10):∃ w,w.length ≤ 8 + tail.length ∧ (∀ z ∈ w,z ∈ x :: y :: s :: tail) ∧ Φ15 "_law_word" [.str x,.str y,.str s,encS tail,.int i,.int j,.int k] = some (encS w,true):=by
  refine cps fun Gq hGq=>?_
  obtain ⟨w,h1,h2,h3⟩:=run_law_word (Φ:=Φ11) x y s tail i j k hi ht 0
  refine hGq ?_
  clear hGq
  refine ⟨w,h1,h2,(s12.trans (s13.trans s14)) _ _ _ ?_⟩
  delta Φ12; rw [upd_eq]; exact gOf_eq rfl h3
theorem hurt15 (w:List Str) (kind wh:Int) (odd:Str) (hw:w.length ≤ 30):∃ w' f,w'.length ≤ w.length + 1 ∧ (∀ z ∈ w',z ∈ odd :: w) ∧ Φ15 "_law_hurt" [encS w,.int kind,.int wh,.str odd] = some (encS w',f):=by
  refine cps fun Gq hGq=>?_
  obtain ⟨w',f,h1,h2,h3⟩:=run_law_hurt (Φ:=Φ12) w kind wh odd hw 0
  refine hGq ?_
  clear hGq
  refine ⟨w',f,h1,h2,(s13.trans s14) _ _ _ ?_⟩
  delta Φ13; rw [upd_eq]; exact gOf_eq rfl h3
noncomputable def preS:List SStmt:=[.set 1 (.call "_law_letter" [.idx (.var 0) (.int 2)]),.set 2 (.call "_law_letter" [.idx (.var 0) (.int 3)]),.set 3 (.call "_law_letter" [.idx (.var 0) (.int 4)]),.set 4 (.supto (.list [.call "_law_letter" [.idx (.var 0) (.int 5)],.call "_law_letter" [.idx (.var 0) (.int 6)]]) (.bin .Mod (.idx (.var 0) (.int 7)) (.int 3))),.set 5 (.call "_law_rules" [.var 1,.var 2,.var 3,.var 4,.bin .Mod (.idx (.var 0) (.int 1)) (.int 3),.bin .Mod (.idx (.var 0) (.int 8)) (.int 7),.bin .Mod (.idx (.var 0) (.int 9)) (.int 2)]),.set 6 (.call "_law_word" [.var 1,.var 2,.var 3,.var 4,.bin .Mod (.idx (.var 0) (.int 10)) (.int 3),.bin .Mod (.idx (.var 0) (.int 11)) (.int 4),.bin .Mod (.idx (.var 0) (.int 12)) (.int 4)]),.set 7 (.call "_law_hurt" [.var 6,.bin .Mod (.idx (.var 0) (.int 13)) (.int 5),.idx (.var 0) (.int 14),.idx (.str "abcde$L") (.bin .Mod (.idx (.var 0) (.int 15)) (.int 7))]),.unpk 8 9 (.call "_law_table" [.var 5]),.set 10 (.call "_law_answer" [.var 5,.dictOf (.var 8),.var 4,.var 7]),.setc 11 (.comp (.tup [.idx (.var 15) (.int 0),.sall (.idx (.var 15) (.int 1))]) (.var 5)),.set 12 (.sall (.var 7))]
noncomputable def postS:List SStmt:=[.ife (.cmp .NotEq (.var 13) (.var 10)) [.ret (.bool false)] [],.ife (.isN true (.idx (.var 10) (.int 0))) [.ife (.not (.typeIs "list" (.idx (.var 13) (.int 0)))) [.ret (.bool false)] [],.ife (.not (.all (.comp (.typeIs "int" (.var 15)) (.idx (.var 13) (.int 0))))) [.ret (.bool false)] []] [],.ife (.cmp .NotEq (.call "predict_sets" [.var 11]) (.comp (.idx (.var 15) (.int 2)) (.var 5))) [.ret (.bool false)] [],.set 14 (.call "ll1_table" [.var 11]),.ife (.cmp .NotEq (.items (.idx (.var 14) (.int 0))) (.var 8)) [.ret (.bool false)] [],.ife (.not (.typeIs "int" (.idx (.var 14) (.int 1)))) [.ret (.bool false)] [],.ife (.cmp .NotEq (.idx (.var 14) (.int 1)) (.var 9)) [.ret (.bool false)] [],.ife (.cmp .NotEq (.var 11) (.comp (.tup [.idx (.var 15) (.int 0),.idx (.var 15) (.int 1)]) (.var 5))) [.ret (.bool false)] [],.ife (.cmp .NotEq (.var 12) (.var 7)) [.ret (.bool false)] [],.ret (.bool true)]
noncomputable def σ0 (ns:List Int):Sig:=[some ⟨encZ ns,false,true⟩,Option.none,Option.none,Option.none,Option.none,Option.none,Option.none,Option.none,Option.none,Option.none,Option.none,Option.none,Option.none,Option.none,Option.none]
noncomputable def σ1 (ns:List Int) (x y s:Str) (tail:List Str) (R:List Rl) (whole word:List Str) (rows:List PV) (c:Int) (res:List Nat ⊕ Str):Sig :=
  [some ⟨encZ ns,false,true⟩,some (at1 (.str x)),some (at1 (.str y)),some (at1 (.str s)),some ⟨encS tail,true,true⟩,some ⟨encQs R,true,true⟩,some ⟨encS whole,true,true⟩,some ⟨encS word,true,true⟩,some ⟨.list rows,true,true⟩,some (at1 (.int c)),some ⟨resA res,true,true⟩,some ⟨encG (gOfR R),true,true⟩,some ⟨encS word,true,true⟩,Option.none,Option.none]
theorem LET_len:∀ z ∈ LET,z.length ≤ 100:=by decide +kernel
theorem ev_odd {r:Nat} (hr:r < 7):∃ x:Str,x.length ≤ 100 ∧ ∀ {Φ:FTab} {σ:Sig} {a:SExpr},aeval Φ a σ = some (at1 (.int r)) → aeval Φ (.idx (.str "abcde$L") a) σ = some (at1 (.str x)):=by
  have hc:(Str.ofString "abcde$L").cps = #[97,98,99,100,101,36,76]:=by decide +kernel
  have key:∀ k:Nat,k < 7 → ∃ c,(#[97,98,99,100,101,36,76]:Array Nat)[k]? = some c:=fun k hk=>⟨_,Array.getElem?_eq_getElem (by simpa using hk)⟩
  obtain ⟨c,e⟩:=key r hr
  refine ⟨⟨#[c]⟩,by show (#[c]:Array Nat).size ≤ 100; simp,fun h=>ev_idx ev_str h ?_⟩
  have e1:aidx (at1 (.str "abcde$L")) (.int r) = if 0 ≤ (r:Int) ∧ (r:Int) ≤ 1000000 then ((Str.ofString "abcde$L").cps[(r:Int).toNat]?).map fun c=>at1 (.str ⟨#[c]⟩) else Option.none:=rfl
  show aidx (at1 (.str "abcde$L")) (.int r) = _
  rw [e1,if_pos ⟨by lia,by lia⟩,hc,Int.toNat_natCast,e]; rfl
theorem ev_callF {Φ:FTab} {σ:Sig} {f:Str} {d:PV} {b:Bool} {es:List SExpr} {rs:List RV} (h1:aevals Φ es σ = some rs) (h:Φ f (rs.map (·.d)) = some (d,b)) (hf:rs.all (·.f) = true) (hc:rs.all (·.c) = true):aeval Φ (.call f es) σ = some ⟨d,true,true⟩:=by
  rw [ev_call h1 h,hf,hc]; simp
set_option maxHeartbeats 1000000 in
noncomputable def nI (ns:List Int) (i:Nat):Int:=ns.getD i 0
theorem ev_nI {Φ:FTab} {σ:Sig} {a:SExpr} {ns:List Int} {f c:Bool} (i:Nat) (hi:i < ns.length) (h:aeval Φ a σ = some ⟨encZ ns,f,c⟩):aeval Φ (.idx a (.int (i:Int))) σ = some (at1 (.int (nI ns i))):=by
  have e:ns[i]? = some (nI ns i):=by
    delta nI
    rw [List.getD_eq_getElem?_getD,List.getElem?_eq_getElem hi]; rfl
  exact ev_idx h ev_int (idx_encZ e)
inductive LawPre (ns:List Int):Prop
  | mk (x y s:Str) (tail:List Str) (R:List Rl) (whole word hds:List Str) (t:List Row × Nat) (res:List Nat ⊕ Str) (h1:aexecs Φ15 0 preS (σ0 ns) = some (.next (σ1 ns x y s tail R whole word (lawRows (ruleP R) hds) (t.2:Int) res))) (h2:hds.Nodup) (h3:hds ≠ []) (h4:RowsOk hds (ruleP R) t)
      (h5:∃ m,aexecs Φ9 m ss_parse_ll1 (initσ 8 [encG (gOfR R),encS word]) = some (outP res)) (h6:R.length ≤ 10) (h7:Φ15 "predict_sets" [encG (gOfR R)] = some (.list (R.map fun r=>encS r.p),true)) (h8:Φ15 "ll1_table" [encG (gOfR R)] = some (encT hds t,true)):LawPre ns
theorem law_pre (ns:List Int) (h16:16 ≤ ns.length):LawPre ns:=by
  have at_:∀ {σ:Sig} (i:Nat) (hi:i < 16),σ[0]? = some (some ⟨encZ ns,false,true⟩) → aeval Φ15 (.idx (.var 0) (.int (i:Int))) σ = some (at1 (.int (nI ns i))):=fun i hi h=>ev_nI i (Nat.lt_of_lt_of_le hi h16) (ev_var h)
  refine cps fun Gq hGq=>?_
  obtain ⟨x,hx,fx⟩:=letter15 (nI ns 2)
  obtain ⟨y,hy,fy⟩:=letter15 (nI ns 3)
  obtain ⟨s,hs,fs⟩:=letter15 (nI ns 4)
  obtain ⟨t1,ht1,ft1⟩:=letter15 (nI ns 5)
  obtain ⟨t2,ht2,ft2⟩:=letter15 (nI ns 6)
  refine hGq ?_
  clear hGq
  have md:∀ {σ:Sig} (i:Nat) (hi:i < 16) (k:Nat),0 < k → σ[0]? = some (some ⟨encZ ns,false,true⟩) → aeval Φ15 (.bin .Mod (.idx (.var 0) (.int (i:Int))) (.int (k:Int))) σ = some (at1 (.int (((nI ns i).fmod k).toNat:Nat))):=by
    intro σ i hi k hk h
    refine cps fun Gq hGq=>?_
    obtain ⟨r,zz,h2,h3⟩:=ev_mod hk (at_ i hi h)
    refine hGq ?_
    clear hGq
    rw [h3,h2]; rfl
  have mlt:∀ (z:Int) (k:Nat),0 < k → (z.fmod k).toNat < k:=fun z k hk=>by
    have:=fmod_range (n:=z) (k:=(k:Int)) (by lia)
    lia
  let tail:List Str:=[t1,t2].take ((nI ns 7).fmod (3:Nat)).toNat
  have htl:tail.length ≤ 2:=by show ([t1,t2].take _).length ≤ 2; rw [List.length_take]; simp; lia
  have htm:∀ z ∈ tail,z ∈ LET:=fun z hz=>by
    have:=List.mem_of_mem_take hz
    simp at this
    rcases this with rfl | rfl
    · exact ht1
    · exact ht2
  let mu:Nat:=((nI ns 1).fmod (3:Nat)).toNat
  let sh:Nat:=((nI ns 8).fmod (7:Nat)).toNat
  let fl:Nat:=((nI ns 9).fmod (2:Nat)).toNat
  have frules:=rules15 x y s tail (mu:Int) sh (fl:Int) (by lia)
  refine cps fun Gq hGq=>?_
  obtain ⟨whole,wl,wm,fword⟩:=word15 x y s tail ((nI ns 10).fmod (3:Nat)).toNat ((nI ns 11).fmod (4:Nat)).toNat ((nI ns 12).fmod (4:Nat)).toNat (mlt _ 3 (by decide)) (by lia)
  obtain ⟨odd,hol,hodd⟩:=ev_odd (mlt (nI ns 15) 7 (by decide))
  obtain ⟨word,fb,wl',wm',fhurt⟩:=hurt15 whole (((nI ns 13).fmod (5:Nat)).toNat:Nat) (nI ns 14) odd (by lia)
  refine hGq ?_
  clear hGq
  have hwz:∀ z ∈ word,z.length ≤ 100:=fun z hz=>by
    rcases List.mem_cons.mp (wm' z hz) with rfl | hz
    · exact hol
    · have:=wm z hz
      simp only [List.mem_cons] at this
      rcases this with rfl | rfl | rfl | hz
      · exact LET_len _ hx
      · exact LET_len _ hy
      · exact LET_len _ hs
      · exact LET_len _ (htm z hz)
  refine cps fun Gq hGq=>?_
  obtain ⟨R,hds,t,res,zz,hR,hhd,hne,hrok,hbl,hRl,ftab,fans,hparse,fpred,fll⟩:=main7 (o:=decide ((mu:Int) < 2)) (word:=word) hx hy hs htm htl sh ((fl:Int) == 1) (by lia) hwz
  refine hGq ?_
  clear hGq
  have hnd:hds.Nodup:=by rw [hhd]; exact nodup_metS _
  refine ⟨x,y,s,tail,R,whole,word,hds,t,res,?_,hnd,hne,hrok,hparse,hRl,fpred,fll⟩
  delta preS σ0
  refine seq_set (r:=at1 (.str x)) (ev_callT (rs:=[at1 (.int _)]) (evs_cons (at_ 2 (by decide) rfl) evs_nil) fx) rfl ?_
  refine seq_set (r:=at1 (.str y)) (ev_callT (rs:=[at1 (.int _)]) (evs_cons (at_ 3 (by decide) rfl) evs_nil) fy) rfl ?_
  refine seq_set (r:=at1 (.str s)) (ev_callT (rs:=[at1 (.int _)]) (evs_cons (at_ 4 (by decide) rfl) evs_nil) fs) rfl ?_
  refine seq_set (r:=⟨encS tail,true,true⟩) (ev_supto (f':=true) (c':=true) (ev_list (rs:=[at1 (.str t1),at1 (.str t2)]) (evs_cons (ev_callT (rs:=[at1 (.int _)]) (evs_cons (at_ 5 (by decide) rfl) evs_nil) ft1) (evs_cons (ev_callT (rs:=[at1 (.int _)]) (evs_cons (at_ 6 (by decide) rfl) evs_nil) ft2) evs_nil)) (newlR_strs [t1,t2] (show 2 ≤ lim by decide))) (md 7 (by decide) 3 (by decide) rfl) (show 2 ≤ lim by decide)) rfl ?_
  refine seq_set (r:=⟨encQs R,true,true⟩) (ev_callT (rs:=[at1 (.str x),at1 (.str y),at1 (.str s),⟨encS tail,true,true⟩,at1 (.int mu),at1 (.int sh),at1 (.int fl)]) (evs_cons (ev_var rfl) (evs_cons (ev_var rfl) (evs_cons (ev_var rfl) (evs_cons (ev_var rfl) (evs_cons (md 1 (by decide) 3 (by decide) rfl) (evs_cons (md 8 (by decide) 7 (by decide) rfl) (evs_cons (md 9 (by decide) 2 (by decide) rfl) evs_nil))))))) (by rw [hR]; exact frules)) rfl ?_
  refine seq_set (r:=⟨encS whole,true,true⟩) (ev_callT (rs:=[at1 (.str x),at1 (.str y),at1 (.str s),⟨encS tail,true,true⟩,at1 (.int _),at1 (.int _),at1 (.int _)]) (evs_cons (ev_var rfl) (evs_cons (ev_var rfl) (evs_cons (ev_var rfl) (evs_cons (ev_var rfl) (evs_cons (md 10 (by decide) 3 (by decide) rfl) (evs_cons (md 11 (by decide) 4 (by decide) rfl) (evs_cons (md 12 (by decide) 4 (by decide) rfl) evs_nil))))))) fword) rfl ?_
  refine seq_set (r:=⟨encS word,true,true⟩) (ev_callF (rs:=[⟨encS whole,true,true⟩,at1 (.int _),at1 (.int _),at1 (.str odd)]) (evs_cons (ev_var rfl) (evs_cons (md 13 (by decide) 5 (by decide) rfl) (evs_cons (at_ 14 (by decide) rfl) (evs_cons (hodd (md 15 (by decide) 7 (by decide) rfl)) evs_nil)))) fhurt rfl rfl) rfl ?_
  refine seq_unpk (d:=.list (lawRows (ruleP R) hds)) (d':=.int (t.2:Int)) (f:=true) (ev_callT (rs:=[⟨encQs R,true,true⟩]) (evs_cons (ev_var rfl) evs_nil) ftab) ?_
  obtain ⟨c',hdict,hc'⟩:=ev_dictRows (Φ:=Φ15) (a:=.var 8) (σ:=[some ⟨encZ ns,false,true⟩,some (at1 (.str x)),some (at1 (.str y)),some (at1 (.str s)),some ⟨encS tail,true,true⟩,some ⟨encQs R,true,true⟩,some ⟨encS whole,true,true⟩,some ⟨encS word,true,true⟩,some ⟨.list (lawRows (ruleP R) hds),true,true⟩,some (at1 (.int (t.2:Int))),Option.none,Option.none,Option.none,Option.none,Option.none]) (l:=ruleP R) (c:=true) hnd (ev_var rfl)
  refine seq_set (r:=⟨resA res,true,true⟩) (ev_callT (rs:=[⟨encQs R,true,true⟩,⟨lawT (ruleP R) hds,true,c'⟩,⟨encS tail,true,true⟩,⟨encS word,true,true⟩]) (evs_cons (ev_var rfl) (evs_cons hdict (evs_cons (ev_var rfl) (evs_cons (ev_var rfl) evs_nil)))) fans) rfl ?_
  have hbl':∀ r ∈ R,r.b.length ≤ lim:=fun r hr=>Nat.le_trans (hbl r hr) (by decide)
  refine seq_setc (r:=⟨encG (gOfR R),true,true⟩) (ev_compP (dec:=encQ) (l:=R) (f:=fun q=>⟨encR (q.h,q.b),true,true⟩) (r:=⟨encQs R,true,true⟩) (ev_var rfl) rfl ?_ ?_) rfl ?_
  · intro q hq
    refine ev_tup (rs:=[at1 (.str q.h),⟨encS q.b,true,true⟩]) (evs_cons (ev_idx (r:=⟨encQ q,true,true⟩) (ev_var rfl) ev_int rfl) (evs_cons ?_ evs_nil)) (show 2 ≤ lim by decide)
    refine bind_to (ev_idx (r:=⟨encQ q,true,true⟩) (t:=⟨encS q.b,true,true⟩) (ev_var rfl) ev_int rfl) ?_
    exact newl_str _ _ _ (hbl' q hq)
  · have:=newlR_G (gOfR R) (by delta gOfR; rw [List.length_map]; delta lim; lia)
    unfold gOfR at this ⊢
    rw [List.map_map] at this
    exact this
  refine seq_set (r:=⟨encS word,true,true⟩) ?_ rfl ?_
  · refine bind_to (ev_var (r:=⟨encS word,true,true⟩) rfl) ?_
    exact newl_str _ _ _ (by delta lim; lia)
  · exact seq_nil
end L7
end Mine
namespace Mine
open PySem PySem.SeqAt PySem.Calls PyProof.Rows PySem.W
namespace L7
theorem newlR_any (rs:List RV) (h:rs.length ≤ lim):∃ f c,newlR rs = some ⟨.list (rs.map (·.d)),f,c⟩:=by
  delta newlR newl
  rw [if_pos (by simpa using h)]
  split
  · exact ⟨_,_,rfl⟩
  · exact ⟨_,_,rfl⟩
theorem ev_compA {Φ:FTab} {σ:Sig} {a b:SExpr} {r:RV} {A:Type} {dec:A → PV} {f:A → RV} {l:List A} (h1:aeval Φ b σ = some r) (h2:aiter r.d = some (l.map dec)) (h3:∀ x ∈ l,aeval Φ a (σ ++ [some (part r (dec x))]) = some (f x)) (hl:l.length ≤ lim):∃ g c,aeval Φ (.comp a b) σ = some ⟨.list (l.map fun x=>(f x).d),g,c⟩:=by
  obtain ⟨g,c,e⟩:=newlR_any (l.map f) (by simpa using hl)
  rw [List.map_map] at e
  exact ⟨g,c,ev_compP h1 h2 h3 e⟩
theorem depths_mem {n:Nat} {l:List PV} (h:∀ x ∈ l,x.depth ≤ n):PV.depths l ≤ n:=by
  induction l with
  | nil=>exact Nat.zero_le _
  | cons a l ih =>
    rw [dpC]
    have h1:=h a (by simp)
    have h2:=ih fun x hx=>h x (by simp [hx])
    lia
theorem depth_row (r:Row):(encRow r).depth ≤ 1:=by
  delta encRow
  rw [dpD]
  have:=depths_map (fun k:Nat=>PV.int k) (n:=0) (fun zz=>Nat.le_refl _) (rv r)
  lia
theorem depth_items (ks:List Str) (rows:List Row):(PV.list (itemsPV ks (rows.map encRow))).depth ≤ 3:=by
  rw [dpL]
  have:PV.depths (itemsPV ks (rows.map encRow)) ≤ 2:=depths_mem fun x hx=>by
    delta itemsPV at hx
    obtain ⟨q,hq,rfl⟩:=List.mem_map.mp hx
    obtain ⟨r,hr,e⟩:=List.mem_map.mp (List.of_mem_zip hq).2
    rw [dpT,dpC,dpC,← e]
    have:=depth_row r
    show max 0 (max (encRow r).depth 0) + 1 ≤ 2
    lia
  lia
theorem mem_put {ks:List Str} {vs:List PV} {k:Str} {v x:PV} (h:x ∈ (put ks vs k v).2):x = v ∨ x ∈ vs:=by
  by_cases hk:k ∈ ks
  · rw [put_mem hk] at h
    exact mem_upd h
  · rw [put_new hk] at h
    rcases List.mem_append.mp h with h | h
    · exact .inr h
    · exact .inl (List.mem_singleton.mp h)
theorem mem_putAll:∀ (ps:List (Str × PV)) (kd:List Str × List PV) (x:PV),x ∈ (putAll ps kd).2 → x ∈ kd.2 ∨ ∃ q ∈ ps,x = q.2
  | [],kd,x,h=>.inl h
  | (k,d) :: r,kd,x,h=>by
    rw [putAll_cons] at h
    rcases mem_putAll r _ x h with h | ⟨q,hq,e⟩
    · rcases mem_put h with h | h
      · exact .inr ⟨(k,d),by simp,h⟩
      · exact .inl h
    · exact .inr ⟨q,by simp [hq],e⟩
theorem depth_lawRow (l:List (Str × List Str)) (h:Str):(PV.dict (lawRow l h).1 (lawRow l h).2).depth ≤ 1:=by
  rw [dpD]
  have:PV.depths (lawRow l h).2 ≤ 0:=depths_mem fun x hx=>by
    rcases mem_putAll _ _ x hx with h | ⟨q,hq,rfl⟩
    · cases h
    · obtain ⟨y,zz,rfl⟩:=List.mem_map.mp hq
      exact Nat.le_refl _
  lia
theorem depth_lawRows (l:List (Str × List Str)) (hs:List Str):(PV.list (lawRows l hs)).depth ≤ 3:=by
  rw [dpL]
  have:PV.depths (lawRows l hs) ≤ 2:=depths_mem fun x hx=>by
    obtain ⟨h,zz,rfl⟩:=List.mem_map.mp hx
    rw [dpT,dpC,dpC]
    have:=depth_lawRow l h
    show max 0 (max (PV.dict (lawRow l h).1 (lawRow l h).2).depth 0) + 1 ≤ 2
    lia
  lia
theorem pl_resA (res:List Nat ⊕ Str):pl (resA res) = true ∧ (resA res).depth ≤ 20:=by
  cases res with
  | inl st =>
    refine ⟨congrArg (fun z=>z && (true && true)) (pl_encI _),?_⟩
    delta resA
    rw [dpT,dpC,dpC]
    have:=depth_encI st
    show max (encI st).depth (max 0 0) + 1 ≤ 20
    lia
  | inr m=>exact ⟨rfl,show max 0 (max 0 0) + 1 ≤ 20 by decide⟩
noncomputable def σ2 (ns:List Int) (x y s:Str) (tail:List Str) (R:List Rl) (whole word:List Str) (rows:List PV) (c:Int) (res:List Nat ⊕ Str) (r14:Option RV):Sig :=
  [some ⟨encZ ns,false,true⟩,some (at1 (.str x)),some (at1 (.str y)),some (at1 (.str s)),some ⟨encS tail,false,true⟩,some ⟨encQs R,false,true⟩,some ⟨encS whole,false,true⟩,some ⟨encS word,false,true⟩,some ⟨.list rows,false,true⟩,some (at1 (.int c)),some ⟨resA res,false,true⟩,some ⟨encG (gOfR R),false,true⟩,some ⟨encS word,false,true⟩,some ⟨resA res,true,true⟩,r14]
theorem σ1_drop {ns:List Int} {x y s:Str} {tail:List Str} {R:List Rl} {whole word:List Str} {rows:List PV} {c:Int} {res:List Nat ⊕ Str}:((σ1 ns x y s tail R whole word rows c res).map dropF).set 13 (some ⟨resA res,true,true⟩) = σ2 ns x y s tail R whole word rows c res Option.none:=by
  cases res <;> rfl
noncomputable def psOf (R:List Rl):PV:=.list (R.map fun q=>encS q.p)
theorem depth_ps (R:List Rl):(PV.list (R.map fun q=>encS q.p)).depth ≤ 2 ∧ pl (PV.list (R.map fun q=>encS q.p)) = true:=by
  refine ⟨?_,pls_map _ (fun zz=>pl_encS _) R⟩
  rw [dpL]
  have:=depths_map (fun q:Rl=>encS q.p) (n:=1) (fun q=>by rw [depth_encS]; exact Nat.le_refl _) R
  lia
set_option maxHeartbeats 1000000 in
theorem law_post {ns:List Int} {x y s:Str} {tail:List Str} {R:List Rl} {whole word:List Str} {hds:List Str} {t:List Row × Nat} {res:List Nat ⊕ Str} (hn:hds.Nodup) (h0:hds ≠ []) (hrok:RowsOk hds (ruleP R) t) (hRl:R.length ≤ 10)
    (fpred:Φ15 "predict_sets" [encG (gOfR R)] = some (.list (R.map fun r=>encS r.p),true)) (fll:Φ15 "ll1_table" [encG (gOfR R)] = some (encT hds t,true)) (hst:∀ st,res = .inl st → st.length ≤ lim) :
    aexecs Φ15 0 postS (σ2 ns x y s tail R whole word (lawRows (ruleP R) hds) (t.2:Int) res Option.none) = some (.ret (at1 (.bool true))):=by
  have hRlim:R.length ≤ lim:=by delta lim; lia
  delta postS
  refine seq_if (k:=false) (t:=at1 (.bool false)) (ev_cmp (r:=⟨resA res,true,true⟩) (q:=⟨resA res,false,true⟩) (ev_var rfl) (ev_var rfl) (ne_pl (pl_resA res).1 (pl_resA res).2)) rfl seq_nil ?_
  refine seq_if (k:=match res with | .inl _=>true | .inr _=>false) (t:=at1 (.bool (match res with | .inl _=>true | .inr _=>false))) ?_ rfl (σ':=σ2 ns x y s tail R whole word (lawRows (ruleP R) hds) (t.2:Int) res Option.none) ?_ ?_
  · cases res with
    | inl st =>
      exact map_to (ev_idx (r:=⟨resA (.inl st),false,true⟩) (t:=⟨encI st,false,true⟩) (ev_var rfl) ev_int rfl)
    | inr m =>
      exact map_to (ev_idx (r:=⟨resA (.inr m),false,true⟩) (t:=at1 .none) (ev_var rfl) ev_int rfl)
  · cases res with
    | inr m=>exact seq_nil
    | inl st =>
      have e13:aeval Φ15 (.idx (.var 13) (.int 0)) (σ2 ns x y s tail R whole word (lawRows (ruleP R) hds) (t.2:Int) (.inl st) Option.none) = some ⟨encI st,true,true⟩:=ev_idx (r:=⟨resA (.inl st),true,true⟩) (ev_var rfl) ev_int rfl
      refine seq_if (k:=false) (t:=at1 (.bool false)) (ev_not (k:=true) ?_) rfl seq_nil ?_
      · refine bind_to e13 ?_
        show some (at1 (.bool (decide (Str.ofString "list" = Str.ofString "list")))) = _
        rw [decide_eq_true rfl]
      · have hall:aeval Φ15 (.all (.comp (.typeIs "int" (.var 15)) (.idx (.var 13) (.int 0)))) (σ2 ns x y s tail R whole word (lawRows (ruleP R) hds) (t.2:Int) (.inl st) Option.none) = some (at1 (.bool true)):=by
          have:=ev_all (Φ:=Φ15) (l:=st) (p:=fun zz=>true) (f:=true) (c:=true) (ev_compP (dec:=fun k:Nat=>PV.int k) (f:=fun zz=>at1 (.bool true)) (r:=⟨encI st,true,true⟩) (l:=st) (a:=.typeIs "int" (.var 15)) e13 rfl (fun k zz=>by
            refine bind_to (ev_var (r:=at1 (.int k)) rfl) ?_
            show some (at1 (.bool (decide (Str.ofString "int" = Str.ofString "int")))) = _
            rw [decide_eq_true rfl]) (newlR_bools (fun zz=>true) st (hst st rfl)))
          rw [this,List.all_eq_true.mpr fun zz zz=>rfl]
        exact seq_if (k:=false) (t:=at1 (.bool false)) (ev_not (k:=true) hall) rfl seq_nil seq_nil
  have hc2:∃ g c,aeval Φ15 (.comp (.idx (.var 15) (.int 2)) (.var 5)) (σ2 ns x y s tail R whole word (lawRows (ruleP R) hds) (t.2:Int) res Option.none) = some ⟨.list (R.map fun q=>encS q.p),g,c⟩ :=
    ev_compA (dec:=encQ) (f:=fun q=>⟨encS q.p,false,true⟩) (r:=⟨encQs R,false,true⟩) (ev_var rfl) rfl (fun q zz=>ev_idx (r:=⟨encQ q,false,true⟩) (ev_var rfl) ev_int rfl) hRlim
  obtain ⟨g2,c2,hc2⟩:=hc2
  refine seq_if (k:=false) (t:=at1 (.bool false)) (ev_cmp (r:=⟨psOf R,true,true⟩) (q:=⟨psOf R,g2,c2⟩) (ev_callT (rs:=[⟨encG (gOfR R),false,true⟩]) (evs_cons (ev_var rfl) evs_nil) fpred) hc2 (ne_pl (depth_ps R).2 (Nat.le_trans (depth_ps R).1 (by decide)))) rfl seq_nil ?_
  refine seq_set (r:=⟨encT hds t,true,true⟩) (ev_callT (rs:=[⟨encG (gOfR R),false,true⟩]) (evs_cons (ev_var rfl) evs_nil) fll) rfl ?_
  have hit:∃ f c,aeval Φ15 (.items (.idx (.var 14) (.int 0))) (σ2 ns x y s tail R whole word (lawRows (ruleP R) hds) (t.2:Int) res (some ⟨encT hds t,true,true⟩)) = some ⟨.list (itemsPV hds (t.1.map encRow)),f,c⟩:=by
    refine ⟨true || (t.1.map encRow).all PV.atom,true || (t.1.map encRow).all PV.atom,?_⟩
    exact bind_to (ev_idx (r:=⟨encT hds t,true,true⟩) (t:=⟨.dict hds (t.1.map encRow),true,true⟩) (ev_var rfl) ev_int rfl) rfl
  obtain ⟨f5,c5,hit⟩:=hit
  refine seq_if (k:=false) (t:=at1 (.bool false)) (ev_cmp (r:=⟨.list (itemsPV hds (t.1.map encRow)),f5,c5⟩) (q:=⟨.list (lawRows (ruleP R) hds),false,true⟩) hit (ev_var rfl) ?_) rfl seq_nil ?_
  · have e:acmp .NotEq (PV.list (itemsPV hds (t.1.map encRow))) (PV.list (lawRows (ruleP R) hds)) = if (PV.list (itemsPV hds (t.1.map encRow))).depth + (PV.list (lawRows (ruleP R) hds)).depth ≤ 40 then ane (PV.list (itemsPV hds (t.1.map encRow))) (PV.list (lawRows (ruleP R) hds)) else Option.none:=rfl
    show acmp .NotEq (PV.list (itemsPV hds (t.1.map encRow))) (PV.list (lawRows (ruleP R) hds)) = _
    have d1:=depth_items hds t.1
    have d2:=depth_lawRows (ruleP R) hds
    rw [e,if_pos (by lia),items_ne hn h0 hrok]
  have e14:aeval Φ15 (.idx (.var 14) (.int 1)) (σ2 ns x y s tail R whole word (lawRows (ruleP R) hds) (t.2:Int) res (some ⟨encT hds t,true,true⟩)) = some (at1 (.int (t.2:Int))):=ev_idx (r:=⟨encT hds t,true,true⟩) (ev_var rfl) ev_int rfl
  refine seq_if (k:=false) (t:=at1 (.bool false)) (ev_not (k:=true) ?_) rfl seq_nil ?_
  · refine bind_to (show aeval Φ15 (.idx (.var 14) (.int 1)) ((σ2 ns x y s tail R whole word (lawRows (ruleP R) hds) (t.2:Int) res Option.none).set 14 (some ⟨encT hds t,true,true⟩)) = some (at1 (.int (t.2:Int))) from e14) ?_
    show some (at1 (.bool (decide (Str.ofString "int" = Str.ofString "int")))) = _
    rw [decide_eq_true rfl]
  refine seq_if (k:=false) (t:=at1 (.bool false)) (ev_cmp (r:=at1 (.int (t.2:Int))) (q:=at1 (.int (t.2:Int))) e14 (ev_var rfl) (by show acmp .NotEq (.int (t.2:Int)) (.int (t.2:Int)) = _; rw [neInt]; simp)) rfl seq_nil ?_
  have hc3:∃ g c,aeval Φ15 (.comp (.tup [.idx (.var 15) (.int 0),.idx (.var 15) (.int 1)]) (.var 5)) (σ2 ns x y s tail R whole word (lawRows (ruleP R) hds) (t.2:Int) res (some ⟨encT hds t,true,true⟩)) = some ⟨.list (R.map fun q=>encR (q.h,q.b)),g,c⟩ :=
    ev_compA (dec:=encQ) (f:=fun q=>⟨encR (q.h,q.b),false,true⟩) (r:=⟨encQs R,false,true⟩) (ev_var rfl) rfl (fun q zz=>ev_tup (rs:=[at1 (.str q.h),⟨encS q.b,false,true⟩]) (evs_cons (ev_idx (r:=⟨encQ q,false,true⟩) (ev_var rfl) ev_int rfl) (evs_cons (ev_idx (r:=⟨encQ q,false,true⟩) (ev_var rfl) ev_int rfl) evs_nil)) (show 2 ≤ lim by decide)) hRlim
  obtain ⟨g3,c3,hc3⟩:=hc3
  have hge:PV.list (R.map fun q=>encR (q.h,q.b)) = encG (gOfR R):=by delta encG gOfR; rw [List.map_map]; rfl
  rw [hge] at hc3
  refine seq_if (k:=false) (t:=at1 (.bool false)) (ev_cmp (r:=⟨encG (gOfR R),false,true⟩) (q:=⟨encG (gOfR R),g3,c3⟩) (ev_var rfl) hc3 (ne_pl (pl_encG _) (Nat.le_trans (depth_encG (gOfR R)) (by decide)))) rfl seq_nil ?_
  refine seq_if (k:=false) (t:=at1 (.bool false)) (ev_cmp (r:=⟨encS word,false,true⟩) (q:=⟨encS word,false,true⟩) (ev_var rfl) (ev_var rfl) (by show acmp .NotEq (encS word) (encS word) = _; rw [ne_encS]; simp)) rfl seq_nil ?_
  exact seq_ret ev_bool
end L7
end Mine
namespace Mine
open PySem PySem.SeqAt PySem.Calls PyProof.Rows PySem.W
namespace L7
noncomputable def lawCe (d:DefRec):CE:=ceOf (xs_law ++ ys_law) d.scope
set_option genInjectivity false in
set_option genSizeOf false in
structure LawText (d:DefRec) where
  st0:Stmt
  (tst arg a1 a2:Expr)
  (t1 t2 t3 t4 q1 q2 q3 q4:Pos)
  (pre post:List Stmt)
  body:d.body = st0 :: .If tst [.Return (some (.Call (.Name "_law_tall" t1) [arg] [] t2)) t3] [] t4 :: (pre ++ .Assign [.Name "got" q1] (.Call (.Name "_law_run" q2) [a1,a2] [] q3) q4 :: post)
  c0:chkS (.ife (.cmp .Lt (.len (.var 0)) (.int 16)) [.ret (.bool true)] []) (lawCe d) st0 = true
  ct:chk (.cmp .Eq (.bin .Mod (.idx (.var 0) (.int 0)) (.int 8)) (.int 7)) (lawCe d) tst = true
  ca:chks [.bin .Mod (.idx (.var 0) (.int 1)) (.int 3)] (lawCe d) [arg] = true
  cpre:chkSs preS (lawCe d) pre = true
  cpost:chkSs postS (lawCe d) post = true
  cas:chks [.var 11,.var 12] (lawCe d) [a1,a2] = true
  tg:tgt (lawCe d) "got" 13 = true
  kg:isGlob ((lawCe d).kind "_law_run") = true
  kt:isGlob ((lawCe d).kind "_law_tall") = true
  nocell:∀ y ∈ d.scope.names,y.2 ≠ .cell
  nofree:∀ y ∈ d.scope.names,y.2 ≠ .free
  fn:d.scope.kind = .function
  ks:d.scope.names.lookup ("script":Str) = some .local
noncomputable def lt7:LawText (rec7 "law") where
  st0:=_
  tst:=_
  arg:=_
  a1:=_
  a2:=_
  t1:=_
  t2:=_
  t3:=_
  t4:=_
  q1:=_
  q2:=_
  q3:=_
  q4:=_
  pre:=((rec7 "law").body.drop 2).take 11
  post:=(rec7 "law").body.drop 14
  body:=rfl
  c0:=by decide +kernel
  ct:=by decide +kernel
  ca:=by decide +kernel
  cpre:=by decide +kernel
  cpost:=by decide +kernel
  cas:=by decide +kernel
  tg:=by decide +kernel
  kg:=by decide +kernel
  kt:=by decide +kernel
  nocell:=by decide +kernel
  nofree:=by decide +kernel
  fn:=by decide +kernel
  ks:=by decide +kernel
end L7
end Mine
namespace Mine
open PySem PySem.SeqAt PySem.Calls PyProof.Rows PySem.W
namespace L7
section
variable {prog:Program} {w:World} {p:Program} {loose:List Str} {mean:ExcName → Option Value} {mg mb:Str → Option Value} {A:Around} {env:Env} {Q0:Addr → Prop} {s0 s:Shared} {ad:Nat → Addr} {E:Value → Shared → Prop}
theorem outP_res (res:List Nat ⊕ Str):resOf (outP res) = resA res:=by
  cases res with
  | inl st=>show PV.tup [encI st,.str Str.empty] = _; rw [empty_str]; rfl
  | inr m=>rfl
noncomputable def LawEnd (base0:Heap) (s:Shared) (fl:Flow) (s':Shared):Prop:=fl = .ret (.bool true) ∧ base0.StaysIn s'.heap ∧ ∃ h tk dr,s' = { s with heap:=h,toks:=tk,drawn:=dr }
set_option maxHeartbeats 2000000 in
theorem law_body {base0:Heap} {C:Addr} {d:DefRec} {ns:List Int} (W:Wk prog w p loose mean mg mb base0 C) (TT:LawText d) (F:Fx prog w p loose mean mg mb 16 A env (lawCe d) Q0 s0) (S:Sx prog w env (lawCe d) Q0 s0 (fun zz=>False) ad (σ0 ns) s)
    (hcells:env.cells = []) (hfrm:env.frame = some env.locals) (hA:A.frames = some [env]) (hb0:base0.StaysIn s0.heap) (hns:ns.length ≤ 63) :
    wpAny (model prog w) A (execs d.body env) (LawEnd base0 s0) E s:=by
  have T:=(ctr15 (prog:=prog) (w:=w) W.hp W.D ⟨_,W.top⟩).up
  rw [TT.body]
  have hlen:aeval Φ15 (.cmp .Lt (.len (.var 0)) (.int 16)) (σ0 ns) = some (at1 (.bool (decide (ns.length < 16)))):=by
    refine ev_cmp (ev_len (n:=ns.length) (ev_var rfl) (by show some (ns.map PV.int).length = _; rw [List.length_map])) ev_int ?_
    show some (decide ((ns.length:Int) < 16)) = _
    congr 1
    by_cases h:ns.length < 16
    · have:(ns.length:Int) < 16:=by lia
      simp [h,this]
    · have:¬ (ns.length:Int) < 16:=by lia
      simp [h,this]
  have fin:∀ {s0':Shared} {Q0':Addr → Prop} {v:Value} {s':Shared} {P:Addr → Prop},(∃ hh tk dr,s0' = { s0 with heap:=hh,toks:=tk,drawn:=dr }) → base0.StaysIn s0'.heap → Keeps s0' s' → R prog w s'.heap P v (.bool true) → LawEnd base0 s0 (.ret v) s':=by
    intro s0' Q0' v s' P shp hb k r
    rw [R.b (b:=true) r]
    · refine ⟨rfl,fun b o e=>kheap k b o (hb b o e),?_⟩
      obtain ⟨h1,t1,d1,rfl⟩:=shp
      obtain ⟨h2,t2,d2,rfl,zz⟩:=k
      exact ⟨h2,t2,d2,rfl⟩
  by_cases h16:ns.length < 16
  · refine wpAny_execs_cons (wm (ex (n:=0) W.D hard T F noGok _ TT.st0 _ _ _ (.ret (at1 (.bool true))) _ TT.c0 S (if_ex hlen rfl (by rw [decide_eq_true h16]; exact seq_ret ev_bool)) (fun m hm=>by cases hm)) (fun fl s₁ h₁=>?_))
    obtain ⟨v,rfl,k1,r1⟩:=h₁
    exact fin (s0':=s0) (Q0':=Q0) ⟨s0.heap,s0.toks,s0.drawn,rfl⟩ hb0 k1 r1
  · refine wpAny_execs_cons (wm (ex (n:=0) W.D hard T F noGok _ TT.st0 _ _ _ (.next (σ0 ns)) _ TT.c0 S (if_ex hlen rfl (by rw [decide_eq_false h16]; exact seq_nil)) (fun m hm=>by cases hm)) (fun fl s₁ h₁=>?_))
    obtain ⟨rfl,ad1,S1,x1⟩:=h₁
    dsimp only
    refine cps fun Gq hGq=>?_
    obtain ⟨r8,hr8,e8,m8⟩:=ev_mod (k:=8) (by decide) (ev_at (Φ:=Φ15) (σ:=σ0 ns) 0 (by lia) (ev_var rfl))
    refine hGq ?_
    clear hGq
    have ht:aeval Φ15 (.cmp .Eq (.bin .Mod (.idx (.var 0) (.int 0)) (.int 8)) (.int 7)) (σ0 ns) = some (at1 (.bool ((r8:Int) == 7))):=ev_cmp m8 ev_int rfl
    refine wpAny_execs_cons (wpAny_If (wm (te W.D hard T _ _ TT.tst A env _ _ s₁ (at1 (.bool ((r8:Int) == 7))) ((r8:Int) == 7) _ TT.ct (S1.cx F) ht rfl) (fun b s₂ h₂=>?_)))
    obtain ⟨rfl,k2⟩:=h₂
    have S2:=S1.keeps k2
    cases hb7:((r8:Int) == 7) with
    | true =>
      simp only [if_true]
      have htall:rec7 "_law_tall" ∈ recsOf p:=W.hp ▸ (mm7 (n:="_law_tall") (by decide +kernel)).1
      have htn:=(mm7 (n:="_law_tall") (by decide +kernel)).2
      have Tp:=(S2.cx F).top
      refine cps fun Gq hGq=>?_
      obtain ⟨af,of,pm,code,doc,hmg,hof,hdat,zz⟩:=Tp.fn _ htall
      refine hGq ?_
      clear hGq
      rw [htn] at hmg
      refine cps fun Gq hGq=>?_
      obtain ⟨pad,hpad,zz,mpad⟩:=ev_mod (k:=3) (by decide) (ev_at (Φ:=Φ15) (σ:=σ0 ns) 1 (by lia) (ev_var rfl))
      refine hGq ?_
      clear hGq
      refine wpAny_execs_cons (wpAny_Return_some (Call_Name rfl (ld_fn (S2.cx F) TT.kt hmg (by decide) ?_)))
      obtain ⟨hst,hevw⟩:=evs W.D hard T [.bin .Mod (.idx (.var 0) (.int 1)) (.int 3)] (lawCe d) [TT.arg] A env _ _ s₂ [at1 (.int pad)] E TT.ca (S2.cx F) (evs_cons mpad evs_nil)
      rw [starEach_ns hst,backTo_ns]
      refine callWith_function (o:=of) (fd:=docDef (rec7 "_law_tall").name (rec7 "_law_tall").params (rec7 "_law_tall").body (rec7 "_law_tall").scope pm code doc) (evalArgs_plain (wm hevw (fun vs s₃ h₃=>⟨⟨?_,hdat⟩,?_⟩)))
      · exact kheap h₃.1 _ _ hof
      obtain ⟨k3,rl⟩:=h₃
      rw [List.nil_append]
      have S3:=S2.keeps k3
      have hOw:Ow env (fun zz=>False) (σ0 ns) ad1 env.locals:=.inr (.inl rfl)
      have hL0:s0.heap.get? env.locals = none:=S.ob _ (.inr (.inl rfl))
      have rs0:=rl.toRS (S2.cx F).pd.mono
      have rs:RS prog w s₃.heap (fun zz=>True) vs [.int pad]:=rs0.mono fun zz zz=>trivial
      refine wm (tall_call W hpad hmg F.hh F.hd F.hu (Tp.keeps (kheap k3)) (fun zz zz=>trivial) rs hA ?_ (fun b o e=>kheap S3.k0 b o (hb0 b o e)) ?_) (fun v s₄ h₄=>?_)
      · intro e he
        rw [List.mem_singleton] at he
        subst he
        refine cps fun Gq hGq=>?_
        obtain ⟨m,o,es,ep,h1,h2,zz⟩:=S3.ns
        refine hGq ?_
        clear hGq
        exact ⟨by rw [F.fn]; decide,e.locals,o,hfrm,h1,fun vs q=>by rw [h2] at q; cases q⟩
      · intro e he L hL
        rw [List.mem_singleton] at he
        subst he
        rw [hfrm] at hL
        cases hL
        cases q:base0.get? e.locals with
        | none=>rfl
        | some o=>rw [hb0 _ _ q] at hL0; cases hL0
      · obtain ⟨rfl,b4,h4,t4,d4,rfl⟩:=h₄
        refine cps fun Gq hGq=>?_
        obtain ⟨h5,t5,d5,e5,zz⟩:=S3.k0
        refine hGq ?_
        clear hGq
        exact ⟨rfl,b4,h4,t4,d4,by rw [e5]⟩
    | false =>
      simp only [Bool.false_eq_true,if_false]
      refine wpAny_execs_nil ?_
      refine cps fun Gq hGq=>?_
      obtain ⟨x,y,sy,tail,Rr,whole,word,hds,t,res,hpre,hnd,hne,hrok,⟨n,hparse⟩,hRl,fpred,fll⟩:=law_pre ns (by lia)
      refine hGq ?_
      clear hGq
      refine wpAny_execs_app (wm (exs (n:=0) W.D hard T F noGok preS TT.pre _ _ _ _ _ TT.cpre S2 hpre (fun m hm=>by cases hm)) (fun fl s₃ h₃=>?_))
      obtain ⟨rfl,ad3,S3,x3⟩:=h₃
      dsimp only
      refine wpAny_execs_cons (run_stmt (n:=n) (out:=outP res) (outer:=[]) (r1:=⟨encG (gOfR Rr),true,true⟩) (r2:=⟨encS word,true,true⟩) W T (by decide) F S3 hcells hfrm hA (fun e he=>by cases he) ?_ hb0 (fun e he=>by cases he) TT.cas (evs_cons (ev_var rfl) (evs_cons (ev_var rfl) evs_nil)) hparse ?_ TT.tg TT.kg fun s0' s₄ F4 S4 b4 zz shp=>?_)
      · intro i r hi
        exact ⟨sig_all (f:=RV.c) rfl hi,.inr rfl⟩
      · cases res with
        | inl st=>exact .inl ⟨_,rfl,rfl⟩
        | inr m=>exact .inr ⟨_,rfl⟩
      · rw [outP_res,σ1_drop] at S4
        have hst:∀ st,res = .inl st → st.length ≤ lim:=by
          rintro st rfl
          refine cps fun Gq hGq=>?_
          obtain ⟨hix,hlc,zz,zz,zz⟩:=tgt_of TT.tg
          obtain ⟨v,zz,c1,zz⟩:=S4.rd "got" 13 ⟨resA (.inl st),true,true⟩ hix (isLC_var hlc) rfl
          refine hGq ?_
          clear hGq
          have rr:=c1 rfl
          induction (R.t (xs:=[encI st,.str Str.empty]) rr) with
          | tup zz zz zz rs =>
            obtain ⟨v1,v2,rfl,r1,zz⟩:=rs_two rs
            induction (R.l (xs:=st.map fun k:Nat=>PV.int k) r1) with
            | list zz zz z zz=>rw [List.length_map] at z; exact z
        refine wm (exs (n:=0) W.D hard T F4 noGok postS TT.post _ _ _ _ _ TT.cpost S4 (law_post hnd hne hrok hRl fpred fll hst) (fun m hm=>by cases hm)) (fun fl s₅ h₅=>?_)
        obtain ⟨v,rfl,k5,r5⟩:=h₅
        refine fin (s0':=s0') (Q0':=fun zz=>True) ?_ b4 k5 r5
        obtain ⟨h6,t6,d6,rfl⟩:=shp
        refine cps fun Gq hGq=>?_
        obtain ⟨h7,t7,d7,e7,zz⟩:=S3.k0
        refine hGq ?_
        clear hGq
        exact ⟨h6,t6,d6,by rw [e7]⟩
end
end L7
end Mine
namespace Mine
open PySem PySem.SeqAt PySem.Calls PyProof.Rows PySem.W
namespace L7
section
variable {prog:Program} {w:World} {p:Program} {loose:List Str} {mean:ExcName → Option Value} {mg mb:Str → Option Value} {s:Shared} {E:Value → Shared → Prop}
theorem rs_ints {h:Heap} {P:Addr → Prop}:∀ {vs:List Value} {ns:List Int},IntsAre vs ns → RS prog w h P vs (ns.map PV.int)
  | [],[],_=>.nil
  | v :: vs,[],h=>by cases h
  | [],n :: ns,h=>by cases h
  | v :: vs,n :: ns,h=>by
    cases h with
    | cons zz zz h=>exact .cons (.int _ _) (rs_ints h)
theorem law_top {d:DefRec} {C a fa:Addr} {cd:Value} {h₁:Heap} {tk:Nat} {m:Str → Option Value} {vs:List Value} {k:Nat} {ns:List Int} (W:Wk prog w p loose mean mg mb s.heap C) (TT:LawText d)
    (F1:Fr s.heap s.heap.objs.size h₁ m) (hm:m "script" = some (.ref a)) (ha:s.heap.get? a = some (lobj vs k)) (hi:IntsAre vs ns) (hns:ns.length ≤ 63) :
    wpAny (model prog w) (callerA.deeper (envOf d.name d.scope s.heap.objs.size fa cd)) (execs d.body (envOf d.name d.scope s.heap.objs.size fa cd)) (LawEnd s.heap s) E { s with heap:=h₁,toks:=tk }:=by
  have kOf:∀ x,(envOf d.name d.scope s.heap.objs.size fa cd).kindOf x = d.scope.names.lookup x:=fun zz=>rfl
  have F:Fx prog w p loose mean mg mb 16 (callerA.deeper (envOf d.name d.scope s.heap.objs.size fa cd)) (envOf d.name d.scope s.heap.objs.size fa cd) (lawCe d) (fun zz=>True) s:=by
    refine ⟨rfl,by show 1 + claimMargin + 1 + 16 < recursionLimit; decide,by show 4 + 3 + 16 * 16 + 64 < cLine; decide,TT.fn,rfl,rfl,fun x=>rfl,fun y hy=>?_,fun zz zz=>trivial,fun y z c h=>(by cases h),fun y c h=>(by cases h),W.top⟩
    rw [kOf] at hy
    cases hk:d.scope.names.lookup y with
    | none=>rw [hk] at hy; cases hy
    | some kk =>
      rw [hk] at hy
      have hmm:=mem_lookup_kind hk
      cases kk with
      | cell=>exact absurd rfl (TT.nocell _ hmm)
      | free=>exact absurd rfl (TT.nofree _ hmm)
      | _=>cases hy
  have slot:∀ (i:Nat) r,(σ0 ns)[i]? = some (some r) → i = 0 ∧ r = ⟨encZ ns,false,true⟩:=by
    intro i r h
    exact sig_one rfl h
  have ow:∀ b,Ow (envOf d.name d.scope s.heap.objs.size fa cd) (fun zz=>False) (σ0 ns) (fun zz=>0) b → b = s.heap.objs.size:=by
    intro b hb
    rcases hb with h | h | ⟨y,h⟩ | ⟨i,r,h1,h2,zz⟩
    · exact h.elim
    · exact h
    · cases h
    · obtain ⟨zz,rfl⟩:=slot i r h1
      cases h2
  have S:Sx prog w (envOf d.name d.scope s.heap.objs.size fa cd) (lawCe d) (fun zz=>True) s (fun zz=>False) (fun zz=>0) (σ0 ns) { s with heap:=h₁,toks:=tk }:=by
    refine ⟨rfl,⟨h₁,tk,s.drawn,rfl,F1.keep⟩,fun b hb=>by rw [ow b hb]; exact size_none _,fun b hb=>?_,⟨m,F1.ns⟩,fun y c h=>(by cases h),?_,?_,?_,fun b hb=>hb.elim⟩
    · rw [ow b hb]
      refine cps fun Gq hGq=>?_
      obtain ⟨o,zz,zz,ho,zz⟩:=F1.ns
      refine hGq ?_
      clear hGq
      exact ⟨o,ho⟩
    · intro x i r h1 h2 h3
      obtain ⟨rfl,rfl⟩:=slot i r h3
      have hx:x = "script":=by
        have:=lastIdx_get h1
        simp only [lawCe,ceOf,xs_law,ys_law] at this
        simpa using this.symm
      subst hx
      refine ⟨.ref a,.inl ⟨TT.ks,m,F1.ns,hm⟩,fun zz=>?_,fun h=>by cases h⟩
      refine .list ⟨trivial,(fun h=>by cases h),fun zz hw=>?_⟩ (F1.keep _ _ ha) ?_ (rs_ints hi)
      · have:=ow a hw
        rw [this,size_none] at ha; cases ha
      · rw [List.length_map]; delta lim; lia
    · intro i j r r' h1 h2
      obtain ⟨zz,rfl⟩:=slot i r h1
      cases h2
    · intro i r h1 h2
      obtain ⟨zz,rfl⟩:=slot i r h1
      cases h2
  exact law_body W TT F S rfl rfl (Around.frames_deeper rfl) (fun b o e=>e) hns
theorem well_list {P:Params} {h:Heap} {a:Addr} {xs:List PyData} (W:Well P h (.ref a) (ofPy (.list xs))):∃ vs k,h.get? a = some (lobj vs k):=by
  delta ofPy at W
  cases W with
  | list e zz=>exact ⟨_,_,e⟩
end
end L7
end Mine
namespace Mine
open PySem PySem.SeqAt PySem.Calls PyProof.Rows PySem.W
namespace L7
noncomputable def dClsD (d:Data):Option {x:ClassData // d = .cls x}:=match d with
  | .cls x=>some ⟨x,rfl⟩
  | _=>none
abbrev Six:=Option Value × Option Value × Option Value × Option Value × Option Value × Option Value
noncomputable def dSix (l:List (Option Value)):Option {x:Six // l = [x.1,x.2.1,x.2.2.1,x.2.2.2.1,x.2.2.2.2.1,x.2.2.2.2.2]}:=match l with
  | [a,b,c,d,e,f]=>some ⟨(a,b,c,d,e,f),rfl⟩
  | _=>none
noncomputable def excO (h:Heap) (C:Addr) (o:Obj):Bool:=decide (o.cls = .type "type") && got (dClsD o.data) fun cd=>got (dSix o.slots.toList) fun k =>
  decide (k.2.2.2.2.1 = some (.builtin "Exception.__new__")) && (!cd.hasDel && (decide (cd.mro = .ref C :: bmE) && (h.isNs cd.ns && (h.nsMap cd.ns "__str__").isNone)))
noncomputable def dRefD (v:Option Value):Option {x:Addr // v = some (.ref x)}:=match v with
  | some (.ref x)=>some ⟨x,rfl⟩
  | _=>none
noncomputable def excAt (s:Shared):Bool:=got (dRefD (s.heap.nsMap mainGlobals "ParseError")) fun C=>got (dSome (s.heap.get? C)) (excO s.heap C)
def ExcP (mg:Str → Option Value) (h:Heap):Prop:=∃ C,mg "ParseError" = some (.ref C) ∧ ExcC h C bmE "Exception.__new__"
theorem mro_E:mroOf (.type "Exception") = pure bmE:=by rfl
theorem obj_eq {o:Obj} {cd:ClassData} {C:Addr} {k:Six} (h1:o.cls = .type "type") (h2:o.data = .cls cd) (h3:o.slots.toList = [k.1,k.2.1,k.2.2.1,k.2.2.2.1,k.2.2.2.2.1,k.2.2.2.2.2]) (h4:k.2.2.2.2.1 = some (.builtin "Exception.__new__")) (h5:cd.hasDel = false) (h6:cd.mro = .ref C :: bmE) :
    o = excClassObj cd.name cd.qualname C cd.ns cd.bases bmE cd.hasDict cd.slotNames cd.subclasses cd.abstract cd.collection o.dict k.1 k.2.1 k.2.2.1 k.2.2.2.1 k.2.2.2.2.2 "Exception.__new__":=by
  refine cps fun Gq hGq=>?_
  obtain ⟨oc,od,odat,sl⟩:=o
  obtain ⟨l⟩:=sl
  obtain ⟨nm,bs,mro,ns,qn,hd,sn,sub,ab,col,del⟩:=cd
  refine hGq ?_
  clear hGq
  rw [h4] at h3
  cases h1
  cases h2
  cases h5
  cases h6
  exact congrArg (fun l=>(⟨_,od,_,⟨l⟩⟩:Obj)) h3
theorem exc_of (s:Shared) (q:excAt s = true):ExcP (s.heap.nsMap mainGlobals) s.heap:=by
  obtain ⟨C,hC,q0⟩:=got_of q
  refine ⟨C,hC,?_,mro_E,by decide +kernel⟩
  refine cps fun Gq hGq=>?_
  obtain ⟨o,ho,q1⟩:=got_of q0
  obtain ⟨h1,q2⟩:=and2 q1
  obtain ⟨cd,h2,q3⟩:=got_of q2
  obtain ⟨k,h3,q4⟩:=got_of q3
  obtain ⟨h4,q5⟩:=and2 q4
  obtain ⟨h5,q6⟩:=and2 q5
  obtain ⟨h6,q7⟩:=and2 q6
  obtain ⟨h7,h8⟩:=and2 q7
  refine hGq ?_
  clear hGq
  rw [obj_eq (decT h1) h2 h3 (decT h4) (notT h5) (decT h6)] at ho
  exact .mk ho (.of_isNs h7) (isNone_of h8)
theorem ExcP.keeps {mg:Str → Option Value} {h h':Heap} (x:ExcP mg h) (hk:∀ b o,h.get? b = some o → h'.get? b = some o):ExcP mg h':=x.imp fun C q=>⟨q.1,q.2.keeps hk⟩
section
variable {prog:Program} {w:World} {p:Program} {loose:List Str} {mean:ExcName → Option Value} {mg mb:Str → Option Value} {s:Shared}
noncomputable def viewOk (p:Program) (loose:List Str):Bool :=
  bltNames.all (fun x=>!startupNames.contains x && !loose.contains x && !((recsOf p).map (·.name)).contains x && !((litsOf p).map (·.1)).contains x && !((clssOf p loose).map (·.name)).contains x) && (specOf p "ParseError" == some ("Exception.__new__",bmE))
theorem wk_of {h:Heap} (hp:recsOf p = recsOf p7) (hv:viewOk p loose = true) (T:Top p loose mean mg mb h) (X:ExcP mg h):∃ C,Wk prog w p loose mean mg mb h C:=by
  refine cps fun Gq hGq=>?_
  obtain ⟨hv1,hv2⟩:=and2 hv
  obtain ⟨C,hmg,K⟩:=X
  obtain ⟨o,ho,he⟩:=map_of (eq_of_beq hv2)
  have hom:=List.mem_of_find?_eq_some ho
  have hon:=List.find?_some ho
  obtain ⟨C',hown,_⟩:=T.own o hom
  refine hGq ?_
  clear hGq
  have hname:o.name = "ParseError":=by simpa using hon
  rw [hname,show o.newId = "Exception.__new__" from congrArg Prod.fst he,show o.bm = bmE from congrArg Prod.snd he] at hown
  have hCC:C' = C:=by
    have:=hown.bound
    rw [hmg] at this
    cases this; rfl
  subst hCC
  refine ⟨C',hp,⟨fun x hx=>?_⟩,T,hown,K⟩
  have hq:=all_of hv1 hx
  simp only [Bool.and_eq_true,Bool.not_eq_true'] at hq
  refine cps fun Gq hGq=>?_
  obtain ⟨⟨⟨⟨a,b⟩,c⟩,d⟩,e⟩:=hq
  refine hGq ?_
  clear hGq
  exact T.free x (by simpa using a) (by simpa using b) (by simpa using c) (by simpa using d) (by simpa using e)
theorem lobj_at {P:Params} {h:Heap} {a:Addr} {xs:List PyData} {vs:List Value} (W:Well P h (.ref a) (ofPy (.list xs))) (hL:h.IsList a vs.toArray):∃ k,h.get? a = some (lobj vs k):=by
  refine cps fun Gq hGq=>?_
  obtain ⟨vs',k,e⟩:=well_list W
  obtain ⟨o,ho,zz,n,hd⟩:=hL
  refine hGq ?_
  clear hGq
  rw [e] at ho
  cases ho
  delta lobj at hd
  simp only [Data.seq.injEq] at hd
  have:=congrArg Array.toList hd.1
  simp only at this
  subst this
  exact ⟨k,e⟩
end
end L7
end Mine
open PySem PySem.W PyProof.Rows
set_option Elab.async false
namespace Mine
noncomputable def isTop (s : Stmt) : Bool := s.ctorIdx == 0 || s.ctorIdx == 2
noncomputable def view7 : Program := { PySem.Challenge.pw_sx_vaugur_7 with main := { PySem.Challenge.pw_sx_vaugur_7.main with body := PySem.Challenge.pw_sx_vaugur_7.main.body.filter isTop } }
end Mine
set_option maxRecDepth 100000 in
set_option maxHeartbeats 8000000 in
theorem PySem.Challenge.cw_sx_vaugur_7_holds : PySem.Challenge.rw_sx_vaugur_7.Holds := by
  w_on
  refine holds_law (by kernel_rfl) fun said => ?_
  refine holds_open (q := Mine.view7) (loose := []) (Xt := fun s => (xlAt Mine.view7 [] s && recOk (RowW.records (OpenRow.toRowW (OpenLaw.row PySem.Challenge.rw_sx_vaugur_7))) s) && Mine.L7.excAt s) (XP := fun mg h => XL Mine.view7 [] mg h ∧ Mine.L7.ExcP mg h) (Yf := Hook.obs Hook.none) (Ya := Hook.val Hook.none) (YP := Hook.says Hook.none) (N := 1816) ?hl (Hook.of Hook.none) (Hook.keeps Hook.none) (fun s e => ⟨xl_of s (Bool.and_eq_true_iff.mp (Bool.and_eq_true_iff.mp e).1).1, Mine.L7.exc_of s (Bool.and_eq_true_iff.mp e).2⟩) (fun mg h h' x hk => ⟨XL.keeps mg h h' x.1 hk, x.2.keeps hk⟩) (by rfl) (by rfl) (by rfl) (fun s e => recFacts_of (Bool.and_eq_true_iff.mp (Bool.and_eq_true_iff.mp e).1).2) (by rfl) (by first | assumption | decide +kernel) (by decide +kernel) ⟨rfl, rfl, rfl, rfl, rfl, by decide +kernel⟩ ?hw ?hc
  case hl => (intro w; kernel_rfl)
  case hw => w_witness2
  case hc =>
    intro w s₀ s₁ mg mb G Y fa o pm cd doc dV kV ho hd hcd hD hmg hg args vals as hpre hlay hrd hwl hlo
    have KE := G.X.2
    k_behind G ho hd hcd hD hmg hpre hlay hrd hwl hlo cd
    rename_i X V T B TE TW w9 w8 M w7 w6 ns hs hlay0 hL1 hr1 hl2 as4 as3 a vs as0 hL ra w1 r0 hI hr hcond1 hcond0 K0 h1 F N0
    obtain ⟨C, W⟩ := Mine.L7.wk_of (prog := PySem.Challenge.rw_sx_vaugur_7.row.prog) (w := w) (by rfl) (by decide +kernel) T KE
    obtain ⟨k, hk⟩ := Mine.L7.lobj_at w1 hL
    refine wpAny_mono (Mine.L7.law_top W Mine.L7.lt7 F rfl hk hI (by omega)) (fun fl s' h => ?_) (fun _ _ e => e)
    obtain ⟨rfl, hst, hh, tk, dr, rfl⟩ := h
    show GoodW _ _ _ _ _ (.ok (.ret (.bool true))) _
    refine ⟨.inl ⟨_, .bool true, [], rfl, ?hn, .bool true, ?hp, ?hu⟩, hst, rfl, hg⟩
    case hn => exact raisesW_false (by wrow_none_raised)
    case hu => exact unshared_nil
    case hp => (refine' postW_of ?zs ?zv ?ze; (case zs => o_shape); (case zv => wtm_val); (case ze => first | rfl | w_fin))
