import PyProof.Rows.All
import PyProof.CodeObjX
import PyProof.OldK
import PyProof.ForAny
import PyProof.Cells
import PyProof.ToksMono
import PyProof.ConsumeS
import PyProof.CollectWalk
import PyProof.CompFree
import PyProof.ListOps
import PyProof.DictList
import PyProof.DictRoads
import PyProof.DictDisplay
import PyProof.EqAt
import PyProof.EqKinds
import PyProof.NeKinds
import PyProof.FactsAll.set_1
import PyProof.SliceStr2
import PyProof.StrBlockL
import PyProof.RangeIter
import PyProof.GenCompD
import PyProof.ListCopy
import PyProof.ListStr
import PyProof.MeetsStr3
import PyProof.Rows.RowBridgeG
import PyProof.StrLawsIdx
import PyProof.StrBlockH
import PyProof.Rows.Many
import PyProof.Rows.Top
import PyProof.TupleOps
import PyProof.SliceMore
import PyProof.StrReplace2
import PyProof.SetRoads
import PyProof.Rows.SetFrom
import KE.KItem
import KE.KEqDict
import OpenK.ZHead
import Wide.FinOn
import OpenK.AllK
import Wide.All
import PySem.Challenge.RW_sx_vaugur_8
open Nat renaming le_trans->EK,le_refl->ER,lt_of_le_of_lt->ES,lt_of_lt_of_le->EX,lt_succ_self->E7,add_le_add->E8,le_add_right->Ff,zero_le->Fi,le_of_eq->Fm,add_le_add_left->Fo,add_sub_cancel_left->Fu,le_succ->Fv,succ_le_succ->Fz,le_of_lt_succ->FB,mul_le_mul_left->FD,ne_of_lt->FG,lt_succ_of_lt->FI,le_add_left->FM,not_lt_zero->FP,le_of_lt->FS,add_comm->FV,lt_trans->FZ,lt_succ_of_le->F2,add_le_add_right->F4,add_assoc->Ga,le_antisymm->Gb,not_lt->Gc,min_le_right->Ge,lt_or_ge->Gp,lt_irrefl->Gr,lt_of_succ_lt_succ->Gx,le_max_right->Gz,le_max_left->GI,lt_of_succ_lt->GP,le_of_succ_le_succ->GX,sub_self->G0,min_eq_left->G5,zero_add->Hc,sub_lt_sub_left->Hi,add_sub_cancel->Ho,add_right_comm->Hq,succ_pos->Hv,le_succ_of_le->Hz,le_of_ble_eq_true->HF,succ_lt_succ->HG,sub_le_sub_right->HK,mul_lt_mul_of_pos_left->HU,add_lt_add->HV,sub_le->HY,lt_add_of_pos_right->Ij,exists_eq_add_of_le->Ik,min_eq_right->Ir,blt->Ix,le_of_sub_eq_zero->IA,eq_of_beq_eq_true->IC,mul_le_mul->IF,le_zero->IG,beq->IH,add_lt_add_left->II,sub_le_sub_left->IK,mul_succ->IR,zero_lt_succ->IU,one_mul->I1,mul_one->I2,mul_assoc->Jd,succ_add->Jh,pow_zero->Jj,pow_succ->Jk,mul_comm->Jl,sub_zero->Jn,min_self->Jp,ne_of_gt->Jq,le_total->Jr
open Option renaming none->EL,map_eq_some_iff->F6
open List renaming mem_singleton->EM,length_map->EN,mem_cons_of_mem->EO,mem_cons_self->EP,length_append->EQ,mem_cons->EU,filter_append->EV,getElem?_eq_getElem->EW,getElem?_eq_some_iff->EY,getElem?_map->EZ,mem_append->E0,mem_map_of_mem->E4,mem_map->E9,mem_of_getElem?->Fa,append_nil->Fb,map_append->Fc,range->Fd,map_map->Fe,getElem?_append_right->Fg,mem_filter->Fh,append_assoc->Fj,length_range->Fk,length_cons->Fl,length_filter_le->Fn,map_cons->Fp,getElem?_append_left->Fq,all_eq_true->Fs,replicate->Fw,exists_mem_of_ne_nil->FA,not_mem_nil->FC,size_toArray->FJ,mem_range->FL,getElem?_eq_none->FN,cons_ne_nil->FQ,lookup_cons->FR,mem_of_mem_drop->FU,length_drop->FW,mem_flatMap->F0,length_eq_zero_iff->F3,all_cons->F5,map_congr_left->F8,length_take->Gd,flatMap_cons->Gg,pairwise_cons->Gh,filter_cons->Gl,mem_append_left->Gs,nil_append->Gv,any_eq_true->GA,take_append_drop->GC,contains_iff_mem->GD,drop_eq_getElem_cons->GF,nodup_cons->GK,all_map->GM,getElem?_set->GN,getElem?_range->GT,getElem_mem->GU,take_length->GV,zip_cons_cons->GZ,drop_eq_nil_of_le->G3,length->G7,getD_eq_getElem?_getD->Ha,getElem?_eq_none_iff->Hh,getElem_of_mem->Hj,replicate_succ->Hk,map_drop->Hl,foldl_cons->Hn,ne_nil_of_mem->Hr,not_lt->Hs,nodup_append->Hu,filter_eq_nil_iff->Hw,filter_congr->Hx,ext_getElem?->Hy,take_add_one->HA,take_of_length_le->HB,set_getElem_self->HC,length_singleton->HD,mem_append_right->HE,mem_of_mem_take->HL,length_nil->HM,filter_map->HN,filter_eq_self->HP,length_pos_iff->HQ,nodup_nil->HT,set_cons_succ->HW,set_cons_zero->HX,getElem_range->H6,foldl_append->H9,flatten_cons->Ia,filterMap_cons_some->Ic,pairwise_singleton->Ig,prefix_refl->Ii,cons_append->Il,filter_cons_of_pos->It,filter_cons_of_neg->Iu,of_mem_zip->Iy,length_set->Iz,flatMap_append->IJ,filter_sublist->IL,any_cons->IP,reverse_cons->IT,map_flatMap->IV,drop_append->IW,ext_getElem->IY,countP_cons->I0,take_left'->I5,forIn_cons->I7,drop_drop->I8,drop_zero->I9,take_zero->Ja,map_take->Jb,take_nil->Jf,any_map->Ji
open Option.some renaming inj->ET
open Int renaming natCast_nonneg->Fy,toNat_of_nonneg->FE,toNat_natCast->FT,ofNat_le->Go,ofNat_lt->Gw,not_lt->GB,add_nonneg->G9,le_trans->He,lt_of_not_ge->HI,lt_of_le_of_lt->HZ,eq_ofNat_of_zero_le->Ip,toNat_lt->Iv,add_lt_add_left->IM,lt_of_lt_of_le->IQ,lt_trans->IS,natCast_pos->I6,le_natAbs->Je
open Bool renaming false_eq_true->FK,not_eq_true'->FX,and_true->FY,and_false->Gf,and_eq_true->Gj,false_ne_true->Gk,true_and->Gy,eq_iff_iff->GL,eq_false_iff->GO,and_eq_true_iff->GQ,or_false->GR,false_or->G6,false_and->G8,not_not->Hd,or_eq_true_iff->HR,noConfusion->Ih,or_true->Iw,and_eq_false_iff->IB,decide_or->ID,not_false->IE,or_eq_true->I4,not_true->Jc
open Classical renaming byContradiction->FO,choose_spec->F9,choose->Gi,em->Jm
open Array renaming length_toList->F1,getElem?_eq_getElem->F7,getElem?_toList->GE,append_empty->G4,eq_empty_of_size_eq_zero->HJ,toList_push->Ib,toList_inj->Ie,toList->Jo
open PySem.Challenge renaming pw_sx_vaugur_8->Gm,rw_sx_vaugur_8->Gn
open List.cons renaming injEq->Gu,inj->GS
open And renaming intro->GW
open Nat.succ renaming inj->GY
open PyProof.Rows renaming getItem_tuple->Hb,callWith_type->H5,Assign_Tuple->H7,in_str->IN
open PySem renaming Fin->Ht,Keeps->I3
open ForInStep renaming yield->HO
open PySem.StrLaws renaming sliceText_nat->HS,found_one->Iq,sliceIdx_none_lo->IZ
open List.Sublist renaming map->IX
open LawfulMonad renaming pure_bind->Jg
set_option Elab.async false
set_option maxRecDepth 100000
set_option linter.all false
set_option bootstrap.genMatcherCode false
set_option genSizeOf false
set_option genInjectivity false
set_option tactic.hygienic false
set_option backward.match.sparseCases false
namespace Mine
open PySem
theorem cps{P:Prop}(h:∀G:Prop,(P->G)->G):P:=h P λx=>x
inductive PV where
 | none
 | bool (b:Bool)
 | int (i:Int)
 | str (x:Str)
 | list (ds:List PV)
 | tup (ds:List PV)
 | dict (ks:List Str) (ds:List PV)
 | rng (a b c:Int)
noncomputable def az:Nat:=1000000
noncomputable def PV.atom:PV->Bool
 | .none | .bool θ | .int θ | .str θ=>true
 | _=>false
noncomputable def aT{α:Type}(ks:List Str)(ds:List α)(k:Str):Option α:=match ks,ds with
 | x::ks,d::ds=>if x=k then some d else aT ks ds k
 | θ,ξ=>EL
theorem look_cons{α:Type}(x:Str)(ks:List Str)(d:α)(ds:List α)(k:Str):aT (x::ks) (d::ds) k=if x=k then some d else aT ks ds k:=rfl
noncomputable def put{α:Type}(ks:List Str)(ds:List α)(k:Str)(d:α):List Str×List α :=
 if k∈ks then(ks,(ks.zip ds).map λp=>if p.1=k then d else p.2)else(ks++[k],ds++[d])
noncomputable def val{α:Type}{p:α->Prop}(o:Option {x:α // p x}):Option α:=o.map (·.1)
theorem en{α:Type}{p:α->Prop}{o:Option {x:α // p x}}{x:α}(h:val o=some x):p x:=by
 cases o with
 | none=>cases h
 | some y=>cases h;exact y.2
noncomputable def dL(d:PV):Option (List PV):=val (p:=λy=>d=.list y) (match d with | .list y=>some ⟨y,rfl⟩ | _=>EL)
noncomputable def dT(d:PV):Option (List PV):=val (p:=λy=>d=.tup y) (match d with | .tup y=>some ⟨y,rfl⟩ | _=>EL)
noncomputable def dB(d:PV):Option Bool:=val (p:=λy=>d=.bool y) (match d with | .bool y=>some ⟨y,rfl⟩ | _=>EL)
noncomputable def dI(d:PV):Option Int:=val (p:=λy=>d=.int y) (match d with | .int y=>some ⟨y,rfl⟩ | _=>EL)
noncomputable def dS(d:PV):Option Str:=val (p:=λy=>d=.str y) (match d with | .str y=>some ⟨y,rfl⟩ | _=>EL)
noncomputable def dU(d:PV):Option Unit:=val (p:=λzz=>d=.none) (match d with | .none=>some ⟨(),rfl⟩ | _=>EL)
noncomputable def dD(d:PV):Option (List Str×List PV):=val (p:=λy=>d=.dict y.1 y.2) (match d with | .dict ks ds=>some ⟨(ks,ds),rfl⟩ | _=>EL)
theorem dL_eq{d:PV}{y}(h:dL d=some y):d=.list y:=en (p:=λy=>d=.list y) h
theorem lM{d:PV}{y}(h:dT d=some y):d=.tup y:=en (p:=λy=>d=.tup y) h
theorem rI{d:PV}{y}(h:dB d=some y):d=.bool y:=en (p:=λy=>d=.bool y) h
theorem dI_eq{d:PV}{y}(h:dI d=some y):d=.int y:=en (p:=λy=>d=.int y) h
theorem dR{d:PV}{y}(h:dS d=some y):d=.str y:=en (p:=λy=>d=.str y) h
theorem zk{d:PV}{y}(h:dU d=some y):d=.none:=en (p:=λzz=>d=.none) h
theorem dD_eq{d:PV}{y:List Str×List PV}(h:dD d=some y):d=.dict y.1 y.2:=en (p:=λy:List Str×List PV=>d=.dict y.1 y.2) h
inductive Bd{α β:Type}(o:Option α)(f:α->Option β)(b:β):Prop
 | mk (a:α) (h:o=some a) (k:f a=some b):Bd o f b
theorem ac{α β:Type}{o:Option α}{f:α->Option β}{b:β}(h:o.bind f=some b):Bd o f b:=by
 cases o with
 | none=>cases h
 | some a=>exact⟨a,rfl,h⟩
inductive Mp{α β:Type}(o:Option α)(f:α->β)(b:β):Prop
 | mk (a:α) (h:o=some a) (k:f a=b):Mp o f b
theorem aq{α β:Type}{o:Option α}{f:α->β}{b:β}(h:o.map f=some b):Mp o f b:=by
 cases o with
 | none=>cases h
 | some a=>exact⟨a,rfl,ET h⟩
theorem aV{α:Type}{c:Prop}[Decidable c]{x:α}{r:α}(h:(if c then some x else EL)=some r):c/\x=r:=by
 by_cases hc:c
 .rw[if_pos hc]at h;exact⟨hc,ET h⟩
 .rw[if_neg hc]at h;cases h
theorem ifo_of{α:Type}{c:Prop}[Decidable c]{x:Option α}{r:α}(h:(if c then x else EL)=some r):c/\x=some r:=by
 by_cases hc:c
 .rw[if_pos hc]at h;exact⟨hc,h⟩
 .rw[if_neg hc]at h;cases h
mutual
noncomputable def aeq:PV->PV->Option Bool
 | .none,d=>if(dU d).isSome then some true else(dL d).map λzz=>false
 | .bool a,d=>(dB d).map λb=>a==b
 | .int a,d=>(dI d).map λb=>a==b
 | .str a,d=>(dS d).map λb=>a==b
 | .list xs,d=>if(dU d).isSome then some false else(dL d).bind (eC xs)
 | .tup xs,d=>(dT d).bind (eC xs)
 | .dict θ ξ,ζ=>EL
 | .rng θ ξ ζ,ψ=>EL
noncomputable def eC:List PV->List PV->Option Bool
 | [],ys=>some ys.isEmpty
 | x::xs,ys=>match ys with
  | []=>some false
  | y::ys=>(aeq x y).bind λa=>(eC xs ys).bind λb=>some (a&&b)
end
theorem sJ(x y:PV)(xs ys:List PV):eC (x::xs) (y::ys)=(aeq x y).bind λa=>(eC xs ys).bind λb=>some (a&&b):=rfl
mutual
noncomputable def PV.depth:PV->Nat
 | .list xs=>PV.depths xs+1
 | .tup xs=>PV.depths xs+1
 | .dict θ xs=>PV.depths xs+1
 | _=>0
noncomputable def PV.depths:List PV->Nat
 | []=>0
 | x::xs=>max x.depth (PV.depths xs)
end
theorem dpC(x:PV)(xs:List PV):PV.depths (x::xs)=max x.depth (PV.depths xs):=rfl
structure RV where
 d:PV
 f:Bool
 c:Bool
noncomputable def at1(d:PV):RV:=⟨d,true,true⟩
noncomputable def part(r:RV)(d:PV):RV:=if d.atom then⟨d,true,true⟩else⟨d,r.f,r.c⟩
noncomputable def newl(f c:Bool)(ds:List PV):Option RV:=if ds.length<=az then some (if ds.all PV.atom then⟨.list ds,true,true⟩else⟨.list ds,f,c⟩)else EL
set_option genInjectivity false in
set_option genSizeOf false in
set_option genCtorIdx false in
inductive SExpr where
 | var (i:Nat)
 | glob (x:Str)
 | none
 | bool (b:Bool)
 | int (i:Int)
 | str (x:Str)
 | list (es:List SExpr)
 | tup (es:List SExpr)
 | dict (ks:List Str) (es:List SExpr)
 | bin (op:Operator) (a b:SExpr)
 | idx (a i:SExpr)
 | sfrom (a i:SExpr)
 | supto (a i:SExpr)
 | smid (a i k:SExpr)
 | cmp (op:CmpOp) (a b:SExpr)
 | isN (neg:Bool) (a:SExpr)
 | band (es:List SExpr)
 | bor (es:List SExpr)
 | not (a:SExpr)
 | ife (t a b:SExpr)
 | call (f:Str) (es:List SExpr)
 | len (a:SExpr)
 | sorted (a:SExpr)
 | all (a:SExpr)
 | any (a:SExpr)
 | gany (lit:Str) (it:SExpr)
 | range (a:SExpr)
 | get (o k d:SExpr)
 | comp (elt it:SExpr)
 | compC (elt it:SExpr)
 | compIf (elt it cond:SExpr)
 | comp2 (elt it it2:SExpr)
 | sset (elt it cond:SExpr)
 | sset2 (elt it it2 cond:SExpr)
 | listOf (a:SExpr)
 | mkR (x:Str) (e:SExpr)
 | cpy (sl:Bool) (i:Nat)
 | replR (f r k:Nat)
noncomputable def addS(xs:List Str)(x:Str):List Str:=if x∈xs then xs else xs++[x]
noncomputable def metS(xs:List Str):List Str:=xs.foldl addS []
noncomputable def jY(a b:Str):Bool:=!decide (b.cps.toList<a.cps.toList)
noncomputable def sQ(x:Str):List Str->List Str
 | []=>[x]
 | y::ys=>if jY x y then x::y::ys else y::sQ x ys
noncomputable def bv:List Str->List Str
 | []=>[]
 | x::xs=>sQ x (bv xs)
noncomputable def cu:List PV->Option (List Str)
 | []=>some []
 | d::ds=>(dS d).bind λx=>(cu ds).map (x::·)
noncomputable def bC:List PV->Option (List Bool)
 | []=>some []
 | d::ds=>(dB d).bind λx=>(bC ds).map (x::·)
noncomputable def AI(ds:List PV):Option (PV×Bool):=(val (p:=λy=>ds=[y]) (match ds with | [d]=>some ⟨d,rfl⟩ | _=>EL)).bind λd=>(dL d).bind λl=>(bC l).map λzz=>(.bool true,true)
noncomputable def Ax{α:Type}(l:List α):Option (α×α):=val (p:=λy=>l=[y.1,y.2]) (match l with | [a,b]=>some ⟨(a,b),rfl⟩ | _=>EL)
theorem sy{α:Type}{l:List α}{y:α×α}(h:Ax l=some y):l=[y.1,y.2]:=en (p:=λy:α×α=>l=[y.1,y.2]) h
theorem fc(xs:List Str):cu (xs.map PV.str)=some xs:=by
 induction xs with
 | nil=>rfl
 | cons x xs ih=>show((cu (xs.map PV.str)).map (x::·))=_;rw[ih];rfl
theorem lu(xs:List Str):PV.depths (xs.map PV.str)=0:=by
 induction xs with
 | nil=>rfl
 | cons x xs ih=>show max 0 (PV.depths (xs.map PV.str))=0;rw[ih];rfl
theorem iT(xs:List Str):(xs.map PV.str).all PV.atom=true:=by
 induction xs with
 | nil=>rfl
 | cons x xs ih=>exact ih
noncomputable def eB(a:Int):Nat->List PV
 | 0=>[]
 | n+1=>.int a::eB (a+1) n
noncomputable def aJ:PV->Option (List PV)
 | .list ds=>some ds
 | .tup ds=>some ds
 | .rng a b c=>if c=1 then some (eB a (b - a).toNat)else EL
 | _=>EL
noncomputable def ky(x:PV):List PV->Option Bool
 | []=>some false
 | y::ys=>(aeq y x).bind λa=>(ky x ys).bind λb=>some (a||b)
noncomputable def zr(x y:RV):Option RV:=match x.d with
 | .int a=>(dI y.d).map λb=>at1 (.int (a+b))
 | .str a=>(dS y.d).bind λb=>if a.length+b.length<=az then some (at1 (.str (a++b)))else EL
 | .list xs=>(dL y.d).bind λys=>newl (x.f&&y.f) (x.c&&y.c) (xs++ys)
 | _=>EL
noncomputable def zo(x y:RV):Option RV:=match x.d with
 | .int a=>(dI y.d).bind λb=>if a.natAbs<=2 ^ 31/\b.natAbs<=2 ^ 31 then some (at1 (.int (a*b)))else EL
 | .list xs=>(dI y.d).bind λn=>if xs.length*n.toNat<=az/\n.natAbs<=az then newl x.f x.c (Fw n.toNat xs).flatten else EL
 | _=>EL
noncomputable def og(op:Operator)(x y:RV):Option RV:=match op with
 | .Add=>zr x y
 | .Mult=>zo x y
 | .Sub=>(dI x.d).bind λa=>(dI y.d).map λb=>at1 (.int (a - b))
 | .Mod=>(dI x.d).bind λa=>(dI y.d).bind λb=>if b≠0 then some (at1 (.int (a.fmod b)))else EL
 | _=>EL
noncomputable def d4(r:RV)(i:PV):Option RV:=match r.d with
 | .list ds=>(dI i).bind λk=>if 0<=k then(ds[k.toNat]?).map (part r)else if -(ds.length:Int)<=k then(ds[(k+ds.length).toNat]?).map (part r)else EL
 | .tup ds=>(dI i).bind λk=>if 0<=k then(ds[k.toNat]?).map (part r)else EL
 | .dict ks ds=>(dS i).bind λk=>(aT ks ds k).map (part r)
 | .str x=>(dI i).bind λk=>if 0<=k/\k<=1000000 then(x.cps[k.toNat]?).map λc=>at1 (.str ⟨#[c]⟩)else EL
 | _=>EL
noncomputable def hitAt(ks:List Str)(ds:List PV)(p:Str×PV):Bool:=((aT ks ds p.1).bind λd=>aeq p.2 d).getD false
noncomputable def pq(a b:List Str×List PV):Bool:=decide (a.1.length=b.1.length)&&(a.1.zip a.2).all (hitAt b.1 b.2)
noncomputable def ane(x y:PV):Option Bool:=if(aeq x y).isSome then(aeq x y).map (!·)else
 (dD x).bind λa=>(dD y).bind λb=>if pq a b then some false else EL
noncomputable def nA(x y:Str):Option Bool:=if x.length=1 then some (x.cps.toList.all λc=>y.cps.toList.contains c)else EL
noncomputable def ty(x y:PV):Option Bool:=match y with
 | .list ds=>if PV.depths ds+x.depth<=40 then ky x ds else EL
 | .tup ds=>if PV.depths ds+x.depth<=40 then ky x ds else EL
 | .dict ks ds=>(dS x).map λk=>(aT ks ds k).isSome
 | .str y=>(dS x).bind λk=>nA k y
 | _=>EL
noncomputable def vB(lit:Str):List PV->Option Bool
 | []=>some false
 | d::ds=>(ty d (.str lit)).bind λb=>(vB lit ds).map (b||·)
noncomputable def bf(op:CmpOp)(x y:PV):Option Bool:=match op with
 | .In=>ty x y
 | .NotIn=>(ty x y).map (!·)
 | .Eq=>if x.depth+y.depth<=40 then aeq x y else EL
 | .NotEq=>if x.depth+y.depth<=40 then ane x y else EL
 | .Lt=>(dI x).bind λa=>(dI y).map λb=>decide (a<b)
 | .LtE=>(dI x).bind λa=>(dI y).map λb=>decide (a<=b)
 | .Gt=>(dI x).bind λa=>(dI y).map λb=>decide (a>b)
 | .GtE=>(dI x).bind λa=>(dI y).map λb=>decide (a>=b)
 | _=>EL
noncomputable def yq:PV->Option Nat
 | .list ds=>some ds.length
 | .tup ds=>some ds.length
 | .str x=>if x.length<=az then some x.length else EL
 | _=>EL
noncomputable def gy(x:Str):List Str:=x.cps.toList.map λc=>⟨#[c]⟩
noncomputable def bk(c:Nat)(z:List Nat):List Nat->List Nat
 | []=>[]
 | x::l=>if x=c then z++l else x::bk c z l
noncomputable def qx(x y z:Str):Option Str:=(y.cps.toList.head?).bind λc=>if y.length=1/\x.length+z.length<=100 then some ⟨(bk c z.cps.toList x.cps.toList).toArray⟩else EL
noncomputable def fY(x:RV):Option RV:=match x.d with
 | .list ds=>newl x.f x.c ds
 | .tup ds=>newl x.f x.c ds
 | .str t=>if t.length<=1000 then some (at1 (.list ((gy t).map PV.str)))else EL
 | _=>EL
noncomputable def Am(x:RV)(k:Int):Option RV:=match x.d with
 | .list ds=>if 0<=k then newl x.f x.c (ds.take k.toNat)else EL
 | .str t=>if 0<=k/\k<=1000000 then some (at1 (.str ⟨t.cps.extract 0 k.toNat⟩))else EL
 | _=>EL
noncomputable def ci:List PV->Option Str
 | []=>some Str.empty
 | d::ds=>(dS d).bind λx=>(ci ds).map (x++·)
noncomputable def aU(go:PV->Option (List RV)):List PV->Option (List RV)
 | []=>some []
 | d::ds=>(go d).bind λr=>(aU go ds).bind λrest=>some (r++rest)
noncomputable def newlR(rs:List RV):Option RV:=newl (rs.all (·.f)) (rs.all (·.c)) (rs.map (·.d))
noncomputable def aX(d:PV):Option Bool:=dB d
theorem bI{d:PV}{k:Bool}(h:aX d=some k):d=.bool k:=rI h
noncomputable def kK(rs:List RV):Option RV:=(cu (rs.map (·.d))).bind λxs=>if(metS xs).length<5 then some (at1 (.list ((bv (metS xs)).map PV.str)))else EL
noncomputable def n4:List PV->Bool
 | [.str θ,.list ξ]=>true
 | _=>false
noncomputable def rG(ds:List PV):Option (Str×List PV):=(Ax ds).bind λz=>(dS z.1).bind λx=>(dL z.2).map λl=>(x,l)
noncomputable def ud:List Str:=["S","A","T"]
noncomputable def z9(t:Str)(q:Str×List PV):Option RV:=if ud.contains q.1 then(ci q.2).bind λz=>if q.2.length<=1000/\z.length<=1000 then(qx t q.1 z).map λy=>at1 (.str y)else EL else EL
abbrev FTab:=Str->List PV->Option (PV×Bool)
abbrev Sig:=List (Option RV)
mutual
noncomputable def aa(Φ:FTab):SExpr->Sig->Option RV
 | .var i,σ=>(σ[i]?).join
 | .glob x,θ=>(Φ x []).map λp=>⟨p.1,false,true⟩
 | .none,θ=>some (at1 .none)
 | .bool b,θ=>some (at1 (.bool b))
 | .int i,θ=>some (at1 (.int i))
 | .str x,θ=>some (at1 (.str x))
 | .list es,σ=>(bB Φ es σ).bind newlR
 | .tup es,σ=>(bB Φ es σ).bind λrs=>if rs.length<=az/\n4 (rs.map (·.d))=false then some ⟨.tup (rs.map (·.d)),rs.all (·.f),rs.all (·.c)⟩else EL
 | .dict ks es,σ=>(bB Φ es σ).bind λrs=>if ks.Nodup/\ks.length=rs.length/\rs.length<=100 then some ⟨.dict ks (rs.map (·.d)),rs.all (·.f),rs.all (·.c)⟩else EL
 | .bin op a b,σ=>(aa Φ a σ).bind λx=>(aa Φ b σ).bind λy=>og op x y
 | .idx a i,σ=>(aa Φ a σ).bind λx=>(aa Φ i σ).bind λy=>d4 x y.d
 | .sfrom a i,σ=>(aa Φ a σ).bind λx=>(aa Φ i σ).bind λy=>(dL x.d).bind λds=>(dI y.d).bind λk=>if 0<=k then newl x.f x.c (ds.drop k.toNat)else EL
 | .supto a i,σ=>(aa Φ a σ).bind λx=>(aa Φ i σ).bind λy=>(dI y.d).bind λk=>Am x k
 | .smid a i j,σ=>(aa Φ a σ).bind λx=>(aa Φ i σ).bind λy=>(aa Φ j σ).bind λz=>(dS x.d).bind λt=>(dI y.d).bind λk=>(dI z.d).bind λl=>if(0<=k/\k<=1000000)/\(0<=l/\l<=1000000)then some (at1 (.str ⟨t.cps.extract k.toNat l.toNat⟩))else EL
 | .cmp op a b,σ=>(aa Φ a σ).bind λx=>(aa Φ b σ).bind λy=>(bf op x.d y.d).map λk=>at1 (.bool k)
 | .isN neg a,σ=>(aa Φ a σ).map λx=>at1 (.bool ((dU x.d).isSome != neg))
 | .band es,σ=>(fW Φ es σ).map λk=>at1 (.bool k)
 | .bor es,σ=>(jN Φ es σ).map λk=>at1 (.bool k)
 | .not a,σ=>(aa Φ a σ).bind λx=>(aX x.d).map λk=>at1 (.bool !k)
 | .ife t a b,σ=>(aa Φ t σ).bind λx=>(aX x.d).bind λk=>if k then aa Φ a σ else aa Φ b σ
 | .call f es,σ=>(bB Φ es σ).bind λrs=>(Φ f (rs.map (·.d))).map λp=>⟨p.1,p.2||p.1.atom||rs.all (·.f),p.2||p.1.atom||rs.all (·.c)⟩
 | .len a,σ=>(aa Φ a σ).bind λx=>(yq x.d).map λn=>at1 (.int (Int.ofNat n))
 | .sorted a,σ=>(aa Φ a σ).bind λx=>(dL x.d).bind λds=>(cu ds).bind λxs=>if xs.length<64 then some (at1 (.list ((bv xs).map PV.str)))else EL
 | .all a,σ=>(aa Φ a σ).bind λx=>(dL x.d).bind λds=>(bC ds).map λxs=>at1 (.bool (xs.all id))
 | .any a,σ=>(aa Φ a σ).bind λx=>(dL x.d).bind λds=>(bC ds).map λxs=>at1 (.bool (xs.any id))
 | .gany lit it,σ=>(aa Φ it σ).bind λx=>(aJ x.d).bind λds=>(vB lit ds).map λk=>at1 (.bool k)
 | .range a,σ=>(aa Φ a σ).bind λx=>(dI x.d).bind λn=>if 0<=n/\n<=az then some ⟨.rng 0 n 1,true,true⟩else EL
 | .get o k d,σ=>(aa Φ o σ).bind λx=>(aa Φ k σ).bind λy=>(aa Φ d σ).bind λz=>(dD x.d).bind λq=>(dS y.d).map λk=>((aT q.1 q.2 k).map (part x)).getD z
 | .comp elt it,σ=>(aa Φ it σ).bind λx=>(aJ x.d).bind λds=>(aU (λd=>(aa Φ elt (σ++[some (part x d)])).map λr=>[r]) ds).bind newlR
 | .compC elt it,σ=>(aa Φ it σ).bind λx=>(aJ x.d).bind λds=>(aU (λd=>(aa Φ elt (σ++[some (part x d)])).map λr=>[r]) ds).bind newlR
 | .compIf elt it cond,σ=>(aa Φ it σ).bind λx=>(aJ x.d).bind λds=>(aU (λd=>(aa Φ cond (σ++[some (part x d)])).bind λt=>(aX t.d).bind λk=>if k then(aa Φ elt (σ++[some (part x d)])).map λr=>[r]else some []) ds).bind newlR
 | .comp2 elt it it2,σ=>(aa Φ it σ).bind λx=>(aJ x.d).bind λds =>
  (aU (λd=>(aa Φ it2 (σ++[some (part x d),EL])).bind λy=>(aJ y.d).bind λes=>aU (λe=>(aa Φ elt (σ++[some (part x d),some (part y e)])).map λr=>[r]) es) ds).bind newlR
 | .sset elt it cond,σ=>(aa Φ it σ).bind λx=>(aJ x.d).bind λds=>(aU (λd=>(aa Φ cond (σ++[some (part x d)])).bind λt=>(aX t.d).bind λk=>if k then(aa Φ elt (σ++[some (part x d)])).map λr=>[r]else some []) ds).bind kK
 | .sset2 elt it it2 cond,σ=>(aa Φ it σ).bind λx=>(aJ x.d).bind λds =>
  (aU (λd=>(aa Φ it2 (σ++[some (part x d),EL])).bind λy=>(aJ y.d).bind λes=>aU (λe=>(aa Φ cond (σ++[some (part x d),some (part y e)])).bind λt=>(aX t.d).bind λk=>if k then(aa Φ elt (σ++[some (part x d),some (part y e)])).map λr=>[r]else some []) es) ds).bind kK
 | .listOf a,σ=>(aa Φ a σ).bind fY
 | .mkR x e,σ=>(aa Φ e σ).bind λy=>(dL y.d).bind λds=>some ⟨.tup [.str x,.list ds],y.f,y.c⟩
 | .cpy θ i,σ=>(σ[i]?).join.bind λy=>(dT y.d).bind λds=>(rG ds).bind λq=>if q.2.all PV.atom then some ⟨.tup [.str q.1,.list q.2],true,true⟩else EL
 | .replR f r k,σ=>(σ[f]?).join.bind λx=>(σ[r]?).join.bind λy=>(σ[k]?).join.bind λz=>(dS x.d).bind λt=>(dL y.d).bind λds=>(dI z.d).bind λj=>if 0<=j then(ds[j.toNat]?).bind λd=>(dT d).bind λes=>(rG es).bind λq=>z9 t q else EL
noncomputable def bB(Φ:FTab):List SExpr->Sig->Option (List RV)
 | [],θ=>some []
 | e::es,σ=>(aa Φ e σ).bind λr=>(bB Φ es σ).bind λrs=>some (r::rs)
noncomputable def fW(Φ:FTab):List SExpr->Sig->Option Bool
 | [],θ=>some true
 | e::es,σ=>(aa Φ e σ).bind λx=>(aX x.d).bind λk=>if k then fW Φ es σ else some false
noncomputable def jN(Φ:FTab):List SExpr->Sig->Option Bool
 | [],θ=>some false
 | e::es,σ=>(aa Φ e σ).bind λx=>(aX x.d).bind λk=>if k then some true else jN Φ es σ
end
set_option genInjectivity false in
set_option genSizeOf false in
set_option genCtorIdx false in
inductive SStmt where
 | set (x:Nat) (e:SExpr)
 | setc (x:Nat) (e:SExpr)
 | ownl (x:Nat) (es:List SExpr)
 | ownd (x:Nat)
 | unpk (x y:Nat) (e:SExpr)
 | unpk3 (x y z:Nat) (e:SExpr)
 | app (x:Nat) (e:SExpr)
 | put (x:Nat) (k e:SExpr)
 | ife (c:SExpr) (a b:List SStmt)
 | fr (x:Nat) (e:SExpr) (b:List SStmt)
 | whl (c:SExpr) (b:List SStmt)
 | ret (e:SExpr)
 | rel (x:Nat)
inductive Out where
 | next (σ:Sig)
 | ret (r:RV)
noncomputable def turn(o:Out)(go:Sig->Option Out):Option Out:=match o with
 | .next σ'=>go σ'
 | .ret r=>some (.ret r)
noncomputable def uZ{α:Type}(l:List α):Option (α×α×α):=val (p:=λy=>l=[y.1,y.2.1,y.2.2]) (match l with | [a,b,c]=>some ⟨(a,b,c),rfl⟩ | _=>EL)
theorem ub{α:Type}{l:List α}{y:α×α×α}(h:uZ l=some y):l=[y.1,y.2.1,y.2.2]:=en (p:=λy:α×α×α=>l=[y.1,y.2.1,y.2.2]) h
noncomputable def afor(body:Sig->Option Out)(x:Nat)(q:RV):List PV->Sig->Option Out
 | [],σ=>some (.next σ)
 | d::ds,σ=>(body (σ.set x (some (part q d)))).bind λo=>turn o (afor body x q ds)
noncomputable def ql(cond:Sig->Option Bool)(body:Sig->Option Out):Nat->Sig->Option Out
 | 0,θ=>none
 | n+1,σ=>(cond σ).bind λb=>if b then(body σ).bind λo=>turn o (ql cond body n)else some (.next σ)
noncomputable def lP(σ:Sig)(x:Nat):Option RV:=(σ[x]?).join.bind λr=>if r.c then none else some r
mutual
noncomputable def bO(Φ:FTab)(n:Nat):SStmt->Sig->Option Out
 | .set x e,σ=>(aa Φ e σ).bind λr=>if r.c then some (.next (σ.set x (some r)))else none
 | .setc x e,σ=>(aa Φ e σ).bind λr=>if r.c then some (.next (σ.set x (some r)))else none
 | .ownl x es,σ=>(bB Φ es σ).bind λrs=>(newlR rs).bind λr=>if r.c then some (.next (σ.set x (some ⟨r.d,r.f,false⟩)))else none
 | .ownd x,σ=>some (.next (σ.set x (some ⟨.dict [] [],true,false⟩)))
 | .unpk x y e,σ=>(aa Φ e σ).bind λr=>(dT r.d).bind λds=>(Ax ds).bind λq=>if r.c then some (.next ((σ.set x (some (part r q.1))).set y (some (part r q.2))))else none
 | .unpk3 x y z e,σ=>(aa Φ e σ).bind λr=>(dT r.d).bind λds=>(uZ ds).bind λq=>if r.c then some (.next (((σ.set x (some (part r q.1))).set y (some (part r q.2.1))).set z (some (part r q.2.2))))else none
 | .app x e,σ=>(lP σ x).bind λo=>(dL o.d).bind λds=>(aa Φ e σ).bind λr=>if r.c&&decide (ds.length<az)then some (.next (σ.set x (some ⟨.list (ds++[r.d]),o.f&&r.f,false⟩)))else none
 | .put x k e,σ=>(lP σ x).bind λo=>(dD o.d).bind λkd=>(aa Φ e σ).bind λr=>(aa Φ k σ).bind λq=>(dS q.d).bind λkk =>
   if r.c&&decide (kd.1.length<az)then some (.next (σ.set x (some ⟨.dict (put kd.1 kd.2 kk r.d).1 (put kd.1 kd.2 kk r.d).2,o.f&&r.f,false⟩)))else none
 | .ife c a b,σ=>(aa Φ c σ).bind λt=>(aX t.d).bind λk=>if k then aexecs Φ n a σ else aexecs Φ n b σ
 | .fr x e b,σ=>(aa Φ e σ).bind λq=>(aJ q.d).bind λds=>if q.c then afor (aexecs Φ n b) x q ds σ else none
 | .whl c b,σ=>ql (λσ=>(aa Φ c σ).bind λt=>aX t.d) (aexecs Φ n b) n σ
 | .ret e,σ=>(aa Φ e σ).map .ret
 | .rel x,σ=>(lP σ x).map λo=>.next (σ.set x (some ⟨o.d,o.f,true⟩))
noncomputable def aexecs(Φ:FTab)(n:Nat):List SStmt->Sig->Option Out
 | [],σ=>some (.next σ)
 | t::ts,σ=>(bO Φ n t σ).bind λo=>turn o (aexecs Φ n ts)
end
theorem i4(b:Sig->Option Out)(x:Nat)(q:RV)(d:PV)(ds:List PV)(σ:Sig):afor b x q (d::ds) σ=(b (σ.set x (some (part q d)))).bind λo=>turn o (afor b x q ds):=rfl
theorem upFrom_succ(a:Int)(n:Nat):eB a (n+1)=.int a::eB (a+1) n:=rfl
theorem tM(a b:Str):jY a b=true\/jY b a=true:=by
 delta jY
 simp only[FX,decide_eq_false_iff_not]
 rcases List.le_total a.cps.toList b.cps.toList with h | h
 .exact .inl (Hs.mpr h)
 .exact .inr (Hs.mpr h)
theorem lX{a b c:Str}(h1:jY a b=true)(h2:jY b c=true):jY a c=true:=by
 delta jY at *
 simp only[FX,decide_eq_false_iff_not]at *
 exact Hs.mpr (List.le_trans (Hs.mp h1) (Hs.mp h2))
theorem leS_antisymm{a b:Str}(h1:jY a b=true)(h2:jY b a=true):a=b:=by
 delta jY at *
 simp only[FX,decide_eq_false_iff_not]at *
 have:=List.le_antisymm (Hs.mp h1) (Hs.mp h2)
 cases a;cases b
 simp only[Str.mk.injEq]
 exact Ie.mp this
theorem insS_cons(x y:Str)(ys:List Str):sQ x (y::ys)=if jY x y then x::y::ys else y::sQ x ys:=rfl
theorem lY(x:Str):∀l:List Str,(sQ x l).Perm (x::l):=by
 intro l0
 induction l0 with
 | nil=>exact .refl _
 | cons y ys ih =>
  rw[insS_cons]
  split
  .exact .refl _
  .exact(ih.cons y).trans (.swap x y ys)
theorem cU:∀l:List Str,(bv l).Perm l:=by
 intro l0
 induction l0 with
 | nil=>exact .refl _
 | cons x xs ih=>exact(lY x _).trans (ih.cons x)
theorem pJ{x:Str}:∀{l:List Str},l.Pairwise (λa b=>jY a b=true)->(sQ x l).Pairwise (λa b=>jY a b=true):=by
 intro l0
 induction l0 with
 | nil=>exact @λθ=>Ig _ _
 | cons y ys ih =>
  intro h
  rw[insS_cons]
  have h':=Gh.mp h
  split
  .rename_i hx
   refine Gh.mpr ⟨λz hz=>?_,h⟩
   rcases EU.mp hz with rfl | hz
   .exact hx
   .exact lX hx (h'.1 z hz)
  .rename_i hx
   refine Gh.mpr ⟨λz hz=>?_,ih h'.2⟩
   rcases EU.mp ((lY x ys).mem_iff.mp hz)with rfl | hz
   .exact(tM z y).resolve_left hx
   .exact h'.1 z hz
theorem fj:∀l:List Str,(bv l).Pairwise (λa b=>jY a b=true):=by
 intro l0
 induction l0 with
 | nil=>exact List.Pairwise.nil
 | cons z0 xs ih=>exact pJ ih
theorem gz:∀{l l':List Str},l.Perm l'->l.Pairwise (λa b=>jY a b=true)->l'.Pairwise (λa b=>jY a b=true)->l=l':=by
 intro l0
 induction l0 with
 | nil=>exact @λl' hp θ θ=>hp.nil_eq
 | cons x xs ih =>
  intro l' hp h1 h2
  cases l' with
  | nil=>cases hp.symm.nil_eq
  | cons y ys =>
  have h1':=Gh.mp h1
  have h2':=Gh.mp h2
  have e:x=y:=by
   rcases EU.mp (hp.mem_iff.mp (EP ..))with e | hx
   .exact e
   .rcases EU.mp (hp.symm.mem_iff.mp (EP ..))with e | hy
    .exact e.symm
    .exact leS_antisymm (h1'.1 y hy) (h2'.1 x hx)
  subst e
  rw[ih (List.Perm.cons_inv hp) h1'.2 h2'.2]
theorem pV{l l':List Str}(hp:l'.Perm l)(hs:l'.Pairwise (λa b=>jY a b=true)):l'=bv l:=gz (hp.trans (cU l).symm) hs (fj l)
theorem rQ{p:Prop}(h:false=true):p:=Ih h
theorem yP{α:Type}{a:α}{p:Prop}(h:EL=some a):p:=nomatch h
theorem uS{α:Type}{a:α}{p:Prop}(h:a∈([]:List α)):p:=absurd h FC
theorem yw{a b n k m:Nat}(h1:a<=k*n)(h2:b<=k)(h3:n<m)(h4:k*m<=az):a+b<=az:=EK (E8 h1 h2) (EK (FD k h3) h4)
theorem nn(n:Nat):0<=(n:Int):=Fy n
theorem wu{a b x y:Nat}(h:x<y)(e:a+x=b+y):b<a:=Nat.lt_of_add_lt_add_right (e▸II h b)
noncomputable def parg(d:PV):RV:=if d.atom then at1 d else⟨d,false,true⟩
noncomputable def C6(m:Nat)(ds:List PV):Sig:=ds.map (λd=>some (parg d))++Fw m EL
noncomputable def Dr(Φ:FTab)(f:Str)(g:List PV->Option (PV×Bool)):FTab:=λx ds=>if x=f then g ds else Φ x ds
noncomputable def gp(x:Str):Option PV:=aT ["_law_joins","_law_s","_law_a","_law_t","_law_u","_law_v"]
 [.tup [.tup [.tup [.str "S",.str "T"]],.tup [.tup [.str "T",.str "S"]],.tup [.tup [.str "T"],.tup [.str "S"]],.tup [.tup [.str "T"],.tup [.str "S",.str "T"]]],
  .tup [.tup [],.tup [.str "a"],.tup [.str "A"],.tup [.str "A",.str "b"],.tup [.str "b",.str "A"],.tup [.str "A",.str "A"]],
  .tup [.tup [],.tup [.str "a"],.tup [.str "b"]],.tup [.tup [],.tup [.str "b"],.tup [.str "c"],.tup [.str "T"],.tup [.str "T"]],
  .tup [.str "",.str "a",.str "b",.str "ab",.str "ba",.str "aa",.str "bb"],.tup [.str "",.str "b",.str "c"]] x
namespace L7
noncomputable def ji:List Str:=["g"]
noncomputable def pM:List Str:=["heads","rule"]
noncomputable def fP:List SStmt:=[.ownl 1 [],.fr 2 (.var 0) [.ife (.cmp .NotIn (.idx (.var 2) (.int 0)) (.var 1)) [.app 1 (.idx (.var 2) (.int 0))] []],.ret (.var 1)]
noncomputable def iw:List Str:=["g"]
noncomputable def na:List Str:=["heads","found","rule","symbol"]
noncomputable def dH:List SStmt:=[.set 1 (.call "heads_of" [.var 0]),.ownl 2 [],.fr 3 (.var 0) [.fr 4 (.idx (.var 3) (.int 1)) [.ife (.band [.cmp .NotIn (.var 4) (.var 1),.cmp .NotIn (.var 4) (.var 2)]) [.app 2 (.var 4)] []]],.ret (.sorted (.var 2))]
noncomputable def mn:List Str:=["a","b"]
noncomputable def sO:List Str:=["union","symbol"]
noncomputable def ja:List SStmt:=[.ownl 2 [],.fr 3 (.bin .Add (.var 0) (.var 1)) [.ife (.cmp .NotIn (.var 3) (.var 2)) [.app 2 (.var 3)] []],.ret (.sorted (.var 2))]
noncomputable def dx:List Str:=["g","given"]
noncomputable def gh:List Str:=["found","changed","rule"]
noncomputable def bq:List SStmt:=[.ownl 2 [],.set 3 (.bool true),.whl (.var 3) [.set 3 (.bool false),.fr 4 (.var 0) [.ife (.band [.cmp .NotIn (.idx (.var 4) (.int 0)) (.var 2),.all (.comp (.bor [.cmp .In (.var 5) (.var 1),.cmp .In (.var 5) (.var 2)]) (.idx (.var 4) (.int 1)))]) [.app 2 (.idx (.var 4) (.int 0)),.set 3 (.bool true)] []]],.ret (.sorted (.var 2))]
noncomputable def eg:List Str:=["g"]
noncomputable def ir:List Str:=[]
noncomputable def cL:List SStmt:=[.ret (.call "heads_built_from" [.var 0,.list []])]
noncomputable def dP:List Str:=["symbols","firsts","nullables"]
noncomputable def gG:List Str:=["begins","symbol"]
noncomputable def bz:List SStmt:=[.set 3 (.list []),.fr 4 (.var 0) [.ife (.cmp .NotIn (.var 4) (.var 1)) [.ret (.tup [.call "merged" [.var 3,.list [.var 4]],.bool false])] [],.set 3 (.call "merged" [.var 3,.idx (.var 1) (.var 4)]),.ife (.cmp .NotIn (.var 4) (.var 2)) [.ret (.tup [.var 3,.bool false])] []],.ret (.tup [.var 3,.bool true])]
noncomputable def gw:List Str:=["g"]
noncomputable def lH:List Str:=["nullables","firsts","head","changed","rule","grown"]
noncomputable def cy:List SStmt:=[.set 1 (.call "nullable_heads" [.var 0]),.ownd 2,.fr 3 (.call "heads_of" [.var 0]) [.put 2 (.var 3) (.list [])],.set 4 (.bool true),.whl (.var 4) [.set 4 (.bool false),.fr 5 (.var 0) [.set 6 (.call "merged" [.idx (.var 2) (.idx (.var 5) (.int 0)),.idx (.call "first_of_string" [.idx (.var 5) (.int 1),.var 2,.var 1]) (.int 0)]),.ife (.cmp .NotEq (.var 6) (.idx (.var 2) (.idx (.var 5) (.int 0)))) [.put 2 (.idx (.var 5) (.int 0)) (.var 6),.set 4 (.bool true)] []]],.ret (.var 2)]
noncomputable def fH:List Str:=["g"]
noncomputable def j6:List Str:=["nullables","firsts","follows","head","changed","rule","i","symbol","begins","vanishes","grown"]
noncomputable def bR:List SStmt:=[.set 1 (.call "nullable_heads" [.var 0]),.set 2 (.call "first_sets" [.var 0]),.ownd 3,.fr 4 (.call "heads_of" [.var 0]) [.put 3 (.var 4) (.list [])],.put 3 (.idx (.idx (.var 0) (.int 0)) (.int 0)) (.list [.str "$"]),.set 5 (.bool true),.whl (.var 5) [.set 5 (.bool false),.fr 6 (.var 0) [.fr 7 (.range (.len (.idx (.var 6) (.int 1)))) [.set 8 (.idx (.idx (.var 6) (.int 1)) (.var 7)),.ife (.cmp .In (.var 8) (.var 3)) [.unpk 9 10 (.call "first_of_string" [.sfrom (.idx (.var 6) (.int 1)) (.bin .Add (.var 7) (.int 1)),.var 2,.var 1]),.set 11 (.call "merged" [.idx (.var 3) (.var 8),.var 9]),.ife (.var 10) [.set 11 (.call "merged" [.var 11,.idx (.var 3) (.idx (.var 6) (.int 0))])] [],.ife (.cmp .NotEq (.var 11) (.idx (.var 3) (.var 8))) [.put 3 (.var 8) (.var 11),.set 5 (.bool true)] []] []]]],.ret (.var 3)]
noncomputable def jp:List Str:=["g","derivation"]
noncomputable def pv:List Str:=["heads","form","k","place"]
noncomputable def d5:List SStmt:=[.set 2 (.call "heads_of" [.var 0]),.set 3 (.list [.idx (.idx (.var 0) (.int 0)) (.int 0)]),.fr 4 (.var 1) [.set 5 (.int 0),.whl (.band [.cmp .Lt (.var 5) (.len (.var 3)),.cmp .NotIn (.idx (.var 3) (.var 5)) (.var 2)]) [.set 5 (.bin .Add (.var 5) (.int 1))],.ife (.bor [.cmp .Eq (.var 5) (.len (.var 3)),.cmp .Lt (.var 4) (.int 0),.cmp .GtE (.var 4) (.len (.var 0)),.cmp .NotEq (.idx (.idx (.var 0) (.var 4)) (.int 0)) (.idx (.var 3) (.var 5))]) [.ret (.none)] [],.set 3 (.bin .Add (.bin .Add (.supto (.var 3) (.var 5)) (.idx (.idx (.var 0) (.var 4)) (.int 1))) (.sfrom (.var 3) (.bin .Add (.var 5) (.int 1))))],.ret (.var 3)]
noncomputable def fm:List Str:=["body","start","tokens","tables"]
noncomputable def jr:List Str:=["places","symbol","moved","j","met"]
noncomputable def cB:List SStmt:=[.set 4 (.list [.var 1]),.fr 5 (.var 0) [.ownl 6 [],.fr 7 (.range (.bin .Add (.len (.var 2)) (.int 1))) [.ife (.cmp .In (.var 5) (.var 3)) [.set 8 (.any (.comp (.idx (.idx (.idx (.var 3) (.var 5)) (.var 9)) (.var 7)) (.var 4)))] [.set 8 (.band [.cmp .Gt (.var 7) (.int 0),.cmp .In (.bin .Sub (.var 7) (.int 1)) (.var 4),.cmp .Eq (.idx (.var 2) (.bin .Sub (.var 7) (.int 1))) (.var 5)])],.ife (.var 8) [.app 6 (.var 7)] []],.rel 6,.set 4 (.var 6)],.ret (.var 4)]
noncomputable def fs:List Str:=["g","head","tokens"]
noncomputable def jz:List Str:=[]
noncomputable def ft:List SStmt:=[.ret (.idx (.idx (.idx (.call "span_tables" [.var 0,.var 2]) (.var 1)) (.int 0)) (.len (.var 2)))]
noncomputable def j2:List Str:=["g","tokens"]
noncomputable def qG:List Str:=[]
noncomputable def ke:List SStmt:=[.ret (.call "derives_from" [.var 0,.idx (.idx (.var 0) (.int 0)) (.int 0),.var 1])]
noncomputable def dw:List Str:=["g"]
noncomputable def gm:List Str:=[]
noncomputable def cr:List SStmt:=[.ret (.call "heads_built_from" [.var 0,.call "tokens_of" [.var 0]])]
noncomputable def dO:List Str:=["g"]
noncomputable def gM:List Str:=["heads","found","place","rule","symbol"]
noncomputable def bD:List SStmt:=[.set 1 (.call "heads_of" [.var 0]),.ownl 2 [.idx (.idx (.var 0) (.int 0)) (.int 0)],.set 3 (.int 0),.whl (.cmp .Lt (.var 3) (.len (.var 2))) [.fr 4 (.var 0) [.ife (.cmp .Eq (.idx (.var 4) (.int 0)) (.idx (.var 2) (.var 3))) [.fr 5 (.idx (.var 4) (.int 1)) [.ife (.band [.cmp .In (.var 5) (.var 1),.cmp .NotIn (.var 5) (.var 2)]) [.app 2 (.var 5)] []]] []],.set 3 (.bin .Add (.var 3) (.int 1))],.ret (.sorted (.var 2))]
noncomputable def kf:List Str:=["g"]
noncomputable def qQ:List Str:=["start","productive","usable","own","others","rule","left","reachable"]
noncomputable def fk:List SStmt:=[.set 1 (.idx (.idx (.var 0) (.int 0)) (.int 0)),.set 2 (.call "productive_heads" [.var 0]),.ife (.cmp .NotIn (.var 1) (.var 2)) [.ret (.list [])] [],.set 3 (.bin .Add (.var 2) (.call "tokens_of" [.var 0])),.ownl 4 [],.ownl 5 [],.fr 6 (.var 0) [.ife (.band [.cmp .In (.idx (.var 6) (.int 0)) (.var 2),.all (.comp (.cmp .In (.var 9) (.var 3)) (.idx (.var 6) (.int 1)))]) [.ife (.cmp .Eq (.idx (.var 6) (.int 0)) (.var 1)) [.app 4 (.var 6)] [.app 5 (.var 6)]] []],.rel 4,.rel 5,.set 7 (.bin .Add (.var 4) (.var 5)),.set 8 (.call "reachable_heads" [.var 7]),.ret (.compIf (.cpy true 9) (.var 7) (.cmp .In (.idx (.var 9) (.int 0)) (.var 8)))]
noncomputable def jj:List Str:=["x","n"]
noncomputable def pI:List Str:=[]
noncomputable def fC:List SStmt:=[.ret (.bin .Mod (.var 0) (.var 1))]
noncomputable def ig:List Str:=["body","known"]
noncomputable def nz:List Str:=["out","s"]
noncomputable def dK:List SStmt:=[.set 2 (.list [.str ""]),.fr 3 (.var 0) [.setc 2 (.comp2 (.bin .Add (.var 4) (.var 5)) (.var 2) (.get (.var 1) (.var 3) (.list [.var 3])))],.ret (.var 2)]
noncomputable def jU:List Str:=["bodies","known"]
noncomputable def qc:List Str:=["out","body"]
noncomputable def eQ:List SStmt:=[.set 2 (.list []),.fr 3 (.var 0) [.set 2 (.bin .Add (.var 2) (.call "_law_words" [.var 3,.var 1]))],.ret (.var 2)]
noncomputable def iD:List Str:=["head","bodies","known","ends"]
noncomputable def nM:List Str:=["out","body","i","tails"]
noncomputable def dG:List SStmt:=[.set 4 (.list []),.fr 5 (.var 1) [.fr 6 (.range (.len (.var 5))) [.ife (.cmp .Eq (.idx (.var 5) (.var 6)) (.var 0)) [.set 7 (.call "_law_words" [.sfrom (.var 5) (.bin .Add (.var 6) (.int 1)),.var 2]),.set 4 (.bin .Add (.var 4) (.comp2 (.bin .Add (.var 8) (.var 9)) (.var 7) (.var 3)))] []]],.ret (.var 4)]
noncomputable def fU:List Str:=["words"]
noncomputable def lf:List Str:=[]
noncomputable def dQ:List SStmt:=[.ret (.sset (.idx (.var 1) (.int 0)) (.var 0) (.cmp .NotIn (.supto (.var 1) (.int 1)) (.tup [.str "",.str "!"])))]
noncomputable def iq:List Str:=["w","words"]
noncomputable def mQ:List Str:=["n"]
noncomputable def dy:List SStmt:=[.set 2 (.bin .Add (.len (.var 0)) (.int 1)),.ret (.compC (.comp (.band [.cmp .LtE (.var 3) (.var 4),.cmp .In (.smid (.var 0) (.var 3) (.var 4)) (.var 1)]) (.range (.var 2))) (.range (.var 2)))]
noncomputable def fM:List Str:=["rules","steps"]
noncomputable def ku:List Str:=["form","k"]
noncomputable def bu:List SStmt:=[.set 2 (.idx (.idx (.var 0) (.int 0)) (.int 0)),.fr 3 (.var 1) [.ife (.bor [.cmp .Lt (.var 3) (.int 0),.cmp .GtE (.var 3) (.len (.var 0)),.cmp .NotIn (.idx (.idx (.var 0) (.var 3)) (.int 0)) (.var 2)]) [.ret (.none)] [],.set 2 (.replR 2 0 3)],.ret (.listOf (.var 2))]
noncomputable def wz:List Str:=["script"]
noncomputable def vC:List Str:=List.append ["mode","zb","sb","ab","tb","g","h","j","kept","la","lt","dead","ls","known","lz","langs","letters","fs"] (List.append ["fa","ft","alone","bs","bt","ba","used","zs","alive","seen","tg","th","whole","u","v","w","left","right"] ["word","spans","size","a","b","before","runs","which","steps","form","waits","head","part","moves","shift","done","copied"])
noncomputable def bh:List SStmt:=[.ife (.cmp .Lt (.len (.var 0)) (.int 17)) [.ret (.bool true)] [],.set 1 (.call "_law_pick" [.idx (.var 0) (.int 0),.int 4]),.setc 2 (.comp (.listOf (.var 54)) (.idx (.glob "_law_joins") (.var 1))),.set 3 (.list [.listOf (.idx (.glob "_law_s") (.call "_law_pick" [.idx (.var 0) (.int 1),.int 6])),.listOf (.idx (.glob "_law_s") (.call "_law_pick" [.idx (.var 0) (.int 2),.int 6]))]),.set 4 (.list [.listOf (.idx (.glob "_law_a") (.call "_law_pick" [.idx (.var 0) (.int 3),.int 3])),.listOf (.idx (.glob "_law_a") (.call "_law_pick" [.idx (.var 0) (.int 4),.int 3]))]),.set 5 (.list [.listOf (.idx (.glob "_law_t") (.call "_law_pick" [.idx (.var 0) (.int 5),.int 5])),.listOf (.idx (.glob "_law_t") (.call "_law_pick" [.idx (.var 0) (.int 6),.int 5]))]),.set 6 (.bin .Add (.comp (.mkR "S" (.var 54)) (.var 3)) (.comp (.mkR "A" (.var 54)) (.var 4))),.setc 7 (.comp (.mkR "T" (.var 54)) (.var 5)),.set 8 (.bin .Add (.bin .Add (.bin .Add (.list [.mkR "Z" (.idx (.var 2) (.int 0))]) (.var 6)) (.comp (.mkR "Z" (.var 54)) (.sfrom (.var 2) (.int 1)))) (.var 7)),.setc 9 (.comp (.cpy false 54) (.var 8)),.set 10 (.call "_law_all" [.var 4,.dict [] []]),.set 11 (.call "_law_all" [.compIf (.var 54) (.var 5) (.cmp .NotEq (.var 54) (.list [.str "T"])),.dict [] []]),.set 12 (.cmp .Eq (.var 11) (.list [])),.ife (.var 12) [.set 11 (.list [.str "!"])] [],.set 13 (.call "_law_all" [.var 3,.dict ["A"] [.var 10]]),.set 14 (.dict ["A","S","T"] [.var 10,.var 13,.var 11]),.set 15 (.call "_law_all" [.var 2,.var 14]),.set 16 (.dict ["A","S","T","Z"] [.var 10,.var 13,.var 11,.var 15]),.set 17 (.sset2 (.var 55) (.var 9) (.idx (.var 54) (.int 1)) (.cmp .In (.var 55) (.str "abc"))),.ife (.cmp .NotEq (.call "tokens_of" [.var 8]) (.var 17)) [.ret (.bool false)] [],.ife (.cmp .NotEq (.call "merged" [.call "tokens_of" [.var 7],.call "tokens_of" [.var 6]]) (.var 17)) [.ret (.bool false)] [],.ife (.cmp .NotEq (.call "nullable_heads" [.var 8]) (.compIf (.var 54) (.tup [.str "A",.str "S",.str "T",.str "Z"]) (.cmp .In (.str "") (.idx (.var 16) (.var 54))))) [.ret (.bool false)] [],.set 18 (.call "_law_letters" [.var 13]),.set 19 (.call "_law_letters" [.var 10]),.set 20 (.call "_law_letters" [.var 11]),.ife (.cmp .NotEq (.call "first_sets" [.var 6]) (.dict ["S","A"] [.var 18,.var 19])) [.ret (.bool false)] [],.ife (.cmp .NotEq (.call "first_sets" [.var 7]) (.dict ["T"] [.var 20])) [.ret (.bool false)] [],.ife (.cmp .NotEq (.call "first_sets" [.var 8]) (.dict ["Z","S","A","T"] [.call "_law_letters" [.var 15],.var 18,.var 19,.var 20])) [.ret (.bool false)] [],.set 21 (.call "_law_after" [.str "A",.var 3,.var 14,.list [.str "$"]]),.ife (.cmp .NotEq (.call "follow_sets" [.var 6]) (.dict ["S","A"] [.list [.str "$"],.call "_law_letters" [.var 21]])) [.ret (.bool false)] [],.set 22 (.call "_law_after" [.str "S",.var 2,.var 14,.list [.str "$"]]),.set 23 (.call "_law_after" [.str "T",.var 2,.var 14,.list [.str "$"]]),.set 24 (.call "_law_after" [.str "A",.var 3,.var 14,.var 22]),.ife (.cmp .NotEq (.call "follow_sets" [.var 8]) (.dict ["Z","S","A","T"] [.list [.str "$"],.call "_law_letters" [.var 22],.call "_law_letters" [.var 24],.call "_law_letters" [.var 23]])) [.ret (.bool false)] [],.set 25 (.cmp .In (.str "A") (.bin .Add (.idx (.var 3) (.int 0)) (.idx (.var 3) (.int 1)))),.setc 26 (.compIf (.var 54) (.var 2) (.not (.band [.var 12,.cmp .In (.str "T") (.var 54)]))),.set 27 (.list [.str "A",.str "S"]),.ife (.not (.var 12)) [.set 27 (.bin .Add (.var 27) (.list [.str "T"]))] [],.ife (.cmp .NotEq (.var 26) (.list [])) [.set 27 (.bin .Add (.var 27) (.list [.str "Z"]))] [],.ife (.cmp .NotEq (.call "productive_heads" [.var 8]) (.var 27)) [.ret (.bool false)] [],.set 28 (.list [.str "S",.str "T",.str "Z"]),.setc 29 (.compIf (.var 54) (.var 9) (.cmp .Eq (.idx (.var 54) (.int 0)) (.str "S"))),.ife (.var 25) [.set 28 (.bin .Add (.list [.str "A"]) (.var 28)),.set 29 (.bin .Add (.var 29) (.compIf (.var 54) (.var 9) (.cmp .Eq (.idx (.var 54) (.int 0)) (.str "A"))))] [],.ife (.cmp .NotEq (.call "reachable_heads" [.var 8]) (.var 28)) [.ret (.bool false)] [],.ife (.cmp .NotEq (.call "trimmed" [.var 6]) (.var 29)) [.ret (.bool false)] [],.setc 30 (.compIf (.var 54) (.var 9) (.band [.cmp .Eq (.idx (.var 54) (.int 0)) (.str "T"),.not (.var 12)])),.ife (.cmp .NotEq (.call "trimmed" [.var 7]) (.var 30)) [.ret (.bool false)] [],.set 31 (.list []),.ife (.cmp .NotEq (.var 26) (.list [])) [.set 31 (.bin .Add (.bin .Add (.comp (.mkR "Z" (.var 54)) (.var 26)) (.var 29)) (.var 30))] [],.ife (.cmp .NotEq (.call "trimmed" [.var 8]) (.var 31)) [.ret (.bool false)] [],.set 32 (.idx (.glob "_law_u") (.call "_law_pick" [.idx (.var 0) (.int 7),.int 7])),.set 33 (.idx (.glob "_law_v") (.call "_law_pick" [.idx (.var 0) (.int 8),.int 3])),.set 34 (.bin .Add (.var 32) (.var 33)),.ife (.cmp .Eq (.var 1) (.int 1)) [.set 34 (.bin .Add (.var 33) (.var 32))] [],.set 35 (.call "derives" [.var 6,.listOf (.var 32)]),.set 36 (.call "derives" [.var 7,.listOf (.var 33)]),.ife (.not (.call "_law_bools" [.list [.var 35,.var 36]])) [.ret (.bool false)] [],.ife (.bor [.cmp .NotEq (.var 35) (.cmp .In (.var 32) (.var 13)),.cmp .NotEq (.var 36) (.cmp .In (.var 33) (.var 11))]) [.ret (.bool false)] [],.set 37 (.listOf (.var 34)),.set 38 (.call "span_tables" [.var 8,.var 37]),.ife (.cmp .NotEq (.var 38) (.dict ["Z","S","A","T"] [.call "_law_spans" [.var 34,.var 15],.call "_law_spans" [.var 34,.var 13],.call "_law_spans" [.var 34,.var 10],.call "_law_spans" [.var 34,.var 11]])) [.ret (.bool false)] [],.ife (.not (.call "_law_bools" [.comp2 (.var 55) (.idx (.var 38) (.str "Z")) (.var 54)])) [.ret (.bool false)] [],.set 39 (.call "_law_pick" [.idx (.var 0) (.int 10),.int 4]),.set 40 (.supto (.list [.call "_law_pick" [.idx (.var 0) (.int 11),.int 3],.bin .Add (.int 2) (.call "_law_pick" [.idx (.var 0) (.int 12),.int 2]),.bin .Add (.int 2) (.call "_law_pick" [.idx (.var 0) (.int 13),.int 2])]) (.var 39)),.set 41 (.supto (.list [.bin .Sub (.call "_law_pick" [.idx (.var 0) (.int 15),.int 4]) (.int 1),.idx (.var 0) (.int 16)]) (.call "_law_pick" [.idx (.var 0) (.int 14),.int 3])),.set 42 (.list [.listOf (.var 40),.listOf (.var 41)]),.set 43 (.dict ["S","T"] [.tup [.var 6,.var 40,.int 1],.tup [.var 7,.var 41,.bin .Add (.int 4) (.len (.var 2))]]),.set 44 (.call "_law_pick" [.idx (.var 0) (.int 9),.len (.var 2)]),.set 45 (.list [.bin .Mult (.int 5) (.var 44)]),.set 46 (.list []),.set 47 (.bool false),.fr 48 (.idx (.var 2) (.var 44)) [.unpk3 49 50 51 (.idx (.var 43) (.var 48)),.set 52 (.call "replayed" [.var 49,.var 50]),.ife (.cmp .NotEq (.var 52) (.call "_law_carried" [.var 49,.var 50])) [.ret (.bool false)] [],.set 45 (.bin .Add (.var 45) (.comp (.ife (.cmp .GtE (.var 54) (.int 0)) (.bin .Add (.var 54) (.var 51)) (.var 54)) (.var 50))),.ife (.bor [.isN false (.var 52),.isN false (.var 46),.band [.var 47,.cmp .NotEq (.var 50) (.list [])]]) [.set 46 (.none)] [.set 46 (.bin .Add (.var 46) (.var 52)),.ife (.gany "SAT" (.var 52)) [.set 47 (.bool true)] []]],.set 53 (.listOf (.var 45)),.ife (.cmp .NotEq (.call "replayed" [.var 8,.var 45]) (.var 46)) [.ret (.bool false)] [],.ife (.bor [.cmp .NotEq (.var 45) (.var 53),.cmp .NotEq (.list [.var 40,.var 41]) (.var 42),.cmp .NotEq (.var 37) (.listOf (.var 34))]) [.ret (.bool false)] [],.ife (.bor [.cmp .NotEq (.var 8) (.var 9),.cmp .NotEq (.bin .Add (.var 6) (.var 7)) (.compIf (.var 54) (.var 9) (.cmp .NotEq (.idx (.var 54) (.int 0)) (.str "Z")))]) [.ret (.bool false)] [],.ret (.bool true)]
end L7
theorem cI{α β:Type}{o o':Option α}{f f':α->Option β}{b:β}(h:o.bind f=some b)(ho:∀a,o=some a->o'=some a)(hf:∀a,f a=some b->f' a=some b):o'.bind f'=some b:=by
 obtain⟨a,h1,h2⟩:=ac h
 rw[ho a h1];exact hf a h2
theorem iY{o r:Out}{g g':Sig->Option Out}(hg:∀σ,g σ=some r->g' σ=some r)(h:turn o g=some r):turn o g'=some r:=by
 cases o with
 | next σ=>exact hg σ h
 | _=>exact h
theorem gc{b b':Sig->Option Out}(hb:∀σ o,b σ=some o->b' σ=some o)(x:Nat)(q:RV)(ds:List PV)(o:Out):∀(σ:Sig),afor b x q ds σ=some o->afor b' x q ds σ=some o:=by
 induction ds with
 | nil=>exact λσ h=>h
 | cons d ds ih=>exact λσ h=>cI h (hb _) λr=>iY ih
theorem lJ{c:Sig->Option Bool}{b b':Sig->Option Out}(hb:∀σ o,b σ=some o->b' σ=some o)(o:Out)(n:Nat):∀(m:Nat) (σ:Sig),n<=m->ql c b n σ=some o->ql c b' m σ=some o:=by
 induction n with
 | zero=>exact λm σ zz h=>nomatch h
 | succ n ih =>
  intro m σ hm h
  cases m with
  | zero=>cases hm
  | succ m =>
   refine cI h (λzz e=>e) λk h=>?_
   cases k with
   | false=>exact h
   | true=>exact cI h (hb _) λr=>iY λσ=>ih m σ (GX hm)
abbrev MonoS(Φ:FTab)(n m:Nat)(t:SStmt):Prop:=∀(σ:Sig) (o:Out),bO Φ n t σ=some o->bO Φ m t σ=some o
abbrev MonoL(Φ:FTab)(n m:Nat)(ts:List SStmt):Prop:=∀(σ:Sig) (o:Out),aexecs Φ n ts σ=some o->aexecs Φ m ts σ=some o
theorem lp{Φ:FTab}{n m:Nat}{t:SStmt}{ts:List SStmt}(h:MonoS Φ n m t)(h':MonoL Φ n m ts):MonoL Φ n m (t::ts):=λσ o e=>cI e (h σ) λr=>iY λσ=>h' σ o
theorem pG{Φ:FTab}{n m:Nat}{c:SExpr}{a b:List SStmt}(h:MonoL Φ n m a)(h':MonoL Φ n m b):MonoS Φ n m (.ife c a b):=λσ o e=>cI e (λzz e=>e) λt e=>cI e (λzz e=>e) λk e=>by
 cases k with
 | true=>exact h σ o e
 | false=>exact h' σ o e
theorem su{Φ:FTab}{n m:Nat}{x:Nat}{e:SExpr}{b:List SStmt}(h:MonoL Φ n m b):MonoS Φ n m (.fr x e b):=λσ o e=>cI e (λzz e=>e) λt e=>cI e (λzz e=>e) λds e=>by
 obtain⟨hc,e⟩:=ifo_of e
 rw[if_pos hc]
 exact gc h x t ds o σ e
theorem bw(Φ:FTab){n m:Nat}(hm:n<=m)(ts:List SStmt):MonoL Φ n m ts :=
 SStmt.rec_1 (motive_1:=MonoS Φ n m) (motive_2:=MonoL Φ n m) (λzz zz zz zz h=>h) (λzz zz zz zz h=>h) (λzz zz zz zz h=>h) (λzz zz zz h=>h) (λzz zz zz zz zz h=>h) (λzz zz zz zz zz zz h=>h) (λzz zz zz zz h=>h) (λzz zz zz zz zz h=>h)
  (λc a b=>pG) (λx e b=>su) (λc b h σ o e=>lJ h o n m σ hm e) (λzz zz zz h=>h) (λzz zz zz h=>h) (λzz zz h=>h) (λt ts=>lp) ts
theorem qM(Φ:FTab){n m:Nat}(hm:n<=m)(t:SStmt):MonoS Φ n m t :=
 SStmt.rec (motive_1:=MonoS Φ n m) (motive_2:=MonoL Φ n m) (λzz zz zz zz h=>h) (λzz zz zz zz h=>h) (λzz zz zz zz h=>h) (λzz zz zz h=>h) (λzz zz zz zz zz h=>h) (λzz zz zz zz zz zz h=>h) (λzz zz zz zz h=>h) (λzz zz zz zz zz h=>h)
  (λc a b=>pG) (λx e b=>su) (λc b h σ o e=>lJ h o n m σ hm e) (λzz zz zz h=>h) (λzz zz zz h=>h) (λzz zz h=>h) (λt ts=>lp) t
theorem qK{Φ:FTab}{n m:Nat}{ts:List SStmt}{σ:Sig}{o o':Out}(h:aexecs Φ n ts σ=some o)(h':aexecs Φ m ts σ=some o'):o=o':=by
 have a:=bw Φ (GI n m) ts σ o h
 have b:=bw Φ (Gz n m) ts σ o' h'
 exact ET (a.symm.trans b)
noncomputable def AJ(Φ:FTab)(ts:List SStmt)(k m:Nat)(ds:List PV):Option (PV×Bool) :=
 open Classical in if h:ds.length=k/\∃q n,aexecs Φ n ts (C6 m ds)=some (.ret q)then some (Gi h.2 |>.d,Gi h.2 |>.f)else EL
theorem ol{Φ:FTab}{ts:List SStmt}{k m:Nat}{ds:List PV}{r:PV×Bool}(h:AJ Φ ts k m ds=some r):ds.length=k/\∃n q,aexecs Φ n ts (C6 m ds)=some (.ret q)/\q.d=r.1/\(r.2=true->q.f=true):=by
 delta AJ at h
 split at h
 .rename_i hh
  cases h
  obtain⟨n,hn⟩:=F9 hh.2
  exact⟨hh.1,n,_,hn,rfl,λe=>e⟩
 .cases h
theorem gOf_eq{Φ:FTab}{ts:List SStmt}{k m n:Nat}{ds:List PV}{q:RV}(hl:ds.length=k)(h:aexecs Φ n ts (C6 m ds)=some (.ret q)):AJ Φ ts k m ds=some (q.d,q.f):=by
 delta AJ
 have hh:ds.length=k/\∃q n,aexecs Φ n ts (C6 m ds)=some (.ret q):=⟨hl,q,n,h⟩
 rw[dif_pos hh]
 obtain⟨n',hn⟩:=F9 hh.2
 have:=qK hn h
 injection this with e
 rw[e]
end Mine
namespace Mine
open PySem L7
noncomputable def ae(xs:List Str):PV:=.list (xs.map PV.str)
abbrev Rule:=Str×List Str
noncomputable def ao(r:Rule):PV:=.tup [.str r.1,ae r.2]
noncomputable def aj(g:List Rule):PV:=.list (g.map ao)
noncomputable def aQ(ks:List Str)(vs:List (List Str)):PV:=.dict ks (vs.map ae)
theorem gX(r:RV)(x:Str):part r (.str x)=at1 (.str x):=rfl
theorem xy(x y:Str):(x==y)=decide (x=y):=rfl
theorem wG(x:Str)(xs:List Str):ky (.str x) (xs.map PV.str)=some (decide (x∈xs)):=by
 induction xs with
 | nil=>rfl
 | cons y ys ih =>
  show((some (y==x)).bind λa=>(ky (.str x) (ys.map PV.str)).bind λb=>some (a||b))=_
  rw[ih]
  show some (decide (y=x)||decide (x∈ys))=_
  rw[<-ID]
  exact congrArg some (decide_eq_decide.mpr (by rw[EU,eq_comm]))
theorem wx(xs ys:List Str):eC (xs.map PV.str) (ys.map PV.str)=some (decide (xs=ys)):=by
 induction xs generalizing ys with
 | nil=>cases ys<;>rfl
 | cons x xs ih =>
  cases ys with
  | nil=>rfl
  | cons y ys =>
   show((some (x==y)).bind λa=>(eC (xs.map PV.str) (ys.map PV.str)).bind λb=>some (a&&b))=_
   rw[ih]
   show some (decide (x=y)&&decide (xs=ys))=_
   rw[<-Bool.decide_and]
   exact congrArg some (decide_eq_decide.mpr (Gu ..▸ Iff.rfl))
theorem jW(xs ys:List Str):aeq (ae xs) (ae ys)=some (decide (xs=ys)):=wx xs ys
theorem wB(xs ys:List Str):ane (ae xs) (ae ys)=some (!decide (xs=ys)):=by
 delta ane;rw[jW];rfl
theorem cC(xs:List Str):(ae xs).depth=1:=congrArg (·+1) (lu xs)
theorem in_encS(x:Str)(xs:List Str):bf .In (.str x) (ae xs)=some (decide (x∈xs)):=by
 show(if PV.depths (xs.map PV.str)+0<=40 then ky (.str x) (xs.map PV.str)else EL)=_
 rw[lu,wG];rfl
theorem notIn_encS(x:Str)(xs:List Str):bf .NotIn (.str x) (ae xs)=some (!decide (x∈xs)):=by
 show(bf .In (.str x) (ae xs)).map (!·)=_
 rw[in_encS];rfl
theorem jD(xs ys:List Str):bf .NotEq (ae xs) (ae ys)=some (!decide (xs=ys)):=by
 have:bf .NotEq (ae xs) (ae ys)=if(ae xs).depth+(ae ys).depth<=40 then ane (ae xs) (ae ys)else EL:=rfl
 rw[this,cC,cC,wB];rfl
theorem yT(x:Str)(ks:List Str)(vs:List PV):bf .In (.str x) (.dict ks vs)=some (aT ks vs x).isSome:=rfl
theorem kB(x:Str)(ks:List Str)(vs:List PV):bf .NotIn (.str x) (.dict ks vs)=some !(aT ks vs x).isSome:=rfl
theorem dn(f c:Bool)(xs:List Str)(h:xs.length<=az):newl f c (xs.map PV.str)=some ⟨ae xs,true,true⟩:=by
 delta newl;rw[if_pos (by simpa using h),if_pos (iT xs)];rfl
theorem bind_to{α β:Type}{o:Option α}{f:α->Option β}{a:α}{b:β}(h:o=some a)(h':f a=some b):o.bind f=some b:=by rw[h];exact h'
theorem bj{α β:Type}{o:Option α}{f:α->β}{a:α}(h:o=some a):o.map f=some (f a):=by rw[h];rfl
theorem ri{σ:Sig}{x:Nat}{d:PV}{f:Bool}(h:σ[x]?= some (some ⟨d,f,false⟩)):lP σ x=some ⟨d,f,false⟩:=by delta lP;rw[h];rfl
theorem fD{A:Type}(dec:A->PV){body:Sig->Option Out}{x:Nat}{q:RV}(l:List A)(I:List A->Sig->Prop)
  (hb:∀pre a post σ,l=pre++a::post->I pre σ->∃σ',body (σ.set x (some (part q (dec a))))=some (.next σ')/\I (pre++[a]) σ') :
  ∀σ,I [] σ->∃σ',afor body x q (l.map dec) σ=some (.next σ')/\I l σ':=by
 have key:∀(post pre:List A) (σ:Sig),l=pre++post->I pre σ->∃σ',afor body x q (post.map dec) σ=some (.next σ')/\I l σ':=by
  intro post
  induction post with
  | nil=>intro pre σ e h;rw[Fb]at e;subst e;exact⟨σ,rfl,h⟩
  | cons a post ih =>
   intro pre σ e h
   refine cps λGq hGq=>?_
   obtain⟨σ',h1,h2⟩:=hb pre a post σ e h
   obtain⟨Df,h3,h4⟩:=ih (pre++[a]) σ' (by rw[e];simp) h2
   refine hGq ?_
   clear hGq
   refine⟨Df,?_,h4⟩
   exact bind_to h1 h3
 exact λσ h=>key l [] σ rfl h
section
variable{Φ:FTab}{n:Nat}{σ σ':Sig}{ts:List SStmt}{o:Out}
theorem seq{t:SStmt}(h:bO Φ n t σ=some (.next σ'))(h':aexecs Φ n ts σ'=some o):aexecs Φ n (t::ts) σ=some o:=bind_to h h'
theorem ah:aexecs Φ n [] σ=some (.next σ):=rfl
theorem jH{x:Nat}{e:SExpr}{r:RV}(he:aa Φ e σ=some r)(hc:r.c=true):bO Φ n (.set x e) σ=some (.next (σ.set x (some r))):=bind_to he (if_pos hc)
theorem am{x:Nat}{e:SExpr}{r:RV}(he:aa Φ e σ=some r)(hc:r.c=true)(h:aexecs Φ n ts (σ.set x (some r))=some o):aexecs Φ n (.set x e::ts) σ=some o :=
 seq (bind_to he (if_pos hc)) h
theorem o7{x:Nat}{e:SExpr}{r:RV}(he:aa Φ e σ=some r)(hc:r.c=true)(h:aexecs Φ n ts (σ.set x (some r))=some o):aexecs Φ n (.setc x e::ts) σ=some o :=
 seq (bind_to he (if_pos hc)) h
theorem oA{x:Nat}{es:List SExpr}{rs:List RV}{r:RV}(he:bB Φ es σ=some rs)(hr:newlR rs=some r)(hc:r.c=true)(h:aexecs Φ n ts (σ.set x (some ⟨r.d,r.f,false⟩))=some o):aexecs Φ n (.ownl x es::ts) σ=some o :=
 seq (bind_to he (bind_to hr (if_pos hc))) h
theorem cY{x:Nat}(h:aexecs Φ n ts (σ.set x (some ⟨.list [],true,false⟩))=some o):aexecs Φ n (.ownl x []::ts) σ=some o :=
 oA (rs:=[]) rfl rfl rfl h
theorem pR{x:Nat}(h:aexecs Φ n ts (σ.set x (some ⟨.dict [] [],true,false⟩))=some o):aexecs Φ n (.ownd x::ts) σ=some o :=
 seq rfl h
theorem seq_ret{e:SExpr}{r:RV}(he:aa Φ e σ=some r):aexecs Φ n (.ret e::ts) σ=some (.ret r):=bind_to (bj he) rfl
theorem zc{c:SExpr}{a b:List SStmt}{t:RV}{k:Bool}{r:Out}(hc:aa Φ c σ=some t)(hk:aX t.d=some k)(h:aexecs Φ n (if k then a else b) σ=some r):bO Φ n (.ife c a b) σ=some r :=
 bind_to hc (bind_to hk (by cases k<;>exact h))
theorem seq_if{c:SExpr}{a b:List SStmt}{t:RV}{k:Bool}(hc:aa Φ c σ=some t)(hk:aX t.d=some k)(h:aexecs Φ n (if k then a else b) σ=some (.next σ'))(h':aexecs Φ n ts σ'=some o):aexecs Φ n (.ife c a b::ts) σ=some o :=
 seq (zc hc hk h) h'
theorem cS{c:SExpr}{a b:List SStmt}{t:RV}{k:Bool}{r:RV}(hc:aa Φ c σ=some t)(hk:aX t.d=some k)(h:aexecs Φ n (if k then a else b) σ=some (.ret r)):aexecs Φ n (.ife c a b::ts) σ=some (.ret r) :=
 bind_to (zc hc hk h) rfl
theorem sD{x:Nat}{e:SExpr}{b:List SStmt}{q:RV}{ds:List PV}(he:aa Φ e σ=some q)(hi:aJ q.d=some ds)(hc:q.c=true)(h:afor (aexecs Φ n b) x q ds σ=some o):bO Φ n (.fr x e b) σ=some o:=bind_to he (bind_to hi ((if_pos hc).trans h))
theorem fO{A:Type}(dec:A->PV){x:Nat}{e:SExpr}{b:List SStmt}{q:RV}(l:List A)(I:List A->Sig->Prop)(he:aa Φ e σ=some q)(hi:aJ q.d=some (l.map dec))(hc:q.c=true)(h0:I [] σ)
  (hb:∀pre a post σ,l=pre++a::post->I pre σ->∃σ',aexecs Φ n b (σ.set x (some (part q (dec a))))=some (.next σ')/\I (pre++[a]) σ')
  (h:∀σ',I l σ'->aexecs Φ n ts σ'=some o):aexecs Φ n (.fr x e b::ts) σ=some o:=by
 obtain⟨σ',h1,h2⟩:=fD dec l I hb σ h0
 exact seq (σ':=σ') (sD he hi hc h1) (h σ' h2)
theorem wv{a:Bool}{p:Prop}[Decidable p](h:a=true)(h':p):(a&&decide p)=true:=by rw[h,decide_eq_true h'];rfl
theorem gd{x:Nat}{e:SExpr}{ds:List PV}{f:Bool}{r:RV}(hx:σ[x]?= some (some ⟨.list ds,f,false⟩))(he:aa Φ e σ=some r)(hc:r.c=true)(hl:ds.length<az)(h:aexecs Φ n ts (σ.set x (some ⟨.list (ds++[r.d]),f&&r.f,false⟩))=some o):aexecs Φ n (.app x e::ts) σ=some o :=
 seq (bind_to (ri hx) (bind_to (a:=ds) rfl (bind_to he (if_pos (wv hc hl))))) h
theorem seq_put{x:Nat}{k e:SExpr}{ks:List Str}{ds:List PV}{f:Bool}{r q:RV}{kk:Str}(hx:σ[x]?= some (some ⟨.dict ks ds,f,false⟩))(he:aa Φ e σ=some r)(hk:aa Φ k σ=some q)(hq:q.d=.str kk)(hc:r.c=true)(hl:ks.length<az)
  (h:aexecs Φ n ts (σ.set x (some ⟨.dict (put ks ds kk r.d).1 (put ks ds kk r.d).2,f&&r.f,false⟩))=some o):aexecs Φ n (.put x k e::ts) σ=some o :=
 seq (bind_to (ri hx) (bind_to (a:=(ks,ds)) rfl (bind_to he (bind_to hk (bind_to (a:=kk) (by rw[hq];rfl) (if_pos (wv hc hl))))))) h
theorem mU{x:Nat}{d:PV}{f:Bool}(hx:σ[x]?= some (some ⟨d,f,false⟩))(h:aexecs Φ n ts (σ.set x (some ⟨d,f,true⟩))=some o):aexecs Φ n (.rel x::ts) σ=some o :=
 seq (bj (ri hx)) h
theorem u0{x y:Nat}{e:SExpr}{d d':PV}{f:Bool}(he:aa Φ e σ=some ⟨.tup [d,d'],f,true⟩)(h:aexecs Φ n ts ((σ.set x (some (part ⟨.tup [d,d'],f,true⟩ d))).set y (some (part ⟨.tup [d,d'],f,true⟩ d')))=some o):aexecs Φ n (.unpk x y e::ts) σ=some o :=
 seq (bind_to he rfl) h
inductive Turn{S:Type}(I:S->Sig->Prop)(μ:S->Nat)(fin:S->Prop)(c:Option Bool)(b:Sig->Prop)(s:S):Prop
 | halt:c=some false->fin s->Turn I μ fin c b s
 | go {σ':Sig} {s':S}:c=some true->b σ'->I s' σ'->μ s'<μ s->Turn I μ fin c b s
inductive Done{S:Type}(I:S->Sig->Prop)(fin:S->Prop)(b:Sig->Prop):Prop
 | mk {σ':Sig} {s':S}:b σ'->I s' σ'->fin s'->Done I fin b
theorem tF{S:Type}(I:S->Sig->Prop)(μ:S->Nat)(fin:S->Prop){c:Sig->Option Bool}{b:Nat->Sig->Option Out}
  (hb:∀s σ,I s σ->Turn I μ fin (c σ) (λσ'=>∀m,b m σ=some (.next σ')) s) (k:Nat) :
  ∀(s:S) (σ:Sig),μ s<k->I s σ->Done I fin (λσ'=>∀m j,ql c (b m) (k+j) σ=some (.next σ')):=by
 induction k with
 | zero=>exact λs σ hk=>absurd hk (FP _)
 | succ k ih =>
  intro s σ hk h
  cases hb s σ h with
  | halt hc hf =>
   refine .mk (λm j=>?_) h hf
   rw[Jh]
   exact bind_to hc rfl
  | go hc hb1 hI hm =>
   cases ih _ _ (EX hm (FB hk)) hI with
   | mk h1 h2 h3 =>
    refine .mk (λm j=>?_) h2 h3
    rw[Jh]
    exact bind_to hc (bind_to (hb1 m) (h1 m j))
theorem qi{S:Type}(I:S->Sig->Prop)(μ:S->Nat)(fin:S->Prop){c:SExpr}{b:List SStmt}(s:S){σ:Sig}
  (hb:∀s σ,I s σ->(((aa Φ c σ).bind λt=>aX t.d)=some false/\fin s)\/(((aa Φ c σ).bind λt=>aX t.d)=some true/\∃σ' s',aexecs Φ 0 b σ=some (.next σ')/\I s' σ'/\μ s'<μ s))
  (h0:I s σ):∃s' σ' k,I s' σ'/\fin s'/\bO Φ k (.whl c b) σ=some (.next σ'):=by
 cases tF I μ fin (b:=λm=>aexecs Φ m b) (c:=λσ=>(aa Φ c σ).bind λt=>aX t.d) (λs σ h=>(hb s σ h).elim (λh=>.halt h.1 h.2) λh=>h.2.elim λσ' q=>q.elim λs' q=>.go h.1 (λm=>bw Φ (Fi m) _ _ _ q.1) q.2.1 q.2.2) (μ s+1) s σ (E7 _) h0 with
 | mk h1 h2 h3=>exact⟨_,_,μ s+1,h2,h3,h1 _ 0⟩
theorem p5{t:SStmt}{k:Nat}(h:bO Φ k t σ=some (.next σ'))(h':∃m,aexecs Φ m ts σ'=some o):∃m,aexecs Φ m (t::ts) σ=some o:=by
 obtain⟨m,hm⟩:=h'
 refine⟨max k m,seq (σ':=σ') (qM Φ (GI k m) _ _ _ h) (bw Φ (Gz k m) _ _ _ hm)⟩
end
theorem lO(r:Rule)(f c:Bool):d4 ⟨ao r,f,c⟩ (.int 0)=some (at1 (.str r.1)):=rfl
theorem bK(r:Rule)(f c:Bool):d4 ⟨ao r,f,c⟩ (.int 1)=some ⟨ae r.2,f,c⟩:=rfl
variable{Φ:FTab}
theorem dW(xs:List Str):(metS xs).length<=xs.length:=by
 have:∀(xs acc:List Str),(xs.foldl addS acc).length<=acc.length+xs.length:=by
  intro xs
  induction xs with
  | nil=>intro acc;simp
  | cons x xs ih =>
   intro acc
   rw[Hn]
   refine EK (ih _) ?_
   delta addS
   split<;>simp<;>lia
 simpa [metS]using this xs []
theorem metS_snoc(xs:List Str)(x:Str):metS (xs++[x])=addS (metS xs) x:=by simp[metS]
theorem dc{A:Type}{l pre post:List A}{a:A}(h:l=pre++a::post):pre.length<l.length:=by rw[h];simp
theorem ev_var{i:Nat}{σ:Sig}{r:RV}(h:σ[i]?= some (some r)):aa Φ (.var i) σ=some r:=congrArg Option.join h
theorem add_turn{n:Nat}{σ:Sig}{e:SExpr}{i:Nat}{x:Str}{xs:List Str}(he:aa Φ e σ=some (at1 (.str x)))(hi:σ[i]?= some (some ⟨ae xs,true,false⟩))(hl:xs.length<az) :
  aexecs Φ n [.ife (.cmp .NotIn e (.var i)) [.app i e] []] σ=some (.next (σ.set i (some ⟨ae (addS xs x),true,false⟩))):=by
 refine seq_if (t:=at1 (.bool (!decide (x∈xs)))) (bind_to he (bind_to (ev_var hi) (bj (notIn_encS x xs)))) rfl ?_ ah
 delta addS
 by_cases hm:x∈xs
 .rw[decide_eq_true hm,if_pos hm]
  obtain⟨h,e⟩:=EY.mp hi
  rw[<-e,HC]
  rfl
 .rw[decide_eq_false hm,if_neg hm]
  refine gd hi he rfl (by rw[EN];exact hl) ?_
  delta ae
  rw[Fc];rfl
theorem mO(g:List Rule)(hg:g.length<=az)(n:Nat):aexecs Φ n fP (C6 2 [aj g])=some (.ret ⟨ae (metS (g.map (·.1))),true,false⟩):=by
 refine cY (fO (A:=Rule) ao g (q:=⟨aj g,false,true⟩) (λpre σ=>∃r,σ=[some ⟨aj g,false,true⟩,some ⟨ae (metS (pre.map (·.1))),true,false⟩,r]) (ev_var rfl) rfl rfl ⟨_,rfl⟩ ?_ ?_)
 .rintro pre a post σ e ⟨r,rfl⟩
  refine⟨_,add_turn (x:=a.1) (xs:=metS (pre.map (·.1))) rfl rfl (ES (dW _) (by rw[EN];exact EX (dc e) hg)),?_⟩
  rw[Fc,<-metS_snoc];exact⟨_,rfl⟩
 .rintro σ ⟨r,rfl⟩
  exact seq_ret (ev_var rfl)
theorem run_merged(a b:List Str)(hl:a.length+b.length<64)(n:Nat):aexecs Φ n ja (C6 2 [ae a,ae b])=some (.ret ⟨ae (bv (metS (a++b))),true,true⟩):=by
 have hab:(a++b).length<64:=by rw[EQ];exact hl
 have hadd:aa Φ (.bin .Add (.var 0) (.var 1)) [some ⟨ae a,false,true⟩,some ⟨ae b,false,true⟩,some ⟨.list [],true,false⟩,EL]=some ⟨ae (a++b),true,true⟩:=by
  show newl (false&&false) (true&&true) (a.map PV.str++b.map PV.str)=_
  rw[<-Fc,dn _ _ _ (EK (FS hab) (by decide))]
 refine cY (fO (A:=Str) PV.str (a++b) (q:=⟨ae (a++b),true,true⟩) (λpre σ=>∃r,σ=[some ⟨ae a,false,true⟩,some ⟨ae b,false,true⟩,some ⟨ae (metS pre),true,false⟩,r]) hadd rfl rfl ⟨_,rfl⟩ ?_ ?_)
 .rintro pre x post σ e ⟨r,rfl⟩
  refine⟨_,add_turn (x:=x) (xs:=metS pre) rfl rfl (ES (dW _) (FZ (dc e) (EX hab (by decide)))),?_⟩
  rw[<-metS_snoc];exact⟨_,rfl⟩
 .rintro σ ⟨r,rfl⟩
  refine seq_ret (bind_to (a:=⟨ae (metS (a++b)),true,false⟩) rfl (bind_to (a:=(metS (a++b)).map PV.str) rfl (bind_to (fc _) (if_pos ?_))))
  exact ES (dW _) hab
theorem eK(xs:List Str)(x y:Str):y∈addS xs x↔y∈xs\/y=x:=by
 delta addS;split
 .rename_i h
  constructor
  .exact .inl
  .rintro(h' | rfl)
   .exact h'
   .exact h
 .simp
theorem nodup_addS{xs:List Str}(x:Str)(h:xs.Nodup):(addS xs x).Nodup:=by
 delta addS;split
 .exact h
 .rename_i hx
  rw[Hu]
  refine⟨h,by simp,?_⟩
  intro a ha b hb e
  rw[EM]at hb
  subst hb;subst e
  exact hx ha
theorem metS_aux(xs:List Str):∀acc:List Str,acc.Nodup->(xs.foldl addS acc).Nodup/\∀y,y∈xs.foldl addS acc↔y∈acc\/y∈xs:=by
 induction xs with
 | nil=>intro acc h;exact⟨h,by simp⟩
 | cons x xs ih =>
  intro acc h
  obtain⟨h1,h2⟩:=ih (addS acc x) (nodup_addS x h)
  refine⟨h1,λy=>?_⟩
  rw[Hn,h2,eK,EU,or_assoc]
theorem bW{xs:List Str}{y:Str}:y∈metS xs↔y∈xs:=by
 have:=(metS_aux xs [] HT).2 y
 simpa [metS]using this
theorem bx(xs:List Str):(metS xs).Nodup:=(metS_aux xs [] HT).1
noncomputable def SN(l:List Str):Prop:=l.Nodup/\l.Pairwise (λa b=>jY a b=true)
theorem SN.ext{l l':List Str}(h:SN l)(h':SN l')(e:∀x,x∈l↔x∈l'):l=l' :=
 gz ((List.perm_ext_iff_of_nodup h.1 h'.1).mpr e) h.2 h'.2
theorem mem_sortS{l:List Str}{x:Str}:x∈bv l↔x∈l:=(cU l).mem_iff
theorem d0{l:List Str}(h:l.Nodup):SN (bv l):=⟨(cU l).nodup_iff.mpr h,fj l⟩
theorem lm:SN []:=⟨HT,.nil⟩
theorem AC(x:Str):SN [x]:=⟨by simp,by simp⟩
noncomputable def mg(a b:List Str):List Str:=bv (metS (a++b))
theorem mem_mg{a b:List Str}{x:Str}:x∈mg a b↔x∈a\/x∈b:=by delta mg;rw[mem_sortS,bW,E0]
theorem SN_mg(a b:List Str):SN (mg a b):=d0 (bx _)
theorem yF{a b:List Str}(ha:SN a):(mg a b=a/\∀x∈b,x∈a)\/(mg a b≠a/\a.length<(mg a b).length):=by
 by_cases h:∀x∈b,x∈a
 .refine .inl ⟨(SN_mg a b).ext ha λx=>?_,h⟩
  rw[mem_mg]
  exact⟨λh'=>h'.elim id (h x),.inl⟩
 .refine .inr ?_
  have:∃x,x∈b/\x∉a:=by
   refine FO λhn=>h λx hx=>FO λha=>hn ⟨x,hx,ha⟩
  obtain⟨x,hx,hxa⟩:=this
  have hm:x∈mg a b:=mem_mg.mpr (.inr hx)
  refine⟨λe=>hxa (e▸hm),?_⟩
  have hnd:(x::a).Nodup:=GK.mpr ⟨hxa,ha.1⟩
  have:=hnd.length_le_of_subset (l₂:=mg a b) λy hy=>by
   rcases EU.mp hy with rfl | hy
   .exact hm
   .exact mem_mg.mpr (.inl hy)
  simp at this
  exact this
theorem look_none{α:Type}{ks:List Str}{vs:List α}{k:Str}(h:k∉ks):aT ks vs k=none:=by
 induction ks generalizing vs with
 | nil=>cases vs<;>rfl
 | cons x ks ih =>
  cases vs with
  | nil=>rfl
  | cons v vs =>
   rw[look_cons,if_neg (λe:x=k=>h (by rw[e];exact EP ..))]
   exact ih (λhm=>h (EO _ hm))
theorem cm{α:Type}{ks:List Str}{vs:List α}{k:Str}(hl:ks.length<=vs.length)(h:k∈ks):∃v,aT ks vs k=some v:=by
 induction ks generalizing vs with
 | nil=>cases h
 | cons x ks ih =>
  cases vs with
  | nil=>simp at hl
  | cons v vs =>
   rw[look_cons]
   by_cases e:x=k
   .rw[if_pos e];exact⟨v,rfl⟩
   .rw[if_neg e]
    exact ih (by simpa using hl) ((EU.mp h).resolve_left λq=>e q.symm)
theorem look_mem{α:Type}{ks:List Str}{vs:List α}{k:Str}{v:α}(h:aT ks vs k=some v):k∈ks/\v∈vs:=by
 induction ks generalizing vs with
 | nil=>cases vs<;>cases h
 | cons x ks ih =>
  cases vs with
  | nil=>cases h
  | cons u vs =>
   rw[look_cons]at h
   split at h
   .rename_i e;cases h;exact⟨e▸EP ..,EP ..⟩
   .exact⟨EO _ (ih h).1,EO _ (ih h).2⟩
theorem look_map{α β:Type}(f:α->β)(ks:List Str)(vs:List α)(k:Str):aT ks (vs.map f) k=(aT ks vs k).map f:=by
 induction ks generalizing vs with
 | nil=>cases vs<;>rfl
 | cons x ks ih =>
  cases vs with
  | nil=>rfl
  | cons v vs =>
   rw[Fp,look_cons,look_cons]
   split
   .rfl
   .exact ih vs
theorem eh{α:Type}{ks:List Str}{vs:List α}(hl:ks.length=vs.length)(k:Str):(aT ks vs k).isSome=decide (k∈ks):=by
 by_cases h:k∈ks
 .obtain⟨v,e⟩:=cm (Fm hl) h
  rw[e];simp[h]
 .rw[look_none h];simp[h]
noncomputable def kF{α:Type}(ks:List Str)(vs:List α)(k:Str)(v:α):List α:=(ks.zip vs).map λp=>if p.1=k then v else p.2
theorem mW{α:Type}{ks:List Str}{vs:List α}{k:Str}{v:α}(h:k∈ks):put ks vs k v=(ks,kF ks vs k v):=by
 delta put kF;rw[if_pos h]
theorem put_new{α:Type}{ks:List Str}{vs:List α}{k:Str}{v:α}(h:k∉ks):put ks vs k v=(ks++[k],vs++[v]):=by
 delta put;rw[if_neg h]
theorem gK{α:Type}{ks:List Str}{vs:List α}{k:Str}{v:α}(h:ks.length=vs.length):(kF ks vs k v).length=ks.length:=by
 delta kF;simp;lia
theorem rZ{α:Type}{k:Str}{v:α}:∀{ks:List Str} {vs:List α},ks.length=vs.length->k∉ks->kF ks vs k v=vs:=by
 intro l0
 induction l0 with
 | nil=>exact @λvs h θ=>(F3.mp h.symm).symm
 | cons y ks ih =>
  intro vs h hn
  cases vs with
  | nil=>cases h
  | cons w vs =>
  have e:kF (y::ks) (w::vs) k v=(if y=k then v else w)::kF ks vs k v:=rfl
  rw[e,if_neg (λq:y=k=>hn (by rw[q];exact EP ..)),ih (GY h) (λhm=>hn (EO _ hm))]
theorem wQ{α:Type}{ks:List Str}{vs:List α}{k j:Str}{v:α}(hl:ks.length=vs.length)(hk:k∈ks):aT ks (kF ks vs k v) j=if j=k then some v else aT ks vs j:=by
 induction ks generalizing vs with
 | nil=>cases hk
 | cons x ks ih =>
  cases vs with
  | nil=>cases hl
  | cons u vs =>
   have e:kF (x::ks) (u::vs) k v=(if x=k then v else u)::kF ks vs k v:=rfl
   rw[e,look_cons,look_cons]
   by_cases hx:x=j
   .subst hx
    rw[if_pos rfl,if_pos rfl]
    by_cases hk':x=k
    .rw[if_pos hk',if_pos hk']
    .rw[if_neg hk',if_neg hk']
   .rw[if_neg hx,if_neg hx]
    by_cases hkk:k∈ks
    .exact ih (GY hl) hkk
    .have hxk:k=x:=(EU.mp hk).resolve_right hkk
     rw[if_neg (λq:j=k=>hx (hxk.symm.trans q.symm)),rZ (GY hl) hkk]
theorem ni{α β:Type}(f:α->β)(ks:List Str)(vs:List α)(k:Str)(v:α):kF ks (vs.map f) k (f v)=(kF ks vs k v).map f:=by
 delta kF
 induction ks generalizing vs with
 | nil=>rfl
 | cons x ks ih =>
  cases vs with
  | nil=>rfl
  | cons u vs =>
   simp only[Fp,GZ,ih vs]
   split<;>rfl
noncomputable def AN{V:Type}(size:V->Nat)(C:V->Prop)(v:V)(ch:Bool)(v':V)(ch':Bool):Prop:=(v'=v/\ch'=ch/\C v)\/(size v<size v'/\ch'=true)
section
variable{Φ:FTab}{V A:Type}{size:V->Nat}{Good:V->Prop}{I:V->Bool->Sig->Prop}
theorem Bo(Cl:A->V->Prop)(dec:A->PV)(l:List A){b:List SStmt}{x:Nat}{e:SExpr}{q:RV}
  (hb:∀a∈l,∀v ch σ,Good v->I v ch σ->∃σ' v' ch',aexecs Φ 0 b (σ.set x (some (part q (dec a))))=some (.next σ')/\I v' ch' σ'/\Good v'/\AN size (Cl a) v ch v' ch')
  {v:V} {ch:Bool} {σ:Sig} (hg:Good v) (hI:I v ch σ) (he:aa Φ e σ=some q) (hi:aJ q.d=some (l.map dec)) (hc:q.c=true) :
  ∃σ' v' ch',bO Φ 0 (.fr x e b) σ=some (.next σ')/\I v' ch' σ'/\Good v'/\AN size (λv=>∀a∈l,Cl a v) v ch v' ch':=by
 obtain⟨σ',h1,v',ch',h2,h3,h4⟩:=fD (body:=aexecs Φ 0 b) (x:=x) (q:=q) dec l (λpre σ=>∃v' ch',I v' ch' σ/\Good v'/\AN size (λv=>∀a∈pre,Cl a v) v ch v' ch') (by
  rintro pre a post Ef hl ⟨v1,ch1,hI1,hg1,hs1⟩
  refine cps λGq hGq=>?_
  obtain⟨Es,v2,ch2,h1,h2,h3,h4⟩:=hb a (by rw[hl];simp) v1 ch1 Ef hg1 hI1
  refine hGq ?_
  clear hGq
  refine⟨Es,h1,v2,ch2,h2,h3,?_⟩
  rcases hs1 with⟨rfl,rfl,hC⟩ | ⟨hs,rfl⟩
  .rcases h4 with⟨rfl,rfl,hC2⟩ | h4
   .refine .inl ⟨rfl,rfl,λz hz=>?_⟩
    rcases E0.mp hz with hz | hz
    .exact hC z hz
    .rw[EM.mp hz];exact hC2
   .exact .inr h4
  .rcases h4 with⟨rfl,rfl,hC2⟩ | ⟨h4,h5⟩
   .exact .inr ⟨hs,rfl⟩
   .exact .inr ⟨by exact FZ hs h4,h5⟩) σ ⟨v,ch,hI,hg,.inl ⟨rfl,rfl,λa ha=>by cases ha⟩⟩
 refine⟨σ',v',ch',?_,h2,h3,h4⟩
 exact sD he hi hc h1
theorem chaos(B:Nat)(Cl:A->V->Prop)(dec:A->PV)(l:List A){b:List SStmt}{x cx:Nat}{e:SExpr}{q:RV}
  (hB:∀v,Good v->size v<=B)
  (hset:∀v ch σ,I v ch σ->I v false (σ.set cx (some (at1 (.bool false)))))
  (hcond:∀v ch σ,I v ch σ->σ[cx]?= some (some (at1 (.bool ch))))
  (he:∀v ch σ,I v ch σ->aa Φ e σ=some q) (hi:aJ q.d=some (l.map dec)) (hc:q.c=true)
  (hb:∀a∈l,∀v ch σ,Good v->I v ch σ->∃σ' v' ch',aexecs Φ 0 b (σ.set x (some (part q (dec a))))=some (.next σ')/\I v' ch' σ'/\Good v'/\AN size (Cl a) v ch v' ch')
  {v:V} {σ:Sig} (hg:Good v) (hI:I v true σ) :
  ∃v' σ' k,Good v'/\(∀a∈l,Cl a v')/\I v' false σ'/\bO Φ k (.whl (.var cx) [.set cx (.bool false),.fr x e b]) σ=some (.next σ'):=by
 have key:∀(s:V×Bool) σ,(I s.1 s.2 σ/\Good s.1/\(s.2=false->∀a∈l,Cl a s.1))->(((aa Φ (.var cx) σ).bind λt=>aX t.d)=some false/\s.2=false)\/(((aa Φ (.var cx) σ).bind λt=>aX t.d)=some true/\∃(σ':Sig) (s':V×Bool),aexecs Φ 0 [.set cx (.bool false),.fr x e b] σ=some (.next σ')/\(I s'.1 s'.2 σ'/\Good s'.1/\(s'.2=false->∀a∈l,Cl a s'.1))/\(2*(B - size s'.1)+if s'.2 then 1 else 0)<(2*(B - size s.1)+if s.2 then 1 else 0)):=by
  rintro⟨v,ch⟩ σ ⟨hI,hg,hcl⟩
  have hcv:((aa Φ (.var cx) σ).bind λt=>aX t.d)=some ch:=by
   rw[ev_var (hcond v ch σ hI)];rfl
  cases ch with
  | false=>exact .inl ⟨hcv,rfl⟩
  | true =>
   refine .inr ⟨hcv,?_⟩
   have hI0:=hset v true σ hI
   refine cps λGq hGq=>?_
   obtain⟨σ',v',ch',h1,h2,h3,h4⟩:=Bo (I:=I) (size:=size) (Φ:=Φ) Cl dec l hb hg hI0 (he _ _ _ hI0) hi hc
   refine hGq ?_
   clear hGq
   refine⟨σ',(v',ch'),?_,⟨h2,h3,λhch=>?_⟩,?_⟩
   .refine am (r:=at1 (.bool false)) rfl rfl ?_
    exact seq h1 ah
   .rcases h4 with⟨rfl,zz,hC⟩ | ⟨zz,h5⟩
    .exact hC
    .simp only at hch;rw[hch]at h5;cases h5
   .have b1:=hB _ hg
    have b2:=hB _ h3
    rcases h4 with⟨rfl,rfl,hC⟩ | ⟨h5,rfl⟩
    .exact E7 (2*(B - size _))
    .exact HG (HU (Hi (EX h5 b2) h5) (by decide))
 refine cps λGq hGq=>?_
 obtain⟨⟨v',ch'⟩,σ',k,⟨hI',hg',hcl'⟩,hf,hx⟩:=qi (S:=V×Bool) (Φ:=Φ) (c:=.var cx) (b:=[.set cx (.bool false),.fr x e b]) (λs σ=>I s.1 s.2 σ/\Good s.1/\(s.2=false->∀a∈l,Cl a s.1)) (λs=>2*(B - size s.1)+if s.2 then 1 else 0) (λs=>s.2=false) (v,true) (σ:=σ) key ⟨hI,hg,λh=>by cases h⟩
 refine hGq ?_
 clear hGq
 simp only at hf
 subst hf
 exact⟨v',σ',k,hg',hcl' rfl,hI',hx⟩
end
section
variable{Φ:FTab}
section
variable{σ:Sig}{a b c i:SExpr}{es:List SExpr}{r q t:RV}{rs:List RV}
theorem ai{k:Int}:aa Φ (.int k) σ=some (at1 (.int k)):=rfl
theorem aE{k:Str}:aa Φ (.str k) σ=some (at1 (.str k)):=rfl
theorem bp{k:Bool}:aa Φ (.bool k) σ=some (at1 (.bool k)):=rfl
theorem xB:aa Φ .none σ=some (at1 .none):=rfl
theorem ev_idx(h1:aa Φ a σ=some r)(h2:aa Φ i σ=some q)(h:d4 r q.d=some t):aa Φ (.idx a i) σ=some t:=bind_to h1 (bind_to h2 h)
theorem ev_cmp{op:CmpOp}{k:Bool}(h1:aa Φ a σ=some r)(h2:aa Φ b σ=some q)(h:bf op r.d q.d=some k):aa Φ (.cmp op a b) σ=some (at1 (.bool k)):=bind_to h1 (bind_to h2 (bj h))
theorem ev_bin{op:Operator}(h1:aa Φ a σ=some r)(h2:aa Φ b σ=some q)(h:og op r q=some t):aa Φ (.bin op a b) σ=some t:=bind_to h1 (bind_to h2 h)
theorem evs_nil:bB Φ [] σ=some []:=rfl
theorem evs_cons(h1:aa Φ a σ=some r)(h2:bB Φ es σ=some rs):bB Φ (a::es) σ=some (r::rs):=bind_to h1 (bind_to h2 rfl)
theorem ev_list(h1:bB Φ es σ=some rs)(h:newlR rs=some t):aa Φ (.list es) σ=some t:=bind_to h1 h
theorem gI(h1:bB Φ es σ=some rs)(h:rs.length<=az)(hr:n4 (rs.map (·.d))=false:=by rfl):aa Φ (.tup es) σ=some ⟨.tup (rs.map (·.d)),rs.all (·.f),rs.all (·.c)⟩:=bind_to h1 (if_pos ⟨h,hr⟩)
theorem wO{x:Str}{ds:List PV}{f c:Bool}(h1:aa Φ a σ=some ⟨.list ds,f,c⟩):aa Φ (.mkR x a) σ=some ⟨.tup [.str x,.list ds],f,c⟩:=bind_to h1 rfl
theorem vh{sl:Bool}{i:Nat}{x:Str}{ds:List PV}{f c:Bool}(h1:(σ[i]?).join=some ⟨.tup [.str x,.list ds],f,c⟩)(h:ds.all PV.atom=true):aa Φ (.cpy sl i) σ=some ⟨.tup [.str x,.list ds],true,true⟩:=bind_to h1 (if_pos h)
theorem yJ{f:Str}{p:PV×Bool}(h1:bB Φ es σ=some rs)(h:Φ f (rs.map (·.d))=some p):aa Φ (.call f es) σ=some ⟨p.1,p.2||p.1.atom||rs.all (·.f),p.2||p.1.atom||rs.all (·.c)⟩:=bind_to h1 (bj h)
theorem ev_callT{f:Str}{d:PV}(h1:bB Φ es σ=some rs)(h:Φ f (rs.map (·.d))=some (d,true)):aa Φ (.call f es) σ=some ⟨d,true,true⟩:=yJ h1 h
theorem dt{n:Nat}(h1:aa Φ a σ=some r)(h:yq r.d=some n):aa Φ (.len a) σ=some (at1 (.int n)):=bind_to h1 (bj h)
theorem gR{A:Type}(p:A->Bool)(l:List A):bC (l.map λx=>PV.bool (p x))=some (l.map p):=by
 induction l with
 | nil=>rfl
 | cons x l ih=>exact bj (f:=(p x::·)) ih
theorem uO{A:Type}{p:A->Bool}{l:List A}{f c:Bool}(h1:aa Φ a σ=some ⟨.list (l.map λx=>.bool (p x)),f,c⟩):aa Φ (.all a) σ=some (at1 (.bool (l.all p))):=by
 refine bind_to h1 (bind_to (a:=l.map λx=>.bool (p x)) rfl ((bj (gR p l)).trans ?_))
 rw[GM];rfl
theorem ands_nil:fW Φ [] σ=some true:=rfl
theorem ands_cons{k l:Bool}(h1:aa Φ a σ=some (at1 (.bool k)))(h2:fW Φ es σ=some l):fW Φ (a::es) σ=some (k&&l) :=
 bind_to h1 (bind_to (a:=k) rfl (by cases k<;>first | exact h2 | rfl))
theorem ors_cons{k l:Bool}(h1:aa Φ a σ=some (at1 (.bool k)))(h2:jN Φ es σ=some l):jN Φ (a::es) σ=some (k||l) :=
 bind_to h1 (bind_to (a:=k) rfl (by cases k<;>first | exact h2 | rfl))
theorem ev_band{k:Bool}(h:fW Φ es σ=some k):aa Φ (.band es) σ=some (at1 (.bool k)):=bj h
theorem ev_bor{k:Bool}(h:jN Φ es σ=some k):aa Φ (.bor es) σ=some (at1 (.bool k)):=bj h
theorem iR{k:Bool}(h1:aa Φ a σ=some (at1 (.bool k))):aa Φ (.not a) σ=some (at1 (.bool !k)):=bind_to h1 rfl
theorem ev_range{k:Nat}{f c:Bool}(h1:aa Φ a σ=some ⟨.int k,f,c⟩)(h:k<=az):aa Φ (.range a) σ=some ⟨.rng 0 k 1,true,true⟩ :=
 bind_to h1 (bind_to (a:=(k:Int)) rfl (if_pos ⟨Fy k,Go.mpr h⟩))
theorem ev_sorted{xs:List Str}{f c:Bool}(h1:aa Φ a σ=some ⟨ae xs,f,c⟩)(h:xs.length<64):aa Φ (.sorted a) σ=some ⟨ae (bv xs),true,true⟩ :=
 bind_to h1 (bind_to (a:=xs.map PV.str) rfl (bind_to (fc xs) (if_pos h)))
theorem ev_compP{A:Type}{dec:A->PV}{f:A->RV}{l:List A}(h1:aa Φ b σ=some r)(h2:aJ r.d=some (l.map dec))(h3:∀x∈l,aa Φ a (σ++[some (part r (dec x))])=some (f x))(h:newlR (l.map f)=some t):aa Φ (.comp a b) σ=some t:=by
 refine bind_to h1 (bind_to h2 (bind_to ?_ h))
 clear h h2
 induction l with
 | nil=>rfl
 | cons x l ih=>exact bind_to (bj (h3 x (EP ..))) (bind_to (ih λy hy=>h3 y (EO _ hy)) rfl)
end
theorem cF{A:Type}(b:A->Bool)(l:List A)(h:l.length<=az):newlR (l.map λa=>at1 (.bool (b a)))=some ⟨.list (l.map λa=>.bool (b a)),true,true⟩:=by
 delta newlR newl
 rw[if_pos (by simpa using h)]
 have e1:(l.map λa=>at1 (.bool (b a))).map (·.d)=l.map λa=>.bool (b a):=by rw[Fe];rfl
 rw[e1,if_pos (by rw[GM];exact List.all_eq_true.mpr λθ θ=>rfl)]
noncomputable def iO(g:List Rule)(gv:List Str)(N:Str->Prop):Prop:=∀r∈g,(∀s∈r.2,s∈gv\/N s)->N r.1
structure IsBlt(g:List Rule)(gv l:List Str):Prop where
 sn:SN l
 closed:iO g gv (·∈l)
 least:∀N,iO g gv N->∀h∈l,N h
noncomputable def mj(g:List Rule)(N:Str->Prop):Prop:=∀r∈g,(∀s∈r.2,N s)->N r.1
structure IsNul(g:List Rule)(l:List Str):Prop where
 sn:SN l
 closed:mj g (·∈l)
 least:∀N,mj g N->∀h∈l,N h
theorem IsBlt.nul{g:List Rule}{l:List Str}(x:IsBlt g [] l):IsNul g l :=
 ⟨x.sn,λr hr hs=>x.closed r hr λs h=>.inr (hs s h),λN hN=>x.least N λr hr hs=>hN r hr λs h=>(hs s h).resolve_left (λq=>nomatch q)⟩
theorem xW(g:List Rule)(gv:List Str)(hg:g.length<64)(hb:∀r∈g,r.2.length<=az):∃l,IsBlt g gv l/\∃k,aexecs Φ k bq (C6 3 [aj g,ae gv])=some (.ret ⟨ae l,true,true⟩):=by
 let I:List Str->Bool->Sig->Prop:=λf ch σ=>∃r,σ=[some ⟨aj g,false,true⟩,some ⟨ae gv,false,true⟩,some ⟨ae f,true,false⟩,some (at1 (.bool ch)),r]
 let Good:List Str->Prop:=λf=>f.Nodup/\(∀h∈f,h∈g.map (·.1))/\∀N,iO g gv N->∀h∈f,N h
 have hlen:∀f,Good f->f.length<=g.length:=λf hf=>by
  have:=hf.1.length_le_of_subset hf.2.1
  simpa using this
 obtain⟨f,σ',k,hgf,hcl,hI,hx⟩:=chaos (Φ:=Φ) (V:=List Str) (size:=G7) (Good:=Good) (I:=I) g.length (λr f=>(∀s∈r.2,s∈gv\/s∈f)->r.1∈f) ao g (x:=4) (cx:=3) (e:=.var 0) (q:=⟨aj g,false,true⟩)
  (b:=[.ife (.band [.cmp .NotIn (.idx (.var 4) (.int 0)) (.var 2),.all (.comp (.bor [.cmp .In (.var 5) (.var 1),.cmp .In (.var 5) (.var 2)]) (.idx (.var 4) (.int 1)))]) [.app 2 (.idx (.var 4) (.int 0)),.set 3 (.bool true)] []])
  hlen (by rintro v ch σ ⟨r,rfl⟩;exact⟨r,rfl⟩) (by rintro v ch σ ⟨r,rfl⟩;rfl) (by rintro v ch σ ⟨r,rfl⟩;exact ev_var rfl) rfl rfl (by
   rintro r hr f ch σ hgf ⟨rr,rfl⟩
   have htest:aa Φ (.band [.cmp .NotIn (.idx (.var 4) (.int 0)) (.var 2),.all (.comp (.bor [.cmp .In (.var 5) (.var 1),.cmp .In (.var 5) (.var 2)]) (.idx (.var 4) (.int 1)))]) [some ⟨aj g,false,true⟩,some ⟨ae gv,false,true⟩,some ⟨ae f,true,false⟩,some (at1 (.bool ch)),some ⟨ao r,false,true⟩]=some (at1 (.bool (!decide (r.1∈f)&&r.2.all λs=>decide (s∈gv)||decide (s∈f)))):=by
    refine ev_band ((ands_cons (ev_cmp (ev_idx (ev_var rfl) ai rfl) (ev_var rfl) (notIn_encS _ _)) (ands_cons (uO (l:=r.2) (p:=λs=>decide (s∈gv)||decide (s∈f)) (f:=true) (c:=true) (ev_compP (dec:=PV.str) (l:=r.2) (f:=λs=>at1 (.bool (decide (s∈gv)||decide (s∈f)))) (ev_idx (ev_var rfl) ai (bK r false true)) rfl ?_ (cF _ _ (hb r hr)))) ands_nil)).trans ?_)
    .intro s zz
     refine(ev_bor (ors_cons (ev_cmp (ev_var rfl) (ev_var rfl) (in_encS s gv)) (ors_cons (ev_cmp (ev_var rfl) (ev_var rfl) (in_encS s f)) (l:=false) rfl))).trans ?_
     rw[GR]
    .rw[FY]
   by_cases hc:r.1∉f/\∀s∈r.2,s∈gv\/s∈f
   .have hl:=hlen f hgf
    refine⟨_,f++[r.1],true,seq_if (k:=true) htest ?_ (σ':=[some ⟨aj g,false,true⟩,some ⟨ae gv,false,true⟩,some ⟨ae (f++[r.1]),true,false⟩,some (at1 (.bool true)),some ⟨ao r,false,true⟩]) ?_ ah,⟨_,rfl⟩,⟨?_,?_,?_⟩,.inr ⟨by simp,rfl⟩⟩
    .refine congrArg some ?_
     simp only[Gj,FX,decide_eq_false_iff_not,Fs,I4,decide_eq_true_eq]
     exact hc
    .refine gd (ds:=f.map PV.str) (r:=at1 (.str r.1)) rfl ?_ rfl (by rw[EN];delta az;lia) ?_
     .rfl
     .refine am (r:=at1 (.bool true)) rfl rfl ?_
      delta ae
      rw[Fc];rfl
    .rw[Hu]
     refine⟨hgf.1,by simp,λa ha b hb e=>?_⟩
     rw[EM]at hb
     subst hb;subst e
     exact hc.1 ha
    .intro h hh
     rcases E0.mp hh with hh | hh
     .exact hgf.2.1 h hh
     .rw[EM.mp hh];exact E4 hr
    .intro N hN h hh
     rcases E0.mp hh with hh | hh
     .exact hgf.2.2 N hN h hh
     .rw[EM.mp hh]
      exact hN r hr λs hs=>(hc.2 s hs).imp id (hgf.2.2 N hN s)
   .refine⟨_,f,ch,seq_if (k:=false) htest ?_ ah ah,⟨_,rfl⟩,hgf,.inl ⟨rfl,rfl,λhs=>FO λhn=>hc ⟨hn,hs⟩⟩⟩
    refine congrArg some ?_
    cases hq:(!decide (r.1∈f)&&r.2.all λs=>decide (s∈gv)||decide (s∈f))with
    | false=>rfl
    | true =>
     refine absurd ?_ hc
     simpa using hq) (v:=[]) (σ:=[some ⟨aj g,false,true⟩,some ⟨ae gv,false,true⟩,some ⟨ae [],true,false⟩,some (at1 (.bool true)),EL]) ⟨HT,by simp,by simp⟩ ⟨_,rfl⟩
 refine⟨bv f,⟨d0 hgf.1,λr hr hs=>mem_sortS.mpr (hcl r hr λs h=>(hs s h).imp id mem_sortS.mp),λN hN h hh=>hgf.2.2 N hN h (mem_sortS.mp hh)⟩,?_⟩
 obtain⟨r,rfl⟩:=hI
 have hend:∃m,aexecs Φ m [.ret (.sorted (.var 2))] [some ⟨aj g,false,true⟩,some ⟨ae gv,false,true⟩,some ⟨ae f,true,false⟩,some (at1 (.bool false)),r]=some (.ret ⟨ae (bv f),true,true⟩):=by
  exact⟨0,seq_ret (ev_sorted (ev_var rfl) (by have:=hlen f hgf;exact ES this hg))⟩
 obtain⟨m,hm⟩:=p5 hx hend
 refine⟨m,?_⟩
 delta bq
 exact cY (am (r:=at1 (.bool true)) rfl rfl hm)
end
noncomputable def fos(ks:List Str)(vs:List (List Str))(nl:List Str):List Str->List Str->List Str×Bool
 | b,[]=>(b,true)
 | b,X::rest=>match aT ks vs X with
  | none=>(mg b [X],false)
  | some l=>if X∈nl then fos ks vs nl (mg b l) rest else(mg b l,false)
noncomputable def FF(ks:List Str)(vs:List (List Str))(h t:Str):Prop:=∃l,aT ks vs h=some l/\t∈l
noncomputable def inFos(ks nl:List Str)(F:Str->Str->Prop):List Str->Str->Prop
 | [],θ=>False
 | X::rest,t=>if X∈ks then(F X t\/(X∈nl/\inFos ks nl F rest t))else t=X
noncomputable def jv(ks nl:List Str):List Str->Prop
 | []=>True
 | X::rest=>X∈ks/\X∈nl/\jv ks nl rest
theorem vanF_cons(ks nl:List Str)(X:Str)(rest:List Str):jv ks nl (X::rest)=(X∈ks/\X∈nl/\jv ks nl rest):=rfl
theorem inFos_cons(ks nl:List Str)(F:Str->Str->Prop)(X:Str)(rest:List Str)(t:Str):inFos ks nl F (X::rest) t=if X∈ks then(F X t\/(X∈nl/\inFos ks nl F rest t))else t=X:=rfl
theorem fos_cons(ks:List Str)(vs:List (List Str))(nl b:List Str)(X:Str)(rest:List Str):fos ks vs nl b (X::rest)=match aT ks vs X with
  | none=>(mg b [X],false)
  | some l=>if X∈nl then fos ks vs nl (mg b l) rest else(mg b l,false):=rfl
theorem inFos_mono{ks nl:List Str}{F G:Str->Str->Prop}(h:∀x t,F x t->G x t):∀{xs:List Str} {t:Str},inFos ks nl F xs t->inFos ks nl G xs t:=by
 intro l0
 induction l0 with
 | nil=>exact @λt hh=>hh
 | cons X xs ih =>
  intro t hh
  rw[inFos_cons]at hh ⊢
  split at hh
  .rename_i hk
   rw[if_pos hk]
   exact hh.imp (h _ _) λz=>⟨z.1,ih z.2⟩
  .rename_i hk;rw[if_neg hk];exact hh
theorem mem_fos{ks nl:List Str}{vs:List (List Str)}(hl:ks.length=vs.length):∀(xs b:List Str) (t:Str),t∈(fos ks vs nl b xs).1↔t∈b\/inFos ks nl (FF ks vs) xs t:=by
 intro l0
 induction l0 with
 | nil=>exact @λb t=>⟨.inl,λh=>h.elim id False.elim⟩
 | cons X xs ih =>
  intro b t
  rw[fos_cons,inFos_cons]
  by_cases hk:X∈ks
  .obtain⟨l,e⟩:=cm (Fm hl) hk
   rw[if_pos hk,e]
   simp only
   have hF:FF ks vs X t↔t∈l:=by unfold FF;rw[e];simp
   by_cases hn:X∈nl
   .rw[if_pos hn,ih,mem_mg,hF,or_assoc];simp[hn]
   .rw[if_neg hn,mem_mg,hF];simp[hn]
  .rw[if_neg hk,look_none hk]
   simp only
   rw[mem_mg];simp
theorem yS{ks nl:List Str}{vs:List (List Str)}(hl:ks.length=vs.length):∀(xs b:List Str),(fos ks vs nl b xs).2=true↔jv ks nl xs:=by
 intro l0
 induction l0 with
 | nil=>exact @λb=>⟨λθ=>trivial,λθ=>rfl⟩
 | cons X xs ih =>
  intro b
  rw[fos_cons,vanF_cons]
  by_cases hk:X∈ks
  .obtain⟨l,e⟩:=cm (Fm hl) hk
   rw[e]
   simp only
   by_cases hn:X∈nl
   .rw[if_pos hn,ih];simp[hk,hn]
   .rw[if_neg hn];simp[hn]
  .rw[look_none hk];simp[hk]
theorem wb{ks nl:List Str}{vs:List (List Str)}:∀(xs b:List Str),SN b->SN (fos ks vs nl b xs).1:=by
 intro l0
 induction l0 with
 | nil=>exact @λb h=>h
 | cons X xs ih =>
  intro b h
  rw[fos_cons]
  split
  .exact SN_mg _ _
  .split
   .exact ih _ (SN_mg _ _)
   .exact SN_mg _ _
section
variable{Φ:FTab}
structure Hm(Φ:FTab):Prop where
 merged:∀a b,a.length+b.length<64->Φ "merged" [ae a,ae b]=some (ae (mg a b),true)
theorem eI{ks:List Str}{vs:List (List Str)}{k:Str}{l:List Str}{f c:Bool}(h:aT ks vs k=some l):d4 ⟨aQ ks vs,f,c⟩ (.str k)=some ⟨ae l,f,c⟩:=by
 show(aT ks (vs.map ae) k).map _=_
 rw[look_map,h];rfl
theorem a0(x:Str):newlR [at1 (.str x)]=some ⟨ae [x],true,true⟩:=rfl
noncomputable def fosBody:List SStmt:=[.ife (.cmp .NotIn (.var 4) (.var 1)) [.ret (.tup [.call "merged" [.var 3,.list [.var 4]],.bool false])] [],.set 3 (.call "merged" [.var 3,.idx (.var 1) (.var 4)]),.ife (.cmp .NotIn (.var 4) (.var 2)) [.ret (.tup [.var 3,.bool false])] []]
theorem v6(H:Hm Φ){ks nl U:List Str}{vs:List (List Str)}{p:Option RV}{q:RV}{f1 f2 c1 c2:Bool}(hl:ks.length=vs.length)(hU:U.length<32)(hv:∀l∈vs,SN l/\∀t∈l,t∈U)(n:Nat):∀(xs b:List Str) (r:Option RV),(∀x∈xs,x∈U)->SN b->(∀t∈b,t∈U) ->
  ∃r',afor (aexecs Φ n fosBody) 4 q (xs.map PV.str) [p,some ⟨aQ ks vs,f1,c1⟩,some ⟨ae nl,f2,c2⟩,some ⟨ae b,true,true⟩,r] =
   some (if(fos ks vs nl b xs).2 then .next [p,some ⟨aQ ks vs,f1,c1⟩,some ⟨ae nl,f2,c2⟩,some ⟨ae (fos ks vs nl b xs).1,true,true⟩,r']else .ret ⟨.tup [ae (fos ks vs nl b xs).1,.bool false],true,true⟩):=by
 intro l0
 induction l0 with
 | nil=>exact @λb r θ θ θ=>⟨r,rfl⟩
 | cons X xs ih =>
  intro b r hx hb hbU
  have lenb:b.length<32:=ES (hb.1.length_le_of_subset hbU) hU
  rw[Fp]
  rw[fos_cons]
  by_cases hk:X∈ks
  .obtain⟨l,e⟩:=cm (Fm hl) hk
   rw[e]
   simp only
   have hlm:=hv l (look_mem e).2
   have lenl:l.length<32:=ES (hlm.1.1.length_le_of_subset hlm.2) hU
   have hbody:∀o,aexecs Φ n [.ife (.cmp .NotIn (.var 4) (.var 2)) [.ret (.tup [.var 3,.bool false])] []] [p,some ⟨aQ ks vs,f1,c1⟩,some ⟨ae nl,f2,c2⟩,some ⟨ae (mg b l),true,true⟩,some (at1 (.str X))]=some o->aexecs Φ n fosBody [p,some ⟨aQ ks vs,f1,c1⟩,some ⟨ae nl,f2,c2⟩,some ⟨ae b,true,true⟩,some (at1 (.str X))]=some o:=by
    intro o ho
    delta fosBody
    refine seq_if (k:=false) (t:=at1 (.bool false)) (ev_cmp (ev_var rfl) (ev_var rfl) ?_) rfl ah ?_
    .show bf .NotIn (.str X) (.dict ks (vs.map ae))=_
     rw[kB,eh (by simpa using hl)];simp[hk]
    .refine am (r:=⟨ae (mg b l),true,true⟩) (ev_callT (evs_cons (ev_var rfl) (evs_cons (ev_idx (ev_var rfl) (ev_var rfl) (eI e)) evs_nil)) ?_) rfl ho
     exact H.merged b l (HV lenb lenl)
   by_cases hn:X∈nl
   .rw[if_pos hn]
    obtain⟨r',ih⟩:=ih (mg b l) (some (at1 (.str X))) (λx h=>hx x (EO _ h)) (SN_mg _ _) (λt ht=>(mem_mg.mp ht).elim (hbU t) (hlm.2 t))
    refine⟨r',?_⟩
    rw[<-ih,i4,gX]
    simp only[HW,HX]
    rw[hbody (.next _) (seq_if (k:=false) (t:=at1 (.bool false)) (ev_cmp (ev_var rfl) (ev_var rfl) (by show bf .NotIn (.str X) (ae nl)=_;rw[notIn_encS];simp[hn])) rfl ah ah)]
    rfl
   .rw[if_neg hn]
    refine⟨r,?_⟩
    rw[i4,gX]
    simp only[HW,HX]
    rw[hbody (.ret ⟨.tup [ae (mg b l),.bool false],true,true⟩) (cS (k:=true) (t:=at1 (.bool true)) (ev_cmp (ev_var rfl) (ev_var rfl) (by show bf .NotIn (.str X) (ae nl)=_;rw[notIn_encS];simp[hn])) rfl (seq_ret (gI (rs:=[⟨ae (mg b l),true,true⟩,at1 (.bool false)]) (evs_cons (ev_var rfl) (evs_cons bp evs_nil)) (show 2<=az by decide))))]
    rfl
  .rw[look_none hk]
   simp only
   refine⟨r,?_⟩
   rw[i4,gX]
   simp only[HW,HX]
   have:aexecs Φ n fosBody [p,some ⟨aQ ks vs,f1,c1⟩,some ⟨ae nl,f2,c2⟩,some ⟨ae b,true,true⟩,some (at1 (.str X))]=some (.ret ⟨.tup [ae (mg b [X]),.bool false],true,true⟩):=by
    delta fosBody
    refine cS (k:=true) (t:=at1 (.bool true)) (ev_cmp (ev_var rfl) (ev_var rfl) ?_) rfl ?_
    .show bf .NotIn (.str X) (.dict ks (vs.map ae))=_
     rw[kB,eh (by simpa using hl)];simp[hk]
    .refine seq_ret (gI (rs:=[⟨ae (mg b [X]),true,true⟩,at1 (.bool false)]) (evs_cons (ev_callT (evs_cons (ev_var rfl) (evs_cons (ev_list (evs_cons (ev_var rfl) evs_nil) (a0 X)) evs_nil)) ?_) (evs_cons bp evs_nil)) (show 2<=az by decide))
     exact H.merged b [X] (by simp;exact ES lenb (by decide))
   rw[this]
   rfl
theorem yi(H:Hm Φ){ks nl U xs:List Str}{vs:List (List Str)}(hl:ks.length=vs.length)(hU:U.length<32)(hv:∀l∈vs,SN l/\∀t∈l,t∈U)(hx:∀x∈xs,x∈U)(n:Nat) :
  aexecs Φ n bz (C6 2 [ae xs,aQ ks vs,ae nl])=some (.ret ⟨.tup [ae (fos ks vs nl [] xs).1,.bool (fos ks vs nl [] xs).2],true,true⟩):=by
 delta bz
 refine am (r:=⟨ae [],true,true⟩) (ev_list evs_nil rfl) rfl ?_
 obtain⟨r',h⟩:=v6 H (p:=some ⟨ae xs,false,true⟩) (q:=⟨ae xs,false,true⟩) (f1:=false) (c1:=true) (f2:=false) (c2:=true) hl hU hv n xs [] EL hx lm (by simp) (nl:=nl)
 have hfr:bO Φ n (.fr 4 (.var 0) fosBody) [some ⟨ae xs,false,true⟩,some ⟨aQ ks vs,false,true⟩,some ⟨ae nl,false,true⟩,some ⟨ae [],true,true⟩,EL]=afor (aexecs Φ n fosBody) 4 ⟨ae xs,false,true⟩ (xs.map PV.str) [some ⟨ae xs,false,true⟩,some ⟨aQ ks vs,false,true⟩,some ⟨ae nl,false,true⟩,some ⟨ae [],true,true⟩,EL]:=by
  rfl
 show aexecs Φ n (.fr 4 (.var 0) fosBody::[.ret (.tup [.var 3,.bool true])]) [some ⟨ae xs,false,true⟩,some ⟨aQ ks vs,false,true⟩,some ⟨ae nl,false,true⟩,some ⟨ae [],true,true⟩,EL]=_
 show(bO Φ n (.fr 4 (.var 0) fosBody) _).bind _=_
 rw[hfr,h]
 cases hb:(fos ks vs nl [] xs).2 with
 | true =>
  simp only[if_true,Option.bind_some]
  exact seq_ret (gI (rs:=[⟨ae _,true,true⟩,at1 (.bool true)]) (evs_cons (ev_var rfl) (evs_cons bp evs_nil)) (show 2<=az by decide))
 | false=>rfl
end
noncomputable def i3(g:List Rule)(ks nl:List Str)(F:Str->Str->Prop):Prop:=∀r∈g,∀t,inFos ks nl F r.2 t->F r.1 t
structure IsFst(g:List Rule)(ks nl:List Str)(vs:List (List Str)):Prop where
 len:ks.length=vs.length
 sn:∀l∈vs,SN l
 closed:i3 g ks nl (FF ks vs)
 least:∀G,i3 g ks nl G->∀h t,FF ks vs h t->G h t
noncomputable def wW(vs:List (List Str)):Nat:=(vs.map G7).sum
theorem sE{ks:List Str}{vs:List (List Str)}{k:Str}{l v:List Str}(hn:ks.Nodup)(hl:ks.length=vs.length)(h:aT ks vs k=some l):wW (kF ks vs k v)+l.length=wW vs+v.length:=by
 induction ks generalizing vs with
 | nil=>cases vs<;>cases h
 | cons x ks ih =>
  cases vs with
  | nil=>cases h
  | cons u vs =>
   have hl':ks.length=vs.length:=GY hl
   rw[GK]at hn
   have e:kF (x::ks) (u::vs) k v=(if x=k then v else u)::kF ks vs k v:=rfl
   have e2:∀(a:List Str) (b:List (List Str)),wW (a::b)=a.length+wW b:=λa b=>rfl
   rw[e,e2,e2]
   rw[look_cons]at h
   split at h
   .rename_i hx
    cases h
    rw[if_pos hx]
    have:kF ks vs k v=vs:=rZ hl' (hx▸hn.1)
    rw[this];exact(FV ..).trans ((congrArg _ (FV ..)).trans (Ga ..).symm)
   .rename_i hx
    rw[if_neg hx]
    rw[Ga,ih hn.2 hl' h,Ga]
theorem szS_le{vs:List (List Str)}{U:List Str}(h:∀l∈vs,SN l/\∀t∈l,t∈U):wW vs<=vs.length*U.length:=by
 induction vs with
 | nil=>exact Fi _
 | cons v vs ih =>
  have h1:=h v (EP ..)
  have h2:=h1.1.1.length_le_of_subset h1.2
  have h3:=ih λl hl=>h l (EO _ hl)
  have e2:wW (v::vs)=v.length+wW vs:=rfl
  rw[e2,Fl,Nat.add_mul,I1,FV]
  exact E8 h3 h2
theorem mem_upd{α:Type}{ks:List Str}{vs:List α}{k:Str}{v x:α}(h:x∈kF ks vs k v):x=v\/x∈vs:=by
 delta kF at h
 obtain⟨p,hp,e⟩:=E9.mp h
 have:=Iy hp
 split at e
 .exact .inl e.symm
 .exact .inr (e▸this.2)
theorem FF_upd{ks:List Str}{vs:List (List Str)}{k h t:Str}{v:List Str}(hl:ks.length=vs.length)(hk:k∈ks):FF ks (kF ks vs k v) h t↔(h=k/\t∈v)\/(h≠k/\FF ks vs h t):=by
 delta FF
 rw[wQ hl hk]
 by_cases e:h=k
 .simp[e]
 .simp[e]
section
variable{Φ:FTab}
structure Hg(Φ:FTab)(g:List Rule)(ks nl U:List Str):Prop extends Hm Φ where
 hks:ks=metS (g.map (·.1))
 heads:Φ "heads_of" [aj g]=some (ae ks,true)
 nul:Φ "nullable_heads" [aj g]=some (ae nl,true)
 isNul:IsNul g nl
 hU:U.length<32
 body:∀r∈g,∀x∈r.2,x∈U
 small:g.length<64
 dollar:("$":Str)∈U
 fos:∀vs xs,ks.length=vs.length->(∀l∈vs,SN l/\∀t∈l,t∈U)->(∀x∈xs,x∈U)->Φ "first_of_string" [ae xs,aQ ks vs,ae nl]=some (.tup [ae (fos ks vs nl [] xs).1,.bool (fos ks vs nl [] xs).2],true)
variable{g:List Rule}{ks nl U:List Str}
theorem Hg.nd(H:Hg Φ g ks nl U):ks.Nodup:=by rw[H.hks];exact bx _
theorem Hg.hd(H:Hg Φ g ks nl U){r:Rule}(hr:r∈g):r.1∈ks:=by rw[H.hks];exact bW.mpr (E4 hr)
theorem Hg.klen(H:Hg Φ g ks nl U):ks.length<64:=by
 rw[H.hks]
 exact ES (dW _) (by rw[EN];exact H.small)
theorem pY(ks:List Str):aQ ks (ks.map λzz=>[])=.dict ks (ks.map λzz=>.list []):=by
 delta aQ;rw[Fe];rfl
theorem lR{pre post:List Str}{k:Str}(h:(pre++k::post).Nodup):put pre (pre.map λzz=>PV.list []) k (.list [])=(pre++[k],(pre++[k]).map λzz=>PV.list []):=by
 have:k∉pre:=by
  rw[Hu]at h
  intro hm
  exact h.2.2 k hm k (EP ..) rfl
 rw[put_new this];simp
noncomputable def fstBody:List SStmt:=[.set 6 (.call "merged" [.idx (.var 2) (.idx (.var 5) (.int 0)),.idx (.call "first_of_string" [.idx (.var 5) (.int 1),.var 2,.var 1]) (.int 0)]),.ife (.cmp .NotEq (.var 6) (.idx (.var 2) (.idx (.var 5) (.int 0)))) [.put 2 (.idx (.var 5) (.int 0)) (.var 6),.set 4 (.bool true)] []]
theorem u7{ks:List Str}{h t:Str}:¬FF ks (ks.map λzz=>[]) h t:=by
 rintro⟨l,h1,h2⟩
 have:=(look_mem h1).2
 obtain⟨zz,zz,e⟩:=E9.mp this
 rw[<-e]at h2
 cases h2
theorem run_first_sets(H:Hg Φ g ks nl U):∃vs,IsFst g ks nl vs/\(∀l∈vs,∀t∈l,t∈U)/\∃k,aexecs Φ k cy (C6 6 [aj g])=some (.ret ⟨aQ ks vs,true,false⟩):=by
 let I:List (List Str)->Bool->Sig->Prop:=λvs ch σ=>∃r1 r2 r3,σ=[some ⟨aj g,false,true⟩,some ⟨ae nl,true,true⟩,some ⟨aQ ks vs,true,false⟩,r1,some (at1 (.bool ch)),r2,r3]
 let Good:List (List Str)->Prop:=λvs=>ks.length=vs.length/\(∀l∈vs,SN l/\∀t∈l,t∈U)/\∀G,i3 g ks nl G->∀h t,FF ks vs h t->G h t
 have hU:=H.hU
 have key:∀r1,∃vs σ' k,Good vs/\(∀r∈g,∀t,inFos ks nl (FF ks vs) r.2 t->FF ks vs r.1 t)/\I vs false σ'/\bO Φ k (.whl (.var 4) [.set 4 (.bool false),.fr 5 (.var 0) fstBody]) [some ⟨aj g,false,true⟩,some ⟨ae nl,true,true⟩,some ⟨aQ ks (ks.map λzz=>[]),true,false⟩,r1,some (at1 (.bool true)),EL,EL]=some (.next σ'):=by
  intro r1
  refine chaos (Φ:=Φ) (V:=List (List Str)) (size:=wW) (Good:=Good) (I:=I) (ks.length*U.length) (λr vs=>∀t,inFos ks nl (FF ks vs) r.2 t->FF ks vs r.1 t) ao g (x:=5) (cx:=4) (e:=.var 0) (q:=⟨aj g,false,true⟩) (b:=fstBody)
   (λvs hg=>by rw[hg.1];exact szS_le hg.2.1) (by rintro v ch σ ⟨r1,r2,r3,rfl⟩;exact⟨r1,r2,r3,rfl⟩) (by rintro v ch σ ⟨r1,r2,r3,rfl⟩;rfl) (by rintro v ch σ ⟨r1,r2,r3,rfl⟩;exact ev_var rfl) rfl rfl ?_
   (v:=ks.map λzz=>[]) (σ:=[some ⟨aj g,false,true⟩,some ⟨ae nl,true,true⟩,some ⟨aQ ks (ks.map λzz=>[]),true,false⟩,r1,some (at1 (.bool true)),EL,EL])
   ⟨by simp,(λl hl=>by obtain⟨zz,zz,e⟩:=E9.mp hl;rw[<-e];exact⟨lm,by simp⟩),λG zz h t hf=>(u7 hf).elim⟩ ⟨_,_,_,rfl⟩
  rintro r hr vs ch σ hg ⟨r1,r2,r3,rfl⟩
  have hhd:=H.hd hr
  obtain⟨l,e⟩:=cm (Fm hg.1) hhd
  have hlm:=hg.2.1 l (look_mem e).2
  have lenl:l.length<32:=ES (hlm.1.1.length_le_of_subset hlm.2) hU
  let B:=(fos ks vs nl [] r.2).1
  have hB:SN B/\∀t∈B,t∈U:=by
   refine⟨wb _ _ lm,λt ht=>?_⟩
   rcases(mem_fos hg.1 r.2 [] t).mp ht with h | h
   .cases h
   .have:∀(xs:List Str),(∀x∈xs,x∈U)->inFos ks nl (FF ks vs) xs t->t∈U:=by
     intro xs
     induction xs with
     | nil=>intro _ h;exact h.elim
     | cons X xs ih =>
      intro hx h
      rw[inFos_cons]at h
      split at h
      .rcases h with⟨l',h1,h2⟩ | ⟨zz,h⟩
       .exact(hg.2.1 l' (look_mem h1).2).2 t h2
       .exact ih (λx hh=>hx x (EO _ hh)) h
      .rw[h];exact hx X (EP ..)
    exact this r.2 (H.body r hr) h
  have lenB:B.length<32:=ES (hB.1.1.length_le_of_subset hB.2) hU
  have hset:aa Φ (.call "merged" [.idx (.var 2) (.idx (.var 5) (.int 0)),.idx (.call "first_of_string" [.idx (.var 5) (.int 1),.var 2,.var 1]) (.int 0)]) [some ⟨aj g,false,true⟩,some ⟨ae nl,true,true⟩,some ⟨aQ ks vs,true,false⟩,r1,some (at1 (.bool ch)),some ⟨ao r,false,true⟩,r3]=some ⟨ae (mg l B),true,true⟩:=by
   refine ev_callT (evs_cons (ev_idx (ev_var rfl) (ev_idx (ev_var rfl) ai rfl) (eI e)) (evs_cons (ev_idx (t:=⟨ae B,true,true⟩) (ev_callT (evs_cons (ev_idx (ev_var rfl) ai (bK _ _ _)) (evs_cons (ev_var rfl) (evs_cons (ev_var rfl) evs_nil))) (H.fos vs r.2 hg.1 hg.2.1 (H.body r hr))) ai rfl) evs_nil)) ?_
   exact H.merged l B (HV lenl lenB)
  have htest:aa Φ (.cmp .NotEq (.var 6) (.idx (.var 2) (.idx (.var 5) (.int 0)))) [some ⟨aj g,false,true⟩,some ⟨ae nl,true,true⟩,some ⟨aQ ks vs,true,false⟩,r1,some (at1 (.bool ch)),some ⟨ao r,false,true⟩,some ⟨ae (mg l B),true,true⟩]=some (at1 (.bool (!decide (mg l B=l)))) :=
   ev_cmp (ev_var rfl) (ev_idx (ev_var rfl) (ev_idx (ev_var rfl) ai rfl) (eI e)) (jD _ _)
  rcases yF (b:=B) hlm.1 with⟨he,hin⟩ | ⟨hne,hgr⟩
  .refine⟨_,vs,ch,am (r:=⟨ae (mg l B),true,true⟩) hset rfl (seq_if (k:=false) htest (congrArg (λb=>some !b) (decide_eq_true he)) ah ah),⟨_,_,_,rfl⟩,hg,.inl ⟨rfl,rfl,λt ht=>?_⟩⟩
   exact⟨l,e,hin t ((mem_fos hg.1 r.2 [] t).mpr (.inr ht))⟩
  .have hsz:=sE (v:=mg l B) H.nd hg.1 e
   refine⟨_,kF ks vs r.1 (mg l B),true,am (r:=⟨ae (mg l B),true,true⟩) hset rfl (seq_if (k:=true) htest (congrArg (λb=>some !b) (decide_eq_false hne)) ?_ ah),⟨r1,some ⟨ao r,false,true⟩,some ⟨ae (mg l B),true,true⟩,rfl⟩,⟨?_,?_,?_⟩,.inr ⟨wu hgr hsz,rfl⟩⟩
   .refine seq_put (ks:=ks) (ds:=vs.map ae) (r:=⟨ae (mg l B),true,true⟩) (kk:=r.1) rfl (ev_var rfl) (ev_idx (ev_var rfl) ai rfl) rfl rfl (by have:=H.klen;delta az;exact EK this (FM ..)) ?_
    rw[mW hhd,ni ae]
    exact am (r:=at1 (.bool true)) bp rfl ah
   .rw[gK hg.1]
   .intro l' hl'
    rcases mem_upd hl' with rfl | hl'
    .exact⟨SN_mg _ _,λt ht=>(mem_mg.mp ht).elim (hlm.2 t) (hB.2 t)⟩
    .exact hg.2.1 l' hl'
   .intro G hG h t hf
    rcases(FF_upd hg.1 hhd).mp hf with⟨rfl,ht⟩ | ⟨zz,hf⟩
    .rcases mem_mg.mp ht with ht | ht
     .exact hg.2.2 G hG _ t ⟨l,e,ht⟩
     .refine hG r hr t (inFos_mono (hg.2.2 G hG) ?_)
      exact((mem_fos hg.1 r.2 [] t).mp ht).resolve_left (by simp)
    .exact hg.2.2 G hG h t hf
 have hinit:∃r1,∀m o,aexecs Φ m [.set 4 (.bool true),.whl (.var 4) [.set 4 (.bool false),.fr 5 (.var 0) fstBody],.ret (.var 2)] [some ⟨aj g,false,true⟩,some ⟨ae nl,true,true⟩,some ⟨aQ ks (ks.map λzz=>[]),true,false⟩,r1,EL,EL,EL]=some o->aexecs Φ m cy (C6 6 [aj g])=some o:=by
  let J:List Str->Sig->Prop:=λpre σ=>∃r1,σ=[some ⟨aj g,false,true⟩,some ⟨ae nl,true,true⟩,some ⟨.dict pre (pre.map λzz=>.list []),true,false⟩,r1,EL,EL,EL]
  have hb:∀pre a post σ,ks=pre++a::post->J pre σ->∃σ',aexecs Φ 0 [.put 2 (.var 3) (.list [])] (σ.set 3 (some (part ⟨ae ks,true,true⟩ (.str a))))=some (.next σ')/\J (pre++[a]) σ':=by
   rintro pre a post σ he ⟨r1,rfl⟩
   refine⟨_,?_,some (at1 (.str a)),rfl⟩
   refine seq_put (r:=⟨.list [],true,true⟩) (kk:=a) (q:=at1 (.str a)) rfl (ev_list evs_nil rfl) (ev_var rfl) rfl rfl ?_ ?_
   .exact EK (dc he) (EK (FS H.klen) (by decide))
   .rw[lR (by rw[<-he];exact H.nd)];exact ah
  obtain⟨σ',h1,r1,rfl⟩:=fD (body:=aexecs Φ 0 [.put 2 (.var 3) (.list [])]) (x:=3) (q:=⟨ae ks,true,true⟩) PV.str ks J hb [some ⟨aj g,false,true⟩,some ⟨ae nl,true,true⟩,some ⟨.dict [] [],true,false⟩,EL,EL,EL,EL] ⟨_,rfl⟩
  refine⟨r1,λm o ho=>?_⟩
  delta cy
  refine am (r:=⟨ae nl,true,true⟩) (ev_callT (evs_cons (ev_var rfl) evs_nil) H.nul) rfl (pR (seq (σ':=[some ⟨aj g,false,true⟩,some ⟨ae nl,true,true⟩,some ⟨aQ ks (ks.map λzz=>[]),true,false⟩,r1,EL,EL,EL]) ?_ ho))
  rw[pY]
  exact bind_to (ev_callT (rs:=[⟨aj g,false,true⟩]) (evs_cons (ev_var rfl) evs_nil) H.heads) (gc (λσ o h=>bw Φ (Fi m) _ σ o h) _ _ _ _ _ h1)
 obtain⟨r1,hinit⟩:=hinit
 obtain⟨vs,σ',k,hg,hcl,⟨r1',r2,r3,rfl⟩,hx⟩:=key r1
 refine⟨vs,⟨hg.1,λl hl=>(hg.2.1 l hl).1,hcl,hg.2.2⟩,λl hl=>(hg.2.1 l hl).2,?_⟩
 obtain⟨m,hm⟩:=p5 hx ⟨0,seq_ret (ts:=[]) (e:=.var 2) (ev_var rfl)⟩
 exact⟨m,hinit m _ (am (r:=at1 (.bool true)) bp rfl hm)⟩
end
noncomputable def i6(g:List Rule)(ks nl:List Str)(F:Str->Str->Prop)(h0:Str)(W:Str->Str->Prop):Prop :=
 W h0 "$"/\∀r∈g,∀i X,r.2[i]?= some X->X∈ks->(∀t,inFos ks nl F (r.2.drop (i+1)) t->W X t)/\(jv ks nl (r.2.drop (i+1))->∀t,W r.1 t->W X t)
structure IsFol(g:List Rule)(ks nl:List Str)(F:Str->Str->Prop)(h0:Str)(ws:List (List Str)):Prop where
 len:ks.length=ws.length
 sn:∀l∈ws,SN l
 closed:i6 g ks nl F h0 (FF ks ws)
 least:∀G,i6 g ks nl F h0 G->∀h t,FF ks ws h t->G h t
theorem n0(n:Nat):eB 0 n=(Fd n).map λi:Nat=>PV.int i:=by
 have:∀(n:Nat) (a:Nat),eB a n=(List.range' a n).map λi:Nat=>PV.int i:=by
  intro n
  induction n with
  | zero=>intro a;rfl
  | succ n ih=>intro a;rw[upFrom_succ,List.range'_succ,Fp];congr 1;exact ih (a+1)
 rw[List.range_eq_range']
 exact this n 0
theorem aiter_range(n:Nat):aJ (.rng 0 n 1)=some ((Fd n).map λi:Nat=>PV.int i):=by
 have:aJ (.rng 0 n 1)=some (eB 0 ((n:Int) - 0).toNat):=by delta aJ;simp
 rw[this,show((n:Int) - 0).toNat=n by exact rfl,n0]
theorem idx_encS{xs:List Str}{i:Nat}{X:Str}{f c:Bool}(h:xs[i]?= some X):d4 ⟨ae xs,f,c⟩ (.int i)=some (at1 (.str X)):=by
 have:d4 ⟨ae xs,f,c⟩ (.int i)=if 0<=(i:Int)then((xs.map PV.str)[(i:Int).toNat]?).map (part ⟨ae xs,f,c⟩)else if -((xs.map PV.str).length:Int)<=(i:Int)then((xs.map PV.str)[((i:Int)+((xs.map PV.str).length:Int)).toNat]?).map (part ⟨ae xs,f,c⟩)else EL:=rfl
 rw[this,if_pos (Fy _),FT,EZ,h];rfl
section
variable{Φ:FTab}{σ:Sig}{a i:SExpr}
theorem kI{xs:List Str}{f c f' c':Bool}{k:Nat}(h1:aa Φ a σ=some ⟨ae xs,f,c⟩)(h2:aa Φ i σ=some ⟨.int k,f',c'⟩)(hl:xs.length<=az):aa Φ (.sfrom a i) σ=some ⟨ae (xs.drop k),true,true⟩:=by
 refine bind_to h1 (bind_to h2 ?_)
 show(if 0<=(k:Int)then newl f c ((xs.map PV.str).drop (k:Int).toNat)else EL)=_
 rw[if_pos (Fy _),FT,<-Hl,dn _ _ _ (by rw[FW];exact EK (HY ..) hl)]
theorem uv{xs:List Str}{f c f' c':Bool}{k:Nat}(h1:aa Φ a σ=some ⟨ae xs,f,c⟩)(h2:aa Φ i σ=some ⟨.int k,f',c'⟩)(hl:xs.length<=az):aa Φ (.supto a i) σ=some ⟨ae (xs.take k),true,true⟩:=by
 refine bind_to h1 (bind_to h2 ?_)
 show(if 0<=(k:Int)then newl f c ((xs.map PV.str).take (k:Int).toNat)else EL)=_
 rw[if_pos (Fy _),FT,<-Jb,dn _ _ _ (by rw[Gd];exact EK (Ge ..) hl)]
end
noncomputable def DQ(g:List Rule)(nl ks:List Str)(vs:List (List Str))(a3 a4 a5 a6 a7 a8 a9 a10 a11:Option RV):Sig:=[some ⟨aj g,false,true⟩,some ⟨ae nl,true,true⟩,some ⟨aQ ks vs,true,true⟩,a3,a4,a5,a6,a7,a8,a9,a10,a11]
section
variable{Φ:FTab}
structure Hf(Φ:FTab)(g:List Rule)(ks nl U:List Str)(vs:List (List Str)):Prop extends Hg Φ g ks nl U where
 first:Φ "first_sets" [aj g]=some (aQ ks vs,true)
 isFst:IsFst g ks nl vs
 vU:∀l∈vs,∀t∈l,t∈U
 blen:∀r∈g,r.2.length<=az
variable{g:List Rule}{ks nl U:List Str}{vs:List (List Str)}
theorem Hf.vSN(H:Hf Φ g ks nl U vs):∀l∈vs,SN l/\∀t∈l,t∈U:=λl hl=>⟨H.isFst.sn l hl,H.vU l hl⟩
theorem Hf.fosU(H:Hf Φ g ks nl U vs){xs:List Str}(hx:∀x∈xs,x∈U){t:Str}(ht:t∈(fos ks vs nl [] xs).1):t∈U:=by
 rcases(mem_fos H.isFst.len xs [] t).mp ht with h | h
 .cases h
 .clear ht
  induction xs with
  | nil=>exact h.elim
  | cons X xs ih =>
   rw[inFos_cons]at h
   split at h
   .rcases h with⟨l',h1,h2⟩ | ⟨zz,h⟩
    .exact H.vU l' (look_mem h1).2 t h2
    .exact ih (λx hh=>hx x (EO _ hh)) h
   .rw[h];exact hx X (EP ..)
theorem yN{U l:List Str}(hU:U.length<32)(h:SN l/\∀t∈l,t∈U):l.length<32:=ES (h.1.1.length_le_of_subset h.2) hU
noncomputable def pg:List SStmt:=[.set 8 (.idx (.idx (.var 6) (.int 1)) (.var 7)),.ife (.cmp .In (.var 8) (.var 3)) [.unpk 9 10 (.call "first_of_string" [.sfrom (.idx (.var 6) (.int 1)) (.bin .Add (.var 7) (.int 1)),.var 2,.var 1]),.set 11 (.call "merged" [.idx (.var 3) (.var 8),.var 9]),.ife (.var 10) [.set 11 (.call "merged" [.var 11,.idx (.var 3) (.idx (.var 6) (.int 0))])] [],.ife (.cmp .NotEq (.var 11) (.idx (.var 3) (.var 8))) [.put 3 (.var 8) (.var 11),.set 5 (.bool true)] []] []]
noncomputable def nN:List SStmt:=[.fr 7 (.range (.len (.idx (.var 6) (.int 1)))) pg]
noncomputable def mI(g:List Rule)(ks nl U:List Str)(vs:List (List Str))(h0:Str)(ws:List (List Str)):Prop:=ks.length=ws.length/\(∀l∈ws,SN l/\∀t∈l,t∈U)/\FF ks ws h0 "$"/\∀G,i6 g ks nl (FF ks vs) h0 G->∀h t,FF ks ws h t->G h t
noncomputable def vW(ks nl:List Str)(vs:List (List Str))(r:Rule)(i:Nat)(ws:List (List Str)):Prop:=∀X,r.2[i]?= some X->X∈ks->(∀t,inFos ks nl (FF ks vs) (r.2.drop (i+1)) t->FF ks ws X t)/\(jv ks nl (r.2.drop (i+1))->∀t,FF ks ws r.1 t->FF ks ws X t)
inductive FolO(g:List Rule)(ks nl:List Str)(vs ws:List (List Str))(ch:Bool):Sig->Prop
 | mk (r4 r6 r7 r8 r9 r10 r11:Option RV):FolO g ks nl vs ws ch (DQ g nl ks vs (some ⟨aQ ks ws,true,false⟩) r4 (some (at1 (.bool ch))) r6 r7 r8 r9 r10 r11)
inductive FolI(g:List Rule)(ks nl:List Str)(vs:List (List Str))(r:Rule)(r4:Option RV)(ws:List (List Str))(ch:Bool):Sig->Prop
 | mk (r7 r8 r9 r10 r11:Option RV):FolI g ks nl vs r r4 ws ch (DQ g nl ks vs (some ⟨aQ ks ws,true,false⟩) r4 (some (at1 (.bool ch))) (some ⟨ao r,false,true⟩) r7 r8 r9 r10 r11)
theorem wY(H:Hf Φ g ks nl U vs){h0:Str}{r:Rule}{r4:Option RV}(hr:r∈g){i:Nat}(hi:i∈Fd r.2.length){ws:List (List Str)}{ch:Bool}{σ:Sig}(hg:mI g ks nl U vs h0 ws)(hI:FolI g ks nl vs r r4 ws ch σ):∃σ' ws' ch',aexecs Φ 0 pg (σ.set 7 (some (part ⟨.rng 0 r.2.length 1,true,true⟩ (.int (i:Nat)))))=some (.next σ')/\FolI g ks nl vs r r4 ws' ch' σ'/\mI g ks nl U vs h0 ws'/\AN wW (vW ks nl vs r i) ws ch ws' ch':=by
 have hU:=H.hU
 induction hI with
 | mk r7 r8 r9 r10 r11 =>
 rw[FL]at hi
 have hX:r.2[i]?= some r.2[i]:=EW hi
 generalize r.2[i]=X at hX
 have pre:∀o,aexecs Φ 0 [.ife (.cmp .In (.var 8) (.var 3)) [.unpk 9 10 (.call "first_of_string" [.sfrom (.idx (.var 6) (.int 1)) (.bin .Add (.var 7) (.int 1)),.var 2,.var 1]),.set 11 (.call "merged" [.idx (.var 3) (.var 8),.var 9]),.ife (.var 10) [.set 11 (.call "merged" [.var 11,.idx (.var 3) (.idx (.var 6) (.int 0))])] [],.ife (.cmp .NotEq (.var 11) (.idx (.var 3) (.var 8))) [.put 3 (.var 8) (.var 11),.set 5 (.bool true)] []] []] (DQ g nl ks vs (some ⟨aQ ks ws,true,false⟩) r4 (some (at1 (.bool ch))) (some ⟨ao r,false,true⟩) (some (at1 (.int i))) (some (at1 (.str X))) r9 r10 r11)=some o->aexecs Φ 0 pg (DQ g nl ks vs (some ⟨aQ ks ws,true,false⟩) r4 (some (at1 (.bool ch))) (some ⟨ao r,false,true⟩) (some (at1 (.int i))) r8 r9 r10 r11)=some o:=λo ho =>
  am (r:=at1 (.str X)) (ev_idx (ev_idx (ev_var rfl) ai (bK _ _ _)) (ev_var rfl) (idx_encS hX)) rfl ho
 have hin:aa Φ (.cmp .In (.var 8) (.var 3)) (DQ g nl ks vs (some ⟨aQ ks ws,true,false⟩) r4 (some (at1 (.bool ch))) (some ⟨ao r,false,true⟩) (some (at1 (.int i))) (some (at1 (.str X))) r9 r10 r11)=some (at1 (.bool (decide (X∈ks)))):=by
  refine ev_cmp (ev_var rfl) (ev_var rfl) ?_
  show bf .In (.str X) (.dict ks (ws.map ae))=_
  rw[yT,eh (by simpa using hg.1)]
 by_cases hk:X∈ks
 .obtain⟨l,e⟩:=cm (Fm hg.1) hk
  obtain⟨l0,e0⟩:=cm (Fm hg.1) (H.hd hr)
  have hlm:=hg.2.1 l (look_mem e).2
  have hlm0:=hg.2.1 l0 (look_mem e0).2
  have hrest:∀x∈r.2.drop (i+1),x∈U:=λx hx=>H.body r hr x (FU hx)
  let B:=fos ks vs nl [] (r.2.drop (i+1))
  have hB:SN B.1/\∀t∈B.1,t∈U:=⟨wb _ _ lm,λt ht=>H.fosU hrest ht⟩
  have l1:=yN hU hlm
  have l2:=yN hU hlm0
  have l3:=yN hU hB
  have hM:SN (mg l B.1)/\∀t∈mg l B.1,t∈U:=⟨SN_mg _ _,λt ht=>(mem_mg.mp ht).elim (hlm.2 t) (hB.2 t)⟩
  have l4:=yN hU hM
  let N:=if B.2 then mg (mg l B.1) l0 else mg l B.1
  have hN:SN N/\∀t∈N,t∈U:=by
   show SN (if B.2 then mg (mg l B.1) l0 else mg l B.1)/\∀t∈(if B.2 then mg (mg l B.1) l0 else mg l B.1),t∈U
   split
   .exact⟨SN_mg _ _,λt ht=>(mem_mg.mp ht).elim (hM.2 t) (hlm0.2 t)⟩
   .exact hM
  have memN:∀t,t∈N↔t∈l\/inFos ks nl (FF ks vs) (r.2.drop (i+1)) t\/(jv ks nl (r.2.drop (i+1))/\t∈l0):=by
   intro t
   have hb1:t∈B.1↔inFos ks nl (FF ks vs) (r.2.drop (i+1)) t:=(mem_fos H.isFst.len _ _ _).trans ⟨λh=>h.resolve_left FC,.inr⟩
   have hb2:B.2=true↔jv ks nl (r.2.drop (i+1)):=yS H.isFst.len _ _
   show t∈(if B.2 then mg (mg l B.1) l0 else mg l B.1)↔_
   cases hB2:B.2 with
   | true=>rw[if_pos rfl,mem_mg,mem_mg,hb1,or_assoc];exact or_congr_right (or_congr_right ⟨λh=>⟨hb2.mp hB2,h⟩,And.right⟩)
   | false =>
    have:¬jv ks nl (r.2.drop (i+1)):=λh=>by rw[hb2.mpr h]at hB2;cases hB2
    rw[if_neg Gk,mem_mg,hb1];exact or_congr_right ⟨.inl,λh=>h.resolve_right λz=>this z.1⟩
  have mid:∀o,aexecs Φ 0 [.ife (.cmp .NotEq (.var 11) (.idx (.var 3) (.var 8))) [.put 3 (.var 8) (.var 11),.set 5 (.bool true)] []] (DQ g nl ks vs (some ⟨aQ ks ws,true,false⟩) r4 (some (at1 (.bool ch))) (some ⟨ao r,false,true⟩) (some (at1 (.int i))) (some (at1 (.str X))) (some ⟨ae B.1,true,true⟩) (some (at1 (.bool B.2))) (some ⟨ae N,true,true⟩))=some (.next o)->aexecs Φ 0 pg (DQ g nl ks vs (some ⟨aQ ks ws,true,false⟩) r4 (some (at1 (.bool ch))) (some ⟨ao r,false,true⟩) (some (at1 (.int i))) r8 r9 r10 r11)=some (.next o):=by
   intro o ho
   refine pre _ (seq_if (k:=true) hin (congrArg some (decide_eq_true hk)) ?_ ah)
   refine u0 (d:=ae B.1) (d':=.bool B.2) (f:=true) (ev_callT (evs_cons (kI (k:=i+1) (f':=true) (c':=true) (ev_idx (ev_var rfl) ai (bK _ _ _)) (ev_bin (ev_var rfl) ai rfl) (H.blen r hr)) (evs_cons (ev_var rfl) (evs_cons (ev_var rfl) evs_nil))) (H.fos vs _ H.isFst.len H.vSN hrest)) ?_
   refine am (r:=⟨ae (mg l B.1),true,true⟩) (ev_callT (evs_cons (ev_idx (ev_var rfl) (ev_var rfl) (eI e)) (evs_cons (ev_var rfl) evs_nil)) (H.merged l B.1 (HV l1 l3))) rfl ?_
   refine seq_if (k:=B.2) (t:=at1 (.bool B.2)) (ev_var rfl) rfl ?_ ho
   cases hB2:B.2 with
   | true =>
    refine am (r:=⟨ae (mg (mg l B.1) l0),true,true⟩) (ev_callT (evs_cons (ev_var rfl) (evs_cons (ev_idx (ev_var rfl) (ev_idx (ev_var rfl) ai rfl) (eI e0)) evs_nil)) (H.merged _ l0 (HV l4 l2))) rfl ?_
    rw[ah]
    have:N=mg (mg l B.1) l0:=if_pos hB2
    rw[this];rfl
   | false =>
    have:N=mg l B.1:=if_neg (by rw[hB2];exact Gk)
    rw[this];exact ah
  have htest:aa Φ (.cmp .NotEq (.var 11) (.idx (.var 3) (.var 8))) (DQ g nl ks vs (some ⟨aQ ks ws,true,false⟩) r4 (some (at1 (.bool ch))) (some ⟨ao r,false,true⟩) (some (at1 (.int i))) (some (at1 (.str X))) (some ⟨ae B.1,true,true⟩) (some (at1 (.bool B.2))) (some ⟨ae N,true,true⟩))=some (at1 (.bool (!decide (N=l)))) :=
   ev_cmp (ev_var rfl) (ev_idx (ev_var rfl) (ev_var rfl) (eI e)) (jD _ _)
  by_cases he:N=l
  .refine⟨_,ws,ch,mid _ (seq_if (k:=false) htest (congrArg (λb=>some !b) (decide_eq_true he)) ah ah),.mk _ _ _ _ _,hg,.inl ⟨rfl,rfl,λX' hX' hk'=>?_⟩⟩
   rw[hX]at hX'
   cases hX'
   refine⟨λt ht=>⟨l,e,?_⟩,λhv t ht=>⟨l,e,?_⟩⟩
   .rw[<-he];exact(memN t).mpr (.inr (.inl ht))
   .obtain⟨l',e',ht'⟩:=ht
    rw[e0]at e'
    cases e'
    rw[<-he];exact(memN t).mpr (.inr (.inr ⟨hv,ht'⟩))
  .have hsub:∀t∈l,t∈N:=λt ht=>(memN t).mpr (.inl ht)
   have hlt:l.length<N.length:=by
    have:∃x,x∈N/\x∉l:=FO λhn=>he (hN.1.ext hlm.1 λx=>⟨λhx=>FO λhxl=>hn ⟨x,hx,hxl⟩,hsub x⟩)
    obtain⟨x,hx,hxl⟩:=this
    have hnd:(x::l).Nodup:=GK.mpr ⟨hxl,hlm.1.1⟩
    have:=hnd.length_le_of_subset (l₂:=N) λy hy=>by
     rcases EU.mp hy with rfl | hy
     .exact hx
     .exact hsub y hy
    exact this
   have hsz:=sE (v:=N) H.nd hg.1 e
   refine⟨_,kF ks ws X N,true,mid _ (seq_if (k:=true) htest (congrArg (λb=>some !b) (decide_eq_false he)) ?_ ah),.mk (some (at1 (.int i))) (some (at1 (.str X))) (some ⟨ae B.1,true,true⟩) (some (at1 (.bool B.2))) (some ⟨ae N,true,true⟩),⟨?_,?_,?_,?_⟩,.inr ⟨wu hlt hsz,rfl⟩⟩
   .refine seq_put (ks:=ks) (ds:=ws.map ae) (r:=⟨ae N,true,true⟩) (kk:=X) rfl (ev_var rfl) (ev_var rfl) rfl rfl (by have:=H.klen;delta az;exact EK this (FM ..)) ?_
    rw[mW hk,ni ae]
    exact am (r:=at1 (.bool true)) bp rfl ah
   .rw[gK hg.1]
   .intro l' hl'
    rcases mem_upd hl' with rfl | hl'
    .exact hN
    .exact hg.2.1 l' hl'
   .obtain⟨l',e',h'⟩:=hg.2.2.1
    refine(FF_upd hg.1 hk).mpr ?_
    by_cases hx:h0=X
    .refine .inl ⟨hx,?_⟩
     subst hx
     rw[e]at e';cases e'
     exact hsub _ h'
    .exact .inr ⟨hx,l',e',h'⟩
   .intro G hG h t hf
    rcases(FF_upd hg.1 hk).mp hf with⟨rfl,ht⟩ | ⟨zz,hf⟩
    .have hGc:=hG.2 r hr i h hX hk
     rcases(memN t).mp ht with ht | ht | ⟨hv,ht⟩
     .exact hg.2.2.2 G hG _ t ⟨l,e,ht⟩
     .exact hGc.1 t ht
     .exact hGc.2 hv t (hg.2.2.2 G hG _ t ⟨l0,e0,ht⟩)
    .exact hg.2.2.2 G hG h t hf
 .refine⟨_,ws,ch,pre _ (seq_if (k:=false) hin (congrArg some (decide_eq_false hk)) ah ah),.mk _ _ _ _ _,hg,.inl ⟨rfl,rfl,λX' hX' hk'=>?_⟩⟩
  rw[hX]at hX'
  cases hX'
  exact absurd hk' hk
theorem run_follow_sets(H:Hf Φ g ks nl U vs){h0:Str}{b0:List Str}{gs:List Rule}(hg0:g=(h0,b0)::gs):∃ws,IsFol g ks nl (FF ks vs) h0 ws/\(∀l∈ws,∀t∈l,t∈U)/\∃k,aexecs Φ k bR (C6 11 [aj g])=some (.ret ⟨aQ ks ws,true,false⟩):=by
 let Io:List (List Str)->Bool->Sig->Prop:=λws ch σ=>FolO g ks nl vs ws ch σ
 let Good:List (List Str)->Prop:=mI g ks nl U vs h0
 let Cl:Rule->List (List Str)->Prop:=λr ws=>∀i∈Fd r.2.length,vW ks nl vs r i ws
 have hU:=H.hU
 have hh0:h0∈ks:=H.hd (r:=(h0,b0)) (by rw[hg0];exact EP ..)
 let ws0:List (List Str):=kF ks (ks.map λzz=>[]) h0 ["$"]
 have hws0:Good ws0:=by
  have l0:ks.length=(ks.map λzz=>([]:List Str)).length:=by simp
  refine⟨by rw[gK l0],λl hl=>?_,(FF_upd l0 hh0).mpr (.inl ⟨rfl,by simp⟩),λG hG h t hf=>?_⟩
  .rcases mem_upd hl with rfl | hl
   .exact⟨AC _,λt ht=>by rw[EM.mp ht];exact H.dollar⟩
   .obtain⟨zz,zz,e⟩:=E9.mp hl
    rw[<-e];exact⟨lm,by simp⟩
  .rcases(FF_upd l0 hh0).mp hf with⟨rfl,ht⟩ | ⟨zz,hf⟩
   .rw[EM.mp ht];exact hG.1
   .exact(u7 hf).elim
 have key:∀r4,∃ws σ' k,Good ws/\(∀r∈g,Cl r ws)/\Io ws false σ'/\bO Φ k (.whl (.var 5) [.set 5 (.bool false),.fr 6 (.var 0) nN]) (DQ g nl ks vs (some ⟨aQ ks ws0,true,false⟩) r4 (some (at1 (.bool true))) EL EL EL EL EL EL)=some (.next σ'):=by
  intro r4
  refine chaos (Φ:=Φ) (V:=List (List Str)) (size:=wW) (Good:=Good) (I:=Io) (ks.length*U.length) Cl ao g (x:=6) (cx:=5) (e:=.var 0) (q:=⟨aj g,false,true⟩) (b:=nN)
   (λvs hg=>by rw[hg.1];exact szS_le hg.2.1) (by rintro v ch σ ⟨r4,r6,r7,r8,r9,r10,r11⟩;exact .mk r4 r6 r7 r8 r9 r10 r11) (by rintro v ch σ ⟨r4,r6,r7,r8,r9,r10,r11⟩;rfl) (by rintro v ch σ ⟨r4,r6,r7,r8,r9,r10,r11⟩;exact ev_var rfl) rfl rfl ?_
   (v:=ws0) hws0 (.mk _ _ _ _ _ _ _)
  rintro r hr ws ch σ hg ⟨r4,r6,r7,r8,r9,r10,r11⟩
  obtain⟨σ',ws',ch',h1,⟨r7',r8',r9',r10',r11'⟩,h3,h4⟩:=Bo (Φ:=Φ) (V:=List (List Str)) (size:=wW) (Good:=Good) (I:=FolI g ks nl vs r r4) (vW ks nl vs r) (λi:Nat=>PV.int i) (Fd r.2.length) (b:=pg) (x:=7) (e:=.range (.len (.idx (.var 6) (.int 1)))) (q:=⟨.rng 0 r.2.length 1,true,true⟩) (λi hi ws ch σ hg hI=>wY H hr hi hg hI)
   (v:=ws) (ch:=ch) (σ:=(DQ g nl ks vs (some ⟨aQ ks ws,true,false⟩) r4 (some (at1 (.bool ch))) (some ⟨ao r,false,true⟩) r7 r8 r9 r10 r11)) hg (.mk _ _ _ _ _) (ev_range (dt (ev_idx (ev_var rfl) ai (bK _ _ _)) (by show some (r.2.map PV.str).length=_;rw[EN])) (H.blen r hr)) (aiter_range _) rfl
  exact⟨_,ws',ch',seq h1 ah,.mk _ _ _ _ _ _ _,h3,h4⟩
 have hinit:∃r1,∀m o,aexecs Φ m [.put 3 (.idx (.idx (.var 0) (.int 0)) (.int 0)) (.list [.str "$"]),.set 5 (.bool true),.whl (.var 5) [.set 5 (.bool false),.fr 6 (.var 0) nN],.ret (.var 3)] (DQ g nl ks vs (some ⟨aQ ks (ks.map λzz=>[]),true,false⟩) r1 EL EL EL EL EL EL EL)=some o->aexecs Φ m bR (C6 11 [aj g])=some o:=by
  let J:List Str->Sig->Prop:=λpre σ=>∃r1,σ=(DQ g nl ks vs (some ⟨.dict pre (pre.map λzz=>.list []),true,false⟩) r1 EL EL EL EL EL EL EL)
  have hb:∀pre a post σ,ks=pre++a::post->J pre σ->∃σ',aexecs Φ 0 [.put 3 (.var 4) (.list [])] (σ.set 4 (some (part ⟨ae ks,true,true⟩ (.str a))))=some (.next σ')/\J (pre++[a]) σ':=by
   rintro pre a post σ he ⟨r1,rfl⟩
   refine⟨_,?_,some (at1 (.str a)),rfl⟩
   refine seq_put (r:=⟨.list [],true,true⟩) (kk:=a) (q:=at1 (.str a)) rfl (ev_list evs_nil rfl) (ev_var rfl) rfl rfl ?_ ?_
   .have:=dc he;have:=H.klen;delta az;lia
   .rw[lR (by rw[<-he];exact H.nd)];exact ah
  obtain⟨σ',h1,r1,rfl⟩:=fD (body:=aexecs Φ 0 [.put 3 (.var 4) (.list [])]) (x:=4) (q:=⟨ae ks,true,true⟩) PV.str ks J hb (DQ g nl ks vs (some ⟨.dict [] [],true,false⟩) EL EL EL EL EL EL EL EL) ⟨_,rfl⟩
  refine⟨r1,λm o ho=>?_⟩
  delta bR
  refine am (r:=⟨ae nl,true,true⟩) (ev_callT (evs_cons (ev_var rfl) evs_nil) H.nul) rfl (am (r:=⟨aQ ks vs,true,true⟩) (ev_callT (evs_cons (ev_var rfl) evs_nil) H.first) rfl (pR (seq (σ':=(DQ g nl ks vs (some ⟨aQ ks (ks.map λzz=>[]),true,false⟩) r1 EL EL EL EL EL EL EL)) ?_ ho)))
  rw[pY]
  exact bind_to (ev_callT (rs:=[⟨aj g,false,true⟩]) (evs_cons (ev_var rfl) evs_nil) H.heads) (gc (λσ o h=>bw Φ (Fi m) _ σ o h) _ _ _ _ _ h1)
 obtain⟨r1,hinit⟩:=hinit
 obtain⟨ws,σ',k,hg,hcl,⟨r4,r6,r7,r8,r9,r10,r11⟩,hx⟩:=key r1
 refine⟨ws,⟨hg.1,λl hl=>(hg.2.1 l hl).1,⟨hg.2.2.1,λr hr i X hX hk=>hcl r hr i (FL.mpr ?_) X hX hk⟩,hg.2.2.2⟩,λl hl=>(hg.2.1 l hl).2,?_⟩
 .rcases Gp i r.2.length with h | h
  .exact h
  .rw[FN h]at hX;cases hX
 .obtain⟨m,hm⟩:=p5 hx ⟨0,seq_ret (ts:=[]) (e:=.var 3) (ev_var rfl)⟩
  refine⟨m,hinit m _ (seq_put (ks:=ks) (ds:=(ks.map λzz=>[]).map ae) (r:=⟨ae ["$"],true,true⟩) (kk:=h0) (q:=at1 (.str h0)) rfl (ev_list (evs_cons aE evs_nil) rfl) (ev_idx (r:=⟨ao (h0,b0),false,true⟩) (ev_idx (ev_var rfl) ai (by rw[hg0];rfl)) ai rfl) rfl rfl (by have:=H.klen;delta az;exact EK this (FM ..)) ?_)⟩
  rw[mW hh0,ni ae]
  exact am (r:=at1 (.bool true)) bp rfl hm
end
section
variable{Φ:FTab}
theorem ko{A:Type}(dec:A->PV){x:Nat}{e:SExpr}{b:List SStmt}{q:RV}{n:Nat}{σ:Sig}(l:List A)(I:List A->Sig->Prop)(he:aa Φ e σ=some q)(hi:aJ q.d=some (l.map dec))(hc:q.c=true)(h0:I [] σ)
  (hb:∀pre a post σ,l=pre++a::post->I pre σ->∃σ',aexecs Φ n b (σ.set x (some (part q (dec a))))=some (.next σ')/\I (pre++[a]) σ') :
  ∃σ',bO Φ n (.fr x e b) σ=some (.next σ')/\I l σ':=by
 obtain⟨σ',h1,h2⟩:=fD dec l I hb σ h0
 exact⟨σ',sD he hi hc h1,h2⟩
theorem add_if{n:Nat}{σ:Sig}{c e:SExpr}{i:Nat}{x:Str}{xs:List Str}{k:Bool}(hc:aa Φ c σ=some (at1 (.bool (k&&!decide (x∈xs)))))(he:aa Φ e σ=some (at1 (.str x)))(hi:σ[i]?= some (some ⟨ae xs,true,false⟩))(hl:xs.length<az) :
  aexecs Φ n [.ife c [.app i e] []] σ=some (.next (σ.set i (some ⟨ae (if k then addS xs x else xs),true,false⟩))):=by
 have hself:σ.set i (some ⟨ae xs,true,false⟩)=σ:=by
  obtain⟨h,e⟩:=EY.mp hi
  rw[<-e,HC]
 cases k with
 | false=>exact(seq_if (k:=false) hc rfl ah ah).trans (congrArg (λz=>some (Out.next z)) hself.symm)
 | true =>
  delta addS
  by_cases hm:x∈xs
  .rw[decide_eq_true hm]at hc
   rw[if_pos hm]
   exact(seq_if (k:=false) hc rfl ah ah).trans (congrArg (λz=>some (Out.next z)) hself.symm)
  .rw[decide_eq_false hm]at hc
   rw[if_neg hm]
   refine seq_if (k:=true) hc rfl (gd hi he rfl (by rw[EN];exact hl) ?_) ah
   delta ae
   rw[if_pos rfl,Fc];exact ah
noncomputable def toks(ks xs:List Str):List Str:=metS (xs.filter λs=>!decide (s∈ks))
noncomputable def syms(g:List Rule):List Str:=g.flatMap (·.2)
theorem s7(ks xs:List Str)(x:Str):toks ks (xs++[x])=if !decide (x∈ks)then addS (toks ks xs) x else toks ks xs:=by
 delta toks
 rw[EV]
 cases h:!decide (x∈ks)with
 | true=>rw[show [x].filter (λs=>!decide (s∈ks))=[x]by simp[Gl,h],metS_snoc];rfl
 | false=>rw[show [x].filter (λs=>!decide (s∈ks))=[]by simp[Gl,h],Fb];rfl
theorem toks_len(ks xs:List Str):(toks ks xs).length<=xs.length:=EK (dW _) (Fn ..)
theorem mem_toks{ks xs:List Str}{x:Str}:x∈toks ks xs↔x∈xs/\x∉ks:=by
 delta toks
 rw[bW,Fh];simp
noncomputable def CB:List SStmt:=[.ife (.band [.cmp .NotIn (.var 4) (.var 1),.cmp .NotIn (.var 4) (.var 2)]) [.app 2 (.var 4)] []]
theorem lB {g:List Rule} {ks:List Str} (hh:Φ "heads_of" [aj g]=some (ae ks,true)) (hs:(syms g).length<64) (n:Nat) :
  aexecs Φ n dH (C6 4 [aj g])=some (.ret ⟨ae (bv (toks ks (syms g))),true,true⟩):=by
 have hl64:64<=az:=by decide
 delta dH
 refine am (r:=⟨ae ks,true,true⟩) (ev_callT (evs_cons (ev_var rfl) evs_nil) hh) rfl (cY ?_)
 refine fO (A:=Rule) ao g (q:=⟨aj g,false,true⟩) (λpre σ=>∃r1 r2,σ=[some ⟨aj g,false,true⟩,some ⟨ae ks,true,true⟩,some ⟨ae (toks ks (syms pre)),true,false⟩,r1,r2]) (ev_var rfl) rfl rfl ⟨_,_,rfl⟩ ?_ ?_
 .rintro pre a post σ e ⟨r1,r2,rfl⟩
  have hsy:syms g=syms pre++(a.2++syms post):=by rw[e];simp[syms]
  obtain⟨σ',h1,r3,rfl⟩:=ko (Φ:=Φ) (n:=n) (A:=Str) PV.str (x:=4) (e:=.idx (.var 3) (.int 1)) (b:=CB) (q:=⟨ae a.2,false,true⟩) (σ:=[some ⟨aj g,false,true⟩,some ⟨ae ks,true,true⟩,some ⟨ae (toks ks (syms pre)),true,false⟩,some ⟨ao a,false,true⟩,r2]) a.2
   (λpr σ=>∃r3,σ=[some ⟨aj g,false,true⟩,some ⟨ae ks,true,true⟩,some ⟨ae (toks ks (syms pre++pr)),true,false⟩,some ⟨ao a,false,true⟩,r3]) (ev_idx (ev_var rfl) ai (bK _ _ _)) rfl rfl ⟨r2,by rw[Fb]⟩ (by
    rintro pr x po σ e2 ⟨r3,rfl⟩
    refine⟨_,add_if (x:=x) (xs:=toks ks (syms pre++pr)) (k:=!decide (x∈ks)) (ev_band ((ands_cons (ev_cmp (ev_var rfl) (ev_var rfl) (notIn_encS _ _)) (ands_cons (ev_cmp (ev_var rfl) (ev_var rfl) (notIn_encS _ _)) ands_nil)).trans (by rw[FY]))) (ev_var rfl) rfl ?_,?_⟩
    .have:=toks_len ks (syms pre++pr)
     have h2:(syms pre++pr).length<=(syms g).length:=by rw[hsy,e2];simp
     lia
    .rw[<-Fj,s7];exact⟨_,rfl⟩)
  refine⟨_,seq h1 ah,some ⟨ao a,false,true⟩,r3,?_⟩
  have:syms (pre++[a])=syms pre++a.2:=by simp[syms]
  rw[this]
 .rintro σ ⟨r1,r2,rfl⟩
  exact seq_ret (ev_sorted (ev_var rfl) (ES (toks_len _ _) hs))
end
noncomputable def RchClosed(g:List Rule)(ks:List Str)(h0:Str)(N:Str->Prop):Prop:=N h0/\∀r∈g,N r.1->∀s∈r.2,s∈ks->N s
structure IsRch(g:List Rule)(ks:List Str)(h0:Str)(l:List Str):Prop where
 sn:SN l
 closed:RchClosed g ks h0 (·∈l)
 least:∀N,RchClosed g ks h0 N->∀h∈l,N h
section
variable{Φ:FTab}
noncomputable def zf:List SStmt:=[.ife (.band [.cmp .In (.var 5) (.var 1),.cmp .NotIn (.var 5) (.var 2)]) [.app 2 (.var 5)] []]
noncomputable def Bp:List SStmt:=[.ife (.cmp .Eq (.idx (.var 4) (.int 0)) (.idx (.var 2) (.var 3))) [.fr 5 (.idx (.var 4) (.int 1)) zf] []]
structure Seek(g:List Rule)(ks:List Str)(h0:Str)(f:List Str):Prop where
 nd:f.Nodup
 sub:∀x∈f,x∈ks
 st:h0∈f
 lst:∀N,RchClosed g ks h0 N->∀h∈f,N h
theorem Seek.add{g:List Rule}{ks:List Str}{h0:Str}{f:List Str}(S:Seek g ks h0 f){r:Rule}(hr:r∈g){x:Str}(hx:x∈r.2)(hk:x∈ks)(hf:r.1∈f):Seek g ks h0 (addS f x) :=
 ⟨nodup_addS x S.nd,λy hy=>((eK f x y).mp hy).elim (S.sub y) λe=>e▸hk,(eK f x h0).mpr (.inl S.st),λN hN h hh=>((eK f x h).mp hh).elim (S.lst N hN h) λe=>e▸hN.2 r hr (S.lst N hN _ hf) x hx hk⟩
theorem uJ(f:List Str)(x:Str):f <+: addS f x:=by
 delta addS;split
 .exact Ii f
 .exact List.prefix_append ..
noncomputable def D4(g:List Rule)(ks f:List Str)(p:Nat)(a b:Option RV):Sig:=[some ⟨aj g,false,true⟩,some ⟨ae ks,true,true⟩,some ⟨ae f,true,false⟩,some (at1 (.int p)),a,b]
noncomputable def w7(g:List Rule)(ks:List Str)(h0:Str)(f:List Str)(w:List Str)(f':List Str):Prop:=Seek g ks h0 f'/\f <+: f'/\∀x∈w,x∈ks->x∈f'
theorem wk{g:List Rule}{ks:List Str}{h0 X:Str}{f:List Str}{p:Nat}(hks:ks.length<64)(S:Seek g ks h0 f)(hp:f[p]?= some X)(a b:Option RV) :
  ∃σ',bO Φ 0 (.fr 4 (.var 0) Bp) (D4 g ks f p a b)=some (.next σ')/\∃f' a' b',w7 g ks h0 f ((g.filter λr=>decide (r.1=X)).flatMap (·.2)) f'/\σ'=D4 g ks f' p a' b':=by
 have h64:64<=az:=by decide
 refine ko (Φ:=Φ) (A:=Rule) ao g (λpre σ=>∃f' a' b',w7 g ks h0 f ((pre.filter λr=>decide (r.1=X)).flatMap (·.2)) f'/\σ=D4 g ks f' p a' b') (q:=⟨aj g,false,true⟩) (ev_var rfl) rfl rfl ⟨f,a,b,⟨S,Ii f,λx hx=>nomatch hx⟩,rfl⟩ ?_
 rintro pre r post σ e ⟨f1,a1,b1,⟨S1,p1,w1⟩,rfl⟩
 have hr:r∈g:=by rw[e];simp
 have hX:f1[p]?= some X:=by
  obtain⟨t,rfl⟩:=p1
  rw[Fq (EY.mp hp).1];exact hp
 have htest:aa Φ (.cmp .Eq (.idx (.var 4) (.int 0)) (.idx (.var 2) (.var 3))) (D4 g ks f1 p (some ⟨ao r,false,true⟩) b1)=some (at1 (.bool (decide (r.1=X)))) :=
  ev_cmp (ev_idx (ev_var rfl) ai rfl) (ev_idx (ev_var rfl) (ev_var rfl) (idx_encS hX)) rfl
 rw[EV]
 by_cases hc:r.1=X
 .rw[decide_eq_true hc]at htest
  have hXf:r.1∈f1:=hc▸Fa hX
  obtain⟨σ',h1,f2,b2,⟨S2,p2,w2⟩,rfl⟩:=ko (Φ:=Φ) (n:=0) (A:=Str) PV.str (x:=5) (e:=.idx (.var 4) (.int 1)) (b:=zf) (q:=⟨ae r.2,false,true⟩) (σ:=D4 g ks f1 p (some ⟨ao r,false,true⟩) b1) r.2
   (λpr σ=>∃f2 b2,w7 g ks h0 f1 pr f2/\σ=D4 g ks f2 p (some ⟨ao r,false,true⟩) b2) (ev_idx (ev_var rfl) ai (bK _ _ _)) rfl rfl ⟨f1,b1,⟨S1,Ii _,λx hx=>by exact absurd hx FC⟩,rfl⟩ (by
    rintro pr x po σ e2 ⟨f2,b2,⟨S2,p2,w2⟩,rfl⟩
    have hx:x∈r.2:=by rw[e2];simp
    have hl:f2.length<az:=by
     have:=S2.nd.length_le_of_subset S2.sub
     exact ES this (EX hks h64)
    refine⟨_,add_if (x:=x) (xs:=f2) (k:=decide (x∈ks)) (ev_band ((ands_cons (ev_cmp (ev_var rfl) (ev_var rfl) (in_encS _ _)) (ands_cons (ev_cmp (ev_var rfl) (ev_var rfl) (notIn_encS _ _)) ands_nil)).trans (by rw[FY]))) (ev_var rfl) rfl hl,?_⟩
    by_cases hk:x∈ks
    .rw[decide_eq_true hk]
     refine⟨addS f2 x,some (at1 (.str x)),⟨S2.add hr hx hk (p2.subset hXf),p2.trans (uJ f2 x),λy hy hyk=>?_⟩,rfl⟩
     rcases E0.mp hy with hy | hy
     .exact(eK ..).mpr (.inl (w2 y hy hyk))
     .exact(eK ..).mpr (.inr (EM.mp hy))
    .rw[decide_eq_false hk]
     refine⟨f2,some (at1 (.str x)),⟨S2,p2,λy hy hyk=>?_⟩,rfl⟩
     rcases E0.mp hy with hy | hy
     .exact w2 y hy hyk
     .exact absurd (EM.mp hy▸hyk) hk)
  refine⟨_,seq_if (k:=true) htest rfl (seq h1 ah) ah,f2,some ⟨ao r,false,true⟩,b2,⟨S2,p1.trans p2,λx hx hk=>?_⟩,rfl⟩
  rw[IJ]at hx
  rcases E0.mp hx with hx | hx
  .exact p2.subset (w1 x hx hk)
  .rw[show [r].filter (λr=>decide (r.1=X))=[r]by simp[Gl,hc]]at hx
   exact w2 x (by simpa using hx) hk
 .rw[decide_eq_false hc]at htest
  refine⟨_,seq_if (k:=false) htest rfl ah ah,f1,some ⟨ao r,false,true⟩,b1,⟨S1,p1,λx hx hk=>?_⟩,rfl⟩
  rw[show [r].filter (λr=>decide (r.1=X))=[]by simp[Gl,hc],Fb]at hx
  exact w1 x hx hk
theorem run_reachable {g gs:List Rule} {ks b0:List Str} {h0:Str} (hg0:g=(h0,b0)::gs) (hh:Φ "heads_of" [aj g]=some (ae ks,true)) (hks:ks.length<64) (h0k:h0∈ks) :
  ∃l,IsRch g ks h0 l/\∃m,aexecs Φ m bD (C6 5 [aj g])=some (.ret ⟨ae l,true,true⟩):=by
 have S0:Seek g ks h0 [h0]:=⟨by simp,by simpa using h0k,by simp,λN hN h hh=>by rw[EM.mp hh];exact hN.1⟩
 obtain⟨⟨f,p⟩,σ',k,⟨S,hp,hdone,a,b,rfl⟩,hfin,hx⟩:=qi (S:=List Str×Nat) (Φ:=Φ) (c:=.cmp .Lt (.var 3) (.len (.var 2))) (b:=[.fr 4 (.var 0) Bp,.set 3 (.bin .Add (.var 3) (.int 1))])
  (λs σ=>Seek g ks h0 s.1/\s.2<=s.1.length/\(∀i X,i<s.2->s.1[i]?= some X->∀r∈g,r.1=X->∀x∈r.2,x∈ks->x∈s.1)/\∃a b,σ=D4 g ks s.1 s.2 a b) (λs=>ks.length+1 - s.2) (λs=>s.2=s.1.length) ([h0],0) (σ:=D4 g ks [h0] 0 none none) (by
   rintro⟨f,p⟩ σ ⟨S,hp,hdone,a,b,rfl⟩
   have hl:=S.nd.length_le_of_subset S.sub
   have ht:((aa Φ (.cmp .Lt (.var 3) (.len (.var 2))) (D4 g ks f p a b)).bind λt=>aX t.d)=some (decide ((p:Int)<(f.length:Int))):=by
    rw[ev_cmp (ev_var rfl) (dt (n:=f.length) (ev_var rfl) (by show some (f.map PV.str).length=_;rw[EN])) rfl];rfl
   rw[ht]
   by_cases hpf:p<f.length
   .refine .inr ⟨congrArg some (decide_eq_true (Gw.mpr hpf)),?_⟩
    obtain⟨σ',h1,f',a',b',⟨S',pre,w⟩,rfl⟩:=wk (Φ:=Φ) hks S (EW hpf) a b
    refine⟨_,(f',p+1),seq h1 (am (r:=at1 (.int ((p+1:Nat):Int))) (ev_bin (ev_var rfl) ai rfl) rfl ah),⟨S',?_,?_,a',b',rfl⟩,?_⟩
    .have:=pre.length_le;show p+1<=f'.length;exact EX hpf this
    .intro i X hi hX r hr hrX x hx hk
     have hi:i<p+1:=hi
     have hif:i<f.length:=ES (FB hi) hpf
     obtain⟨t,rfl⟩:=pre
     have hX':f[i]?= some X:=by rw[<-hX];exact(Fq hif).symm
     by_cases hip:i<p
     .exact Gs _ (hdone i X hip hX' r hr hrX x hx hk)
     .have:i=p:=Gb (FB hi) (Gc.mp hip)
      subst this
      refine w x ?_ hk
      rw[F0]
      refine⟨r,?_,hx⟩
      rw[Fh]
      refine⟨hr,decide_eq_true ?_⟩
      rw[EW hif]at hX'
      exact hrX.trans (ET hX').symm
    .exact Hi (FI (EX hpf (S.nd.length_le_of_subset S.sub))) (E7 p)
   .refine .inl ⟨congrArg some (decide_eq_false λq=>hpf (Gw.mp q)),?_⟩
    show p=f.length
    have:p<=f.length:=hp
    exact Gb hp (Gc.mp hpf)) ⟨S0,Fi _,λi X hi=>absurd hi (FP _),none,none,rfl⟩
 have hfin:p=f.length:=hfin
 have S:Seek g ks h0 f:=S
 have hl:=S.nd.length_le_of_subset S.sub
 refine⟨bv f,⟨d0 S.nd,⟨mem_sortS.mpr S.st,λr hr hf s hs hk=>?_⟩,λN hN h hh=>S.lst N hN h (mem_sortS.mp hh)⟩,?_⟩
 .obtain⟨i,hi,e⟩:=Hj (mem_sortS.mp hf)
  exact mem_sortS.mpr (hdone i r.1 (by rw[hfin];exact hi) ((EW hi).trans (congrArg some e)) r hr rfl s hs hk)
 .obtain⟨m,hm⟩:=p5 hx ⟨0,seq_ret (ts:=[]) (e:=.sorted (.var 2)) (ev_sorted (f:=true) (c:=false) (ev_var rfl) (ES hl hks))⟩
  refine⟨m,?_⟩
  delta bD
  refine am (r:=⟨ae ks,true,true⟩) (ev_callT (evs_cons (ev_var rfl) evs_nil) hh) rfl ?_
  refine oA (rs:=[at1 (.str h0)]) (r:=⟨ae [h0],true,true⟩) (evs_cons (ev_idx (r:=⟨ao (h0,b0),false,true⟩) (ev_idx (ev_var rfl) ai (by rw[hg0];rfl)) ai rfl) evs_nil) (a0 h0) rfl ?_
  exact am (r:=at1 (.int 0)) ai rfl hm
end
section
variable{Φ:FTab}
theorem kM {g:List Rule} {tk l:List Str} (h1:Φ "tokens_of" [aj g]=some (ae tk,true)) (h2:Φ "heads_built_from" [aj g,ae tk]=some (ae l,true)) (n:Nat) :
  aexecs Φ n cr (C6 0 [aj g])=some (.ret ⟨ae l,true,true⟩) :=
 seq_ret (ev_callT (evs_cons (ev_var rfl) (evs_cons (ev_callT (evs_cons (ev_var rfl) evs_nil) h1) evs_nil)) h2)
theorem ly {g:List Rule} {l:List Str} (h2:Φ "heads_built_from" [aj g,ae []]=some (ae l,true)) (n:Nat) :
  aexecs Φ n cL (C6 0 [aj g])=some (.ret ⟨ae l,true,true⟩) :=
 seq_ret (ev_callT (evs_cons (ev_var rfl) (evs_cons (ev_list evs_nil rfl) evs_nil)) h2)
theorem eE{σ:Sig}{a b c:SExpr}{r t:RV}{A:Type}{dec:A->PV}{f:A->RV}{p:A->Bool}{l:List A}(h1:aa Φ b σ=some r)(h2:aJ r.d=some (l.map dec))
  (h3:∀x∈l,aa Φ c (σ++[some (part r (dec x))])=some (at1 (.bool (p x)))) (h4:∀x∈l,p x=true->aa Φ a (σ++[some (part r (dec x))])=some (f x)) (h:newlR ((l.filter p).map f)=some t):aa Φ (.compIf a b c) σ=some t:=by
 refine bind_to h1 (bind_to h2 (bind_to ?_ h))
 clear h h2
 induction l with
 | nil=>rfl
 | cons x l ih =>
  have ih:=ih (λy hy=>h3 y (EO _ hy)) (λy hy=>h4 y (EO _ hy))
  have e:((x::l).filter p).map f=(if p x then [f x]else [])++(l.filter p).map f:=by
   rw[Gl]
   cases p x<;>rfl
  rw[e]
  refine bind_to (a:=if p x then [f x]else []) (bind_to (h3 x (EP ..)) (bind_to (a:=p x) rfl ?_)) (bind_to ih rfl)
  cases hp:p x with
  | true=>exact bj (h4 x (EP ..) hp)
  | false=>rfl
theorem kH(f c:Bool){g:List Rule}(hn:g≠[])(h:g.length<=az):newl f c (g.map ao)=some ⟨aj g,f,c⟩:=by
 delta newl
 rw[if_pos (by rw[EN];exact h)]
 cases g with
 | nil=>exact absurd rfl hn
 | cons r g=>rfl
noncomputable def w8(pr tk:List Str)(r:Rule):Bool:=decide (r.1∈pr)&&r.2.all λs=>decide (s∈pr++tk)
noncomputable def gY(pr tk:List Str)(h0:Str)(g:List Rule):List Rule:=g.filter λr=>w8 pr tk r&&decide (r.1=h0)
noncomputable def im(pr tk:List Str)(h0:Str)(g:List Rule):List Rule:=g.filter λr=>w8 pr tk r&&!decide (r.1=h0)
noncomputable def fA(pr tk:List Str)(h0:Str)(g:List Rule):List Rule:=gY pr tk h0 g++im pr tk h0 g
noncomputable def Et(g:List Rule)(h0:Str)(pr us:List Str)(a b:PV)(fa ca fb cb:Bool)(c d e:Option RV):Sig:=[some ⟨aj g,false,true⟩,some (at1 (.str h0)),some ⟨ae pr,true,true⟩,some ⟨ae us,true,true⟩,some ⟨a,fa,ca⟩,some ⟨b,fb,cb⟩,c,d,e]
theorem fN{α:Type}(p:α->Bool)(l:List α)(x:α):(l++[x]).filter p=l.filter p++if p x then [x]else []:=by
 rw[EV,Gl,List.filter_nil]
theorem oJ{l:List Rule}(h:l.length<=az)(hn:l≠[]):newlR (l.map λr=>⟨ao r,true,true⟩)=some ⟨aj l,true,true⟩:=by
 delta newlR
 have e1:(l.map λr=>RV.mk (ao r) true true).map (·.d)=l.map ao:=by rw[Fe];rfl
 have e2:(l.map λr=>RV.mk (ao r) true true).all (·.f)=true:=by rw[GM,Fs];intros;rfl
 have e3:(l.map λr=>RV.mk (ao r) true true).all (·.c)=true:=by rw[GM,Fs];intros;rfl
 rw[e1,e2,e3]
 exact kH true true hn h
theorem dF{l:List Rule}(h:l.length<=az):newlR (l.map λr=>⟨ao r,true,true⟩)=some ⟨aj l,true,true⟩:=by
 cases l with
 | nil=>rfl
 | cons r l=>exact oJ h (by simp)
theorem jh {g gs:List Rule} {b0 pr tk rc:List Str} {h0:Str} (hg0:g=(h0,b0)::gs) (hg:g.length<64) (hb:∀r∈g,r.2.length<=az) (hlen:(pr++tk).length<=az) (h1:Φ "productive_heads" [aj g]=some (ae pr,true)) (h2:Φ "tokens_of" [aj g]=some (ae tk,true))
  (hn:h0∈pr->fA pr tk h0 g≠[]) (h3:h0∈pr->Φ "reachable_heads" [aj (fA pr tk h0 g)]=some (ae rc,true)) (n:Nat) :
  aexecs Φ n fk (C6 8 [aj g])=some (.ret ⟨aj (if h0∈pr then(fA pr tk h0 g).filter (λr=>decide (r.1∈rc))else []),true,true⟩):=by
 have h64:64<=az:=by decide
 delta fk
 refine am (r:=at1 (.str h0)) (ev_idx (r:=⟨ao (h0,b0),false,true⟩) (ev_idx (ev_var rfl) ai (by rw[hg0];rfl)) ai rfl) rfl ?_
 refine am (r:=⟨ae pr,true,true⟩) (ev_callT (evs_cons (ev_var rfl) evs_nil) h1) rfl ?_
 by_cases hp:h0∈pr
 .rw[if_pos hp]
  refine seq_if (k:=false) (ev_cmp (ev_var rfl) (ev_var rfl) (notIn_encS h0 pr)) (by rw[decide_eq_true hp];rfl) ah ?_
  refine am (r:=⟨ae (pr++tk),true,true⟩) (ev_bin (ev_var rfl) (ev_callT (evs_cons (ev_var rfl) evs_nil) h2) ?_) rfl (cY (cY ?_))
  .show newl _ _ (pr.map PV.str++tk.map PV.str)=_
   rw[<-Fc,dn _ _ _ hlen]
  refine fO (A:=Rule) ao g (q:=⟨aj g,false,true⟩) (λpre σ=>∃fa fb c d e,σ=Et g h0 pr (pr++tk) (aj (gY pr tk h0 pre)) (aj (im pr tk h0 pre)) fa false fb false c d e) (ev_var rfl) rfl rfl ⟨_,_,_,_,_,rfl⟩ ?_ ?_
  .rintro pre r post σ e ⟨fa,fb,c,d,e',rfl⟩
   have hr:r∈g:=by rw[e];simp
   have hpl:=dc e
   have l1:(gY pr tk h0 pre).length<=pre.length:=Fn ..
   have l2:(im pr tk h0 pre).length<=pre.length:=Fn ..
   have htest:aa Φ (.band [.cmp .In (.idx (.var 6) (.int 0)) (.var 2),.all (.comp (.cmp .In (.var 9) (.var 3)) (.idx (.var 6) (.int 1)))]) (Et g h0 pr (pr++tk) (aj (gY pr tk h0 pre)) (aj (im pr tk h0 pre)) fa false fb false (some ⟨ao r,false,true⟩) d e')=some (at1 (.bool (w8 pr tk r))):=by
    refine ev_band ((ands_cons (ev_cmp (ev_idx (ev_var rfl) ai rfl) (ev_var rfl) (in_encS _ _)) (ands_cons (uO (l:=r.2) (p:=λs=>decide (s∈pr++tk)) (f:=true) (c:=true) (ev_compP (dec:=PV.str) (l:=r.2) (f:=λs=>at1 (.bool (decide (s∈pr++tk)))) (ev_idx (ev_var rfl) ai (bK r false true)) rfl ?_ (cF _ _ (hb r hr)))) ands_nil)).trans ?_)
    .exact λs zz=>ev_cmp (ev_var rfl) (ev_var rfl) (in_encS s _)
    .rw[FY];rfl
   have ho:gY pr tk h0 (pre++[r])=gY pr tk h0 pre++if w8 pr tk r&&decide (r.1=h0)then [r]else []:=fN _ _ _
   have hq:im pr tk h0 (pre++[r])=im pr tk h0 pre++if w8 pr tk r&&!decide (r.1=h0)then [r]else []:=fN _ _ _
   rw[ho,hq]
   cases hf:w8 pr tk r with
   | false =>
    rw[hf]at htest
    refine⟨_,seq_if (k:=false) htest rfl ah ah,fa,fb,some ⟨ao r,false,true⟩,d,e',?_⟩
    rw[G8,G8,if_neg (by decide),Fb,Fb];rfl
   | true =>
    rw[hf]at htest
    have ht2:aa Φ (.cmp .Eq (.idx (.var 6) (.int 0)) (.var 1)) (Et g h0 pr (pr++tk) (aj (gY pr tk h0 pre)) (aj (im pr tk h0 pre)) fa false fb false (some ⟨ao r,false,true⟩) d e')=some (at1 (.bool (decide (r.1=h0)))):=ev_cmp (ev_idx (ev_var rfl) ai rfl) (ev_var rfl) rfl
    cases hd:decide (r.1=h0)with
    | true =>
     rw[hd]at ht2
     refine⟨_,seq_if (k:=true) htest rfl (seq_if (k:=true) ht2 rfl (gd (ds:=(gY pr tk h0 pre).map ao) (r:=⟨ao r,false,true⟩) (f:=fa) rfl (ev_var rfl) rfl (by rw[EN];exact ES l1 (EX (FZ hpl hg) h64)) ah) ah) ah,false,fb,some ⟨ao r,false,true⟩,d,e',?_⟩
     have:aj (gY pr tk h0 pre++[r])=.list ((gY pr tk h0 pre).map ao++[ao r]):=by delta aj;rw[Fc];rfl
     rw[Gy,Gy,if_pos rfl,if_neg (by decide),Fb,this,Gf];rfl
    | false =>
     rw[hd]at ht2
     refine⟨_,seq_if (k:=true) htest rfl (seq_if (k:=false) ht2 rfl (gd (ds:=(im pr tk h0 pre).map ao) (r:=⟨ao r,false,true⟩) (f:=fb) rfl (ev_var rfl) rfl (by rw[EN];exact ES l2 (EX (FZ hpl hg) h64)) ah) ah) ah,fa,false,some ⟨ao r,false,true⟩,d,e',?_⟩
     have:aj (im pr tk h0 pre++[r])=.list ((im pr tk h0 pre).map ao++[ao r]):=by delta aj;rw[Fc];rfl
     rw[Gy,Gy,if_neg (by decide),IE,if_pos rfl,Fb,this,Gf];rfl
  .rintro σ ⟨fa,fb,c,d,e,rfl⟩
   have hl:(fA pr tk h0 g).length<=az:=by
    have l1:(gY pr tk h0 g).length<=g.length:=Fn ..
    have l2:(im pr tk h0 g).length<=g.length:=Fn ..
    delta fA
    rw[EQ]
    exact EK (E8 l1 l2) (EK (E8 (FS hg) (FS hg)) (by decide))
   refine mU (d:=aj (gY pr tk h0 g)) (f:=fa) rfl (mU (d:=aj (im pr tk h0 g)) (f:=fb) rfl ?_)
   refine am (r:=⟨aj (fA pr tk h0 g),fa&&fb,true⟩) (ev_bin (ev_var rfl) (ev_var rfl) ?_) rfl ?_
   .show newl (fa&&fb) (true&&true) ((gY pr tk h0 g).map ao++(im pr tk h0 g).map ao)=_
    rw[<-Fc]
    exact kH _ _ (hn hp) hl
   .refine am (r:=⟨ae rc,true,true⟩) (ev_callT (evs_cons (ev_var rfl) evs_nil) (h3 hp)) rfl ?_
    refine seq_ret (eE (A:=Rule) (dec:=ao) (l:=fA pr tk h0 g) (p:=λr=>decide (r.1∈rc)) (f:=λr=>⟨ao r,true,true⟩) (r:=⟨aj (fA pr tk h0 g),fa&&fb,true⟩) (ev_var rfl) rfl ?_ ?_ (dF (EK (Fn ..) hl)))
    .exact λr zz=>ev_cmp (ev_idx (ev_var rfl) ai rfl) (ev_var rfl) (in_encS _ _)
    .intro r hr zz
     have hrg:r∈g:=by
      rcases E0.mp hr with h | h
      .exact(Fh.mp h).1
      .exact(Fh.mp h).1
     exact vh (f:=fa&&fb) (c:=true) rfl (iT r.2)
 .rw[if_neg hp]
  exact cS (k:=true) (ev_cmp (ev_var rfl) (ev_var rfl) (notIn_encS h0 pr)) (by rw[decide_eq_false hp];rfl) (seq_ret (ev_list evs_nil rfl))
end
noncomputable def ij(n:Nat)(p:Nat->Bool):PV:=.list ((Fd (n+1)).map λj=>.bool (p j))
noncomputable def jy(n:Nat)(p:Nat->Nat->Bool):PV:=.list ((Fd (n+1)).map λi=>ij n (p i))
abbrev Tab:=Str->Nat->Nat->Bool
noncomputable def aI(ks:List Str)(n:Nat)(t:Tab):PV:=.dict ks (ks.map λh=>jy n (t h))
noncomputable def fI(ns:List Nat):PV:=.list (ns.map λi:Nat=>.int i)
noncomputable def fF(ks:List Str)(t:Tab)(tokens:List Str)(X:Str)(ps:List Nat)(j:Nat):Bool :=
 if X∈ks then ps.any (λi=>t X i j)else decide (0<j)&&(decide (j - 1∈ps)&&decide (tokens[j - 1]?= some X))
noncomputable def stepP(ks:List Str)(t:Tab)(tokens:List Str)(ps:List Nat)(X:Str):List Nat:=(Fd (tokens.length+1)).filter (fF ks t tokens X ps)
noncomputable def aftP(ks:List Str)(t:Tab)(tokens:List Str)(ps:List Nat)(body:List Str):List Nat:=body.foldl (stepP ks t tokens) ps
theorem uz{ks:List Str}{t:Tab}{tokens:List Str}{ps:List Nat}{X:Str}:∀j∈stepP ks t tokens ps X,j<=tokens.length:=λj hj=>FB (FL.mp (Fh.mp hj).1)
theorem tw{α:Type}{ks:List Str}{f:Str->α}{k:Str}(h:k∈ks):aT ks (ks.map f) k=some (f k):=by
 induction ks with
 | nil=>cases h
 | cons x ks ih =>
  rw[Fp,look_cons]
  by_cases e:x=k
  .rw[if_pos e,e]
  .rw[if_neg e];exact ih ((EU.mp h).resolve_left λq=>e q.symm)
theorem jJ{α:Type}{l:List α}{f:α->PV}{i:Nat}{x:α}{b c:Bool}(h:l[i]?= some x):d4 ⟨.list (l.map f),b,c⟩ (.int i)=some (part ⟨.list (l.map f),b,c⟩ (f x)):=by
 have:d4 ⟨.list (l.map f),b,c⟩ (.int i)=if 0<=(i:Int)then((l.map f)[(i:Int).toNat]?).map (part ⟨.list (l.map f),b,c⟩)else if -((l.map f).length:Int)<=(i:Int)then((l.map f)[((i:Int)+((l.map f).length:Int)).toNat]?).map (part ⟨.list (l.map f),b,c⟩)else EL:=rfl
 rw[this,if_pos (Fy i),FT,EZ,h];rfl
theorem lK{n i:Nat}(h:i<=n):(Fd (n+1))[i]?= some i:=GT (F2 h)
theorem idx_encM{n:Nat}{p:Nat->Nat->Bool}{i:Nat}{b c:Bool}(h:i<=n):d4 ⟨jy n p,b,c⟩ (.int i)=some ⟨ij n (p i),b,c⟩:=jJ (lK h)
theorem idx_encRw{n:Nat}{p:Nat->Bool}{i:Nat}{b c:Bool}(h:i<=n):d4 ⟨ij n p,b,c⟩ (.int i)=some (at1 (.bool (p i))):=jJ (lK h)
theorem idx_encTab{ks:List Str}{n:Nat}{t:Tab}{X:Str}{b c:Bool}(h:X∈ks):d4 ⟨aI ks n t,b,c⟩ (.str X)=some ⟨jy n (t X),b,c⟩:=by
 show(aT ks (ks.map λh=>jy n (t h)) X).map _=_
 rw[tw h];rfl
theorem wF(m:Nat)(ns:List Nat):ky (.int m) (ns.map λi:Nat=>.int i)=some (decide (m∈ns)):=by
 induction ns with
 | nil=>rfl
 | cons y ys ih =>
  show((some ((y:Int)==(m:Int))).bind λa=>(ky (.int m) (ys.map λi:Nat=>.int i)).bind λb=>some (a||b))=_
  rw[ih]
  show some (decide ((y:Int)=(m:Int))||decide (m∈ys))=_
  rw[<-ID]
  exact congrArg some (decide_eq_decide.mpr (by rw[EU,Int.ofNat_inj,eq_comm]))
theorem p7(ns:List Nat):PV.depths (ns.map λi:Nat=>.int i)=0:=by
 induction ns with
 | nil=>rfl
 | cons x xs ih=>show max 0 (PV.depths _)=0;rw[ih];rfl
theorem xq(m:Nat)(ns:List Nat):bf .In (.int m) (fI ns)=some (decide (m∈ns)):=by
 show(if PV.depths (ns.map λi:Nat=>PV.int i)+0<=40 then ky (.int m) (ns.map λi:Nat=>.int i)else EL)=_
 rw[p7,wF];rfl
theorem sV(ks:List Str)(n:Nat)(t:Tab)(X:Str):bf .In (.str X) (aI ks n t)=some (decide (X∈ks)):=by
 show some (aT ks _ X).isSome=_
 rw[eh (by rw[EN])]
theorem gt_int(a b:Int):bf .Gt (.int a) (.int b)=some (decide (a>b)):=rfl
section
variable{Φ:FTab}
theorem zS{A:Type}{σ:Sig}{a:SExpr}{p:A->Bool}{l:List A}{f c:Bool}(h1:aa Φ a σ=some ⟨.list (l.map λx=>.bool (p x)),f,c⟩):aa Φ (.any a) σ=some (at1 (.bool (l.any p))):=by
 refine bind_to h1 (bind_to (a:=l.map λx=>.bool (p x)) rfl ((bj (gR p l)).trans ?_))
 rw[Ji];rfl
theorem ands_false{σ:Sig}{a:SExpr}{es:List SExpr}(h1:aa Φ a σ=some (at1 (.bool false))):fW Φ (a::es) σ=some false:=bind_to h1 rfl
theorem fQ{σ:Sig}{a:SExpr}{es:List SExpr}(h1:aa Φ a σ=some (at1 (.bool true))):jN Φ (a::es) σ=some true:=bind_to h1 rfl
theorem f7{σ:Sig}:jN Φ [] σ=some false:=rfl
noncomputable def D8(bd tk:List Str)(i:Nat)(ks:List Str)(t:Tab)(ps:List Nat)(a5 a6 a7 a8:Option RV):Sig:=[some ⟨ae bd,false,true⟩,some (at1 (.int i)),some ⟨ae tk,false,true⟩,some ⟨aI ks tk.length t,false,true⟩,some ⟨fI ps,true,true⟩,a5,a6,a7,a8]
noncomputable def BA:List SStmt:=[.ife (.cmp .In (.var 5) (.var 3)) [.set 8 (.any (.comp (.idx (.idx (.idx (.var 3) (.var 5)) (.var 9)) (.var 7)) (.var 4)))] [.set 8 (.band [.cmp .Gt (.var 7) (.int 0),.cmp .In (.bin .Sub (.var 7) (.int 1)) (.var 4),.cmp .Eq (.idx (.var 2) (.bin .Sub (.var 7) (.int 1))) (.var 5)])],.ife (.var 8) [.app 6 (.var 7)] []]
theorem rL{bd tk ks:List Str}{i j:Nat}{t:Tab}{ps qs:List Nat}{X:Str}{a8:Option RV}(hps:∀i∈ps,i<=tk.length)(hj:j<=tk.length)(hl:ps.length<=az)(n:Nat)(ts:List SStmt)(o:Out)
  (h:aexecs Φ n ts (D8 bd tk i ks t ps (some (at1 (.str X))) (some ⟨fI qs,true,false⟩) (some (at1 (.int j))) (some (at1 (.bool (fF ks t tk X ps j)))))=some o) :
  aexecs Φ n (.ife (.cmp .In (.var 5) (.var 3)) [.set 8 (.any (.comp (.idx (.idx (.idx (.var 3) (.var 5)) (.var 9)) (.var 7)) (.var 4)))] [.set 8 (.band [.cmp .Gt (.var 7) (.int 0),.cmp .In (.bin .Sub (.var 7) (.int 1)) (.var 4),.cmp .Eq (.idx (.var 2) (.bin .Sub (.var 7) (.int 1))) (.var 5)])]::ts) (D8 bd tk i ks t ps (some (at1 (.str X))) (some ⟨fI qs,true,false⟩) (some (at1 (.int j))) a8)=some o:=by
 have htest:aa Φ (.cmp .In (.var 5) (.var 3)) (D8 bd tk i ks t ps (some (at1 (.str X))) (some ⟨fI qs,true,false⟩) (some (at1 (.int j))) a8)=some (at1 (.bool (decide (X∈ks)))):=ev_cmp (ev_var rfl) (ev_var rfl) (sV ks _ t X)
 delta fF at h
 by_cases hk:X∈ks
 .rw[if_pos hk]at h
  rw[decide_eq_true hk]at htest
  refine seq_if (k:=true) htest rfl (am (r:=at1 (.bool (ps.any λi=>t X i j))) (zS (l:=ps) (p:=λi=>t X i j) (f:=true) (c:=true) (ev_compP (A:=Nat) (dec:=λi:Nat=>.int i) (l:=ps) (f:=λi=>at1 (.bool (t X i j))) (ev_var rfl) rfl ?_ (cF _ _ hl))) rfl ah) h
  intro i' hi'
  exact ev_idx (ev_idx (ev_idx (ev_var rfl) (ev_var rfl) (idx_encTab hk)) (ev_var rfl) (idx_encM (hps i' hi'))) (ev_var rfl) (idx_encRw hj)
 .rw[if_neg hk]at h
  rw[decide_eq_false hk]at htest
  refine seq_if (k:=false) htest rfl (am (r:=at1 (.bool (decide (0<j)&&(decide (j - 1∈ps)&&decide (tk[j - 1]?= some X))))) (ev_band ?_) rfl ah) h
  cases j with
  | zero=>exact ands_false (ev_cmp (ev_var rfl) ai rfl)
  | succ j =>
   have hs:aa Φ (.bin .Sub (.var 7) (.int 1)) (D8 bd tk i ks t ps (some (at1 (.str X))) (some ⟨fI qs,true,false⟩) (some (at1 (.int ((j+1:Nat):Int)))) a8)=some (at1 (.int (j:Nat))):=by
    refine ev_bin (ev_var rfl) ai ?_
    show some (at1 (.int (((j+1:Nat):Int) - 1)))=_
    rw[show((j+1:Nat):Int) - 1=(j:Int)by lia]
   have hlt:j<tk.length:=hj
   have e2:tk[j]?= some tk[j]:=EW hlt
   refine(ands_cons (k:=true) (ev_cmp (ev_var rfl) ai ((gt_int ((j+1:Nat):Int) 0).trans (congrArg some (decide_eq_true (by lia))))) (ands_cons (ev_cmp hs (ev_var rfl) (xq j ps)) (ands_cons (ev_cmp (ev_idx (ev_var rfl) hs (idx_encS e2)) (ev_var rfl) (k:=decide (tk[j]=X)) rfl) ands_nil))).trans ?_
   rw[Ho,e2,FY,decide_eq_true (IU j)]
   congr 3
   exact decide_eq_decide.mpr ⟨λh=>by rw[h],λh=>ET h⟩
theorem i9{bd tk ks:List Str}{i:Nat}{t:Tab}(hi:i<=tk.length)(hl:tk.length<1000)(n:Nat) :
  aexecs Φ n cB (C6 5 [ae bd,.int i,ae tk,aI ks tk.length t])=some (.ret ⟨fI (aftP ks t tk [i] bd),true,true⟩):=by
 have h1000:1001<=az:=by decide
 delta cB
 refine am (r:=⟨fI [i],true,true⟩) (ev_list (evs_cons (ev_var rfl) evs_nil) rfl) rfl ?_
 refine fO (A:=Str) PV.str bd (q:=⟨ae bd,false,true⟩) (λpre σ=>(∀j∈aftP ks t tk [i] pre,j<=tk.length)/\(aftP ks t tk [i] pre).length<=1001/\∃a5 a6 a7 a8,σ=D8 bd tk i ks t (aftP ks t tk [i] pre) a5 a6 a7 a8) (ev_var rfl) rfl rfl ⟨λj hj=>EM.mp hj▸hi,by show 1<=1001;decide,_,_,_,_,rfl⟩ ?_ ?_
 .rintro pre X post σ e ⟨hps,hpl,a5,a6,a7,a8,rfl⟩
  generalize hP:aftP ks t tk [i] pre=ps at hps hpl ⊢
  have hP':aftP ks t tk [i] (pre++[X])=stepP ks t tk ps X:=by delta aftP at hP ⊢;rw[H9,hP];rfl
  obtain⟨σ',h1,b7,b8,rfl⟩:=ko (Φ:=Φ) (n:=n) (A:=Nat) (λi:Nat=>.int i) (x:=7) (e:=.range (.bin .Add (.len (.var 2)) (.int 1))) (b:=BA) (q:=⟨.rng 0 ((tk.length+1:Nat):Int) 1,true,true⟩) (σ:=D8 bd tk i ks t ps (some (at1 (.str X))) (some ⟨fI [],true,false⟩) a7 a8) (Fd (tk.length+1))
   (λpr σ=>∃b7 b8,σ=D8 bd tk i ks t ps (some (at1 (.str X))) (some ⟨fI (pr.filter (fF ks t tk X ps)),true,false⟩) b7 b8) (ev_range (k:=tk.length+1) (f:=true) (c:=true) (ev_bin (dt (n:=tk.length) (ev_var rfl) (by show some (tk.map PV.str).length=_;rw[EN])) ai rfl) (by lia)) (aiter_range _) rfl ⟨a7,a8,rfl⟩ (by
    rintro pr j po σ e2 ⟨b7,b8,rfl⟩
    have hj:j<=tk.length:=FB (FL.mp (by rw[e2];simp))
    have hpr:(pr.filter (fF ks t tk X ps)).length<az:=by
     have h1:=dc e2
     rw[Fk]at h1
     have h2:(pr.filter (fF ks t tk X ps)).length<=pr.length:=Fn ..
     lia
    rw[fN]
    cases hm:fF ks t tk X ps j with
    | true =>
     refine⟨_,rL (qs:=pr.filter (fF ks t tk X ps)) (a8:=b8) hps hj (EK hpl h1000) n _ _ (seq_if (k:=true) (t:=at1 (.bool (fF ks t tk X ps j))) (ev_var rfl) (by rw[hm];rfl) (gd (ds:=(pr.filter (fF ks t tk X ps)).map λi:Nat=>.int i) (r:=at1 (.int j)) (f:=true) rfl (ev_var rfl) rfl (by rw[EN];exact hpr) ah) ah),some (at1 (.int j)),some (at1 (.bool (fF ks t tk X ps j))),?_⟩
     have:fI (pr.filter (fF ks t tk X ps)++[j])=.list ((pr.filter (fF ks t tk X ps)).map (λi:Nat=>.int i)++[.int j]):=by delta fI;rw[Fc];rfl
     rw[if_pos rfl,this];rfl
    | false =>
     refine⟨_,rL (qs:=pr.filter (fF ks t tk X ps)) (a8:=b8) hps hj (EK hpl h1000) n _ _ (seq_if (k:=false) (t:=at1 (.bool (fF ks t tk X ps j))) (ev_var rfl) (by rw[hm];rfl) ah ah),some (at1 (.int j)),some (at1 (.bool (fF ks t tk X ps j))),?_⟩
     rw[if_neg (by decide),Fb])
  refine⟨_,cY (seq h1 (mU (d:=fI (stepP ks t tk ps X)) (f:=true) rfl (am (r:=⟨fI (stepP ks t tk ps X),true,true⟩) (ev_var rfl) rfl ah))),?_⟩
  rw[hP']
  refine⟨uz,?_,_,_,_,_,rfl⟩
  have:(stepP ks t tk ps X).length<=(Fd (tk.length+1)).length:=Fn ..
  rw[Fk]at this
  lia
 .rintro σ ⟨zz,zz,a5,a6,a7,a8,rfl⟩
  exact seq_ret (ev_var rfl)
end
noncomputable def fp(ks:List Str):List Str->Nat
 | []=>0
 | x::l=>if x∈ks then 0 else fp ks l+1
theorem fp_cons(ks:List Str)(x:Str)(l:List Str):fp ks (x::l)=if x∈ks then 0 else fp ks l+1:=rfl
theorem y4(ks:List Str):∀l,fp ks l<=l.length:=by
 intro l0
 induction l0 with
 | nil=>exact ER _
 | cons x l ih=>rw[fp_cons];split;exact Fi _;exact Fz ih
theorem BK{ks:List Str}:∀{l:List Str} {i:Nat},i<fp ks l->∃x,l[i]?= some x/\x∉ks:=by
 intro l0
 induction l0 with
 | nil=>exact @λi h=>absurd h (FP _)
 | cons x l ih =>
  intro i h
  rw[fp_cons]at h
  split at h
  .exact absurd h (FP _)
  .rename_i hx
   cases i with
   | zero=>exact⟨x,rfl,hx⟩
   | succ i=>exact ih (i:=i) (Gx h)
theorem y5{ks:List Str}:∀{l:List Str},fp ks l<l.length->∃x,l[fp ks l]?= some x/\x∈ks:=by
 intro l0
 induction l0 with
 | nil=>exact @λh=>absurd h (Gr _)
 | cons x l ih =>
  intro h
  rw[fp_cons]at h ⊢
  split at h
  .rename_i hx
   rw[if_pos hx]
   exact⟨x,rfl,hx⟩
  .rename_i hx
   rw[if_neg hx]
   exact ih (Gx h)
noncomputable def stepR(g:List Rule)(ks form:List Str)(k:Int):Option (List Str) :=
 if fp ks form=form.length\/k<0\/k>=(g.length:Int)then none else(g[k.toNat]?).bind λr=>if form[fp ks form]?= some r.1 then some (form.take (fp ks form)++r.2++form.drop (fp ks form+1))else none
noncomputable def aD(g:List Rule)(ks:List Str):List Str->List Int->Option (List Str)
 | form,[]=>some form
 | form,k::l=>(stepR g ks form k).bind λf=>aD g ks f l
theorem jq(g:List Rule)(ks form:List Str)(k:Int)(l:List Int):aD g ks form (k::l)=(stepR g ks form k).bind λf=>aD g ks f l:=rfl
noncomputable def ar(l:List Int):PV:=.list (l.map PV.int)
theorem dg{a b:List Str}{f c f' c':Bool}(h:(a++b).length<=az):og .Add ⟨ae a,f,c⟩ ⟨ae b,f',c'⟩=some ⟨ae (a++b),true,true⟩:=by
 show newl _ _ (a.map PV.str++b.map PV.str)=_
 rw[<-Fc,dn _ _ _ h]
theorem ox{α:Type}(l:List α)(f:α->PV):yq (.list (l.map f))=some l.length:=congrArg some (EN ..)
theorem jc{g:List Rule}{k:Int}{r:Rule}{f c:Bool}(h0:0<=k)(h:g[k.toNat]?= some r):d4 ⟨aj g,f,c⟩ (.int k)=some ⟨ao r,f,c⟩:=by
 have:d4 ⟨aj g,f,c⟩ (.int k)=if 0<=k then((g.map ao)[k.toNat]?).map (part ⟨aj g,f,c⟩)else if -((g.map ao).length:Int)<=k then((g.map ao)[(k+((g.map ao).length:Int)).toNat]?).map (part ⟨aj g,f,c⟩)else EL:=rfl
 rw[this,if_pos h0,EZ,h];rfl
section
variable{Φ:FTab}
noncomputable def DD(g:List Rule)(dv:PV)(ks form:List Str)(a b:Option RV):Sig:=[some ⟨aj g,false,true⟩,some ⟨dv,false,true⟩,some ⟨ae ks,true,true⟩,some ⟨ae form,true,true⟩,a,b]
noncomputable def AB:SExpr:=.band [.cmp .Lt (.var 5) (.len (.var 3)),.cmp .NotIn (.idx (.var 3) (.var 5)) (.var 2)]
noncomputable def vG:SExpr:=.bor [.cmp .Eq (.var 5) (.len (.var 3)),.cmp .Lt (.var 4) (.int 0),.cmp .GtE (.var 4) (.len (.var 0)),.cmp .NotEq (.idx (.idx (.var 0) (.var 4)) (.int 0)) (.idx (.var 3) (.var 5))]
noncomputable def u6:List SStmt:=[.set 5 (.int 0),.whl AB [.set 5 (.bin .Add (.var 5) (.int 1))],.ife vG [.ret (.none)] [],.set 3 (.bin .Add (.bin .Add (.supto (.var 3) (.var 5)) (.idx (.idx (.var 0) (.var 4)) (.int 1))) (.sfrom (.var 3) (.bin .Add (.var 5) (.int 1))))]
theorem mP{σ:Sig}{a:SExpr}{xs:List Str}{f c:Bool}(h:aa Φ a σ=some ⟨ae xs,f,c⟩):aa Φ (.len a) σ=some (at1 (.int xs.length)):=dt h (ox xs PV.str)
theorem zD(a b:Int):bf .Eq (.int a) (.int b)=some (decide (a=b)):=rfl
theorem lt_int(a b:Int):bf .Lt (.int a) (.int b)=some (decide (a<b)):=rfl
theorem leI(a b:Int):bf .LtE (.int a) (.int b)=some (decide (a<=b)):=rfl
theorem CT(a b:Int):bf .GtE (.int a) (.int b)=some (decide (a>=b)):=rfl
theorem Ai(a b:Str):bf .Eq (.str a) (.str b)=some (decide (a=b)):=rfl
theorem uu(a b:Str):bf .NotEq (.str a) (.str b)=some (!decide (a=b)):=rfl
theorem ua{g:List Rule}{dv:PV}{ks form:List Str}{a:Option RV}:∃k,bO Φ k (.whl AB [.set 5 (.bin .Add (.var 5) (.int 1))]) (DD g dv ks form a (some (at1 (.int 0))))=some (.next (DD g dv ks form a (some (at1 (.int (fp ks form)))))):=by
 obtain⟨p,σ',k,⟨hp,rfl⟩,hf,hx⟩:=qi (S:=Nat) (Φ:=Φ) (c:=AB) (b:=[.set 5 (.bin .Add (.var 5) (.int 1))]) (λp σ=>p<=fp ks form/\σ=DD g dv ks form a (some (at1 (.int p)))) (λp=>fp ks form - p) (λp=>p=fp ks form) 0 (σ:=DD g dv ks form a (some (at1 (.int 0)))) (by
  rintro p σ ⟨hp,rfl⟩
  have hfl:=y4 ks form
  have h1:aa Φ (.cmp .Lt (.var 5) (.len (.var 3))) (DD g dv ks form a (some (at1 (.int p))))=some (at1 (.bool (decide ((p:Int)<(form.length:Int))))):=ev_cmp (ev_var rfl) (mP (ev_var rfl)) (lt_int _ _)
  by_cases hlt:p<fp ks form
  .obtain⟨x,hx,hxk⟩:=BK hlt
   refine .inr ⟨?_,_,p+1,am (r:=at1 (.int ((p+1:Nat):Int))) (ev_bin (ev_var rfl) ai rfl) rfl ah,⟨hlt,rfl⟩,by exact Hi hlt (E7 _)⟩
   refine bind_to (ev_band (ands_cons h1 (ands_cons (ev_cmp (ev_idx (ev_var rfl) (ev_var rfl) (idx_encS hx)) (ev_var rfl) (notIn_encS x ks)) ands_nil))) ?_
   rw[decide_eq_true (by exact Gw.mpr (EX hlt hfl):(p:Int)<(form.length:Int)),decide_eq_false hxk];rfl
  .have hpe:p=fp ks form:=by exact Gb hp (Gc.mp hlt)
   refine .inl ⟨?_,hpe⟩
   by_cases hl:p<form.length
   .obtain⟨x,hx,hxk⟩:=y5 (ks:=ks) (hpe▸hl)
    rw[<-hpe]at hx
    refine bind_to (ev_band (ands_cons h1 (ands_cons (ev_cmp (ev_idx (ev_var rfl) (ev_var rfl) (idx_encS hx)) (ev_var rfl) (notIn_encS x ks)) ands_nil))) ?_
    rw[decide_eq_true hxk,Jc,G8,Gf];rfl
   .rw[decide_eq_false (by exact λq=>hl (Gw.mp q):¬(p:Int)<(form.length:Int))]at h1
    exact bind_to (ev_band (ands_false h1)) rfl) ⟨Fi _,rfl⟩
 rw[hf]at hx
 exact⟨k,hx⟩
theorem rep_turn{g:List Rule}{dv:PV}{ks form:List Str}{k:Int}{b:Option RV}(hl:form.length<=900)(hb:∀r∈g,r.2.length<=10) :
  ∃n,aexecs Φ n u6 (DD g dv ks form (some (at1 (.int k))) b)=some (match stepR g ks form k with | some f=>.next (DD g dv ks f (some (at1 (.int k))) (some (at1 (.int (fp ks form))))) | none=>.ret (at1 .none)):=by
 obtain⟨m,hm⟩:=ua (Φ:=Φ) (g:=g) (dv:=dv) (ks:=ks) (form:=form) (a:=some (at1 (.int k)))
 have hfl:=y4 ks form
 have hlim:1000<=az:=by decide
 have t1:aa Φ (.cmp .Eq (.var 5) (.len (.var 3))) (DD g dv ks form (some (at1 (.int k))) (some (at1 (.int (fp ks form)))))=some (at1 (.bool (decide ((fp ks form:Int)=(form.length:Int))))):=ev_cmp (ev_var rfl) (mP (ev_var rfl)) (zD _ _)
 have t2:aa Φ (.cmp .Lt (.var 4) (.int 0)) (DD g dv ks form (some (at1 (.int k))) (some (at1 (.int (fp ks form)))))=some (at1 (.bool (decide (k<0)))):=ev_cmp (ev_var rfl) ai (lt_int _ _)
 have t3:aa Φ (.cmp .GtE (.var 4) (.len (.var 0))) (DD g dv ks form (some (at1 (.int k))) (some (at1 (.int (fp ks form)))))=some (at1 (.bool (decide (k>=(g.length:Int))))):=ev_cmp (ev_var rfl) (dt (ev_var rfl) (ox g ao)) (CT _ _)
 have out:∀n,aa Φ vG (DD g dv ks form (some (at1 (.int k))) (some (at1 (.int (fp ks form)))))=some (at1 (.bool true))->aexecs Φ n [.ife vG [.ret (.none)] [],.set 3 (.bin .Add (.bin .Add (.supto (.var 3) (.var 5)) (.idx (.idx (.var 0) (.var 4)) (.int 1))) (.sfrom (.var 3) (.bin .Add (.var 5) (.int 1))))] (DD g dv ks form (some (at1 (.int k))) (some (at1 (.int (fp ks form)))))=some (.ret (at1 .none)):=λn h=>cS (k:=true) h rfl (seq_ret rfl)
 suffices h:∃o,aexecs Φ 0 [.ife vG [.ret (.none)] [],.set 3 (.bin .Add (.bin .Add (.supto (.var 3) (.var 5)) (.idx (.idx (.var 0) (.var 4)) (.int 1))) (.sfrom (.var 3) (.bin .Add (.var 5) (.int 1))))] (DD g dv ks form (some (at1 (.int k))) (some (at1 (.int (fp ks form)))))=some o/\o=(match stepR g ks form k with | some f=>.next (DD g dv ks f (some (at1 (.int k))) (some (at1 (.int (fp ks form))))) | none=>.ret (at1 .none))by
  obtain⟨o,h1,rfl⟩:=h
  obtain⟨m',hm'⟩:=p5 hm ⟨0,h1⟩
  exact⟨m',am (r:=at1 (.int 0)) ai rfl hm'⟩
 by_cases c1:fp ks form=form.length
 .refine⟨_,out 0 (ev_bor (fQ (t1.trans ?_))),?_⟩
  .rw[decide_eq_true (congrArg Nat.cast c1)]
  .delta stepR;rw[if_pos (.inl c1)]
 .rw[decide_eq_false (λq=>c1 (Int.ofNat_inj.mp q))]at t1
  by_cases c2:k<0
  .refine⟨_,out 0 (ev_bor (ors_cons t1 (fQ (t2.trans ?_)))),?_⟩
   .rw[decide_eq_true c2]
   .delta stepR;rw[if_pos (.inr (.inl c2))]
  .rw[decide_eq_false c2]at t2
   by_cases c3:k>=(g.length:Int)
   .refine⟨_,out 0 (ev_bor (ors_cons t1 (ors_cons t2 (fQ (t3.trans ?_))))),?_⟩
    .rw[decide_eq_true c3]
    .delta stepR;rw[if_pos (.inr (.inr c3))]
   .rw[decide_eq_false c3]at t3
    have hk:k.toNat<g.length:=by exact(Iv (GB.mp c2)).mpr (Int.not_le.mp c3)
    have hr:g[k.toNat]?= some g[k.toNat]:=EW hk
    have hrm:g[k.toNat]∈g:=GU hk
    generalize g[k.toNat]=r at hr hrm
    obtain⟨x,hx,hxk⟩:=y5 (ks:=ks) (l:=form) (Nat.lt_of_le_of_ne hfl c1)
    have t4:aa Φ (.cmp .NotEq (.idx (.idx (.var 0) (.var 4)) (.int 0)) (.idx (.var 3) (.var 5))) (DD g dv ks form (some (at1 (.int k))) (some (at1 (.int (fp ks form)))))=some (at1 (.bool (!decide (r.1=x)))):=ev_cmp (ev_idx (ev_idx (ev_var rfl) (ev_var rfl) (jc (GB.mp c2) hr)) ai rfl) (ev_idx (ev_var rfl) (ev_var rfl) (idx_encS hx)) (uu _ _)
    have tt:aa Φ vG (DD g dv ks form (some (at1 (.int k))) (some (at1 (.int (fp ks form)))))=some (at1 (.bool (!decide (r.1=x)))):=by
     refine(ev_bor (ors_cons t1 (ors_cons t2 (ors_cons t3 (ors_cons t4 f7))))).trans ?_
     rw[G6,G6,G6,GR]
    have hst:stepR g ks form k=if x=r.1 then some (form.take (fp ks form)++r.2++form.drop (fp ks form+1))else none:=by
     delta stepR
     rw[if_neg (λh=>h.elim c1 λh=>h.elim c2 c3),hr,hx]
     show(if some x=some r.1 then _ else _)=_
     by_cases e:x=r.1
     .rw[if_pos e,if_pos (congrArg some e)]
     .rw[if_neg e,if_neg (λq=>e (ET q))]
    rw[hst]
    by_cases e:r.1=x
    .rw[if_pos e.symm]
     rw[decide_eq_true e]at tt
     have l1:(form.take (fp ks form)).length<=900:=by rw[Gd];exact EK (Ge ..) hl
     have l2:=hb r hrm
     have l3:(form.drop (fp ks form+1)).length<=900:=by rw[FW];exact EK (HY ..) hl
     refine⟨_,seq_if (k:=false) tt rfl ah (am (r:=⟨ae (form.take (fp ks form)++r.2++form.drop (fp ks form+1)),true,true⟩) (ev_bin (ev_bin (uv (f':=true) (c':=true) (ev_var rfl) (ev_var rfl) (EK hl (FM ..))) (ev_idx (ev_idx (ev_var rfl) (ev_var rfl) (jc (GB.mp c2) hr)) ai (bK _ _ _)) (dg ?_)) (kI (k:=fp ks form+1) (f':=true) (c':=true) (ev_var rfl) (ev_bin (ev_var rfl) ai rfl) (EK hl (FM ..))) (dg ?_)) rfl ah),rfl⟩
     .rw[EQ];exact EK (E8 l1 l2) (by decide)
     .rw[EQ,EQ];delta az;exact EK (E8 (E8 l1 l2) l3) (by decide)
    .rw[if_neg (λq=>e q.symm)]
     rw[decide_eq_false e]at tt
     exact⟨_,out 0 tt,rfl⟩
theorem stepR_len{g:List Rule}{ks form f:List Str}{k:Int}(hb:∀r∈g,r.2.length<=10)(h:stepR g ks form k=some f):f.length<=form.length+10:=by
 delta stepR at h
 split at h
 .cases h
 .obtain⟨r,hr,h⟩:=ac h
  obtain⟨hc,rfl⟩:=aV h
  have:=hb r (Fa hr)
  rw[EQ,EQ,Gd,FW,Hq]
  refine E8 (EK (Fo (IK (Fv _) _) _) ?_) this
  rw[FV,Nat.min_comm]
  exact Fm (Nat.sub_add_min_cancel ..)
theorem vE{g:List Rule}{dv:PV}{q:RV}{ks:List Str}(hb:∀r∈g,r.2.length<=10):∀(l:List Int) (form:List Str) (a b:Option RV),form.length+10*l.length<=900 ->
  ∃n,∃a' b',afor (aexecs Φ n u6) 4 q (l.map PV.int) (DD g dv ks form a b)=some (match aD g ks form l with | some f=>.next (DD g dv ks f a' b') | none=>.ret (at1 .none)):=by
 intro l0
 induction l0 with
 | nil=>exact @λform a b θ=>⟨0,a,b,rfl⟩
 | cons k l ih =>
  intro form a b h
  rw[Fl]at h
  obtain⟨n,hn⟩:=rep_turn (Φ:=Φ) (g:=g) (dv:=dv) (ks:=ks) (form:=form) (k:=k) (b:=b) (EK (Ff ..) h) hb
  rw[jq]
  cases hs:stepR g ks form k with
  | none =>
   rw[hs]at hn
   exact⟨n,a,b,bind_to hn rfl⟩
  | some f =>
   rw[hs]at hn
   have hfl:=stepR_len hb hs
   refine cps λGq hGq=>?_
   obtain⟨n',a',b',ih⟩:=ih f (some (at1 (.int k))) (some (at1 (.int (fp ks form)))) (EK (F4 hfl _) (by rw[Ga,FV 10];exact h))
   refine hGq ?_
   clear hGq
   refine⟨max n n',a',b',bind_to (bw Φ (GI n n') _ _ _ hn) ?_⟩
   exact gc (λσ o h=>bw Φ (Gz n n') _ σ o h) _ _ _ _ _ ih
noncomputable def AG(o:Option (List Str)):PV:=match o with
 | some f=>ae f
 | none=>.none
theorem nO {g gs:List Rule} {ks b0:List Str} {h0:Str} {l:List Int} (hg0:g=(h0,b0)::gs) (hh:Φ "heads_of" [aj g]=some (ae ks,true)) (hb:∀r∈g,r.2.length<=10) (hl:l.length<=80) :
  ∃n,aexecs Φ n d5 (C6 4 [aj g,ar l])=some (.ret ⟨AG (aD g ks [h0] l),true,true⟩):=by
 refine cps λGq hGq=>?_
 obtain⟨n,a,b,hn⟩:=vE (Φ:=Φ) (g:=g) (dv:=ar l) (q:=⟨ar l,false,true⟩) (ks:=ks) hb l [h0] none none (by rw[HD];exact EK (Fo (FD _ hl) _) (by decide))
 refine hGq ?_
 clear hGq
 refine⟨n,?_⟩
 delta d5
 refine am (r:=⟨ae ks,true,true⟩) (ev_callT (evs_cons (ev_var rfl) evs_nil) hh) rfl ?_
 refine am (r:=⟨ae [h0],true,true⟩) (ev_list (evs_cons (ev_idx (r:=⟨ao (h0,b0),false,true⟩) (ev_idx (ev_var rfl) ai (by rw[hg0];rfl)) ai rfl) evs_nil) (a0 h0)) rfl ?_
 have hfr:bO Φ n (.fr 4 (.var 1) u6) (DD g (ar l) ks [h0] none none)=afor (aexecs Φ n u6) 4 ⟨ar l,false,true⟩ (l.map PV.int) (DD g (ar l) ks [h0] none none):=rfl
 show(bO Φ n (.fr 4 (.var 1) u6) (DD g (ar l) ks [h0] none none)).bind _=_
 rw[hfr,hn]
 cases aD g ks [h0] l with
 | none=>rfl
 | some f=>exact seq_ret (Φ:=Φ) (n:=n) (ts:=[]) (e:=.var 3) (σ:=DD g (ar l) ks f a b) (r:=⟨ae f,true,true⟩) (ev_var rfl)
end
noncomputable def W(l:List Nat):Str:=⟨l.toArray⟩
noncomputable def sg(c:Nat):Str:=⟨#[c]⟩
theorem CL(c:Nat):W [c]=sg c:=rfl
theorem pH(a b:List Nat):W a++W b=W (a++b):=by
 show Str.mk _=Str.mk _
 simp[W]
theorem dj(a:List Nat):(W a).length=a.length:=by show(List.toArray a).size=_;simp
theorem oP{a b:List Nat}(h:W a=W b):a=b:=by
 have:=congrArg (λx:Str=>x.cps.toList) h
 simpa [W]using this
theorem sg_inj{a b:Nat}(h:sg a=sg b):a=b:=by
 have:=oP (a:=[a]) (b:=[b]) h
 simpa using this
noncomputable def au(ws:List (List Nat)):PV:=ae (ws.map W)
noncomputable def bn(b:List Nat):PV:=ae (b.map sg)
noncomputable def aC(bs:List (List Nat)):PV:=.list (bs.map bn)
noncomputable def cJ(ks:List Nat)(vs:List (List (List Nat))):PV:=.dict (ks.map sg) (vs.map au)
noncomputable def kn(ks:List Nat)(vs:List (List (List Nat)))(c:Nat):List (List Nat):=(aT (ks.map sg) vs (sg c)).getD [[c]]
noncomputable def glue(a b:List (List Nat)):List (List Nat):=a.flatMap λx=>b.map (x++·)
noncomputable def wordsF(k:Nat->List (List Nat))(out:List (List Nat))(body:List Nat):List (List Nat):=body.foldl (λout c=>glue out (k c)) out
noncomputable def words(k:Nat->List (List Nat))(body:List Nat):List (List Nat):=wordsF k [[]] body
structure Sz(n l:Nat)(ws:List (List Nat)):Prop where
 n:ws.length<=n
 l:∀w∈ws,w.length<=l
theorem glue_len(a b:List (List Nat)):(glue a b).length=a.length*b.length:=by
 delta glue
 induction a with
 | nil=>simp
 | cons x a ih=>rw[Gg,EQ,ih,EN,Fl,Nat.succ_mul,FV]
theorem mem_glue{a b:List (List Nat)}{w:List Nat}:w∈glue a b↔∃x∈a,∃y∈b,w=x++y:=by
 delta glue
 rw[F0]
 refine exists_congr λx=>and_congr_right λθ=>?_
 rw[E9]
 exact exists_congr λy=>and_congr_right λθ=>eq_comm
theorem Sz.glue{n l n' l':Nat}{a b:List (List Nat)}(x:Sz n l a)(y:Sz n' l' b):Sz (n*n') (l+l') (glue a b) :=
 ⟨by rw[glue_len];exact IF x.n y.n,λw hw=>by
  obtain⟨u,hu,v,hv,rfl⟩:=mem_glue.mp hw
  rw[EQ]
  exact E8 (x.l u hu) (y.l v hv)⟩
theorem qN{k:Nat->List (List Nat)}{body:List Nat}:∀{out:List (List Nat)} {w:List Nat},w∈wordsF k out body↔∃x∈out,∃y∈words k body,w=x++y:=by
 induction body with
 | nil =>
  intro out w
  exact⟨λh=>⟨w,h,[],EM.mpr rfl,(Fb w).symm⟩,λh=>by obtain⟨x,hx,y,hy,rfl⟩:=h;rw[EM.mp hy,Fb];exact hx⟩
 | cons c body ih =>
  intro out w
  show w∈wordsF k (glue out (k c)) body↔∃x∈out,∃y∈wordsF k (glue [[]] (k c)) body,w=x++y
  rw[ih]
  constructor
  .rintro⟨x,hx,y,hy,rfl⟩
   obtain⟨u,hu,v,hv,rfl⟩:=mem_glue.mp hx
   exact⟨u,hu,v++y,ih.mpr ⟨v,mem_glue.mpr ⟨[],EM.mpr rfl,v,hv,rfl⟩,y,hy,rfl⟩,Fj ..⟩
  .rintro⟨u,hu,y,hy,rfl⟩
   obtain⟨x,hx,z,hz,rfl⟩:=ih.mp hy
   obtain⟨e,he,v,hv,rfl⟩:=mem_glue.mp hx
   rw[EM.mp he]
   exact⟨u++v,mem_glue.mpr ⟨u,hu,v,hv,rfl⟩,z,hz,(Fj ..).symm⟩
theorem words_nil(k:Nat->List (List Nat)):words k []=[[]]:=rfl
theorem mem_words_cons{k:Nat->List (List Nat)}{c:Nat}{body:List Nat}{w:List Nat}:w∈words k (c::body)↔∃x∈k c,∃y∈words k body,w=x++y:=by
 show w∈wordsF k (glue [[]] (k c)) body↔_
 rw[qN]
 constructor
 .rintro⟨x,hx,y,hy,rfl⟩
  obtain⟨e,he,v,hv,rfl⟩:=mem_glue.mp hx
  rw[EM.mp he]
  exact⟨v,hv,y,hy,rfl⟩
 .rintro⟨v,hv,y,hy,rfl⟩
  exact⟨v,mem_glue.mpr ⟨[],by simp,v,hv,rfl⟩,y,hy,rfl⟩
noncomputable def allW(k:Nat->List (List Nat))(bodies:List (List Nat)):List (List Nat):=bodies.flatMap (words k)
noncomputable def aftW(k:Nat->List (List Nat))(h:Nat)(bodies ends:List (List Nat)):List (List Nat):=bodies.flatMap λb=>(Fd b.length).flatMap λi=>if b[i]?= some h then glue (words k (b.drop (i+1))) ends else []
section
variable{Φ:FTab}
theorem vQ{x n:Int}(hn:n≠0)(m:Nat):aexecs Φ m fC (C6 0 [.int x,.int n])=some (.ret (at1 (.int (x.fmod n)))):=by
 refine seq_ret (ev_bin (ev_var rfl) (ev_var rfl) ?_)
 show(if n≠0 then _ else _)=_
 rw[if_pos hn]
theorem pA{σ:Sig}{a b c:SExpr}{r t:RV}{A B:Type}{dec:A->PV}{dec2:B->PV}{q:A->RV}{m:A->List B}{f:A->B->RV}{l:List A}(h1:aa Φ b σ=some r)(h2:aJ r.d=some (l.map dec))
  (h3:∀x∈l,aa Φ c (σ++[some (part r (dec x)),none])=some (q x)) (h3':∀x∈l,aJ (q x).d=some ((m x).map dec2)) (h4:∀x∈l,∀y∈m x,aa Φ a (σ++[some (part r (dec x)),some (part (q x) (dec2 y))])=some (f x y)) (h:newlR (l.flatMap λx=>(m x).map (f x))=some t):aa Φ (.comp2 a b c) σ=some t:=by
 refine bind_to h1 (bind_to h2 (bind_to ?_ h))
 clear h h2
 induction l with
 | nil=>rfl
 | cons x l ih =>
  have hx:=EP (a:=x) (l:=l)
  refine bind_to (bind_to (h3 x hx) (bind_to (h3' x hx) ?_)) (bind_to (ih (λy hy=>h3 y (EO _ hy)) (λy hy=>h3' y (EO _ hy)) (λy hy=>h4 y (EO _ hy))) rfl)
  have h4:=h4 x hx
  show _=some ((m x).map (f x))
  generalize m x=ms at h4 ⊢
  induction ms with
  | nil=>rfl
  | cons y ms ih2=>exact bind_to (bj (h4 y (EP ..))) (bind_to (ih2 λz hz=>h4 z (EO _ hz)) rfl)
theorem mh{ks:List Nat}{vs:List (List (List Nat))}(c:Nat):aT (ks.map sg) (vs.map au) (sg c)=(aT (ks.map sg) vs (sg c)).map au:=look_map au _ _ _
theorem qj(l:List (List Nat))(h:l.length<=az):newlR (l.map λx=>at1 (.str (W x)))=some ⟨au l,true,true⟩:=by
 delta newlR
 have e1:(l.map λx=>at1 (.str (W x))).map (·.d)=(l.map W).map PV.str:=by rw[Fe,Fe];rfl
 rw[e1]
 exact dn _ _ _ (by rw[EN];exact h)
theorem vS{a b:List Nat}{f c f' c':Bool}(h:a.length+b.length<=az):og .Add ⟨.str (W a),f,c⟩ ⟨.str (W b),f',c'⟩=some (at1 (.str (W (a++b)))):=by
 show(if(W a).length+(W b).length<=az then _ else _)=_
 rw[dj,dj,if_pos h,pH]
theorem sk{σ:Sig}{ea eb:SExpr}{A B:List (List Nat)}{fa ca fb cb:Bool}{n l n' l':Nat}(i:Nat)(hi:σ.length=i)(ha:aa Φ ea σ=some ⟨au A,fa,ca⟩)(hb:∀x∈A,aa Φ eb (σ++[some (at1 (.str (W x))),none])=some ⟨au B,fb,cb⟩)(sa:Sz n l A)(sb:Sz n' l' B)(h1:n*n'<=az)(h2:l+l'<=az) :
  aa Φ (.comp2 (.bin .Add (.var i) (.var (i+1))) ea eb) σ=some ⟨au (glue A B),true,true⟩:=by
 refine pA (A:=List Nat) (B:=List Nat) (dec:=λx=>.str (W x)) (dec2:=λx=>.str (W x)) (q:=λθ=>⟨au B,fb,cb⟩) (m:=λθ=>B) (f:=λx y=>at1 (.str (W (x++y)))) (l:=A) ha ?_ hb ?_ ?_ ?_
 .show some ((A.map W).map PV.str)=_;rw[Fe];rfl
 .intro x _;show some ((B.map W).map PV.str)=_;rw[Fe];rfl
 .intro x hx y hy
  refine ev_bin (r:=at1 (.str (W x))) (q:=at1 (.str (W y))) (ev_var ?_) (ev_var ?_) (vS (EK (E8 (sa.l x hx) (sb.l y hy)) h2))
  .rw[Fg (Fm hi),hi,G0];rfl
  .rw[Fg (by lia),hi,Fu];rfl
 .have e:(A.flatMap λx=>B.map λy=>at1 (.str (W (x++y))))=(glue A B).map λx=>at1 (.str (W x)):=by
   delta glue
   rw[IV]
   congr 1;funext x;rw[Fe];rfl
  rw[e]
  exact qj _ (EK (by rw[glue_len];exact IF sa.n sb.n) h1)
noncomputable def CN(k:Nat->List (List Nat))(body:List Nat):Prop:=∀c∈body,Sz 30 20 (k c)
theorem v0{k:Nat->List (List Nat)}:∀{body:List Nat} {out:List (List Nat)} {n l:Nat},CN k body->Sz n l out->Sz (n*30 ^ body.length) (l+20*body.length) (wordsF k out body):=by
 intro l0
 induction l0 with
 | nil=>exact @λout n l θ ho=>by rw[HM,Jj,I2];exact ho
 | cons c body ih =>
  intro out n l hk ho
  have:=ih (λc' hc'=>hk c' (EO _ hc')) (ho.glue (hk c (EP ..)))
  rw[Fl,Jk,Jl (30 ^ body.length),<-Jd,Nat.mul_add,FV (20*body.length),<-Ga]
  exact this
theorem tE{ks:List Nat}{vs:List (List (List Nat))}{body:List Nat}(hb:body.length<=2)(hk:CN (kn ks vs) body)(hl:ks.length=vs.length)(n:Nat):aexecs Φ n dK (C6 2 [bn body,cJ ks vs])=some (.ret ⟨au (words (kn ks vs) body),true,true⟩):=by
 delta dK
 refine am (r:=⟨au [[]],true,true⟩) (ev_list (evs_cons aE evs_nil) rfl) rfl ?_
 refine fO (A:=Nat) (λc=>.str (sg c)) body (q:=⟨bn body,false,true⟩) (λpre σ=>∃a,σ=[some ⟨bn body,false,true⟩,some ⟨cJ ks vs,false,true⟩,some ⟨au (words (kn ks vs) pre),true,true⟩,a]) (ev_var rfl) (by show some ((body.map sg).map PV.str)=_;rw[Fe];rfl) rfl ⟨_,rfl⟩ ?_ ?_
 .rintro pre c post σ e ⟨a,rfl⟩
  have hc:c∈body:=by rw[e];simp
  have hpl:=dc e
  have s1:Sz (1*30 ^ pre.length) (0+20*pre.length) (words (kn ks vs) pre):=v0 (λc' hc'=>hk c' (by rw[e];simp[hc'])) ⟨ER _,λw hw=>by rw[EM.mp hw];exact ER _⟩
  have s2:Sz 30 20 (words (kn ks vs) pre):=by
   refine⟨EK s1.n ?_,λw hw=>EK (s1.l w hw) (by lia)⟩
   have:pre.length<=1:=by lia
   rcases(show pre.length=0\/pre.length=1 by lia)with h | h<;>rw[h]<;>decide
  have ew:words (kn ks vs) (pre++[c])=glue (words (kn ks vs) pre) (kn ks vs c):=by delta words wordsF;rw[H9];rfl
  rw[ew]
  refine⟨_,o7 (r:=⟨au (glue (words (kn ks vs) pre) (kn ks vs c)),true,true⟩) (sk (fb:=(((aT (ks.map sg) vs (sg c)).map λθ=>false).getD true)) (cb:=true) 4 rfl (ev_var rfl) ?_ s2 (hk c hc) (by decide) (by decide)) rfl ah,_,rfl⟩
  intro x _
  refine bind_to (ev_var (r:=⟨cJ ks vs,false,true⟩) rfl) (bind_to (ev_var (r:=at1 (.str (sg c))) rfl) (bind_to (ev_list (evs_cons (ev_var (r:=at1 (.str (sg c))) rfl) evs_nil) (a0 (sg c))) (bind_to (a:=(ks.map sg,vs.map au)) rfl ?_)))
  show some (((aT (ks.map sg) (vs.map au) (sg c)).map (part ⟨cJ ks vs,false,true⟩)).getD ⟨ae [sg c],true,true⟩)=_
  rw[mh]
  delta kn
  cases aT (ks.map sg) vs (sg c)<;>rfl
 .rintro σ ⟨a,rfl⟩
  exact seq_ret (ev_var rfl)
end
noncomputable def lead:List Nat->Bool
 | []=>false
 | c::θ=>!decide (c=33)
noncomputable def nX(w:List Nat):Str:=sg (w.headD 0)
noncomputable def kS(ws:List (List Nat)):List Str:=(ws.filter lead).map nX
noncomputable def aK(ws:List (List Nat)):List Str:=bv (metS (kS ws))
theorem pW{ws:List (List Nat)}{x:Str}:x∈aK ws↔∃c w,c::w∈ws/\c≠33/\x=sg c:=by
 delta aK kS
 rw[mem_sortS,bW,E9]
 constructor
 .rintro⟨w,hw,rfl⟩
  rw[Fh]at hw
  cases w with
  | nil=>cases hw.2
  | cons c w=>exact⟨c,w,hw.1,by simpa [lead]using hw.2,rfl⟩
 .rintro⟨c,w,hw,hc,rfl⟩
  exact⟨c::w,Fh.mpr ⟨hw,by simpa [lead]using hc⟩,rfl⟩
theorem rn(ws:List (List Nat)):SN (aK ws):=d0 (bx _)
noncomputable def mid(w:List Nat)(i k:Nat):List Nat:=(w.drop i).take (k - i)
noncomputable def fq(w:List Nat)(ws:List (List Nat))(i k:Nat):Bool:=decide (i<=k)&&decide (mid w i k∈ws)
abbrev CRule:=Nat×List Nat
noncomputable def ru(r:CRule):Rule:=(sg r.1,r.2.map sg)
noncomputable def cN(g:List CRule)(form:List Nat)(k:Int):Option (List Nat) :=
 if k<0\/k>=(g.length:Int)then none else(g[k.toNat]?).bind λr=>if r.1∈form then some (bk r.1 r.2 form)else none
noncomputable def carr(g:List CRule):List Nat->List Int->Option (List Nat)
 | form,[]=>some form
 | form,k::l=>(cN g form k).bind λf=>carr g f l
theorem mc(g:List CRule)(form:List Nat)(k:Int)(l:List Int):carr g form (k::l)=(cN g form k).bind λf=>carr g f l:=rfl
theorem q8(c:Nat)(z:List Nat)(x:Nat)(l:List Nat):bk c z (x::l)=if x=c then z++l else x::bk c z l:=rfl
theorem xU(c:Nat)(z:List Nat):∀l:List Nat,(bk c z l).length<=l.length+z.length:=by
 intro l0
 induction l0 with
 | nil=>exact Fi _
 | cons x l ih =>
  rw[q8]
  split
  .rw[EQ,Fl];exact EK (Fm (FV ..)) (F4 (Fv _) _)
  .rw[Fl,Fl];have:=ih;lia
theorem mG(bs:List (List Nat))(h:True):PV.depths (bs.map bn)<=1:=by
 induction bs with
 | nil=>exact Fi _
 | cons b bs ih=>exact Nat.max_le.mpr ⟨Fm (cC _),ih⟩
section
variable{Φ:FTab}
theorem o4{a b:List (List Nat)}{f c f' c':Bool}(h:a.length+b.length<=az):og .Add ⟨au a,f,c⟩ ⟨au b,f',c'⟩=some ⟨au (a++b),true,true⟩:=by
 delta au
 rw[Fc]
 exact dg (by rw[EQ,EN,EN];exact h)
theorem flat_len{α:Type}{f:α->List (List Nat)}{N:Nat}:∀{l:List α},(∀x∈l,(f x).length<=N)->(l.flatMap f).length<=N*l.length:=by
 intro l0
 induction l0 with
 | nil=>exact @λθ=>Fi _
 | cons x l ih =>
  intro h
  rw[Gg,EQ,Fl,IR,FV]
  exact E8 (ih λy hy=>h y (EO _ hy)) (h x (EP ..))
theorem iE{α β:Type}(f:α->List β)(l:List α)(x:α):(l++[x]).flatMap f=l.flatMap f++f x:=by rw[IJ];simp
theorem sj{α:Type}{l pre post:List α}{a x:α}(e:l=pre++a::post)(h:x∈pre):x∈l:=by rw[e];exact Gs _ h
theorem m4{α:Type}{l pre post:List α}{a:α}(e:l=pre++a::post):a∈l:=by rw[e];simp
theorem xE {ks:List Nat} {vs:List (List (List Nat))} {bs:List (List Nat)} (hw:∀b∈bs,Φ "_law_words" [bn b,cJ ks vs]=some (au (words (kn ks vs) b),true)) (hn:∀b∈bs,(words (kn ks vs) b).length<=900) (hb:bs.length<=10) (n:Nat) :
  aexecs Φ n eQ (C6 2 [aC bs,cJ ks vs])=some (.ret ⟨au (allW (kn ks vs) bs),true,true⟩):=by
 delta eQ
 refine am (r:=⟨au [],true,true⟩) (ev_list evs_nil rfl) rfl ?_
 refine fO (A:=List Nat) bn bs (q:=⟨aC bs,false,true⟩) (λpre σ=>∃a,σ=[some ⟨aC bs,false,true⟩,some ⟨cJ ks vs,false,true⟩,some ⟨au (allW (kn ks vs) pre),true,true⟩,a]) (ev_var rfl) rfl rfl ⟨_,rfl⟩ ?_ ?_
 .rintro pre b post σ e ⟨a,rfl⟩
  have hbm:=m4 e
  have h1:(allW (kn ks vs) pre).length<=900*pre.length:=flat_len λx hx=>hn x (sj e hx)
  have h2:=hn b hbm
  have h3:=dc e
  have ew:allW (kn ks vs) (pre++[b])=allW (kn ks vs) pre++words (kn ks vs) b:=iE _ _ _
  rw[ew]
  exact⟨_,am (r:=⟨au (allW (kn ks vs) pre++words (kn ks vs) b),true,true⟩) (ev_bin (ev_var rfl) (ev_callT (evs_cons (ev_var rfl) (evs_cons (ev_var rfl) evs_nil)) (hw b hbm)) (o4 (yw h1 h2 (EX h3 hb) (by decide)))) rfl ah,_,rfl⟩
 .rintro σ ⟨a,rfl⟩
  exact seq_ret (ev_var rfl)
theorem idx_encB{b:List Nat}{i c:Nat}{f k:Bool}(h:b[i]?= some c):d4 ⟨bn b,f,k⟩ (.int i)=some (at1 (.str (sg c))):=idx_encS (by rw[EZ,h];rfl)
noncomputable def aftAt(k:Nat->List (List Nat))(h:Nat)(ends:List (List Nat))(b:List Nat)(i:Nat):List (List Nat):=if b[i]?= some h then glue (words k (b.drop (i+1))) ends else []
theorem uc {ks:List Nat} {vs:List (List (List Nat))} {bs ends:List (List Nat)} {h:Nat} (hw:∀b∈bs,∀i,Φ "_law_words" [bn (b.drop i),cJ ks vs]=some (au (words (kn ks vs) (b.drop i)),true)) (hn:∀b∈bs,∀i,Sz 30 100 (words (kn ks vs) (b.drop (i+1)))) (he:Sz 100 100 ends) (hb:bs.length<=10) (hbl:∀b∈bs,b.length<=10) (n:Nat) :
  aexecs Φ n dG (C6 4 [.str (sg h),aC bs,cJ ks vs,au ends])=some (.ret ⟨au (aftW (kn ks vs) h bs ends),true,true⟩):=by
 have hat:∀b∈bs,∀i,(aftAt (kn ks vs) h ends b i).length<=3000:=by
  intro b hbm i
  delta aftAt
  split
  .rw[glue_len]
   exact EK (IF (hn b hbm i).n he.n) (by decide)
  .exact Fi _
 have hall:∀b∈bs,((Fd b.length).flatMap (aftAt (kn ks vs) h ends b)).length<=30000:=by
  intro b hbm
  refine EK (flat_len (N:=3000) λi θ=>hat b hbm i) ?_
  rw[Fk];have:=hbl b hbm;exact EK (FD _ this) (by decide)
 delta dG
 refine am (r:=⟨au [],true,true⟩) (ev_list evs_nil rfl) rfl ?_
 refine fO (A:=List Nat) bn bs (q:=⟨aC bs,false,true⟩) (λpre σ=>∃a5 a6 a7,σ=[some (at1 (.str (sg h))),some ⟨aC bs,false,true⟩,some ⟨cJ ks vs,false,true⟩,some ⟨au ends,false,true⟩,some ⟨au (aftW (kn ks vs) h pre ends),true,true⟩,a5,a6,a7]) (ev_var rfl) rfl rfl ⟨_,_,_,rfl⟩ ?_ ?_
 .rintro pre b post σ e ⟨a5,a6,a7,rfl⟩
  have hbm:=m4 e
  have h3:=dc e
  have h1:(aftW (kn ks vs) h pre ends).length<=30000*pre.length:=flat_len λx hx=>hall x (sj e hx)
  obtain⟨σ',h1,b6,b7,rfl⟩:=ko (Φ:=Φ) (n:=n) (A:=Nat) (λi:Nat=>.int i) (x:=6) (e:=.range (.len (.var 5))) (b:=[.ife (.cmp .Eq (.idx (.var 5) (.var 6)) (.var 0)) [.set 7 (.call "_law_words" [.sfrom (.var 5) (.bin .Add (.var 6) (.int 1)),.var 2]),.set 4 (.bin .Add (.var 4) (.comp2 (.bin .Add (.var 8) (.var 9)) (.var 7) (.var 3)))] []]) (q:=⟨.rng 0 (b.length:Nat) 1,true,true⟩)
   (σ:=[some (at1 (.str (sg h))),some ⟨aC bs,false,true⟩,some ⟨cJ ks vs,false,true⟩,some ⟨au ends,false,true⟩,some ⟨au (aftW (kn ks vs) h pre ends),true,true⟩,some ⟨bn b,false,true⟩,a6,a7]) (Fd b.length)
   (λpr σ=>∃b6 b7,σ=[some (at1 (.str (sg h))),some ⟨aC bs,false,true⟩,some ⟨cJ ks vs,false,true⟩,some ⟨au ends,false,true⟩,some ⟨au (aftW (kn ks vs) h pre ends++pr.flatMap (aftAt (kn ks vs) h ends b)),true,true⟩,some ⟨bn b,false,true⟩,b6,b7])
   (ev_range (f:=true) (c:=true) (dt (n:=b.length) (ev_var rfl) (by show some ((b.map sg).map PV.str).length=_;rw[EN,EN])) (by have:=hbl b hbm;delta az;exact EK this (FM ..))) (aiter_range _) rfl ⟨a6,a7,by rw[List.flatMap_nil,Fb]⟩ (by
    rintro pr i po σ e2 ⟨b6,b7,rfl⟩
    have hi:i<b.length:=FL.mp (m4 e2)
    have hbi:b[i]?= some b[i]:=EW hi
    generalize b[i]=c at hbi
    have htest:aa Φ (.cmp .Eq (.idx (.var 5) (.var 6)) (.var 0)) [some (at1 (.str (sg h))),some ⟨aC bs,false,true⟩,some ⟨cJ ks vs,false,true⟩,some ⟨au ends,false,true⟩,some ⟨au (aftW (kn ks vs) h pre ends++pr.flatMap (aftAt (kn ks vs) h ends b)),true,true⟩,some ⟨bn b,false,true⟩,some (at1 (.int i)),b7]=some (at1 (.bool (decide (sg c=sg h)))):=ev_cmp (ev_idx (ev_var rfl) (ev_var rfl) (idx_encB hbi)) (ev_var rfl) (Ai _ _)
    have hpr:(pr.flatMap (aftAt (kn ks vs) h ends b)).length<=3000*pr.length:=flat_len λx θ=>hat b hbm x
    have hprl:=dc e2
    rw[Fk]at hprl
    have:=hbl b hbm
    rw[iE,<-Fj]
    by_cases hc:c=h
    .rw[decide_eq_true (congrArg sg hc)]at htest
     have ea:aftAt (kn ks vs) h ends b i=glue (words (kn ks vs) (b.drop (i+1))) ends:=if_pos (by rw[hbi,hc])
     have hln:=hat b hbm i
     rw[ea]at hln ⊢
     refine⟨_,seq_if (k:=true) htest rfl (am (r:=⟨au (words (kn ks vs) (b.drop (i+1))),true,true⟩) (ev_callT (rs:=[⟨bn (b.drop (i+1)),true,true⟩,⟨cJ ks vs,false,true⟩]) (evs_cons ?_ (evs_cons (ev_var rfl) evs_nil)) (hw b hbm (i+1))) rfl (am (r:=⟨au ((aftW (kn ks vs) h pre ends++pr.flatMap (aftAt (kn ks vs) h ends b))++glue (words (kn ks vs) (b.drop (i+1))) ends),true,true⟩) (ev_bin (ev_var rfl) (sk (fb:=false) (cb:=true) (fa:=true) (ca:=true) 8 rfl (ev_var rfl) (λx θ=>ev_var rfl) (hn b hbm i) he (by decide) (by decide)) (o4 ?_)) rfl ah)) ah,_,_,rfl⟩
     .refine(kI (xs:=b.map sg) (k:=i+1) (f':=true) (c':=true) (f:=false) (c:=true) (ev_var rfl) (ev_bin (ev_var rfl) ai rfl) (by rw[EN];delta az;exact EK this (FM ..))).trans ?_
      rw[<-Hl];rfl
     .rw[EQ];exact EK (E8 (E8 (EK h1 (FD _ (EK (FS h3) hb))) (EK hpr (FD _ (EK (FS hprl) this)))) hln) (by decide)
    .rw[decide_eq_false (λq=>hc (sg_inj q))]at htest
     have ea:aftAt (kn ks vs) h ends b i=[]:=if_neg (by rw[hbi];exact λq=>hc (ET q))
     rw[ea,Fb]
     exact⟨_,seq_if (k:=false) htest rfl ah ah,_,_,rfl⟩)
  have ew:aftW (kn ks vs) h (pre++[b]) ends=aftW (kn ks vs) h pre ends++(Fd b.length).flatMap (aftAt (kn ks vs) h ends b):=iE _ _ _
  rw[ew]
  exact⟨_,seq h1 ah,_,_,_,rfl⟩
 .rintro σ ⟨a5,a6,a7,rfl⟩
  exact seq_ret (ev_var rfl)
theorem ev_sset{σ:Sig}{a b c:SExpr}{r:RV}{A:Type}{dec:A->PV}{f:A->Str}{p:A->Bool}{l:List A}(h1:aa Φ b σ=some r)(h2:aJ r.d=some (l.map dec))
  (h3:∀x∈l,aa Φ c (σ++[some (part r (dec x))])=some (at1 (.bool (p x)))) (h4:∀x∈l,p x=true->aa Φ a (σ++[some (part r (dec x))])=some (at1 (.str (f x)))) (h:(metS ((l.filter p).map f)).length<5):aa Φ (.sset a b c) σ=some ⟨ae (bv (metS ((l.filter p).map f))),true,true⟩:=by
 refine bind_to h1 (bind_to h2 (bind_to (a:=(l.filter p).map λx=>at1 (.str (f x))) ?_ ?_))
 .clear h h2
  induction l with
  | nil=>rfl
  | cons x l ih =>
   have ih:=ih (λy hy=>h3 y (EO _ hy)) (λy hy=>h4 y (EO _ hy))
   have e:((x::l).filter p).map (λx=>at1 (.str (f x)))=(if p x then [at1 (.str (f x))]else [])++(l.filter p).map λx=>at1 (.str (f x)):=by
    rw[Gl]
    cases p x<;>rfl
   rw[e]
   refine bind_to (a:=if p x then [at1 (.str (f x))]else []) (bind_to (h3 x (EP ..)) (bind_to (a:=p x) rfl ?_)) (bind_to ih rfl)
   cases hp:p x with
   | true=>exact bj (h4 x (EP ..) hp)
   | false=>rfl
 .delta kK
  have e1:((l.filter p).map λx=>at1 (.str (f x))).map (·.d)=((l.filter p).map f).map PV.str:=by rw[Fe,Fe];rfl
  rw[e1,fc]
  exact if_pos h
theorem l8(w:List Nat)(i k:Nat):Str.mk ((W w).cps.extract i k)=W (mid w i k):=by
 delta W mid
 simp[List.extract]
theorem pj{ws:List (List Nat)}(h:(metS (kS ws)).length<5)(n:Nat):aexecs Φ n dQ (C6 0 [au ws])=some (.ret ⟨ae (aK ws),true,true⟩):=by
 refine seq_ret (ev_sset (A:=List Nat) (dec:=λw=>.str (W w)) (l:=ws) (p:=lead) (f:=nX) (r:=⟨au ws,false,true⟩) (ev_var rfl) (by show some ((ws.map W).map PV.str)=_;rw[Fe];rfl) ?_ ?_ h)
 .intro w _
  refine(ev_cmp (k:=lead w) (r:=at1 (.str (W (mid w 0 1)))) (q:=⟨.tup [.str "",.str "!"],true,true⟩) (bind_to (a:=at1 (.str (W w))) (ev_var rfl) (bind_to (a:=at1 (.int 1)) ai ?_)) (gI (evs_cons aE (evs_cons aE evs_nil)) (by show 2<=az;decide)) ?_)
  .show some (at1 (.str (Str.mk ((W w).cps.extract 0 1))))=_
   rw[l8]
  .have key:∀x:Str,bf .NotIn (.str x) (.tup [.str "",.str "!"])=some (!(decide (("":Str)=x)||(decide (("!":Str)=x)||false))):=λx=>rfl
   refine(key _).trans (congrArg some ?_)
   have e0:("":Str)=W []:=by decide +kernel
   have e1:("!":Str)=W [33]:=by decide +kernel
   rw[e0,e1]
   cases w with
   | nil=>rw[show mid [] 0 1=[] from rfl,decide_eq_true rfl];rfl
   | cons c w =>
    rw[show mid (c::w) 0 1=[c] from rfl,decide_eq_false (p:=W []=W [c]) (λq=>by have:=oP q;cases this),G6,GR]
    show(!decide (W [33]=W [c]))=!decide (c=33)
    congr 1
    exact decide_eq_decide.mpr ⟨λq=>by have:=oP q;simp at this;exact this.symm,λq=>by rw[q]⟩
 .intro w _ hl
  cases w with
  | nil=>cases hl
  | cons c w=>exact ev_idx (r:=at1 (.str (W (c::w)))) (ev_var rfl) ai rfl
theorem rj{σ:Sig}{a:SExpr}{w:List Nat}{f c:Bool}(hl:w.length<=100)(h:aa Φ a σ=some ⟨.str (W w),f,c⟩):aa Φ (.len a) σ=some (at1 (.int w.length)):=dt h (by show(if(W w).length<=az then some (W w).length else EL)=_;rw[dj,if_pos (EK hl (by decide))])
theorem je{A:Type}(p:A->PV)(l:List A)(h:l.length<=az)(hn:∀x,(p x).atom=false):newlR (l.map λa=>⟨p a,true,true⟩)=some ⟨.list (l.map p),true,true⟩:=by
 delta newlR newl
 have e1:(l.map λa=>RV.mk (p a) true true).map (·.d)=l.map p:=by rw[Fe];rfl
 have e2:(l.map λr=>RV.mk (p r) true true).all (·.f)=true:=by rw[GM,Fs];intros;rfl
 have e3:(l.map λr=>RV.mk (p r) true true).all (·.c)=true:=by rw[GM,Fs];intros;rfl
 rw[e1,e2,e3,if_pos (by rw[EN];exact h)]
 split<;>rfl
theorem ev_smid{σ:Sig}{ea ei ek:SExpr}{w:List Nat}{i k:Nat}(h1:aa Φ ea σ=some (at1 (.str (W w))))(h2:aa Φ ei σ=some (at1 (.int i)))(h3:aa Φ ek σ=some (at1 (.int k)))(hi:i<=1000000)(hk:k<=1000000):aa Φ (.smid ea ei ek) σ=some (at1 (.str (W (mid w i k)))):=by
 refine bind_to h1 (bind_to h2 (bind_to h3 ?_))
 show(if(0<=(i:Int)/\(i:Int)<=1000000)/\(0<=(k:Int)/\(k:Int)<=1000000)then some (at1 (.str (Str.mk ((W w).cps.extract (i:Int).toNat (k:Int).toNat))))else none)=_
 rw[if_pos (by constructor<;>constructor<;>lia),FT,FT,l8]
theorem wa{σ:Sig}{a b:SExpr}{r:RV}(h:aa Φ (.comp a b) σ=some r):aa Φ (.compC a b) σ=some r:=h
theorem s8{w:List Nat}{ws:List (List Nat)}(hl:w.length<=100)(n:Nat):aexecs Φ n dy (C6 1 [.str (W w),au ws])=some (.ret ⟨jy w.length (fq w ws),true,true⟩):=by
 delta dy
 have hlim:101<=az:=by decide
 refine am (r:=at1 (.int ((w.length+1:Nat):Int))) (ev_bin (rj hl (f:=true) (c:=true) (ev_var rfl)) ai rfl) rfl ?_
 refine seq_ret (wa (ev_compP (A:=Nat) (dec:=λi:Nat=>.int i) (l:=Fd (w.length+1)) (f:=λi=>⟨ij w.length (fq w ws i),true,true⟩) (ev_range (k:=w.length+1) (f:=true) (c:=true) (ev_var rfl) (by lia)) (aiter_range _) ?_ (je _ _ (by rw[Fk];lia) λθ=>rfl)))
 intro i hi
 rw[FL]at hi
 refine ev_compP (A:=Nat) (dec:=λi:Nat=>.int i) (l:=Fd (w.length+1)) (f:=λk=>at1 (.bool (fq w ws i k))) (ev_range (k:=w.length+1) (f:=true) (c:=true) (ev_var rfl) (by lia)) (aiter_range _) ?_ (cF _ _ (by rw[Fk];lia))
 intro k hk
 rw[FL]at hk
 have t1:aa Φ (.cmp .LtE (.var 3) (.var 4)) (([some (at1 (.str (W w))),some ⟨au ws,false,true⟩,some (at1 (.int ((w.length+1:Nat):Int)))]++[some (at1 (.int (i:Nat)))])++[some (at1 (.int (k:Nat)))])=some (at1 (.bool (decide ((i:Int)<=(k:Int))))):=ev_cmp (ev_var rfl) (ev_var rfl) (leI _ _)
 refine ev_band ?_
 delta fq
 by_cases hik:i<=k
 .rw[decide_eq_true (by exact Go.mpr hik:(i:Int)<=(k:Int))]at t1
  refine(ands_cons t1 (ands_cons (ev_cmp (ev_smid (i:=i) (k:=k) (w:=w) (ev_var rfl) (ev_var rfl) (ev_var rfl) (EK (FB hi) (EK hl (by decide))) (EK (FB hk) (EK hl (by decide)))) (ev_var rfl) (in_encS _ _)) ands_nil)).trans ?_
  rw[decide_eq_true hik,FY]
  refine congrArg (λz=>some (true&&z)) (decide_eq_decide.mpr ?_)
  rw[E9]
  exact⟨λh=>by obtain⟨u,hu,e⟩:=h;exact oP e▸hu,λh=>⟨_,h,rfl⟩⟩
 .rw[decide_eq_false (by exact λq=>hik (Go.mp q):¬(i:Int)<=(k:Int))]at t1
  rw[decide_eq_false hik]
  exact ands_false t1
end
section
variable{Φ:FTab}
theorem qI(b:List Nat):ci ((b.map sg).map PV.str)=some (W b):=by
 induction b with
 | nil=>rfl
 | cons c b ih =>
  show((ci ((b.map sg).map PV.str)).map (sg c++·))=_
  rw[ih]
  show some (sg c++W b)=_
  rw[<-CL,pH];rfl
theorem sv(l:List Nat):gy (W l)=l.map sg:=by
 delta gy W;simp[sg]
theorem sx(c:Nat)(l:List Nat):bf .NotIn (.str (sg c)) (.str (W l))=some (!decide (c∈l)):=by
 show((nA (sg c) (W l)).map (!·))=_
 delta nA
 have h1:(sg c).length=1:=rfl
 rw[if_pos h1]
 show some (!([c].all λc=>(W l).cps.toList.contains c))=_
 rw[F5,List.all_nil,FY]
 show some (!(W l).cps.toList.contains c)=_
 congr 2
 delta W
 simp
theorem x9{form body:List Nat}{h:Nat}(hl:form.length+body.length<=100):qx (W form) (sg h) (W body)=some (W (bk h body form)):=by
 have:qx (W form) (sg h) (W body)=if(sg h).length=1/\(W form).length+(W body).length<=100 then some ⟨(bk h (W body).cps.toList (W form).cps.toList).toArray⟩else none:=rfl
 rw[this,dj,dj,if_pos ⟨rfl,hl⟩]
 delta W;simp
noncomputable def DR(g:List CRule)(dv:PV)(form:List Nat)(a:Option RV):Sig:=[some ⟨aj (g.map ru),false,true⟩,some ⟨dv,false,true⟩,some (at1 (.str (W form))),a]
noncomputable def Au:SExpr:=.bor [.cmp .Lt (.var 3) (.int 0),.cmp .GtE (.var 3) (.len (.var 0)),.cmp .NotIn (.idx (.idx (.var 0) (.var 3)) (.int 0)) (.var 2)]
noncomputable def t7:List SStmt:=[.ife Au [.ret (.none)] [],.set 2 (.replR 2 0 3)]
theorem v7{g:List CRule}{dv:PV}{form:List Nat}{k:Int}(hl:form.length<=90)(hb:∀r∈g,r.2.length<=10)(hh:∀r∈g,ud.contains (sg r.1)=true)(n:Nat) :
  aexecs Φ n t7 (DR g dv form (some (at1 (.int k))))=some (match cN g form k with | some f=>.next (DR g dv f (some (at1 (.int k)))) | none=>.ret (at1 .none)):=by
 have t2:aa Φ (.cmp .Lt (.var 3) (.int 0)) (DR g dv form (some (at1 (.int k))))=some (at1 (.bool (decide (k<0)))):=ev_cmp (ev_var rfl) ai (lt_int _ _)
 have t3:aa Φ (.cmp .GtE (.var 3) (.len (.var 0))) (DR g dv form (some (at1 (.int k))))=some (at1 (.bool (decide (k>=(g.length:Int))))):=by
  refine ev_cmp (ev_var rfl) (dt (n:=g.length) (ev_var rfl) ?_) (CT _ _)
  show some ((g.map ru).map ao).length=_
  rw[EN,EN]
 have out:aa Φ Au (DR g dv form (some (at1 (.int k))))=some (at1 (.bool true))->aexecs Φ n t7 (DR g dv form (some (at1 (.int k))))=some (.ret (at1 .none)):=λh=>cS (k:=true) h rfl (seq_ret rfl)
 by_cases c2:k<0
 .have e:cN g form k=none:=if_pos (.inl c2)
  rw[e]
  exact out (ev_bor (fQ (t2.trans (by rw[decide_eq_true c2]))))
 .rw[decide_eq_false c2]at t2
  by_cases c3:k>=(g.length:Int)
  .have e:cN g form k=none:=if_pos (.inr c3)
   rw[e]
   exact out (ev_bor (ors_cons t2 (fQ (t3.trans (by rw[decide_eq_true c3])))))
  .rw[decide_eq_false c3]at t3
   have hk:k.toNat<g.length:=by exact(Iv (GB.mp c2)).mpr (Int.not_le.mp c3)
   have hr:g[k.toNat]?= some g[k.toNat]:=EW hk
   have hrm:g[k.toNat]∈g:=GU hk
   generalize g[k.toNat]=r at hr hrm
   have hr':(g.map ru)[k.toNat]?= some (ru r):=by rw[EZ,hr];rfl
   have ei:aa Φ (.idx (.idx (.var 0) (.var 3)) (.int 0)) (DR g dv form (some (at1 (.int k))))=some (at1 (.str (sg r.1))):=ev_idx (ev_idx (ev_var rfl) (ev_var rfl) (jc (GB.mp c2) hr')) ai rfl
   have t4:aa Φ Au (DR g dv form (some (at1 (.int k))))=some (at1 (.bool (!decide (r.1∈form)))):=by
    refine(ev_bor (ors_cons t2 (ors_cons t3 (ors_cons (ev_cmp ei (ev_var rfl) (sx r.1 form)) f7)))).trans ?_
    rw[G6,G6,GR]
   have hst:cN g form k=if r.1∈form then some (bk r.1 r.2 form)else none:=by
    delta cN
    rw[if_neg (λh=>h.elim c2 c3),hr];rfl
   rw[hst]
   by_cases e:r.1∈form
   .rw[if_pos e]
    rw[decide_eq_true e]at t4
    have hb2:=hb r hrm
    refine seq_if (k:=false) t4 rfl ah (am (r:=at1 (.str (W (bk r.1 r.2 form)))) ?_ rfl ah)
    refine bind_to (a:=at1 (.str (W form))) rfl (bind_to (a:=⟨aj (g.map ru),false,true⟩) rfl (bind_to (a:=at1 (.int k)) rfl (bind_to (a:=W form) rfl (bind_to (a:=(g.map ru).map ao) rfl (bind_to (a:=k) rfl ?_)))))
    refine(if_pos (GB.mp c2)).trans (bind_to (a:=ao (ru r)) ?_ (bind_to (a:=[.str (sg r.1),ae (r.2.map sg)]) rfl (bind_to (a:=(sg r.1,(r.2.map sg).map PV.str)) rfl ?_)))
    .rw[EZ,hr'];rfl
    .refine(if_pos (hh r hrm)).trans (bind_to (qI r.2) ((if_pos ?_).trans (bj (x9 (E8 hl hb2)))))
     show((r.2.map sg).map PV.str).length<=1000/\_
     rw[EN,EN,dj];constructor<;>exact EK hb2 (FM ..)
   .rw[if_neg e]
    rw[decide_eq_false e]at t4
    exact out t4
theorem stepC_len{g:List CRule}{form f:List Nat}{k:Int}(hb:∀r∈g,r.2.length<=10)(h:cN g form k=some f):f.length<=form.length+10:=by
 delta cN at h
 split at h
 .cases h
 .obtain⟨r,hr,h⟩:=ac h
  obtain⟨hc,rfl⟩:=aV h
  have:=hb r (Fa hr)
  have:=xU r.1 r.2 form
  lia
theorem uG{g:List CRule}{dv:PV}{q:RV}(hb:∀r∈g,r.2.length<=10)(hh:∀r∈g,ud.contains (sg r.1)=true)(n:Nat):∀(l:List Int) (form:List Nat) (a:Option RV),form.length+10*l.length<=90 ->
  ∃a',afor (aexecs Φ n t7) 3 q (l.map PV.int) (DR g dv form a)=some (match carr g form l with | some f=>.next (DR g dv f a') | none=>.ret (at1 .none)):=by
 intro l0
 induction l0 with
 | nil=>exact @λform a θ=>⟨a,rfl⟩
 | cons k l ih =>
  intro form a h
  rw[Fl]at h
  have hn:=v7 (Φ:=Φ) (g:=g) (dv:=dv) (form:=form) (k:=k) (EK (Ff ..) h) hb hh n
  rw[mc]
  cases hs:cN g form k with
  | none =>
   rw[hs]at hn
   exact⟨a,bind_to hn rfl⟩
  | some f =>
   rw[hs]at hn
   have hfl:=stepC_len hb hs
   obtain⟨a',ih⟩:=ih f (some (at1 (.int k))) (EK (F4 hfl _) (by rw[Ga,FV 10];exact h))
   exact⟨a',bind_to hn ih⟩
noncomputable def bG(o:Option (List Nat)):PV:=AG (o.map λf=>f.map sg)
theorem oB{g gs:List CRule}{h0:Nat}{b0:List Nat}{l:List Int}(hg0:g=(h0,b0)::gs)(hb:∀r∈g,r.2.length<=10)(hh:∀r∈g,ud.contains (sg r.1)=true)(hl:l.length<=8)(n:Nat) :
  aexecs Φ n bu (C6 2 [aj (g.map ru),ar l])=some (.ret ⟨bG (carr g [h0] l),true,true⟩):=by
 obtain⟨a,hn⟩:=uG (Φ:=Φ) (g:=g) (dv:=ar l) (q:=⟨ar l,false,true⟩) hb hh n l [h0] none (by rw[HD];exact EK (Fo (FD _ hl) _) (by decide))
 delta bu
 refine am (r:=at1 (.str (sg h0))) (ev_idx (r:=⟨ao (ru (h0,b0)),false,true⟩) (ev_idx (ev_var rfl) ai (by rw[hg0];rfl)) ai rfl) rfl ?_
 have hfr:bO Φ n (.fr 3 (.var 1) t7) (DR g (ar l) [h0] none)=afor (aexecs Φ n t7) 3 ⟨ar l,false,true⟩ (l.map PV.int) (DR g (ar l) [h0] none):=rfl
 show(bO Φ n (.fr 3 (.var 1) t7) (DR g (ar l) [h0] none)).bind _=_
 rw[hfr,hn]
 have hlen:∀f,carr g [h0] l=some f->f.length<=100:=by
  have gen:∀(l:List Int) (form f:List Nat),carr g form l=some f->f.length<=form.length+10*l.length:=by
   intro l
   induction l with
   | nil=>intro form f h;cases h;exact ER _
   | cons k l ih =>
    intro form f h
    obtain⟨f1,h1,h2⟩:=ac (o:=cN g form k) h
    have:=stepC_len hb h1
    have:=ih f1 f h2
    rw[Fl];lia
  intro f hf
  have:=gen l [h0] f hf
  rw[HD]at this
  exact EK this (EK (Fo (FD _ hl) _) (by decide))
 cases hc:carr g [h0] l with
 | none=>rfl
 | some f =>
  have:=hlen f hc
  refine seq_ret (Φ:=Φ) (n:=n) (ts:=[]) (e:=.listOf (.var 2)) (σ:=DR g (ar l) f a) (r:=⟨ae (f.map sg),true,true⟩) (bind_to (a:=at1 (.str (W f))) (ev_var rfl) ?_)
  show(if(W f).length<=1000 then some (at1 (.list ((gy (W f)).map PV.str)))else none)=_
  rw[dj,if_pos (EK this (FM ..)),sv];rfl
end
theorem BG{ks form:List Nat}:∀{Y:Nat},Y∈ks->(∀x∈form,x∈ks->x=Y)->Y∈form->∃p q,form=p++Y::q/\Y∉p/\fp (ks.map sg) (form.map sg)=p.length:=by
 induction form with
 | nil=>exact λθ θ h=>absurd h FC
 | cons x form ih =>
  intro Y hY h hm
  by_cases e:x=Y
  .subst e
   refine⟨[],form,rfl,by simp,?_⟩
   show(if sg x∈ks.map sg then 0 else _)=0
   rw[if_pos (E4 hY)]
  .obtain⟨p,q,h1,h2,h3⟩:=ih hY (λz hz=>h z (EO _ hz)) ((EU.mp hm).resolve_left λq=>e q.symm)
   refine⟨x::p,q,by rw[h1];rfl,λhc=>(EU.mp hc).elim (λq=>e q.symm) h2,?_⟩
   show(if sg x∈ks.map sg then 0 else _)=_
   rw[if_neg ?_,h3]at ⊢;rfl
   intro hx
   obtain⟨z,hz,ez⟩:=E9.mp hx
   rw[sg_inj ez]at hz
   exact e (h x (EP ..) hz)
theorem fp_none{ks:List Nat}:∀{form:List Nat},(∀x∈form,x∉ks)->fp (ks.map sg) (form.map sg)=(form.map sg).length:=by
 intro l0
 induction l0 with
 | nil=>exact @λθ=>rfl
 | cons x form ih =>
  intro h
  show(if sg x∈ks.map sg then 0 else _)=_
  rw[if_neg ?_,ih λz hz=>h z (EO _ hz)]at ⊢;rfl
  intro hx
  obtain⟨z,hz,ez⟩:=E9.mp hx
  rw[sg_inj ez]at hz
  exact h x (EP ..) hz
theorem rpl_at{Y:Nat}{z p q:List Nat}(h:Y∉p):bk Y z (p++Y::q)=p++z++q:=by
 induction p with
 | nil=>show(if Y=Y then _ else _)=_;rw[if_pos rfl];rfl
 | cons x p ih =>
  show(if x=Y then _ else _)=_
  rw[if_neg (λe=>h (by rw[e];exact EP ..))]
  exact congrArg (x::·) (ih λhm=>h (EO _ hm))
theorem tC{g:List CRule}{ks form:List Nat}{Y:Nat}{k:Int}(hk:∀r∈g,r.1∈ks)(h:∀x∈form,x∈ks->x=Y):stepR (g.map ru) (ks.map sg) (form.map sg) k=(cN g form k).map λf=>f.map sg:=by
 by_cases hY:∃x∈form,x∈ks
 .obtain⟨x,hx,hxk⟩:=hY
  have e:=h x hx hxk
  subst e
  refine cps λGq hGq=>?_
  obtain⟨p,q,h1,h2,h3⟩:=BG hxk h hx
  refine hGq ?_
  clear hGq
  delta stepR cN
  rw[h3,EN,EN]
  have hne:p.length≠form.length:=by rw[h1,EQ,Fl];exact(FG (Ij (Hv _)))
  by_cases hc:k<0\/k>=(g.length:Int)
  .rw[if_pos hc,if_pos (.inr hc)];rfl
  .rw[if_neg hc,if_neg (λz=>z.elim hne hc),EZ]
   cases hr:g[k.toNat]? with
   | none=>rfl
   | some r =>
    show(if(form.map sg)[p.length]?= some (sg r.1)then _ else _)=(if r.1∈form then some (bk r.1 r.2 form)else none).map _
    have e1:(form.map sg)[p.length]?= some (sg x):=by rw[h1,EZ,Fg (ER _),G0];rfl
    rw[e1]
    by_cases er:r.1=x
    .rw[if_pos (by rw[er]),if_pos (by rw[er];exact hx),er,h1,rpl_at h2,Fc,I5 (by rw[EN])]
     have:(p.map sg++(x::q).map sg).drop (p.length+1)=q.map sg:=by
      rw[IW,EN,G3 (by rw[EN];exact Fv _),Fu];rfl
     rw[this]
     show some (_++r.2.map sg++_)=some ((p++r.2++q).map sg)
     rw[Fc,Fc]
    .rw[if_neg (λz=>er (sg_inj (ET z)).symm),if_neg]
     .rfl
     .intro hm
      exact er (h r.1 hm (hk r (Fa hr)))
 .have hno:∀x∈form,x∉ks:=λx hx hxk=>hY ⟨x,hx,hxk⟩
  delta stepR cN
  rw[if_pos (.inl (fp_none hno))]
  split
  .rfl
  .cases hr:g[k.toNat]? with
   | none=>rfl
   | some r =>
    show none=(if r.1∈form then some (bk r.1 r.2 form)else none).map _
    rw[if_neg λhm=>hno r.1 hm (hk r (Fa hr))];rfl
theorem jn{g:List CRule}{ks:List Nat}(hk:∀r∈g,r.1∈ks)(Inv:List Nat->Prop)(h1:∀form,Inv form->∃Y,∀x∈form,x∈ks->x=Y)(h2:∀form k f,Inv form->cN g form k=some f->Inv f):∀(l:List Int) (form:List Nat),Inv form->aD (g.map ru) (ks.map sg) (form.map sg) l=(carr g form l).map λf=>f.map sg:=by
 intro l0
 induction l0 with
 | nil=>exact @λform θ=>rfl
 | cons k l ih =>
  intro form hi
  obtain⟨Y,hY⟩:=h1 form hi
  rw[jq,mc]
  rw[tC hk hY]
  cases hs:cN g form k with
  | none=>rfl
  | some f=>exact ih f (h2 form k f hi hs)
structure Lng(cg:List CRule)(ks:List Nat)(k:Nat->List (List Nat))(rk:Nat->Nat):Prop where
 hd:∀r∈cg,r.1∈ks
 tok:∀r∈cg,∀c∈r.2,c∉ks->k c=[[c]]/\c≠33
 closed:∀r∈cg,∀w∈words k r.2,w∈k r.1
 found:∀X∈ks,∀w∈k X,w≠[33]->∃r∈cg,r.1=X/\w∈words k r.2/\∀c∈r.2,c∈ks->rk c<rk X
 ne:∀r∈cg,∀c∈r.2,k c≠[]
theorem mem_sgs{ks:List Nat}{c:Nat}:sg c∈ks.map sg↔c∈ks:=by
 rw[E9]
 exact⟨λh=>by obtain⟨z,hz,e⟩:=h;exact sg_inj e▸hz,λh=>⟨c,h,rfl⟩⟩
theorem cq{cg:List CRule}{r:Rule}(h:r∈cg.map ru):∃q∈cg,r=ru q:=by
 obtain⟨q,hq,e⟩:=E9.mp h
 exact⟨q,hq,e.symm⟩
theorem cw{b:List Nat}{s:Str}(h:s∈b.map sg):∃c∈b,s=sg c:=by
 obtain⟨q,hq,e⟩:=E9.mp h
 exact⟨q,hq,e.symm⟩
theorem ge{k:Nat->List (List Nat)}:∀{b:List Nat},[]∈words k b↔∀c∈b,[]∈k c:=by
 intro l0
 induction l0 with
 | nil=>rw[words_nil];simp
 | cons c b ih =>
  rw[mem_words_cons]
  constructor
  .rintro⟨x,hx,y,hy,e⟩ d hd
   have e':=List.append_eq_nil_iff.mp e.symm
   rcases EU.mp hd with rfl | hd
   .exact e'.1▸hx
   .exact ih.mp (e'.2▸hy) d hd
  .intro h
   exact⟨[],h c (EP ..),[],ih.mpr λd hd=>h d (EO _ hd),rfl⟩
theorem lr{k:Nat->List (List Nat)}:∀{b:List Nat},(∀c∈b,k c≠[])->∃w,w∈words k b:=by
 intro l0
 induction l0 with
 | nil=>exact @λθ=>⟨[],by rw[words_nil];simp⟩
 | cons c b ih =>
  intro h
  obtain⟨y,hy⟩:=ih λd hd=>h d (EO _ hd)
  obtain⟨x,hx⟩:=FA _ (h c (EP ..))
  exact⟨x++y,mem_words_cons.mpr ⟨x,hx,y,hy,rfl⟩⟩
section
variable{cg:List CRule}{ks:List Nat}{k:Nat->List (List Nat)}{rk:Nat->Nat}
theorem Lng.blt(L:Lng cg ks k rk){gv l:List Str}(G:IsBlt (cg.map ru) gv l)(hgv:∀c,c∉ks->(∃r∈cg,c∈r.2)->sg c∈gv)(hgv2:∀c,sg c∈gv->c∉ks){X:Nat}(hX:X∈ks):sg X∈l↔∃w∈k X,33∉w:=by
 constructor
 .intro h
  have:=G.least (λs=>∃c,s=sg c/\∃w∈k c,33∉w) (by
   intro r hr hs
   obtain⟨q,hq,rfl⟩:=cq hr
   have key:∀b:List Nat,(∀c∈b,c∈q.2)->∃w∈words k b,33∉w:=by
    intro b
    induction b with
    | nil=>intro _;exact⟨[],by rw[words_nil];simp,by simp⟩
    | cons c b ih =>
     intro hb
     obtain⟨y,hy,ny⟩:=ih λd hd=>hb d (EO _ hd)
     have hc:=hb c (EP ..)
     have hx:∃x∈k c,33∉x:=by
      rcases hs (sg c) (E4 hc)with h | ⟨d,e,h⟩
      .obtain⟨e1,e2⟩:=L.tok q hq c hc (hgv2 c h)
       exact⟨[c],by rw[e1];simp,by simpa using λe=>e2 e.symm⟩
      .rw[sg_inj e];exact h
     obtain⟨x,hx,nx⟩:=hx
     exact⟨x++y,mem_words_cons.mpr ⟨x,hx,y,hy,rfl⟩,λhm=>(E0.mp hm).elim nx ny⟩
   obtain⟨w,hw,nw⟩:=key q.2 λθ h=>h
   exact⟨q.1,rfl,w,L.closed q hq w hw,nw⟩) (sg X) h
  obtain⟨c,e,h⟩:=this
  rw[sg_inj e];exact h
 .have key:∀n X,rk X<=n->X∈ks->(∃w∈k X,33∉w)->sg X∈l:=by
   intro n
   induction n with
   | zero =>
    rintro X hn hX ⟨w,hw,nw⟩
    obtain⟨r,hr,rfl,hrw,hlow⟩:=L.found X hX w hw (λe=>nw (by rw[e];simp))
    refine G.closed (ru r) (E4 hr) λs hs=>?_
    obtain⟨c,hc,rfl⟩:=cw hs
    by_cases hck:c∈ks
    .exact absurd (hlow c hc hck) (by lia)
    .exact .inl (hgv c hck ⟨r,hr,hc⟩)
   | succ n ih =>
    rintro X hn hX ⟨w,hw,nw⟩
    obtain⟨r,hr,rfl,hrw,hlow⟩:=L.found X hX w hw (λe=>nw (by rw[e];simp))
    refine G.closed (ru r) (E4 hr) λs hs=>?_
    obtain⟨c,hc,rfl⟩:=cw hs
    by_cases hck:c∈ks
    .refine .inr (ih c (by have:=hlow c hc hck;lia) hck ?_)
     have part:∀(b:List Nat) (w:List Nat),w∈words k b->33∉w->∀c∈b,∃x∈k c,33∉x:=by
      intro b
      induction b with
      | nil=>intro w _ _ c hc;cases hc
      | cons d b ihb =>
       intro w hw nw c hc
       obtain⟨x,hx,y,hy,rfl⟩:=mem_words_cons.mp hw
       rcases EU.mp hc with rfl | hc
       .exact⟨x,hx,λhm=>nw (Gs _ hm)⟩
       .exact ihb y hy (λhm=>nw (HE _ hm)) c hc
     exact part r.2 w hrw nw c hc
    .exact .inl (hgv c hck ⟨r,hr,hc⟩)
  exact key (rk X) X (ER _) hX
theorem Lng.nul(L:Lng cg ks k rk){nl:List Str}(G:IsNul (cg.map ru) nl){X:Nat}(hX:X∈ks):sg X∈nl↔[]∈k X:=by
 constructor
 .intro h
  obtain⟨c,e,h⟩:=G.least (λs=>∃c,s=sg c/\[]∈k c) (by
   intro r hr hs
   obtain⟨q,hq,rfl⟩:=cq hr
   refine⟨q.1,rfl,L.closed q hq _ (ge.mpr λc hc=>?_)⟩
   obtain⟨d,e,h⟩:=hs (sg c) (E4 hc)
   rw[sg_inj e];exact h) (sg X) h
  rw[sg_inj e];exact h
 .have key:∀n X,rk X<n->X∈ks->[]∈k X->sg X∈nl:=by
   intro n
   induction n with
   | zero=>exact λX hn=>absurd hn (FP _)
   | succ n ih =>
    intro X hn hX hw
    obtain⟨r,hr,rfl,hrw,hlow⟩:=L.found X hX [] hw (FQ _ _).symm
    refine G.closed (ru r) (E4 hr) λs hs=>?_
    obtain⟨c,hc,rfl⟩:=cw hs
    have hcn:=ge.mp hrw c hc
    by_cases hck:c∈ks
    .exact ih c (by have:=hlow c hc hck;lia) hck hcn
    .rw[(L.tok r hr c hc hck).1]at hcn
     simp at hcn
  exact key (rk X+1) X (E7 _) hX
theorem Lng.inFos(L:Lng cg ks k rk){nl:List Str}(G:IsNul (cg.map ru) nl){F:Str->Str->Prop}{q:CRule}(hq:q∈cg){t:Str}:∀{b:List Nat},(∀c∈b,c∈q.2)->(∀c∈b,c∈ks->F (sg c) t->∃d w,d::w∈k c/\d≠33/\t=sg d) ->
  inFos (ks.map sg) nl F (b.map sg) t->∃d w,d::w∈words k b/\d≠33/\t=sg d:=by
 intro l0
 induction l0 with
 | nil=>exact @λθ θ h=>h.elim
 | cons c b ih =>
  intro hb hF h
  have h:(if sg c∈ks.map sg then(F (sg c) t\/(sg c∈nl/\Mine.inFos (ks.map sg) nl F (b.map sg) t))else t=sg c):=h
  have hcq:=hb c (EP ..)
  obtain⟨y,hy⟩:=lr (k:=k) (b:=b) λd hd=>L.ne q hq d (hb d (EO _ hd))
  by_cases hk:c∈ks
  .rw[if_pos (mem_sgs.mpr hk)]at h
   rcases h with h | ⟨hn,h⟩
   .obtain⟨d,w,hw,hd,e⟩:=hF c (EP ..) hk h
    exact⟨d,w++y,mem_words_cons.mpr ⟨_,hw,y,hy,rfl⟩,hd,e⟩
   .obtain⟨d,w,hw,hd,e⟩:=ih (λd hd=>hb d (EO _ hd)) (λd hd=>hF d (EO _ hd)) h
    exact⟨d,w,mem_words_cons.mpr ⟨[],(L.nul G hk).mp hn,_,hw,rfl⟩,hd,e⟩
  .rw[if_neg (λhm=>hk (mem_sgs.mp hm))]at h
   obtain⟨e1,e2⟩:=L.tok q hq c hcq hk
   exact⟨c,y,mem_words_cons.mpr ⟨[c],by rw[e1];simp,y,hy,rfl⟩,e2,h⟩
theorem Lng.toFos(L:Lng cg ks k rk){nl:List Str}(G:IsNul (cg.map ru) nl){F:Str->Str->Prop}{q:CRule}(hq:q∈cg){d:Nat}(hd:d≠33):∀{b w:List Nat},(∀c∈b,c∈q.2)->(∀c∈b,c∈ks->∀x,d::x∈k c->F (sg c) (sg d))->d::w∈words k b->Mine.inFos (ks.map sg) nl F (b.map sg) (sg d):=by
 intro l0
 induction l0 with
 | nil=>exact @λw θ θ h=>by rw[words_nil]at h;simp at h
 | cons c b ih =>
  intro w hb hF h
  show(if sg c∈ks.map sg then(F (sg c) (sg d)\/(sg c∈nl/\Mine.inFos (ks.map sg) nl F (b.map sg) (sg d)))else sg d=sg c)
  refine cps λGq hGq=>?_
  obtain⟨x,hx,y,hy,e⟩:=mem_words_cons.mp h
  refine hGq ?_
  clear hGq
  by_cases hk:c∈ks
  .rw[if_pos (mem_sgs.mpr hk)]
   cases x with
   | nil=>exact .inr ⟨(L.nul G hk).mpr hx,ih (λd hd=>hb d (EO _ hd)) (λd hd=>hF d (EO _ hd)) (w:=w) (by rw[e];exact hy)⟩
   | cons z x =>
    have:d=z:=(GS e).1
    exact .inl (hF c (EP ..) hk x (this▸hx))
  .rw[if_neg (λhm=>hk (mem_sgs.mp hm))]
   rw[(L.tok q hq c (hb c (EP ..)) hk).1]at hx
   have hx:=EM.mp hx
   subst hx
   exact congrArg sg (GS e).1
theorem Lng.fst(L:Lng cg ks k rk){nl:List Str}{vs:List (List Str)}(G:IsNul (cg.map ru) nl)(F:IsFst (cg.map ru) (ks.map sg) nl vs){X:Nat}(hX:X∈ks){t:Str}:FF (ks.map sg) vs (sg X) t↔∃c w,c::w∈k X/\c≠33/\t=sg c:=by
 constructor
 .intro h
  obtain⟨Y,e,h⟩:=F.least (λh t=>∃X,h=sg X/\∃c w,c::w∈k X/\c≠33/\t=sg c) (by
   intro r hr t ht
   obtain⟨q,hq,rfl⟩:=cq hr
   refine cps λGq hGq=>?_
   obtain⟨d,w,h1,h2,h3⟩:=L.inFos G hq (b:=q.2) (λθ h=>h) (λc θ θ h=>by obtain⟨X,e,h⟩:=h;rw[sg_inj e];exact h) ht
   refine hGq ?_
   clear hGq
   exact⟨q.1,rfl,d,w,L.closed q hq _ h1,h2,h3⟩) _ _ h
  rw[sg_inj e];exact h
 .have key:∀n X,rk X<n->X∈ks->∀c w,c::w∈k X->c≠33->FF (ks.map sg) vs (sg X) (sg c):=by
   intro n
   induction n with
   | zero=>exact λX hn=>absurd hn (FP _)
   | succ n ih =>
    intro X hn hX c w hw hc
    obtain⟨r,hr,rfl,hrw,hlow⟩:=L.found X hX (c::w) hw (λe=>hc (GS e).1)
    exact F.closed (ru r) (E4 hr) (sg c) (L.toFos G hr hc (λθ h=>h) (λb hb hbk x hx=>ih b (by have:=hlow b hb hbk;lia) hbk c x hx hc) hrw)
  rintro⟨c,w,hw,hc,rfl⟩
  exact key (rk X+1) X (E7 _) hX c w hw hc
structure Aft(cg:List CRule)(ks:List Nat)(k:Nat->List (List Nat))(h0:Nat)(af:Nat->List (List Nat))(rk:Nat->Nat):Prop where
 start:[36]∈af h0
 closed:∀r∈cg,∀i c,r.2[i]?= some c->c∈ks->∀x∈words k (r.2.drop (i+1)),∀y∈af r.1,x++y∈af c
 found:∀c∈ks,∀u∈af c,(c=h0/\u=[36])\/∃r∈cg,∃i,r.2[i]?= some c/\rk r.1<rk c/\∃x∈words k (r.2.drop (i+1)),∃y∈af r.1,u=x++y
 ne:∀r∈cg,(∃c∈r.2,c∈ks)->af r.1≠[]
theorem om(L:Lng cg ks k rk){nl:List Str}(G:IsNul (cg.map ru) nl){q:CRule}(hq:q∈cg):∀{b:List Nat},(∀c∈b,c∈q.2)->(jv (ks.map sg) nl (b.map sg)↔[]∈words k b):=by
 intro l0
 induction l0 with
 | nil=>exact @λθ=>by rw[words_nil];exact⟨λθ=>EM.mpr rfl,λθ=>trivial⟩
 | cons c b ih =>
  intro hb
  have ih:=ih λd hd=>hb d (EO _ hd)
  show(sg c∈ks.map sg/\sg c∈nl/\jv (ks.map sg) nl (b.map sg))↔_
  rw[ih,ge,ge,mem_sgs]
  constructor
  .rintro⟨h1,h2,h3⟩ d hd
   rcases EU.mp hd with rfl | hd
   .exact(L.nul G h1).mp h2
   .exact h3 d hd
  .intro h
   have hc:=h c (EP ..)
   have hk:c∈ks:=FO λhk=>by
    rw[(L.tok q hq c (hb c (EP ..)) hk).1]at hc
    simp at hc
   exact⟨hk,(L.nul G hk).mpr hc,λd hd=>h d (EO _ hd)⟩
theorem dollar_sg:("$":Str)=sg 36:=by decide +kernel
theorem Lng.fol(L:Lng cg ks k rk){nl:List Str}{vs ws:List (List Str)}{h0:Nat}{af:Nat->List (List Nat)}{rk':Nat->Nat}(M:Aft cg ks k h0 af rk')(G:IsNul (cg.map ru) nl)(F:IsFst (cg.map ru) (ks.map sg) nl vs)(H:IsFol (cg.map ru) (ks.map sg) nl (FF (ks.map sg) vs) (sg h0) ws){X:Nat}(hX:X∈ks){t:Str} :
  FF (ks.map sg) ws (sg X) t↔∃c w,c::w∈af X/\c≠33/\t=sg c:=by
 have sub:∀(q:CRule) (i:Nat),∀c∈q.2.drop i,c∈q.2:=λq i c hc=>FU hc
 constructor
 .intro h
  obtain⟨Y,e,h⟩:=H.least (λh t=>∃X,h=sg X/\∃c w,c::w∈af X/\c≠33/\t=sg c) (by
   refine⟨⟨h0,rfl,36,[],M.start,by decide,dollar_sg⟩,λr hr i S hi hS=>?_⟩
   obtain⟨q,hq,rfl⟩:=cq hr
   have hi:(q.2.map sg)[i]?= some S:=hi
   rw[EZ,F6]at hi
   obtain⟨c,hic,rfl⟩:=hi
   have hck:=mem_sgs.mp hS
   refine⟨λt ht=>?_,λhv t hz=>?_⟩
   .have ht:Mine.inFos (ks.map sg) nl (FF (ks.map sg) vs) ((q.2.map sg).drop (i+1)) t:=ht
    rw[<-Hl]at ht
    refine cps λGq hGq=>?_
    obtain⟨d,w,h1,h2,h3⟩:=L.inFos G hq (sub q (i+1)) (λc hc hk h=>(L.fst G F hk).mp h) ht
    obtain⟨y,hy⟩:=FA _ (M.ne q hq ⟨c,Fa hic,hck⟩)
    refine hGq ?_
    clear hGq
    exact⟨c,rfl,d,w++y,M.closed q hq i c hic hck _ h1 y hy,h2,h3⟩
   .obtain⟨Y,eY,d,u,hu,hd,ht⟩:=hz
    have hv:jv (ks.map sg) nl ((q.2.map sg).drop (i+1)):=hv
    rw[<-Hl]at hv
    have:=(om L G hq (sub q (i+1))).mp hv
    have eq:q.1=Y:=sg_inj eY
    exact⟨c,rfl,d,u,M.closed q hq i c hic hck [] this (d::u) (by rw[eq];exact hu),hd,ht⟩) _ _ h
  rw[sg_inj e];exact h
 .have key:∀n X,rk' X<n->X∈ks->∀c w,c::w∈af X->c≠33->FF (ks.map sg) ws (sg X) (sg c):=by
   intro n
   induction n with
   | zero=>exact λX hn=>absurd hn (FP _)
   | succ n ih =>
    intro X hn hX c w hw hc
    rcases M.found X hX _ hw with⟨rfl,e⟩ | ⟨r,hr,i,hi,hlow,x,hx,y,hy,e⟩
    .rw[(GS e).1,<-dollar_sg];exact H.closed.1
    .have hi':(ru r).2[i]?= some (sg X):=by
      show(r.2.map sg)[i]?= _
      rw[EZ,hi];rfl
     obtain⟨h1,h2⟩:=H.closed.2 (ru r) (E4 hr) i (sg X) hi' (mem_sgs.mpr hX)
     have ed:(ru r).2.drop (i+1)=(r.2.drop (i+1)).map sg:=List.map_drop.symm
     cases x with
     | nil =>
      refine h2 (by rw[ed];exact(om L G hr (sub r (i+1))).mpr hx) (sg c) ?_
      exact ih r.1 (by lia) (L.hd r hr) c w (by rw[e];exact hy) hc
     | cons z x =>
      refine h1 (sg c) ?_
      rw[ed]
      have ez:=(GS e).1
      exact L.toFos G hr hc (sub r (i+1)) (λb hb hbk x hx=>(L.fst G F hbk).mpr ⟨c,x,hx,hc,rfl⟩) (w:=x) (by rw[ez];exact hx)
  rintro⟨c,w,hw,hc,rfl⟩
  exact key (rk' X+1) X (E7 _) hX c w hw hc
end
noncomputable def atStep(ks tokens:List Str)(G:Str->Nat->Nat->Prop)(X:Str)(i m:Nat):Prop:=if X∈ks then G X i m else 0<m/\m - 1=i/\tokens[m - 1]?= some X
noncomputable def iA(ks tokens:List Str)(G:Str->Nat->Nat->Prop):List Str->Nat->Nat->Prop
 | [],i,j=>i=j
 | X::b,i,j=>∃m,m<=tokens.length/\atStep ks tokens G X i m/\iA ks tokens G b m j
noncomputable def dh(g:List Rule)(ks tokens:List Str)(G:Str->Nat->Nat->Prop):Prop:=∀r∈g,∀i j,i<=tokens.length->iA ks tokens G r.2 i j->G r.1 i j
noncomputable def TT(t:Tab):Str->Nat->Nat->Prop:=λh i j=>t h i j=true
structure IsSpan(g:List Rule)(ks tokens:List Str)(t:Tab):Prop where
 closed:dh g ks tokens (TT t)
 least:∀G,dh g ks tokens G->∀h∈ks,∀i j,i<=tokens.length->j<=tokens.length->t h i j=true->G h i j
theorem mem_stepP{ks tokens:List Str}{t:Tab}{ps:List Nat}{X:Str}{j:Nat}:j∈stepP ks t tokens ps X↔j<=tokens.length/\∃i∈ps,atStep ks tokens (TT t) X i j:=by
 delta stepP
 rw[Fh,FL,Nat.lt_succ_iff]
 refine and_congr_right λθ=>?_
 delta fF atStep
 by_cases hk:X∈ks
 .simp only[if_pos hk,GA];rfl
 .simp only[if_neg hk,Gj,decide_eq_true_eq]
  constructor
  .rintro⟨h1,h2,h3⟩
   exact⟨j - 1,h2,h1,rfl,h3⟩
  .rintro⟨i,h2,h1,rfl,h3⟩
   exact⟨h1,h2,h3⟩
theorem mem_aftP{ks tokens:List Str}{t:Tab}{j:Nat}:∀{b:List Str} {ps:List Nat},j∈aftP ks t tokens ps b↔∃i∈ps,iA ks tokens (TT t) b i j:=by
 intro l0
 induction l0 with
 | nil =>
  intro ps
  show j∈ps↔∃i∈ps,i=j
  simp
 | cons X b ih =>
  intro ps
  show j∈aftP ks t tokens (stepP ks t tokens ps X) b↔_
  rw[ih]
  constructor
  .rintro⟨m,hm,h⟩
   refine cps λGq hGq=>?_
   obtain⟨h1,i,hi,h2⟩:=mem_stepP.mp hm
   refine hGq ?_
   clear hGq
   exact⟨i,hi,m,h1,h2,h⟩
  .rintro⟨i,hi,m,h1,h2,h⟩
   exact⟨m,mem_stepP.mpr ⟨h1,i,hi,h2⟩,h⟩
theorem IsSpan.of{g:List Rule}{ks tokens:List Str}{t:Tab}(h1:∀r∈g,∀i,i<=tokens.length->∀j∈aftP ks t tokens [i] r.2,t r.1 i j=true)(h2:∀G,dh g ks tokens G->∀h∈ks,∀i j,i<=tokens.length->j<=tokens.length->t h i j=true->G h i j):IsSpan g ks tokens t :=
 ⟨λr hr i j hi h=>h1 r hr i hi j (mem_aftP.mpr ⟨i,EM.mpr rfl,h⟩),h2⟩
theorem kZ{ks tokens:List Str}{G G':Str->Nat->Nat->Prop}(h:∀X i j,X∈ks->i<=tokens.length->j<=tokens.length->G X i j->G' X i j):∀{b:List Str} {i j:Nat},i<=tokens.length->iA ks tokens G b i j->iA ks tokens G' b i j:=by
 intro l0
 induction l0 with
 | nil=>exact @λi j θ hh=>hh
 | cons X b ih =>
  intro i j hi q0
  obtain⟨m,h1,h2,h3⟩:=q0
  refine⟨m,h1,?_,ih h1 h3⟩
  delta atStep at h2 ⊢
  by_cases hk:X∈ks
  .rw[if_pos hk]at h2 ⊢;exact h X i m hk hi h1 h2
  .rw[if_neg hk]at h2 ⊢;exact h2
theorem inAft_le{ks tokens:List Str}{G:Str->Nat->Nat->Prop}:∀{b:List Str} {i j:Nat},i<=tokens.length->iA ks tokens G b i j->j<=tokens.length:=by
 intro l0
 induction l0 with
 | nil=>exact @λi j hi hh=>hh▸hi
 | cons X b ih =>
  intro i j hi q0
  obtain⟨m,h1,h2,h3⟩:=q0
  exact ih h1 h3
theorem IsSpan.uniq{g:List Rule}{ks tokens:List Str}{t t':Tab}(S:IsSpan g ks tokens t)(S':IsSpan g ks tokens t'){h:Str}(hh:h∈ks){i j:Nat}(hi:i<=tokens.length)(hj:j<=tokens.length):t h i j=t' h i j:=by
 rw[GL]
 exact⟨S.least _ S'.closed h hh i j hi hj,S'.least _ S.closed h hh i j hi hj⟩
theorem gU{ks:List Str}{n:Nat}{t t':Tab}(h:∀x∈ks,∀i j,i<=n->j<=n->t x i j=t' x i j):aI ks n t=aI ks n t':=by
 delta aI
 refine congrArg _ (F8 λx hx=>?_)
 delta jy
 refine congrArg _ (F8 λi hi=>?_)
 delta ij
 refine congrArg _ (F8 λj hj=>?_)
 rw[h x hx i j (FB (FL.mp hi)) (FB (FL.mp hj))]
theorem vH(w:List Nat)(i:Nat):mid w i i=[]:=by delta mid;rw[G0];rfl
theorem mid_split{w:List Nat}{i m j:Nat}(h1:i<=m)(h2:m<=j):mid w i j=mid w i m++mid w m j:=by
 delta mid
 obtain⟨a,rfl⟩:=Ik h1
 obtain⟨b,rfl⟩:=Ik h2
 rw[Fu,Fu,Ga,Fu,List.take_add,I8]
theorem mid_one{w:List Nat}{i c:Nat}(h:w[i]?= some c):mid w i (i+1)=[c]:=by
 delta mid
 rw[Fu]
 obtain⟨hi,e⟩:=EY.mp h
 rw[GF hi,e];rfl
theorem mL{w:List Nat}{i j:Nat}(h:j<=w.length):(mid w i j).length=j - i:=by
 delta mid
 rw[Gd,FW];exact G5 (HK h i)
theorem xo{w:List Nat}{i j c:Nat}(h:c∈mid w i j):c∈w:=FU (HL h)
theorem yE{w x y:List Nat}{i j:Nat}(hij:i<=j)(hj:j<=w.length)(h:mid w i j=x++y):i+x.length<=j/\mid w i (i+x.length)=x/\mid w (i+x.length) j=y:=by
 have hl:=mL (i:=i) hj
 rw[h,EQ]at hl
 have h1:i+x.length<=j:=Nat.add_le_of_le_sub' hij (EK (Ff ..) (Fm hl))
 refine⟨h1,?_⟩
 have e:=mid_split (w:=w) (Ff i x.length) h1
 rw[h]at e
 have:=List.append_inj e (by rw[mL (EK h1 hj)];exact(Fu ..).symm)
 exact⟨this.1.symm,this.2.symm⟩
section
variable{cg:List CRule}{ks:List Nat}{k:Nat->List (List Nat)}{rk:Nat->Nat}
theorem Lng.span(L:Lng cg ks k rk){w:List Nat}{t:Tab}(hw:33∉w)(S:IsSpan (cg.map ru) (ks.map sg) (w.map sg) t){X i j:Nat}(hX:X∈ks)(hi:i<=w.length)(hj:j<=w.length):t (sg X) i j=fq w (k X) i j:=by
 have hlen:(w.map sg).length=w.length:=EN ..
 rw[GL]
 delta fq
 rw[Gj,decide_eq_true_eq,decide_eq_true_eq]
 constructor
 .intro h
  obtain⟨Y,e,h⟩:=S.least (λh i j=>∃X,h=sg X/\i<=j/\mid w i j∈k X) (by
   intro r hr i j hi h
   obtain⟨q,hq,rfl⟩:=cq hr
   rw[hlen]at hi
   have key:∀(b:List Nat),(∀c∈b,c∈q.2)->∀i,i<=w.length->iA (ks.map sg) (w.map sg) (λh i j=>∃X,h=sg X/\i<=j/\mid w i j∈k X) (b.map sg) i j->i<=j/\mid w i j∈words k b:=by
    intro b
    induction b with
    | nil =>
     intro _ i _ h
     have h:i=j:=h
     subst h
     exact⟨ER _,by rw[vH,words_nil];simp⟩
    | cons c b ih =>
     rintro hb i hi ⟨m,h1,h2,h3⟩
     rw[hlen]at h1
     obtain⟨i1,i2⟩:=ih (λd hd=>hb d (EO _ hd)) m h1 h3
     have hc:i<=m/\mid w i m∈k c:=by
      delta atStep at h2
      by_cases hk:c∈ks
      .rw[if_pos (mem_sgs.mpr hk)]at h2
       obtain⟨Y,e,h⟩:=h2
       rw[sg_inj e];exact h
      .rw[if_neg (λhm=>hk (mem_sgs.mp hm))]at h2
       obtain⟨p1,p2,p3⟩:=h2
       have em:m=i+1:=(Nat.sub_add_cancel p1).symm.trans (congrArg (·+1) p2)
       subst em
       rw[Ho,EZ,F6]at p3
       obtain⟨d,hd,e⟩:=p3
       rw[sg_inj e]at hd
       rw[mid_one hd,(L.tok q hq c (hb c (EP ..)) hk).1]
       exact⟨Fv _,EM.mpr rfl⟩
     exact⟨EK hc.1 i1,mem_words_cons.mpr ⟨_,hc.2,_,i2,mid_split hc.1 i1⟩⟩
   obtain⟨h1,h2⟩:=key q.2 (λθ h=>h) i hi h
   exact⟨q.1,rfl,h1,L.closed q hq _ h2⟩) (sg X) (mem_sgs.mpr hX) i j (by rw[hlen];exact hi) (by rw[hlen];exact hj) h
  rw[sg_inj e];exact h
 .rintro⟨hij,h⟩
  have key:∀n X,rk X<n->X∈ks->∀i j,i<=j->j<=w.length->mid w i j∈k X->t (sg X) i j=true:=by
   intro n
   induction n with
   | zero=>exact λX hn=>absurd hn (FP _)
   | succ n ih =>
    intro X hn hX i j hij hj h
    obtain⟨r,hr,rfl,hrw,hlow⟩:=L.found X hX _ h (λe=>hw (xo (i:=i) (j:=j) (by rw[e];simp)))
    refine S.closed (ru r) (E4 hr) i j (by rw[hlen];exact EK hij hj) ?_
    have body:∀(b:List Nat),(∀c∈b,c∈r.2)->∀i,i<=j->mid w i j∈words k b->iA (ks.map sg) (w.map sg) (TT t) (b.map sg) i j:=by
     intro b
     induction b with
     | nil =>
      intro _ i hij h
      rw[words_nil]at h
      have:=mL (w:=w) (i:=i) hj
      rw[EM.mp h,HM]at this
      exact Gb hij (IA this.symm)
     | cons c b ihb =>
      intro hb i hij h
      refine cps λGq hGq=>?_
      obtain⟨x,hx,y,hy,e⟩:=mem_words_cons.mp h
      obtain⟨m1,m2,m3⟩:=yE hij hj e
      refine hGq ?_
      clear hGq
      refine⟨i+x.length,by rw[hlen];exact EK m1 hj,?_,ihb (λd hd=>hb d (EO _ hd)) _ m1 (by rw[m3];exact hy)⟩
      delta atStep
      have hcr:=hb c (EP ..)
      by_cases hk:c∈ks
      .rw[if_pos (mem_sgs.mpr hk)]
       exact ih c (EX (hlow c hcr hk) (FB hn)) hk i _ (Ff ..) (EK m1 hj) (by rw[m2];exact hx)
      .rw[if_neg (λhm=>hk (mem_sgs.mp hm))]
       rw[(L.tok r hr c hcr hk).1]at hx
       have hx:=EM.mp hx
       subst hx
       have m1:i+1<=j:=m1
       have m2:mid w i (i+1)=[c]:=m2
       refine⟨Hv _,rfl,?_⟩
       show(w.map sg)[i+1 - 1]?= some (sg c)
       have hlt:i<w.length:=by exact EX m1 hj
       rw[mid_one (EW hlt)]at m2
       rw[Ho,EZ,EW hlt,(GS m2).1];rfl
    exact body r.2 (λθ h=>h) i hij hrw
  exact key (rk X+1) X (E7 _) hX i j hij hj h
end
structure SpOk(Φ:FTab)(g:List Rule)(ks tokens:List Str)(t:Tab):Prop where
 hds:Φ "heads_of" [aj g]=some (ae ks,true)
 aft:∀t i,∀r∈g,i<=tokens.length->Φ "places_after" [ae r.2,.int (i:Nat),ae tokens,aI ks tokens.length t]=some (fI (aftP ks t tokens [i] r.2),true)
 hd:∀r∈g,r.1∈ks
 nd:ks.Nodup
 g1:g.length<=100
 g2:ks.length<=100
 g3:tokens.length<=100
 sp:IsSpan g ks tokens t
noncomputable def wf(Φ:FTab)(ds:List PV):Option (PV×Bool) :=
 open Classical in if h:∃x:List Rule×List Str×List Str×Tab,ds=[aj x.1,ae x.2.2.1]/\SpOk Φ x.1 x.2.1 x.2.2.1 x.2.2.2 then some (aI (Gi h).2.1 (Gi h).2.2.1.length (Gi h).2.2.2,true)else none
theorem kG{Φ:FTab}{ds:List PV}{r:PV×Bool}(h:wf Φ ds=some r):∃g ks tokens t,ds=[aj g,ae tokens]/\SpOk Φ g ks tokens t/\r=(aI ks tokens.length t,true):=by
 delta wf at h
 split at h
 .rename_i hh
  cases h
  have:=F9 hh
  exact⟨_,_,_,_,this.1,this.2,rfl⟩
 .cases h
theorem map_inj{α β:Type}{f:α->β}(hf:∀a b,f a=f b->a=b):∀{xs ys:List α},xs.map f=ys.map f->xs=ys:=by
 intro l0
 induction l0 with
 | nil=>exact @λys h=>(List.map_eq_nil_iff.mp h.symm).symm
 | cons x xs ih =>
  intro ys h
  cases ys with
  | nil=>cases h
  | cons y ys=>rw[hf _ _ (GS h).1,ih (GS h).2]
theorem iy{a b:List Str}(h:ae a=ae b):a=b:=by
 delta ae at h
 injection h with h
 exact map_inj (λx y e=>by injection e) h
theorem wN{a b:Rule}(h:ao a=ao b):a=b:=by
 delta ao at h
 injection h with h
 rw[Gu,Gu]at h
 have h1:=h.1
 injection h1 with h1
 exact Prod.ext h1 (iy h.2.1)
theorem vj{a b:List Rule}(h:aj a=aj b):a=b:=by
 delta aj at h
 injection h with h
 exact map_inj (λx y e=>wN e) h
theorem zL{Φ:FTab}{g:List Rule}{ks tokens:List Str}{t:Tab}(H:SpOk Φ g ks tokens t):wf Φ [aj g,ae tokens]=some (aI ks tokens.length t,true):=by
 have hh:∃x:List Rule×List Str×List Str×Tab,[aj g,ae tokens]=[aj x.1,ae x.2.2.1]/\SpOk Φ x.1 x.2.1 x.2.2.1 x.2.2.2:=⟨(g,ks,tokens,t),rfl,H⟩
 cases e:wf Φ [aj g,ae tokens]with
 | none =>
  delta wf at e
  rw[dif_pos hh]at e
  cases e
 | some r =>
  refine cps λGq hGq=>?_
  obtain⟨g',ks',tk',t',h1,h2,h3⟩:=kG e
  refine hGq ?_
  clear hGq
  rw[Gu,Gu]at h1
  have hg:=vj h1.1
  have ht:=iy h1.2.1
  subst hg;subst ht
  have hks:ks=ks':=iy (congrArg Prod.fst (ET (H.hds.symm.trans h2.hds)))
  subst hks
  rw[h3,gU λx hx i j hi hj=>h2.sp.uniq H.sp hx hi hj]
theorem xT(g:List Rule)(ks tokens:List Str):∃t,IsSpan g ks tokens t:=by
 have key:∀p:Prop,∃b:Bool,b=true↔p:=λp=>(Jm p).elim (λh=>⟨true,⟨λθ=>h,λθ=>rfl⟩⟩) λh=>⟨false,⟨λe=>Ih e,λq=>absurd q h⟩⟩
 refine⟨λh i j=>Gi (key (∀G,dh g ks tokens G->G h i j)),⟨λr hr i j hi h=>?_,λG hG h θ i j θ θ ht=>?_⟩⟩
 .refine(F9 (key _)).mpr λG hG=>?_
  exact hG r hr i j hi (kZ (λX i j θ θ θ h=>(F9 (key (∀G,dh g ks tokens G->G X i j))).mp h G hG) hi h)
 .exact(F9 (key _)).mp ht G hG
structure FnDef where
 name:Str
 g:FTab->List PV->Option (PV×Bool)
noncomputable def fn(name:Str)(ss:List SStmt)(k m:Nat):FnDef:=⟨name,λΦ=>AJ Φ ss k m⟩
noncomputable def tab:List FnDef->FTab
 | []=>λθ θ=>none
 | d::l=>Dr (tab l) d.name (d.g (tab l))
theorem uT{f:Str}{ds:List PV}:∀{l:List FnDef},f∉l.map (·.name)->tab l f ds=none:=by
 intro l0
 induction l0 with
 | nil=>exact @λθ=>rfl
 | cons d l ih =>
  intro h
  rw[Fp,EU,not_or]at h
  show(if f=d.name then _ else tab l f ds)=none
  rw[if_neg h.1]
  exact ih h.2
theorem tab_cons{d:FnDef}{l:List FnDef}{f:Str}{ds:List PV}{r:PV×Bool}(hn:d.name∉l.map (·.name))(h:tab l f ds=some r):tab (d::l) f ds=some r:=by
 show(if f=d.name then _ else tab l f ds)=some r
 by_cases e:f=d.name
 .rw[e,uT hn]at h;cases h
 .rw[if_neg e];exact h
theorem tab_app{l':List FnDef}{f:Str}{ds:List PV}{r:PV×Bool}:∀{l:List FnDef},((l++l').map (·.name)).Nodup->tab l' f ds=some r->tab (l++l') f ds=some r:=by
 intro l0
 induction l0 with
 | nil=>exact @λθ h=>h
 | cons d l ih =>
  intro hn h
  rw[Il,Fp,GK]at hn
  exact tab_cons hn.1 (ih hn.2 h)
noncomputable def fns:List FnDef:=[fn "_law_carried" bu 2 2,⟨"_law_bools",λzz=>AI⟩,fn "_law_spans" dy 2 1,fn "_law_letters" dQ 1 0,fn "_law_after" dG 4 4,fn "_law_all" eQ 2 2,fn "_law_words" dK 2 2,fn "_law_pick" fC 2 0,
 fn "trimmed" fk 1 8,fn "reachable_heads" bD 1 5,fn "productive_heads" cr 1 0,fn "derives" ke 2 0,fn "derives_from" ft 3 0,⟨"span_tables",wf⟩,fn "places_after" cB 4 5,fn "replayed" d5 2 4,fn "follow_sets" bR 1 11,fn "first_sets" cy 1 6,
 fn "first_of_string" bz 3 2,fn "nullable_heads" cL 1 0,fn "heads_built_from" bq 2 3,fn "merged" ja 2 2,fn "tokens_of" dH 1 4,fn "heads_of" fP 1 2]
theorem zN:(fns.map (·.name)).Nodup:=by
 show(["_law_carried","_law_bools","_law_spans","_law_letters","_law_after","_law_all","_law_words","_law_pick","trimmed","reachable_heads","productive_heads","derives","derives_from","span_tables","places_after","replayed","follow_sets","first_sets","first_of_string","nullable_heads","heads_built_from","merged","tokens_of","heads_of"]:List Str).Nodup
 decide +kernel
noncomputable def Ft(n:Nat):FTab:=tab (fns.drop n)
theorem uo{n m:Nat}{f:Str}{ds:List PV}{r:PV×Bool}(hm:m<=n)(h:Ft n f ds=some r):Ft m f ds=some r:=by
 delta Ft at h ⊢
 have e:fns.drop m=(fns.drop m).take (n - m)++fns.drop n:=by
  rw[show fns.drop n=(fns.drop m).drop (n - m)by rw[I8,Nat.add_sub_cancel' hm],GC]
 rw[e]
 refine tab_app ?_ h
 rw[<-e]
 exact(Hl▸zN.sublist (List.drop_sublist m _):((fns.drop m).map (·.name)).Nodup)
theorem Ft_at{n:Nat}{d:FnDef}(hd:fns[n]?= some d){ds:List PV}{r:PV×Bool}(h:d.g (Ft (n+1)) ds=some r):Ft n d.name ds=some r:=by
 obtain⟨hn,e⟩:=EY.mp hd
 delta Ft
 rw[GF hn,e]
 show(if d.name=d.name then d.g (tab (fns.drop (n+1))) ds else _)=some r
 rw[if_pos rfl];exact h
theorem Ft_fn{n:Nat}{name:Str}{ss:List SStmt}{k m:Nat}(hd:fns[n]?= some (fn name ss k m)){ds:List PV}{q:RV}{j:Nat}(hl:ds.length=k)(h:aexecs (Ft (n+1)) j ss (C6 m ds)=some (.ret q)){i:Nat}(hi:i<=n):Ft i name ds=some (q.d,q.f) :=
 uo hi (Ft_at hd (gOf_eq hl h))
noncomputable def Uc:List Nat:=[97,98,99,83,65,84,90,36]
structure GOk(cg:List CRule)(ks:List Nat)(h0:Nat):Prop where
 ne:∃b0 gs,cg=(h0,b0)::gs
 len:cg.length<=10
 heads:metS ((cg.map ru).map (·.1))=ks.map sg
 body:∀r∈cg,r.2.length<=2/\∀c∈r.2,c∈Uc
section
variable{cg:List CRule}{ks:List Nat}{h0:Nat}
theorem AX (g:List Rule) (hg:g.length<=az) {m:Nat} (hm:m<=23):Ft m "heads_of" [aj g]=some (ae (metS (g.map (·.1))),true):=Ft_fn (n:=23) rfl rfl (mO (Φ:=Ft 24) g hg 0) hm
theorem CH{m:Nat}(hm:m<=21):Hm (Ft m):=⟨λa b h=>Ft_fn (n:=21) rfl rfl (run_merged (Φ:=Ft 22) a b h 0) hm⟩
theorem GOk.glen(G:GOk cg ks h0):(cg.map ru).length<=10:=by rw[EN];exact G.len
theorem GOk.hds (G:GOk cg ks h0) {m:Nat} (hm:m<=23):Ft m "heads_of" [aj (cg.map ru)]=some (ae (ks.map sg),true):=by
 rw[<-G.heads]
 exact AX _ (EK G.glen (by decide)) hm
theorem GOk.bl(G:GOk cg ks h0):∀r∈cg.map ru,r.2.length<=2:=λr hr=>by
 obtain⟨q,hq,rfl⟩:=cq hr
 show(q.2.map sg).length<=2
 rw[EN];exact(G.body q hq).1
theorem GOk.bU(G:GOk cg ks h0):∀r∈cg.map ru,∀x∈r.2,x∈Uc.map sg:=λr hr x hx=>by
 obtain⟨q,hq,rfl⟩:=cq hr
 obtain⟨c,hc,rfl⟩:=cw hx
 exact mem_sgs.mpr ((G.body q hq).2 c hc)
theorem GOk.ne'(G:GOk cg ks h0):∃b0 gs,cg.map ru=(sg h0,b0)::gs:=by
 obtain⟨b0,gs,e⟩:=G.ne
 exact⟨b0.map sg,gs.map ru,by rw[e];rfl⟩
theorem rW{α β:Type}{f:α->List β}{N:Nat}:∀{l:List α},(∀x∈l,(f x).length<=N)->(l.flatMap f).length<=N*l.length:=by
 intro l0
 induction l0 with
 | nil=>exact @λθ=>Fi _
 | cons x l ih =>
  intro h
  rw[Gg,EQ,Fl,IR,FV]
  exact E8 (ih λy hy=>h y (EO _ hy)) (h x (EP ..))
theorem GOk.slen(G:GOk cg ks h0):(syms (cg.map ru)).length<=20:=by
 have:=rW (f:=λr:Rule=>r.2) (N:=2) (l:=cg.map ru) G.bl
 have h2:=G.glen
 delta syms
 lia
noncomputable def cQ(cg:List CRule)(ks:List Nat):List Str:=bv (toks (ks.map sg) (syms (cg.map ru)))
theorem mem_tokL{c:Nat}:sg c∈cQ cg ks↔c∉ks/\∃r∈cg,c∈r.2:=by
 delta cQ
 rw[mem_sortS,mem_toks,mem_sgs,and_comm]
 refine and_congr_right λθ=>?_
 delta syms
 rw[F0]
 constructor
 .rintro⟨r,hr,hc⟩
  obtain⟨q,hq,rfl⟩:=cq hr
  exact⟨q,hq,mem_sgs.mp hc⟩
 .rintro⟨q,hq,hc⟩
  exact⟨ru q,E4 hq,mem_sgs.mpr hc⟩
theorem tokL_sg{x:Str}(h:x∈cQ cg ks):∃c,x=sg c:=by
 delta cQ at h
 rw[mem_sortS,mem_toks]at h
 delta syms at h
 obtain⟨r,hr,hx⟩:=F0.mp h.1
 obtain⟨q,hq,rfl⟩:=cq hr
 obtain⟨c,hc,rfl⟩:=cw hx
 exact⟨c,rfl⟩
theorem sf:SN (cQ cg ks):=d0 (bx _)
theorem GOk.tokV (G:GOk cg ks h0) {m:Nat} (hm:m<=22):Ft m "tokens_of" [aj (cg.map ru)]=some (ae (cQ cg ks),true) :=
 Ft_fn (n:=22) rfl rfl (lB (Φ:=Ft 23) (G.hds (ER _)) (ES G.slen (by decide)) 0) hm
theorem GOk.hbf (G:GOk cg ks h0) (gv:List Str):∃l,IsBlt (cg.map ru) gv l/\∀m,m<=20->Ft m "heads_built_from" [aj (cg.map ru),ae gv]=some (ae l,true):=by
 refine cps λGq hGq=>?_
 obtain⟨l,hl,k,hk⟩:=xW (Φ:=Ft 21) (cg.map ru) gv (ES G.glen (by decide)) λr hr=>EK (G.bl r hr) (by decide)
 refine hGq ?_
 clear hGq
 exact⟨l,hl,λm hm=>Ft_fn (n:=20) rfl rfl hk hm⟩
theorem GOk.prodV (G:GOk cg ks h0):∃l,IsBlt (cg.map ru) (cQ cg ks) l/\∀m,m<=10->Ft m "productive_heads" [aj (cg.map ru)]=some (ae l,true):=by
 obtain⟨l,hl,hk⟩:=G.hbf (cQ cg ks)
 exact⟨l,hl,λm hm=>Ft_fn (n:=10) rfl rfl (kM (Φ:=Ft 11) (G.tokV (by decide)) (hk 11 (by decide)) 0) hm⟩
theorem GOk.sets(G:GOk cg ks h0):∃nl vs ws,IsNul (cg.map ru) nl/\IsFst (cg.map ru) (ks.map sg) nl vs/\IsFol (cg.map ru) (ks.map sg) nl (FF (ks.map sg) vs) (sg h0) ws /\
  (∀m,m<=19->Ft m "nullable_heads" [aj (cg.map ru)]=some (ae nl,true))/\(∀m,m<=17->Ft m "first_sets" [aj (cg.map ru)]=some (aQ (ks.map sg) vs,true))/\(∀m,m<=16->Ft m "follow_sets" [aj (cg.map ru)]=some (aQ (ks.map sg) ws,true)):=by
 obtain⟨nl,N,hn⟩:=G.hbf []
 have N:=N.nul
 have n19:∀m,m<=19->Ft m "nullable_heads" [aj (cg.map ru)]=some (ae nl,true):=λm hm=>Ft_fn (n:=19) rfl rfl (ly (Φ:=Ft 20) (hn 20 (by decide)) 0) hm
 have hU:(Uc.map sg).length<32:=by decide
 have fosV:∀m,m<=18->∀vs xs,(ks.map sg).length=vs.length->(∀l∈vs,SN l/\∀t∈l,t∈Uc.map sg)->(∀x∈xs,x∈Uc.map sg)->Ft m "first_of_string" [ae xs,aQ (ks.map sg) vs,ae nl]=some (.tup [ae (fos (ks.map sg) vs nl [] xs).1,.bool (fos (ks.map sg) vs nl [] xs).2],true) :=
  λm hm vs xs h1 h2 h3=>Ft_fn (n:=18) rfl rfl (yi (Φ:=Ft 19) (CH (by decide)) h1 hU h2 h3 0) hm
 have H:∀m,m<=18->Hg (Ft m) (cg.map ru) (ks.map sg) nl (Uc.map sg):=λm hm =>
  {merged:=(CH (EK hm (by decide))).merged,hks:=G.heads.symm,heads:=G.hds (EK hm (by decide)),nul:=n19 m (EK hm (by decide)),isNul:=N,hU:=hU,body:=G.bU,small:=ES G.glen (by decide),dollar:=by rw[dollar_sg];exact mem_sgs.mpr (by decide),fos:=fosV m hm}
 refine cps λGq hGq=>?_
 obtain⟨vs,V,vU,k6,hk6⟩:=run_first_sets (H 18 (ER _))
 have f17:∀m,m<=17->Ft m "first_sets" [aj (cg.map ru)]=some (aQ (ks.map sg) vs,true):=λm hm=>Ft_fn (n:=17) rfl rfl hk6 hm
 obtain⟨b0,gs,e0⟩:=G.ne'
 obtain⟨ws,W,wU,k7,hk7⟩:=run_follow_sets (Φ:=Ft 17) (vs:=vs) {H 17 (by decide)with first:=f17 17 (ER _),isFst:=V,vU:=vU,blen:=λr hr=>EK (G.bl r hr) (by decide)} e0
 refine hGq ?_
 clear hGq
 exact⟨nl,vs,ws,N,V,W,n19,f17,λm hm=>Ft_fn (n:=16) rfl rfl hk7 hm⟩
theorem GOk.hk(G:GOk cg ks h0):h0∈ks:=by
 obtain⟨b0,gs,e⟩:=G.ne
 have:sg h0∈metS ((cg.map ru).map (·.1)):=bW.mpr (by rw[e];exact EP ..)
 rw[G.heads]at this
 exact mem_sgs.mp this
theorem GOk.klen(G:GOk cg ks h0):ks.length<=10:=by
 have h1:=dW ((cg.map ru).map (·.1))
 rw[G.heads,EN,EN]at h1
 exact EK h1 G.glen
theorem GOk.nd(G:GOk cg ks h0):(ks.map sg).Nodup:=by rw[<-G.heads];exact bx _
theorem GOk.hdm(G:GOk cg ks h0){r:CRule}(hr:r∈cg):r.1∈ks:=by
 have:sg r.1∈metS ((cg.map ru).map (·.1)):=bW.mpr (E4 (E4 hr))
 rw[G.heads]at this
 exact mem_sgs.mp this
theorem GOk.rchV (G:GOk cg ks h0):∃l,IsRch (cg.map ru) (ks.map sg) (sg h0) l/\∀m,m<=9->Ft m "reachable_heads" [aj (cg.map ru)]=some (ae l,true):=by
 refine cps λGq hGq=>?_
 obtain⟨b0,gs,e0⟩:=G.ne'
 obtain⟨l,hl,k,hk⟩:=run_reachable (Φ:=Ft 10) e0 (G.hds (by decide)) (by rw[EN];exact ES G.klen (by decide)) (mem_sgs.mpr G.hk)
 refine hGq ?_
 clear hGq
 exact⟨l,hl,λm hm=>Ft_fn (n:=9) rfl rfl hk hm⟩
theorem GOk.repV (G:GOk cg ks h0) {l:List Int} (hl:l.length<=80) {m:Nat} (hm:m<=15):Ft m "replayed" [aj (cg.map ru),ar l]=some (AG (aD (cg.map ru) (ks.map sg) [sg h0] l),true):=by
 refine cps λGq hGq=>?_
 obtain⟨b0,gs,e0⟩:=G.ne'
 obtain⟨n,hn⟩:=nO (Φ:=Ft 16) (l:=l) e0 (G.hds (by decide)) (λr hr=>EK (G.bl r hr) (by decide)) hl
 refine hGq ?_
 clear hGq
 exact Ft_fn (n:=15) rfl rfl hn hm
theorem GOk.spV (G:GOk cg ks h0) {w:List Nat} (hw:w.length<=100):∃t,IsSpan (cg.map ru) (ks.map sg) (w.map sg) t/\∀m,m<=13->Ft m "span_tables" [aj (cg.map ru),ae (w.map sg)]=some (aI (ks.map sg) w.length t,true):=by
 obtain⟨t,S⟩:=xT (cg.map ru) (ks.map sg) (w.map sg)
 have hl:(w.map sg).length=w.length:=EN ..
 refine⟨t,S,λm hm=>uo hm ?_⟩
 have:=zL (Φ:=Ft 14) (g:=cg.map ru) (ks:=ks.map sg) (tokens:=w.map sg) (t:=t) ⟨G.hds (by decide),λt i r hr hi=>?_,λr hr=>?_,G.nd,EK G.glen (by decide),by rw[EN];exact EK G.klen (by decide),by rw[hl];exact hw,S⟩
 .rw[hl]at this
  exact Ft_at (n:=13) (d:=⟨"span_tables",wf⟩) rfl this
 .exact Ft_fn (n:=14) rfl rfl (i9 (Φ:=Ft 15) hi (by rw[hl];exact ES hw (by decide)) 0) (ER _)
 .obtain⟨q,hq,rfl⟩:=cq hr
  exact mem_sgs.mpr (G.hdm hq)
theorem GOk.derV (G:GOk cg ks h0) {w:List Nat} {t:Tab} (hw:w.length<=100) (hs:∀m,m<=13->Ft m "span_tables" [aj (cg.map ru),ae (w.map sg)]=some (aI (ks.map sg) w.length t,true)) {m:Nat} (hm:m<=11):Ft m "derives" [aj (cg.map ru),ae (w.map sg)]=some (.bool (t (sg h0) 0 w.length),true):=by
 obtain⟨b0,gs,e0⟩:=G.ne'
 have h12:Ft 12 "derives_from" [aj (cg.map ru),.str (sg h0),ae (w.map sg)]=some (.bool (t (sg h0) 0 w.length),true):=by
  refine Ft_fn (n:=12) rfl rfl (j:=0) (q:=at1 (.bool (t (sg h0) 0 w.length))) (seq_ret (ev_idx (ev_idx (ev_idx (ev_callT (rs:=[⟨aj (cg.map ru),false,true⟩,⟨ae (w.map sg),false,true⟩]) (evs_cons (ev_var rfl) (evs_cons (ev_var rfl) evs_nil)) (hs 13 (ER _))) (ev_var rfl) (idx_encTab (mem_sgs.mpr G.hk))) ai (idx_encM (i:=0) (Fi _))) (mP (xs:=w.map sg) (f:=false) (c:=true) (ev_var rfl)) ?_)) (ER _)
  rw[EN]
  exact idx_encRw (ER _)
 refine Ft_fn (n:=11) rfl rfl (j:=0) (q:=⟨.bool (t (sg h0) 0 w.length),true,true⟩) (seq_ret (ev_callT (rs:=[⟨aj (cg.map ru),false,true⟩,at1 (.str (sg h0)),⟨ae (w.map sg),false,true⟩]) (evs_cons (ev_var rfl) (evs_cons (ev_idx (r:=⟨ao (sg h0,b0),false,true⟩) (ev_idx (ev_var rfl) ai (by rw[e0];rfl)) ai rfl) (evs_cons (ev_var rfl) evs_nil))) h12)) hm
end
structure LP where
 zb:List (List Nat)
 sb:List (List Nat)
 ab:List (List Nat)
 tb:List (List Nat)
structure LP.Ok(p:LP):Prop where
 z1:∀b∈p.zb,b.length<=2/\∀c∈b,c=83\/c=84
 z2:∃b∈p.zb,83∈b
 z3:∃b∈p.zb,84∈b
 z4:∀b∈p.zb,84∉b->83∈b
 zn:p.zb.length<=2
 s1:∀b∈p.sb,b.length<=2/\∀c∈b,c=97\/c=98\/c=65
 sn:p.sb.length=2
 a1:∀b∈p.ab,b.length<=1/\∀c∈b,c=97\/c=98
 an:p.ab.length=2
 t1:∀b∈p.tb,b=[84]\/(b.length<=1/\∀c∈b,c=98\/c=99)
 tn:p.tb.length=2
noncomputable def k0(c:Nat):List (List Nat):=[[c]]
namespace LP
variable(p:LP)
noncomputable def la:List (List Nat):=allW (kn [] []) p.ab
noncomputable def tb':List (List Nat):=p.tb.filter λb=>!decide (b=[84])
noncomputable def lt0:List (List Nat):=allW (kn [] []) p.tb'
noncomputable def dead:Bool:=p.lt0.isEmpty
noncomputable def lt:List (List Nat):=if p.dead then [[33]]else p.lt0
noncomputable def ls:List (List Nat):=allW (kn [65] [p.la]) p.sb
noncomputable def lz:List (List Nat):=allW (kn [65,83,84] [p.la,p.ls,p.lt]) p.zb
noncomputable def K(c:Nat):List (List Nat):=if c=65 then p.la else if c=83 then p.ls else if c=84 then p.lt else if c=90 then p.lz else [[c]]
noncomputable def rs(h:Nat)(bs:List (List Nat)):List CRule:=bs.map λb=>(h,b)
noncomputable def cgG:List CRule:=rs 83 p.sb++rs 65 p.ab
noncomputable def cgH:List CRule:=rs 84 p.tb
noncomputable def cgJ:List CRule:=(rs 90 (p.zb.take 1)++p.cgG)++(rs 90 (p.zb.drop 1)++p.cgH)
noncomputable def bs:List (List Nat):=aftW (kn [65,83,84] [p.la,p.ls,p.lt]) 83 p.zb [[36]]
noncomputable def bt:List (List Nat):=aftW (kn [65,83,84] [p.la,p.ls,p.lt]) 84 p.zb [[36]]
noncomputable def ba:List (List Nat):=aftW (kn [65,83,84] [p.la,p.ls,p.lt]) 65 p.sb p.bs
noncomputable def al:List (List Nat):=aftW (kn [65,83,84] [p.la,p.ls,p.lt]) 65 p.sb [[36]]
end LP
theorem jg{k k':Nat->List (List Nat)}:∀{b:List Nat},(∀c∈b,k c=k' c)->words k b=words k' b:=by
 have key:∀(b:List Nat) (out:List (List Nat)),(∀c∈b,k c=k' c)->wordsF k out b=wordsF k' out b:=by
  intro b
  induction b with
  | nil=>exact λθ θ=>rfl
  | cons c b ih =>
   intro out h
   show wordsF k (glue out (k c)) b=wordsF k' (glue out (k' c)) b
   rw[h c (EP ..)]
   exact ih _ λd hd=>h d (EO _ hd)
 exact λ{b} h=>key b _ h
theorem eV{k k':Nat->List (List Nat)}{bs:List (List Nat)}(h:∀b∈bs,∀c∈b,k c=k' c):allW k bs=allW k' bs:=by
 delta allW
 induction bs with
 | nil=>rfl
 | cons b bs ih=>rw[Gg,Gg,jg (h b (EP ..)),ih λb hb=>h b (EO _ hb)]
theorem bc{k:Nat->List (List Nat)}{bs:List (List Nat)}{w:List Nat}:w∈allW k bs↔∃b∈bs,w∈words k b:=F0
theorem mem_aftW{k:Nat->List (List Nat)}{h:Nat}{bs ends:List (List Nat)}{u:List Nat}:u∈aftW k h bs ends↔∃b∈bs,∃i,b[i]?= some h/\∃x∈words k (b.drop (i+1)),∃y∈ends,u=x++y:=by
 delta aftW
 rw[F0]
 refine exists_congr λb=>and_congr_right λθ=>?_
 rw[F0]
 constructor
 .rintro⟨i,_,h⟩
  split at h
  .rename_i hi;exact⟨i,hi,mem_glue.mp h⟩
  .cases h
 .rintro⟨i,hi,h⟩
  refine⟨i,FL.mpr (EY.mp hi).1,?_⟩
  rw[if_pos hi]
  exact mem_glue.mpr h
theorem aftW_congr{k k':Nat->List (List Nat)}{h:Nat}{bs ends:List (List Nat)}(hk:∀b∈bs,∀c∈b,k c=k' c):aftW k h bs ends=aftW k' h bs ends:=by
 delta aftW
 induction bs with
 | nil=>rfl
 | cons b bs ih =>
  have e:((Fd b.length).flatMap λi=>if b[i]?= some h then glue (words k (b.drop (i+1))) ends else [])=((Fd b.length).flatMap λi=>if b[i]?= some h then glue (words k' (b.drop (i+1))) ends else []):=by
   congr 1
   funext i
   rw[jg (k:=k) (k':=k') (b:=b.drop (i+1)) λc hc=>hk b (EP ..) c (FU hc)]
  rw[Gg,Gg,e,ih λb hb=>hk b (EO _ hb)]
theorem look_sgs{ks:List Nat}{vs:List (List (List Nat))}{c d:Nat}{v:List (List Nat)}:aT ((d::ks).map sg) (v::vs) (sg c)=if c=d then some v else aT (ks.map sg) vs (sg c):=by
 rw[Fp,look_cons]
 by_cases e:c=d
 .rw[if_pos e,if_pos (congrArg sg e.symm)]
 .rw[if_neg e,if_neg (λq=>e (sg_inj q).symm)]
theorem kn_cons{ks:List Nat}{vs:List (List (List Nat))}{c d:Nat}{v:List (List Nat)}:kn (d::ks) (v::vs) c=if c=d then v else kn ks vs c:=by
 delta kn
 rw[look_sgs]
 split<;>rfl
section
variable{p:LP}
theorem mem_rs{h:Nat}{bs:List (List Nat)}{r:CRule}:r∈LP.rs h bs↔r.1=h/\r.2∈bs:=by
 delta LP.rs
 rw[E9]
 constructor
 .rintro⟨b,hb,rfl⟩;exact⟨rfl,hb⟩
 .rintro⟨rfl,hb⟩;exact⟨r.2,hb,rfl⟩
theorem mem_cgG{r:CRule}:r∈p.cgG↔(r.1=83/\r.2∈p.sb)\/(r.1=65/\r.2∈p.ab):=by delta LP.cgG;rw[E0,mem_rs,mem_rs]
theorem mem_cgH{r:CRule}:r∈p.cgH↔r.1=84/\r.2∈p.tb:=mem_rs
theorem mem_cgJ{r:CRule}:r∈p.cgJ↔(r.1=90/\r.2∈p.zb)\/r∈p.cgG\/r∈p.cgH:=by
 delta LP.cgJ
 rw[E0,E0,E0,mem_rs,mem_rs]
 have:r.2∈p.zb↔r.2∈p.zb.take 1\/r.2∈p.zb.drop 1:=by rw[<-E0,GC]
 rw[this]
 constructor
 .rintro((h | h) | (h | h))
  .exact .inl ⟨h.1,.inl h.2⟩
  .exact .inr (.inl h)
  .exact .inl ⟨h.1,.inr h.2⟩
  .exact .inr (.inr h)
 .rintro(⟨h,h1 | h1⟩ | h | h)
  .exact .inl (.inl ⟨h,h1⟩)
  .exact .inr (.inl ⟨h,h1⟩)
  .exact .inl (.inr h)
  .exact .inr (.inr h)
theorem KA:p.K 65=p.la:=rfl
theorem KS:p.K 83=p.ls:=rfl
theorem KT:p.K 84=p.lt:=rfl
theorem KZ:p.K 90=p.lz:=rfl
theorem K3{c:Nat}(h:c≠90):kn [65,83,84] [p.la,p.ls,p.lt] c=p.K c:=by
 rw[kn_cons,kn_cons,kn_cons]
 delta LP.K
 rw[if_neg h];rfl
theorem K1{c:Nat}(h:c≠83/\c≠84/\c≠90):kn [65] [p.la] c=p.K c:=by
 rw[kn_cons]
 delta LP.K
 rw[if_neg h.1,if_neg h.2.1,if_neg h.2.2];rfl
theorem LP.Ok.sne(o:p.Ok):p.sb≠[]:=λe=>by have:=o.sn;rw[e]at this;cases this
theorem LP.Ok.ane(o:p.Ok):p.ab≠[]:=λe=>by have:=o.an;rw[e]at this;cases this
theorem LP.Ok.tne(o:p.Ok):p.tb≠[]:=λe=>by have:=o.tn;rw[e]at this;cases this
theorem LP.Ok.zne(o:p.Ok):p.zb≠[]:=λe=>by obtain⟨b,hb,_⟩:=o.z2;rw[e]at hb;cases hb
theorem la_eq(o:p.Ok):p.la=allW p.K p.ab:=eV λb hb c hc=>by
 rcases(o.a1 b hb).2 c hc with rfl | rfl<;>rfl
theorem sB(o:p.Ok):p.ls=allW p.K p.sb:=eV λb hb c hc=>K1 (by
 rcases(o.s1 b hb).2 c hc with rfl | rfl | rfl<;>decide)
theorem u8(o:p.Ok):p.lz=allW p.K p.zb:=eV λb hb c hc=>K3 (by
 rcases(o.z1 b hb).2 c hc with rfl | rfl<;>decide)
theorem iB{b:List Nat}:b∈p.tb'↔b∈p.tb/\b≠[84]:=by delta LP.tb';rw[Fh];simp
theorem vA(o:p.Ok):p.lt0=allW p.K p.tb':=eV λb hb c hc=>by
 obtain⟨h1,h2⟩:=iB.mp hb
 rcases((o.t1 b h1).resolve_left h2).2 c hc with rfl | rfl<;>rfl
theorem bs_eq(o:p.Ok):p.bs=aftW p.K 83 p.zb [[36]]:=aftW_congr λb hb c hc=>K3 (by rcases(o.z1 b hb).2 c hc with rfl | rfl<;>decide)
theorem bt_eq(o:p.Ok):p.bt=aftW p.K 84 p.zb [[36]]:=aftW_congr λb hb c hc=>K3 (by rcases(o.z1 b hb).2 c hc with rfl | rfl<;>decide)
theorem ba_eq(o:p.Ok):p.ba=aftW p.K 65 p.sb p.bs:=aftW_congr λb hb c hc=>K3 (by rcases(o.s1 b hb).2 c hc with rfl | rfl | rfl<;>decide)
theorem al_eq(o:p.Ok):p.al=aftW p.K 65 p.sb [[36]]:=aftW_congr λb hb c hc=>K3 (by rcases(o.s1 b hb).2 c hc with rfl | rfl | rfl<;>decide)
theorem m0{k:Nat->List (List Nat)}{bs:List (List Nat)}(hn:bs≠[])(h:∀b∈bs,∀c∈b,k c≠[]):allW k bs≠[]:=by
 obtain⟨b,hb⟩:=FA _ hn
 obtain⟨w,hw⟩:=lr (h b hb)
 exact Hr (bc.mpr ⟨b,hb,hw⟩)
theorem y9(o:p.Ok):p.la≠[]:=by
 rw[la_eq o]
 exact m0 o.ane λb hb c hc=>by rcases(o.a1 b hb).2 c hc with rfl | rfl<;>exact FQ _ _
theorem Bn(o:p.Ok):p.ls≠[]:=by
 rw[sB o]
 refine m0 o.sne λb hb c hc=>?_
 rcases(o.s1 b hb).2 c hc with rfl | rfl | rfl
 .exact FQ _ _
 .exact FQ _ _
 .exact y9 o
theorem zp:p.lt≠[]:=by
 delta LP.lt
 cases h:p.dead with
 | true=>exact FQ _ _
 | false =>
  intro e
  delta LP.dead at h
  have e:p.lt0=[]:=e
  rw[e]at h;cases h
theorem dead_iff(o:p.Ok):p.dead=true↔∀b∈p.tb,b=[84]:=by
 delta LP.dead
 rw[List.isEmpty_iff]
 constructor
 .intro e b hb
  refine FO λhn=>?_
  have hm:=iB.mpr ⟨hb,hn⟩
  refine m0 (k:=p.K) (bs:=p.tb') (Hr hm) ?_ (by rw[<-vA o];exact e)
  intro b hb c hc
  obtain⟨h1,h2⟩:=iB.mp hb
  rcases((o.t1 b h1).resolve_left h2).2 c hc with rfl | rfl<;>exact FQ _ _
 .intro h
  have:p.tb'=[]:=Hw.mpr λb hb=>by rw[h b hb];decide
  delta LP.lt0
  rw[this];rfl
theorem lt_mem(o:p.Ok){w:List Nat}:w∈p.lt↔(p.dead=true/\w=[33])\/∃b∈p.tb,b≠[84]/\w∈words p.K b:=by
 have h0:w∈p.lt0↔∃b∈p.tb,b≠[84]/\w∈words p.K b:=by
  rw[vA o,bc]
  exact exists_congr λb=>by rw[iB,and_assoc]
 delta LP.lt
 cases h:p.dead with
 | true =>
  rw[if_pos rfl,EM]
  refine⟨λe=>.inl ⟨rfl,e⟩,λq=>q.elim (·.2) λh'=>by obtain⟨b,hb,hn,_⟩:=h';exact absurd ((dead_iff o).mp h b hb) hn⟩
 | false =>
  rw[if_neg (by decide),h0]
  exact⟨.inr,λq=>q.resolve_left λz=>nomatch z.1⟩
noncomputable def Cs(c:Nat):Nat:=if c=90 then 2 else if c=83 then 1 else 0
noncomputable def ksJ:List Nat:=[90,83,65,84]
theorem CR(o:p.Ok){c:Nat}(h:c≠90):p.K c≠[]:=by
 delta LP.K
 rw[if_neg h]
 split
 .exact y9 o
 .split
  .exact Bn o
  .split
   .exact zp
   .exact FQ _ _
theorem wT{w:List Nat}(h:w∈words p.K [84]):w∈p.lt:=by
 obtain⟨x,hx,y,hy,rfl⟩:=mem_words_cons.mp h
 rw[words_nil]at hy
 rw[EM.mp hy,Fb];exact hx
theorem lngJ(o:p.Ok):Lng p.cgJ ksJ p.K Cs where
 hd:=λr hr=>by
  rcases mem_cgJ.mp hr with h | h | h
  .rw[h.1];decide
  .rcases mem_cgG.mp h with h | h<;>rw[h.1]<;>decide
  .rw[(mem_cgH.mp h).1];decide
 tok:=λr hr c hc hk=>by
  have key:c=97\/c=98\/c=99:=by
   rcases mem_cgJ.mp hr with h | h | h
   .rcases(o.z1 _ h.2).2 c hc with rfl | rfl<;>exact absurd (by decide) hk
   .rcases mem_cgG.mp h with h | h
    .rcases(o.s1 _ h.2).2 c hc with e | e | rfl
     .exact .inl e
     .exact .inr (.inl e)
     .exact absurd (by decide) hk
    .exact(o.a1 _ h.2).2 c hc |>.imp id .inl
   .rcases o.t1 _ (mem_cgH.mp h).2 with e | e
    .rw[e]at hc
     rw[EM.mp hc]at hk
     exact absurd (by decide) hk
    .exact .inr (e.2 c hc)
  rcases key with rfl | rfl | rfl<;>exact⟨rfl,by decide⟩
 closed:=λr hr w hw=>by
  rcases mem_cgJ.mp hr with h | h | h
  .rw[h.1,KZ,u8 o];exact bc.mpr ⟨_,h.2,hw⟩
  .rcases mem_cgG.mp h with h | h
   .rw[h.1,KS,sB o];exact bc.mpr ⟨_,h.2,hw⟩
   .rw[h.1,KA,la_eq o];exact bc.mpr ⟨_,h.2,hw⟩
  .obtain⟨h1,h2⟩:=mem_cgH.mp h
   rw[h1,KT]
   by_cases e:r.2=[84]
   .rw[e]at hw;exact wT hw
   .exact(lt_mem o).mpr (.inr ⟨_,h2,e,hw⟩)
 found:=λX hX w hw hn=>by
  have hX:X=90\/X=83\/X=65\/X=84:=by simpa [ksJ]using hX
  rcases hX with rfl | rfl | rfl | rfl
  .rw[KZ,u8 o]at hw
   obtain⟨b,hb,hbw⟩:=bc.mp hw
   exact⟨(90,b),mem_cgJ.mpr (.inl ⟨rfl,hb⟩),rfl,hbw,λc hc θ=>by rcases(o.z1 b hb).2 c hc with rfl | rfl<;>decide⟩
  .rw[KS,sB o]at hw
   obtain⟨b,hb,hbw⟩:=bc.mp hw
   refine⟨(83,b),mem_cgJ.mpr (.inr (.inl (mem_cgG.mpr (.inl ⟨rfl,hb⟩)))),rfl,hbw,λc hc θ=>by rcases(o.s1 b hb).2 c hc with rfl | rfl | rfl<;>decide⟩
  .rw[KA,la_eq o]at hw
   obtain⟨b,hb,hbw⟩:=bc.mp hw
   refine⟨(65,b),mem_cgJ.mpr (.inr (.inl (mem_cgG.mpr (.inr ⟨rfl,hb⟩)))),rfl,hbw,λc hc hk=>?_⟩
   rcases(o.a1 b hb).2 c hc with rfl | rfl<;>exact absurd hk (by decide)
  .rw[KT]at hw
   rcases(lt_mem o).mp hw with h | ⟨b,hb,hbn,hbw⟩
   .exact absurd h.2 hn
   .refine⟨(84,b),mem_cgJ.mpr (.inr (.inr (mem_cgH.mpr ⟨rfl,hb⟩))),rfl,hbw,λc hc hk=>?_⟩
    rcases((o.t1 b hb).resolve_left hbn).2 c hc with rfl | rfl<;>exact absurd hk (by decide)
 ne:=λr hr c hc=>CR o (by
  rcases mem_cgJ.mp hr with h | h | h
  .rcases(o.z1 _ h.2).2 c hc with rfl | rfl<;>decide
  .rcases mem_cgG.mp h with h | h
   .rcases(o.s1 _ h.2).2 c hc with rfl | rfl | rfl<;>decide
   .rcases(o.a1 _ h.2).2 c hc with rfl | rfl<;>decide
  .rcases o.t1 _ (mem_cgH.mp h).2 with e | e
   .rw[e]at hc;rw[EM.mp hc];decide
   .rcases e.2 c hc with rfl | rfl<;>decide)
theorem lng_part{cg cg':List CRule}{ks ks':List Nat}{k:Nat->List (List Nat)}{rk:Nat->Nat}(L:Lng cg ks k rk)(hs:∀r∈cg',r∈cg)(hk:∀c∈ks',c∈ks)(h1:∀r∈cg',r.1∈ks')(h2:∀r∈cg,r.1∈ks'->r∈cg')(h3:∀r∈cg',∀c∈r.2,c∈ks->c∈ks'):Lng cg' ks' k rk where
 hd:=h1
 tok:=λr hr c hc hn=>L.tok r (hs r hr) c hc λhm=>hn (h3 r hr c hc hm)
 closed:=λr hr=>L.closed r (hs r hr)
 found:=λX hX w hw hn=>by
  refine cps λGq hGq=>?_
  obtain⟨r,hr,e,h4,h5⟩:=L.found X (hk X hX) w hw hn
  refine hGq ?_
  clear hGq
  exact⟨r,h2 r hr (e▸hX),e,h4,λc hc hck=>h5 c hc (hk c hck)⟩
 ne:=λr hr=>L.ne r (hs r hr)
theorem xM(o:p.Ok):Lng p.cgG [83,65] p.K Cs:=by
 refine lng_part (lngJ o) (λr hr=>mem_cgJ.mpr (.inr (.inl hr))) (by decide) (λr hr=>?_) (λr hr hk=>?_) (λr hr c hc hk=>?_)
 .rcases mem_cgG.mp hr with h | h<;>rw[h.1]<;>decide
 .rcases mem_cgJ.mp hr with h | h | h
  .rw[h.1]at hk;exact absurd hk (by decide)
  .exact h
  .rw[(mem_cgH.mp h).1]at hk;exact absurd hk (by decide)
 .rcases mem_cgG.mp hr with h | h
  .rcases(o.s1 _ h.2).2 c hc with rfl | rfl | rfl
   .exact absurd hk (by decide)
   .exact absurd hk (by decide)
   .decide
  .rcases(o.a1 _ h.2).2 c hc with rfl | rfl<;>exact absurd hk (by decide)
theorem lngH(o:p.Ok):Lng p.cgH [84] p.K Cs:=by
 refine lng_part (lngJ o) (λr hr=>mem_cgJ.mpr (.inr (.inr hr))) (by decide) (λr hr=>?_) (λr hr hk=>?_) (λr hr c hc hk=>?_)
 .rw[(mem_cgH.mp hr).1];decide
 .rcases mem_cgJ.mp hr with h | h | h
  .rw[h.1]at hk;exact absurd hk (by decide)
  .rcases mem_cgG.mp h with h | h<;>rw[h.1]at hk<;>exact absurd hk (by decide)
  .exact h
 .rcases o.t1 _ (mem_cgH.mp hr).2 with e | e
  .rw[e]at hc;exact hc
  .rcases e.2 c hc with rfl | rfl<;>exact absurd hk (by decide)
noncomputable def afJ(p:LP)(c:Nat):List (List Nat):=if c=90 then [[36]]else if c=83 then p.bs else if c=84 then p.bt else if c=65 then p.ba else []
noncomputable def AH(c:Nat):Nat:=if c=90 then 0 else if c=65 then 2 else 1
theorem rS{k:Nat->List (List Nat)}{h:Nat}{bs ends:List (List Nat)}(h1:∃b∈bs,h∈b)(h2:∀b∈bs,∀c∈b,k c≠[])(h3:ends≠[]):aftW k h bs ends≠[]:=by
 refine cps λGq hGq=>?_
 obtain⟨b,hb,hh⟩:=h1
 obtain⟨i,hi,e⟩:=Hj hh
 obtain⟨x,hx⟩:=lr (k:=k) (b:=b.drop (i+1)) λc hc=>h2 b hb c (FU hc)
 obtain⟨y,hy⟩:=FA _ h3
 refine hGq ?_
 clear hGq
 exact Hr (mem_aftW.mpr ⟨b,hb,i,(EW hi).trans (congrArg some e),x,hx,y,hy,rfl⟩)
theorem zne(o:p.Ok):∀b∈p.zb,∀c∈b,p.K c≠[]:=λb hb c hc=>CR o (by rcases(o.z1 b hb).2 c hc with rfl | rfl<;>decide)
theorem CA(o:p.Ok):Aft p.cgJ ksJ p.K 90 (afJ p) AH where
 start:=by show [36]∈[[36]];simp
 closed:=λr hr i c hi hk x hx y hy=>by
  have hc:=Fa hi
  rcases mem_cgJ.mp hr with h | h | h
  .rw[h.1]at hy
   rcases(o.z1 _ h.2).2 c hc with rfl | rfl
   .show _∈p.bs;rw[bs_eq o];exact mem_aftW.mpr ⟨_,h.2,i,hi,x,hx,y,hy,rfl⟩
   .show _∈p.bt;rw[bt_eq o];exact mem_aftW.mpr ⟨_,h.2,i,hi,x,hx,y,hy,rfl⟩
  .rcases mem_cgG.mp h with h | h
   .rw[h.1]at hy
    rcases(o.s1 _ h.2).2 c hc with rfl | rfl | rfl
    .exact absurd hk (by decide)
    .exact absurd hk (by decide)
    .show _∈p.ba;rw[ba_eq o];exact mem_aftW.mpr ⟨_,h.2,i,hi,x,hx,y,hy,rfl⟩
   .rcases(o.a1 _ h.2).2 c hc with rfl | rfl<;>exact absurd hk (by decide)
  .obtain⟨h1,h2⟩:=mem_cgH.mp h
   rcases o.t1 _ h2 with e | e
   .rw[e]at hi hx
    have hil:=(EY.mp hi).1
    have i0:i=0:=Nat.lt_one_iff.mp hil
    subst i0
    have hcc:c=84:=(ET hi).symm
    rw[show([84]:List Nat).drop (0+1)=[] from rfl,words_nil]at hx
    rw[EM.mp hx,hcc]
    rw[h1]at hy
    exact hy
   .rcases e.2 c hc with rfl | rfl<;>exact absurd hk (by decide)
 found:=λc hc u hu=>by
  have hX:c=90\/c=83\/c=65\/c=84:=by simpa [ksJ]using hc
  rcases hX with rfl | rfl | rfl | rfl
  .exact .inl ⟨rfl,EM.mp hu⟩
  .have hu:u∈p.bs:=hu
   rw[bs_eq o]at hu
   refine cps λGq hGq=>?_
   obtain⟨b,hb,i,hi,x,hx,y,hy,e⟩:=mem_aftW.mp hu
   refine hGq ?_
   clear hGq
   exact .inr ⟨(90,b),mem_cgJ.mpr (.inl ⟨rfl,hb⟩),i,hi,(by show AH 90<1;decide),x,hx,y,hy,e⟩
  .have hu:u∈p.ba:=hu
   rw[ba_eq o]at hu
   refine cps λGq hGq=>?_
   obtain⟨b,hb,i,hi,x,hx,y,hy,e⟩:=mem_aftW.mp hu
   refine hGq ?_
   clear hGq
   exact .inr ⟨(83,b),mem_cgJ.mpr (.inr (.inl (mem_cgG.mpr (.inl ⟨rfl,hb⟩)))),i,hi,(by show AH 83<2;decide),x,hx,y,hy,e⟩
  .have hu:u∈p.bt:=hu
   rw[bt_eq o]at hu
   refine cps λGq hGq=>?_
   obtain⟨b,hb,i,hi,x,hx,y,hy,e⟩:=mem_aftW.mp hu
   refine hGq ?_
   clear hGq
   exact .inr ⟨(90,b),mem_cgJ.mpr (.inl ⟨rfl,hb⟩),i,hi,(by show AH 90<1;decide),x,hx,y,hy,e⟩
 ne:=λr hr hx=>by
  rcases mem_cgJ.mp hr with h | h | h
  .rw[h.1];exact FQ _ _
  .rcases mem_cgG.mp h with h' | h'
   .rw[h'.1];show p.bs≠[];rw[bs_eq o];exact rS o.z2 (zne o) (FQ _ _)
   .obtain⟨c,hc,hk⟩:=hx
    rcases(o.a1 _ h'.2).2 c hc with rfl | rfl<;>exact absurd hk (by decide)
  .rw[(mem_cgH.mp h).1];show p.bt≠[];rw[bt_eq o];exact rS o.z3 (zne o) (FQ _ _)
noncomputable def CS(p:LP)(c:Nat):List (List Nat):=if c=83 then [[36]]else if c=65 then p.al else []
theorem B4(o:p.Ok):Aft p.cgG [83,65] p.K 83 (CS p) AH where
 start:=by show [36]∈[[36]];simp
 closed:=λr hr i c hi hk x hx y hy=>by
  have hc:=Fa hi
  rcases mem_cgG.mp hr with h | h
  .rw[h.1]at hy
   rcases(o.s1 _ h.2).2 c hc with rfl | rfl | rfl
   .exact absurd hk (by decide)
   .exact absurd hk (by decide)
   .show _∈p.al;rw[al_eq o];exact mem_aftW.mpr ⟨_,h.2,i,hi,x,hx,y,hy,rfl⟩
  .rcases(o.a1 _ h.2).2 c hc with rfl | rfl<;>exact absurd hk (by decide)
 found:=λc hc u hu=>by
  have hX:c=83\/c=65:=by simpa using hc
  rcases hX with rfl | rfl
  .exact .inl ⟨rfl,EM.mp hu⟩
  .have hu:u∈p.al:=hu
   rw[al_eq o]at hu
   refine cps λGq hGq=>?_
   obtain⟨b,hb,i,hi,x,hx,y,hy,e⟩:=mem_aftW.mp hu
   refine hGq ?_
   clear hGq
   exact .inr ⟨(83,b),mem_cgG.mpr (.inl ⟨rfl,hb⟩),i,hi,(by show AH 83<2;decide),x,hx,y,hy,e⟩
 ne:=λr hr hx=>by
  rcases mem_cgG.mp hr with h' | h'
  .rw[h'.1];exact FQ _ _
  .obtain⟨c,hc,hk⟩:=hx
   rcases(o.a1 _ h'.2).2 c hc with rfl | rfl<;>exact absurd hk (by decide)
end
theorem iM{α:Type}{l:List α}(h:l.length=2):∃a b,l=[a,b]:=by
 cases l with
 | nil=>cases h
 | cons a l=>obtain⟨b,e⟩:=List.length_eq_one_iff.mp (GY h);exact⟨a,b,congrArg _ e⟩
theorem ye{α:Type}{l:List α}(h:l≠[])(h2:l.length<=2):∃a,l=[a]\/∃b,l=[a,b]:=by
 cases l with
 | nil=>exact absurd rfl h
 | cons a l =>
  refine⟨a,?_⟩
  cases l with
  | nil=>exact .inl rfl
  | cons b l=>cases List.eq_nil_of_length_eq_zero (IG.mp (GX (GX h2)));exact .inr ⟨b,rfl⟩
section
variable{p:LP}
theorem oQ(o:p.Ok){r:CRule}(h:r∈p.cgJ):r.2.length<=2/\∀c∈r.2,c∈Uc:=by
 rcases mem_cgJ.mp h with h | h | h
 .exact⟨(o.z1 _ h.2).1,λc hc=>by rcases(o.z1 _ h.2).2 c hc with rfl | rfl<;>decide⟩
 .rcases mem_cgG.mp h with h | h
  .exact⟨(o.s1 _ h.2).1,λc hc=>by rcases(o.s1 _ h.2).2 c hc with rfl | rfl | rfl<;>decide⟩
  .exact⟨EK (o.a1 _ h.2).1 (by decide),λc hc=>by rcases(o.a1 _ h.2).2 c hc with rfl | rfl<;>decide⟩
 .rcases o.t1 _ (mem_cgH.mp h).2 with e | e
  .rw[e];decide
  .exact⟨EK e.1 (by decide),λc hc=>by rcases e.2 c hc with rfl | rfl<;>decide⟩
theorem GJ(o:p.Ok):GOk p.cgJ ksJ 90:=by
 refine cps λGq hGq=>?_
 obtain⟨s1,s2,es⟩:=iM o.sn
 obtain⟨a1,a2,ea⟩:=iM o.an
 obtain⟨t1,t2,et⟩:=iM o.tn
 refine hGq ?_
 clear hGq
 have hb:=λr=>oQ o (r:=r)
 obtain⟨z,e | ⟨z',e⟩⟩:=ye o.zne o.zn
 .have ej:p.cgJ=[(90,z),(83,s1),(83,s2),(65,a1),(65,a2),(84,t1),(84,t2)]:=by delta LP.cgJ LP.cgG LP.cgH LP.rs;rw[e,es,ea,et];rfl
  refine⟨⟨z,_,ej⟩,by rw[ej];simp,?_,λr hr=>hb r hr⟩
  rw[ej]
  show metS [sg 90,sg 83,sg 83,sg 65,sg 65,sg 84,sg 84]=ksJ.map sg
  decide +kernel
 .have ej:p.cgJ=[(90,z),(83,s1),(83,s2),(65,a1),(65,a2),(90,z'),(84,t1),(84,t2)]:=by delta LP.cgJ LP.cgG LP.cgH LP.rs;rw[e,es,ea,et];rfl
  refine⟨⟨z,_,ej⟩,by rw[ej];simp,?_,λr hr=>hb r hr⟩
  rw[ej]
  show metS [sg 90,sg 83,sg 83,sg 65,sg 65,sg 90,sg 84,sg 84]=ksJ.map sg
  decide +kernel
theorem GG(o:p.Ok):GOk p.cgG [83,65] 83:=by
 refine cps λGq hGq=>?_
 obtain⟨s1,s2,es⟩:=iM o.sn
 obtain⟨a1,a2,ea⟩:=iM o.an
 refine hGq ?_
 clear hGq
 have hb:=λr h=>oQ o (r:=r) (mem_cgJ.mpr (.inr (.inl h)))
 have ej:p.cgG=[(83,s1),(83,s2),(65,a1),(65,a2)]:=by delta LP.cgG LP.rs;rw[es,ea];rfl
 refine⟨⟨s1,_,ej⟩,by rw[ej];simp,?_,hb⟩
 rw[ej]
 show metS [sg 83,sg 83,sg 65,sg 65]=[83,65].map sg
 decide +kernel
theorem GH(o:p.Ok):GOk p.cgH [84] 84:=by
 obtain⟨t1,t2,et⟩:=iM o.tn
 have hb:=λr h=>oQ o (r:=r) (mem_cgJ.mpr (.inr (.inr h)))
 have ej:p.cgH=[(84,t1),(84,t2)]:=by delta LP.cgH LP.rs;rw[et];rfl
 refine⟨⟨t1,_,ej⟩,by rw[ej];simp,?_,hb⟩
 rw[ej]
 show metS [sg 84,sg 84]=[84].map sg
 decide +kernel
theorem SN.filt{l:List Str}{hs:List Nat}{P:Nat->Bool}(h:SN l)(hS:SN (hs.map sg))(h1:∀x∈l,x∈hs.map sg)(h2:∀c∈hs,(sg c∈l↔P c=true)):l=(hs.filter P).map sg:=by
 refine h.ext ⟨?_,?_⟩ λx=>?_
 .exact hS.1.sublist (IX _ IL)
 .exact hS.2.sublist (IX _ IL)
 .rw[E9]
  constructor
  .intro hx
   obtain⟨c,hc,rfl⟩:=E9.mp (h1 x hx)
   exact⟨c,Fh.mpr ⟨hc,(h2 c hc).mp hx⟩,rfl⟩
  .rintro⟨c,hc,rfl⟩
   obtain⟨hc1,hc2⟩:=Fh.mp hc
   exact(h2 c hc1).mpr hc2
noncomputable def hsJ:List Nat:=[65,83,84,90]
theorem Br{l:List Str}(h:l.Nodup)(h2:bv l=l):SN l:=⟨h,h2▸fj l⟩
theorem qR:SN (hsJ.map sg):=Br (by decide +kernel) (by decide +kernel)
theorem s3{ks:List Str}{vs:List (List Str)}{f:Str->List Str}:ks.Nodup->ks.length=vs.length->(∀k∈ks,aT ks vs k=some (f k))->vs=ks.map f:=by
 induction ks generalizing vs with
 | nil=>intro _ hl _;cases vs with
  | nil=>rfl
  | cons=>cases hl
 | cons k ks ih =>
  intro hn hl h
  cases vs with
  | nil=>cases hl
  | cons v vs =>
   rw[GK]at hn
   have h0:=h k (EP ..)
   rw[look_cons,if_pos rfl]at h0
   rw[Fp,<-ET h0,<-ih hn.2 (by simpa using hl) λk' hk'=>?_]at ⊢
   have:=h k' (EO _ hk')
   rw[look_cons,if_neg (λe:k=k'=>hn.1 (e▸hk'))]at this
   exact this
theorem vals_eq{ks:List Nat}{vs:List (List Str)}{F:Nat->List (List Nat)}(hn:(ks.map sg).Nodup)(hl:(ks.map sg).length=vs.length)(hs:∀l∈vs,SN l)(h:∀X∈ks,∀t,FF (ks.map sg) vs (sg X) t↔∃c w,c::w∈F X/\c≠33/\t=sg c):vs=ks.map λX=>aK (F X):=by
 have e:vs=(ks.map sg).map λx=>(aT (ks.map sg) vs x).getD []:=s3 hn hl λx hx=>by
  obtain⟨v,hv⟩:=cm (Fm hl) hx
  rw[hv];rfl
 rw[Fe]at e
 rw[e]
 refine F8 λX hX=>?_
 obtain⟨v,hv⟩:=cm (Fm hl) (mem_sgs.mpr hX)
 show(aT (ks.map sg) vs (sg X)).getD []=_
 rw[hv]
 refine(hs v (look_mem hv).2).ext (rn _) λt=>?_
 rw[pW,<-h X hX t]
 delta FF
 rw[hv]
 exact⟨λh=>⟨v,rfl,h⟩,λh=>by obtain⟨l,e,h⟩:=h;cases e;exact h⟩
theorem xk{g:List Rule}{nl:List Str}{ks:List Str}(N:IsNul g nl)(h:∀r∈g,r.1∈ks):∀x∈nl,x∈ks:=N.least (·∈ks) λr hr θ=>h r hr
theorem n5{g:List Rule}{gv nl:List Str}{ks:List Str}(N:IsBlt g gv nl)(h:∀r∈g,r.1∈ks):∀x∈nl,x∈ks:=N.least (·∈ks) λr hr θ=>h r hr
theorem CV(o:p.Ok):∀r∈p.cgJ.map ru,r.1∈hsJ.map sg:=λr hr=>by
 obtain⟨q,hq,rfl⟩:=cq hr
 have:=(GJ o).hdm hq
 refine mem_sgs.mpr ?_
 have hX:q.1=90\/q.1=83\/q.1=65\/q.1=84:=by simpa [ksJ]using this
 rcases hX with e | e | e | e<;>rw[e]<;>decide
theorem vR{c:Nat}(h:c∈hsJ):c∈ksJ:=by
 have hX:c=65\/c=83\/c=84\/c=90:=by simpa [hsJ]using h
 rcases hX with e | e | e | e<;>rw[e]<;>decide
theorem B1 (o:p.Ok):Ft 0 "nullable_heads" [aj (p.cgJ.map ru)]=some (ae ((hsJ.filter λc=>decide ([]∈p.K c)).map sg),true):=by
 refine cps λGq hGq=>?_
 obtain⟨nl,vs,ws,N,V,W,hn,-,-⟩:=(GJ o).sets
 refine hGq ?_
 clear hGq
 rw[hn 0 (by decide),N.sn.filt (P:=λc=>decide ([]∈p.K c)) qR (xk N (CV o)) λc hc=>by rw[decide_eq_true_eq];exact(lngJ o).nul N (vR hc)]
theorem fstJ (o:p.Ok):Ft 0 "first_sets" [aj (p.cgJ.map ru)]=some (aQ (ksJ.map sg) (ksJ.map λX=>aK (p.K X)),true):=by
 refine cps λGq hGq=>?_
 obtain⟨nl,vs,ws,N,V,W,-,hf,-⟩:=(GJ o).sets
 refine hGq ?_
 clear hGq
 rw[hf 0 (by decide),vals_eq (GJ o).nd V.len V.sn λX hX t=>(lngJ o).fst N V hX]
theorem fstG (o:p.Ok):Ft 0 "first_sets" [aj (p.cgG.map ru)]=some (aQ ([83,65].map sg) ([83,65].map λX=>aK (p.K X)),true):=by
 refine cps λGq hGq=>?_
 obtain⟨nl,vs,ws,N,V,W,-,hf,-⟩:=(GG o).sets
 refine hGq ?_
 clear hGq
 rw[hf 0 (by decide),vals_eq (GG o).nd V.len V.sn λX hX t=>(xM o).fst N V hX]
theorem fstH (o:p.Ok):Ft 0 "first_sets" [aj (p.cgH.map ru)]=some (aQ ([84].map sg) ([84].map λX=>aK (p.K X)),true):=by
 refine cps λGq hGq=>?_
 obtain⟨nl,vs,ws,N,V,W,-,hf,-⟩:=(GH o).sets
 refine hGq ?_
 clear hGq
 rw[hf 0 (by decide),vals_eq (GH o).nd V.len V.sn λX hX t=>(lngH o).fst N V hX]
theorem Co (o:p.Ok):Ft 0 "follow_sets" [aj (p.cgJ.map ru)]=some (aQ (ksJ.map sg) (ksJ.map λX=>aK (afJ p X)),true):=by
 refine cps λGq hGq=>?_
 obtain⟨nl,vs,ws,N,V,W,-,-,hf⟩:=(GJ o).sets
 refine hGq ?_
 clear hGq
 rw[hf 0 (by decide),vals_eq (GJ o).nd W.len W.sn λX hX t=>(lngJ o).fol (CA o) N V W hX]
theorem Ch (o:p.Ok):Ft 0 "follow_sets" [aj (p.cgG.map ru)]=some (aQ ([83,65].map sg) ([83,65].map λX=>aK (CS p X)),true):=by
 refine cps λGq hGq=>?_
 obtain⟨nl,vs,ws,N,V,W,-,-,hf⟩:=(GG o).sets
 refine hGq ?_
 clear hGq
 rw[hf 0 (by decide),vals_eq (GG o).nd W.len W.sn λX hX t=>(xM o).fol (B4 o) N V W hX]
noncomputable def LP.zs(p:LP):List (List Nat):=p.zb.filter λb=>!(p.dead&&decide (84∈b))
noncomputable def LP.liv(p:LP)(c:Nat):Bool:=if c=84 then !p.dead else if c=90 then !decide (p.zs=[])else true
theorem yI{k:Nat->List (List Nat)}:∀{b:List Nat},(∀c∈b,∃w∈k c,33∉w)->∃w∈words k b,33∉w:=by
 intro l0
 induction l0 with
 | nil=>exact @λθ=>⟨[],by rw[words_nil];simp,by simp⟩
 | cons c b ih =>
  intro h
  refine cps λGq hGq=>?_
  obtain⟨x,hx,nx⟩:=h c (EP ..)
  obtain⟨y,hy,ny⟩:=ih λd hd=>h d (EO _ hd)
  refine hGq ?_
  clear hGq
  exact⟨x++y,mem_words_cons.mpr ⟨x,hx,y,hy,rfl⟩,λhm=>(E0.mp hm).elim nx ny⟩
theorem Ak{k:Nat->List (List Nat)}:∀{b w:List Nat},w∈words k b->33∉w->∀c∈b,∃x∈k c,33∉x:=by
 intro l0
 induction l0 with
 | nil=>exact @λw θ θ c hc=>absurd hc FC
 | cons d b ih =>
  intro w hw nw c hc
  obtain⟨x,hx,y,hy,rfl⟩:=mem_words_cons.mp hw
  rcases EU.mp hc with rfl | hc
  .exact⟨x,hx,λhm=>nw (Gs _ hm)⟩
  .exact ih hy (λhm=>nw (HE _ hm)) c hc
theorem AA(o:p.Ok):∃w∈p.K 65,33∉w:=by
 refine cps λGq hGq=>?_
 obtain⟨b,hb⟩:=FA _ o.ane
 obtain⟨w,hw,nw⟩:=yI (k:=p.K) (b:=b) λc hc=>by rcases(o.a1 b hb).2 c hc with rfl | rfl<;>exact⟨_,EM.mpr rfl,by decide⟩
 refine hGq ?_
 clear hGq
 exact⟨w,by rw[KA,la_eq o];exact bc.mpr ⟨b,hb,hw⟩,nw⟩
theorem livS(o:p.Ok):∃w∈p.K 83,33∉w:=by
 obtain⟨b,hb⟩:=FA _ o.sne
 obtain⟨w,hw,nw⟩:=yI (k:=p.K) (b:=b) λc hc=>by
  rcases(o.s1 b hb).2 c hc with rfl | rfl | rfl
  .exact⟨_,EM.mpr rfl,by decide⟩
  .exact⟨_,EM.mpr rfl,by decide⟩
  .exact AA o
 exact⟨w,by rw[KS,sB o];exact bc.mpr ⟨b,hb,hw⟩,nw⟩
theorem livT(o:p.Ok):(∃w∈p.K 84,33∉w)↔p.dead=false:=by
 rw[KT]
 constructor
 .rintro⟨w,hw,nw⟩
  cases h:p.dead with
  | false=>rfl
  | true =>
   delta LP.lt at hw
   rw[h,if_pos rfl]at hw
   rw[EM.mp hw]at nw
   exact absurd (EM.mpr rfl) nw
 .intro h
  obtain⟨w,hw⟩:=FA _ (zp (p:=p))
  rcases(lt_mem o).mp hw with q | ⟨b,hb,hn,hbw⟩
  .rw[h]at q;cases q.1
  .obtain⟨w',hw',nw'⟩:=yI (k:=p.K) (b:=b) λc hc=>by rcases((o.t1 b hb).resolve_left hn).2 c hc with rfl | rfl<;>exact⟨_,EM.mpr rfl,by decide⟩
   exact⟨w',(lt_mem o).mpr (.inr ⟨b,hb,hn,hw'⟩),nw'⟩
theorem zm(o:p.Ok){b:List Nat}(hb:b∈p.zb):(∀c∈b,∃w∈p.K c,33∉w)↔b∈p.zs:=by
 delta LP.zs
 rw[Fh,FX,IB,decide_eq_false_iff_not]
 constructor
 .intro h
  refine⟨hb,?_⟩
  by_cases h84:84∈b
  .exact .inl ((livT o).mp (h 84 h84))
  .exact .inr h84
 .rintro⟨_,h⟩ c hc
  rcases(o.z1 b hb).2 c hc with rfl | rfl
  .exact livS o
  .exact(livT o).mpr (h.resolve_right λq=>q hc)
theorem CD(o:p.Ok):(∃w∈p.K 90,33∉w)↔p.zs≠[]:=by
 rw[KZ,u8 o]
 constructor
 .rintro⟨w,hw,nw⟩
  obtain⟨b,hb,hbw⟩:=bc.mp hw
  exact Hr ((zm o hb).mp (Ak hbw nw))
 .intro h
  refine cps λGq hGq=>?_
  obtain⟨b,hb⟩:=FA _ h
  have hbz:b∈p.zb:=(Fh.mp hb).1
  obtain⟨w,hw,nw⟩:=yI ((zm o hbz).mpr hb)
  refine hGq ?_
  clear hGq
  exact⟨w,bc.mpr ⟨b,hbz,hw⟩,nw⟩
theorem yl(o:p.Ok){c:Nat}(h:c∈hsJ):(∃w∈p.K c,33∉w)↔p.liv c=true:=by
 have hX:c=65\/c=83\/c=84\/c=90:=by simpa [hsJ]using h
 rcases hX with rfl | rfl | rfl | rfl
 .exact⟨λθ=>rfl,λθ=>AA o⟩
 .exact⟨λθ=>rfl,λθ=>livS o⟩
 .rw[livT o];show _↔(!p.dead)=true;rw[FX]
 .rw[CD o];show _↔(!decide (p.zs=[]))=true;rw[FX,decide_eq_false_iff_not]
theorem mq{cg:List CRule}{ks:List Nat}:(∀c,c∉ks->(∃r∈cg,c∈r.2)->sg c∈cQ cg ks)/\(∀c,sg c∈cQ cg ks->c∉ks):=⟨λc h1 h2=>mem_tokL.mpr ⟨h1,h2⟩,λc h=>(mem_tokL.mp h).1⟩
theorem zA (o:p.Ok):Ft 0 "productive_heads" [aj (p.cgJ.map ru)]=some (ae ((hsJ.filter p.liv).map sg),true)/\IsBlt (p.cgJ.map ru) (cQ p.cgJ ksJ) ((hsJ.filter p.liv).map sg):=by
 obtain⟨l,B,hl⟩:=(GJ o).prodV
 have e:l=(hsJ.filter p.liv).map sg:=B.sn.filt qR (n5 B (CV o)) λc hc=>by rw[(lngJ o).blt B mq.1 mq.2 (vR hc)];exact yl o hc
 rw[<-e]
 exact⟨hl 0 (by decide),B⟩
end
noncomputable def LP.used(p:LP):Bool:=p.sb.any λb=>decide (65∈b)
noncomputable def LP.rch(p:LP)(c:Nat):Bool:=if c=65 then p.used else true
theorem Cz (g gs:List Rule) (b0:List Str) (h0:Str) (hg:g.length<=10) (e0:g=(h0,b0)::gs):∃l,IsRch g (metS (g.map (·.1))) h0 l/\Ft 9 "reachable_heads" [aj g]=some (ae l,true):=by
 have h1:=dW (g.map (·.1))
 rw[EN]at h1
 refine cps λGq hGq=>?_
 obtain⟨l,hl,k,hk⟩:=run_reachable (Φ:=Ft 10) e0 (AX g (EK hg (by decide)) (by decide)) (ES (EK h1 hg) (by decide)) (bW.mpr (by rw[e0];exact EP ..))
 refine hGq ?_
 clear hGq
 exact⟨l,hl,Ft_fn (n:=9) rfl rfl hk (ER _)⟩
theorem xl{g:List Rule}{ks:List Str}{h0:Str}{l hs:List Str}(R:IsRch g ks h0 l)(h1:h0∈hs)(h2:∀x∈ks,x∈hs):∀x∈l,x∈hs:=R.least (·∈hs) ⟨h1,λr hr θ s θ hk=>h2 s hk⟩
noncomputable def gq(liv:Nat->Bool)(ks:List Nat)(r:CRule):Bool:=liv r.1&&r.2.all λc=>!decide (c∈ks)||liv c
theorem vP{cg:List CRule}{ks:List Nat}{liv:Nat->Bool}{pr:List Str}(h1:∀c∈ks,(sg c∈pr↔liv c=true))(h2:∀x∈pr,x∈ks.map sg){r:CRule}(hr:r∈cg)(hk:r.1∈ks):w8 pr (cQ cg ks) (ru r)=gq liv ks r:=by
 delta w8 gq
 congr 1
 .rw[GL,decide_eq_true_eq];exact h1 r.1 hk
 .show(r.2.map sg).all _=_
  rw[GM,GL,Fs,Fs]
  refine forall_congr' λc=>forall_congr' λhc=>?_
  show decide (sg c∈pr++cQ cg ks)=true↔_
  rw[decide_eq_true_eq,E0,mem_tokL,I4,FX,decide_eq_false_iff_not]
  by_cases hck:c∈ks
  .rw[h1 c hck]
   exact⟨λh=>.inr (h.resolve_right λq=>q.1 hck),λh=>.inl (h.resolve_left λq=>q hck)⟩
  .exact⟨λθ=>.inl hck,λθ=>.inr ⟨hck,r,hr,hc⟩⟩
noncomputable def lG(liv:Nat->Bool)(ks:List Nat)(h0:Nat)(cg:List CRule):List CRule:=cg.filter λr=>gq liv ks r&&decide (r.1=h0)
noncomputable def lC(liv:Nat->Bool)(ks:List Nat)(h0:Nat)(cg:List CRule):List CRule:=cg.filter λr=>gq liv ks r&&!decide (r.1=h0)
theorem nU(a b:Nat):decide (sg a=sg b)=decide (a=b):=decide_eq_decide.mpr ⟨sg_inj,congrArg sg⟩
theorem xp{cg:List CRule}{ks:List Nat}{liv:Nat->Bool}{pr:List Str}{h0:Nat}(h1:∀c∈ks,(sg c∈pr↔liv c=true))(h2:∀x∈pr,x∈ks.map sg)(hk:∀r∈cg,r.1∈ks):fA pr (cQ cg ks) (sg h0) (cg.map ru)=(lG liv ks h0 cg++lC liv ks h0 cg).map ru:=by
 delta fA gY im lG lC
 rw[Fc,HN,HN]
 congr 2
 .refine Hx λr hr=>?_
  show(w8 pr (cQ cg ks) (ru r)&&decide (sg r.1=sg h0))=_
  rw[vP h1 h2 hr (hk r hr),nU]
 .refine Hx λr hr=>?_
  show(w8 pr (cQ cg ks) (ru r)&&!decide (sg r.1=sg h0))=_
  rw[vP h1 h2 hr (hk r hr),nU]
section
variable{cg:List CRule}{ks:List Nat}{h0:Nat}{k:Nat->List (List Nat)}{rk:Nat->Nat}
theorem lV (G:GOk cg ks h0) {pr:List Str} (hp:Ft 9 "productive_heads" [aj (cg.map ru)]=some (ae pr,true)) (hl:pr.length<=10) (h:sg h0∉pr):Ft 0 "trimmed" [aj (cg.map ru)]=some (aj [],true):=by
 obtain⟨b0,gs,e0⟩:=G.ne'
 have hlen:(pr++cQ cg ks).length<=az:=by
  have h1:(cQ cg ks).length<=20:=by
   delta cQ
   rw[cU _ |>.length_eq]
   exact EK (toks_len _ _) G.slen
  rw[EQ]
  exact EK (E8 hl h1) (by decide)
 have:=jh (Φ:=Ft 9) (rc:=[]) e0 (ES G.glen (by decide)) (λr hr=>EK (G.bl r hr) (by decide)) hlen hp (G.tokV (by decide)) (λq=>absurd q h) (λq=>absurd q h) 0
 rw[if_neg h]at this
 exact Ft_fn (n:=8) rfl rfl this (by decide)
theorem iJ (G:GOk cg ks h0) {liv:Nat->Bool} {pr:List Str} (hp:Ft 9 "productive_heads" [aj (cg.map ru)]=some (ae pr,true)) (hl:pr.length<=10) (h1:∀c∈ks,(sg c∈pr↔liv c=true)) (h2:∀x∈pr,x∈ks.map sg) {cl:List CRule} (hcl:lG liv ks h0 cg++lC liv ks h0 cg=cl) {b:List Nat} {cs:List CRule} (hc0:cl=(h0,b)::cs) (h:liv h0=true) (hlen:cl.length<=10) {P:Nat->Bool}
  (hR:∀rc,IsRch (cl.map ru) (metS ((cl.map ru).map (·.1))) (sg h0) rc->∀r∈cl,(sg r.1∈rc↔P r.1=true)):Ft 0 "trimmed" [aj (cg.map ru)]=some (aj ((cl.filter λr=>P r.1).map ru),true):=by
 obtain⟨b0,gs,e0⟩:=G.ne'
 have hle:(pr++cQ cg ks).length<=az:=by
  have h1:(cQ cg ks).length<=20:=by
   delta cQ
   rw[cU _ |>.length_eq]
   exact EK (toks_len _ _) G.slen
  rw[EQ]
  exact EK (E8 hl h1) (by decide)
 have hle1:fA pr (cQ cg ks) (sg h0) (cg.map ru)=cl.map ru:=by rw[xp h1 h2 λr hr=>G.hdm hr,hcl]
 obtain⟨rc,R,hrc⟩:=Cz (cl.map ru) (cs.map ru) (b.map sg) (sg h0) (by rw[EN];exact hlen) (by rw[hc0];rfl)
 have hin:sg h0∈pr:=(h1 h0 G.hk).mpr h
 have:=jh (Φ:=Ft 9) (rc:=rc) e0 (ES G.glen (by decide)) (λr hr=>EK (G.bl r hr) (by decide)) hle hp (G.tokV (by decide)) (λθ=>by rw[hle1,hc0];exact λe=>nomatch e) (λθ=>by rw[hle1];exact hrc) 0
 rw[if_pos hin,hle1,HN]at this
 have e:(cl.filter ((λr:Rule=>decide (r.1∈rc))∘ru))=cl.filter λr=>P r.1:=Hx λr hr=>by
  show decide (sg r.1∈rc)=_
  rw[GL,decide_eq_true_eq];exact hR rc R r hr
 rw[e]at this
 exact Ft_fn (n:=8) rfl rfl this (by decide)
end
section
variable{p:LP}
theorem BZ (o:p.Ok):Ft 0 "reachable_heads" [aj (p.cgJ.map ru)]=some (ae ((hsJ.filter p.rch).map sg),true):=by
 obtain⟨l,R,hl⟩:=(GJ o).rchV
 rw[hl 0 (by decide)]
 have ksm:∀{c:Nat},c∈ksJ->sg c∈ksJ.map sg:=λh=>mem_sgs.mpr h
 have rJ:∀{r:CRule},r∈p.cgJ->ru r∈p.cgJ.map ru:=λh=>E4 h
 have hZ:=R.closed.1
 have hS:sg 83∈l:=by
  obtain⟨b,hb,hm⟩:=o.z2
  exact R.closed.2 _ (rJ (mem_cgJ.mpr (.inl ⟨rfl,hb⟩:_\/((90,b):CRule)∈p.cgG\/_))) hZ (sg 83) (mem_sgs.mpr hm) (ksm (by decide))
 have hT:sg 84∈l:=by
  obtain⟨b,hb,hm⟩:=o.z3
  exact R.closed.2 _ (rJ (mem_cgJ.mpr (.inl ⟨rfl,hb⟩:_\/((90,b):CRule)∈p.cgG\/_))) hZ (sg 84) (mem_sgs.mpr hm) (ksm (by decide))
 rw[R.sn.filt (P:=p.rch) qR (xl R (mem_sgs.mpr (by decide)) λx hx=>?_) λc hc=>?_]at ⊢
 .obtain⟨c,hc,rfl⟩:=cw hx
  have hX:c=90\/c=83\/c=65\/c=84:=by simpa [ksJ]using hc
  refine mem_sgs.mpr ?_
  rcases hX with e | e | e | e<;>rw[e]<;>decide
 .have hX:c=65\/c=83\/c=84\/c=90:=by simpa [hsJ]using hc
  rcases hX with rfl | rfl | rfl | rfl
  .show _↔p.used=true
   delta LP.used
   rw[GA]
   constructor
   .intro h
    obtain⟨d,e,h⟩:=R.least (λx=>∃d,x=sg d/\(d=65->∃b∈p.sb,decide (65∈b)=true)) (by
     refine⟨⟨90,rfl,λe=>nomatch e⟩,λr hr θ s hs hk=>?_⟩
     obtain⟨q,hq,rfl⟩:=cq hr
     obtain⟨d,hd,rfl⟩:=cw hs
     refine⟨d,rfl,λe=>?_⟩
     subst e
     rcases mem_cgJ.mp hq with h | h | h
     .rcases(o.z1 _ h.2).2 65 hd with e | e<;>cases e
     .rcases mem_cgG.mp h with h | h
      .exact⟨_,h.2,decide_eq_true hd⟩
      .rcases(o.a1 _ h.2).2 65 hd with e | e<;>cases e
     .rcases o.t1 _ (mem_cgH.mp h).2 with e | e
      .rw[e]at hd;exact absurd hd (by decide)
      .rcases e.2 65 hd with e | e<;>cases e) _ h
    exact h (sg_inj e).symm
   .rintro⟨b,hb,hm⟩
    exact R.closed.2 (ru (83,b)) (rJ (mem_cgJ.mpr (.inr (.inl (mem_cgG.mpr (.inl ⟨rfl,hb⟩)))))) hS (sg 65) (mem_sgs.mpr (of_decide_eq_true hm)) (ksm (by decide))
  .exact⟨λθ=>rfl,λθ=>hS⟩
  .exact⟨λθ=>rfl,λθ=>hT⟩
  .exact⟨λθ=>rfl,λθ=>hZ⟩
theorem ur(P:Nat->Bool)(l:List Nat)(h:l.length<=10):((l.filter P).map sg).length<=10:=by rw[EN];exact EK (Fn ..) h
theorem md{h:Nat}{bs:List (List Nat)}{P:CRule->Bool}{Q:List Nat->Bool}(e:∀b∈bs,P (h,b)=Q b):(LP.rs h bs).filter P=LP.rs h (bs.filter Q):=by
 delta LP.rs
 rw[HN]
 congr 1
 exact Hx λb hb=>e b hb
theorem bL{h:Nat}{bs:List (List Nat)}{P:CRule->Bool}(e:∀b∈bs,P (h,b)=true):(LP.rs h bs).filter P=LP.rs h bs:=HP.mpr λr hr=>by
 obtain⟨rfl,hb⟩:=mem_rs.mp hr
 exact e _ hb
theorem aB{h:Nat}{bs:List (List Nat)}{P:CRule->Bool}(e:∀b∈bs,P (h,b)=false):(LP.rs h bs).filter P=[]:=Hw.mpr λr hr=>by
 obtain⟨rfl,hb⟩:=mem_rs.mp hr
 rw[e _ hb];decide
noncomputable def LP.tg(p:LP):List CRule:=LP.rs 83 p.sb++if p.used then LP.rs 65 p.ab else []
noncomputable def LP.th(p:LP):List CRule:=if p.dead then []else LP.rs 84 p.tb
noncomputable def LP.whole(p:LP):List CRule:=if p.zs=[]then []else(LP.rs 90 p.zs++p.tg)++p.th
theorem ve{h:Nat}{bs:List (List Nat)}(hn:bs≠[]):∃b,b∈bs/\∃cs,LP.rs h bs=(h,b)::cs:=by
 cases bs with
 | nil=>exact absurd rfl hn
 | cons b bs=>exact⟨b,EP ..,LP.rs h bs,rfl⟩
theorem pX:p.used=true↔∃b∈p.sb,65∈b:=by
 delta LP.used;rw[GA]
 exact exists_congr λb=>by rw[decide_eq_true_eq]
theorem hd_of{cl:List CRule}{c:Nat}(h:∃r∈cl,r.1=c):sg c∈metS ((cl.map ru).map (·.1)):=by
 obtain⟨r,hr,rfl⟩:=h
 exact bW.mpr (E4 (E4 hr))
theorem Bw (o:p.Ok):Ft 0 "trimmed" [aj (p.cgG.map ru)]=some (aj (p.tg.map ru),true):=by
 obtain⟨pr,B,hp⟩:=(GG o).prodV
 have hall:∀c∈[83,65],(sg c∈pr↔(λθ:Nat=>true) c=true):=λc hc=>by
  rw[(xM o).blt B mq.1 mq.2 hc]
  have hX:c=83\/c=65:=by simpa using hc
  rcases hX with rfl | rfl
  .exact⟨λθ=>rfl,λθ=>livS o⟩
  .exact⟨λθ=>rfl,λθ=>AA o⟩
 have hsub:∀x∈pr,x∈[83,65].map sg:=n5 B λr hr=>by
  obtain⟨q,hq,rfl⟩:=cq hr
  exact mem_sgs.mpr ((GG o).hdm hq)
 have hpl:pr.length<=10:=EK (B.sn.1.length_le_of_subset hsub) (by decide)
 have hfit:∀r:CRule,gq (λθ=>true) [83,65] r=true:=λr=>by
  delta gq
  rw[Gy,Fs]
  exact λc θ=>Iw _
 refine cps λGq hGq=>?_
 obtain⟨b,hb,cs,e0⟩:=ve (h:=83) o.sne
 refine hGq ?_
 clear hGq
 have hcl:lG (λθ=>true) [83,65] 83 p.cgG++lC (λθ=>true) [83,65] 83 p.cgG=p.cgG:=by
  delta lG lC LP.cgG
  rw[EV,EV,bL (h:=83) λb θ=>by rw[hfit];rfl,aB (h:=65) λb θ=>by rw[hfit];rfl,aB (h:=83) λb θ=>by rw[hfit];rfl,bL (h:=65) λb θ=>by rw[hfit];rfl,Fb,Gv]
 rw[iJ (GG o) (liv:=λθ=>true) (P:=p.rch) (hp 9 (by decide)) hpl hall hsub hcl (b:=b) (cs:=cs++LP.rs 65 p.ab) (by delta LP.cgG;rw[e0];rfl) rfl (GG o).len]
 .delta LP.cgG LP.tg
  rw[EV,bL (h:=83) λb θ=>rfl]
  congr 3
  cases hu:p.used with
  | true=>rw[if_pos rfl];exact congrArg _ (congrArg _ (bL (h:=65) λb θ=>hu))
  | false=>rw[if_neg (by decide)];exact congrArg _ (congrArg _ (aB (h:=65) λb θ=>hu))
 .intro rc R r hr
  have hS:sg 83∈rc:=R.closed.1
  rcases mem_cgG.mp hr with h | h
  .rw[h.1];exact⟨λθ=>rfl,λθ=>hS⟩
  .rw[h.1]
   show _↔p.used=true
   rw[pX]
   constructor
   .intro hm
    obtain⟨d,e,q⟩:=R.least (λx=>∃d,x=sg d/\(d=65->∃b∈p.sb,65∈b)) (by
     refine⟨⟨83,rfl,λe=>nomatch e⟩,λr hr θ s hs hk=>?_⟩
     obtain⟨q,hq,rfl⟩:=cq hr
     obtain⟨d,hd,rfl⟩:=cw hs
     refine⟨d,rfl,λe=>?_⟩
     subst e
     rcases mem_cgG.mp hq with h | h
     .exact⟨_,h.2,hd⟩
     .rcases(o.a1 _ h.2).2 65 hd with e | e<;>cases e) _ hm
    exact q (sg_inj e).symm
   .rintro⟨b,hb,hm⟩
    exact R.closed.2 (ru (83,b)) (E4 (mem_cgG.mpr (.inl ⟨rfl,hb⟩))) hS (sg 65) (mem_sgs.mpr hm) (hd_of ⟨r,hr,h.1⟩)
theorem trimH (o:p.Ok):Ft 0 "trimmed" [aj (p.cgH.map ru)]=some (aj (p.th.map ru),true):=by
 obtain⟨pr,B,hp⟩:=(GH o).prodV
 have hall:∀c∈[84],(sg c∈pr↔(λθ:Nat=>!p.dead) c=true):=λc hc=>by
  rw[(lngH o).blt B mq.1 mq.2 hc,EM.mp hc,livT o]
  show _↔(!p.dead)=true
  rw[FX]
 have hsub:∀x∈pr,x∈[84].map sg:=n5 B λr hr=>by
  obtain⟨q,hq,rfl⟩:=cq hr
  exact mem_sgs.mpr ((GH o).hdm hq)
 have hpl:pr.length<=10:=EK (B.sn.1.length_le_of_subset hsub) (by decide)
 delta LP.th
 cases hd:p.dead with
 | true =>
  rw[if_pos rfl]
  exact lV (GH o) (hp 9 (by decide)) hpl λhm=>by
   have:=(hall 84 (by decide)).mp hm
   rw[hd]at this;cases this
 | false =>
  rw[if_neg (by decide)]
  have hfit:∀r:CRule,gq (λθ=>!p.dead) [84] r=true:=λr=>by
   delta gq
   rw[hd,IE,Gy,Fs]
   exact λc θ=>Iw _
  refine cps λGq hGq=>?_
  obtain⟨b,hb,cs,e0⟩:=ve (h:=84) o.tne
  refine hGq ?_
  clear hGq
  have hcl:lG (λθ=>!p.dead) [84] 84 p.cgH++lC (λθ=>!p.dead) [84] 84 p.cgH=p.cgH:=by
   delta lG lC LP.cgH
   rw[bL (h:=84) λb θ=>by rw[hfit];rfl,aB (h:=84) λb θ=>by rw[hfit];rfl,Fb]
  rw[iJ (GH o) (liv:=λθ=>!p.dead) (P:=λθ=>true) (hp 9 (by decide)) hpl hall hsub hcl (b:=b) (cs:=cs) (by delta LP.cgH;rw[e0]) (by rw[hd];rfl) (GH o).len]
  .rw[HP.mpr λθ θ=>rfl];rfl
  .intro rc R r hr
   rw[(mem_cgH.mp hr).1]
   exact⟨λθ=>rfl,λθ=>R.closed.1⟩
end
section
variable{p:LP}
theorem g9{liv:Nat->Bool}{ks b:List Nat}{h:Nat}(h1:liv h=true)(h2:∀c∈b,c∈ks->liv c=true):gq liv ks (h,b)=true:=by
 delta gq
 rw[Gj,Fs]
 refine⟨h1,λc hc=>?_⟩
 by_cases hk:c∈ks
 .rw[h2 c hc hk];exact Iw _
 .rw[decide_eq_false hk];rfl
theorem vN{liv:Nat->Bool}{ks b:List Nat}{h:Nat}(h1:liv h=false\/∃c∈b,c∈ks/\liv c=false):gq liv ks (h,b)=false:=by
 delta gq
 rcases h1 with h1 | ⟨c,hc,hk,hl⟩
 .rw[show liv (h,b).1=false from h1];rfl
 .rw[IB]
  refine .inr (List.all_eq_false.mpr ⟨c,hc,?_⟩)
  rw[decide_eq_true hk,hl];decide
theorem BC(o:p.Ok)(hz:p.zs≠[]){b:List Nat}(hb:b∈p.zb):gq p.liv ksJ (90,b)=!(p.dead&&decide (84∈b)):=by
 have l90:p.liv 90=true:=by show(!decide (p.zs=[]))=true;rw[decide_eq_false hz];rfl
 cases hd:p.dead with
 | false =>
  rw[G8]
  refine g9 l90 λc hc θ=>?_
  rcases(o.z1 b hb).2 c hc with rfl | rfl
  .rfl
  .show(!p.dead)=true;rw[hd];rfl
 | true =>
  rw[Gy]
  by_cases h84:84∈b
  .rw[decide_eq_true h84]
   exact vN (.inr ⟨84,h84,by decide,by show(!p.dead)=false;rw[hd];rfl⟩)
  .rw[decide_eq_false h84]
   refine g9 l90 λc hc θ=>?_
   rcases(o.z1 b hb).2 c hc with rfl | rfl
   .rfl
   .exact absurd hc h84
theorem Cm(o:p.Ok){b:List Nat}(hb:b∈p.sb):gq p.liv ksJ (83,b)=true:=g9 rfl λc hc hk=>by
 rcases(o.s1 b hb).2 c hc with rfl | rfl | rfl
 .exact absurd hk (by decide)
 .exact absurd hk (by decide)
 .rfl
theorem BY(o:p.Ok){b:List Nat}(hb:b∈p.ab):gq p.liv ksJ (65,b)=true:=g9 rfl λc hc hk=>by
 rcases(o.a1 b hb).2 c hc with rfl | rfl<;>exact absurd hk (by decide)
theorem A0(o:p.Ok){b:List Nat}(hb:b∈p.tb):gq p.liv ksJ (84,b)=!p.dead:=by
 cases hd:p.dead with
 | true=>exact vN (.inl (by show(!p.dead)=false;rw[hd];rfl))
 | false =>
  have l84:p.liv 84=true:=by show(!p.dead)=true;rw[hd];rfl
  refine g9 l84 λc hc hk=>?_
  rcases o.t1 b hb with e | e
  .rw[e]at hc;rw[EM.mp hc];exact l84
  .rcases e.2 c hc with rfl | rfl<;>exact absurd hk (by decide)
theorem hs_of_ks{c:Nat}(h:c∈ksJ):c∈hsJ:=by
 have hX:c=90\/c=83\/c=65\/c=84:=by simpa [ksJ]using h
 rcases hX with e | e | e | e<;>rw[e]<;>decide
theorem CI(o:p.Ok)(hz:p.zs≠[]):∃b∈p.zs,83∈b:=by
 cases hd:p.dead with
 | false =>
  obtain⟨b,hb,hm⟩:=o.z2
  exact⟨b,Fh.mpr ⟨hb,by rw[hd];rfl⟩,hm⟩
 | true =>
  obtain⟨b,hb⟩:=FA _ hz
  refine⟨b,hb,o.z4 b (Fh.mp hb).1 λh84=>?_⟩
  have:=(Fh.mp hb).2
  rw[hd,decide_eq_true h84]at this
  cases this
theorem trimJ (o:p.Ok):Ft 0 "trimmed" [aj (p.cgJ.map ru)]=some (aj (p.whole.map ru),true):=by
 refine cps λGq hGq=>?_
 obtain⟨hp0,B⟩:=zA o
 obtain⟨pr,B',hp⟩:=(GJ o).prodV
 refine hGq ?_
 clear hGq
 have e:pr=(hsJ.filter p.liv).map sg:=iy (congrArg Prod.fst (ET ((hp 0 (by decide)).symm.trans hp0)))
 subst e
 have hp9:=hp 9 (by decide)
 have hpl:=ur p.liv hsJ (by decide)
 have hall:∀c∈ksJ,(sg c∈(hsJ.filter p.liv).map sg↔p.liv c=true):=λc hc=>by
  rw[mem_sgs,Fh]
  exact⟨λh=>h.2,λh=>⟨hs_of_ks hc,h⟩⟩
 have hsub:∀x∈(hsJ.filter p.liv).map sg,x∈ksJ.map sg:=λx hx=>by
  obtain⟨c,hc,rfl⟩:=cw hx
  exact mem_sgs.mpr (vR (Fh.mp hc).1)
 delta LP.whole
 by_cases hz:p.zs=[]
 .rw[if_pos hz]
  refine lV (GJ o) hp9 hpl λhm=>?_
  have:=(hall 90 (by decide)).mp hm
  have:(!decide (p.zs=[]))=true:=this
  rw[decide_eq_true hz]at this
  cases this
 .rw[if_neg hz]
  have l90:p.liv 90=true:=by show(!decide (p.zs=[]))=true;rw[decide_eq_false hz];rfl
  have hcl:lG p.liv ksJ 90 p.cgJ++lC p.liv ksJ 90 p.cgJ=LP.rs 90 p.zs++(p.cgG++p.th):=by
   have tk:∀b∈p.zb.take 1,b∈p.zb:=λb hb=>HL hb
   have dr:∀b∈p.zb.drop 1,b∈p.zb:=λb hb=>FU hb
   have e1:lG p.liv ksJ 90 p.cgJ=LP.rs 90 p.zs:=by
    delta lG LP.cgJ LP.cgG LP.cgH
    rw[EV,EV,EV,EV,
     md (h:=90) (bs:=p.zb.take 1) (Q:=λb=>!(p.dead&&decide (84∈b))) λb hb=>by rw[BC o hz (tk b hb)];exact FY _,
     md (h:=90) (bs:=p.zb.drop 1) (Q:=λb=>!(p.dead&&decide (84∈b))) λb hb=>by rw[BC o hz (dr b hb)];exact FY _,
     aB (h:=83) λb hb=>Gf _,aB (h:=65) λb hb=>Gf _,aB (h:=84) λb hb=>Gf _]
    rw[Fb,Fb,Fb]
    delta LP.zs LP.rs
    rw[<-Fc,<-EV,GC]
   have e2:lC p.liv ksJ 90 p.cgJ=p.cgG++p.th:=by
    delta lC LP.cgJ LP.cgG LP.cgH
    rw[EV,EV,EV,EV,aB (h:=90) (bs:=p.zb.take 1) λb hb=>Gf _,aB (h:=90) (bs:=p.zb.drop 1) λb hb=>Gf _,
     bL (h:=83) λb hb=>by rw[Cm o hb];rfl,bL (h:=65) λb hb=>by rw[BY o hb];rfl,Gv,Gv]
    congr 1
    delta LP.th
    cases hd:p.dead with
    | true=>rw[if_pos rfl];exact aB λb hb=>by rw[A0 o hb,hd];rfl
    | false=>rw[if_neg (by decide)];exact bL λb hb=>by rw[A0 o hb,hd];rfl
   rw[e1,e2]
  refine cps λGq hGq=>?_
  obtain⟨b,hb,cs,e0⟩:=ve (h:=90) hz
  refine hGq ?_
  clear hGq
  have hlen:(LP.rs 90 p.zs++(p.cgG++p.th)).length<=10:=by
   have l1:p.zs.length<=2:=EK (Fn ..) o.zn
   have l2:p.cgG.length=4:=by delta LP.cgG LP.rs;rw[EQ,EN,EN,o.sn,o.an]
   have l3:p.th.length<=2:=by delta LP.th LP.rs;split;exact Fi _;rw[EN,o.tn];decide
   have l4:(LP.rs 90 p.zs).length=p.zs.length:=EN ..
   rw[EQ,EQ,l2,l4];lia
  rw[iJ (GJ o) (liv:=p.liv) (P:=p.rch) hp9 hpl hall hsub hcl (b:=b) (cs:=cs++(p.cgG++p.th)) (by rw[e0];rfl) l90 hlen]
  .congr 3
   delta LP.cgG LP.tg
   rw[EV,EV,EV,bL (h:=90) λb θ=>rfl,bL (h:=83) λb θ=>rfl,Fj,Fj]
   have e3:p.th.filter (λr=>p.rch r.1)=p.th:=by
    delta LP.th
    split
    .rfl
    .exact bL λb θ=>rfl
   have e4:(LP.rs 65 p.ab).filter (λr=>p.rch r.1)=if p.used then LP.rs 65 p.ab else []:=by
    cases hu:p.used with
    | true=>rw[if_pos rfl];exact bL (h:=65) λb θ=>hu
    | false=>rw[if_neg (by decide)];exact aB (h:=65) λb θ=>hu
   rw[e3,e4,Fj]
  .intro rc R r hr
   have hZ:sg 90∈rc:=R.closed.1
   have mS:∀{b:List Nat},b∈p.sb->((83,b):CRule)∈LP.rs 90 p.zs++(p.cgG++p.th):=λhb=>HE _ (Gs _ (mem_cgG.mpr (.inl ⟨rfl,hb⟩)))
   have mZ:∀{b:List Nat},b∈p.zs->((90,b):CRule)∈LP.rs 90 p.zs++(p.cgG++p.th):=λhb=>Gs _ (mem_rs.mpr ⟨rfl,hb⟩)
   have hS:sg 83∈rc:=by
    refine cps λGq hGq=>?_
    obtain⟨b,hb,hm⟩:=CI o hz
    obtain⟨b',hb'⟩:=FA _ o.sne
    refine hGq ?_
    clear hGq
    exact R.closed.2 (ru (90,b)) (E4 (mZ hb)) hZ (sg 83) (mem_sgs.mpr hm) (hd_of ⟨_,mS hb',rfl⟩)
   rcases E0.mp hr with h | h
   .rw[(mem_rs.mp h).1];exact⟨λθ=>rfl,λθ=>hZ⟩
   .rcases E0.mp h with h | h
    .rcases mem_cgG.mp h with h | h
     .rw[h.1];exact⟨λθ=>rfl,λθ=>hS⟩
     .rw[h.1]
      show _↔p.used=true
      rw[pX]
      constructor
      .intro hm
       obtain⟨d,e,q⟩:=R.least (λx=>∃d,x=sg d/\(d=65->∃b∈p.sb,65∈b)) (by
        refine⟨⟨90,rfl,λe=>nomatch e⟩,λr hr θ s hs hk=>?_⟩
        obtain⟨q,hq,rfl⟩:=cq hr
        obtain⟨d,hd,rfl⟩:=cw hs
        refine⟨d,rfl,λe=>?_⟩
        subst e
        rcases E0.mp hq with h | h
        .obtain⟨_,h2⟩:=mem_rs.mp h
         rcases(o.z1 _ (Fh.mp h2).1).2 65 hd with e | e<;>cases e
        .rcases E0.mp h with h | h
         .rcases mem_cgG.mp h with h | h
          .exact⟨_,h.2,hd⟩
          .rcases(o.a1 _ h.2).2 65 hd with e | e<;>cases e
         .delta LP.th at h
          split at h
          .cases h
          .rcases o.t1 _ (mem_rs.mp h).2 with e | e
           .rw[e]at hd;exact absurd hd (by decide)
           .rcases e.2 65 hd with e | e<;>cases e) _ hm
       exact q (sg_inj e).symm
      .rintro⟨b,hb,hm⟩
       exact R.closed.2 (ru (83,b)) (E4 (mS hb)) hS (sg 65) (mem_sgs.mpr hm) (hd_of ⟨r,hr,h.1⟩)
    .have h':=h
     delta LP.th at h
     cases hd:p.dead with
     | true=>rw[hd,if_pos rfl]at h;cases h
     | false =>
      rw[hd,if_neg (by decide)]at h
      obtain⟨h1,h2⟩:=mem_rs.mp h
      rw[h1]
      refine⟨λθ=>rfl,λθ=>?_⟩
      obtain⟨b,hb,hm⟩:=o.z3
      exact R.closed.2 (ru (90,b)) (E4 (mZ (Fh.mpr ⟨hb,by rw[hd];rfl⟩))) hZ (sg 84) (mem_sgs.mpr hm) (hd_of ⟨r,hr,h1⟩)
noncomputable def zi(c:Nat):Bool:=decide (c∈[97,98,99])
noncomputable def LP.lit(p:LP):List Str:=bv (metS (((p.cgJ.flatMap (·.2)).filter zi).map sg))
theorem sH{x:Str}:x∈p.lit↔∃c,x=sg c/\zi c=true/\∃r∈p.cgJ,c∈r.2:=by
 delta LP.lit
 rw[mem_sortS,bW,E9]
 constructor
 .rintro⟨c,hc,rfl⟩
  obtain⟨h1,h2⟩:=Fh.mp hc
  exact⟨c,rfl,h2,F0.mp h1⟩
 .rintro⟨c,rfl,h1,h2⟩
  exact⟨c,Fh.mpr ⟨F0.mpr h2,h1⟩,rfl⟩
theorem abc_iff(o:p.Ok){r:CRule}(hr:r∈p.cgJ){c:Nat}(hc:c∈r.2):c∉ksJ↔zi c=true:=by
 have hU:=(oQ o hr).2 c hc
 have h36:c≠36:=λe=>by
  subst e
  rcases mem_cgJ.mp hr with h | h | h
  .rcases(o.z1 _ h.2).2 36 hc with e | e<;>cases e
  .rcases mem_cgG.mp h with h | h
   .rcases(o.s1 _ h.2).2 36 hc with e | e | e<;>cases e
   .rcases(o.a1 _ h.2).2 36 hc with e | e<;>cases e
  .rcases o.t1 _ (mem_cgH.mp h).2 with e | e
   .rw[e]at hc;exact absurd hc (by decide)
   .rcases e.2 36 hc with e | e<;>cases e
 exact(by decide:∀c∈Uc,c≠36->(c∉ksJ↔zi c=true)) c hU h36
theorem Cg(o:p.Ok):cQ p.cgJ ksJ=p.lit:=by
 refine sf.ext (d0 (bx _)) λx=>?_
 rw[sH]
 constructor
 .intro hx
  obtain⟨c,rfl⟩:=tokL_sg hx
  refine cps λGq hGq=>?_
  obtain⟨h1,r,hr,hc⟩:=mem_tokL.mp hx
  refine hGq ?_
  clear hGq
  exact⟨c,rfl,(abc_iff o hr hc).mp h1,r,hr,hc⟩
 .rintro⟨c,rfl,h1,r,hr,hc⟩
  exact mem_tokL.mpr ⟨(abc_iff o hr hc).mpr h1,r,hr,hc⟩
theorem tokGH(o:p.Ok):mg (cQ p.cgH [84]) (cQ p.cgG [83,65])=p.lit:=by
 refine(SN_mg _ _).ext (d0 (bx _)) λx=>?_
 rw[sH,mem_mg]
 have key:∀{cg:List CRule} {ks:List Nat},(∀r∈cg,r∈p.cgJ)->(∀r∈cg,∀c∈r.2,c∈ksJ->c∈ks)->x∈cQ cg ks->∃c,x=sg c/\zi c=true/\∃r∈p.cgJ,c∈r.2:=by
  intro cg ks h1 h2 hx
  obtain⟨c,rfl⟩:=tokL_sg hx
  refine cps λGq hGq=>?_
  obtain⟨h3,r,hr,hc⟩:=mem_tokL.mp hx
  refine hGq ?_
  clear hGq
  exact⟨c,rfl,(abc_iff o (h1 r hr) hc).mp λhk=>h3 (h2 r hr c hc hk),r,h1 r hr,hc⟩
 constructor
 .rintro(hx | hx)
  .exact key (λr hr=>mem_cgJ.mpr (.inr (.inr hr))) (λr hr c hc hk=>FO λhn=>by
    have:=(lngH o).tok r hr c hc hn
    have h2:=(abc_iff o (mem_cgJ.mpr (.inr (.inr hr))) hc)
    rcases o.t1 _ (mem_cgH.mp hr).2 with e | e
    .rw[e]at hc;exact hn hc
    .rcases e.2 c hc with rfl | rfl<;>exact absurd hk (by decide)) hx
  .exact key (λr hr=>mem_cgJ.mpr (.inr (.inl hr))) (λr hr c hc hk=>by
    rcases mem_cgG.mp hr with h | h
    .rcases(o.s1 _ h.2).2 c hc with rfl | rfl | rfl
     .exact absurd hk (by decide)
     .exact absurd hk (by decide)
     .decide
    .rcases(o.a1 _ h.2).2 c hc with rfl | rfl<;>exact absurd hk (by decide)) hx
 .rintro⟨c,rfl,h1,r,hr,hc⟩
  have hk:=(abc_iff o hr hc).mpr h1
  rcases mem_cgJ.mp hr with h | h | h
  .rcases(o.z1 _ h.2).2 c hc with rfl | rfl<;>exact absurd (by decide) hk
  .exact .inr (mem_tokL.mpr ⟨λhm=>hk (by
    have:c=83\/c=65:=by simpa using hm
    rcases this with rfl | rfl<;>decide),r,h,hc⟩)
  .exact .inl (mem_tokL.mpr ⟨λhm=>hk (by rw[EM.mp hm];decide),r,h,hc⟩)
end
noncomputable def sd(ks l:List Nat):Prop:=∀x∈l,x∉ks
theorem gF{ks:List Nat}:∀l:List Nat,sd ks l\/∃p X q,l=p++X::q/\sd ks p/\X∈ks:=by
 intro l0
 induction l0 with
 | nil=>exact .inl λx hx=>absurd hx FC
 | cons x l ih =>
  by_cases hx:x∈ks
  .exact .inr ⟨[],x,l,rfl,λy hy=>(absurd hy FC),hx⟩
  .rcases ih with h | ⟨p,X,q,rfl,hp,hX⟩
   .exact .inl λy hy=>(EU.mp hy).elim (λe=>e▸hx) (h y)
   .exact .inr ⟨x::p,X,q,rfl,λy hy=>(EU.mp hy).elim (λe=>e▸hx) (hp y),hX⟩
theorem zQ{ks p q:List Nat}{X:Nat}(hp:sd ks p)(hX:X∈ks):fp (ks.map sg) ((p++X::q).map sg)=p.length:=by
 induction p with
 | nil =>
  show(if sg X∈ks.map sg then 0 else _)=0
  rw[if_pos (mem_sgs.mpr hX)]
 | cons x p ih =>
  show(if sg x∈ks.map sg then 0 else fp (ks.map sg) ((p++X::q).map sg)+1)=_
  rw[if_neg (λh=>hp x (EP ..) (mem_sgs.mp h)),ih λy hy=>hp y (EO _ hy)];rfl
noncomputable def bQ(g:List CRule)(X:Nat)(k:Int):Option (List Nat):=if k<0\/k>=(g.length:Int)then none else(g[k.toNat]?).bind λr=>if r.1=X then some r.2 else none
theorem ik{g:List CRule}{ks p q:List Nat}{X:Nat}{k:Int}(hp:sd ks p)(hX:X∈ks):stepR (g.map ru) (ks.map sg) ((p++X::q).map sg) k=(bQ g X k).map λb=>((p++b)++q).map sg:=by
 delta stepR bQ
 rw[zQ hp hX,EN,EN]
 have hne:p.length≠(p++X::q).length:=by rw[EQ,Fl];exact(FG (Ij (Hv _)))
 by_cases hc:k<0\/k>=(g.length:Int)
 .rw[if_pos hc,if_pos (.inr hc)];rfl
 .rw[if_neg hc,if_neg (λz=>z.elim hne hc),EZ]
  cases hr:g[k.toNat]? with
  | none=>rfl
  | some r =>
   show(if((p++X::q).map sg)[p.length]?= some (sg r.1)then _ else _)=(if r.1=X then some r.2 else none).map _
   have e1:((p++X::q).map sg)[p.length]?= some (sg X):=by rw[EZ,Fg (ER _),G0];rfl
   rw[e1]
   by_cases er:r.1=X
   .rw[if_pos (by rw[er]),if_pos er,Fc,I5 (by rw[EN])]
    have:(p.map sg++(X::q).map sg).drop (p.length+1)=q.map sg:=by
     rw[IW,EN,G3 (by rw[EN];exact Fv _),Fu];rfl
    rw[this]
    show some (_++r.2.map sg++_)=some ((p++r.2++q).map sg)
    rw[Fc,Fc]
   .rw[if_neg (λz=>er (sg_inj (ET z)).symm),if_neg er];rfl
theorem sw{g:List CRule}{ks l:List Nat}{k:Int}(h:sd ks l):stepR (g.map ru) (ks.map sg) (l.map sg) k=none:=by
 delta stepR
 rw[if_pos (.inl (fp_none h))]at ⊢
structure Part(J P:List CRule)(ks ksP:List Nat)(sh:Int)(ok:Int->Prop):Prop where
 sub:∀c∈ksP,c∈ks
 hd:∀r∈P,r.1∈ksP
 bd:∀r∈P,∀c∈r.2,c∈ks->c∈ksP
 at':∀X∈ksP,∀k,ok k->0<=k->bQ J X (k+sh)=bQ P X k
 oth:∀X∈ks,X∉ksP->∀k,ok k->0<=k->bQ J X (k+sh)=none
noncomputable def shf(sh k:Int):Int:=if k>=0 then k+sh else k
theorem kA{g:List CRule}{X:Nat}{k:Int}(h:k<0):bQ g X k=none:=if_pos (.inl h)
section
variable{J P:List CRule}{ks ksP:List Nat}{sh:Int}{ok:Int->Prop}
theorem Part.rule(Q:Part J P ks ksP sh ok){X:Nat}(hX:X∈ksP){k:Int}(hk:ok k):bQ J X (shf sh k)=bQ P X k:=by
 delta shf
 by_cases h:k>=0
 .rw[if_pos h];exact Q.at' X hX k hk h
 .rw[if_neg h,kA (HI h),kA (HI h)]
theorem Part.other(Q:Part J P ks ksP sh ok){X:Nat}(hX:X∈ks)(hn:X∉ksP){k:Int}(hk:ok k):bQ J X (shf sh k)=none:=by
 delta shf
 by_cases h:k>=0
 .rw[if_pos h];exact Q.oth X hX hn k hk h
 .rw[if_neg h,kA (HI h)]
theorem oe{g:List CRule}{X:Nat}{k:Int}{b:List Nat}(h:bQ g X k=some b):(X,b)∈g:=by
 delta bQ at h
 split at h
 .cases h
 .obtain⟨r,hr,h⟩:=ac h
  obtain⟨rfl,rfl⟩:=aV h
  exact Fa hr
noncomputable def Bu(ks ksP l:List Nat):Prop:=∀x∈l,x∈ks->x∈ksP
theorem sd.app{a b:List Nat}(h:sd ks a)(h':sd ks b):sd ks (a++b):=λx hx=>(E0.mp hx).elim (h x) (h' x)
theorem xC(Q:Part J P ks ksP sh ok){pre post:List Nat}(hpre:sd ks pre)(hpost:∀x∈post,x∉ksP):∀(l:List Int) (cur:List Nat),(∀k∈l,ok k)->Bu ks ksP cur ->
  (∃done,aD (P.map ru) (ksP.map sg) (cur.map sg) l=some (done.map sg)/\Bu ks ksP done/\∀more,aD (J.map ru) (ks.map sg) ((pre++cur++post).map sg) (l.map (shf sh)++more)=aD (J.map ru) (ks.map sg) ((pre++done++post).map sg) more) \/
  (aD (P.map ru) (ksP.map sg) (cur.map sg) l=none/\∀more,aD (J.map ru) (ks.map sg) ((pre++cur++post).map sg) (l.map (shf sh)++more)=none):=by
 intro l0
 induction l0 with
 | nil=>exact @λcur θ ho=>.inl ⟨cur,rfl,ho,λmore=>rfl⟩
 | cons k l ih =>
  intro cur hk ho
  have hk0:=hk k (EP ..)
  rcases gF (ks:=ks) cur with hn | ⟨p,X,q,rfl,hp,hX⟩
  .refine .inr ⟨?_,λmore=>?_⟩
   .show(stepR _ _ _ k).bind _=none
    rw[sw λx hx hm=>hn x hx (Q.sub x hm)];rfl
   .show(stepR _ _ _ (shf sh k)).bind _=none
    rcases gF (ks:=ks) post with hq | ⟨p,X,q,e,hp,hX⟩
    .rw[sw ((hpre.app hn).app hq)];rfl
    .have hXp:X∉ksP:=hpost X (by rw[e];simp)
     rw[e,<-Fj,ik ((hpre.app hn).app hp) hX,Q.other hX hXp hk0];rfl
  .have hXP:X∈ksP:=ho X (by simp) hX
   have e1:pre++(p++X::q)++post=(pre++p)++X::(q++post):=by simp
   have s1:stepR (P.map ru) (ksP.map sg) ((p++X::q).map sg) k=(bQ P X k).map λb=>((p++b)++q).map sg:=ik (λx hx hm=>hp x hx (Q.sub x hm)) hXP
   have s2:stepR (J.map ru) (ks.map sg) ((pre++(p++X::q)++post).map sg) (shf sh k)=(bQ P X k).map λb=>(pre++(p++b++q)++post).map sg:=by
    rw[e1,ik (hpre.app hp) hX,Q.rule hXP hk0]
    congr 1;funext b;congr 1;simp
   cases hr:bQ P X k with
   | none =>
    rw[hr]at s1 s2
    refine .inr ⟨?_,λmore=>?_⟩
    .show(stepR _ _ _ k).bind _=none
     rw[s1];rfl
    .show(stepR _ _ _ (shf sh k)).bind _=none
     rw[s2];rfl
   | some b =>
    rw[hr]at s1 s2
    have hb:=oe hr
    have ho':Bu ks ksP (p++b++q):=λx hx hm=>by
     rcases E0.mp hx with hx | hx
     .rcases E0.mp hx with hx | hx
      .exact ho x (by simp[hx]) hm
      .exact Q.bd _ hb x hx hm
     .exact ho x (by simp[hx]) hm
    have r1:aD (P.map ru) (ksP.map sg) ((p++X::q).map sg) (k::l)=aD (P.map ru) (ksP.map sg) ((p++b++q).map sg) l:=by
     show(stepR _ _ _ k).bind _=_
     rw[s1];rfl
    have r2:∀more,aD (J.map ru) (ks.map sg) ((pre++(p++X::q)++post).map sg) ((k::l).map (shf sh)++more)=aD (J.map ru) (ks.map sg) ((pre++(p++b++q)++post).map sg) (l.map (shf sh)++more):=λmore=>by
     show(stepR _ _ _ (shf sh k)).bind _=_
     rw[s2];rfl
    rcases ih (p++b++q) (λk hk'=>hk k (EO _ hk')) ho' with⟨done,h1,h2,h3⟩ | ⟨h1,h2⟩
    .exact .inl ⟨done,r1.trans h1,h2,λmore=>(r2 more).trans (h3 more)⟩
    .exact .inr ⟨r1.trans h1,λmore=>(r2 more).trans (h2 more)⟩
theorem s4(Q:Part J P ks ksP sh ok){pre post:List Nat}(h1:¬sd ks pre)(h2:∀x∈pre,x∉ksP){k:Int}(hk:ok k){l:List Int}:aD (J.map ru) (ks.map sg) ((pre++post).map sg) (shf sh k::l)=none:=by
 rcases gF (ks:=ks) pre with hn | ⟨p,X,q,rfl,hp,hX⟩
 .exact absurd hn h1
 .show(stepR _ _ _ _).bind _=none
  rw[Fj,Il,ik hp hX,Q.other hX (h2 X (by simp)) hk];rfl
end
section
variable{p:LP}
theorem f8(o:p.Ok):p.cgG.length=4:=by delta LP.cgG LP.rs;rw[EQ,EN,EN,o.sn,o.an]
theorem mA(o:p.Ok):p.cgH.length=2:=by delta LP.cgH LP.rs;rw[EN,o.tn]
theorem yp(o:p.Ok):p.cgJ.length=6+p.zb.length:=by
 delta LP.cgJ
 have h1:(LP.rs 90 (p.zb.take 1)).length+(LP.rs 90 (p.zb.drop 1)).length=p.zb.length:=by
  delta LP.rs;rw[EN,EN,<-EQ,GC]
 rw[EQ,EQ,EQ,f8 o,mA o];lia
theorem zO(o:p.Ok):(LP.rs 90 (p.zb.take 1)).length=1:=by
 delta LP.rs
 rw[EN,Gd]
 exact G5 (HQ.mpr o.zne)
theorem CM(o:p.Ok):(LP.rs 90 (p.zb.drop 1)).length=p.zb.length - 1:=by delta LP.rs;rw[EN,FW]
theorem f9{g:List CRule}{X:Nat}{k:Int}(h0:0<=k):bQ g X k=(g[k.toNat]?).bind λr=>if r.1=X then some r.2 else none:=by
 delta bQ
 split
 .rename_i h
  rcases h with h | h
  .exact absurd h (GB.mpr h0)
  .rw[FN (Go.mp (FE h0▸h))]at ⊢;rfl
 .rfl
theorem ruleAt_get{g:List CRule}{X:Nat}{k:Int}{r:CRule}(h0:0<=k)(h:g[k.toNat]?= some r):bQ g X k=if r.1=X then some r.2 else none:=by rw[f9 h0,h];rfl
theorem AV(o:p.Ok){k:Int}(hk:k<4)(h0:0<=k):∃r,p.cgG[k.toNat]?= some r/\p.cgJ[(k+1).toNat]?= some r:=by
 obtain⟨n,rfl⟩:=Ip h0
 have hlt:n<p.cgG.length:=by rw[f8 o];exact Gw.mp hk
 refine⟨p.cgG[n],EW hlt,?_⟩
 show p.cgJ[n+1]?= _
 delta LP.cgJ
 rw[Fj,Fg (by rw[zO o];exact FM ..),zO o,Ho,Fq hlt,EW hlt]
theorem BD(o:p.Ok):Part p.cgJ p.cgG ksJ [83,65] 1 (λk=>k<4) where
 sub:=by decide
 hd:=λr hr=>(GG o).hdm hr
 bd:=λr hr c hc hk=>by
  rcases mem_cgG.mp hr with h | h
  .rcases(o.s1 _ h.2).2 c hc with rfl | rfl | rfl
   .exact absurd hk (by decide)
   .exact absurd hk (by decide)
   .decide
  .rcases(o.a1 _ h.2).2 c hc with rfl | rfl<;>exact absurd hk (by decide)
 at':=λX hX k hk h0=>by
  obtain⟨r,e1,e2⟩:=AV o hk h0
  rw[ruleAt_get h0 e1,ruleAt_get (G9 h0 (by decide)) e2]
 oth:=λX hX hn k hk h0=>by
  obtain⟨r,e1,e2⟩:=AV o hk h0
  rw[ruleAt_get (G9 h0 (by decide)) e2,if_neg]
  intro e
  exact hn (e▸(GG o).hdm (Fa e1))
theorem ar1(n m:Nat):n+(4+(m+1))=1+4+(m+n):=(congrArg Nat.succ ((FV n (4+m)).trans ((Ga 4 m n).trans (FV 4 (m+n))))).trans (FV (m+n) 5)
theorem Bt(o:p.Ok){k:Int}(h0:0<=k):p.cgJ[(k+(4+(p.zb.length:Int))).toNat]?= p.cgH[k.toNat]?:=by
 obtain⟨n,rfl⟩:=Ip h0
 have hz:p.zb.length - 1+1=p.zb.length:=Nat.succ_pred_eq_of_pos (HQ.mpr o.zne)
 have e:n+(4+p.zb.length)=(LP.rs 90 (p.zb.take 1)++p.cgG).length+((LP.rs 90 (p.zb.drop 1)).length+n):=by
  rw[EQ,zO o,CM o,f8 o,<-ar1,hz]
 show p.cgJ[n+(4+p.zb.length)]?= _
 delta LP.cgJ
 rw[e,Fg (Ff ..),Fu,Fg (Ff ..),Fu];rfl
theorem BJ(o:p.Ok):Part p.cgJ p.cgH ksJ [84] (4+(p.zb.length:Int)) (λθ=>True) where
 sub:=by decide
 hd:=λr hr=>(GH o).hdm hr
 bd:=λr hr c hc hk=>by
  rcases o.t1 _ (mem_cgH.mp hr).2 with e | e
  .rw[e]at hc;exact hc
  .rcases e.2 c hc with rfl | rfl<;>exact absurd hk (by decide)
 at':=λX hX k θ h0=>by rw[f9 (G9 h0 (G9 (by decide) (Fy _))),f9 h0,Bt o h0]
 oth:=λX hX hn k θ h0=>by
  rw[f9 (G9 h0 (G9 (by decide) (Fy _))),Bt o h0]
  cases hr:p.cgH[k.toNat]? with
  | none=>rfl
  | some r =>
   show(if r.1=X then some r.2 else none)=none
   rw[if_neg]
   intro e
   exact hn (e▸(GH o).hdm (Fa hr))
theorem firstZ(o:p.Ok){wh:Nat}{b:List Nat}(h:p.zb[wh]?= some b)(more:List Int):aD (p.cgJ.map ru) (ksJ.map sg) [sg 90] ((5*(wh:Int))::more)=aD (p.cgJ.map ru) (ksJ.map sg) (b.map sg) more:=by
 have hwl:=(EY.mp h).1
 have hzn:=o.zn
 have hl:=f8 o
 have e:p.cgJ[(5*(wh:Int)).toNat]?= some (90,b):=by
  have hw:wh=0\/wh=1:=by lia
  delta LP.cgJ
  rcases hw with rfl | rfl
  .rw[Fj,Fq (by rw[zO o];decide)]
   delta LP.rs
   rw[EZ,show(5*((0:Nat):Int)).toNat=0 from rfl,List.getElem?_take_of_lt (by decide),h];rfl
  .rw[show(5*((1:Nat):Int)).toNat=5 from rfl,Fg (by rw[EQ,zO o,hl];decide),EQ,zO o,hl,Fq (by rw[CM o];exact Nat.sub_pos_of_lt hwl)]
   delta LP.rs
   rw[EZ,List.getElem?_drop,h];rfl
 have s:=ik (g:=p.cgJ) (ks:=ksJ) (p:=[]) (q:=[]) (X:=90) (k:=5*(wh:Int)) (λx hx=>absurd hx FC) (by decide)
 rw[ruleAt_get (by lia) e,if_pos rfl]at s
 show(stepR _ _ ([90].map sg) _).bind _=_
 have s:stepR (p.cgJ.map ru) (ksJ.map sg) ([90].map sg) (5*(wh:Int))=some ((([]++b)++[]).map sg):=s
 rw[s,Fb];rfl
end
theorem Sz.mono{n l n' l':Nat}{ws:List (List Nat)}(h:Sz n l ws)(hn:n<=n')(hl:l<=l'):Sz n' l' ws:=⟨EK h.n hn,λw hw=>EK (h.l w hw) hl⟩
theorem sU{k:Nat->List (List Nat)}{N L:Nat}:∀{body:List Nat} {out:List (List Nat)} {n l:Nat},(∀c∈body,Sz N L (k c))->Sz n l out->Sz (n*N ^ body.length) (l+L*body.length) (wordsF k out body):=by
 intro l0
 induction l0 with
 | nil=>exact @λout n l θ ho=>by rw[HM,Jj,I2];exact ho
 | cons c body ih =>
  intro out n l hk ho
  have:=ih (λc' hc'=>hk c' (EO _ hc')) (ho.glue (hk c (EP ..)))
  rw[Fl,Jk,Jl (N ^ body.length),<-Jd,Nat.mul_add,FV (L*body.length),<-Ga,I2]
  exact this
theorem tD{k:Nat->List (List Nat)}{N L m:Nat}{body:List Nat}(hN:0<N)(h:∀c∈body,Sz N L (k c))(hb:body.length<=m):Sz (N ^ m) (L*m) (words k body):=by
 have h0:Sz 1 0 [[]]:=⟨ER _,λw hw=>by rw[EM.mp hw];exact ER _⟩
 refine(sU (n:=1) (l:=0) h h0).mono ?_ ?_
 .rw[I1];exact Nat.pow_le_pow_right hN hb
 .rw[Hc];exact FD _ hb
theorem qF{k:Nat->List (List Nat)}{n l m:Nat}{bs:List (List Nat)}(h:∀b∈bs,Sz n l (words k b))(hb:bs.length<=m):Sz (n*m) l (allW k bs) :=
 ⟨EK (flat_len λb hb=>(h b hb).n) (FD _ hb),λw hw=>by
  obtain⟨b,hb,hw⟩:=bc.mp hw
  exact(h b hb).l w hw⟩
theorem zZ{k:Nat->List (List Nat)}{n l m e q r h:Nat}{bs ends:List (List Nat)}(hw:∀b∈bs,∀i,Sz n l (words k (b.drop (i+1))))(he:Sz m e ends)(hl:∀b∈bs,b.length<=q)(hb:bs.length<=r):Sz (n*m*q*r) (l+e) (aftW k h bs ends):=by
 refine⟨EK (flat_len (N:=n*m*q) λb hbm=>EK (flat_len (N:=n*m) λi θ=>?_) ?_) (FD _ hb),λw hwm=>?_⟩
 .split
  .exact((hw b hbm i).glue he).n
  .exact Fi _
 .rw[Fk];exact FD _ (hl b hbm)
 .obtain⟨b,hbm,i,_,x,hx,y,hy,rfl⟩:=mem_aftW.mp hwm
  rw[EQ]
  exact E8 ((hw b hbm i).l x hx) (he.l y hy)
theorem pT{k:Nat->List (List Nat)}{S:Nat->Prop}:∀{b:List Nat},(∀c∈b,∀w∈k c,∀d∈w,S d)->∀w∈words k b,∀d∈w,S d:=by
 intro l0
 induction l0 with
 | nil=>exact @λθ w hw d hd=>by rw[words_nil,EM]at hw;rw[hw]at hd;cases hd
 | cons c b ih =>
  intro h w hw d hd
  obtain⟨x,hx,y,hy,rfl⟩:=mem_words_cons.mp hw
  rcases E0.mp hd with hd | hd
  .exact h c (EP ..) x hx d hd
  .exact ih (λc hc=>h c (EO _ hc)) y hy d hd
theorem n6{k:Nat->List (List Nat)}{S:Nat->Prop}{bs:List (List Nat)}(h:∀b∈bs,∀c∈b,∀w∈k c,∀d∈w,S d):∀w∈allW k bs,∀d∈w,S d:=λw hw=>by
 obtain⟨b,hb,hw⟩:=bc.mp hw
 exact pT (h b hb) w hw
theorem nG{k:Nat->List (List Nat)}{S:Nat->Prop}{h:Nat}{bs ends:List (List Nat)}(hk:∀b∈bs,∀c∈b,∀w∈k c,∀d∈w,S d)(he:∀w∈ends,∀d∈w,S d):∀w∈aftW k h bs ends,∀d∈w,S d:=λw hw d hd=>by
 obtain⟨b,hb,i,_,x,hx,y,hy,rfl⟩:=mem_aftW.mp hw
 rcases E0.mp hd with hd | hd
 .exact pT (λc hc=>hk b hb c (FU hc)) x hx d hd
 .exact he y hy d hd
noncomputable def Al:List Nat:=[97,98,99,36,33]
theorem few{ws:List (List Nat)}(h:∀w∈ws,∀d∈w,d∈Al):(metS (kS ws)).length<5:=by
 have:=(bx (kS ws)).length_le_of_subset (l₂:=[97,98,99,36].map sg) λx hx=>by
  have hx2:x∈(ws.filter lead).map nX:=bW.mp hx
  obtain⟨w,hw1,rfl⟩:=E9.mp hx2
  obtain⟨hw,hl⟩:=Fh.mp hw1
  cases w with
  | nil=>cases hl
  | cons c w =>
   have hc:=h _ hw c (EP ..)
   have h33:c≠33:=λe=>by rw[e]at hl;cases hl
   refine E4 ?_
   simp only[Al,EU,FC,or_false]at hc ⊢
   rcases hc with h | h | h | h | h
   .exact .inl h
   .exact .inr (.inl h)
   .exact .inr (.inr (.inl h))
   .exact .inr (.inr (.inr h))
   .exact absurd h h33
 exact F2 this
section
variable{p:LP}
theorem mem_k0{c:Nat}{w:List Nat}(h:w∈kn [] [] c):w=[c]:=EM.mp h
theorem sW{c:Nat}:Sz 1 1 (kn [] [] c):=⟨ER 1,λw hw=>by rw[mem_k0 hw];exact ER 1⟩
theorem CW(o:p.Ok):Sz 2 1 p.la:=qF (n:=1) (l:=1) (m:=2) (λb hb=>tD (N:=1) (L:=1) (m:=1) (by decide) (λc θ=>sW) (o.a1 b hb).1) (Fm o.an)
theorem mJ(o:p.Ok):p.tb'.length<=2:=EK (Fn ..) (Fm o.tn)
theorem tb'_b(o:p.Ok){b:List Nat}(hb:b∈p.tb'):b.length<=1/\∀c∈b,c=98\/c=99:=by
 obtain⟨h1,h2⟩:=iB.mp hb
 exact(o.t1 b h1).resolve_left h2
theorem CG(o:p.Ok):Sz 2 1 p.lt0:=qF (n:=1) (l:=1) (m:=2) (λb hb=>tD (N:=1) (L:=1) (m:=1) (by decide) (λc θ=>sW) (tb'_b o hb).1) (mJ o)
theorem szT(o:p.Ok):Sz 2 1 p.lt:=by
 delta LP.lt
 split
 .exact⟨by decide,λw hw=>by rw[EM.mp hw];decide⟩
 .exact CG o
theorem Bj(o:p.Ok){c:Nat}:Sz 2 1 (kn [65] [p.la] c):=by
 rw[kn_cons]
 split
 .exact CW o
 .exact sW.mono (by decide) (by decide)
theorem BT(o:p.Ok):Sz 8 2 p.ls:=qF (n:=4) (m:=2) (λb hb=>tD (N:=2) (L:=1) (m:=2) (by decide) (λc θ=>Bj o) (o.s1 b hb).1) (Fm o.sn)
theorem Ap(o:p.Ok){c:Nat}:Sz 8 2 (kn [65,83,84] [p.la,p.ls,p.lt] c):=by
 rw[kn_cons]
 split
 .exact(CW o).mono (by decide) (by decide)
 .rw[kn_cons]
  split
  .exact BT o
  .rw[kn_cons]
   split
   .exact(szT o).mono (by decide) (by decide)
   .exact sW.mono (by decide) (by decide)
theorem rP{b:List Nat}(h:b.length<=2)(i:Nat):(b.drop (i+1)).length<=1:=by
 rw[FW];exact EK (IK (FM 1 i) _) (HK h 1)
theorem B7(o:p.Ok){b:List Nat}(h:b.length<=2)(i:Nat):Sz 8 2 (words (kn [65,83,84] [p.la,p.ls,p.lt]) (b.drop (i+1))):=tD (N:=8) (L:=2) (m:=1) (by decide) (λc θ=>Ap o) (rP h i)
theorem Bi:Sz 1 1 [[36]]:=⟨by decide,λw hw=>by rw[EM.mp hw];decide⟩
theorem Bc(o:p.Ok){bs ends:List (List Nat)}{h:Nat}(h1:∀b∈bs,b.length<=2)(h2:bs.length<=2){m e:Nat}(he:Sz m e ends):Sz (8*m*2*2) (2+e) (aftW (kn [65,83,84] [p.la,p.ls,p.lt]) h bs ends):=zZ (λb hb i=>B7 o (h1 b hb) i) he h1 h2
theorem B8(o:p.Ok):Sz 32 3 p.bs:=Bc o (λb hb=>(o.z1 b hb).1) o.zn Bi
theorem inA(o:p.Ok):∀w∈p.la,∀d∈w,d∈Al:=n6 λb hb c hc w hw d hd=>by
 rw[mem_k0 hw,EM]at hd
 rcases(o.a1 b hb).2 c hc with rfl | rfl<;>(rw[hd];decide +kernel)
theorem inT0(o:p.Ok):∀w∈p.lt0,∀d∈w,d∈Al:=n6 λb hb c hc w hw d hd=>by
 rw[mem_k0 hw,EM]at hd
 rcases(tb'_b o hb).2 c hc with rfl | rfl<;>(rw[hd];decide +kernel)
theorem inT(o:p.Ok):∀w∈p.lt,∀d∈w,d∈Al:=by
 delta LP.lt
 split
 .intro w hw d hd
  rw[EM.mp hw,EM]at hd
  rw[hd];decide +kernel
 .exact inT0 o
theorem inS(o:p.Ok):∀w∈p.ls,∀d∈w,d∈Al:=n6 λb hb c hc w hw d hd=>by
 rw[kn_cons]at hw
 split at hw
 .exact inA o w hw d hd
 .rename_i hn
  rw[mem_k0 hw,EM]at hd
  rcases(o.s1 b hb).2 c hc with rfl | rfl | rfl
  .rw[hd];decide +kernel
  .rw[hd];decide +kernel
  .exact absurd rfl hn
theorem inK3(o:p.Ok){c:Nat}(hc:c∈[97,98,65,83,84]):∀w∈kn [65,83,84] [p.la,p.ls,p.lt] c,∀d∈w,d∈Al:=by
 intro w hw d hd
 rw[kn_cons]at hw
 split at hw
 .exact inA o w hw d hd
 .rename_i n1
  rw[kn_cons]at hw
  split at hw
  .exact inS o w hw d hd
  .rename_i n2
   rw[kn_cons]at hw
   split at hw
   .exact inT o w hw d hd
   .rename_i n3
    rw[mem_k0 hw,EM]at hd
    simp only[EU,FC,or_false]at hc
    rcases hc with h | h | h | h | h
    .rw[hd,h];decide +kernel
    .rw[hd,h];decide +kernel
    .exact absurd h n1
    .exact absurd h n2
    .exact absurd h n3
theorem z5(o:p.Ok):∀b∈p.zb,∀c∈b,∀w∈kn [65,83,84] [p.la,p.ls,p.lt] c,∀d∈w,d∈Al:=λb hb c hc=>inK3 o (by rcases(o.z1 b hb).2 c hc with rfl | rfl<;>decide)
theorem s5(o:p.Ok):∀b∈p.sb,∀c∈b,∀w∈kn [65,83,84] [p.la,p.ls,p.lt] c,∀d∈w,d∈Al:=λb hb c hc=>inK3 o (by rcases(o.s1 b hb).2 c hc with rfl | rfl | rfl<;>decide)
theorem zP:∀w∈[[36]],∀d∈w,d∈Al:=λw hw d hd=>by
 rw[EM.mp hw,EM]at hd
 rw[hd];decide +kernel
theorem inZ(o:p.Ok):∀w∈p.lz,∀d∈w,d∈Al:=n6 (z5 o)
theorem inBs(o:p.Ok):∀w∈p.bs,∀d∈w,d∈Al:=nG (z5 o) zP
theorem inBt(o:p.Ok):∀w∈p.bt,∀d∈w,d∈Al:=nG (z5 o) zP
theorem inBa(o:p.Ok):∀w∈p.ba,∀d∈w,d∈Al:=nG (s5 o) (inBs o)
theorem inAl(o:p.Ok):∀w∈p.al,∀d∈w,d∈Al:=nG (s5 o) zP
theorem Ba {x n:Int} (hn:n≠0):Ft 0 "_law_pick" [.int x,.int n]=some (.int (x.fmod n),true):=Ft_fn (n:=7) rfl rfl (vQ (Φ:=Ft 8) hn 0) (by decide)
theorem vg {ks:List Nat} {vs:List (List (List Nat))} {b:List Nat} (hb:b.length<=2) (hk:∀c∈b,Sz 8 2 (kn ks vs c)) (hl:ks.length=vs.length) {m:Nat} (hm:m<=6):Ft m "_law_words" [bn b,cJ ks vs]=some (au (words (kn ks vs) b),true) :=
 Ft_fn (n:=6) rfl rfl (tE (Φ:=Ft 7) hb (λc hc=>(hk c hc).mono (by decide) (by decide)) hl 0) hm
theorem yO {ks:List Nat} {vs:List (List (List Nat))} {bs:List (List Nat)} (hb:∀b∈bs,b.length<=2) (hk:∀b∈bs,∀c∈b,Sz 8 2 (kn ks vs c)) (hl:ks.length=vs.length) (hn:bs.length<=10):Ft 0 "_law_all" [aC bs,cJ ks vs]=some (au (allW (kn ks vs) bs),true) :=
 Ft_fn (n:=5) rfl rfl (xE (Φ:=Ft 6) (λb h=>vg (hb b h) (hk b h) hl (by decide)) (λb h=>EK (tD (N:=8) (L:=2) (by decide) (hk b h) (hb b h)).n (by decide)) hn 0) (by decide)
theorem Ag {ks:List Nat} {vs:List (List (List Nat))} {bs ends:List (List Nat)} {h:Nat} (hb:∀b∈bs,b.length<=2) (hk:∀b∈bs,∀c∈b,Sz 8 2 (kn ks vs c)) (hl:ks.length=vs.length) (hn:bs.length<=10) (he:Sz 100 100 ends):Ft 0 "_law_after" [.str (sg h),aC bs,cJ ks vs,au ends]=some (au (aftW (kn ks vs) h bs ends),true) :=
 Ft_fn (n:=4) rfl rfl (uc (Φ:=Ft 5) (λb h i=>vg (EK (by rw[FW];exact HY _ _) (hb b h)) (λc hc=>hk b h c (FU hc)) hl (by decide)) (λb h i=>(tD (N:=8) (L:=2) (m:=1) (by decide) (λc hc=>hk b h c (FU hc)) (rP (hb b h) i)).mono (by decide) (by decide)) he hn (λb h=>EK (hb b h) (by decide)) 0) (by decide)
theorem uA {ws:List (List Nat)} (h:∀w∈ws,∀d∈w,d∈Al):Ft 0 "_law_letters" [au ws]=some (ae (aK ws),true):=Ft_fn (n:=3) rfl rfl (pj (Φ:=Ft 4) (few h) 0) (by decide)
theorem zW {w:List Nat} {ws:List (List Nat)} (hl:w.length<=100):Ft 0 "_law_spans" [.str (W w),au ws]=some (jy w.length (fq w ws),true):=Ft_fn (n:=2) rfl rfl (s8 (Φ:=Ft 3) hl 0) (by decide)
theorem wD {A:Type} {p:A->Bool} {l:List A}:Ft 0 "_law_bools" [.list (l.map λx=>.bool (p x))]=some (.bool true,true):=by
 refine uo (n:=1) (by decide) (Ft_at (n:=1) (d:=⟨"_law_bools",λzz=>AI⟩) rfl ?_)
 show(bC (l.map λx=>.bool (p x))).map _=_
 rw[gR];rfl
theorem oi {g gs:List CRule} {h0:Nat} {b0:List Nat} {l:List Int} (hg0:g=(h0,b0)::gs) (hb:∀r∈g,r.2.length<=10) (hh:∀r∈g,ud.contains (sg r.1)=true) (hl:l.length<=8):Ft 0 "_law_carried" [aj (g.map ru),ar l]=some (bG (carr g [h0] l),true):=Ft_fn (n:=0) rfl rfl (oB (Φ:=Ft 1) hg0 hb hh hl 0) (by decide)
end
noncomputable def uX(b:List Nat):PV:=.tup (b.map λc=>.str (sg c))
noncomputable def jm(bs:List (List Nat)):PV:=.tup (bs.map uX)
noncomputable def JM:List (List (List Nat)):=[[[83,84]],[[84,83]],[[84],[83]],[[84],[83,84]]]
noncomputable def SM:List (List Nat):=[[],[97],[65],[65,98],[98,65],[65,65]]
noncomputable def AM:List (List Nat):=[[],[97],[98]]
noncomputable def TM:List (List Nat):=[[],[98],[99],[84],[84]]
noncomputable def UM:List (List Nat):=[[],[97],[98],[97,98],[98,97],[97,97],[98,98]]
noncomputable def VM:List (List Nat):=[[],[98],[99]]
noncomputable def BW(M:List (List Nat)):PV:=.tup (M.map λw=>.str (W w))
structure Di(Φ:FTab):Prop where
 up:∀f d ds r,Ft 0 f (d::ds)=some r->Φ f (d::ds)=some r
 joins:Φ "_law_joins" []=some (.tup (JM.map jm),true)
 ms:Φ "_law_s" []=some (jm SM,true)
 ma:Φ "_law_a" []=some (jm AM,true)
 mt:Φ "_law_t" []=some (jm TM,true)
 mu:Φ "_law_u" []=some (BW UM,true)
 mv:Φ "_law_v" []=some (BW VM,true)
noncomputable def pk(ns:List Int)(i:Nat)(n:Int):Nat:=((ns.getD i 0).fmod n).toNat
theorem y2(ns:List Int)(i:Nat){n:Int}(hn:0<n):(pk ns i n:Int)=(ns.getD i 0).fmod n:=FE (Int.fmod_nonneg_of_pos _ hn)
theorem cD(ns:List Int)(i:Nat){n:Nat}(hn:0<n):pk ns i n<n:=by
 have h:(0:Int)<n:=I6.mpr hn
 exact Gw.mp (by rw[y2 ns i h];exact Int.fmod_lt_of_pos _ h)
theorem dM{α:Type}{l:List α}{i:Nat}(d:α)(h:i<l.length):l[i]?= some (l.getD i d):=by
 rw[Ha,EW h];rfl
theorem dk{α:Type}{l:List α}{i:Nat}(d:α)(h:i<l.length):l.getD i d∈l:=Fa (dM d h)
noncomputable def LPof(ns:List Int):LP:=⟨JM.getD (pk ns 0 4) [],[SM.getD (pk ns 1 6) [],SM.getD (pk ns 2 6) []],[AM.getD (pk ns 3 3) [],AM.getD (pk ns 4 3) []],[TM.getD (pk ns 5 5) [],TM.getD (pk ns 6 5) []]⟩
theorem eR{α:Type}{P:α->Prop}{a b:α}(h1:P a)(h2:P b):∀x∈[a,b],P x:=λx hx=>by
 rcases EU.mp hx with rfl | hx
 .exact h1
 .rw[EM.mp hx];exact h2
theorem CO(ns:List Int):(LPof ns).zb∈JM:=dk _ (cD ns 0 (by decide))
theorem fx(ns:List Int):(LPof ns).Ok:=by
 have hz:=CO ns
 have hs:∀i,SM.getD (pk ns i 6) []∈SM:=λi=>dk _ (cD ns i (by decide))
 have ha:∀i,AM.getD (pk ns i 3) []∈AM:=λi=>dk _ (cD ns i (by decide))
 have ht:∀i,TM.getD (pk ns i 5) []∈TM:=λi=>dk _ (cD ns i (by decide))
 have s1:∀b∈SM,b.length<=2/\∀c∈b,c=97\/c=98\/c=65:=by decide +kernel
 have a1:∀b∈AM,b.length<=1/\∀c∈b,c=97\/c=98:=by decide +kernel
 have t1:∀b∈TM,b=[84]\/(b.length<=1/\∀c∈b,c=98\/c=99):=by decide +kernel
 exact{z1:=(by decide +kernel:∀z∈JM,∀b∈z,b.length<=2/\∀c∈b,c=83\/c=84) _ hz,z2:=(by decide +kernel:∀z∈JM,∃b∈z,83∈b) _ hz,z3:=(by decide +kernel:∀z∈JM,∃b∈z,84∈b) _ hz,z4:=(by decide +kernel:∀z∈JM,∀b∈z,84∉b->83∈b) _ hz,zn:=(by decide +kernel:∀z∈JM,z.length<=2) _ hz,s1:=eR (s1 _ (hs 1)) (s1 _ (hs 2)),sn:=rfl,a1:=eR (a1 _ (ha 3)) (a1 _ (ha 4)),an:=rfl,t1:=eR (t1 _ (ht 5)) (t1 _ (ht 6)),tn:=rfl}
section
variable{Φ:FTab}{σ:Sig}{n:Nat}{ts:List SStmt}{o:Out}
theorem bH{c:SExpr}{a:List SStmt}(hc:aa Φ c σ=some (at1 (.bool false)))(h:aexecs Φ n ts σ=some o):aexecs Φ n (.ife c a []::ts) σ=some o:=seq_if hc rfl ah h
theorem kJ{i:Nat}{x:Option RV}(h:σ[i]?= some x):σ.set i x=σ:=by
 obtain⟨hi,rfl⟩:=EY.mp h
 exact HC hi
theorem xu{c:SExpr}{x:Nat}{e:SExpr}{k:Bool}{r:RV}(hc:aa Φ c σ=some (at1 (.bool k)))(h1:k=true->aa Φ e σ=some r)(hr:r.c=true)(h2:k=false->σ[x]?= some (some r))(h:aexecs Φ n ts (σ.set x (some r))=some o):aexecs Φ n (.ife c [.set x e] []::ts) σ=some o:=by
 refine seq_if hc rfl (σ':=σ.set x (some r)) ?_ h
 cases k with
 | true=>exact am (h1 rfl) hr ah
 | false=>exact ah.trans (by rw[kJ (h2 rfl)])
theorem mx{ns:List Int}(h0:σ[0]?= some (some ⟨ar ns,false,true⟩)){i:Nat}(hi:i<ns.length):aa Φ (.idx (.var 0) (.int i)) σ=some (at1 (.int (ns.getD i 0))) :=
 ev_idx (ev_var h0) ai (jJ (f:=PV.int) (dM 0 hi))
theorem bo (H:Di Φ) {ns:List Int} (h0:σ[0]?= some (some ⟨ar ns,false,true⟩)) {e:SExpr} {n:Int} (he:aa Φ e σ=some (at1 (.int n))) {i:Nat} (hi:i<ns.length) (hn:0<n):aa Φ (.call "_law_pick" [.idx (.var 0) (.int i),e]) σ=some (at1 (.int (pk ns i n))):=by
 rw[y2 ns i hn]
 exact ev_callT (evs_cons (mx h0 hi) (evs_cons he evs_nil)) (H.up _ _ _ _ (Ba (Int.ne_of_gt hn)))
theorem nZ{x:Str}{d:PV}{b:Bool}(h:Φ x []=some (d,b)):aa Φ (.glob x) σ=some ⟨d,false,true⟩:=bj h
theorem nQ{ds:List PV}{i:Nat}{d:PV}{f c:Bool}(h:ds[i]?= some d):d4 ⟨.tup ds,f,c⟩ (.int i)=some (part ⟨.tup ds,f,c⟩ d) :=
 Eq.trans (show d4 ⟨.tup ds,f,c⟩ (.int i)=(if 0<=(i:Int)then(ds[i]?).map (part ⟨.tup ds,f,c⟩)else EL) from rfl) ((if_pos (Fy i)).trans (congrArg (Option.map (part ⟨.tup ds,f,c⟩)) h))
theorem fZ{x:Str}{M:List (List Nat)}{e:SExpr}{k:Nat}(hg:Φ x []=some (jm M,true))(he:aa Φ e σ=some (at1 (.int k)))(hk:k<M.length):aa Φ (.idx (.glob x) e) σ=some ⟨uX (M.getD k []),false,true⟩ :=
 ev_idx (nZ hg) he (nQ (d:=uX (M.getD k [])) (by rw[EZ,dM [] hk];rfl))
theorem dZ{b:List Nat}{f c:Bool}(h:b.length<=2):fY ⟨uX b,f,c⟩=some ⟨bn b,true,true⟩:=by
 show newl f c (b.map λc=>.str (sg c))=_
 have e:(b.map λc=>PV.str (sg c))=(b.map sg).map PV.str:=by rw[Fe];rfl
 rw[e,dn _ _ _ (by rw[EN];exact EK h (by decide))];rfl
theorem aR{e:SExpr}{r q:RV}(h:aa Φ e σ=some r)(h':fY r=some q):aa Φ (.listOf e) σ=some q:=bind_to h h'
theorem qe{x:Option RV}{k:Nat}(h:σ.length=k):(σ++[x])[k]?= some x:=by
 rw[<-h,Fg (ER _),G0];rfl
theorem xj{x y:Option RV}{k:Nat}(h:σ.length=k):(σ++[x,y])[k]?= some x:=by
 rw[<-h,Fg (ER _),G0];rfl
theorem xP{x y:Option RV}{k:Nat}(h:σ.length=k):(σ++[x,y])[k+1]?= some y:=by
 rw[<-h,Fg (Ff _ _),Fu];rfl
theorem Ao{l:Sig}{i:Nat}{r:Option RV}(h:σ[i]?= some r):(σ++l)[i]?= some r:=by
 rw[Fq (EY.mp h).1];exact h
theorem eU(l:List (List Nat))(h:l.length<=az):newlR (l.map λa=>⟨bn a,true,true⟩)=some ⟨aC l,true,true⟩:=je bn l h λθ=>rfl
theorem q7{a b:SExpr}{x y:List Nat}(h1:aa Φ a σ=some ⟨bn x,true,true⟩)(h2:aa Φ b σ=some ⟨bn y,true,true⟩):aa Φ (.list [a,b]) σ=some ⟨aC [x,y],true,true⟩:=ev_list (evs_cons h1 (evs_cons h2 evs_nil)) (eU [x,y] (by show 2<=az;decide))
theorem ev_rs{e:SExpr}{s:Str}{h:Nat}{bs:List (List Nat)}{k:Nat}(hs:s=sg h)(he:aa Φ e σ=some ⟨aC bs,true,true⟩)(hl:σ.length=k)(hb:bs.length<=10):aa Φ (.comp (.mkR s (.var k)) e) σ=some ⟨aj ((LP.rs h bs).map ru),true,true⟩:=by
 refine ev_compP (A:=List Nat) (dec:=bn) (l:=bs) (f:=λb=>⟨ao (ru (h,b)),true,true⟩) he rfl (λb θ=>?_) ?_
 .rw[hs]
  exact wO (ev_var (qe hl))
 .have e:((LP.rs h bs).map ru).map (λr=>RV.mk (ao r) true true)=bs.map λb=>⟨ao (ru (h,b)),true,true⟩:=by
   show((bs.map λb=>(h,b)).map ru).map _=_
   rw[Fe,Fe];rfl
  rw[<-e]
  exact dF (by rw[EN];delta LP.rs;rw[EN];exact EK hb (by decide))
theorem vw{a b:List Rule}(h:a.length+b.length<=az):og .Add ⟨aj a,true,true⟩ ⟨aj b,true,true⟩=some ⟨aj (a++b),true,true⟩:=by
 show newl (true&&true) (true&&true) (a.map ao++b.map ao)=_
 rw[<-Fc]
 delta newl
 rw[if_pos (by rw[EN,EQ];exact h)]
 split<;>rfl
theorem ev_addG{a b:SExpr}{x y:List CRule}(h1:aa Φ a σ=some ⟨aj (x.map ru),true,true⟩)(h2:aa Φ b σ=some ⟨aj (y.map ru),true,true⟩)(h:x.length<=100/\y.length<=100):aa Φ (.bin .Add a b) σ=some ⟨aj ((x++y).map ru),true,true⟩:=by
 rw[Fc]
 exact ev_bin h1 h2 (vw (by rw[EN,EN];exact EK (E8 h.1 h.2) (by decide)))
end
theorem ey(h:Nat)(bs:List (List Nat)):(LP.rs h bs).length=bs.length:=by delta LP.rs;rw[EN]
theorem sS:("S":Str)=sg 83:=by decide +kernel
theorem sA:("A":Str)=sg 65:=by decide +kernel
theorem sT:("T":Str)=sg 84:=by decide +kernel
theorem sZ:("Z":Str)=sg 90:=by decide +kernel
noncomputable def tt(d:PV):Option RV:=some ⟨d,true,true⟩
noncomputable def bE(f:Nat->Option RV):Sig:=(Fd 54).map f
noncomputable def upf(f:Nat->Option RV)(x:Nat)(r:Option RV):Nat->Option RV:=λi=>cond (IH i x) r (f i)
theorem dE(f:Nat->Option RV):(bE f).length=54:=by delta bE;rw[EN,Fk]
theorem gv{f:Nat->Option RV}{i:Nat}{r:Option RV}(hi:Ix i 54=true)(h:f i=r):(bE f)[i]?= some r:=by
 have hi:i<54:=HF hi
 delta bE
 rw[EZ,GT hi,<-h];rfl
theorem dC(f:Nat->Option RV)(x:Nat)(r:Option RV):(bE f).set x r=bE (upf f x r):=by
 refine Hy λi=>?_
 delta bE
 rw[GN,EZ,EZ,EN,Fk]
 rcases Gp i 54 with h | h
 .rw[GT h]
  by_cases e:x=i
  .subst e
   rw[if_pos rfl,if_pos h]
   show some r=some (cond (IH x x) r (f x))
   rw[Nat.beq_refl x];rfl
  .rw[if_neg e]
   show some (f i)=some (cond (IH i x) r (f i))
   rw[show IH i x=false from GO.mpr λq=>e (IC q).symm];rfl
 .rw[FN (by rw[Fk];exact h)]
  by_cases e:x=i
  .subst e
   rw[if_pos rfl,if_neg (Gc.mpr h)];rfl
  .rw[if_neg e];rfl
section
variable{Φ:FTab}{f:Nat->Option RV}{n:Nat}{ts:List SStmt}{o:Out}
theorem fv{i:Nat}{r:RV}(h:f i=some r)(hi:Ix i 54=true):aa Φ (.var i) (bE f)=some r:=ev_var (gv hi h)
theorem fq_set{x:Nat}{e:SExpr}{r:RV}(he:aa Φ e (bE f)=some r)(hc:r.c=true)(h:aexecs Φ n ts (bE (upf f x (some r)))=some o):aexecs Φ n (.set x e::ts) (bE f)=some o:=am he hc (by rw[dC];exact h)
theorem ga{x:Nat}{e:SExpr}{r:RV}(he:aa Φ e (bE f)=some r)(hc:r.c=true)(h:aexecs Φ n ts (bE (upf f x (some r)))=some o):aexecs Φ n (.setc x e::ts) (bE f)=some o:=o7 he hc (by rw[dC];exact h)
theorem iV{c:SExpr}{x:Nat}{e:SExpr}{k:Bool}{r:RV}(hc:aa Φ c (bE f)=some (at1 (.bool k)))(h1:k=true->aa Φ e (bE f)=some r)(hr:r.c=true)(h2:k=false->f x=some r)(hx:Ix x 54=true)(h:aexecs Φ n ts (bE (upf f x (some r)))=some o):aexecs Φ n (.ife c [.set x e] []::ts) (bE f)=some o:=xu hc h1 hr (λq=>gv hx (h2 q)) (by rw[dC];exact h)
theorem fo{i:Nat}{r:RV}{l:Sig}(h:f i=some r)(hi:Ix i 54=true):aa Φ (.var i) (bE f++l)=some r:=ev_var (Ao (gv hi h))
theorem fe{r:RV}:aa Φ (.var 54) (bE f++[some r])=some r:=ev_var (qe (dE f))
theorem CU{r:RV}{y:Option RV}:aa Φ (.var 54) (bE f++[some r,y])=some r:=ev_var (xj (dE f))
theorem Cc{r:RV}{y:Option RV}:aa Φ (.var 55) (bE f++[y,some r])=some r:=ev_var (xP (dE f))
end
noncomputable def f0(ns:List Int):Nat->Option RV:=λi=>cond (IH i 0) (some ⟨ar ns,false,true⟩) none
theorem zV(ns:List Int):C6 53 [ar ns]=bE (f0 ns):=rfl
noncomputable def aG(g:List CRule):PV:=aj (g.map ru)
noncomputable def f1(ns:List Int):Nat->Option RV:=upf (upf (upf (upf (upf (upf (upf (upf (upf (f0 ns) 1 (tt (.int (pk ns 0 4)))) 2 (tt (aC (LPof ns).zb))) 3 (tt (aC (LPof ns).sb))) 4 (tt (aC (LPof ns).ab))) 5 (tt (aC (LPof ns).tb))) 6 (tt (aG (LPof ns).cgG))) 7 (tt (aG (LPof ns).cgH))) 8 (tt (aG (LPof ns).cgJ))) 9 (tt (aG (LPof ns).cgJ))
section
variable{Φ:FTab}{σ:Sig}{n:Nat}{ts:List SStmt}{o:Out}
theorem gg{bs:List (List Nat)}{i:Nat}{b:List Nat}{f c:Bool}(h:bs[i]?= some b):d4 ⟨aC bs,f,c⟩ (.int i)=some ⟨bn b,f,c⟩:=jJ (f:=bn) h
theorem ev_sfromBs{e:SExpr}{bs:List (List Nat)}(h:aa Φ e σ=some ⟨aC bs,true,true⟩)(hb:bs.length<=10)(i:Nat):aa Φ (.sfrom e (.int i)) σ=some ⟨aC (bs.drop i),true,true⟩:=by
 refine bind_to h (bind_to (a:=at1 (.int i)) ai (bind_to (a:=bs.map bn) rfl (bind_to (a:=(i:Int)) rfl ?_)))
 show(if 0<=(i:Int)then newl true true ((bs.map bn).drop (i:Int).toNat)else none)=_
 rw[if_pos (Fy i),FT,<-Hl]
 delta newl
 rw[if_pos (by rw[EN,FW];exact EK (HY _ _) (EK hb (by decide)))]
 split<;>rfl
theorem yY{e:SExpr}{g:List CRule}(h:aa Φ e σ=some ⟨aG g,true,true⟩){k:Nat}(hl:σ.length=k)(hg:∀r∈g,r.2.length<=2)(hn:g.length<=10):aa Φ (.comp (.cpy false k) e) σ=some ⟨aG g,true,true⟩:=by
 refine ev_compP (A:=CRule) (dec:=λr=>ao (ru r)) (l:=g) (f:=λr=>⟨ao (ru r),true,true⟩) h (by show some ((g.map ru).map ao)=_;rw[Fe];rfl) (λr hr=>?_) ?_
 .exact vh (f:=true) (c:=true) (by rw[qe hl];rfl) (iT _)
 .have e:(g.map ru).map (λr=>RV.mk (ao r) true true)=g.map λr=>⟨ao (ru r),true,true⟩:=by rw[Fe];rfl
  rw[<-e]
  exact dF (by rw[EN];exact EK hn (by decide))
end
theorem Aw(ns:List Int):(LPof ns).cgJ.length<=8:=by
 rw[yp (fx ns)];exact Fo (fx ns).zn 6
theorem jeq(p:LP):((LP.rs 90 (p.zb.take 1)++p.cgG)++LP.rs 90 (p.zb.drop 1))++p.cgH=p.cgJ:=by delta LP.cgJ;rw[Fj]
theorem BO{Φ:FTab}(H:Di Φ){ns:List Int}(h17:17<=ns.length){n:Nat}{o:Out}(K:aexecs Φ n (bh.drop 10) (bE (f1 ns))=some o):aexecs Φ n bh (bE (f0 ns))=some o:=by
 have O:=fx ns
 have sc:∀i,i<17->i<ns.length:=λi hi=>EX hi h17
 have bl:∀M:List (List Nat),(∀b∈M,b.length<=2)->∀k,(M.getD k []).length<=2:=λM hM k=>by
  rcases Gp k M.length with h | h
  .exact hM _ (dk _ h)
  .rw[Ha,FN h];exact Fi _
 have bS:=bl SM (by decide +kernel)
 have bA:=bl AM (by decide +kernel)
 have bT:=bl TM (by decide +kernel)
 delta bh
 refine bH (ev_cmp (r:=at1 (.int ns.length)) (q:=at1 (.int 17)) (dt (n:=ns.length) (fv (r:=⟨ar ns,false,true⟩) rfl rfl) (by show some (ns.map PV.int).length=_;rw[EN])) ai (congrArg some (decide_eq_false (GB.mpr (Go.mpr h17))))) ?_
 refine fq_set (r:=at1 (.int (pk ns 0 4))) (bo H (i:=0) (gv rfl rfl) ai (sc 0 (by decide)) (by decide)) rfl ?_
 refine ga (r:=⟨aC (LPof ns).zb,true,true⟩) (ev_compP (A:=List Nat) (dec:=uX) (l:=(LPof ns).zb) (f:=λb=>⟨bn b,true,true⟩) (r:=⟨jm (LPof ns).zb,false,true⟩) (ev_idx (nZ H.joins) (fv (r:=at1 (.int (pk ns 0 4))) rfl rfl) (nQ (d:=jm (LPof ns).zb) (by rw[EZ];exact congrArg (Option.map jm) (dM (l:=JM) [] (cD ns 0 (n:=4) (by decide)))))) rfl (λb hb=>aR fe (dZ (O.z1 b hb).1)) (eU _ (EK O.zn (by decide)))) rfl ?_
 refine fq_set (r:=⟨aC (LPof ns).sb,true,true⟩) (q7 (aR (fZ H.ms (bo H (i:=1) (gv rfl rfl) ai (sc 1 (by decide)) (by decide)) (cD ns 1 (by decide))) (dZ (bS _))) (aR (fZ H.ms (bo H (i:=2) (gv rfl rfl) ai (sc 2 (by decide)) (by decide)) (cD ns 2 (by decide))) (dZ (bS _)))) rfl ?_
 refine fq_set (r:=⟨aC (LPof ns).ab,true,true⟩) (q7 (aR (fZ H.ma (bo H (i:=3) (gv rfl rfl) ai (sc 3 (by decide)) (by decide)) (cD ns 3 (by decide))) (dZ (bA _))) (aR (fZ H.ma (bo H (i:=4) (gv rfl rfl) ai (sc 4 (by decide)) (by decide)) (cD ns 4 (by decide))) (dZ (bA _)))) rfl ?_
 refine fq_set (r:=⟨aC (LPof ns).tb,true,true⟩) (q7 (aR (fZ H.mt (bo H (i:=5) (gv rfl rfl) ai (sc 5 (by decide)) (by decide)) (cD ns 5 (by decide))) (dZ (bT _))) (aR (fZ H.mt (bo H (i:=6) (gv rfl rfl) ai (sc 6 (by decide)) (by decide)) (cD ns 6 (by decide))) (dZ (bT _)))) rfl ?_
 refine fq_set (r:=⟨aG (LPof ns).cgG,true,true⟩) (ev_addG (ev_rs sS (fv rfl rfl) (dE _) (show 2<=10 by decide)) (ev_rs sA (fv rfl rfl) (dE _) (show 2<=10 by decide)) ⟨by rw[ey];show 2<=100;decide,by rw[ey];show 2<=100;decide⟩) rfl ?_
 refine ga (r:=⟨aG (LPof ns).cgH,true,true⟩) (ev_rs sT (fv rfl rfl) (dE _) (show 2<=10 by decide)) rfl ?_
 have hz:∀k,((LPof ns).zb.drop k).length<=2:=λk=>by rw[FW];exact EK (HY _ _) O.zn
 have l1:(LP.rs 90 ((LPof ns).zb.take 1)).length<=1:=by rw[zO O];exact ER _
 have l2:(LPof ns).cgG.length<=4:=Fm (f8 O)
 have l3:(LP.rs 90 ((LPof ns).zb.drop 1)).length<=2:=by rw[ey];exact hz 1
 have l4:(LPof ns).cgH.length<=2:=Fm (mA O)
 obtain⟨z0,hz0⟩:∃z0,(LPof ns).zb[0]?= some z0:=by
  cases e:(LPof ns).zb with
  | nil=>exact absurd e (LP.Ok.zne O)
  | cons a l=>exact⟨a,rfl⟩
 have hz1:(LPof ns).zb.take 1=[z0]:=by
  cases e:(LPof ns).zb with
  | nil=>exact absurd e (LP.Ok.zne O)
  | cons a l=>rw[e]at hz0;cases hz0;rfl
 have la1:=EK (Fm EQ) (E8 l1 l2)
 have la2:=EK (Fm EQ) (E8 la1 l3)
 have hj:∀σ:Sig,σ.length=54->σ[2]?= some (tt (aC (LPof ns).zb))->σ[6]?= some (tt (aG (LPof ns).cgG))->σ[7]?= some (tt (aG (LPof ns).cgH))->aa Φ (.bin .Add (.bin .Add (.bin .Add (.list [.mkR "Z" (.idx (.var 2) (.int 0))]) (.var 6)) (.comp (.mkR "Z" (.var 54)) (.sfrom (.var 2) (.int 1)))) (.var 7)) σ=some ⟨aG (LPof ns).cgJ,true,true⟩:=by
  intro σ hl h2 h6 h7
  rw[<-jeq]
  refine ev_addG (ev_addG (ev_addG ?_ (ev_var h6) ⟨EK l1 (by decide),EK l2 (by decide)⟩) (ev_rs sZ (ev_sfromBs (ev_var h2) (EK O.zn (by decide)) 1) hl (EK (hz 1) (by decide))) ⟨EK la1 (by decide),EK l3 (by decide)⟩) (ev_var h7) ⟨EK la2 (by decide),EK l4 (by decide)⟩
  rw[hz1,sZ]
  exact ev_list (rs:=[⟨ao (ru (90,z0)),true,true⟩]) (evs_cons (wO (ev_idx (ev_var h2) ai (gg (i:=0) hz0))) evs_nil) rfl
 refine fq_set (r:=⟨aG (LPof ns).cgJ,true,true⟩) (hj _ (dE _) (gv rfl rfl) (gv rfl rfl) (gv rfl rfl)) rfl ?_
 refine ga (r:=⟨aG (LPof ns).cgJ,true,true⟩) (yY (fv rfl rfl) (dE _) (λr hr=>(oQ O hr).1) (EK (Aw ns) (by decide))) rfl ?_
 exact K
section
variable{Φ:FTab}{σ:Sig}{n:Nat}{ts:List SStmt}{o:Out}
theorem dJ{ks:List Str}{es:List SExpr}{rs:List RV}(h:bB Φ es σ=some rs)(hn:ks.Nodup)(hl:ks.length=rs.length)(hr:rs.length<=100):aa Φ (.dict ks es) σ=some ⟨.dict ks (rs.map (·.d)),rs.all (·.f),rs.all (·.c)⟩:=bind_to h (if_pos ⟨hn,hl,hr⟩)
theorem kL{a b:List Nat}(h:a.map sg=b.map sg):a=b:=map_inj (λθ θ=>sg_inj) h
theorem zg{w:List Nat}{ws:List (List Nat)}:W w∈ws.map W↔w∈ws:=⟨λh=>by
  obtain⟨x,hx,e⟩:=E9.mp h
  exact oP e▸hx,E4⟩
theorem nW(xs:List Str):bf .NotEq (ae xs) (ae xs)=some false:=by rw[jD,decide_eq_true rfl];rfl
theorem j5{a b:SExpr}{t:List SStmt}{xs ys:List Str}{f c f' c':Bool}(h1:aa Φ a σ=some ⟨ae xs,f,c⟩)(h2:aa Φ b σ=some ⟨ae ys,f',c'⟩)(e:xs=ys)(h:aexecs Φ n ts σ=some o):aexecs Φ n (.ife (.cmp .NotEq a b) t []::ts) σ=some o :=
 bH (ev_cmp h1 h2 (by subst e;exact nW xs)) h
theorem eq_nil(xs:List Str):bf .Eq (ae xs) (.list [])=some (decide (xs=[])):=by
 show(if(ae xs).depth+(ae []).depth<=40 then aeq (ae xs) (ae [])else EL)=_
 rw[cC,cC,if_pos (by decide),jW]
theorem oR(c:Nat)(l:List Nat):bf .In (.str (sg c)) (.str (W l))=some (decide (c∈l)):=by
 have h:=sx c l
 have e:bf .NotIn (.str (sg c)) (.str (W l))=(bf .In (.str (sg c)) (.str (W l))).map (!·):=rfl
 rw[e]at h
 obtain⟨b,h1,h2⟩:=aq h
 rw[h1,<-Hd b,h2,Hd]
theorem wc{a b c d:SExpr}{r:RV}{A B:Type}{dec:A->PV}{dec2:B->PV}{q:A->RV}{m:A->List B}{f:B->Str}{p:B->Bool}{l:List A}(h1:aa Φ b σ=some r)(h2:aJ r.d=some (l.map dec))
  (h3:∀x∈l,aa Φ c (σ++[some (part r (dec x)),none])=some (q x)) (h3':∀x∈l,aJ (q x).d=some ((m x).map dec2)) (h4:∀x∈l,∀y∈m x,aa Φ d (σ++[some (part r (dec x)),some (part (q x) (dec2 y))])=some (at1 (.bool (p y))))
  (h5:∀x∈l,∀y∈m x,aa Φ a (σ++[some (part r (dec x)),some (part (q x) (dec2 y))])=some (at1 (.str (f y)))) (h:(metS (((l.flatMap m).filter p).map f)).length<5):aa Φ (.sset2 a b c d) σ=some ⟨ae (bv (metS (((l.flatMap m).filter p).map f))),true,true⟩:=by
 refine bind_to h1 (bind_to h2 (bind_to (a:=((l.flatMap m).filter p).map λy=>at1 (.str (f y))) ?_ ?_))
 .clear h h2
  induction l with
  | nil=>rfl
  | cons x l ih =>
   have hx:=EP (a:=x) (l:=l)
   rw[Gg,EV,Fc]
   refine bind_to (bind_to (h3 x hx) (bind_to (h3' x hx) ?_)) (bind_to (ih (λy hy=>h3 y (EO _ hy)) (λy hy=>h3' y (EO _ hy)) (λy hy=>h4 y (EO _ hy)) (λy hy=>h5 y (EO _ hy))) rfl)
   have h4:=h4 x hx
   have h5:=h5 x hx
   generalize m x=ms at h4 h5 ⊢
   induction ms with
   | nil=>rfl
   | cons y ms ih2 =>
    have e:((y::ms).filter p).map (λy=>at1 (.str (f y)))=(if p y then [at1 (.str (f y))]else [])++(ms.filter p).map λy=>at1 (.str (f y)):=by
     rw[Gl]
     cases p y<;>rfl
    rw[e]
    refine bind_to (a:=if p y then [at1 (.str (f y))]else []) (bind_to (h4 y (EP ..)) (bind_to (a:=p y) rfl ?_)) (bind_to (ih2 (λz hz=>h4 z (EO _ hz)) (λz hz=>h5 z (EO _ hz))) rfl)
    cases hp:p y with
    | true=>exact bj (h5 y (EP ..))
    | false=>rfl
 .have e:(((l.flatMap m).filter p).map λy=>at1 (.str (f y))).map (·.d)=(((l.flatMap m).filter p).map f).map PV.str:=by rw[Fe,Fe];rfl
  show(cu ((((l.flatMap m).filter p).map λy=>at1 (.str (f y))).map (·.d))).bind _=_
  rw[e]
  exact bind_to (fc _) (if_pos h)
end
theorem oI{cg:List CRule}{ks:List Nat}{h0:Nat}(G:GOk cg ks h0):(cQ cg ks).length<32:=by
 have:=(sf (cg:=cg) (ks:=ks)).1.length_le_of_subset (l₂:=Uc.map sg) λx hx=>by
  obtain⟨c,rfl⟩:=tokL_sg hx
  refine cps λGq hGq=>?_
  obtain⟨h1,r,hr,hc⟩:=mem_tokL.mp hx
  refine hGq ?_
  clear hGq
  exact G.bU (ru r) (E4 hr) _ (E4 hc)
 exact ES this (by decide)
section
variable{p:LP}
theorem k1A:(PV.dict ["A"] [au p.la])=cJ [65] [p.la]:=by rw[sA];rfl
theorem k3A:(PV.dict ["A","S","T"] [au p.la,au p.ls,au p.lt])=cJ [65,83,84] [p.la,p.ls,p.lt]:=by rw[sA,sS,sT];rfl
theorem k4A:(PV.dict ["A","S","T","Z"] [au p.la,au p.ls,au p.lt,au p.lz])=cJ [65,83,84,90] [p.la,p.ls,p.lt,p.lz]:=by rw[sA,sS,sT,sZ];rfl
theorem BS:("!":Str)=W [33]:=by decide +kernel
theorem A5:("":Str)=W []:=by decide +kernel
theorem Ce:("abc":Str)=W [97,98,99]:=by decide +kernel
theorem yr:(metS (((p.cgJ.flatMap (·.2)).filter zi).map sg)).length<5:=by
 have:=(bx (((p.cgJ.flatMap (·.2)).filter zi).map sg)).length_le_of_subset (l₂:=[97,98,99].map sg) λx hx=>by
  obtain⟨c,hc,rfl⟩:=E9.mp (bW.mp hx)
  exact E4 (of_decide_eq_true (Fh.mp hc).2)
 exact ES this (by decide)
theorem nd1:(["A"]:List Str).Nodup:=by decide +kernel
theorem nd3:(["A","S","T"]:List Str).Nodup:=by decide +kernel
theorem nd4:(["A","S","T","Z"]:List Str).Nodup:=by decide +kernel
theorem Bm{ks:List Nat}{vs:List (List (List Nat))}{c:Nat}{v:List (List Nat)}{f k:Bool}(h:aT (ks.map sg) vs (sg c)=some v):d4 ⟨cJ ks vs,f,k⟩ (.str (sg c))=some ⟨au v,f,k⟩:=by
 show(aT (ks.map sg) (vs.map au) (sg c)).map _=_
 rw[mh,h];rfl
theorem A6{c:Nat}(h:c∈hsJ):aT ([65,83,84,90].map sg) [p.la,p.ls,p.lt,p.lz] (sg c)=some (p.K c):=by
 delta hsJ at h
 simp only[EU,FC,or_false]at h
 rcases h with rfl | rfl | rfl | rfl<;>(rw[look_sgs];simp only[look_sgs];rfl)
end
noncomputable def f2(ns:List Int):Nat->Option RV:=upf (upf (upf (upf (upf (upf (upf (upf (upf (f1 ns) 10 (tt (au (LPof ns).la))) 11 (tt (au (LPof ns).lt0))) 12 (tt (.bool (LPof ns).dead))) 11 (tt (au (LPof ns).lt))) 13 (tt (au (LPof ns).ls))) 14 (tt (cJ [65,83,84] [(LPof ns).la,(LPof ns).ls,(LPof ns).lt]))) 15 (tt (au (LPof ns).lz))) 16 (tt (cJ [65,83,84,90] [(LPof ns).la,(LPof ns).ls,(LPof ns).lt,(LPof ns).lz]))) 17 (tt (ae (LPof ns).lit))
theorem Ck{Φ:FTab}(H:Di Φ){ns:List Int}{n:Nat}{o:Out}(K:aexecs Φ n (bh.drop 22) (bE (f2 ns))=some o):aexecs Φ n (bh.drop 10) (bE (f1 ns))=some o:=by
 have O:=fx ns
 refine fq_set (r:=⟨au (LPof ns).la,true,true⟩) (ev_callT (rs:=[⟨aC (LPof ns).ab,true,true⟩,⟨cJ [] [],true,true⟩]) (evs_cons (fv rfl rfl) (evs_cons (dJ (ks:=[]) evs_nil .nil rfl (by decide)) evs_nil)) (H.up _ _ _ _ (yO (λb hb=>Hz (O.a1 b hb).1) (λb θ c θ=>sW.mono (by decide) (by decide)) rfl (show 2<=10 by decide)))) rfl ?_
 have hc:∀b:List Nat,bf .NotEq (bn b) (ae [("T":Str)])=some (!decide (b=[84])):=λb=>by
  rw[sT]
  refine(jD (b.map sg) [sg 84]).trans (congrArg (λz=>some (!z)) (decide_eq_decide.mpr ⟨λe=>kL e,λe=>by rw[e];rfl⟩))
 refine fq_set (r:=⟨au (LPof ns).lt0,true,true⟩) (ev_callT (rs:=[⟨aC (LPof ns).tb',true,true⟩,⟨cJ [] [],true,true⟩]) (evs_cons (eE (A:=List Nat) (dec:=bn) (l:=(LPof ns).tb) (p:=λb=>!decide (b=[84])) (f:=λb=>⟨bn b,true,true⟩) (r:=⟨aC (LPof ns).tb,true,true⟩) (fv rfl rfl) rfl (λb θ=>ev_cmp (r:=⟨bn b,true,true⟩) fe (ev_list (evs_cons aE evs_nil) (a0 _)) (hc b)) (λb θ θ=>fe) (eU _ (EK (mJ O) (by decide)))) (evs_cons (dJ (ks:=[]) evs_nil .nil rfl (by decide)) evs_nil)) (H.up _ _ _ _ (yO (λb hb=>Hz (tb'_b O hb).1) (λb θ c θ=>sW.mono (by decide) (by decide)) rfl (EK (mJ O) (by decide))))) rfl ?_
 have hd:decide ((LPof ns).lt0.map W=[])=(LPof ns).dead:=by
  delta LP.dead
  cases(LPof ns).lt0<;>rfl
 refine fq_set (r:=at1 (.bool (LPof ns).dead)) (by rw[<-hd];exact ev_cmp (r:=⟨au (LPof ns).lt0,true,true⟩) (fv rfl rfl) (ev_list evs_nil rfl) (eq_nil _)) rfl ?_
 refine iV (r:=⟨au (LPof ns).lt,true,true⟩) (k:=(LPof ns).dead) (fv rfl rfl) (λe=>?_) rfl (λe=>?_) rfl ?_
 .have:(LPof ns).lt=[[33]]:=by delta LP.lt;rw[if_pos e]
  rw[this,BS]
  exact ev_list (evs_cons aE evs_nil) (a0 _)
 .have:(LPof ns).lt=(LPof ns).lt0:=by delta LP.lt;rw[e];rfl
  rw[this];rfl
 refine fq_set (r:=⟨au (LPof ns).ls,true,true⟩) (ev_callT (rs:=[⟨aC (LPof ns).sb,true,true⟩,⟨cJ [65] [(LPof ns).la],true,true⟩]) (evs_cons (fv rfl rfl) (evs_cons (by rw[<-k1A];exact dJ (rs:=[⟨au (LPof ns).la,true,true⟩]) (evs_cons (fv rfl rfl) evs_nil) nd1 rfl (show 1<=100 by decide)) evs_nil)) (H.up _ _ _ _ (yO (λb hb=>(O.s1 b hb).1) (λb θ c θ=>(Bj O).mono (by decide) (by decide)) rfl (show 2<=10 by decide)))) rfl ?_
 refine fq_set (r:=⟨cJ [65,83,84] [(LPof ns).la,(LPof ns).ls,(LPof ns).lt],true,true⟩) (by rw[<-k3A];exact dJ (rs:=[⟨au (LPof ns).la,true,true⟩,⟨au (LPof ns).ls,true,true⟩,⟨au (LPof ns).lt,true,true⟩]) (evs_cons (fv rfl rfl) (evs_cons (fv rfl rfl) (evs_cons (fv rfl rfl) evs_nil))) nd3 rfl (show 3<=100 by decide)) rfl ?_
 refine fq_set (r:=⟨au (LPof ns).lz,true,true⟩) (ev_callT (evs_cons (fv rfl rfl) (evs_cons (fv rfl rfl) evs_nil)) (H.up _ _ _ _ (yO (λb hb=>(O.z1 b hb).1) (λb θ c θ=>Ap O) rfl (EK O.zn (by decide))))) rfl ?_
 refine fq_set (r:=⟨cJ [65,83,84,90] [(LPof ns).la,(LPof ns).ls,(LPof ns).lt,(LPof ns).lz],true,true⟩) (by rw[<-k4A];exact dJ (rs:=[⟨au (LPof ns).la,true,true⟩,⟨au (LPof ns).ls,true,true⟩,⟨au (LPof ns).lt,true,true⟩,⟨au (LPof ns).lz,true,true⟩]) (evs_cons (fv rfl rfl) (evs_cons (fv rfl rfl) (evs_cons (fv rfl rfl) (evs_cons (fv rfl rfl) evs_nil)))) nd4 rfl (show 4<=100 by decide)) rfl ?_
 refine fq_set (r:=⟨ae (LPof ns).lit,true,true⟩) (wc (A:=CRule) (B:=Nat) (dec:=λr=>ao (ru r)) (dec2:=λc=>.str (sg c)) (q:=λr=>⟨bn r.2,true,true⟩) (m:=(·.2)) (f:=sg) (p:=zi) (l:=(LPof ns).cgJ) (r:=⟨aG (LPof ns).cgJ,true,true⟩) (fv rfl rfl) (by show some (((LPof ns).cgJ.map ru).map ao)=_;rw[Fe];rfl) (λr θ=>ev_idx (r:=⟨ao (ru r),true,true⟩) CU ai (bK _ _ _)) (λr θ=>by show some ((r.2.map sg).map PV.str)=_;rw[Fe];rfl) (λr θ c θ=>ev_cmp (r:=at1 (.str (sg c))) Cc aE (by rw[Ce];exact oR c _)) (λr θ c θ=>Cc) yr) rfl ?_
 refine j5 (ev_callT (evs_cons (fv rfl rfl) evs_nil) (H.up _ _ _ _ ((GJ O).tokV (by decide)))) (fv rfl rfl) (Cg O) ?_
 refine j5 (ev_callT (evs_cons (ev_callT (evs_cons (fv rfl rfl) evs_nil) (H.up _ _ _ _ ((GH O).tokV (by decide)))) (evs_cons (ev_callT (evs_cons (fv rfl rfl) evs_nil) (H.up _ _ _ _ ((GG O).tokV (by decide)))) evs_nil)) (H.up _ _ _ _ ((CH (m:=0) (by decide)).merged _ _ (FZ (II (oI (GG O)) _) (Nat.add_lt_add_right (oI (GH O)) 32))))) (fv rfl rfl) (tokGH O) ?_
 refine j5 (f':=true) (c':=true) (ys:=(hsJ.filter λc=>decide ([]∈(LPof ns).K c)).map sg) (ev_callT (evs_cons (fv rfl rfl) evs_nil) (H.up _ _ _ _ (B1 O))) ?_ rfl ?_
 .refine eE (A:=Nat) (dec:=λc=>.str (sg c)) (l:=hsJ) (p:=λc=>decide ([]∈(LPof ns).K c)) (f:=λc=>at1 (.str (sg c))) (r:=⟨.tup (hsJ.map λc=>.str (sg c)),true,true⟩) ?_ rfl (λc hcm=>?_) (λc θ θ=>fe) ?_
  .rw[sA,sS,sT,sZ]
   exact gI (rs:=hsJ.map λc=>at1 (.str (sg c))) (evs_cons aE (evs_cons aE (evs_cons aE (evs_cons aE evs_nil)))) (by show 4<=az;decide)
  .refine(ev_cmp (r:=at1 (.str "")) (q:=⟨au ((LPof ns).K c),true,true⟩) aE (ev_idx (r:=⟨cJ [65,83,84,90] [(LPof ns).la,(LPof ns).ls,(LPof ns).lt,(LPof ns).lz],true,true⟩) (fo rfl rfl) fe (Bm (A6 hcm))) (in_encS _ _)).trans ?_
   rw[A5]
   exact congrArg (λz=>some (at1 (.bool z))) (decide_eq_decide.mpr zg)
  .have e:((hsJ.filter λc=>decide ([]∈(LPof ns).K c)).map λc=>at1 (.str (sg c)))=((hsJ.filter λc=>decide ([]∈(LPof ns).K c)).map sg).map λx=>at1 (.str x):=by rw[Fe];rfl
   rw[e]
   delta newlR
   have e2:∀l:List Str,(l.map λx=>at1 (.str x)).map (·.d)=l.map PV.str:=λl=>by rw[Fe];rfl
   rw[e2]
   exact dn _ _ _ (by rw[EN];exact EK (Fn ..) (show 4<=az by decide))
 exact K
theorem look_zip{α:Type}:∀{ks:List Str} {ds:List α} {k:Str} {d:α},ks.Nodup->(k,d)∈ks.zip ds->aT ks ds k=some d:=by
 intro l0
 induction l0 with
 | nil=>exact @λθ θ θ θ h=>absurd h FC
 | cons x ks ih =>
  intro ds k d hn h
  cases ds with
  | nil=>cases h
  | cons y ds =>
  have hn:=List.nodup_cons.mp hn
  rw[GZ]at h
  rw[look_cons]
  rcases EU.mp h with e | h2
  .cases e;exact if_pos rfl
  .have hk:k∈ks:=(Iy h2).1
   rw[if_neg λe:x=k=>hn.1 (by rw[e];exact hk)]
   exact ih hn.2 h2
theorem rK{ks:List Str}{ds:List PV}(hn:ks.Nodup)(hd:PV.depths ds<=10)(he:∀d∈ds,aeq d d=some true):bf .NotEq (.dict ks ds) (.dict ks ds)=some false:=by
 show(if(PV.depths ds+1)+(PV.depths ds+1)<=40 then(if pq (ks,ds) (ks,ds)then some false else EL)else EL)=_
 have hm:pq (ks,ds) (ks,ds)=true:=by
  delta pq
  rw[decide_eq_true rfl,Gy,Fs]
  intro x hx
  delta hitAt
  rw[look_zip hn hx]
  show((aeq x.2 x.2).getD false)=true
  rw[he _ (Iy hx).2];rfl
 rw[if_pos (EK (E8 (Fz hd) (Fz hd)) (by decide)),if_pos hm]
theorem oz(xs:List Str):aeq (ae xs) (ae xs)=some true:=by rw[jW,decide_eq_true rfl]
theorem cE{ds:List PV}{k:Nat}(h:∀d∈ds,d.depth<=k):PV.depths ds<=k:=by
 induction ds with
 | nil=>exact Fi _
 | cons d ds ih=>exact Nat.max_le.mpr ⟨h d (EP ..),ih λx hx=>h x (EO _ hx)⟩
theorem xg{ks:List Str}{vs:List (List Str)}(hn:ks.Nodup):bf .NotEq (aQ ks vs) (aQ ks vs)=some false:=by
 refine rK hn (EK (cE (k:=1) λd hd=>?_) (by decide)) λd hd=>?_
 .obtain⟨x,_,rfl⟩:=E9.mp hd
  exact Fm (cC x)
 .obtain⟨x,_,rfl⟩:=E9.mp hd
  exact oz x
section
variable{Φ:FTab}{σ:Sig}{n:Nat}{ts:List SStmt}{o:Out}
theorem pass_D{a b:SExpr}{t:List SStmt}{ks:List Str}{vs:List (List Str)}{f c f' c':Bool}(h1:aa Φ a σ=some ⟨aQ ks vs,f,c⟩)(h2:aa Φ b σ=some ⟨aQ ks vs,f',c'⟩)(hn:ks.Nodup)(h:aexecs Φ n ts σ=some o):aexecs Φ n (.ife (.cmp .NotEq a b) t []::ts) σ=some o :=
 bH (ev_cmp h1 h2 (xg hn)) h
theorem nSA:([83,65].map sg).Nodup:=by decide +kernel
theorem nT:([84].map sg).Nodup:=by decide +kernel
theorem nZSAT:(ksJ.map sg).Nodup:=by decide +kernel
theorem ev_dSA {a b:SExpr} {x y:List Str} (h1:aa Φ a σ=some ⟨ae x,true,true⟩) (h2:aa Φ b σ=some ⟨ae y,true,true⟩):aa Φ (.dict ["S","A"] [a,b]) σ=some ⟨aQ ([83,65].map sg) [x,y],true,true⟩:=by
 rw[sS,sA]
 exact dJ (rs:=[⟨ae x,true,true⟩,⟨ae y,true,true⟩]) (evs_cons h1 (evs_cons h2 evs_nil)) nSA rfl (show 2<=100 by decide)
theorem ev_dT {a:SExpr} {x:List Str} (h1:aa Φ a σ=some ⟨ae x,true,true⟩):aa Φ (.dict ["T"] [a]) σ=some ⟨aQ ([84].map sg) [x],true,true⟩:=by
 rw[sT]
 exact dJ (rs:=[⟨ae x,true,true⟩]) (evs_cons h1 evs_nil) nT rfl (show 1<=100 by decide)
theorem ev_dZ {a b c d:SExpr} {r1 r2 r3 r4:PV} (h1:aa Φ a σ=some ⟨r1,true,true⟩) (h2:aa Φ b σ=some ⟨r2,true,true⟩) (h3:aa Φ c σ=some ⟨r3,true,true⟩) (h4:aa Φ d σ=some ⟨r4,true,true⟩):aa Φ (.dict ["Z","S","A","T"] [a,b,c,d]) σ=some ⟨.dict (ksJ.map sg) [r1,r2,r3,r4],true,true⟩:=by
 rw[sZ,sS,sA,sT]
 exact dJ (rs:=[⟨r1,true,true⟩,⟨r2,true,true⟩,⟨r3,true,true⟩,⟨r4,true,true⟩]) (evs_cons h1 (evs_cons h2 (evs_cons h3 (evs_cons h4 evs_nil)))) nZSAT rfl (show 4<=100 by decide)
theorem zh:aK [[36]]=[("$":Str)]:=by decide +kernel
theorem ev_let (H:Di Φ) {a:SExpr} {ws:List (List Nat)} {f c:Bool} (h:aa Φ a σ=some ⟨au ws,f,c⟩) (hw:∀w∈ws,∀d∈w,d∈Al):aa Φ (.call "_law_letters" [a]) σ=some ⟨ae (aK ws),true,true⟩:=ev_callT (evs_cons h evs_nil) (H.up _ _ _ _ (uA hw))
theorem mY(H:Di Φ){s:Str}{h:Nat}{b c d:SExpr}{bs ends:List (List Nat)}{ks:List Nat}{vs:List (List (List Nat))}(hs:s=sg h)(hb:aa Φ b σ=some ⟨aC bs,true,true⟩)(hc:aa Φ c σ=some ⟨cJ ks vs,true,true⟩)(hd:aa Φ d σ=some ⟨au ends,true,true⟩)(h1:∀b∈bs,b.length<=2)(hk:∀b∈bs,∀c∈b,Sz 8 2 (kn ks vs c))(hl:ks.length=vs.length)(hn:bs.length<=10)(he:Sz 100 100 ends) :
  aa Φ (.call "_law_after" [.str s,b,c,d]) σ=some ⟨au (aftW (kn ks vs) h bs ends),true,true⟩:=by
 rw[hs]
 exact ev_callT (evs_cons aE (evs_cons hb (evs_cons hc (evs_cons hd evs_nil)))) (H.up _ _ _ _ (Ag h1 hk hl hn he))
theorem vO:aa Φ (.list [.str "$"]) σ=some ⟨au [[36]],true,true⟩:=by
 rw[dollar_sg]
 exact ev_list (evs_cons aE evs_nil) (a0 _)
end
noncomputable def f3(ns:List Int):Nat->Option RV:=upf (upf (upf (upf (upf (upf (upf (f2 ns) 18 (tt (ae (aK (LPof ns).ls)))) 19 (tt (ae (aK (LPof ns).la)))) 20 (tt (ae (aK (LPof ns).lt)))) 21 (tt (au (LPof ns).al))) 22 (tt (au (LPof ns).bs))) 23 (tt (au (LPof ns).bt))) 24 (tt (au (LPof ns).ba))
theorem Cv{Φ:FTab}(H:Di Φ){ns:List Int}{n:Nat}{o:Out}(K:aexecs Φ n (bh.drop 34) (bE (f3 ns))=some o):aexecs Φ n (bh.drop 22) (bE (f2 ns))=some o:=by
 have O:=fx ns
 have k3:∀(bs:List (List Nat)),∀b∈bs,∀c∈b,Sz 8 2 (kn [65,83,84] [(LPof ns).la,(LPof ns).ls,(LPof ns).lt] c):=λbs b θ c θ=>Ap O
 have s100:Sz 100 100 [[36]]:=Bi.mono (by decide) (by decide)
 have zl:∀b∈(LPof ns).zb,b.length<=2:=λb hb=>(O.z1 b hb).1
 have sl:∀b∈(LPof ns).sb,b.length<=2:=λb hb=>(O.s1 b hb).1
 refine fq_set (r:=⟨ae (aK (LPof ns).ls),true,true⟩) (ev_let H (fv rfl rfl) (inS O)) rfl ?_
 refine fq_set (r:=⟨ae (aK (LPof ns).la),true,true⟩) (ev_let H (fv rfl rfl) (inA O)) rfl ?_
 refine fq_set (r:=⟨ae (aK (LPof ns).lt),true,true⟩) (ev_let H (fv rfl rfl) (inT O)) rfl ?_
 refine pass_D (ev_callT (evs_cons (fv rfl rfl) evs_nil) (H.up _ _ _ _ (fstG O))) (ev_dSA (fv rfl rfl) (fv rfl rfl)) nSA ?_
 refine pass_D (ev_callT (evs_cons (fv rfl rfl) evs_nil) (H.up _ _ _ _ (fstH O))) (ev_dT (fv rfl rfl)) nT ?_
 refine pass_D (ev_callT (evs_cons (fv rfl rfl) evs_nil) (H.up _ _ _ _ (fstJ O))) (ev_dZ (ev_let H (fv rfl rfl) (inZ O)) (fv rfl rfl) (fv rfl rfl) (fv rfl rfl)) nZSAT ?_
 refine fq_set (r:=⟨au (LPof ns).al,true,true⟩) (mY H sA (fv rfl rfl) (fv rfl rfl) vO sl (k3 _) rfl (show 2<=10 by decide) s100) rfl ?_
 refine pass_D (ev_callT (evs_cons (fv rfl rfl) evs_nil) (H.up _ _ _ _ (Ch O))) (ev_dSA (x:=aK [[36]]) (by rw[zh];exact ev_list (evs_cons aE evs_nil) (a0 _)) (ev_let H (fv rfl rfl) (inAl O))) nSA ?_
 refine fq_set (r:=⟨au (LPof ns).bs,true,true⟩) (mY H sS (fv rfl rfl) (fv rfl rfl) vO zl (k3 _) rfl (EK O.zn (by decide)) s100) rfl ?_
 refine fq_set (r:=⟨au (LPof ns).bt,true,true⟩) (mY H sT (fv rfl rfl) (fv rfl rfl) vO zl (k3 _) rfl (EK O.zn (by decide)) s100) rfl ?_
 refine fq_set (r:=⟨au (LPof ns).ba,true,true⟩) (mY H sA (fv rfl rfl) (fv rfl rfl) (fv rfl rfl) sl (k3 _) rfl (show 2<=10 by decide) ((B8 O).mono (by decide) (by decide))) rfl ?_
 refine pass_D (ev_callT (evs_cons (fv rfl rfl) evs_nil) (H.up _ _ _ _ (Co O))) (ev_dZ (r1:=ae (aK [[36]])) (by rw[zh];exact ev_list (evs_cons aE evs_nil) (a0 _)) (ev_let H (fv rfl rfl) (inBs O)) (ev_let H (fv rfl rfl) (inBa O)) (ev_let H (fv rfl rfl) (inBt O))) nZSAT ?_
 exact K
theorem aeqs_self{ds:List PV}(h:∀d∈ds,aeq d d=some true):eC ds ds=some true:=by
 induction ds with
 | nil=>rfl
 | cons d ds ih=>exact(sJ _ _ _ _).trans (bind_to (h d (EP ..)) (bind_to (ih λx hx=>h x (EO _ hx)) rfl))
theorem vX(r:Rule):aeq (ao r) (ao r)=some true:=aeqs_self (ds:=[.str r.1,ae r.2]) (eR (by show some (r.1==r.1)=_;rw[xy,decide_eq_true rfl]) (oz r.2))
theorem qf(r:Rule):(ao r).depth<=2:=Fz (cE (k:=1) (eR (Fi _) (Fm (cC r.2))))
theorem ng{x:PV}(hd:x.depth<=10)(h:aeq x x=some true):bf .NotEq x x=some false:=by
 show(if x.depth+x.depth<=40 then ane x x else EL)=_
 rw[if_pos (EK (E8 hd hd) (by decide))]
 delta ane
 rw[h];rfl
theorem vI(g:List Rule):aeq (aj g) (aj g)=some true:=aeqs_self λd hd=>by
 obtain⟨r,_,rfl⟩:=E9.mp hd
 exact vX r
theorem mK(g:List Rule):bf .NotEq (aj g) (aj g)=some false:=ng (EK (Fz (cE (k:=2) λd hd=>by
  obtain⟨r,_,rfl⟩:=E9.mp hd
  exact qf r)) (by decide)) (vI g)
theorem od(bs:List (List Nat)):(aC bs).depth<=2:=Fz (mG bs trivial)
theorem oE(bs:List (List Nat)):bf .NotEq (aC bs) (.list [])=some (!decide (bs=[])):=by
 show(if(aC bs).depth+1<=40 then ane (aC bs) (.list [])else EL)=_
 rw[if_pos (EK (Fz (od bs)) (by decide))]
 cases bs<;>rfl
section
variable{Φ:FTab}{σ:Sig}{f:Nat->Option RV}{n:Nat}{ts:List SStmt}{o:Out}
theorem qu{a b:SExpr}{t:List SStmt}{g:List CRule}{f c f' c':Bool}(h1:aa Φ a σ=some ⟨aG g,f,c⟩)(h2:aa Φ b σ=some ⟨aG g,f',c'⟩)(h:aexecs Φ n ts σ=some o):aexecs Φ n (.ife (.cmp .NotEq a b) t []::ts) σ=some o :=
 bH (ev_cmp h1 h2 (mK _)) h
theorem yb{c:SExpr}{x y:Nat}{e e':SExpr}{k:Bool}{r r':RV}(hc:aa Φ c (bE f)=some (at1 (.bool k)))(h1:k=true->aa Φ e (bE f)=some r)(hr:r.c=true)(h2:k=true->aa Φ e' (bE (upf f x (some r)))=some r')(hr':r'.c=true)(h3:k=false->f x=some r)(h4:k=false->upf f x (some r) y=some r')(hx:Ix x 54=true)(hy:Ix y 54=true)(h:aexecs Φ n ts (bE (upf (upf f x (some r)) y (some r')))=some o):aexecs Φ n (.ife c [.set x e,.set y e'] []::ts) (bE f)=some o:=by
 refine seq_if hc rfl (σ':=bE (upf (upf f x (some r)) y (some r'))) ?_ h
 cases k with
 | true=>exact fq_set (h1 rfl) hr (fq_set (h2 rfl) hr' ah)
 | false =>
  refine ah.trans (congrArg (λs=>some (Out.next s)) ?_)
  rw[<-dC,kJ (gv hy (h4 rfl)),<-dC,kJ (gv hx (h3 rfl))]
theorem nj{cg:List CRule}{P:CRule->Bool}{c:SExpr}(h9:f 9=tt (aG cg))(hl:cg.length<=10)(hc:∀r∈cg,aa Φ c (bE f++[some ⟨ao (ru r),true,true⟩])=some (at1 (.bool (P r)))):aa Φ (.compIf (.var 54) (.var 9) c) (bE f)=some ⟨aG (cg.filter P),true,true⟩:=by
 refine eE (A:=CRule) (dec:=λr=>ao (ru r)) (l:=cg) (p:=P) (f:=λr=>⟨ao (ru r),true,true⟩) (r:=⟨aG cg,true,true⟩) (fv h9 rfl) (by show some ((cg.map ru).map ao)=_;rw[Fe];rfl) hc (λr θ θ=>fe) ?_
 have e:((cg.filter P).map ru).map (λr=>RV.mk (ao r) true true)=(cg.filter P).map λr=>⟨ao (ru r),true,true⟩:=by rw[Fe];rfl
 rw[<-e]
 exact dF (by rw[EN];exact EK (Fn ..) (EK hl (by decide)))
theorem vz{s:Str}{h:Nat}{r:CRule}(hs:s=sg h):aa Φ (.cmp .Eq (.idx (.var 54) (.int 0)) (.str s)) (bE f++[some ⟨ao (ru r),true,true⟩])=some (at1 (.bool (decide (r.1=h)))):=by
 rw[hs,<-nU]
 exact ev_cmp (r:=at1 (.str (sg r.1))) (ev_idx (r:=⟨ao (ru r),true,true⟩) fe ai (lO _ _ _)) aE rfl
end
section
variable{p:LP}
theorem CJ(o:p.Ok):p.cgJ.filter (λr=>decide (r.1=83))=LP.rs 83 p.sb:=by
 delta LP.cgJ LP.cgG LP.cgH
 rw[EV,EV,EV,EV,aB λb θ=>rfl,bL λb θ=>rfl,aB λb θ=>rfl,aB λb θ=>rfl,aB λb θ=>rfl]
 simp
theorem B9(o:p.Ok):p.cgJ.filter (λr=>decide (r.1=65))=LP.rs 65 p.ab:=by
 delta LP.cgJ LP.cgG LP.cgH
 rw[EV,EV,EV,EV,aB λb θ=>rfl,aB λb θ=>rfl,bL λb θ=>rfl,aB λb θ=>rfl,aB λb θ=>rfl]
 simp
theorem BX(o:p.Ok):p.cgJ.filter (λr=>decide (r.1=84)&&(!p.dead&&true))=p.th:=by
 delta LP.th
 cases p.dead with
 | true =>
  rw[if_pos rfl]
  exact Hw.mpr λr θ=>by simp
 | false =>
  rw[if_neg (by decide)]
  delta LP.cgJ LP.cgG LP.cgH
  rw[EV,EV,EV,EV,aB λb θ=>rfl,aB λb θ=>rfl,aB λb θ=>rfl,aB λb θ=>rfl,bL λb θ=>rfl]
  simp
noncomputable def oF(d z:Bool):List Str:=([("A":Str),"S"]++(if d then []else [("T":Str)]))++(if z then []else [("Z":Str)])
theorem wJ:(hsJ.filter p.liv).map sg=oF p.dead (decide (p.zs=[])):=by
 delta LP.liv oF hsJ
 cases p.dead<;>cases decide (p.zs=[])<;>decide +kernel
noncomputable def xt(u:Bool):List Str:=(if u then [("A":Str)]else [])++[("S":Str),"T","Z"]
theorem xF:(hsJ.filter p.rch).map sg=xt p.used:=by
 delta LP.rch xt hsJ
 cases p.used<;>decide +kernel
end
noncomputable def f4(ns:List Int):Nat->Option RV:=upf (upf (upf (upf (upf (upf (upf (upf (upf (upf (upf (upf (f3 ns) 25 (tt (.bool (LPof ns).used))) 26 (tt (aC (LPof ns).zs))) 27 (tt (ae ["A","S"]))) 27 (tt (ae ([("A":Str),"S"]++(if(LPof ns).dead then []else [("T":Str)]))))) 27 (tt (ae (oF (LPof ns).dead (decide ((LPof ns).zs=[])))))) 28 (tt (ae ["S","T","Z"]))) 29 (tt (aG (LP.rs 83 (LPof ns).sb)))) 28 (tt (ae (xt (LPof ns).used)))) 29 (tt (aG (LPof ns).tg))) 30 (tt (aG (LPof ns).th))) 31 (tt (aG []))) 31 (tt (aG (LPof ns).whole))
set_option maxHeartbeats 1000000 in
theorem Cw{Φ:FTab}(H:Di Φ){ns:List Int}{n:Nat}{o:Out}(K:aexecs Φ n (bh.drop 50) (bE (f4 ns))=some o):aexecs Φ n (bh.drop 34) (bE (f3 ns))=some o:=by
 have O:=fx ns
 have jl:(LPof ns).cgJ.length<=10:=EK (Aw ns) (by decide)
 have hu:∀a b:List Nat,decide (("A":Str)∈a.map sg++b.map sg)=(decide (65∈a)||(decide (65∈b)||false)):=λa b=>by
  rw[sA,<-Fc]
  rw[show decide (sg 65∈(a++b).map sg)=decide (65∈a++b) from decide_eq_decide.mpr mem_sgs,show decide (65∈a++b)=decide (65∈a\/65∈b) from decide_eq_decide.mpr E0,GR,ID]
 have sl:∀i,(SM.getD (pk ns i 6) []).length<=2:=λi=>(by decide +kernel:∀b∈SM,b.length<=2) _ (dk _ (cD ns i (n:=6) (by decide)))
 refine fq_set (r:=at1 (.bool (LPof ns).used)) ((ev_cmp aE (ev_bin (r:=⟨bn (SM.getD (pk ns 1 6) []),true,true⟩) (q:=⟨bn (SM.getD (pk ns 2 6) []),true,true⟩) (ev_idx (fv rfl rfl) ai (gg (i:=0) rfl)) (ev_idx (fv rfl rfl) ai (gg (i:=1) rfl)) (dg (by rw[EQ,EN,EN];exact EK (E8 (sl 1) (sl 2)) (by decide)))) (in_encS _ _)).trans (congrArg (λz=>some (at1 (.bool z))) (hu _ _))) rfl ?_
 refine ga (r:=⟨aC (LPof ns).zs,true,true⟩) (eE (A:=List Nat) (dec:=bn) (l:=(LPof ns).zb) (p:=λb=>!((LPof ns).dead&&decide (84∈b))) (f:=λb=>⟨bn b,true,true⟩) (r:=⟨aC (LPof ns).zb,true,true⟩) (fv rfl rfl) rfl (λb θ=>?_) (λb θ θ=>fe) (eU _ (EK (Fn ..) (EK O.zn (by decide))))) rfl ?_
 .refine(iR (ev_band (ands_cons (k:=(LPof ns).dead) (fo rfl rfl) (ands_cons (ev_cmp aE (r:=at1 (.str "T")) (q:=⟨bn b,true,true⟩) fe (in_encS _ _)) ands_nil)))).trans ?_
  rw[sT,show decide (sg 84∈b.map sg)=decide (84∈b) from decide_eq_decide.mpr mem_sgs,FY]
 refine fq_set (r:=⟨ae ["A","S"],true,true⟩) (ev_list (evs_cons aE (evs_cons aE evs_nil)) rfl) rfl ?_
 refine iV (k:=!(LPof ns).dead) (r:=⟨ae ([("A":Str),"S"]++(if(LPof ns).dead then []else [("T":Str)])),true,true⟩) (iR (fv rfl rfl)) (λe=>?_) rfl (λe=>?_) rfl ?_
 .rw[show(LPof ns).dead=false from by rw[<-Hd (LPof ns).dead,e];rfl]
  exact ev_bin (fv rfl rfl) (ev_list (evs_cons aE evs_nil) (a0 _)) (dg (show 3<=az by decide))
 .rw[show(LPof ns).dead=true from by rw[<-Hd (LPof ns).dead,e];rfl];rfl
 refine iV (k:=!decide ((LPof ns).zs=[])) (r:=⟨ae (oF (LPof ns).dead (decide ((LPof ns).zs=[]))),true,true⟩) (ev_cmp (r:=⟨aC (LPof ns).zs,true,true⟩) (fv rfl rfl) (ev_list evs_nil rfl) (oE _)) (λe=>?_) rfl (λe=>?_) rfl ?_
 .rw[show decide ((LPof ns).zs=[])=false from by rw[<-Hd (decide _),e];rfl]
  exact ev_bin (fv rfl rfl) (ev_list (evs_cons aE evs_nil) (a0 _)) (dg (by cases(LPof ns).dead<;>decide))
 .rw[show decide ((LPof ns).zs=[])=true from by rw[<-Hd (decide _),e];rfl]
  delta oF
  rw[if_pos rfl,Fb];rfl
 refine j5 (ev_callT (evs_cons (fv rfl rfl) evs_nil) (H.up _ _ _ _ (zA O).1)) (fv rfl rfl) wJ ?_
 refine fq_set (r:=⟨ae ["S","T","Z"],true,true⟩) (ev_list (evs_cons aE (evs_cons aE (evs_cons aE evs_nil))) rfl) rfl ?_
 refine ga (r:=⟨aG (LP.rs 83 (LPof ns).sb),true,true⟩) (by rw[<-CJ O];exact nj rfl jl λr θ=>vz sS) rfl ?_
 refine yb (k:=(LPof ns).used) (r:=⟨ae (xt (LPof ns).used),true,true⟩) (r':=⟨aG (LPof ns).tg,true,true⟩) (fv rfl rfl) (λe=>?_) rfl (λe=>?_) rfl (λe=>?_) (λe=>?_) rfl rfl ?_
 .rw[e]
  exact ev_bin (ev_list (evs_cons aE evs_nil) (a0 _)) (fv rfl rfl) (dg (show 4<=az by decide))
 .delta LP.tg
  rw[if_pos e]
  exact ev_addG (fv rfl rfl) (by rw[<-B9 O];exact nj rfl jl λr θ=>vz sA) ⟨by rw[ey,O.sn];decide,by rw[ey,O.an];decide⟩
 .rw[e];rfl
 .have:(LPof ns).tg=LP.rs 83 (LPof ns).sb:=by delta LP.tg;rw[e,if_neg (by decide),Fb]
  rw[this];rfl
 refine j5 (ev_callT (evs_cons (fv rfl rfl) evs_nil) (H.up _ _ _ _ (BZ O))) (fv rfl rfl) xF ?_
 refine qu (ev_callT (evs_cons (fv rfl rfl) evs_nil) (H.up _ _ _ _ (Bw O))) (fv rfl rfl) ?_
 refine ga (r:=⟨aG (LPof ns).th,true,true⟩) (by rw[<-BX O];exact nj rfl jl λr θ=>ev_band (ands_cons (vz sT) (ands_cons (iR (k:=(LPof ns).dead) (fo rfl rfl)) ands_nil))) rfl ?_
 refine qu (ev_callT (evs_cons (fv rfl rfl) evs_nil) (H.up _ _ _ _ (trimH O))) (fv rfl rfl) ?_
 refine fq_set (r:=⟨aG [],true,true⟩) (ev_list evs_nil rfl) rfl ?_
 refine iV (k:=!decide ((LPof ns).zs=[])) (r:=⟨aG (LPof ns).whole,true,true⟩) (ev_cmp (r:=⟨aC (LPof ns).zs,true,true⟩) (fv rfl rfl) (ev_list evs_nil rfl) (oE _)) (λe=>?_) rfl (λe=>?_) rfl ?_
 .have hz:¬(LPof ns).zs=[]:=λq=>by rw[q]at e;cases e
  delta LP.whole
  rw[if_neg hz]
  have zl:(LPof ns).zs.length<=2:=EK (Fn ..) O.zn
  have tl:(LPof ns).tg.length<=4:=by
   delta LP.tg
   rw[EQ,ey,O.sn]
   split
   .rw[ey,O.an];decide
   .decide
  have hl:(LPof ns).th.length<=2:=by
   delta LP.th
   split
   .exact Fi _
   .rw[ey,O.tn];decide
  refine ev_addG (ev_addG (ev_rs sZ (fv rfl rfl) (dE _) (EK zl (by decide))) (fv rfl rfl) ⟨by rw[ey];exact EK zl (by decide),EK tl (by decide)⟩) (fv rfl rfl) ⟨?_,EK hl (by decide)⟩
  rw[EQ,ey]
  exact EK (E8 zl tl) (by decide)
 .have hz:(LPof ns).zs=[]:=of_decide_eq_true (by rw[<-Hd (decide _),e];rfl)
  have:(LPof ns).whole=[]:=by delta LP.whole;rw[if_pos hz]
  rw[this];rfl
 refine qu (ev_callT (evs_cons (fv rfl rfl) evs_nil) (H.up _ _ _ _ (trimJ O))) (fv rfl rfl) ?_
 exact K
noncomputable def ul(ns:List Int):List Nat:=UM.getD (pk ns 7 7) []
noncomputable def um(ns:List Int):List Nat:=VM.getD (pk ns 8 3) []
noncomputable def fG(ns:List Int):List Nat:=cond ((pk ns 0 4:Int)==1) (um ns++ul ns) (ul ns++um ns)
theorem Bl(ns:List Int):(ul ns).length<=2/\33∉ul ns:=(by decide +kernel:∀b∈UM,b.length<=2/\33∉b) _ (dk _ (cD ns 7 (n:=7) (by decide)))
theorem AQ(ns:List Int):(um ns).length<=1/\33∉um ns:=(by decide +kernel:∀b∈VM,b.length<=1/\33∉b) _ (dk _ (cD ns 8 (n:=3) (by decide)))
theorem A9(ns:List Int):(fG ns).length<=3/\33∉fG ns:=by
 obtain⟨u1,u2⟩:=Bl ns
 obtain⟨v1,v2⟩:=AQ ns
 delta fG
 cases((pk ns 0 4:Int)==1)
 .exact⟨EK (Fm EQ) (E8 u1 v1),λh=>(E0.mp h).elim u2 v2⟩
 .exact⟨EK (Fm EQ) (E8 v1 u1),λh=>(E0.mp h).elim v2 u2⟩
theorem yC(w:List Nat):mid w 0 w.length=w:=by delta mid;rw[I9,Jn,GV]
theorem pQ(w:List Nat)(ws:List (List Nat)):fq w ws 0 w.length=decide (w∈ws):=by delta fq;rw[yC,decide_eq_true (Fi _),Gy]
section
variable{p:LP}
theorem BQ (o:p.Ok) {u:List Nat} (hu:u.length<=100) (h33:33∉u):Ft 0 "derives" [aG p.cgG,ae (u.map sg)]=some (.bool (decide (u∈p.ls)),true):=by
 obtain⟨t,S,ht⟩:=(GG o).spV hu
 refine((GG o).derV hu ht (by decide)).trans ?_
 rw[(xM o).span h33 S (X:=83) (by decide) (Fi _) (ER _),KS,pQ]
theorem BV (o:p.Ok) {u:List Nat} (hu:u.length<=100) (h33:33∉u):Ft 0 "derives" [aG p.cgH,ae (u.map sg)]=some (.bool (decide (u∈p.lt)),true):=by
 obtain⟨t,S,ht⟩:=(GH o).spV hu
 refine((GH o).derV hu ht (by decide)).trans ?_
 rw[(lngH o).span h33 S (X:=84) (by decide) (Fi _) (ER _),KT,pQ]
noncomputable def TJ(p:LP)(w:List Nat):Tab:=λx i j=>fq w (p.K (x.cps.toList.headD 0)) i j
theorem spJ (o:p.Ok) {w:List Nat} (hw:w.length<=100) (h33:33∉w):Ft 0 "span_tables" [aG p.cgJ,ae (w.map sg)]=some (aI (ksJ.map sg) w.length (TJ p w),true):=by
 obtain⟨t,S,ht⟩:=(GJ o).spV hw
 refine(ht 0 (by decide)).trans ?_
 rw[gU (t':=TJ p w) λx hx i j hi hj=>?_]at ⊢
 obtain⟨c,hc,rfl⟩:=E9.mp hx
 exact(lngJ o).span h33 S hc hi hj
end
theorem t5(b:Bool):aeq (.bool b) (.bool b)=some true:=by cases b<;>rfl
theorem sL(n:Nat)(q:Nat->Bool):aeq (ij n q) (ij n q)=some true:=aeqs_self λd hd=>by
 obtain⟨r,_,rfl⟩:=E9.mp hd
 exact t5 _
theorem vF(n:Nat)(q:Nat->Nat->Bool):aeq (jy n q) (jy n q)=some true:=aeqs_self λd hd=>by
 obtain⟨r,_,rfl⟩:=E9.mp hd
 exact sL _ _
theorem qZ(n:Nat)(q:Nat->Nat->Bool):(jy n q).depth<=2:=Fz (cE (k:=1) λd hd=>by
 obtain⟨r,_,rfl⟩:=E9.mp hd
 exact Fz (cE (k:=0) λd hd=>by
  obtain⟨r,_,rfl⟩:=E9.mp hd
  exact ER _))
theorem tV{ks:List Str}{n:Nat}{t:Tab}(hn:ks.Nodup):bf .NotEq (aI ks n t) (aI ks n t)=some false:=by
 refine rK hn (EK (cE (k:=2) λd hd=>?_) (by decide)) λd hd=>?_
 .obtain⟨x,_,rfl⟩:=E9.mp hd
  exact qZ _ _
 .obtain⟨x,_,rfl⟩:=E9.mp hd
  exact vF _ _
section
variable{Φ:FTab}{σ:Sig}{f:Nat->Option RV}{n:Nat}{ts:List SStmt}{o:Out}
theorem vJ{x:Str}{M:List (List Nat)}{e:SExpr}{k:Nat}(hg:Φ x []=some (BW M,true))(he:aa Φ e σ=some (at1 (.int k)))(hk:k<M.length):aa Φ (.idx (.glob x) e) σ=some (at1 (.str (W (M.getD k [])))) :=
 ev_idx (nZ hg) he (nQ (d:=.str (W (M.getD k []))) (by rw[EZ,dM [] hk];rfl))
theorem iv{w:List Nat}(h:w.length<=100):fY (at1 (.str (W w)))=some ⟨ae (w.map sg),true,true⟩:=by
 show(if(W w).length<=1000 then some (at1 (.list ((gy (W w)).map PV.str)))else none)=_
 rw[dj,sv,if_pos (EK h (by decide))];rfl
theorem rY(b:Bool):bf .NotEq (.bool b) (.bool b)=some false:=by cases b<;>rfl
theorem uP{a b:SExpr}{w:List Nat}{ws:List (List Nat)}(h1:aa Φ a σ=some (at1 (.str (W w))))(h2:aa Φ b σ=some ⟨au ws,true,true⟩):aa Φ (.cmp .In a b) σ=some (at1 (.bool (decide (w∈ws)))) :=
 (ev_cmp h1 h2 (in_encS _ _)).trans (congrArg (λz=>some (at1 (.bool z))) (decide_eq_decide.mpr zg))
end
noncomputable def f5(ns:List Int):Nat->Option RV:=upf (upf (upf (upf (upf (upf (upf (upf (f4 ns) 32 (tt (.str (W (ul ns))))) 33 (tt (.str (W (um ns))))) 34 (tt (.str (W (ul ns++um ns))))) 34 (tt (.str (W (fG ns))))) 35 (tt (.bool (decide (ul ns∈(LPof ns).ls))))) 36 (tt (.bool (decide (um ns∈(LPof ns).lt))))) 37 (tt (ae ((fG ns).map sg)))) 38 (tt (aI (ksJ.map sg) (fG ns).length (TJ (LPof ns) (fG ns))))
set_option maxHeartbeats 1000000 in
theorem CK{Φ:FTab}(H:Di Φ){ns:List Int}(h17:17<=ns.length){n:Nat}{o:Out}(K:aexecs Φ n (bh.drop 62) (bE (f5 ns))=some o):aexecs Φ n (bh.drop 50) (bE (f4 ns))=some o:=by
 have O:=fx ns
 have sc:∀i,i<17->i<ns.length:=λi hi=>EX hi h17
 have U:=Bl ns
 have V:=AQ ns
 have Wk:=A9 ns
 have u1:=EK U.1 (show 2<=100 by decide)
 have v1:=EK V.1 (show 1<=100 by decide)
 have w1:=EK Wk.1 (show 3<=100 by decide)
 refine fq_set (r:=at1 (.str (W (ul ns)))) (vJ H.mu (bo H (i:=7) (gv rfl rfl) ai (sc 7 (by decide)) (by decide)) (cD ns 7 (n:=7) (by decide))) rfl ?_
 refine fq_set (r:=at1 (.str (W (um ns)))) (vJ H.mv (bo H (i:=8) (gv rfl rfl) ai (sc 8 (by decide)) (by decide)) (cD ns 8 (n:=3) (by decide))) rfl ?_
 refine fq_set (r:=at1 (.str (W (ul ns++um ns)))) (ev_bin (fv rfl rfl) (fv rfl rfl) (vS (EK (E8 u1 v1) (by decide)))) rfl ?_
 refine iV (k:=((pk ns 0 4:Int)==1)) (r:=at1 (.str (W (fG ns)))) (ev_cmp (r:=at1 (.int (pk ns 0 4))) (q:=at1 (.int 1)) (fv rfl rfl) ai rfl) (λe=>?_) rfl (λe=>?_) rfl ?_
 .delta fG
  rw[e]
  exact ev_bin (fv rfl rfl) (fv rfl rfl) (vS (EK (E8 v1 u1) (by decide)))
 .delta fG
  rw[e];rfl
 refine fq_set (r:=at1 (.bool (decide (ul ns∈(LPof ns).ls)))) (ev_callT (evs_cons (fv rfl rfl) (evs_cons (aR (fv rfl rfl) (iv u1)) evs_nil)) (H.up _ _ _ _ (BQ O u1 U.2))) rfl ?_
 refine fq_set (r:=at1 (.bool (decide (um ns∈(LPof ns).lt)))) (ev_callT (evs_cons (fv rfl rfl) (evs_cons (aR (fv rfl rfl) (iv v1)) evs_nil)) (H.up _ _ _ _ (BV O v1 V.2))) rfl ?_
 refine bH (iR (k:=true) (ev_callT (rs:=[⟨.list ([decide (ul ns∈(LPof ns).ls),decide (um ns∈(LPof ns).lt)].map λx=>.bool x),true,true⟩]) (evs_cons (ev_list (evs_cons (fv rfl rfl) (evs_cons (fv rfl rfl) evs_nil)) (cF id [decide (ul ns∈(LPof ns).ls),decide (um ns∈(LPof ns).lt)] (show 2<=az by decide))) evs_nil) (H.up _ _ _ _ (wD (p:=id))))) ?_
 refine bH (ev_bor (k:=false) (ors_cons (k:=false) (ev_cmp (fv rfl rfl) (uP (fv rfl rfl) (fv rfl rfl)) (rY _)) (ors_cons (k:=false) (ev_cmp (fv rfl rfl) (uP (fv rfl rfl) (fv rfl rfl)) (rY _)) f7))) ?_
 refine fq_set (r:=⟨ae ((fG ns).map sg),true,true⟩) (aR (fv rfl rfl) (iv w1)) rfl ?_
 refine fq_set (r:=⟨aI (ksJ.map sg) (fG ns).length (TJ (LPof ns) (fG ns)),true,true⟩) (ev_callT (evs_cons (fv rfl rfl) (evs_cons (fv rfl rfl) evs_nil)) (H.up _ _ _ _ (spJ O w1 Wk.2))) rfl ?_
 have hsp:∀{f:Nat->Option RV} {e:SExpr} {ws:List (List Nat)},f 34=tt (.str (W (fG ns)))->aa Φ e (bE f)=some ⟨au ws,true,true⟩->aa Φ (.call "_law_spans" [.var 34,e]) (bE f)=some ⟨jy (fG ns).length (fq (fG ns) ws),true,true⟩:=λh34 he=>ev_callT (evs_cons (fv h34 rfl) (evs_cons he evs_nil)) (H.up _ _ _ _ (zW w1))
 refine bH (ev_cmp (r:=⟨aI (ksJ.map sg) (fG ns).length (TJ (LPof ns) (fG ns)),true,true⟩) (q:=⟨aI (ksJ.map sg) (fG ns).length (TJ (LPof ns) (fG ns)),true,true⟩) (fv rfl rfl) (ev_dZ (hsp rfl (fv rfl rfl)) (hsp rfl (fv rfl rfl)) (hsp rfl (fv rfl rfl)) (hsp rfl (fv rfl rfl))) (tV nZSAT)) ?_
 let q:Nat->Nat->Bool:=fq (fG ns) (LPof ns).lz
 let m:Nat->List Bool:=λi=>(Fd ((fG ns).length+1)).map (q i)
 let L:List Bool:=(Fd ((fG ns).length+1)).flatMap m
 have hL:L.length<=az:=by
  have h4:(Fd ((fG ns).length+1)).length<=4:=by rw[Fk];exact Fz Wk.1
  exact EK (rW (N:=4) λi θ=>by show(List.map _ _).length<=4;rw[EN];exact h4) (EK (FD 4 h4) (by decide))
 refine bH (iR (k:=true) (ev_callT (rs:=[⟨.list (L.map λx=>.bool x),true,true⟩]) (evs_cons ?_ evs_nil) (H.up _ _ _ _ (wD (p:=id))))) ?_
 .refine pA (A:=Nat) (B:=Bool) (dec:=λi=>ij (fG ns).length (q i)) (dec2:=PV.bool) (q:=λi=>⟨ij (fG ns).length (q i),true,true⟩) (m:=m) (f:=λθ b=>at1 (.bool b)) (l:=Fd ((fG ns).length+1)) (r:=⟨jy (fG ns).length q,true,true⟩) (ev_idx (r:=⟨aI (ksJ.map sg) (fG ns).length (TJ (LPof ns) (fG ns)),true,true⟩) (fv rfl rfl) aE ?_) rfl (λi θ=>CU) (λi θ=>?_) (λi θ b θ=>Cc) ?_
  .rw[sZ]
   exact idx_encTab (E4 (.head _))
  .show some ((Fd ((fG ns).length+1)).map λj=>PV.bool (q i j))=some (((Fd ((fG ns).length+1)).map (q i)).map PV.bool)
   rw[Fe];rfl
  .rw[<-IV]
   exact cF id L hL
 exact K
theorem mem_replL{c:Nat}{z:List Nat}:∀{l:List Nat} {x:Nat},x∈bk c z l->x∈z\/x∈l:=by
 intro l0
 induction l0 with
 | nil=>exact @λθ h=>by cases h
 | cons y l ih =>
  intro x h
  have h:x∈(if y=c then z++l else y::bk c z l):=h
  split at h
  .rcases E0.mp h with h | h
   .exact .inl h
   .exact .inr (EO _ h)
  .rcases EU.mp h with h | h
   .exact .inr (by rw[h];exact EP ..)
   .exact(ih h).imp id (EO _)
theorem stepC_of{g:List CRule}{form f:List Nat}{k:Int}(h:cN g form k=some f):∃r∈g,r.1∈form/\f=bk r.1 r.2 form:=by
 delta cN at h
 split at h
 .cases h
 .obtain⟨r,hr,h⟩:=ac h
  split at h
  .rename_i hm
   cases h
   exact⟨r,Fa hr,hm,rfl⟩
  .cases h
section
variable{p:LP}
theorem AZ(o:p.Ok)(l:List Int):aD (p.cgG.map ru) ([83,65].map sg) [sg 83] l=(carr p.cgG [83] l).map λf=>f.map sg:=by
 refine jn (g:=p.cgG) (ks:=[83,65]) (λr hr=>(GG o).hdm hr) (λform=>form=[83]\/∀x∈form,x∈[83,65]->x=65) (λform h=>?_) (λform k f h hs=>?_) l [83] (.inl rfl)
 .rcases h with rfl | h
  .exact⟨83,λx hx θ=>EM.mp hx⟩
  .exact⟨65,h⟩
 .obtain⟨r,hr,hm,rfl⟩:=stepC_of hs
  refine .inr λx hx hk=>?_
  have hk2:x=83\/x=65:=by simpa using hk
  rcases hk2 with rfl | rfl
  .exfalso
   rcases mem_cgG.mp hr with⟨h1,h2⟩ | ⟨h1,h2⟩
   .rcases h with rfl | h
    .have e:bk r.1 r.2 [83]=r.2++[]:=by rw[h1];rfl
     rw[e,Fb]at hx
     rcases(o.s1 _ h2).2 _ hx with e | e | e<;>cases e
    .have:=h r.1 hm (by rw[h1];decide)
     rw[h1]at this;cases this
   .rcases mem_replL hx with hx | hx
    .rcases(o.a1 _ h2).2 _ hx with e | e<;>cases e
    .rcases h with rfl | h
     .rw[h1]at hm;cases EM.mp hm
     .cases h 83 hx (by decide)
  .rfl
theorem repH(o:p.Ok)(l:List Int):aD (p.cgH.map ru) ([84].map sg) [sg 84] l=(carr p.cgH [84] l).map λf=>f.map sg :=
 jn (g:=p.cgH) (ks:=[84]) (λr hr=>(GH o).hdm hr) (λθ=>True) (λform θ=>⟨84,λx θ hx=>EM.mp hx⟩) (λθ θ θ θ θ=>trivial) l [84] trivial
structure Pt(p:LP)(X:Nat)(P:List CRule)(ksP:List Nat)(sh:Int)(mv:List Int):Prop where
 part:∃ok,Part p.cgJ P ksJ ksP sh ok/\∀k∈mv,ok k
 rep:aD (P.map ru) (ksP.map sg) [sg X] mv=(carr P [X] mv).map λf=>f.map sg
 hX:X∈ksP
 h90:90∉ksP
theorem Pt.go{X:Nat}{P:List CRule}{ksP:List Nat}{sh:Int}{mv:List Int}(h:Pt p X P ksP sh mv){pre post:List Nat}(hpre:sd ksJ pre)(hpost:∀x∈post,x∉ksP) :
  (∃done,carr P [X] mv=some done/\Bu ksJ ksP done/\∀more,aD (p.cgJ.map ru) (ksJ.map sg) ((pre++[X]++post).map sg) (mv.map (shf sh)++more)=aD (p.cgJ.map ru) (ksJ.map sg) ((pre++done++post).map sg) more) \/
  (carr P [X] mv=none/\∀more,aD (p.cgJ.map ru) (ksJ.map sg) ((pre++[X]++post).map sg) (mv.map (shf sh)++more)=none):=by
 obtain⟨ok,Q,hok⟩:=h.part
 have hr:=h.rep
 rcases xC Q hpre hpost mv [X] hok (λx hx θ=>by rw[EM.mp hx];exact h.hX)with⟨done,h1,h2,h3⟩ | ⟨h1,h2⟩
 .rw[show([X].map sg)=[sg X] from rfl,hr]at h1
  obtain⟨d,hd,e⟩:=aq h1
  exact .inl ⟨done,by rw[hd,kL e],h2,h3⟩
 .rw[show([X].map sg)=[sg X] from rfl,hr]at h1
  refine .inr ⟨?_,h2⟩
  cases e:carr P [X] mv with
  | none=>rfl
  | some d=>rw[e]at h1;cases h1
noncomputable def hot(l:List Nat):Bool:=l.any λc=>decide (c∈[83,65,84])
noncomputable def nxF(form done:Option (List Nat))(waits:Bool)(mv:List Int):Option (List Nat):=if waits&&!mv.isEmpty then none else form.bind λa=>done.map λd=>a++d
noncomputable def xN(form done:Option (List Nat))(waits:Bool)(mv:List Int):Bool:=match nxF form done waits mv with
 | none=>waits
 | some θ=>waits||hot (done.getD [])
theorem Ad{ksP l:List Nat}(h:Bu ksJ ksP l)(h90:90∉ksP):hot l=false↔sd ksJ l:=by
 delta hot
 rw[List.any_eq_false]
 constructor
 .intro hn x hx hk
  have hk2:x=90\/x=83\/x=65\/x=84:=by simpa [ksJ]using hk
  rcases hk2 with rfl | rfl | rfl | rfl
  .exact h90 (h _ hx hk)
  .exact hn _ hx (by decide)
  .exact hn _ hx (by decide)
  .exact hn _ hx (by decide)
 .intro hn x hx hd
  have hd:=of_decide_eq_true hd
  refine hn x hx ?_
  have hk2:x=83\/x=65\/x=84:=by simpa using hd
  rcases hk2 with rfl | rfl | rfl<;>decide
theorem oZ{X:Nat}{P:List CRule}{ksP:List Nat}{sh:Int}{mv:List Int}(h:Pt p X P ksP sh mv):aD (p.cgJ.map ru) (ksJ.map sg) [sg X] (mv.map (shf sh))=(nxF (some []) (carr P [X] mv) false mv).map λf=>f.map sg:=by
 have e:mv.map (shf sh)=mv.map (shf sh)++[]:=(Fb _).symm
 rw[e]
 rcases h.go (pre:=[]) (post:=[]) (λx hx=>by cases hx) (λx hx=>by cases hx)with⟨done,h1,_,h3⟩ | ⟨h1,h2⟩
 .rw[h1]
  refine(h3 []).trans ?_
  show some (([]++done++[]).map sg)=some (([]++done).map sg)
  rw[Fb]
 .rw[h1];exact h2 []
theorem l5{X Y:Nat}{P P':List CRule}{ksP ksP':List Nat}{sh sh':Int}{mv mv':List Int}(h:Pt p X P ksP sh mv)(h':Pt p Y P' ksP' sh' mv')(hd:∀x∈ksP,x∉ksP'):aD (p.cgJ.map ru) (ksJ.map sg) ([X,Y].map sg) (mv.map (shf sh)++mv'.map (shf sh'))=(nxF (nxF (some []) (carr P [X] mv) false mv) (carr P' [Y] mv') (xN (some []) (carr P [X] mv) false mv) mv').map λf=>f.map sg:=by
 rcases h.go (pre:=[]) (post:=[Y]) (λx hx=>by cases hx) (λx hx hm=>by rw[EM.mp hx]at hm;exact hd _ hm h'.hX)with⟨done,h1,ho,h3⟩ | ⟨h1,h2⟩
 .rw[h1]
  refine(h3 _).trans ?_
  rw[Gv]
  show _=(nxF (some ([]++done)) (carr P' [Y] mv') (false||hot done) mv').map _
  rw[Gv,G6]
  have hno:=Ad ho h.h90
  cases hh:hot done with
  | false =>
   have e:mv'.map (shf sh')=mv'.map (shf sh')++[]:=(Fb _).symm
   have e2:done++[Y]=done++[Y]++[]:=(Fb _).symm
   rw[e,e2]
   rcases h'.go (pre:=done) (post:=[]) (hno.mp hh) (λx hx=>by cases hx)with⟨done',h4,_,h5⟩ | ⟨h4,h5⟩
   .rw[h4]
    refine(h5 []).trans ?_
    show some ((done++done'++[]).map sg)=some ((done++done').map sg)
    rw[Fb]
   .rw[h4];exact h5 []
  | true =>
   have hn:¬sd ksJ done:=λq=>by rw[hno.mpr q]at hh;cases hh
   cases mv' with
   | nil=>rfl
   | cons k l =>
    obtain⟨ok,Q,hok⟩:=h'.part
    exact s4 Q hn (λx hx hm=>hd x (ho x hx (Q.sub x hm)) hm) (hok k (EP ..))
 .rw[h1]
  refine(h2 _).trans ?_
  show none=(nxF none (carr P' [Y] mv') false mv').map _
  delta nxF
  rw[G8];rfl
end
theorem tc(l:List Int):(l.map PV.int).all PV.atom=true:=by
 induction l with
 | nil=>rfl
 | cons x l ih=>exact ih
theorem mB(f c:Bool)(l:List Int)(h:l.length<=az):newl f c (l.map PV.int)=some ⟨ar l,true,true⟩:=by
 delta newl
 rw[if_pos (by rw[EN];exact h),if_pos (tc l)];rfl
theorem jG(l:List Int)(h:l.length<=az):newlR (l.map λx=>at1 (.int x))=some ⟨ar l,true,true⟩:=by
 delta newlR
 have e2:(l.map λx=>at1 (.int x)).map (·.d)=l.map PV.int:=by rw[Fe];rfl
 rw[e2]
 exact mB _ _ _ h
theorem eS(l:List Int):(ar l).depth<=1:=Fz (cE (k:=0) λd hd=>by
 obtain⟨x,_,rfl⟩:=E9.mp hd
 exact ER _)
theorem kO(l:List Int):aeq (ar l) (ar l)=some true:=aeqs_self λd hd=>by
 obtain⟨x,_,rfl⟩:=E9.mp hd
 show some (x==x)=_
 rw[beq_self_eq_true]
theorem yA(l:List Int):bf .NotEq (ar l) (ar l)=some false:=ng (EK (eS l) (by decide)) (kO l)
theorem ym(l:List Int):bf .NotEq (ar l) (.list [])=some (!l.isEmpty):=by
 show(if(ar l).depth+1<=40 then ane (ar l) (.list [])else EL)=_
 rw[if_pos (EK (Fz (eS l)) (by decide))]
 cases l<;>rfl
theorem oh(o:Option (List Nat)):bf .NotEq (bG o) (bG o)=some false:=by
 cases o with
 | none=>rfl
 | some f=>exact nW _
theorem wj{a b:List Int}{f c f' c':Bool}(h:a.length+b.length<=az):og .Add ⟨ar a,f,c⟩ ⟨ar b,f',c'⟩=some ⟨ar (a++b),true,true⟩:=by
 show newl _ _ (a.map PV.int++b.map PV.int)=_
 rw[<-Fc]
 exact mB _ _ _ (by rw[EQ];exact h)
theorem j7{l:List Int}{f c:Bool}(h:l.length<=az):fY ⟨ar l,f,c⟩=some ⟨ar l,true,true⟩:=mB _ _ _ h
theorem Ct:("SAT":Str)=W [83,65,84]:=by decide +kernel
theorem eA{f:Nat->Option RV}{x i:Nat}{r:Option RV}(h:i<x):upf f x r i=f i:=by
 show cond (IH i x) r (f i)=f i
 rw[show IH i x=false from GO.mpr λq=>FG h (IC q)];rfl
section
variable{Φ:FTab}{σ:Sig}{f:Nat->Option RV}{n:Nat}{ts:List SStmt}{o:Out}
theorem fq_unpk3{x y z:Nat}{e:SExpr}{a b c:PV}(he:aa Φ e (bE f)=some ⟨.tup [a,b,c],true,true⟩)(h:aexecs Φ n ts (bE (upf (upf (upf f x (some (part ⟨.tup [a,b,c],true,true⟩ a))) y (some (part ⟨.tup [a,b,c],true,true⟩ b))) z (some (part ⟨.tup [a,b,c],true,true⟩ c))))=some o):aexecs Φ n (.unpk3 x y z e::ts) (bE f)=some o:=by
 refine seq (σ':=bE (upf (upf (upf f x (some (part ⟨.tup [a,b,c],true,true⟩ a))) y (some (part ⟨.tup [a,b,c],true,true⟩ b))) z (some (part ⟨.tup [a,b,c],true,true⟩ c)))) ?_ h
 rw[<-dC,<-dC,<-dC]
 exact bind_to he (bind_to (a:=[a,b,c]) rfl (bind_to (a:=(a,b,c)) rfl rfl))
theorem AF{t a b:SExpr}{k:Bool}{r:RV}(ht:aa Φ t σ=some (at1 (.bool k)))(h:(if k then aa Φ a σ else aa Φ b σ)=some r):aa Φ (.ife t a b) σ=some r:=bind_to ht (bind_to (a:=k) rfl h)
theorem vM{a:SExpr}{r:RV}(h:aa Φ a σ=some r):aa Φ (.isN false a) σ=some (at1 (.bool ((dU r.d).isSome != false))):=bj h
theorem vq(o:Option (List Nat)):((dU (bG o)).isSome != false)=o.isNone:=by cases o<;>rfl
theorem yH{lit:Str}{b:SExpr}{r:RV}{A:Type}{dec:A->PV}{p:A->Bool}{l:List A}(h1:aa Φ b σ=some r)(h2:aJ r.d=some (l.map dec))(h3:∀x∈l,ty (dec x) (.str lit)=some (p x)):aa Φ (.gany lit b) σ=some (at1 (.bool (l.any p))):=by
 refine bind_to h1 (bind_to h2 (bj (a:=l.any p) ?_))
 clear h2
 induction l with
 | nil=>rfl
 | cons x l ih=>exact bind_to (h3 x (EP ..)) (bj (ih λy hy=>h3 y (EO _ hy)))
noncomputable def lb:List SStmt:=[.unpk3 49 50 51 (.idx (.var 43) (.var 48)),.set 52 (.call "replayed" [.var 49,.var 50]),.ife (.cmp .NotEq (.var 52) (.call "_law_carried" [.var 49,.var 50])) [.ret (.bool false)] [],.set 45 (.bin .Add (.var 45) (.comp (.ife (.cmp .GtE (.var 54) (.int 0)) (.bin .Add (.var 54) (.var 51)) (.var 54)) (.var 50))),.ife (.bor [.isN false (.var 52),.isN false (.var 46),.band [.var 47,.cmp .NotEq (.var 50) (.list [])]]) [.set 46 (.none)] [.set 46 (.bin .Add (.var 46) (.var 52)),.ife (.gany "SAT" (.var 52)) [.set 47 (.bool true)] []]]
theorem uV{g:List CRule}(hb:∀r∈g,r.2.length<=2):∀{l:List Int} {form f:List Nat},carr g form l=some f->f.length<=form.length+10*l.length:=by
 intro l0
 induction l0 with
 | nil=>exact @λform f h=>by cases h;exact Ff _ _
 | cons k l ih =>
  intro form f h
  obtain⟨f1,h1,h2⟩:=ac (show(cN g form k).bind (λf=>carr g f l)=some f from h)
  have e1:=stepC_len (λr hr=>EK (hb r hr) (by decide)) h1
  have e2:=ih h2
  refine EK e2 (EK (F4 e1 _) ?_)
  rw[Fl,IR,Ga,FV 10]
  exact ER _
theorem AS{X:Nat}{P:List CRule}{mv steps:List Int}{sh:Int}{form:Option (List Nat)}{waits:Bool}{d43:PV}(h43:f 43=tt d43)(h45:f 45=tt (ar steps))(h46:f 46=tt (bG form))(h47:f 47=tt (.bool waits))(h48:f 48=tt (.str (sg X)))
  (hi:d4 ⟨d43,true,true⟩ (.str (sg X))=some ⟨.tup [aG P,ar mv,.int sh],true,true⟩) (hr:Φ "replayed" [aG P,ar mv]=some (bG (carr P [X] mv),true)) (hc:Φ "_law_carried" [aG P,ar mv]=some (bG (carr P [X] mv),true)) (hl:steps.length+mv.length<=80) (hf:∀a,form=some a->a.length<=1000) (hd:∀a,carr P [X] mv=some a->a.length<=1000) :
  ∃f',aexecs Φ n lb (bE f)=some (.next (bE f'))/\(∀i,i<45->f' i=f i)/\f' 45=tt (ar (steps++mv.map (shf sh)))/\f' 46=tt (bG (nxF form (carr P [X] mv) waits mv))/\f' 47=tt (.bool (xN form (carr P [X] mv) waits mv)):=by
 let done:=carr P [X] mv
 let g1:=upf (upf (upf (upf (upf f 49 (tt (aG P))) 50 (tt (ar mv))) 51 (tt (.int sh))) 52 (tt (bG done))) 45 (tt (ar (steps++mv.map (shf sh))))
 have ml:mv.length<=az:=EK (EK (FM _ _) hl) (by decide)
 have pre:∀o,aexecs Φ n [.ife (.bor [.isN false (.var 52),.isN false (.var 46),.band [.var 47,.cmp .NotEq (.var 50) (.list [])]]) [.set 46 (.none)] [.set 46 (.bin .Add (.var 46) (.var 52)),.ife (.gany "SAT" (.var 52)) [.set 47 (.bool true)] []]] (bE g1)=some o->aexecs Φ n lb (bE f)=some o:=by
  intro o ho
  delta lb
  refine fq_unpk3 (a:=aG P) (b:=ar mv) (c:=.int sh) (ev_idx (r:=⟨d43,true,true⟩) (q:=⟨.str (sg X),true,true⟩) (fv h43 rfl) (fv h48 rfl) hi) ?_
  refine fq_set (r:=⟨bG done,true,true⟩) (ev_callT (rs:=[⟨aG P,true,true⟩,⟨ar mv,true,true⟩]) (evs_cons (fv rfl rfl) (evs_cons (fv rfl rfl) evs_nil)) hr) rfl ?_
  refine bH (ev_cmp (r:=⟨bG done,true,true⟩) (q:=⟨bG done,true,true⟩) (fv rfl rfl) (ev_callT (rs:=[⟨aG P,true,true⟩,⟨ar mv,true,true⟩]) (evs_cons (fv rfl rfl) (evs_cons (fv rfl rfl) evs_nil)) hc) (oh _)) ?_
  refine fq_set (r:=⟨ar (steps++mv.map (shf sh)),true,true⟩) (ev_bin (r:=⟨ar steps,true,true⟩) (q:=⟨ar (mv.map (shf sh)),true,true⟩) (fv h45 rfl) (ev_compP (A:=Int) (dec:=PV.int) (l:=mv) (f:=λk=>at1 (.int (shf sh k))) (r:=⟨ar mv,true,true⟩) (fv rfl rfl) rfl (λk θ=>?_) ?_) (wj (by rw[EN];exact EK hl (by decide)))) rfl ho
  .refine AF (k:=decide (k>=0)) (ev_cmp (r:=at1 (.int k)) (q:=at1 (.int 0)) fe ai rfl) ?_
   delta shf
   by_cases hk:k>=0
   .rw[decide_eq_true hk,if_pos rfl,if_pos hk]
    exact ev_bin (r:=at1 (.int k)) (q:=at1 (.int sh)) fe (fo rfl rfl) rfl
   .rw[decide_eq_false hk,if_neg (by decide),if_neg hk]
    exact fe
  .have e:(mv.map λk=>at1 (.int (shf sh k)))=(mv.map (shf sh)).map λk=>at1 (.int k):=by rw[Fe];rfl
   rw[e]
   exact jG _ (by rw[EN];exact ml)
 have tst:aa Φ (.bor [.isN false (.var 52),.isN false (.var 46),.band [.var 47,.cmp .NotEq (.var 50) (.list [])]]) (bE g1)=some (at1 (.bool (done.isNone||(form.isNone||((waits&&(!mv.isEmpty&&true))||false))))):=by
  refine ev_bor (ors_cons ?_ (ors_cons ?_ (ors_cons (ev_band (ands_cons (k:=waits) (fv h47 rfl) (ands_cons (ev_cmp (r:=⟨ar mv,true,true⟩) (fv rfl rfl) (ev_list evs_nil rfl) (ym mv)) ands_nil))) f7)))
  .rw[<-vq];exact vM (r:=⟨bG done,true,true⟩) (fv rfl rfl)
  .rw[<-vq];exact vM (r:=⟨bG form,true,true⟩) (fv h46 rfl)
 have low:∀i,i<45->g1 i=f i:=λi hi=>by
  show upf _ _ _ i=_
  rw[eA hi,eA (FZ hi (by decide)),eA (FZ hi (by decide)),eA (FZ hi (by decide)),eA (FZ hi (by decide))]
 have no:(done.isNone||(form.isNone||((waits&&(!mv.isEmpty&&true))||false)))=true->nxF form done waits mv=none->∃f',aexecs Φ n lb (bE f)=some (.next (bE f'))/\(∀i,i<45->f' i=f i)/\f' 45=tt (ar (steps++mv.map (shf sh)))/\f' 46=tt (bG (nxF form done waits mv))/\f' 47=tt (.bool (xN form done waits mv)):=by
  intro ht e
  rw[ht]at tst
  refine⟨upf g1 46 (tt .none),pre _ (seq_if (k:=true) tst rfl (fq_set (r:=at1 .none) xB rfl ah) ah),λi hi=>?_,rfl,?_,?_⟩
  .rw[eA (FZ hi (by decide))];exact low i hi
  .rw[e];rfl
  .delta xN
   rw[e];exact h47
 cases hdn:done with
 | none =>
  refine no ?_ ?_
  .rw[hdn];rfl
  .delta nxF
   rw[hdn]
   split
   .rfl
   .cases form<;>rfl
 | some d =>
  cases hfm:form with
  | none =>
   rw[<-hfm]
   refine no ?_ ?_
   .rw[hdn,hfm];rfl
   .delta nxF
    rw[hfm]
    split<;>rfl
  | some a =>
   cases hw:(waits&&!mv.isEmpty)with
   | true =>
    rw[<-hfm]
    refine no ?_ ?_
    .rw[hdn,hfm,FY,hw];rfl
    .delta nxF
     rw[hw];rfl
   | false =>
    have eF:nxF (some a) (some d) waits mv=some (a++d):=by delta nxF;rw[hw];rfl
    have eW:xN (some a) (some d) waits mv=(waits||hot d):=by delta xN;rw[eF];rfl
    rw[hdn,hfm,FY,hw]at tst
    rw[show carr P [X] mv=some d from hdn,eF,eW]
    have hga:aa Φ (.gany "SAT" (.var 52)) (bE (upf g1 46 (tt (ae ((a++d).map sg)))))=some (at1 (.bool (hot d))):=by
     refine yH (A:=Nat) (dec:=λc=>.str (sg c)) (l:=d) (p:=λc=>decide (c∈[83,65,84])) (r:=⟨ae (d.map sg),true,true⟩) (fv ?_ rfl) (by show some ((d.map sg).map PV.str)=_;rw[Fe];rfl) (λc θ=>?_)
     .show tt (bG done)=_
      rw[hdn];rfl
     .rw[Ct]
      exact oR c _
    have h46':g1 46=tt (ae (a.map sg)):=by
     show f 46=_
     rw[h46,hfm];rfl
    have h52':g1 52=tt (ae (d.map sg)):=by
     show tt (bG done)=_
     rw[hdn];rfl
    refine⟨upf (upf g1 46 (tt (ae ((a++d).map sg)))) 47 (tt (.bool (waits||hot d))),pre _ (seq_if (k:=false) tst rfl (fq_set (r:=⟨ae ((a++d).map sg),true,true⟩) ?_ rfl (iV (k:=hot d) (r:=at1 (.bool (waits||hot d))) hga (λe=>?_) rfl (λe=>?_) rfl ah)) ah),λi hi=>?_,rfl,rfl,rfl⟩
    .rw[Fc]
     exact ev_bin (r:=⟨ae (a.map sg),true,true⟩) (q:=⟨ae (d.map sg),true,true⟩) (fv h46' rfl) (fv h52' rfl) (dg (by rw[EQ,EN,EN];exact EK (E8 (hf a hfm) (hd d hdn)) (by decide)))
    .rw[e,Iw];exact bp
    .rw[e,GR];exact h47
    .rw[eA (FZ hi (by decide)),eA (FZ hi (by decide))];exact low i hi
end
noncomputable def lw(ns:List Int):List Int:=[(pk ns 11 3:Int),2+(pk ns 12 2:Int),2+(pk ns 13 2:Int)].take (pk ns 10 4)
noncomputable def lx(ns:List Int):List Int:=[(pk ns 15 4:Int) - 1,ns.getD 16 0].take (pk ns 14 3)
noncomputable def zlen(ns:List Int):Nat:=(LPof ns).zb.length
noncomputable def whOf(ns:List Int):Nat:=pk ns 9 (zlen ns)
noncomputable def d43(ns:List Int):PV:=.dict [sg 83,sg 84] [.tup [aG (LPof ns).cgG,ar (lw ns),.int 1],.tup [aG (LPof ns).cgH,ar (lx ns),.int (4+(zlen ns:Int))]]
noncomputable def f6(ns:List Int):Nat->Option RV:=upf (upf (upf (upf (upf (upf (upf (upf (upf (f5 ns) 39 (tt (.int (pk ns 10 4)))) 40 (tt (ar (lw ns)))) 41 (tt (ar (lx ns)))) 42 (tt (.list [ar (lw ns),ar (lx ns)]))) 43 (tt (d43 ns))) 44 (tt (.int (whOf ns)))) 45 (tt (ar [5*(whOf ns:Int)]))) 46 (tt (bG (some [])))) 47 (tt (.bool false))
theorem lN(ns:List Int):(lw ns).length<=3:=by delta lw;rw[Gd];exact Ge _ _
theorem mo(ns:List Int):(lx ns).length<=2:=by delta lx;rw[Gd];exact Ge _ _
theorem zj(ns:List Int):0<zlen ns:=HQ.mpr (LP.Ok.zne (fx ns))
theorem zx(ns:List Int):whOf ns<zlen ns:=cD ns 9 (zj ns)
section
variable{Φ:FTab}{σ:Sig}{f:Nat->Option RV}{n:Nat}{ts:List SStmt}{o:Out}
theorem lS{a i:SExpr}{l:List Int}{k:Nat}(h1:aa Φ a σ=some ⟨ar l,true,true⟩)(h2:aa Φ i σ=some (at1 (.int k)))(hl:l.length<=az):aa Φ (.supto a i) σ=some ⟨ar (l.take k),true,true⟩:=by
 refine bind_to h1 (bind_to h2 (bind_to (a:=(k:Int)) rfl ?_))
 show(if 0<=(k:Int)then newl true true ((l.map PV.int).take (k:Int).toNat)else none)=_
 rw[if_pos (Fy k),FT,<-Jb]
 exact mB _ _ _ (by rw[Gd];exact EK (Ge _ _) hl)
theorem oC{a:SExpr}{bs:List (List Nat)}(h:aa Φ a σ=some ⟨aC bs,true,true⟩):aa Φ (.len a) σ=some (at1 (.int bs.length)):=dt h (by show some (bs.map bn).length=_;rw[EN])
end
theorem nST:([sg 83,sg 84]:List Str).Nodup:=by decide +kernel
set_option maxHeartbeats 1000000 in
theorem BM{Φ:FTab}(H:Di Φ){ns:List Int}(h17:17<=ns.length){n:Nat}{o:Out}(K:aexecs Φ n (bh.drop 71) (bE (f6 ns))=some o):aexecs Φ n (bh.drop 62) (bE (f5 ns))=some o:=by
 have O:=fx ns
 have sc:∀i,i<17->i<ns.length:=λi hi=>EX hi h17
 have al:(lw ns).length<=az:=EK (lN ns) (by decide)
 have bl:(lx ns).length<=az:=EK (mo ns) (by decide)
 refine fq_set (r:=at1 (.int (pk ns 10 4))) (bo H (i:=10) (gv rfl rfl) ai (sc 10 (by decide)) (by decide)) rfl ?_
 refine fq_set (r:=⟨ar (lw ns),true,true⟩) (lS (l:=[(pk ns 11 3:Int),2+(pk ns 12 2:Int),2+(pk ns 13 2:Int)]) (ev_list (evs_cons (bo H (i:=11) (gv rfl rfl) ai (sc 11 (by decide)) (by decide)) (evs_cons (ev_bin (t:=at1 (.int (2+(pk ns 12 2:Int)))) ai (bo H (i:=12) (gv rfl rfl) ai (sc 12 (by decide)) (by decide)) rfl) (evs_cons (ev_bin (t:=at1 (.int (2+(pk ns 13 2:Int)))) ai (bo H (i:=13) (gv rfl rfl) ai (sc 13 (by decide)) (by decide)) rfl) evs_nil))) (jG [(pk ns 11 3:Int),2+(pk ns 12 2:Int),2+(pk ns 13 2:Int)] (show 3<=az by decide))) (fv rfl rfl) (show 3<=az by decide)) rfl ?_
 refine fq_set (r:=⟨ar (lx ns),true,true⟩) (lS (l:=[(pk ns 15 4:Int) - 1,ns.getD 16 0]) (ev_list (evs_cons (ev_bin (t:=at1 (.int ((pk ns 15 4:Int) - 1))) (bo H (i:=15) (gv rfl rfl) ai (sc 15 (by decide)) (by decide)) ai rfl) (evs_cons (mx (i:=16) (gv rfl rfl) (sc 16 (by decide))) evs_nil)) (jG [(pk ns 15 4:Int) - 1,ns.getD 16 0] (show 2<=az by decide))) (bo H (i:=14) (gv rfl rfl) ai (sc 14 (by decide)) (by decide)) (show 2<=az by decide)) rfl ?_
 refine fq_set (r:=⟨.list [ar (lw ns),ar (lx ns)],true,true⟩) (ev_list (evs_cons (aR (fv rfl rfl) (j7 al)) (evs_cons (aR (fv rfl rfl) (j7 bl)) evs_nil)) rfl) rfl ?_
 refine fq_set (r:=⟨d43 ns,true,true⟩) (by
  rw[sS,sT]
  exact dJ (rs:=[⟨.tup [aG (LPof ns).cgG,ar (lw ns),.int 1],true,true⟩,⟨.tup [aG (LPof ns).cgH,ar (lx ns),.int (4+(zlen ns:Int))],true,true⟩]) (evs_cons (gI (rs:=[⟨aG (LPof ns).cgG,true,true⟩,⟨ar (lw ns),true,true⟩,at1 (.int 1)]) (evs_cons (fv rfl rfl) (evs_cons (fv rfl rfl) (evs_cons ai evs_nil))) (show 3<=az by decide)) (evs_cons (gI (rs:=[⟨aG (LPof ns).cgH,true,true⟩,⟨ar (lx ns),true,true⟩,at1 (.int (4+(zlen ns:Int)))]) (evs_cons (fv rfl rfl) (evs_cons (fv rfl rfl) (evs_cons (ev_bin ai (oC (fv rfl rfl)) rfl) evs_nil))) (show 3<=az by decide)) evs_nil)) nST rfl (show 2<=100 by decide)) rfl ?_
 refine fq_set (r:=at1 (.int (whOf ns))) (bo H (i:=9) (n:=(zlen ns:Int)) (gv rfl rfl) (oC (fv rfl rfl)) (sc 9 (by decide)) (I6.mpr (zj ns))) rfl ?_
 have w2:whOf ns<=2:=EK (FS (zx ns)) O.zn
 refine fq_set (r:=⟨ar [5*(whOf ns:Int)],true,true⟩) (ev_list (evs_cons (ev_bin (r:=at1 (.int 5)) (q:=at1 (.int (whOf ns))) (t:=at1 (.int (5*(whOf ns:Int)))) ai (fv rfl rfl) (if_pos ⟨by decide,(EK w2 (by decide):(whOf ns:Int).natAbs<=2 ^ 31)⟩)) evs_nil) (jG [5*(whOf ns:Int)] (show 1<=az by decide))) rfl ?_
 refine fq_set (r:=⟨bG (some []),true,true⟩) (ev_list evs_nil rfl) rfl ?_
 refine fq_set (r:=at1 (.bool false)) bp rfl ?_
 exact K
structure LSt(ns:List Int)(f:Nat->Option RV)(steps:List Int)(form:Option (List Nat))(waits:Bool):Prop where
 low:∀i,i<45->f i=f6 ns i
 h45:f 45=tt (ar steps)
 h46:f 46=tt (bG form)
 h47:f 47=tt (.bool waits)
 sl:steps.length<=20
 fl:∀a,form=some a->a.length<=200
theorem mC{form done:Option (List Nat)}{w:Bool}{mv:List Int}{n m:Nat}(h1:∀a,form=some a->a.length<=n)(h2:∀a,done=some a->a.length<=m):∀a,nxF form done w mv=some a->a.length<=n+m:=by
 intro a h
 delta nxF at h
 split at h
 .cases h
 .obtain⟨x,hx,h⟩:=ac h
  obtain⟨y,hy,rfl⟩:=aq h
  rw[EQ]
  exact E8 (h1 x hx) (h2 y hy)
theorem nP{g:List CRule}{X:Nat}{mv:List Int}(hb:∀r∈g,r.2.length<=2)(hm:mv.length<=3):∀a,carr g [X] mv=some a->a.length<=31:=λa h=>EK (uV hb h) (Fo (FD 10 hm) 1)
section
variable{Φ:FTab}{f:Nat->Option RV}{n:Nat}{ns:List Int}{steps:List Int}{form:Option (List Nat)}{waits:Bool}
theorem y7 (H:Di Φ) (S:LSt ns f steps form waits) (h10:steps.length<=10) (f10:∀a,form=some a->a.length<=100) {X:Nat} {P:List CRule} {mv:List Int} {sh:Int} (hi:d4 ⟨d43 ns,true,true⟩ (.str (sg X))=some ⟨.tup [aG P,ar mv,.int sh],true,true⟩) (hr:Φ "replayed" [aG P,ar mv]=some (bG (carr P [X] mv),true)) (hc:Φ "_law_carried" [aG P,ar mv]=some (bG (carr P [X] mv),true)) (hm:mv.length<=3) (hb:∀r∈P,r.2.length<=2) :
  ∃f',aexecs Φ n lb (bE (upf f 48 (tt (.str (sg X)))))=some (.next (bE f'))/\LSt ns f' (steps++mv.map (shf sh)) (nxF form (carr P [X] mv) waits mv) (xN form (carr P [X] mv) waits mv):=by
 have cl:=nP (X:=X) (mv:=mv) hb hm
 refine cps λGq hGq=>?_
 obtain⟨f',h1,h2,h3,h4,h5⟩:=AS (Φ:=Φ) (n:=n) (f:=upf f 48 (tt (.str (sg X)))) (X:=X) (P:=P) (mv:=mv) (steps:=steps) (sh:=sh) (form:=form) (waits:=waits) (d43:=d43 ns) ((S.low 43 (by decide)).trans rfl) S.h45 S.h46 S.h47 rfl hi hr hc (EK (E8 h10 hm) (by decide)) (λa h=>EK (S.fl a h) (by decide)) (λa h=>EK (cl a h) (by decide))
 refine hGq ?_
 clear hGq
 refine⟨f',h1,⟨λi hi=>?_,h3,h4,h5,?_,λa h=>EK (mC f10 cl a h) (by decide)⟩⟩
 .rw[h2 i hi,eA (FZ hi (by decide))];exact S.low i hi
 .rw[EQ,EN]
  exact EK (E8 h10 hm) (by decide)
theorem CC:sg 83≠sg 84:=by decide +kernel
theorem Cy(ns:List Int):Pt (LPof ns) 83 (LPof ns).cgG [83,65] 1 (lw ns):=by
 refine⟨⟨_,BD (fx ns),λk hk=>?_⟩,AZ (fx ns) _,by decide,by decide⟩
 have hk:=HL hk
 have h3:=cD ns 11 (n:=3) (by decide)
 have h4:=cD ns 12 (n:=2) (by decide)
 have h5:=cD ns 13 (n:=2) (by decide)
 simp only[EU,FC,or_false]at hk
 rcases hk with rfl | rfl | rfl
 .exact IS (Gw.mpr h3) (by decide)
 .exact IM (Gw.mpr h4) 2
 .exact IM (Gw.mpr h5) 2
theorem PtT(ns:List Int):Pt (LPof ns) 84 (LPof ns).cgH [84] (4+(zlen ns:Int)) (lx ns):=⟨⟨_,BJ (fx ns),λk hk=>trivial⟩,repH (fx ns) _,by decide,by decide⟩
theorem y8{c:Nat}{l:List Nat}(h:c∈l)(hl:l.all (λc=>ud.contains (sg c))=true):ud.contains (sg c)=true:=Fs.mp hl c h
theorem y0(H:Di Φ)(S:LSt ns f steps form waits)(h10:steps.length<=10)(f10:∀a,form=some a->a.length<=100):∃f',aexecs Φ n lb (bE (upf f 48 (tt (.str (sg 83)))))=some (.next (bE f'))/\LSt ns f' (steps++(lw ns).map (shf 1)) (nxF form (carr (LPof ns).cgG [83] (lw ns)) waits (lw ns)) (xN form (carr (LPof ns).cgG [83] (lw ns)) waits (lw ns)):=by
 have O:=fx ns
 obtain⟨b0,gs,e0⟩:=(GG O).ne
 refine y7 H S h10 f10 ?_ (H.up _ _ _ _ ?_) (H.up _ _ _ _ (oi e0 (λr hr=>EK ((GG O).body r hr).1 (by decide)) (λr hr=>y8 ((GG O).hdm hr) (by decide +kernel)) (EK (lN ns) (by decide)))) (lN ns) (λr hr=>((GG O).body r hr).1)
 .show(aT (α:=PV) [sg 83,sg 84] [.tup [aG (LPof ns).cgG,ar (lw ns),.int 1],.tup [aG (LPof ns).cgH,ar (lx ns),.int (4+(zlen ns:Int))]] (sg 83)).map (part ⟨d43 ns,true,true⟩)=_
  rw[look_cons,if_pos rfl];rfl
 .refine((GG O).repV (EK (lN ns) (by decide)) (by decide)).trans ?_
  rw[AZ O];rfl
theorem zw(H:Di Φ)(S:LSt ns f steps form waits)(h10:steps.length<=10)(f10:∀a,form=some a->a.length<=100):∃f',aexecs Φ n lb (bE (upf f 48 (tt (.str (sg 84)))))=some (.next (bE f'))/\LSt ns f' (steps++(lx ns).map (shf (4+(zlen ns:Int)))) (nxF form (carr (LPof ns).cgH [84] (lx ns)) waits (lx ns)) (xN form (carr (LPof ns).cgH [84] (lx ns)) waits (lx ns)):=by
 have O:=fx ns
 obtain⟨b0,gs,e0⟩:=(GH O).ne
 refine y7 H S h10 f10 ?_ (H.up _ _ _ _ ?_) (H.up _ _ _ _ (oi e0 (λr hr=>EK ((GH O).body r hr).1 (by decide)) (λr hr=>y8 ((GH O).hdm hr) (by decide +kernel)) (EK (mo ns) (by decide)))) (Hz (mo ns)) (λr hr=>((GH O).body r hr).1)
 .show(aT (α:=PV) [sg 83,sg 84] [.tup [aG (LPof ns).cgG,ar (lw ns),.int 1],.tup [aG (LPof ns).cgH,ar (lx ns),.int (4+(zlen ns:Int))]] (sg 84)).map (part ⟨d43 ns,true,true⟩)=_
  rw[look_cons,if_neg CC,look_cons,if_pos rfl];rfl
 .refine((GH O).repV (EK (mo ns) (by decide)) (by decide)).trans ?_
  rw[repH O];rfl
theorem Cj(ns:List Int):(LPof ns).cgJ.filter (λr=>!decide (r.1=90))=(LPof ns).cgG++(LPof ns).cgH:=by
 delta LP.cgJ LP.cgG LP.cgH
 rw[EV,EV,EV,EV,aB λb θ=>rfl,bL λb θ=>rfl,bL λb θ=>rfl,aB λb θ=>rfl,bL λb θ=>rfl]
 simp
theorem Bk{s:Str}{h:Nat}{r:CRule}(hs:s=sg h):aa Φ (.cmp .NotEq (.idx (.var 54) (.int 0)) (.str s)) (bE f++[some ⟨ao (ru r),true,true⟩])=some (at1 (.bool (!decide (r.1=h)))):=by
 rw[hs,<-nU]
 exact ev_cmp (r:=at1 (.str (sg r.1))) (ev_idx (r:=⟨ao (ru r),true,true⟩) fe ai (lO _ _ _)) aE (uu _ _)
theorem xm(a b:List Int):bf .NotEq (.list [ar a,ar b]) (.list [ar a,ar b])=some false:=ng (EK (Fz (cE (k:=1) (eR (eS a) (eS b)))) (by decide)) (aeqs_self (eR (kO a) (kO b)))
theorem yt(H:Di Φ)(S:LSt ns f steps form waits)(hr:aD ((LPof ns).cgJ.map ru) (ksJ.map sg) [sg 90] steps=form.map λf=>f.map sg):aexecs Φ n (bh.drop 72) (bE f)=some (.ret (at1 (.bool true))):=by
 have O:=fx ns
 have w1:=EK (A9 ns).1 (show 3<=100 by decide)
 have lo:∀{i:Nat} {r:Option RV} (h:Ix i 45=true),f6 ns i=r->f i=r:=λh e=>(S.low _ (HF h)).trans e
 refine fq_set (r:=⟨ar steps,true,true⟩) (aR (fv S.h45 rfl) (j7 (EK S.sl (by decide)))) rfl ?_
 have lo2:∀{i:Nat} {r x:Option RV} (h:Ix i 45=true),f6 ns i=r->upf f 53 x i=r:=λh e=>by
  rw[eA (FZ (HF h) (by decide))];exact lo h e
 refine bH (ev_cmp (r:=⟨bG form,true,true⟩) (q:=⟨bG form,true,true⟩) (ev_callT (rs:=[⟨aG (LPof ns).cgJ,true,true⟩,⟨ar steps,true,true⟩]) (evs_cons (fv (lo2 rfl rfl) rfl) (evs_cons (fv S.h45 rfl) evs_nil)) (H.up _ _ _ _ (((GJ O).repV (EK S.sl (by decide)) (by decide)).trans (by rw[hr];rfl)))) (fv S.h46 rfl) (oh _)) ?_
 refine bH (ev_bor (k:=false) (ors_cons (k:=false) (ev_cmp (r:=⟨ar steps,true,true⟩) (q:=⟨ar steps,true,true⟩) (fv S.h45 rfl) (fv rfl rfl) (yA _)) (ors_cons (k:=false) (ev_cmp (r:=⟨.list [ar (lw ns),ar (lx ns)],true,true⟩) (q:=⟨.list [ar (lw ns),ar (lx ns)],true,true⟩) (ev_list (rs:=[⟨ar (lw ns),true,true⟩,⟨ar (lx ns),true,true⟩]) (evs_cons (fv (lo2 rfl rfl) rfl) (evs_cons (fv (lo2 rfl rfl) rfl) evs_nil)) rfl) (fv (lo2 rfl rfl) rfl) (xm _ _)) (ors_cons (k:=false) (ev_cmp (r:=⟨ae ((fG ns).map sg),true,true⟩) (q:=⟨ae ((fG ns).map sg),true,true⟩) (fv (lo2 rfl rfl) rfl) (aR (r:=at1 (.str (W (fG ns)))) (fv (lo2 rfl rfl) rfl) (iv w1)) (nW _)) f7)))) ?_
 have jl:(LPof ns).cgJ.length<=10:=EK (Aw ns) (by decide)
 refine bH (ev_bor (k:=false) (ors_cons (k:=false) (ev_cmp (r:=⟨aG (LPof ns).cgJ,true,true⟩) (q:=⟨aG (LPof ns).cgJ,true,true⟩) (fv (lo2 rfl rfl) rfl) (fv (lo2 rfl rfl) rfl) (mK _)) (ors_cons (k:=false) (ev_cmp (r:=⟨aG ((LPof ns).cgG++(LPof ns).cgH),true,true⟩) (q:=⟨aG ((LPof ns).cgG++(LPof ns).cgH),true,true⟩) (ev_addG (fv (lo2 rfl rfl) rfl) (fv (lo2 rfl rfl) rfl) ⟨EK (Fm (f8 O)) (by decide),EK (Fm (mA O)) (by decide)⟩) (by rw[<-Cj];exact nj (lo2 rfl rfl) jl λr θ=>Bk sZ) (mK _)) f7))) ?_
 exact seq_ret bp
theorem yG(ns:List Int){b:List Nat}(hb:(LPof ns).zb[whOf ns]?= some b)(more:List Int):aD ((LPof ns).cgJ.map ru) (ksJ.map sg) [sg 90] ([5*(whOf ns:Int)]++more)=aD ((LPof ns).cgJ.map ru) (ksJ.map sg) (b.map sg) more:=firstZ (fx ns) hb more
theorem st6(ns:List Int):LSt ns (f6 ns) [5*(whOf ns:Int)] (some []) false:=⟨λθ θ=>rfl,rfl,rfl,rfl,show 1<=20 by decide,λa h=>by cases h;exact Fi _⟩
theorem BN(H:Di Φ)(ns:List Int):aexecs Φ n (bh.drop 71) (bE (f6 ns))=some (.ret (at1 (.bool true))):=by
 have O:=fx ns
 obtain⟨b,hb⟩:∃b,(LPof ns).zb[whOf ns]?= some b:=⟨_,dM [] (zx ns)⟩
 have hbb:b=[83,84]\/b=[84,83]\/b=[84]\/b=[83]:=(by decide +kernel:∀z∈JM,∀b∈z,b=[83,84]\/b=[84,83]\/b=[84]\/b=[83]) _ (CO ns) b (Fa hb)
 have he:aa Φ (.idx (.var 2) (.var 44)) (bE (f6 ns))=some ⟨bn b,true,true⟩:=ev_idx (r:=⟨aC (LPof ns).zb,true,true⟩) (q:=at1 (.int (whOf ns))) (fv rfl rfl) (fv rfl rfl) (gg hb)
 have go:∀f',afor (aexecs Φ n lb) 48 ⟨bn b,true,true⟩ ((b.map sg).map PV.str) (bE (f6 ns))=some (.next (bE f'))->aexecs Φ n (bh.drop 72) (bE f')=some (.ret (at1 (.bool true)))->aexecs Φ n (bh.drop 71) (bE (f6 ns))=some (.ret (at1 (.bool true))):=λf' h1 h2=>seq (sD he rfl rfl h1) h2
 have one:∀(f f':Nat->Option RV) (X:Nat) (l:List PV) (o:Option Out),aexecs Φ n lb (bE (upf f 48 (tt (.str (sg X)))))=some (.next (bE f'))->afor (aexecs Φ n lb) 48 ⟨bn b,true,true⟩ l (bE f')=o->afor (aexecs Φ n lb) 48 ⟨bn b,true,true⟩ (.str (sg X)::l) (bE f)=o:=λf f' X l o h1 h2=>by
  show(aexecs Φ n lb ((bE f).set 48 (some (part ⟨bn b,true,true⟩ (.str (sg X)))))).bind _=_
  rw[dC,gX,show(some (at1 (.str (sg X))):Option RV)=tt (.str (sg X)) from rfl,h1]
  exact h2
 have f0:∀a,(some []:Option (List Nat))=some a->a.length<=0:=λa h=>by cases h;exact ER _
 have f00:∀a,(some []:Option (List Nat))=some a->a.length<=100:=λa h=>EK (f0 a h) (by decide)
 have cG:=nP (X:=83) (mv:=lw ns) (λr hr=>((GG O).body r hr).1) (lN ns)
 have cH:=nP (X:=84) (mv:=lx ns) (λr hr=>((GH O).body r hr).1) (Hz (mo ns))
 refine cps λGq hGq=>?_
 obtain⟨fS,hS,SS⟩:=y0 (n:=n) H (st6 ns) (show 1<=10 by decide) f00
 obtain⟨fT,hT,ST⟩:=zw (n:=n) H (st6 ns) (show 1<=10 by decide) f00
 refine hGq ?_
 clear hGq
 rcases hbb with rfl | rfl | rfl | rfl
 .obtain⟨f2,h2,S2⟩:=zw (n:=n) H SS (by rw[EQ,EN];exact EK (Fo (lN ns) 1) (by decide)) (λa h=>EK (mC f0 cG a h) (by decide))
  refine go f2 (one _ fS 83 _ _ hS (one _ f2 84 _ _ h2 rfl)) (yt H S2 ?_)
  rw[Fj]
  exact(yG ns hb _).trans (l5 (Cy ns) (PtT ns) (by decide))
 .obtain⟨f2,h2,S2⟩:=y0 (n:=n) H ST (by rw[EQ,EN];exact EK (Fo (mo ns) 1) (by decide)) (λa h=>EK (mC f0 cH a h) (by decide))
  refine go f2 (one _ fT 84 _ _ hT (one _ f2 83 _ _ h2 rfl)) (yt H S2 ?_)
  rw[Fj]
  exact(yG ns hb _).trans (l5 (PtT ns) (Cy ns) (by decide))
 .refine go fT (one _ fT 84 _ _ hT rfl) (yt H ST ?_)
  exact(yG ns hb _).trans (oZ (PtT ns))
 .refine go fS (one _ fS 83 _ _ hS rfl) (yt H SS ?_)
  exact(yG ns hb _).trans (oZ (Cy ns))
theorem B0(H:Di Φ)(ns:List Int)(n:Nat):aexecs Φ n bh (C6 53 [ar ns])=some (.ret (at1 (.bool true))):=by
 rcases Gp ns.length 17 with h | h
 .delta bh
  refine cS (k:=true) (t:=at1 (.bool true)) (ev_cmp (r:=at1 (.int ns.length)) (q:=at1 (.int 17)) (dt (n:=ns.length) (ev_var (r:=⟨ar ns,false,true⟩) rfl) (by show some (ns.map PV.int).length=_;rw[EN])) ai (congrArg some (decide_eq_true (Gw.mpr h)))) rfl (seq_ret bp)
 .rw[zV]
  exact BO H h (Ck H (Cv H (Cw H (CK H h (BM H h (BN H ns))))))
end
end Mine
namespace Mine
open PySem
theorem tk_of{α:Type}{M:Model}{A:Around}{t:Sem α}{Q:α->Shared->Prop}{E:Value->Shared->Prop}{s:Shared}(h:wpAny M A t (λa s'=>s.toks<=s'.toks->Q a s') E s):wpAny M A t Q E s :=
 wpAny_with_toks (ER s.toks) (wpAny_mono h (λa s' x=>x) λe s' x (zz:s.toks<=s'.toks)=>x)
structure Cf where
 prog:Program
 w:World
 p:Program
 mg:Str->Option Value
 mb:Str->Option Value
 ct:DefRec->Addr
 tb:DefRec->Addr
abbrev Cf.M(Z:Cf):Model:=model Z.prog Z.w
inductive Keeps(s s':Shared):Prop
 | mk (h':Heap) (tk:Nat) (dr:Drawn) (e:s'={s with heap:=h',toks:=tk,drawn:=dr}) (k:∀b o,s.heap.get? b=some o->h'.get? b=some o) (ht:s.toks<=tk):Keeps s s'
inductive Moved(s s':Shared):Prop
 | mk (h':Heap) (tk:Nat) (dr:Drawn) (e:s'={s with heap:=h',toks:=tk,drawn:=dr}):Moved s s'
noncomputable def bY(vs:List Value)(n:Nat):Obj:={cls:=.type "list",dict:=EL,data:=.seq vs.toArray n,slots:=#[]}
noncomputable def gO(vs:List Value)(n:Nat):Obj:={cls:=.type "tuple",dict:=EL,data:=.seq vs.toArray n,slots:=#[]}
mutual
inductive R(Z:Cf)(h:Heap)(N:Nat)(P:Addr->Prop):Value->PV->Prop
 | none:R Z h N P Value.none PV.none
 | bool (b:Bool):R Z h N P (Value.bool b) (PV.bool b)
 | int (i:Int) (t:Tok):R Z h N P (Value.int i t) (PV.int i)
 | str (x:Str) (t:Tok) (ht:t≠0) (hN:t<N):R Z h N P (Value.str x t) (PV.str x)
 | list {a:Addr} {vs:List Value} {n:Nat} {ds:List PV}:P a->h.get? a=some (bY vs n)->ds.length<=az->RS Z h N P vs ds->R Z h N P (Value.ref a) (PV.list ds)
 | tup {a:Addr} {vs:List Value} {n:Nat} {ds:List PV}:P a->h.get? a=some (gO vs n)->ds.length<=az->RS Z h N P vs ds->n4 ds=false->R Z h N P (Value.ref a) (PV.tup ds)
 | rule {a b:Addr} {x:Str} {u:Tok} {ws:List Value} {n m:Nat} {ds:List PV}:P a->h.get? a=some (gO [.str x u,.ref b] n)->u≠0->u<N->P b->h.get? b=some (bY ws m)->ds.length<=az->RS Z h N P ws ds->(∀y v,ws=[.str y v]->x∈ud->x≠y->u≠v)->R Z h N P (Value.ref a) (PV.tup [.str x,.list ds])
 | dict {a:Addr} {kvs:List (Str×Value)} {ks:List Str} {ds:List PV}:P a->h.DictOf (strKind Z.prog Z.w) a kvs->(a==sysModules)=false->kvs.map (·.1)=ks->ks.length<=az->RS Z h N P (kvs.map (·.2)) ds->R Z h N P (Value.ref a) (PV.dict ks ds)
 | rng {r:Addr} {a b c:Int} {t u v:Tok}:P r->IsRange h r a b c t u v->(a.natAbs<=az/\b.natAbs<=az)->R Z h N P (Value.ref r) (PV.rng a b c)
inductive RS(Z:Cf)(h:Heap)(N:Nat)(P:Addr->Prop):List Value->List PV->Prop
 | nil:RS Z h N P [] []
 | cons {v:Value} {vs:List Value} {d:PV} {ds:List PV}:R Z h N P v d->RS Z h N P vs ds->RS Z h N P (v::vs) (d::ds)
end
def isData(o:Obj):Prop:=o.cls=.type "list"\/o.cls=.type "tuple"\/o.cls=.type "dict"\/o.cls=.type "range"
theorem eJ{vs n}:isData (bY vs n):=.inl rfl
theorem ia{vs n}:isData (gO vs n):=.inr (.inl rfl)
abbrev Same(h h':Heap)(P P':Addr->Prop):Prop:=∀a o,P a->isData o->h.get? a=some o->h'.get? a=some o/\P' a
theorem iz{Z:Cf}{h h':Heap}{P P':Addr->Prop}(hk:Same h h' P P'){a:Addr}{kvs:List (Str×Value)}(p:P a)(e:h.DictOf (strKind Z.prog Z.w) a kvs):h'.DictOf (strKind Z.prog Z.w) a kvs/\P' a :=
 e.elim λo q=>q.elim λes q=>q.elim λep q=>have z:=hk a o p (.inr (.inr (.inl q.2.1.1))) q.1
  ⟨⟨o,es,ep,z.1,q.2⟩,z.2⟩
section
variable{Z:Cf}{h h':Heap}{N N':Nat}{P P':Addr->Prop}
theorem R.frame(hk:Same h h' P P')(hN:N<=N'){v:Value}{d:PV}(x:R Z h N P v d):R Z h' N' P' v d :=
 R.rec (motive_1:=λv d zz=>R Z h' N' P' v d) (motive_2:=λvs ds zz=>RS Z h' N' P' vs ds) .none .bool .int (λx t h1 h2=>.str x t h1 (EX h2 hN))
  (λp e z zz ih=>.list (hk _ _ p eJ e).2 (hk _ _ p eJ e).1 z ih) (λp e z zz hr ih=>.tup (hk _ _ p ia e).2 (hk _ _ p ia e).1 z ih hr)
  (λp e h0 hu q f z zz hs ih=>.rule (hk _ _ p ia e).2 (hk _ _ p ia e).1 h0 (EX hu hN) (hk _ _ q eJ f).2 (hk _ _ q eJ f).1 z ih hs)
  (λp e q k z zz ih=>.dict (iz hk p e).2 (iz hk p e).1 q k z ih) (λp e z=>.rng (hk _ _ p (.inr (.inr (.inr rfl))) e).2 (hk _ _ p (.inr (.inr (.inr rfl))) e).1 z)
  .nil (λzz zz a b=>.cons a b) x
theorem RS.frame(hk:Same h h' P P')(hN:N<=N'){vs:List Value}{ds:List PV}(x:RS Z h N P vs ds):RS Z h' N' P' vs ds:=by
 induction vs generalizing ds with
 | nil=>cases x;exact .nil
 | cons v vs ih=>cases x with | cons a r=>exact .cons (a.frame hk hN) (ih r)
end
inductive IsL(Z:Cf)(h:Heap)(N:Nat)(P:Addr->Prop)(ds:List PV):Value->Prop
 | list {a:Addr} {vs:List Value} {n:Nat}:P a->h.get? a=some (bY vs n)->ds.length<=az->RS Z h N P vs ds->IsL Z h N P ds (.ref a)
inductive IsT(Z:Cf)(h:Heap)(N:Nat)(P:Addr->Prop)(ds:List PV):Value->Prop
 | tup {a:Addr} {vs:List Value} {n:Nat}:P a->h.get? a=some (gO vs n)->ds.length<=az->RS Z h N P vs ds->IsT Z h N P ds (.ref a)
inductive IsD(Z:Cf)(h:Heap)(N:Nat)(P:Addr->Prop)(ks:List Str)(ds:List PV):Value->Prop
 | dict {a:Addr} {kvs:List (Str×Value)}:P a->h.DictOf (strKind Z.prog Z.w) a kvs->(a==sysModules)=false->kvs.map (·.1)=ks->ks.length<=az->RS Z h N P (kvs.map (·.2)) ds->IsD Z h N P ks ds (.ref a)
inductive IsI(i:Int):Value->Prop
 | int (t:Tok):IsI i (.int i t)
inductive IsS(N:Nat)(x:Str):Value->Prop
 | str (t:Tok) (ht:t≠0) (hN:t<N):IsS N x (.str x t)
section
variable{Z:Cf}{h:Heap}{N:Nat}{P:Addr->Prop}{v:Value}{xs:List PV}
theorem R.l(x:R Z h N P v (.list xs)):IsL Z h N P xs v:=by cases x with | list p e z r=>exact .list p e z r
theorem R.t(x:R Z h N P v (.tup xs)):IsT Z h N P xs v:=by
 cases x with
 | tup p e z r=>exact .tup p e z r
 | rule p e h0 hu q f z r hs=>exact .tup p e (show 2<=az by decide) (.cons (.str _ _ h0 hu) (.cons (.list q f z r) .nil))
theorem R.d{ks:List Str}(x:R Z h N P v (.dict ks xs)):IsD Z h N P ks xs v:=by cases x with | dict p e q k z r=>exact .dict p e q k z r
theorem R.i{i:Int}(x:R Z h N P v (.int i)):IsI i v:=by cases x with | int zz t=>exact .int t
theorem R.s{y:Str}(x:R Z h N P v (.str y)):IsS N y v:=by cases x with | str zz t ht hN=>exact .str t ht hN
theorem R.b{b:Bool}(x:R Z h N P v (.bool b)):v=.bool b:=by cases x;rfl
theorem R.n(x:R Z h N P v .none):v=.none:=by cases x;rfl
end
section
variable{Z:Cf}{h h':Heap}{N N':Nat}{P P':Addr->Prop}{v:Value}{d:PV}{vs ws:List Value}{ds es:List PV}
theorem R.mono(hp:∀a,P a->P' a)(x:R Z h N P v d):R Z h N P' v d:=x.frame (λzz zz p zz e=>⟨e,hp _ p⟩) (ER N)
theorem RS.mono(hp:∀a,P a->P' a)(x:RS Z h N P vs ds):RS Z h N P' vs ds:=x.frame (λzz zz p zz e=>⟨e,hp _ p⟩) (ER N)
theorem R.keeps(hk:∀b o,h.get? b=some o->h'.get? b=some o)(hN:N<=N')(x:R Z h N P v d):R Z h' N' P v d:=x.frame (λzz zz p zz e=>⟨hk _ _ e,p⟩) hN
theorem RS.keeps(hk:∀b o,h.get? b=some o->h'.get? b=some o)(hN:N<=N')(x:RS Z h N P vs ds):RS Z h' N' P vs ds:=x.frame (λzz zz p zz e=>⟨hk _ _ e,p⟩) hN
theorem R.off{b:Addr}(hs:Heap.ExtBut b h h')(hb:¬P b)(hN:N<=N')(x:R Z h N P v d):R Z h' N' P v d :=
 x.frame (λa o p zz e=>⟨hs a o (λq=>hb (q▸p)) e,p⟩) hN
theorem RS.off{b:Addr}(hs:Heap.ExtBut b h h')(hb:¬P b)(hN:N<=N')(x:RS Z h N P vs ds):RS Z h' N' P vs ds :=
 x.frame (λa o p zz e=>⟨hs a o (λq=>hb (q▸p)) e,p⟩) hN
theorem RS.length(x:RS Z h N P vs ds):vs.length=ds.length:=by
 induction vs generalizing ds with
 | nil=>cases x;rfl
 | cons v vs ih=>cases x with | cons zz r=>rw[Fl,Fl,ih r]
theorem RS.append(x:RS Z h N P vs ds)(y:RS Z h N P ws es):RS Z h N P (vs++ws) (ds++es):=by
 induction vs generalizing ds with
 | nil=>cases x;exact y
 | cons v vs ih=>cases x with | cons a r=>exact .cons a (ih r)
theorem RS.one(x:R Z h N P v d):RS Z h N P [v] [d]:=.cons x .nil
theorem RS.get(x:RS Z h N P vs ds){k:Nat}{d:PV}(hk:ds[k]?= some d):∃v,vs[k]?= some v/\R Z h N P v d:=by
 induction vs generalizing ds k with
 | nil=>cases x;simp at hk
 | cons v vs ih =>
  cases x with
  | cons a r =>
   cases k with
   | zero=>simp at hk;subst hk;exact⟨v,rfl,a⟩
   | succ k=>simpa using ih r (by simpa using hk)
theorem RS.get'(x:RS Z h N P vs ds){k:Nat}{v:Value}(hk:vs[k]?= some v):∃d,ds[k]?= some d/\R Z h N P v d:=by
 induction vs generalizing ds k with
 | nil=>simp at hk
 | cons u vs ih =>
  cases x with
  | cons a r =>
   cases k with
   | zero=>simp at hk;subst hk;exact⟨_,rfl,a⟩
   | succ k=>simpa using ih r (by simpa using hk)
theorem RS.drop(x:RS Z h N P vs ds)(k:Nat):RS Z h N P (vs.drop k) (ds.drop k):=by
 induction k generalizing vs ds with
 | zero=>exact x
 | succ k ih=>cases x with
  | nil=>exact .nil
  | cons a r=>exact ih r
theorem RS.take(x:RS Z h N P vs ds)(k:Nat):RS Z h N P (vs.take k) (ds.take k):=by
 induction k generalizing vs ds with
 | zero=>exact .nil
 | succ k ih=>cases x with
  | nil=>exact .nil
  | cons a r=>exact .cons a (ih r)
theorem RS.reverse(x:RS Z h N P vs ds):RS Z h N P vs.reverse ds.reverse:=by
 induction vs generalizing ds with
 | nil=>cases x;exact .nil
 | cons v vs ih=>cases x with
  | cons a r=>rw[IT,IT];exact(ih r).append (.one a)
theorem RS.replicate(x:RS Z h N P vs ds)(k:Nat):RS Z h N P (Fw k vs).flatten (Fw k ds).flatten:=by
 induction k with
 | zero=>exact .nil
 | succ k ih=>rw[Hk,Hk,Ia,Ia];exact x.append ih
end
theorem R.atom{Z:Cf}{h h':Heap}{N N':Nat}{P P':Addr->Prop}{v:Value}{d:PV}(x:R Z h N P v d)(ha:d.atom=true)(hN:N<=N'):R Z h' N' P' v d:=by
 cases x with
 | none=>exact .none
 | bool b=>exact .bool b
 | int i t=>exact .int i t
 | str x t ht h2=>exact .str x t ht (EX h2 hN)
 | list=>cases ha
 | tup=>cases ha
 | rule=>cases ha
 | dict=>cases ha
 | rng=>cases ha
theorem RS.atom{Z:Cf}{h h':Heap}{N N':Nat}{P P':Addr->Prop}{vs:List Value}{ds:List PV}(x:RS Z h N P vs ds)(ha:ds.all PV.atom=true)(hN:N<=N'):RS Z h' N' P' vs ds:=by
 induction vs generalizing ds with
 | nil=>cases x;exact .nil
 | cons v vs ih=>cases x with
  | cons a r =>
   rw[F5,Gj]at ha
   exact .cons (a.atom ha.1 hN) (ih r ha.2)
theorem look_kvs{Z:Cf}{h:Heap}{N:Nat}{P:Addr->Prop}{kvs:List (Str×Value)}{ds:List PV}(r:RS Z h N P (kvs.map (·.2)) ds)(k:Str) :
  (match aT (kvs.map (·.1)) ds k with
   | some d=>∃v,valueAt kvs k=some v/\R Z h N P v d
   | EL=>valueAt kvs k=EL):=by
 induction kvs generalizing ds with
 | nil=>cases r;show valueAt [] k=EL;simp[valueAt]
 | cons kv kvs ih =>
  cases r with
  | cons a r =>
   have ih:=ih r
   simp only[look_cons,Fp]
   by_cases hx:kv.1=k
   .subst hx
    simp only[if_true]
    exact⟨kv.2,by simp[valueAt],a⟩
   .simp only[if_neg hx]
    have e:valueAt (kv::kvs) k=valueAt kvs k:=by simp[valueAt,hx]
    rw[e];exact ih
theorem yU{Z:Cf}{h:Heap}{N:Nat}{P:Addr->Prop}{kvs:List (Str×Value)}{ds:List PV}{k:Str}{v:Value}{d:PV}(r:RS Z h N P (kvs.map (·.2)) ds)(a:R Z h N P v d) :
  (stored kvs k v).map (·.1)=(put (kvs.map (·.1)) ds k d).1/\RS Z h N P ((stored kvs k v).map (·.2)) (put (kvs.map (·.1)) ds k d).2:=by
 have hany:(kvs.any λkv=>decide (kv.1=k))=true↔k∈kvs.map (·.1):=by
  rw[GA,E9]
  simp
 delta stored put
 by_cases hk:k∈kvs.map (·.1)
 .rw[if_pos (hany.mpr hk),if_pos hk]
  refine⟨keys_map_store kvs k v,?_⟩
  clear hk hany
  induction kvs generalizing ds with
  | nil=>cases r;exact .nil
  | cons kv kvs ih =>
   cases r with
   | cons b r =>
    simp only[Fp,GZ]
    refine .cons ?_ (ih r)
    by_cases hx:kv.1=k
    .simp only[hx,if_true];exact a
    .simp only[hx,if_false];exact b
 .rw[if_neg (λq=>hk (hany.mp q)),if_neg hk]
  exact⟨by simp,by rw[Fc];exact r.append (.one a)⟩
end Mine
namespace Mine
open PySem PySem.SeqAt
section
variable{h:Heap}
theorem ak{vs:List Value}{n:Nat}{a:Addr}(e:h.get? a=some (bY vs n)):h.IsList a vs.toArray:=⟨_,e,rfl,n,rfl⟩
theorem ax{vs:List Value}{n:Nat}{a:Addr}(e:h.get? a=some (gO vs n)):h.IsTuple a vs.toArray:=⟨_,e,rfl,n,rfl⟩
end
noncomputable def BI:Value->Option PV
 | .none=>some .none
 | .bool b=>some (.bool b)
 | .int i θ=>some (.int i)
 | .str x θ=>some (.str x)
 | _=>EL
noncomputable def PV.cls:PV->Value
 | .list θ=>.type "list"
 | .tup θ=>.type "tuple"
 | .dict θ ξ=>.type "dict"
 | .rng θ ξ ζ=>.type "range"
 | _=>.none
section
variable{Z:Cf}{h:Heap}{N:Nat}{P P':Addr->Prop}{v:Value}{d d':PV}{a:Addr}
theorem R.dat(x:R Z h N P v d):BI v=some d\/∃a,v=.ref a:=by
 cases x with
 | none=>exact .inl rfl
 | bool b=>exact .inl rfl
 | int i t=>exact .inl rfl
 | str y t=>exact .inl rfl
 | list=>exact .inr ⟨_,rfl⟩
 | tup=>exact .inr ⟨_,rfl⟩
 | rule=>exact .inr ⟨_,rfl⟩
 | dict=>exact .inr ⟨_,rfl⟩
 | rng=>exact .inr ⟨_,rfl⟩
theorem R.atomD(x:R Z h N P v d){e:PV}(hv:BI v=some e):d=e:=by
 rcases x.dat with q | ⟨a,rfl⟩
 .exact ET (q.symm.trans hv)
 .cases hv
theorem R.cls(x:R Z h N P v d)(e:v=.ref a):∃o,h.get? a=some o/\o.cls=d.cls:=by
 cases x with
 | none=>cases e
 | bool b=>cases e
 | int i t=>cases e
 | str y t=>cases e
 | list p q zz zz=>cases e;exact⟨_,q,rfl⟩
 | tup p q zz zz=>cases e;exact⟨_,q,rfl⟩
 | rule p q=>cases e;exact⟨_,q,rfl⟩
 | dict p q zz zz zz zz=>cases e;exact q.elim λo q=>q.elim λes q=>q.elim λep q=>⟨o,q.1,q.2.1.1⟩
 | rng p q zz=>cases e;exact⟨_,q,rfl⟩
theorem R.clsAt{o:Obj}(x:R Z h N P (.ref a) d)(e:h.get? a=some o):d.cls=o.cls:=by
 obtain⟨o',h1,h2⟩:=x.cls rfl
 rw[<-h2,ET (h1.symm.trans e)]
theorem nf{a b:Value}(h:decide (a=b)=false)(e:a=b):False:=of_decide_eq_false h e
theorem oa (e:d.cls=.type "list"):∃ds,d=.list ds:=by
 cases d with
 | list ds=>exact⟨ds,rfl⟩
 | _=>exact(nf rfl e).elim
theorem sq (e:d.cls=.type "tuple"):∃ds,d=.tup ds:=by
 cases d with
 | tup ds=>exact⟨ds,rfl⟩
 | _=>exact(nf rfl e).elim
theorem ww (e:d.cls=.type "dict"):∃ks ds,d=.dict ks ds:=by
 cases d with
 | dict ks ds=>exact⟨ks,ds,rfl⟩
 | _=>exact(nf rfl e).elim
theorem yg (e:d.cls=.type "range"):∃a b c,d=.rng a b c:=by
 cases d with
 | rng a b c=>exact⟨a,b,c,rfl⟩
 | _=>exact(nf rfl e).elim
theorem g0{vs vs':List Value}{n n':Nat}(e:h.get? a=some (bY vs n))(e':h.get? a=some (bY vs' n')):vs=vs':=by
 have q:=congrArg Obj.data (ET (e.symm.trans e'))
 injection q with q1 _
 exact congrArg Jo q1
theorem li{vs vs':List Value}{n n':Nat}(e:h.get? a=some (gO vs n))(e':h.get? a=some (gO vs' n')):vs=vs':=by
 have q:=congrArg Obj.data (ET (e.symm.trans e'))
 injection q with q1 _
 exact congrArg Jo q1
theorem pairs_inj{es:List DictEntry}{k1 k2:List (Str×Value)}(p1:Pairs (strKind Z.prog Z.w) es k1):Pairs (strKind Z.prog Z.w) es k2->k1=k2:=by
 induction p1 generalizing k2 with
 | nil=>intro p2;cases p2;rfl
 | cons a b zz ih =>
  intro p2
  cases p2 with
  | cons a' b' p2=>rw[ih p2];congr 1;exact Prod.ext ((strKind Z.prog Z.w).inj _ _ _ a a') (b.symm.trans b')
theorem jX{k1 k2:List (Str×Value)}(e:h.DictOf (strKind Z.prog Z.w) a k1)(e':h.DictOf (strKind Z.prog Z.w) a k2):k1=k2:=by
 refine cps λGq hGq=>?_
 obtain⟨o,es,ep,ho,hc,hd,hk,hp,hn⟩:=e
 obtain⟨o',es',ep',ho',hc',hd',hk',hp',hn'⟩:=e'
 refine hGq ?_
 clear hGq
 obtain rfl:o=o':=ET (ho.symm.trans ho')
 rw[hd]at hd'
 injection hd' with h1 h2
 subst h1
 exact pairs_inj hp hp'
theorem R.det(x:R Z h N P v d)(y:R Z h N P' v d'):d=d' :=
 R.rec (motive_1:=λv d zz=>∀d',R Z h N P' v d'->d=d') (motive_2:=λvs ds zz=>∀ds',RS Z h N P' vs ds'->ds=ds')
  (λzz y=>(y.atomD rfl).symm) (λzz zz y=>(y.atomD rfl).symm) (λzz zz zz y=>(y.atomD rfl).symm) (λzz zz zz zz zz y=>(y.atomD rfl).symm)
  (λp e z r ih d' y=>by
   obtain⟨ds,rfl⟩:=oa (y.clsAt e)
   cases y.l with | list p' e' z' r'=>rw[ih ds (g0 e e'▸r')])
  (λp e z r hr ih d' y=>by
   obtain⟨ds,rfl⟩:=sq (y.clsAt e)
   cases y.t with | tup p' e' z' r'=>rw[ih ds (li e e'▸r')])
  (λp e h0 hu q f z r hs ih d' y=>by
   obtain⟨ds,rfl⟩:=sq (y.clsAt e)
   cases y.t with
   | tup p' e' z' r' =>
    obtain rfl:=li e e'
    cases r' with
    | cons a1 r1 =>
     cases r1 with
     | cons a2 r2 =>
      cases r2
      rw[a1.atomD rfl]
      obtain⟨ds2,rfl⟩:=oa (a2.clsAt f)
      cases a2.l with | list p2 e2 z2 r2=>rw[ih ds2 (g0 f e2▸r2)])
  (λp e q k z r ih d' y=>by
   refine cps λGq hGq=>?_
   obtain⟨o,es,ep,ho,hc,zz⟩:=id e
   refine hGq ?_
   clear hGq
   obtain⟨ks,ds,rfl⟩:=ww ((y.clsAt ho).trans hc.1)
   cases y.d with | dict p' e' q' k' z' r'=>rw[<-k',<-k,jX e e',ih ds (jX e e'▸r')])
  (λp e z d' y=>by
   obtain⟨a,b,c,rfl⟩:=yg (y.clsAt e)
   cases y with
   | rng zz e' zz =>
    have q:=congrArg Obj.data (ET (e.symm.trans e'))
    simp at q
    refine cps λGq hGq=>?_
    obtain⟨⟨q1,zz⟩,⟨q2,zz⟩,q3,zz⟩:=q
    refine hGq ?_
    clear hGq
    rw[q1,q2,q3])
  (λds' y=>by cases y;rfl) (λzz zz i1 i2 ds' y=>by cases y with | cons a' r'=>rw[i1 _ a',i2 _ r']) x d' y
theorem RS.det{vs:List Value}{ds ds':List PV}(x:RS Z h N P vs ds)(y:RS Z h N P' vs ds'):ds=ds':=by
 induction vs generalizing ds ds' with
 | nil=>cases x;cases y;rfl
 | cons v vs ih=>cases x with | cons a r=>cases y with | cons a' r'=>rw[a.det a',ih r r']
end
inductive EqV:PV->PV->Bool->Prop
 | none:EqV .none .none true
 | nl (ds):EqV .none (.list ds) false
 | ln (ds):EqV (.list ds) .none false
 | bool (a b):EqV (.bool a) (.bool b) (a==b)
 | int (a b):EqV (.int a) (.int b) (a==b)
 | str (a b):EqV (.str a) (.str b) (a==b)
 | list {xs ys k}:eC xs ys=some k->EqV (.list xs) (.list ys) k
 | tup {xs ys k}:eC xs ys=some k->EqV (.tup xs) (.tup ys) k
theorem zB{α:Type}{o:Option Unit}{x:α}{y:Option α}{r:α}(h:(if o.isSome then some x else y)=some r):(∃u,o=some u/\x=r)\/y=some r:=by
 cases o with
 | none=>exact .inr h
 | some u=>exact .inl ⟨u,rfl,ET h⟩
theorem eqv{x y:PV}{k:Bool}(h:aeq x y=some k):EqV x y k:=by
 cases x with
 | none =>
  rcases zB h with⟨u,h1,rfl⟩ | h
  .rw[zk h1];exact .none
  .obtain⟨ds,h1,rfl⟩:=aq h;rw[dL_eq h1];exact .nl ds
 | bool a=>obtain⟨b,h1,rfl⟩:=aq h;rw[rI h1];exact .bool a b
 | int a=>obtain⟨b,h1,rfl⟩:=aq h;rw[dI_eq h1];exact .int a b
 | str a=>obtain⟨b,h1,rfl⟩:=aq h;rw[dR h1];exact .str a b
 | list xs =>
  rcases zB h with⟨u,h1,rfl⟩ | h
  .rw[zk h1];exact .ln xs
  .obtain⟨ds,h1,h2⟩:=ac h;rw[dL_eq h1];exact .list h2
 | tup xs=>obtain⟨ds,h1,h2⟩:=ac h;rw[lM h1];exact .tup h2
 | dict zz zz=>cases h
 | rng zz zz zz=>cases h
theorem j3{x y:PV}{xs ys:List PV}{k:Bool}(h:eC (x::xs) (y::ys)=some k):∃a b,aeq x y=some a/\eC xs ys=some b/\k=(a&&b):=by
 refine cps λGq hGq=>?_
 obtain⟨a,h1,h⟩:=ac h
 obtain⟨b,h2,h⟩:=ac h
 refine hGq ?_
 clear hGq
 exact⟨a,b,h1,h2,(ET h).symm⟩
noncomputable def dq(xs ys:List PV)(j:Nat):Bool:=(xs[j]?.bind λa=>ys[j]?.bind λb=>aeq a b).getD false
theorem td(xs:List PV):∀(ys:List PV) (k:Bool),eC xs ys=some k->((Fd (min xs.length ys.length)).all (dq xs ys)&&xs.length==ys.length)=k:=by
 induction xs with
 | nil =>
  intro ys k h
  have:=ET h
  cases ys<;>exact this
 | cons x xs ih =>
  intro ys k h
  cases ys with
  | nil=>exact ET h
  | cons y ys =>
   obtain⟨a,b,ha,hb,rfl⟩:=j3 h
   have e1:min (x::xs).length (y::ys).length=min xs.length ys.length+1:=Nat.add_min_add_right ..
   have e3:dq (x::xs) (y::ys) 0=a:=by show(aeq x y).getD false=a;rw[ha];rfl
   have e4:((x::xs).length==(y::ys).length)=(xs.length==ys.length):=decide_eq_decide.mpr Nat.succ_inj
   rw[e1,List.range_succ_eq_map,F5,GM,e3,Bool.and_assoc,e4]
   exact congrArg (a&&·) (ih ys b hb)
theorem aeqs_all{xs ys:List PV}{k:Bool}(h:eC xs ys=some k):((Fd (min xs.length ys.length)).all (dq xs ys)&&xs.length==ys.length)=k:=td xs ys k h
theorem aeqs_length{xs ys:List PV}{k:Bool}(h:eC xs ys=some k)(hl:xs.length≠ys.length):k=false:=by
 rw[<-aeqs_all h,beq_false_of_ne hl,Gf]
theorem pF(d:PV):∀k,aeq d d=some k->k=true :=
 PV.rec (motive_1:=λd=>∀k,aeq d d=some k->k=true) (motive_2:=λds=>∀k,eC ds ds=some k->k=true)
  (λk h=>(ET h).symm) (λb k h=>(ET h).symm.trans (beq_self_eq_true b)) (λb k h=>(ET h).symm.trans (beq_self_eq_true b)) (λb k h=>(ET h).symm.trans (beq_self_eq_true b))
  (λds ih=>ih) (λds ih=>ih) (λzz zz zz k h=>yP h) (λzz zz zz k h=>yP h) (λk h=>(ET h).symm)
  (λx xs i1 i2 k h=>by obtain⟨a,b,ha,hb,rfl⟩:=j3 h;rw[i1 a ha,i2 b hb];rfl) d
section
variable{Z:Cf}{P P':Addr->Prop}{xs ys:List PV}{A:Around}{s:Shared}{l l':Addr}{vs vs':List Value}{n n':Nat}{k:Bool}
theorem kR(r:RS Z s.heap s.toks P vs xs)(r':RS Z s.heap s.toks P' vs' ys)
  (e:s.heap.get? l=some (bY vs n)) (e':s.heap.get? l'=some (bY vs' n')) (h:eC xs ys=some k) (he:∀j (h1:j<vs.length) (h2:j<vs'.length),EqAt A.in1 s vs[j] vs'[j] (dq xs ys j)) (hu:A.units<cLine) :
  RcAt A s (.ref l) (.ref l') k:=by
 have n1:=r.length
 have n2:=r'.length
 by_cases hsz:vs.length=vs'.length
 .have:=RcAt.lists (e:=dq xs ys) (ak e) (ak e') hsz hu he
  have q:=aeqs_all h
  have e1:xs.length=ys.length:=n1.symm.trans (hsz.trans n2)
  rw[beq_iff_eq.mpr e1,FY,<-e1,Jp,<-n1]at q
  rw[<-q];exact this
 .rw[aeqs_length h λq=>hsz (n1.trans (q.trans n2.symm))]
  exact RcAt.lists_lengths (A:=A) (ak e) (ak e') (bne_iff_ne.mpr hsz) hu
theorem jo(r:RS Z s.heap s.toks P vs xs)(r':RS Z s.heap s.toks P' vs' ys)
  (e:s.heap.get? l=some (gO vs n)) (e':s.heap.get? l'=some (gO vs' n')) (h:eC xs ys=some k) (he:∀j (h1:j<vs.length) (h2:j<vs'.length),EqAt A.in1 s vs[j] vs'[j] (dq xs ys j)) (hu:A.units<cLine) :
  RcAt A s (.ref l) (.ref l') k:=by
 have:=RcAt.tuples (e:=dq xs ys) (ax e) (ax e') hu he
 rw[FJ,FJ,r.length,r'.length]at this
 rw[<-aeqs_all h];exact this
end
section
variable(Z:Cf)(P P':Addr->Prop)
abbrev EqR(da:PV):Prop:=∀(db:PV) (A:Around) (s:Shared) (a b:Value) (k:Bool),R Z s.heap s.toks P a da->R Z s.heap s.toks P' b db->aeq da db=some k->A.units+da.depth+db.depth<cLine->EqAt A s a b k
abbrev EqRS(xs:List PV):Prop:=∀(ys:List PV) (A:Around) (s:Shared) (vs vs':List Value) (k:Bool),RS Z s.heap s.toks P vs xs->RS Z s.heap s.toks P' vs' ys->eC xs ys=some k ->
  A.units+PV.depths xs+PV.depths ys<cLine->∀j (h1:j<vs.length) (h2:j<vs'.length),EqAt A s vs[j] vs'[j] (dq xs ys j)
variable{Z P P'}
theorem wt{u a b c:Nat}(h:u+a+b<c):u<c:=ES (EK (Ff u a) (Ff _ b)) h
theorem zC{u a b c:Nat}(h:u+(a+1)+(b+1)<c):u+1+a+b<c:=by rw[Hq u 1 a];exact GP h
theorem fz{da:PV}(hl:∀xs,da=.list xs\/da=.tup xs->EqRS Z P P' xs):EqR Z P P' da:=by
 intro db A s a b k ra rb h hu
 induction eqv h with
 | none=>rw[ra.n,rb.n];exact EqAt.same _
 | nl ds=>rw[ra.n];induction rb.l with | list zz e zz zz=>exact EqAt.none_list (ak e) (wt hu)
 | ln ds=>rw[rb.n];induction ra.l with | list zz e zz zz=>exact EqAt.list_none (ak e) (wt hu)
 | bool x y=>rw[ra.b,rb.b];exact EqAt.bool_bool x y
 | int x y=>induction ra.i with | int t=>induction rb.i with | int u=>exact EqAt.int_int x t y u
 | str x y=>induction ra.s with | str t=>induction rb.s with | str u=>exact EqAt.str_str x t y u
 | @list xs ys k h2 =>
  induction ra.l with
  | @list l vs n p e z r =>
   induction rb.l with
   | @list l' vs' n' p' e' z' r' =>
    by_cases hq:l=l'
    .subst hq
     have e1:=g0 e e'
     subst e1
     have e2:=RS.det r r'
     subst e2
     rw[pF (.list xs) k h];exact EqAt.same _
    .exact EqAt.of_refs hq (kR r r' e e' h2 (hl xs (.inl rfl) ys A.in1 s vs vs' k r r' h2 (zC hu)) (wt hu))
 | @tup xs ys k h2 =>
  induction ra.t with
  | @tup l vs n p e z r =>
   induction rb.t with
   | @tup l' vs' n' p' e' z' r' =>
    by_cases hq:l=l'
    .subst hq
     have e1:=li e e'
     subst e1
     have e2:=RS.det r r'
     subst e2
     rw[pF (.tup xs) k h];exact EqAt.same _
    .exact EqAt.of_refs hq (jo r r' e e' h2 (hl xs (.inr rfl) ys A.in1 s vs vs' k r r' h2 (zC hu)) (wt hu))
theorem o9:EqRS Z P P' []:=by
 intro ys A s vs vs' k ra rb h hu j h1
 rw[ra.length]at h1
 exact absurd h1 (FP _)
theorem lt_max{u a b c d n:Nat}(h:u+max a b+max c d<n):u+a+c<n/\u+b+d<n:=⟨ES (E8 (Fo (GI a b) u) (GI c d)) h,ES (E8 (Fo (Gz a b) u) (Gz c d)) h⟩
theorem mw{x:PV}{xs:List PV}(hx:EqR Z P P' x)(hxs:EqRS Z P P' xs):EqRS Z P P' (x::xs):=by
 intro ys A s vs vs' k ra rb h hu j h1 h2
 cases ys with
 | nil=>rw[rb.length]at h2;exact absurd h2 (FP _)
 | cons y ys =>
  obtain⟨a,b,ha,hb,rfl⟩:=j3 h
  cases ra with
  | cons ra1 ras =>
   cases rb with
   | cons rb1 rbs =>
    cases j with
    | zero =>
     have:=hx y A s _ _ a ra1 rb1 ha (lt_max hu).1
     show EqAt A s _ _ ((aeq x y).getD false)
     rw[ha];exact this
    | succ j=>exact hxs ys A s _ _ b ras rbs hb (lt_max hu).2 j (Gx h1) (Gx h2)
theorem qw(da:PV):EqR Z P P' da :=
 PV.rec (motive_1:=EqR Z P P') (motive_2:=EqRS Z P P') (fz λzz h=>by rcases h with h | h<;>cases h) (λzz=>fz λzz h=>by rcases h with h | h<;>cases h) (λzz=>fz λzz h=>by rcases h with h | h<;>cases h) (λzz=>fz λzz h=>by rcases h with h | h<;>cases h)
  (λds ih=>fz λzz h=>by rcases h with h | h<;>cases h;exact ih) (λds ih=>fz λzz h=>by rcases h with h | h<;>cases h;exact ih)
  (λzz zz zz=>fz λzz h=>by rcases h with h | h<;>cases h) (λzz zz zz=>fz λzz h=>by rcases h with h | h<;>cases h) o9 (λzz zz=>mw) da
theorem jL(xs:List PV):EqRS Z P P' xs:=by
 induction xs with
 | nil=>exact o9
 | cons x xs ih=>exact mw (qw x) ih
end
end Mine
namespace Mine
open PySem
structure CE where
 names:List Str
 kind:Str->Option NameKind
 gl:Bool
noncomputable def lastIdx(x:Str):List Str->Nat->Option Nat
 | [],θ=>EL
 | y::ys,n=>match lastIdx x ys (n+1)with
  | some i=>some i
  | EL=>if y=x then some n else EL
noncomputable def CE.idx(ce:CE)(x:Str):Option Nat:=lastIdx x ce.names 0
noncomputable def d9:Option NameKind->Bool
 | some .local | some .cell | some .free=>true
 | _=>false
noncomputable def cW:Option NameKind->Bool
 | some .globalImplicit=>true
 | _=>false
noncomputable def cR(κ:Str->Option NameKind)(names:List (Str×NameKind)):List (Str×NameKind) :=
 names.map λy=>if(y.2==.free&&κ y.1==some .cell)then(y.1,.cell)else y
noncomputable def CE.inner(ce:CE)(scope:Scope)(xs:List Str):CE:=⟨ce.names++xs,λy=>(cR ce.kind scope.names).lookup y,ce.gl⟩
noncomputable def yR:ScopeKind->Bool
 | .function=>true
 | _=>false
noncomputable def jK:NameKind->Bool
 | .local=>true
 | _=>false
noncomputable def nV:NameKind->Bool
 | .free=>true
 | _=>false
noncomputable def aY:NameKind->Bool
 | .cell=>true
 | _=>false
noncomputable def dN(names:List (Str×NameKind))(x:Str):Bool:=match names.lookup x with
 | some .local=>true
 | _=>false
noncomputable def de:Option NameKind->Bool
 | some .cell | some .free=>true
 | _=>false
noncomputable def CE.compOk(ce:CE)(scope:Scope)(xs:List Str):Bool :=
 yR scope.kind&&scope.names.all (λy=>!aY y.2)&&scope.names.all (λy=>!jK y.2||dN scope.names y.1)&&xs.all (dN scope.names) &&
 scope.names.all (λy=>!nV y.2||de (ce.kind y.1))&&!ce.names.contains (".0":Str)&&scope.names.all (λy=>!jK y.2||y.1==(".0":Str)||xs.contains y.1)&&!xs.contains (".0":Str)
noncomputable def nH(l:List (Str×NameKind))(x:Str):Bool:=match l.filter (λy=>aY y.2)with
 | [y]=>y.1==x
 | _=>false
noncomputable def kz(names:List (Str×NameKind))(x:Str):Bool:=match names.lookup x with
 | some .cell=>true
 | _=>false
noncomputable def CE.compOkC(ce:CE)(scope:Scope)(x:Str):Bool :=
 yR scope.kind&&(nH scope.names x&&(kz scope.names x&&(scope.names.all (λy=>!jK y.2||(y.1==(".0":Str)&&dN scope.names y.1)) &&
 (scope.names.all (λy=>!nV y.2||(de (ce.kind y.1)&&!(y.1==x)))&&(!ce.names.contains (".0":Str)&&!(x==(".0":Str)))))))
noncomputable def aM:Expr->Bool
 | .Set ..=>true
 | _=>false
noncomputable def aF:Expr->Bool
 | .Starred ..=>true
 | _=>false
noncomputable def aH{α:Type}{p:α->Prop}(o:Option {x:α // p x})(f:α->Bool):Bool:=match o with
 | some x=>f x.1
 | EL=>false
inductive Gt{α:Type}(p:α->Prop)(f:α->Bool):Prop
 | mk (x:α) (h:p x) (k:f x=true):Gt p f
theorem ag{α:Type}{p:α->Prop}{o:Option {x:α // p x}}{f:α->Bool}(h:aH o f=true):Gt p f:=by
 cases o with
 | none=>cases h
 | some x=>exact⟨x.1,x.2,h⟩
theorem and2{a b:Bool}(h:(a&&b)=true):a=true/\b=true:=by
 cases a with
 | true=>exact⟨rfl,h⟩
 | false=>cases h
theorem bZ{a:Bool}(h:(!a)=true):a=false:=by
 cases a with
 | true=>cases h
 | false=>rfl
theorem decT{p:Prop}[Decidable p](h:decide p=true):p:=of_decide_eq_true h
theorem cc{α:Type}{o:Option α}(h:o.isNone=true):o=EL:=by
 cases o with
 | none=>rfl
 | some zz=>cases h
theorem isEmpty_of{α:Type}{o:List α}(h:o.isEmpty=true):o=[]:=by
 cases o with
 | nil=>rfl
 | cons zz zz=>cases h
noncomputable def my(e:Expr):Option {x:Str // ∃p,e=.Name x p}:=if h:e.ctorIdx=23 then Expr.Name.elim e h λx p=>some ⟨x,p,rfl⟩else EL
noncomputable def cT(e:Expr):Option {x:Const // ∃k p,e=.Constant x k p}:=if h:e.ctorIdx=19 then Expr.Constant.elim e h λx k p=>some ⟨x,k,p,rfl⟩else EL
noncomputable def CP(e:Expr):Option {x:UnaryOp×Expr // ∃p,e=.UnaryOp x.1 x.2 p}:=if h:e.ctorIdx=3 then Expr.UnaryOp.elim e h λo y p=>some ⟨(o,y),p,rfl⟩else EL
noncomputable def wH(e:Expr):Option {x:List Expr // ∃p,e=.List x p}:=if h:e.ctorIdx=24 then Expr.List.elim e h λx p=>some ⟨x,p,rfl⟩else EL
noncomputable def gE(e:Expr):Option {x:List Expr // ∃k p,e=.Tuple x k p}:=if h:e.ctorIdx=25 then Expr.Tuple.elim e h λx k p=>some ⟨x,k,p,rfl⟩else EL
noncomputable def Cr(e:Expr):Option {x:Expr×Operator×Expr // ∃p,e=.BinOp x.1 x.2.1 x.2.2 p}:=if h:e.ctorIdx=2 then Expr.BinOp.elim e h λl o r p=>some ⟨(l,o,r),p,rfl⟩else EL
noncomputable def qt(e:Expr):Option {x:Expr×Expr // ∃p,e=.Subscript x.1 x.2 p}:=if h:e.ctorIdx=21 then Expr.Subscript.elim e h λv s p=>some ⟨(v,s),p,rfl⟩else EL
noncomputable def uD(e:Expr):Option {x:Option Expr×Option Expr×Option Expr // ∃p,e=.Slice x.1 x.2.1 x.2.2 p}:=if h:e.ctorIdx=26 then Expr.Slice.elim e h λl u s p=>some ⟨(l,u,s),p,rfl⟩else EL
noncomputable def w5(e:Expr):Option {x:Expr×List CmpOp×List Expr // ∃p,e=.Compare x.1 x.2.1 x.2.2 p}:=if h:e.ctorIdx=15 then Expr.Compare.elim e h λl o r p=>some ⟨(l,o,r),p,rfl⟩else EL
noncomputable def rX(e:Expr):Option {x:BoolOp×List Expr // ∃p,e=.BoolOp x.1 x.2 p}:=if h:e.ctorIdx=0 then Expr.BoolOp.elim e h λo l p=>some ⟨(o,l),p,rfl⟩else EL
noncomputable def dIf(e:Expr):Option {x:Expr×Expr×Expr // ∃p,e=.IfExp x.1 x.2.1 x.2.2 p}:=if h:e.ctorIdx=5 then Expr.IfExp.elim e h λt a b p=>some ⟨(t,a,b),p,rfl⟩else EL
noncomputable def ut(e:Expr):Option {x:Expr×List Expr×List Keyword×Pos // e=.Call x.1 x.2.1 x.2.2.1 x.2.2.2}:=if h:e.ctorIdx=16 then Expr.Call.elim e h λf as ks p=>some ⟨(f,as,ks,p),rfl⟩else EL
noncomputable def BB(e:Expr):Option {x:Expr×Str×Pos // e=.Attribute x.1 x.2.1 x.2.2}:=if h:e.ctorIdx=20 then Expr.Attribute.elim e h λo m p=>some ⟨(o,m,p),rfl⟩else EL
noncomputable def BP(e:Expr):Option {x:Expr×List Comprehension×Scope // ∃p,e=.ListComp x.1 x.2.1 x.2.2 p}:=if h:e.ctorIdx=8 then Expr.ListComp.elim e h λel gs sc p=>some ⟨(el,gs,sc),p,rfl⟩else EL
noncomputable def CQ(e:Expr):Option {x:Expr×List Comprehension×Scope // ∃p,e=.SetComp x.1 x.2.1 x.2.2 p}:=if h:e.ctorIdx=9 then Expr.SetComp.elim e h λel gs sc p=>some ⟨(el,gs,sc),p,rfl⟩else EL
noncomputable def dGE(e:Expr):Option {x:Expr×List Comprehension×Scope // ∃p,e=.GeneratorExp x.1 x.2.1 x.2.2 p}:=if h:e.ctorIdx=11 then Expr.GeneratorExp.elim e h λel gs sc p=>some ⟨(el,gs,sc),p,rfl⟩else EL
noncomputable def zq(e:Expr):Option {x:List (Option Expr)×List Expr // ∃p,e=.Dict x.1 x.2 p}:=if h:e.ctorIdx=6 then Expr.Dict.elim e h λks vs p=>some ⟨(ks,vs),p,rfl⟩else EL
noncomputable def g8{α:Type}(l:List α):Option {x:α // l=[x]}:=match l with
 | [x]=>some ⟨x,rfl⟩
 | _=>EL
noncomputable def kr{α:Type}(l:List α):Option {x:α×α // l=[x.1,x.2]}:=match l with
 | [x,y]=>some ⟨(x,y),rfl⟩
 | _=>EL
noncomputable def mH{α:Type}(l:List α):Option {x:α×α×α // l=[x.1,x.2.1,x.2.2]}:=match l with
 | [x,y,z]=>some ⟨(x,y,z),rfl⟩
 | _=>EL
noncomputable def rO{α:Type}(l:Option α):Option {x:α // l=some x}:=match l with
 | some x=>some ⟨x,rfl⟩
 | _=>EL
noncomputable def oX(g:Comprehension):Option {x:Str×Expr×List Expr // ∃p,g=⟨.Name x.1 p,x.2.1,x.2.2,0⟩}:=match g with
 | ⟨.Name x p,it,ifs,0⟩=>some ⟨(x,it,ifs),p,rfl⟩
 | _=>EL
noncomputable def m8(e:Expr):Bool:=(ut e).isSome
noncomputable def lj:List Str->List (Option Expr)->Bool
 | [],l=>l.isEmpty
 | x::xs,l=>match l with
  | some e::es=>(aH (cT e) λc=>c==.str x)&&lj xs es
  | _=>false
noncomputable def wd(k:Str->List Expr->Bool)(e:Expr):Bool:=aH (ut e) λx=>x.2.2.1.isEmpty&&aH (my x.1) λf=>k f x.2.1
theorem oL{k:Str->List Expr->Bool}{e:Expr}(h:wd k e=true):∃f as p q,e=.Call (.Name f p) as [] q/\k f as=true:=by
 obtain⟨x,rfl,ha⟩:=ag h
 refine cps λGq hGq=>?_
 obtain⟨h1,h2⟩:=and2 ha
 obtain⟨f,⟨p,e⟩,h3⟩:=ag h2
 refine hGq ?_
 clear hGq
 exact⟨f,_,p,_,by rw[e,isEmpty_of h1],h3⟩
noncomputable def jM(ce:CE)(f:Str)(k:List Expr->Bool)(e:Expr):Bool:=wd (λg as=>decide (g=f)&&(cW (ce.kind f)&&(as.all (!aF ·)&&k as))) e
inductive CallOf(ce:CE)(f:Str)(k:List Expr->Bool)(e:Expr):Prop
 | mk (as:List Expr) (p q:Pos) (h:e=.Call (.Name f p) as [] q) (h1:cW (ce.kind f)=true) (h2:as.all (!aF ·)=true) (h3:k as=true):CallOf ce f k e
theorem i7{ce:CE}{f:Str}{k:List Expr->Bool}{e:Expr}(h:jM ce f k e=true):CallOf ce f k e:=by
 obtain⟨g,as,p,q,rfl,ha⟩:=oL h
 obtain⟨h1,hb⟩:=and2 ha
 obtain⟨h2,hc⟩:=and2 hb
 exact⟨as,p,q,by rw[decT h1],h2,(and2 hc).1,(and2 hc).2⟩
noncomputable def fu(ce:CE)(f:Str)(k:Expr->Bool)(e:Expr):Bool:=jM ce f (λas=>aH (g8 as) k) e
inductive Call1(ce:CE)(f:Str)(k:Expr->Bool)(e:Expr):Prop
 | mk (x:Expr) (p q:Pos) (h:e=.Call (.Name f p) [x] [] q) (h1:cW (ce.kind f)=true) (h2:[x].all (!aF ·)=true) (h3:k x=true):Call1 ce f k e
theorem bF{ce:CE}{f:Str}{k:Expr->Bool}{e:Expr}(h:fu ce f k e=true):Call1 ce f k e:=by
 obtain⟨as,p,q,rfl,h1,h2,ha⟩:=i7 h
 obtain⟨x,rfl,h3⟩:=ag ha
 exact⟨x,p,q,rfl,h1,h2,h3⟩
noncomputable def uC(m:Str)(k:Expr->List Expr->Bool)(e:Expr):Bool:=aH (ut e) λx=>x.2.2.1.isEmpty&&aH (BB x.1) λy=>decide (y.2.1=m)&&((y.2.2.endLine==x.2.2.2.line)&&(!m8 y.1&&k y.1 x.2.1))
inductive Meth(m:Str)(k:Expr->List Expr->Bool)(e:Expr):Prop
 | mk (o:Expr) (as:List Expr) (ap q:Pos) (h:e=.Call (.Attribute o m ap) as [] q) (h1:(ap.endLine==q.line)=true) (h2:m8 o=false) (h3:k o as=true):Meth m k e
theorem jF{m:Str}{k:Expr->List Expr->Bool}{e:Expr}(h:uC m k e=true):Meth m k e:=by
 obtain⟨x,rfl,ha⟩:=ag h
 refine cps λGq hGq=>?_
 obtain⟨h1,hb⟩:=and2 ha
 obtain⟨y,e,hc⟩:=ag hb
 obtain⟨h2,hd⟩:=and2 hc
 obtain⟨h3,he⟩:=and2 hd
 obtain⟨h4,hf⟩:=and2 he
 refine hGq ?_
 clear hGq
 exact⟨y.1,_,y.2.2,_,by rw[e,isEmpty_of h1,decT h2],h3,bZ h4,hf⟩
noncomputable def tG(k:Expr->CmpOp->Expr->Bool)(e:Expr):Bool:=aH (w5 e) λx=>aH (g8 x.2.1) λo=>aH (g8 x.2.2) λr=>k x.1 o r
theorem io{k:Expr->CmpOp->Expr->Bool}{e:Expr}(h:tG k e=true):∃l o r p,e=.Compare l [o] [r] p/\k l o r=true:=by
 obtain⟨x,⟨p,rfl⟩,ha⟩:=ag h
 refine cps λGq hGq=>?_
 obtain⟨o,e1,hb⟩:=ag ha
 obtain⟨r,e2,hc⟩:=ag hb
 refine hGq ?_
 clear hGq
 exact⟨x.1,o,r,p,by rw[e1,e2],hc⟩
noncomputable def wS(k:Expr->Option Expr->Option Expr->Option Expr->Bool)(e:Expr):Bool:=aH (qt e) λx=>aH (uD x.2) λy=>k x.1 y.1 y.2.1 y.2.2
theorem gS{k:Expr->Option Expr->Option Expr->Option Expr->Bool}{e:Expr}(h:wS k e=true):∃v l u s p q,e=.Subscript v (.Slice l u s p) q/\k v l u s=true:=by
 obtain⟨x,⟨q,rfl⟩,ha⟩:=ag h
 refine cps λGq hGq=>?_
 obtain⟨y,⟨p,e⟩,hb⟩:=ag ha
 refine hGq ?_
 clear hGq
 exact⟨x.1,y.1,y.2.1,y.2.2,p,q,by rw[e],hb⟩
noncomputable def v9(k:Expr->Str->Expr->Scope->Bool)(e:Expr):Bool:=aH (BP e) λx=>aH (g8 x.2.1) λg=>aH (oX g) λy=>y.2.2.isEmpty&&k x.1 y.1 y.2.1 x.2.2
theorem pw{k:Expr->Str->Expr->Scope->Bool}{e:Expr}(h:v9 k e=true):∃el x i sc p q,e=.ListComp el [⟨.Name x p,i,[],0⟩] sc q/\k el x i sc=true:=by
 obtain⟨x,⟨q,rfl⟩,ha⟩:=ag h
 obtain⟨g,e1,hb⟩:=ag ha
 obtain⟨y,⟨p,rfl⟩,hc⟩:=ag hb
 obtain⟨h1,hd⟩:=and2 hc
 exact⟨x.1,y.1,y.2.1,x.2.2,p,q,by rw[e1,isEmpty_of h1],hd⟩
noncomputable def y3(k:Expr->Str->Expr->Expr->Scope->Bool)(e:Expr):Bool:=aH (BP e) λx=>aH (g8 x.2.1) λg=>aH (oX g) λy=>aH (g8 y.2.2) λc=>k x.1 y.1 y.2.1 c x.2.2
theorem uL{k:Expr->Str->Expr->Expr->Scope->Bool}{e:Expr}(h:y3 k e=true):∃el x i c sc p q,e=.ListComp el [⟨.Name x p,i,[c],0⟩] sc q/\k el x i c sc=true:=by
 obtain⟨x,⟨q,rfl⟩,ha⟩:=ag h
 refine cps λGq hGq=>?_
 obtain⟨g,e1,hb⟩:=ag ha
 obtain⟨y,⟨p,e2⟩,hc⟩:=ag hb
 obtain⟨c,e3,hd⟩:=ag hc
 refine hGq ?_
 clear hGq
 exact⟨x.1,y.1,y.2.1,c,x.2.2,p,q,by rw[e1,e2,e3],hd⟩
noncomputable def comp2(k:Expr->Str->Expr->Str->Expr->Scope->Bool)(e:Expr):Bool :=
 aH (BP e) λx=>aH (kr x.2.1) λg=>aH (oX g.1) λy=>aH (oX g.2) λz=>y.2.2.isEmpty&&(z.2.2.isEmpty&&k x.1 y.1 y.2.1 z.1 z.2.1 x.2.2)
theorem vY{k:Expr->Str->Expr->Str->Expr->Scope->Bool}{e:Expr}(h:comp2 k e=true):∃el x i y j sc p q r,e=.ListComp el [⟨.Name x p,i,[],0⟩,⟨.Name y q,j,[],0⟩] sc r/\k el x i y j sc=true:=by
 obtain⟨x,⟨r,rfl⟩,ha⟩:=ag h
 refine cps λGq hGq=>?_
 obtain⟨g,e1,hb⟩:=ag ha
 obtain⟨y,⟨p,e2⟩,hc⟩:=ag hb
 obtain⟨z,⟨q,e3⟩,hd⟩:=ag hc
 obtain⟨h1,he⟩:=and2 hd
 obtain⟨h2,hf⟩:=and2 he
 refine hGq ?_
 clear hGq
 exact⟨x.1,y.1,y.2.1,z.1,z.2.1,x.2.2,p,q,r,by rw[e1,e2,e3,isEmpty_of h1,isEmpty_of h2],hf⟩
noncomputable def AR(k:Expr->Str->Expr->Expr->Scope->Bool)(e:Expr):Bool:=aH (CQ e) λx=>aH (g8 x.2.1) λg=>aH (oX g) λy=>aH (g8 y.2.2) λc=>k x.1 y.1 y.2.1 c x.2.2
theorem x8{k:Expr->Str->Expr->Expr->Scope->Bool}{e:Expr}(h:AR k e=true):∃el x i c sc p q,e=.SetComp el [⟨.Name x p,i,[c],0⟩] sc q/\k el x i c sc=true:=by
 obtain⟨x,⟨q,rfl⟩,ha⟩:=ag h
 refine cps λGq hGq=>?_
 obtain⟨g,e1,hb⟩:=ag ha
 obtain⟨y,⟨p,e2⟩,hc⟩:=ag hb
 obtain⟨c,e3,hd⟩:=ag hc
 refine hGq ?_
 clear hGq
 exact⟨x.1,y.1,y.2.1,c,x.2.2,p,q,by rw[e1,e2,e3],hd⟩
noncomputable def AU(k:Expr->Str->Expr->Str->Expr->Expr->Scope->Bool)(e:Expr):Bool :=
 aH (CQ e) λx=>aH (kr x.2.1) λg=>aH (oX g.1) λy=>aH (oX g.2) λz=>y.2.2.isEmpty&&(aH (g8 z.2.2) λc=>k x.1 y.1 y.2.1 z.1 z.2.1 c x.2.2)
theorem yo{k:Expr->Str->Expr->Str->Expr->Expr->Scope->Bool}{e:Expr}(h:AU k e=true):∃el x i y j c sc p q r,e=.SetComp el [⟨.Name x p,i,[],0⟩,⟨.Name y q,j,[c],0⟩] sc r/\k el x i y j c sc=true:=by
 obtain⟨x,⟨r,rfl⟩,ha⟩:=ag h
 refine cps λGq hGq=>?_
 obtain⟨g,e1,hb⟩:=ag ha
 obtain⟨y,⟨p,e2⟩,hc⟩:=ag hb
 obtain⟨z,⟨q,e3⟩,hd⟩:=ag hc
 obtain⟨h1,he⟩:=and2 hd
 obtain⟨c,e4,hf⟩:=ag he
 refine hGq ?_
 clear hGq
 exact⟨x.1,y.1,y.2.1,z.1,z.2.1,c,x.2.2,p,q,r,by rw[e1,e2,e3,isEmpty_of h1,e4],hf⟩
noncomputable def zY(k:Expr->Str->Expr->Scope->Bool)(e:Expr):Bool:=aH (dGE e) λx=>aH (g8 x.2.1) λg=>aH (oX g) λy=>y.2.2.isEmpty&&k x.1 y.1 y.2.1 x.2.2
theorem rM{k:Expr->Str->Expr->Scope->Bool}{e:Expr}(h:zY k e=true):∃el x i sc p q,e=.GeneratorExp el [⟨.Name x p,i,[],0⟩] sc q/\k el x i sc=true:=by
 obtain⟨x,⟨q,rfl⟩,ha⟩:=ag h
 obtain⟨g,e1,hb⟩:=ag ha
 obtain⟨y,⟨p,rfl⟩,hc⟩:=ag hb
 obtain⟨h1,hd⟩:=and2 hc
 exact⟨x.1,y.1,y.2.1,x.2.2,p,q,by rw[e1,isEmpty_of h1],hd⟩
noncomputable def iI(ce:CE)(i:Nat)(e:Expr):Bool:=aH (my e) λx=>(ce.idx x==some i)&&(d9 (ce.kind x)&&(!(x==("__debug__":Str))&&!(x==("__classdict__":Str))))
noncomputable def gx(ce:CE)(i:Nat)(k:Int)(e:Expr):Bool:=aH (qt e) λx=>iI ce i x.1&&aH (cT x.2) λc=>c==.int k
noncomputable def kh(ce:CE)(r k:Nat)(m:Int)(e:Expr):Bool:=aH (qt e) λx=>(aH (qt x.1) λy=>iI ce r y.1&&iI ce k y.2)&&aH (cT x.2) λc=>c==.int m
noncomputable def Bb(e:SExpr):Option {i:Nat // e=.var i}:=match e with
 | .var i=>some ⟨i,rfl⟩
 | _=>EL
noncomputable def Aj(e:SExpr):Option {x:Str×List SExpr // e=.call x.1 x.2}:=match e with
 | .call f es=>some ⟨(f,es),rfl⟩
 | _=>EL
noncomputable def uy(e:SExpr):Bool:=aH (Bb e) λθ=>true
mutual
noncomputable def chk:SExpr->CE->Expr->Bool
 | .var i,ce,e=>iI ce i e
 | .glob x,ce,e=>aH (my e) λy=>y==x&&(ce.gl&&(cW (ce.kind x)&&!(x==("__debug__":Str))))
 | .none,θ,e=>aH (cT e) λc=>c==.none
 | .bool b,θ,e=>aH (cT e) λc=>c==.bool b
 | .int i,θ,e=>aH (cT e) λc=>c==.int i
 | .str x,θ,e=>aH (cT e) λc=>c==.str x
 | .list es,ce,e=>aH (wH e) λl=>eG es ce l
 | .tup es,ce,e=>aH (gE e) λl=>eG es ce l
 | .dict ks es,ce,e=>aH (zq e) λx=>lj ks x.1&&(eG es ce x.2&&decide (ks.length<=15))
 | .bin op a b,ce,e=>aH (Cr e) λx=>x.2.1==op&&(chk a ce x.1&&chk b ce x.2.2)
 | .idx a i,ce,e=>aH (qt e) λx=>(uD x.2).isNone&&(chk a ce x.1&&chk i ce x.2)
 | .sfrom a i,ce,e=>wS (λv l u s=>u.isNone&&(s.isNone&&(chk a ce v&&aH (rO l) λy=>chk i ce y))) e
 | .supto a i,ce,e=>wS (λv l u s=>l.isNone&&(s.isNone&&(chk a ce v&&aH (rO u) λy=>chk i ce y))) e
 | .smid a i k,ce,e=>wS (λv l u s=>s.isNone&&(chk a ce v&&((aH (rO l) λy=>chk i ce y)&&aH (rO u) λy=>chk k ce y))) e
 | .cmp op a b,ce,e=>tG (λl o r=>o==op&&(chk a ce l&&(chk b ce r&&!aM r))) e
 | .isN neg a,ce,e=>tG (λl o r=>(o==if neg then CmpOp.IsNot else CmpOp.Is)&&(chk a ce l&&aH (cT r) λc=>c==.none)) e
 | .band es,ce,e=>aH (rX e) λx=>x.1==.And&&(eG es ce x.2&&!x.2.isEmpty)
 | .bor es,ce,e=>aH (rX e) λx=>x.1==.Or&&(eG es ce x.2&&!x.2.isEmpty)
 | .not a,ce,e=>aH (CP e) λx=>x.1==.Not&&chk a ce x.2
 | .ife t a b,ce,e=>aH (dIf e) λx=>chk t ce x.1&&(chk a ce x.2.1&&chk b ce x.2.2)
 | .call f es,ce,e=>jM ce f (λas=>eG es ce as&&(!es.isEmpty&&(!(f==("__debug__":Str))&&!(f==("_law_bools":Str))))) e
 | .len a,ce,e=>fu ce "len" (λx=>chk a ce x) e
 | .sorted a,ce,e=>fu ce "sorted" (λx=>chk a ce x) e
 | .all a,ce,e=>fu ce "all" (λx=>chk a ce x) e
 | .any a,ce,e=>fu ce "any" (λx=>chk a ce x) e
 | .gany θ ξ,ζ,ψ=>false
 | .range a,ce,e=>fu ce "range" (λx=>chk a ce x) e
 | .get o k d,ce,e=>uC "get" (λo' as=>chk o ce o'&&aH (kr as) λx=>chk k ce x.1&&(chk d ce x.2&&(!aF x.1&&!aF x.2))) e
 | .comp elt it,ce,e=>v9 (λel x i scope=>ce.compOk scope [x]&&(chk it ce i&&(chk elt (ce.inner scope [x]) el&&!aM i))) e
 | .compC elt it,ce,e=>v9 (λel x i scope=>ce.compOkC scope x&&(chk it ce i&&(chk elt (ce.inner scope [x]) el&&!aM i))) e
 | .compIf elt it cond,ce,e=>y3 (λel x i c scope=>chk cond (ce.inner scope [x]) c&&(ce.compOk scope [x]&&(chk it ce i&&(chk elt (ce.inner scope [x]) el&&!aM i)))) e
 | .comp2 elt it it2,ce,e=>comp2 (λel x i y i2 scope=>ce.compOk scope [x,y]&&(chk it ce i&&(chk it2 (ce.inner scope [x,y]) i2&&(chk elt (ce.inner scope [x,y]) el&&(!aM i&&(!aM i2&&!(x==y))))))) e
 | .sset elt it cond,ce,e=>fu ce "sorted" (λz=>AR (λel x i c scope=>chk cond (ce.inner scope [x]) c&&(ce.compOk scope [x]&&(chk it ce i&&(chk elt (ce.inner scope [x]) el&&!aM i)))) z) e
 | .sset2 elt it it2 cond,ce,e=>fu ce "sorted" (λz=>AU (λel x i y i2 c scope=>chk cond (ce.inner scope [x,y]) c&&(ce.compOk scope [x,y]&&(chk it ce i&&(chk it2 (ce.inner scope [x,y]) i2&&(chk elt (ce.inner scope [x,y]) el&&(!aM i&&(!aM i2&&!(x==y)))))))) z) e
 | .listOf a,ce,e=>fu ce "list" (λx=>chk a ce x) e
 | .mkR x e,ce,ex=>aH (gE ex) λl=>aH (kr l) λz=>(aH (cT z.1) λc=>c==.str x)&&(chk e ce z.2&&(!aF z.2&&(!ud.contains x||uy e)))
 | .cpy sl i,ce,ex=>aH (gE ex) λl=>aH (kr l) λz=>gx ce i 0 z.1&&if sl then wS (λv l u s=>l.isNone&&(u.isNone&&(s.isNone&&gx ce i 1 v))) z.2 else fu ce "list" (λx=>gx ce i 1 x) z.2
 | .replR f r k,ce,e=>uC "replace" (λo as=>iI ce f o&&aH (mH as) λx=>kh ce r k 0 x.1&&(uC "join" (λo as=>(aH (cT o) λc=>c==.str "")&&aH (g8 as) λy=>kh ce r k 1 y) x.2.1&&aH (cT x.2.2) λz=>z==.int 1)) e
noncomputable def eG:List SExpr->CE->List Expr->Bool
 | [],θ,l=>l.isEmpty
 | s::ss,ce,l=>match l with
  | e::es=>chk s ce e&&(!aF e&&eG ss ce es)
  | []=>false
end
end Mine
namespace Mine
open PySem PySem.SeqAt PySem.Calls PyProof.Rows
abbrev Pd:=Bool->Bool->Addr->Prop
structure Pd.Ok(P:Pd)(h:Heap):Prop where
 mono:∀f c f' c' a,(f'=true->f=true)->(c'=true->c=true)->P f c a->P f' c' a
 fresh:∀f c a,h.get? a=none->P f c a
theorem Pd.Ok.keeps{P:Pd}{h h':Heap}(x:P.Ok h)(hk:∀b o,h.get? b=some o->h'.get? b=some o):P.Ok h' :=
 ⟨x.mono,λf c a e=>x.fresh f c a (by cases q:h.get? a with | none=>rfl | some o=>rw[hk a o q]at e;cases e)⟩
theorem size_none(h:Heap):h.get? h.objs.size=none:=by
 cases q:h.get? h.objs.size with
 | none=>rfl
 | some o=>exact absurd (Heap.lt_size q) (Gr _)
structure Pst(Z:Cf)(P:Pd)(s:Shared)(r:RV)(v:Value)(s':Shared):Prop where
 kp:Keeps s s'
 rl:R Z s'.heap s'.toks (P r.f r.c) v r.d
theorem krefl(s:Shared):Keeps s s:=⟨s.heap,s.toks,s.drawn,rfl,λzz zz e=>e,ER _⟩
theorem wK(s:Shared)(t:Nat)(ht:s.toks<=t):Keeps s {s with toks:=t}:=⟨s.heap,t,s.drawn,rfl,λzz zz e=>e,ht⟩
theorem br(s:Shared):Keeps s {s with toks:=s.toks+1}:=wK s _ (Fv _)
theorem kpush(s:Shared)(o:Obj):Keeps s {s with heap:=s.heap.push o}:=⟨_,s.toks,s.drawn,rfl,λzz zz e=>Heap.get?_push_of_some _ e,ER _⟩
theorem ktrans{s s' s'':Shared}(x:Keeps s s')(y:Keeps s' s''):Keeps s s'':=by
 obtain⟨h,t,dr,rfl,k,ht⟩:=x
 obtain⟨h',t',dr',rfl,k',ht'⟩:=y
 exact⟨h',t',dr',rfl,λb o e=>k' b o (k b o e),EK ht ht'⟩
theorem kheap{s s':Shared}(x:Keeps s s'):∀b o,s.heap.get? b=some o->s'.heap.get? b=some o:=by
 obtain⟨h,t,dr,rfl,k,ht⟩:=x
 exact k
theorem ktl{s s':Shared}(x:Keeps s s'):s.toks<=s'.toks:=by
 obtain⟨zz,t,dr,rfl,k,ht⟩:=x
 exact ht
theorem tne{a b:Nat}(h:a≠0)(k:a<=b):b≠0:=λe=>h (IG.mp (e▸k))
theorem R.kp{Z:Cf}{P:Addr->Prop}{v:Value}{d:PV}{s s':Shared}(x:R Z s.heap s.toks P v d)(k:Keeps s s'):R Z s'.heap s'.toks P v d:=x.keeps (kheap k) (ktl k)
theorem RS.kp{Z:Cf}{P:Addr->Prop}{v:List Value}{d:List PV}{s s':Shared}(x:RS Z s.heap s.toks P v d)(k:Keeps s s'):RS Z s'.heap s'.toks P v d:=x.keeps (kheap k) (ktl k)
theorem Ci{s s':Shared}(x:Keeps s s')(h:s.toks≠0):s'.toks≠0:=by
 exact tne h (ktl x)
section
variable{Z:Cf}{A:Around}{E:Value->Shared->Prop}{s:Shared}{P:Pd}
theorem aL{d:PV}{v:Value}{s':Shared}(k:Keeps s s')(x:R Z s'.heap s'.toks (λzz=>True) v d)(ha:d.atom=true):Pst Z P s (at1 d) v s':=⟨k,x.atom ha (ER _)⟩
theorem cn{h:Heap}{N:Nat}{r:RV}{d:PV}{v:Value}(x:R Z h N (P r.f r.c) v d):R Z h N (P (part r d).f (part r d).c) v (part r d).d:=by
 delta part
 cases ha:d.atom with
 | true=>exact x.atom ha (ER _)
 | false=>exact x
theorem iQ{f c:Bool}{ds:List PV}{r:RV}(h:newl f c ds=some r):r.d=.list ds/\ds.length<=az/\((ds.all PV.atom=true/\r.f=true/\r.c=true)\/(r.f=f/\r.c=c)):=by
 obtain⟨hz,rfl⟩:=aV h
 cases ha:ds.all PV.atom with
 | true=>exact⟨rfl,hz,.inl ⟨rfl,rfl,rfl⟩⟩
 | false=>exact⟨rfl,hz,.inr ⟨rfl,rfl⟩⟩
theorem RS.newl{h:Heap}{N:Nat}{f c:Bool}{ds:List PV}{vs:List Value}{r:RV}(hn:newl f c ds=some r)(x:RS Z h N (P f c) vs ds):RS Z h N (P r.f r.c) vs ds:=by
 obtain⟨zz,zz,h3⟩:=iQ hn
 rcases h3 with⟨ha,zz,zz⟩ | ⟨h1,h2⟩
 .exact x.atom ha (ER _)
 .rw[h1,h2];exact x
theorem pst_newl{f c:Bool}{ds:List PV}{vs:List Value}{r:RV}{s':Shared}(hP:P.Ok s.heap)(hn:newl f c ds=some r)(x:RS Z s'.heap s'.toks (P f c) vs ds)(k:Keeps s s') :
  Pst Z P s r (.ref s'.heap.objs.size) {s' with heap:=s'.heap.push {cls:=.type "list",data:=.seq vs.toArray}}:=by
 obtain⟨h1,h2,zz⟩:=iQ hn
 refine⟨ktrans k (kpush _ _),?_⟩
 rw[h1]
 exact .list ((hP.keeps (kheap k)).fresh _ _ _ (size_none _)) (Heap.get?_push_size _ rfl) h2 ((x.newl hn).keeps (λzz zz e=>Heap.get?_push_of_some _ e) (ER _))
theorem gQ:az=1000000:=rfl
theorem AK{a:Int}{n:Nat}(h:a.natAbs<=n):-(n:Int)<=a/\a<=n:=⟨Int.neg_le_of_neg_le (He (Int.natAbs_neg a▸Je) (Go.mpr h)),He Je (Go.mpr h)⟩
theorem A4{n:Int}(h:n.natAbs<=az):¬(!Builtin.List.listFitsIndex n)=true:=by
 delta Builtin.List.listFitsIndex
 rw[decide_eq_true (He (by decide) (AK h).1),decide_eq_true (HZ (AK h).2 (by decide))]
 decide
theorem Ab{k:Int}{n:Nat}(h0:0<=k)(hb:k.toNat<n)(hn:n<=az):k<2 ^ 63:=IQ ((Iv h0).mp hb) (He (Go.mpr hn) (by decide))
theorem yQ{k:Int}(h0:0<=k):-(2 ^ 63)<=k:=He (by decide) h0
theorem Cp{k:Int}{n:Nat}(h:-(n:Int)<=k)(hn:n<=az):-(2 ^ 63)<=k:=He (Int.neg_le_neg (Go.mpr (EK hn (by decide:az<=2 ^ 63)))) h
theorem sC{k:Int}{n:Nat}(h0:0<=k)(hb:k.toNat<n):seqIndex? k n=some k.toNat:=by
 delta seqIndex?
 rw[if_neg (GB.mpr h0)]
 exact if_pos (by rw[decide_eq_true h0,decide_eq_true ((Iv h0).mp hb)];rfl)
theorem lim_size:az<=sizeLine:=by decide
theorem flatten_foldl(items:List Value)(n:Nat):(List.foldl (λx1 x2=>x1++x2) #[] (Fw (if items.toArray.isEmpty=true then 0 else n) items.toArray))=(Fw n items).flatten.toArray:=by
 have key:∀(k:Nat) (acc:Array Value),List.foldl (λx1 x2=>x1++x2) acc (Fw k items.toArray)=acc++(Fw k items).flatten.toArray:=by
  intro k
  induction k with
  | zero=>intro acc;simp
  | succ k ih=>intro acc;rw[Hk,Hn,ih,Hk,Ia];simp
 by_cases hi:items=[]
 .subst hi;simp
 .have:items.toArray.isEmpty=false:=by simpa using hi
  rw[this,if_neg (by decide),key];simp
theorem str_len(a b:Str):(a++b).length=a.length+b.length:=Array.size_append
theorem sI{a b:Str}(h:a.length=0):a++b=b:=by
 obtain⟨⟨l⟩⟩:=a
 cases F3.mp h
 obtain⟨c⟩:=b
 exact congrArg Str.mk (Array.empty_append)
theorem mi{a b:Str}(h:b.length=0):a++b=a:=by
 obtain⟨⟨l⟩⟩:=b
 cases F3.mp h
 obtain⟨c⟩:=a
 exact congrArg Str.mk (G4)
theorem ou{a b:Bool}(h:(a&&b)=true):a=true:=(and2 h).1
theorem pO{a b:Bool}(h:(a&&b)=true):b=true:=(and2 h).2
theorem AE{x y r:RV}{vx vy:Value}(hk:s.toks≠0)(h:zr x y=some r)(hP:P.Ok s.heap)(hx:R Z s.heap s.toks (P x.f x.c) vx x.d)(hy:R Z s.heap s.toks (P y.f y.c) vy y.d) :
  wpAny Z.M A (binaryOp .Add vx vy) (Pst Z P s r) E s:=by
 obtain⟨xd,f,c⟩:=x
 cases xd with
 | int a =>
  obtain⟨b,hb,rfl⟩:=aq h
  rw[dI_eq hb]at hy
  induction hx.i with | int t=>induction hy.i with | int u=>exact wpAny_add_int (aL (br _) (.int _ _) rfl)
 | str a =>
  obtain⟨b,hb,h1⟩:=ac h
  obtain⟨hz,rfl⟩:=aV h1
  rw[dR hb]at hy
  induction hx.s with
  | str t ht htN =>
   induction hy.s with
   | str u hu huN =>
    refine _root_.PySem.P.add_str ?_
    by_cases h1:(a.length==0)=true
    .rw[if_pos h1,sI (eq_of_beq h1)];exact aL (krefl s) (.str _ _ hu huN) rfl
    .rw[if_neg h1]
     by_cases h2:(b.length==0)=true
     .rw[if_pos h2,mi (eq_of_beq h2)];exact aL (krefl s) (.str _ _ ht htN) rfl
     .rw[if_neg h2]
      refine⟨?_,aL (br s) (.str _ _ hk (E7 _)) rfl⟩
      rw[str_len]
      exact EK hz lim_size
 | list xs =>
  obtain⟨ys,hb,h1⟩:=ac h
  rw[dL_eq hb]at hy
  induction hx.l with
  | list p1 e1 z1 r1 =>
   induction hy.l with
   | list p2 e2 z2 r2 =>
    refine _root_.PySem.P.add_list e1 e2 ?_ ?_
    .have:=pst_newl hP h1 ((r1.mono λa=>hP.mono _ _ _ _ a ou ou).append (r2.mono λa=>hP.mono _ _ _ _ a pO pO)) (krefl s)
     rw[List.append_toArray]
     exact this
    .rw[FJ,FJ,r1.length,r2.length,<-EQ]
     exact EK (iQ h1).2.1 lim_size
 | _=>cases h
theorem Aq{x y r:RV}{vx vy:Value}(h:zo x y=some r)(hP:P.Ok s.heap)(hx:R Z s.heap s.toks (P x.f x.c) vx x.d)(hy:R Z s.heap s.toks (P y.f y.c) vy y.d) :
  wpAny Z.M A (binaryOp .Mult vx vy) (Pst Z P s r) E s:=by
 obtain⟨xd,f,c⟩:=x
 cases xd with
 | int a =>
  obtain⟨b,hb,h1⟩:=ac h
  obtain⟨hz,rfl⟩:=aV h1
  rw[dI_eq hb]at hy
  induction hx.i with | int t=>induction hy.i with | int u=>exact PyProof.Rows.mul_int (aL (br _) (.int _ _) rfl) (IntMulOk.of_left (intBits_le_64 (IQ (by decide) (AK hz.1).1) (HZ (AK hz.1).2 (by decide))))
 | list xs =>
  refine cps λGq hGq=>?_
  obtain⟨n,hb,h1⟩:=ac h
  obtain⟨hz,h2⟩:=ifo_of h1
  refine hGq ?_
  clear hGq
  rw[dI_eq hb]at hy
  induction hx.l with
  | @list a vs n' p1 e1 z1 r1 =>
   induction hy.i with
   | int t =>
    have hb2:vs.toArray.size*n.toNat<=1000000:=by rw[FJ,r1.length];exact hz.1
    have hl:=gQ
    refine wpAny_binaryOp_repeat_ref (T:="list") (U:="int") (by decide) ⟨_,e1,rfl⟩ (λs'=>typeIs_int s' n t) noFill_list_mul F.fills_int_mul F.slot_int_rmul repeat_list F.slot_int_index.lookup
     (call_meets F.slot_int_rmul (typeIs_int s n t) F.entry_int_rmul (F.args_int_rmul_2 _ _) (int___rmul___int_list n t a vs.toArray n')
      ⟨e1,rfl,⟨_,e1,rfl⟩,call_meets F.slot_list_mul ⟨_,e1,rfl⟩ F.entry_list_mul (F.args_list_mul_2 _ _)
       (AutoListH.list___mul___list_int_3 a vs.toArray n' n t (A4 hz.2) (Gc.mpr (EK hb2 (by decide))) (by simp[Builtin.List.listTooLong,sizeLine]at hb2 ⊢;exact EK hb2 (FM ..)))
       ⟨e1,?_⟩⟩)
    rw[flatten_foldl]
    exact pst_newl hP h2 (r1.replicate _) (krefl s)
 | _=>cases h
theorem z6{op:Operator}{x y r:RV}{vx vy:Value}(hk:s.toks≠0)(h:og op x y=some r)(hP:P.Ok s.heap)(hx:R Z s.heap s.toks (P x.f x.c) vx x.d)(hy:R Z s.heap s.toks (P y.f y.c) vy y.d) :
  wpAny Z.M A (binaryOp op vx vy) (Pst Z P s r) E s:=by
 cases op with
 | Add=>exact AE hk h hP hx hy
 | Mult=>exact Aq h hP hx hy
 | Sub =>
  obtain⟨a,ha,h1⟩:=ac h
  obtain⟨b,hb,rfl⟩:=aq h1
  rw[dI_eq ha]at hx
  rw[dI_eq hb]at hy
  induction hx.i with | int t=>induction hy.i with | int u=>exact PyProof.Rows.sub_int (aL (br _) (.int _ _) rfl)
 | Mod =>
  refine cps λGq hGq=>?_
  obtain⟨a,ha,h1⟩:=ac h
  obtain⟨b,hb,h2⟩:=ac h1
  refine hGq ?_
  clear hGq
  obtain⟨hz,rfl⟩:=aV h2
  rw[dI_eq ha]at hx
  rw[dI_eq hb]at hy
  induction hx.i with | int t=>induction hy.i with | int u=>exact PyProof.Rows.mod_int hz (aL (br _) (.int _ _) rfl)
 | _=>cases h
theorem ll(slice:Expr)(o i:Value):∃ops,subscripted slice false o i=operate ops (getItem o i):=by
 delta subscripted
 cases slice with
 | Slice l u st p=>cases st<;>exact⟨_,rfl⟩
 | _=>exact⟨_,rfl⟩
theorem be{env:Env}{value slice:Expr}{pos:Pos}{Q:Value->Shared->Prop}
  (h:wpAny Z.M A (eval value env) (λo CZ=>wpAny Z.M A (eval slice env) (λi C2=>∃T id,C2.TypeIs o T/\typeLookup (.type T) "__getitem__"=pure (some (.builtin id))/\wpAny Z.M A (getItem o i) Q E C2) E CZ) E s) :
  wpAny Z.M A (eval (.Subscript value slice pos) env) Q E s :=
 Subscript_ (wpAny_mono h (λo CZ C4=>wpAny_mono C4 (λi C2 C8=>by
  refine cps λGq hGq=>?_
  obtain⟨T,id,hT,hl,hg⟩:=C8
  obtain⟨ops,hs⟩:=ll slice o i
  refine hGq ?_
  clear hGq
  exact tail_any hT hl hg hs) λzz zz x=>x) λzz zz x=>x)
theorem vm{vs:List Value}{k:Nat}{v:Value}(h:vs[k]?= some v):vs.toArray[k]?= some v:=List.getElem?_toArray.trans h
def AO(Z:Cf)(A:Around)(s:Shared)(vx vi:Value)(Q:Value->Shared->Prop)(E:Value->Shared->Prop):Prop :=
 ∃T id,s.TypeIs vx T/\typeLookup (.type T) "__getitem__"=pure (some (.builtin id))/\wpAny Z.M A (getItem vx vi) Q E s
theorem zR{x:RV}{i:PV}{r:RV}{vx vi:Value}{Pi:Addr->Prop}(htk:s.toks≠0)(h:d4 x i=some r)(hx:R Z s.heap s.toks (P x.f x.c) vx x.d)(hi:R Z s.heap s.toks Pi vi i) :
  AO Z A s vx vi (Pst Z P s r) E:=by
 obtain⟨xd,xf,xc⟩:=x
 have hlim:=gQ
 cases xd with
 | list ds =>
  obtain⟨k,hk,h1⟩:=ac h
  rw[dI_eq hk]at hi
  induction hi.i with
  | int t =>
   induction hx.l with
   | list p e z rs =>
    have l1:=rs.length
    by_cases h0:0<=k
    .rw[if_pos h0]at h1
     obtain⟨d,hd,rfl⟩:=aq h1
     obtain⟨v,hv,rv⟩:=rs.get hd
     have hb:k.toNat<_:=(EY.mp hd).1
     exact⟨"list",_,⟨_,e,rfl⟩,slot_list_getitem.lookup,wpAny_getItem_list (ak e) h0 (Ab h0 hb z) (vm hv) ⟨krefl _,cn (r:=⟨_,xf,xc⟩) rv⟩⟩
    .rw[if_neg h0]at h1
     obtain⟨h2,h3⟩:=ifo_of h1
     obtain⟨d,hd,rfl⟩:=aq h3
     obtain⟨v,hv,rv⟩:=rs.get hd
     exact⟨"list",_,⟨_,e,rfl⟩,slot_list_getitem.lookup,wpAny_getItem_list_neg (ak e) (HI h0) (by simp;exact l1▸h2) (Cp h2 z) (by simpa [l1]using hv) ⟨krefl _,cn (r:=⟨_,xf,xc⟩) rv⟩⟩
 | tup ds =>
  obtain⟨k,hk,h1⟩:=ac h
  rw[dI_eq hk]at hi
  obtain⟨h0,h2⟩:=ifo_of h1
  obtain⟨d,hd,rfl⟩:=aq h2
  induction hi.i with
  | int t =>
   induction hx.t with
   | tup p e z rs =>
    have l1:=rs.length
    obtain⟨v,hv,rv⟩:=rs.get hd
    have hb:k.toNat<_:=(EY.mp hd).1
    refine⟨"tuple",_,⟨_,e,rfl⟩,slot_tuple_getitem.lookup,Hb (j:=k.toNat) (ax e) (yQ h0) (Ab h0 hb z) (sC h0 (EY.mp hv).1) (vm hv) ⟨krefl _,cn (r:=⟨_,xf,xc⟩) rv⟩⟩
 | dict ks ds =>
  obtain⟨k,hk,h1⟩:=ac h
  rw[dR hk]at hi
  obtain⟨d,hd,rfl⟩:=aq h1
  induction hi.s with
  | str t =>
   induction hx.d with
   | dict p e q hk z rs =>
    subst hk
    have:=look_kvs rs k
    rw[hd]at this
    obtain⟨v,hv,rv⟩:=this
    exact⟨"dict",_,e.typeIs,slot_dict_getitem.lookup,wpAny_getItem_of (strKind_is Z.prog Z.w k t) e.mapOf hv ⟨br _,(cn (P:=P) (r:=⟨_,xf,xc⟩) rv).kp (br s)⟩⟩
 | str x =>
  obtain⟨k,hk,h1⟩:=ac h
  rw[dI_eq hk]at hi
  obtain⟨h0,h2⟩:=ifo_of h1
  obtain⟨c,hc,rfl⟩:=aq h2
  induction hx.s with
  | str t =>
   induction hi.i with
   | int u =>
    have hb:=(Array.getElem?_eq_some_iff.mp hc).1
    refine⟨"str",_,typeIs_str s x t,F.slot_str_getitem.lookup,PyProof.Rows.getItem_str ?_ ?_ (aL (br _) (.str _ _ htk (E7 _)) rfl)⟩
    .rw[decide_eq_false (GB.mpr (yQ h0.1))];exact decide_eq_false (Int.not_le.mpr (by lia))
    .rw[sC (n:=x.length) h0.1 hb];exact hc
 | _=>cases h
theorem ux{x:PV}:∀{ds:List PV} {k:Bool},ky x ds=some k->(∀d∈ds,∃b,aeq d x=some b)/\k=ds.any (λd=>(aeq d x).getD false):=by
 intro l0
 induction l0 with
 | nil=>exact @λk h=>⟨(λzz h'=>uS h'),(ET h).symm⟩
 | cons d ds ih =>
  intro k h
  refine cps λGq hGq=>?_
  obtain⟨a,ha,h1⟩:=ac h
  obtain⟨b,hb,e⟩:=ac h1
  obtain⟨i1,i2⟩:=ih hb
  refine hGq ?_
  clear hGq
  refine⟨λd' hd=>?_,?_⟩
  .rcases EU.mp hd with rfl | hd
   .exact⟨a,ha⟩
   .exact i1 d' hd
  .rw[IP,ha,<-i2]
   exact(ET e).symm
theorem PV.depths_mem{d:PV}:∀{ds:List PV},d∈ds->d.depth<=PV.depths ds:=by
 intro l0
 induction l0 with
 | nil=>exact @λh=>uS h
 | cons x xs ih =>
  intro h
  rw[dpC]
  rcases EU.mp h with rfl | h
  .exact GI _ _
  .exact EK (ih h) (Gz _ _)
theorem RS.any{h:Heap}{N:Nat}{Q:Addr->Prop}{f:PV->Bool}{g:Value->Bool}{vs:List Value}{ds:List PV}(x:RS Z h N Q vs ds)(hg:∀v d,R Z h N Q v d->g v=f d):vs.any g=ds.any f:=by
 induction vs generalizing ds with
 | nil=>cases x;rfl
 | cons v vs ih=>cases x with | cons a r=>rw[IP,IP,hg _ _ a,ih r]
theorem RS.mem{h:Heap}{N:Nat}{Q:Addr->Prop}{vs:List Value}{ds:List PV}(x:RS Z h N Q vs ds)(v:Value)(hv:v∈vs):∃d,d∈ds/\R Z h N Q v d:=by
 induction vs generalizing ds with
 | nil=>cases hv
 | cons u vs ih =>
  cases x with
  | cons a r =>
   rcases EU.mp hv with rfl | hv
   .exact⟨_,EP ..,a⟩
   .exact(ih r hv).imp λd q=>⟨EO _ q.1,q.2⟩
noncomputable def sF(Z:Cf)(h:Heap)(N:Nat)(v:Value):PV:=open Classical in if x:∃d,R Z h N (λzz=>True) v d then x.choose else .none
theorem ot{h:Heap}{N:Nat}{Q:Addr->Prop}{v:Value}{d:PV}(x:R Z h N Q v d):sF Z h N v=d:=by
 have q:∃d,R Z h N (λzz=>True) v d:=⟨d,x.mono λzz zz=>trivial⟩
 delta sF
 rw[dif_pos q]
 exact R.det q.choose_spec x
theorem nh{P P':Addr->Prop}{xs ys:List PV}{l l':Addr}{vs vs':List Value}{n n':Nat}{k:Bool}(r:RS Z s.heap s.toks P vs xs)(r':RS Z s.heap s.toks P' vs' ys)
  (e:s.heap.get? l=some (bY vs n)) (e':s.heap.get? l'=some (bY vs' n')) (h:eC xs ys=some k) (he:∀j (h1:j<vs.length) (h2:j<vs'.length),EqAt A.in1 s vs[j] vs'[j] (dq xs ys j)) (hu:A.units<cLine) :
  RcNeAt A s (.ref l) (.ref l') (!k):=by
 have n1:=r.length
 have n2:=r'.length
 by_cases hsz:vs.length=vs'.length
 .have:=RcNeAt.lists (e:=dq xs ys) (ak e) (ak e') hsz hu he
  have q:=aeqs_all h
  have e1:xs.length=ys.length:=n1.symm.trans (hsz.trans n2)
  rw[beq_iff_eq.mpr e1,FY,<-e1,Jp,<-n1]at q
  rw[<-q];exact this
 .rw[aeqs_length h λq=>hsz (n1.trans (q.trans n2.symm))]
  exact RcNeAt.lists_lengths (A:=A) (ak e) (ak e') (bne_iff_ne.mpr hsz) hu
theorem lF{P P':Addr->Prop}{xs ys:List PV}{l l':Addr}{vs vs':List Value}{n n':Nat}{k:Bool}(r:RS Z s.heap s.toks P vs xs)(r':RS Z s.heap s.toks P' vs' ys)
  (e:s.heap.get? l=some (gO vs n)) (e':s.heap.get? l'=some (gO vs' n')) (h:eC xs ys=some k) (he:∀j (h1:j<vs.length) (h2:j<vs'.length),EqAt A.in1 s vs[j] vs'[j] (dq xs ys j)) (hu:A.units<cLine) :
  RcNeAt A s (.ref l) (.ref l') (!k):=by
 have:=RcNeAt.tuples (e:=dq xs ys) (ax e) (ax e') hu he
 rw[FJ,FJ,r.length,r'.length]at this
 rw[<-aeqs_all h];exact this
theorem lt_a1{u a b c:Nat}(h:u+1+a+b<c):u<c:=EX (E7 u) (FS (wt h))
theorem eO{u a b c:Nat}(h:u+1+(a+1)+(b+1)<c):u+1+a+b<c:=ES (E8 (Fo (Fv a) _) (Fv b)) h
theorem Bv{x y:PV}{k:Bool}{vx vy:Value}{Q1 Q2:Addr->Prop}(h:aeq x y=some k)(hx:R Z s.heap s.toks Q1 vx x)(hy:R Z s.heap s.toks Q2 vy y)(hu:A.units+1+x.depth+y.depth<cLine):RcAt A s vx vy k:=by
 induction eqv h with
 | none=>rw[hx.n,hy.n];exact RcAt.none_none
 | nl ds=>rw[hx.n];induction hy.l with | list zz e zz zz=>exact RcAt.none_list (ak e) (lt_a1 hu)
 | ln ds=>rw[hy.n];induction hx.l with | list zz e zz zz=>exact RcAt.list_none (ak e) (lt_a1 hu)
 | bool a b=>rw[hx.b,hy.b];exact RcAt.bool_bool _ _
 | int a b=>induction hx.i with | int t=>induction hy.i with | int u=>exact RcAt.int_int _ _ _ _
 | str a b=>induction hx.s with | str t=>induction hy.s with | str u=>exact RcAt.str_str _ _ _ _
 | list h2=>induction hx.l with | list zz e zz r=>induction hy.l with | list zz e' zz r'=>exact kR r r' e e' h2 (jL _ _ A.in1 s _ _ _ r r' h2 (eO hu)) (lt_a1 hu)
 | tup h2=>induction hx.t with | tup zz e zz r=>induction hy.t with | tup zz e' zz r'=>exact jo r r' e e' h2 (jL _ _ A.in1 s _ _ _ r r' h2 (eO hu)) (lt_a1 hu)
theorem op_ne{x y:PV}{k:Bool}{vx vy:Value}{Q1 Q2:Addr->Prop}(h:aeq x y=some k)(hx:R Z s.heap s.toks Q1 vx x)(hy:R Z s.heap s.toks Q2 vy y)(hu:A.units+1+x.depth+y.depth<cLine):RcNeAt A s vx vy (!k):=by
 induction eqv h with
 | none=>rw[hx.n,hy.n];exact RcNeAt.none_none
 | nl ds=>rw[hx.n];induction hy.l with | list zz e zz zz=>exact RcNeAt.none_list (ak e) (lt_a1 hu)
 | ln ds=>rw[hy.n];induction hx.l with | list zz e zz zz=>exact RcNeAt.list_none (ak e) (lt_a1 hu)
 | bool a b=>rw[hx.b,hy.b];exact RcNeAt.bool_bool _ _
 | int a b=>induction hx.i with | int t=>induction hy.i with | int u=>exact RcNeAt.int_int _ _ _ _
 | str a b=>induction hx.s with | str t=>induction hy.s with | str u=>exact RcNeAt.str_str _ _ _ _
 | list h2=>induction hx.l with | list zz e zz r=>induction hy.l with | list zz e' zz r'=>exact nh r r' e e' h2 (jL _ _ A.in1 s _ _ _ r r' h2 (eO hu)) (lt_a1 hu)
 | tup h2=>induction hx.t with | tup zz e zz r=>induction hy.t with | tup zz e' zz r'=>exact lF r r' e e' h2 (jL _ _ A.in1 s _ _ _ r r' h2 (eO hu)) (lt_a1 hu)
end
def aS(env:Env)(h:Heap)(x:Str)(v:Value):Prop :=
 (env.kindOf x=some .local/\∃m,h.Ns env.locals m/\m x=some v) \/
 ((env.kindOf x=some .cell\/env.kindOf x=some .free)/\∃c,env.cells.lookup x=some c/\h.IsCell c (some v))
theorem aS.keeps{env:Env}{h h':Heap}{x:Str}{v:Value}(l:aS env h x v)(hk:∀b o,h.get? b=some o->h'.get? b=some o):aS env h' x v:=by
 rcases l with⟨k,m,n,e⟩ | ⟨k,c,hc,n⟩
 .exact .inl ⟨k,m,n.keeps hk,e⟩
 .exact .inr ⟨k,c,hc,n.keeps hk⟩
noncomputable def bltNames:List Str:=["len","sorted","set","all","any","range","dict","list","type","int","bool","str"]
structure Wd(Z:Cf):Prop where
 blt:∀x∈bltNames,Z.mg x=none
def dY(h:Heap)(c P:Addr):Prop:=∃ps,h.IsCode c P ps/\h.TableAt c P ps
inductive FnAt(Z:Cf)(h:Heap)(d:DefRec):Prop
 | mk (a:Addr) (o:Obj) (pm doc:Value) (h1:Z.mg d.name=some (.ref a)) (h2:h.get? a=some o) (h3:o.data=.func (docDef d.name d.params d.body d.scope pm (.ref (Z.ct d)) doc)) (h4:h.CodeRec (.ref (Z.ct d)) d.name) (h5:dY h (Z.ct d) (Z.tb d)):FnAt Z h d
theorem pZ{h h':Heap}{c P:Addr}(x:dY h c P)(hk:∀b o,h.get? b=some o->h'.get? b=some o):dY h' c P:=x.imp λps q=>⟨q.1.keeps hk,q.2.keeps hk⟩
structure Tp(Z:Cf)(h:Heap):Prop where
 g:h.Ns mainGlobals Z.mg
 b:h.Ns builtinsNs Z.mb
 nolimit:h.NoLimit
 fn:∀d∈recsOf Z.p,FnAt Z h d
 builtins:∀x:Str,x≠ "__name__"->Z.mb x=bootBuiltins x
 nb:NoneBooked h
 bm:∃bm ob,Z.mg "__builtins__"=some (.ref bm)/\bm≠builtinsNs/\h.get? bm=some ob/\ob.cls=.type "module"/\ob.dict=some builtinsNs/\ob.data=.plain
theorem Tp.keeps{Z:Cf}{h h':Heap}(T:Tp Z h)(hk:∀b o,h.get? b=some o->h'.get? b=some o):Tp Z h':=by
 refine⟨T.g.keeps hk,T.b.keeps hk,T.nolimit.keeps hk,λd hd=>?_,T.builtins,T.nb.imp λm q=>⟨q.1.keeps hk,q.2⟩,T.bm.imp λbm q=>q.imp λob q=>⟨q.1,q.2.1,hk _ _ q.2.2.1,q.2.2.2⟩⟩
 induction T.fn d hd with | mk a o pm doc h1 h2 h3 h4 h5=>exact⟨a,o,pm,doc,h1,hk _ _ h2,h3,h4.keeps hk,pZ h5 hk⟩
def Ctr(Z:Cf)(lvl:Nat)(Φ:FTab):Prop :=
 ∀f ds d fr,ds≠[]->f≠("_law_bools":Str)->Φ f ds=some (d,fr)->∃a,Z.mg f=some (.ref a)/\(∀h,Tp Z h->∃o fd,h.get? a=some o/\o.data=.func fd) /\
  ∀(A:Around) (E:Value->Shared->Prop) (s:Shared) (vs:List Value) (Q:Addr->Prop),A.handled=none->A.depth+lvl<recursionLimit->A.units+16*lvl+64<cLine->Tp Z s.heap->s.toks≠0->(∀b,s.heap.get? b=none->Q b)->RS Z s.heap s.toks Q vs ds ->
   wpAny Z.M A (call (.ref a) vs) (λv s'=>Keeps s s'/\R Z s'.heap s'.toks (λb=>Q b/\(fr=true->s.heap.get? b=none)) v d) E s
structure Cx(Z:Cf)(lvl:Nat)(A:Around)(env:Env)(ce:CE)(P:Pd)(σ:Sig)(s:Shared):Prop where
 hh:A.handled=none
 hd:A.depth+lvl<recursionLimit
 hu:A.units+16*lvl+64<cLine
 fn:env.scope.kind=.function
 gl:env.globals=mainGlobals
 bl:env.builtins=builtinsNs
 ki:∀x,ce.kind x=env.kindOf x
 len:σ.length=ce.names.length
 cells:∀y,de (env.kindOf y)=true->∃c,env.cells.lookup y=some c
 pd:P.Ok s.heap
 top:Tp Z s.heap
 tk:s.toks≠0
 glb:ce.gl=true->∀x d,gp x=some d->∃v,Z.mg x=some v/\R Z s.heap s.toks (P false true) v d
 rd:∀x i r,ce.idx x=some i->d9 (ce.kind x)=true->σ[i]?= some (some r)->∃v,aS env s.heap x v/\R Z s.heap s.toks (P r.f r.c) v r.d
section
variable{Z:Cf}{lvl:Nat}{A:Around}{env:Env}{ce:CE}{P:Pd}{σ:Sig}{s s':Shared}{E:Value->Shared->Prop}{Φ:FTab}
theorem Cx.keeps(C:Cx Z lvl A env ce P σ s)(k:Keeps s s'):Cx Z lvl A env ce P σ s' where
 hh:=C.hh
 hd:=C.hd
 hu:=C.hu
 fn:=C.fn
 gl:=C.gl
 bl:=C.bl
 ki:=C.ki
 len:=C.len
 cells:=C.cells
 pd:=C.pd.keeps (kheap k)
 top:=C.top.keeps (kheap k)
 tk:=Ci k C.tk
 glb:=λhg x d hx=>by
  obtain⟨v,h1,h2⟩:=C.glb hg x d hx
  exact⟨v,h1,h2.kp k⟩
 rd:=λx i r h1 h2 h3=>by
  obtain⟨v,l,q⟩:=C.rd x i r h1 h2 h3
  exact⟨v,l.keeps (kheap k),q.kp k⟩
theorem Pst.of{r:RV}{v:Value}{CZ C2:Shared}(k:Keeps s CZ)(h:Pst Z P CZ r v C2):Pst Z P s r v C2:=⟨ktrans k h.1,h.2⟩
theorem gN {x:Str} {v:Value} {Q:Value->Shared->Prop} {pos:Pos} (hf:env.scope.kind=.function) (l:aS env s.heap x v) (hd:(x==("__debug__":Str))=false) (hc:(x==("__classdict__":Str))=false) (h:Q v s) :
  wpAny Z.M A (eval (.Name x pos) env) Q E s:=by
 refine wpAny_Name ?_ hd
 rcases l with⟨k,m,n,e⟩ | ⟨k,c,hcc,n⟩
 .exact wpAny_loadName_local hf k n e h
 .rcases k with k | k
  .exact wpAny_loadName_cell hf k hcc n h
  .exact wpAny_loadName_free hf k hcc n h hc
theorem jd{k:Option NameKind}(h:cW k=true):k=some .globalImplicit:=by
 cases k with
 | none=>cases h
 | some k=>cases k<;>first | rfl | cases h
theorem v4 {x:Str} {v:Value} {Q:Value->Shared->Prop} {pos:Pos} (C:Cx Z lvl A env ce P σ s) (hk:cW (ce.kind x)=true) (hv:Z.mg x=some v) (hd:(x==("__debug__":Str))=false) (h:Q v s) :
  wpAny Z.M A (eval (.Name x pos) env) Q E s :=
 Name_function_global C.fn ((C.ki x).symm.trans (jd hk)) (loadGlobal_global (by rw[C.gl];exact C.top.g) hv h) hd
theorem wo {x:Str} {v:Value} {Q:Value->Shared->Prop} {pos:Pos} (D:Wd Z) (C:Cx Z lvl A env ce P σ s) (hk:cW (ce.kind x)=true) (hx:x∈bltNames) (hv:bootBuiltins x=some v) (hd:(x==("__debug__":Str))=false) (hn:x≠("__name__":Str)) (h:Q v s) :
  wpAny Z.M A (eval (.Name x pos) env) Q E s :=
 Name_function_global C.fn ((C.ki x).symm.trans (jd hk)) (loadGlobal_builtin (by rw[C.gl];exact C.top.g) (D.blt x hx) (by rw[C.bl];exact C.top.b) ((C.top.builtins x hn).trans hv) h) hd
end
section
variable{Z:Cf}{A:Around}{E:Value->Shared->Prop}{s:Shared}{P:Pd}
theorem upFrom_get(n:Nat):∀(a:Int) (i:Nat),i<n->(eB a n)[i]?= some (.int (a+i)):=by
 induction n with
 | zero=>exact λzz zz h=>absurd h (FP _)
 | succ n ih =>
  intro a i h
  cases i with
  | zero=>exact congrArg (λz=>some (PV.int z)) (Int.add_zero a).symm
  | succ i =>
   rw[upFrom_succ,List.getElem?_cons_succ,ih (a+1) i (Gx h)]
   congr 2;lia
theorem upFrom_length(n:Nat):∀(a:Int),(eB a n).length=n:=by
 induction n with
 | zero=>exact λzz=>rfl
 | succ n ih=>exact λa=>congrArg (·+1) (ih (a+1))
theorem ib{a:Int}(h:a.natAbs<=az):-(2 ^ 62)<=a/\a<2 ^ 62:=by
 exact⟨He (by decide) (AK h).1,HZ (AK h).2 (by decide)⟩
theorem wX(x:Int):x.toNat<=x.natAbs:=by cases x<;>first | exact ER _ | exact Fi _
theorem tnb{a b:Int}(ha:a.natAbs<=az)(hb:b.natAbs<=az):(b - a).toNat<=az+az:=EK (wX _) (EK (Int.natAbs_sub_le b a) (E8 hb ha))
theorem ite_toNat(x y:Int):(if y<x then x - y else 0)=((x - y).toNat:Int):=by
 split
 .rename_i h;exact(FE (Int.sub_nonneg_of_le (Int.le_of_lt h))).symm
 .rename_i h;exact(congrArg Nat.cast (Int.toNat_of_nonpos (Int.sub_nonpos_of_le (GB.mp h)))).symm
theorem two_cls{h:Heap}{I a:Addr}{T U:String}(h1:∃o,h.get? I=some o/\o.cls=.type T)(h2:∃o,h.get? a=some o/\o.cls=.type U):(∃o,h.get? I=some o)/\∀b∈[I,a],∀o,h.get? b=some o->o.cls≠.none:=by
 obtain⟨o1,e1,c1⟩:=h1
 obtain⟨o2,e2,c2⟩:=h2
 refine⟨⟨o1,e1⟩,λb hb o e=>?_⟩
 rcases EU.mp hb with rfl | hb
 .cases e.symm.trans e1;rw[c1];exact λq=>nomatch q
 .rw[EM.mp hb]at e
  cases e.symm.trans e2;rw[c2];exact λq=>nomatch q
theorem fL{v:Value}{d:PV}{ds:List PV}{Q:Addr->Prop}{K:Value->Shared->Prop}(x:R Z s.heap s.toks Q v d)(hi:aJ d=some ds)
  (h:∀(fp:List Addr) (Pi:Nat->Value->Prop) (St:Nat->Heap->Prop) (C2:Shared),Keeps s C2->(∀A':Around,A'.handled=none->Walks Z.prog Z.w A' s.heap.objs.size fp [s.heap.objs.size] ds.length Pi St)->St 0 C2.heap ->
   (∀b∈fp,b<C2.heap.objs.size)->(∀b∈fp,b=s.heap.objs.size\/Q b)->(∀o,C2.heap.get? s.heap.objs.size=some o->¬isData o)->(∀i h',St i h'->∀o,h'.get? s.heap.objs.size=some o->¬isData o) ->
   (∀i v,Pi i v->∃d,ds[i]?= some d/\R Z s.heap s.toks Q v d)->ds.length<=az+az->(∀i h',St i h'->(∃o,h'.get? s.heap.objs.size=some o)/\∀b∈fp,∀o,h'.get? b=some o->o.cls≠.none)->K (.ref s.heap.objs.size) C2) :
  wpAny Z.M A (pyIter v) K E s:=by
 have hlim:=gQ
 cases d with
 | list ds =>
  cases hi
  cases x.l with | @list a vs n p e z r =>
  have hlt:=Heap.lt_size e
  have l1:=r.length
  refine wpAny_pyIter_list (ak e) (h [s.heap.objs.size,a] (λi v=>vs.toArray[i]?= some v) (λi h=>h.IsListIter s.heap.objs.size a i/\h.IsList a vs.toArray) _ (kpush _ _) (λA' hA=>?_) ⟨⟨_,Heap.get?_push_size _ rfl,rfl,rfl⟩,(ak e).push _⟩ ?_ ?_ ?_ ?_ ?_ (EK z (Ff ..)) (λi h' hh=>two_cls (hh.1.imp λo q=>⟨q.1,q.2.1⟩) (hh.2.imp λo q=>⟨q.1,q.2.1⟩)))
  .have:=Walks.list (prog:=Z.prog) (w:=Z.w) hA s.heap.objs.size a (FG hlt) vs.toArray
   rw[<-l1]
   simpa using this
  .intro b hb
   rw[Heap.size_push]
   rcases EU.mp hb with rfl | hb
   .exact E7 _
   .rw[EM.mp hb];exact FI hlt
  .intro b hb
   rcases EU.mp hb with rfl | hb
   .exact .inl rfl
   .rw[EM.mp hb];exact .inr p
  .intro o ho
   rw[Heap.get?_push_size _ rfl]at ho
   cases ho
   simp[isData]
  .rintro i h' ⟨⟨o',ho',hc,zz⟩,zz⟩ o ho
   rw[ho']at ho
   cases ho
   simp[isData,hc]
  .intro i v hv
   obtain⟨d,hd,rv⟩:=r.get' (by simpa using hv)
   exact⟨d,hd,rv⟩
 | tup ds =>
  cases hi
  cases x.t with | @tup a vs n p e z r =>
  have hlt:=Heap.lt_size e
  have l1:=r.length
  refine wpAny_pyIter_tuple (ax e) (h [s.heap.objs.size,a] (λi v=>vs.toArray[i]?= some v) (λi h=>h.IsTupleIter s.heap.objs.size a i/\h.IsTuple a vs.toArray) _ (kpush _ _) (λA' hA=>?_) ⟨⟨_,Heap.get?_push_size _ rfl,rfl,rfl⟩,(ax e).push _⟩ ?_ ?_ ?_ ?_ ?_ (EK z (Ff ..)) (λi h' hh=>two_cls (hh.1.imp λo q=>⟨q.1,q.2.1⟩) (hh.2.imp λo q=>⟨q.1,q.2.1⟩)))
  .have:=Walks.tuple (prog:=Z.prog) (w:=Z.w) hA s.heap.objs.size a (FG hlt) vs.toArray
   rw[<-l1]
   simpa using this
  .intro b hb
   rw[Heap.size_push]
   rcases EU.mp hb with rfl | hb
   .exact E7 _
   .rw[EM.mp hb];exact FI hlt
  .intro b hb
   rcases EU.mp hb with rfl | hb
   .exact .inl rfl
   .rw[EM.mp hb];exact .inr p
  .intro o ho
   rw[Heap.get?_push_size _ rfl]at ho
   cases ho
   simp[isData]
  .rintro i h' ⟨⟨o',ho',hc,zz⟩,zz⟩ o ho
   rw[ho']at ho
   cases ho
   simp[isData,hc]
  .intro i v hv
   obtain⟨d,hd,rv⟩:=r.get' (by simpa using hv)
   exact⟨d,hd,rv⟩
 | rng a b c =>
  cases x with | @rng r0 zz zz zz t u v p e hb =>
  have hlt:=Heap.lt_size e
  obtain⟨hb1,hb2⟩:=hb
  have key:∀(n:Nat),Builtin.Range.small a b c=true->Builtin.Range.rangeSize a b c=(n:Int)->ds.length=n->(∀i,i<n->ds[i]?= some (.int (a+i*c)))->n<=az+az->wpAny Z.M A (pyIter (.ref r0)) K E s:=by
   intro n hs hn hl hg hnl
   refine wpAny_pyIter_range e hs (h [s.heap.objs.size] (λi v=>i<n/\∃t,v=.int (a+i*c) t) (λi h=>IsRangeIter h s.heap.objs.size (a+(i:Nat)*c) ((n:Int) - (i:Nat)) c) _ (kpush _ _) (λA' hA=>?_) ?_ ?_ ?_ ?_ ?_ ?_ (hl▸hnl) (λi h' hh=>⟨⟨_,hh⟩,λb hb o e=>by rw[EM.mp hb,hh]at e;cases e;exact λq=>nomatch q⟩))
   .rw[hl];exact(Walks.range hA _ a c n).bound
   .show IsRangeIter _ _ _ _ _
    rw[hn];simpa using Heap.get?_push_size _ rfl
   .intro b hb
    rw[Heap.size_push,EM.mp hb];exact E7 _
   .intro b hb
    exact .inl (EM.mp hb)
   .intro o ho
    rw[Heap.get?_push_size _ rfl]at ho
    cases ho
    simp[isData]
   .intro i h' hst o ho
    rw[hst]at ho
    cases ho
    simp[isData]
   .rintro i v ⟨hin,t,rfl⟩
    exact⟨_,hg i hin,.int _ _⟩
  obtain⟨hc,hi⟩:=ifo_of (show(if c=1 then some (eB a (b - a).toNat)else EL)=some ds from hi)
  subst hc
  cases hi
  refine key (b - a).toNat (small_one (ib hb1).1 (ib hb1).2 (ib hb2).1 (ib hb2).2) ?_ (upFrom_length _ _) ?_ (tnb hb1 hb2)
  .rw[rangeSize_one,ite_toNat]
  .intro i hin
   rw[upFrom_get _ _ _ hin];congr 2;lia
 | _=>cases hi
theorem Ac {x:PV} {n:Nat} {v:Value} {Q:Addr->Prop} (h:yq x=some n) (r:R Z s.heap s.toks Q v x):wpAny Z.M A (call (.builtin "len") [v]) (Pst Z P s (at1 (.int n))) E s:=by
 have hlim:=gQ
 cases x with
 | str x =>
  cases r with | str zz t =>
  obtain⟨hz,rfl⟩:=aV h
  refine PyProof.Rows.len_str ?_ (aL ⟨s.heap,_,_,rfl,λzz zz e=>e,Ff _ 2⟩ (.int _ _) rfl)
  have:x.length<=1000000:=hz
  lia
 | list ds =>
  cases h
  cases r.l with | list p e z rs =>
  have l:=rs.length
  refine PySem.Calls.call_len_list (ak e) (by simp;lia) ?_
  simp only[FJ,l]
  exact aL ⟨s.heap,_,_,rfl,λzz zz e=>e,Ff _ 2⟩ (.int _ _) rfl
 | tup ds =>
  cases h
  cases r.t with | tup p e z rs =>
  have l:=rs.length
  refine _root_.PySem.P.len_tuple e (by simp;lia) ?_
  simp only[FJ,l]
  exact aL ⟨s.heap,_,_,rfl,λzz zz e=>e,Ff _ 2⟩ (.int _ _) rfl
 | _=>cases h
theorem hV{d:PV}{ds:List PV}{bs:List Bool}(h:bC (d::ds)=some bs):∃b bs',d=.bool b/\bC ds=some bs'/\bs=b::bs':=by
 obtain⟨b,h1,h2⟩:=ac h
 obtain⟨bs',h3,rfl⟩:=aq h2
 exact⟨b,bs',rI h1,h3,rfl⟩
theorem jk{ds:List PV}:∀{bs:List Bool} {i:Nat} {d:PV},bC ds=some bs->ds[i]?= some d->∃b,bs[i]?= some b/\d=.bool b:=by
 induction ds with
 | nil=>exact λzz h=>yP h
 | cons x ds ih =>
  intro bs i d h hi
  obtain⟨b,bs',rfl,h1,rfl⟩:=hV h
  cases i with
  | zero=>exact⟨b,rfl,(ET hi).symm⟩
  | succ i=>exact ih (bs:=bs') (i:=i) h1 hi
theorem fV{ds:List PV}:∀{bs:List Bool},bC ds=some bs->bs.length=ds.length:=by
 induction ds with
 | nil=>intro bs h;cases h;rfl
 | cons x ds ih =>
  intro bs h
  obtain⟨b,bs',rfl,h1,rfl⟩:=hV h
  exact congrArg (·+1) (ih h1)
theorem tU(bs:List Bool):(Fd bs.length).all (λi=>bs.getD i false)=bs.all id:=by
 rw[GL,Fs,Fs]
 constructor
 .intro h b hb
  obtain⟨i,hi,rfl⟩:=Hj hb
  have:=h i (by simpa using hi)
  simpa [hi]using this
 .intro h i hi
  have hi':i<bs.length:=by simpa using hi
  have:=h bs[i] (GU hi')
  simpa [hi']using this
theorem sX(bs:List Bool):(Fd bs.length).any (λi=>bs.getD i false)=bs.any id:=by
 rw[GL,GA,GA]
 constructor
 .rintro⟨i,hi,h⟩
  have hi':i<bs.length:=by simpa using hi
  exact⟨bs[i],GU hi',by simpa [hi']using h⟩
 .rintro⟨b,hb,h⟩
  obtain⟨i,hi,rfl⟩:=Hj hb
  exact⟨i,by simpa using hi,by simpa [hi]using h⟩
theorem op_all{ds:List PV}{bs:List Bool}{v:Value}{Q:Addr->Prop}(hh:A.handled=none)(h:bC ds=some bs)(r:R Z s.heap s.toks Q v (.list ds)) :
  wpAny Z.M A (call (.builtin "all") [v]) (Pst Z P s (at1 (.bool (bs.all id)))) E s:=by
 refine tk_of (call_all_walk (fL r rfl λfp Pi St C2 k W hst zz zz zz zz hP zz zz=>?_))
 refine⟨_,fp,_,ds.length,Pi,St,λi=>bs.getD i false,rfl,W A.in1 hh,hst,?_,λh' tk hk ht=>?_⟩
 .intro i v s' Q' E' hPi hq
  obtain⟨d,hd,rv⟩:=hP i v hPi
  obtain⟨b,hb,rfl⟩:=jk h hd
  rw[rv.b]
  refine wpAny_truthy_bool ?_
  simpa [hb]using hq
 .rw[<-fV h,tU]
  refine aL ?_ (.bool _) rfl
  obtain⟨h2,t2,dr2,rfl,k2,zz⟩:=k
  exact⟨h',tk,dr2,rfl,λb o e=>hk b o (λhm=>by rw[EM.mp hm,size_none]at e;cases e) (k2 b o e),ht⟩
theorem op_any{ds:List PV}{bs:List Bool}{v:Value}{Q:Addr->Prop}(hh:A.handled=none)(h:bC ds=some bs)(r:R Z s.heap s.toks Q v (.list ds)) :
  wpAny Z.M A (call (.builtin "any") [v]) (Pst Z P s (at1 (.bool (bs.any id)))) E s:=by
 refine tk_of (call_any_walk (fL r rfl λfp Pi St C2 k W hst zz zz zz zz hP zz zz=>?_))
 refine⟨_,fp,_,ds.length,Pi,St,λi=>bs.getD i false,rfl,W A.in1 hh,hst,?_,λh' tk hk ht=>?_⟩
 .intro i v s' Q' E' hPi hq
  obtain⟨d,hd,rv⟩:=hP i v hPi
  obtain⟨b,hb,rfl⟩:=jk h hd
  rw[rv.b]
  refine wpAny_truthy_bool ?_
  simpa [hb]using hq
 .rw[<-fV h,sX]
  refine aL ?_ (.bool _) rfl
  obtain⟨h2,t2,dr2,rfl,k2,zz⟩:=k
  exact⟨h',tk,dr2,rfl,λb o e=>hk b o (λhm=>by rw[EM.mp hm,size_none]at e;cases e) (k2 b o e),ht⟩
end
inductive RL(Z:Cf)(h:Heap)(N:Nat)(P:Pd):List Value->List RV->Prop
 | nil:RL Z h N P [] []
 | cons {v:Value} {vs:List Value} {r:RV} {rs:List RV}:R Z h N (P r.f r.c) v r.d->RL Z h N P vs rs->RL Z h N P (v::vs) (r::rs)
section
variable{Z:Cf}{A:Around}{E:Value->Shared->Prop}{s:Shared}{P P':Pd}{h h':Heap}{N N':Nat}{vs ws:List Value}{rs qs:List RV}
theorem RL.frame(hk:∀f c a o,P f c a->isData o->h.get? a=some o->h'.get? a=some o/\P' f c a)(hN:N<=N')(x:RL Z h N P vs rs):RL Z h' N' P' vs rs:=by
 induction x with
 | nil=>exact .nil
 | cons a zz ih=>exact .cons (a.frame (hk _ _) hN) ih
theorem RL.kp{s s':Shared}(x:RL Z s.heap s.toks P vs rs)(k:Keeps s s'):RL Z s'.heap s'.toks P vs rs:=x.frame (λzz zz zz zz p zz e=>⟨kheap k _ _ e,p⟩) (ktl k)
theorem RL.off{b:Addr}(hs:Heap.ExtBut b h h')(hb:∀f c,¬P f c b)(hN:N<=N')(x:RL Z h N P vs rs):RL Z h' N' P vs rs :=
 x.frame (λf c a o p zz e=>⟨hs a o (λq=>hb f c (q▸p)) e,p⟩) hN
theorem RL.append(x:RL Z h N P vs rs)(y:RL Z h N P ws qs):RL Z h N P (vs++ws) (rs++qs):=by
 induction x with
 | nil=>exact y
 | cons a zz ih=>exact .cons a ih
theorem RL.length(x:RL Z h N P vs rs):vs.length=rs.length:=by
 induction x with
 | nil=>rfl
 | cons zz zz ih=>exact congrArg (·+1) ih
theorem RL.toRS(hP:∀f c f' c' a,(f'=true->f=true)->(c'=true->c=true)->P f c a->P f' c' a)(x:RL Z h N P vs rs):RS Z h N (P (rs.all (·.f)) (rs.all (·.c))) vs (rs.map (·.d)):=by
 induction x with
 | nil=>exact .nil
 | cons a zz ih=>exact .cons (a.mono λb=>hP _ _ _ _ b ou ou) (ih.mono λb=>hP _ _ _ _ b pO pO)
end
theorem lastIdx_cons(y z:Str)(l:List Str)(n:Nat):lastIdx y (z::l) n=match lastIdx y l (n+1)with | some i=>some i | EL=>if z=y then some n else EL:=rfl
theorem du(y:Str)(l xs:List Str):∀(n:Nat),lastIdx y (l++xs) n=match lastIdx y xs (n+l.length)with | some i=>some i | EL=>lastIdx y l n:=by
 induction l with
 | nil=>intro n;rw[Gv,HM,Nat.add_zero];cases lastIdx y xs n<;>rfl
 | cons z l ih =>
  intro n
  rw[Il,lastIdx_cons,ih (n+1),Fl,Hq,Ga]
  cases lastIdx y xs (n+(l.length+1))<;>rfl
theorem lastIdx_inv{y z:Str}{l:List Str}{n i:Nat}(h:lastIdx y (z::l) n=some i):lastIdx y l (n+1)=some i\/(i=n/\z=y):=by
 rw[lastIdx_cons]at h
 cases hj:lastIdx y l (n+1)with
 | some j=>rw[hj]at h;exact .inl h
 | none =>
  rw[hj]at h
  obtain⟨h1,h2⟩:=aV h
  exact .inr ⟨h2.symm,h1⟩
theorem cX{y:Str}{l:List Str}:∀{n i:Nat},lastIdx y l n=some i->∃j,i=n+j/\l[j]?= some y:=by
 induction l with
 | nil=>exact λh=>yP h
 | cons z l ih =>
  intro n i h
  rcases lastIdx_inv h with h | ⟨rfl,rfl⟩
  .obtain⟨j,rfl,h2⟩:=ih h
   exact⟨j+1,Hq ..,h2⟩
  .exact⟨0,rfl,rfl⟩
theorem mN{y:Str}{l:List Str}:∀{n:Nat},lastIdx y l n=none->y∉l:=by
 induction l with
 | nil=>exact λzz h=>uS h
 | cons z l ih =>
  intro n h hm
  rw[lastIdx_cons]at h
  cases hj:lastIdx y l (n+1)with
  | some j=>rw[hj]at h;cases h
  | none =>
   rw[hj]at h
   rcases EU.mp hm with e | e
   .rw[if_pos e.symm]at h;cases h
   .exact ih hj e
theorem isFn_eq{k:ScopeKind}(h:yR k=true):k=.function:=by cases k<;>first | rfl | cases h
theorem isLocal_eq{k:NameKind}(h:k=.local):jK k=true:=by rw[h];rfl
theorem iH{k:NameKind}(h:k=.free):nV k=true:=by rw[h];rfl
theorem rp{k:NameKind}(h:k=.cell):aY k=true:=by rw[h];rfl
theorem dA{l:List (Str×NameKind)}{x:Str}(h:dN l x=true):l.lookup x=some .local:=by
 delta dN at h
 cases hk:l.lookup x with
 | none=>rw[hk]at h;cases h
 | some k=>rw[hk]at h;cases k<;>first | rfl | cases h
theorem all_of{α:Type}{l:List α}{f:α->Bool}(h:l.all f=true){x:α}(hx:x∈l):f x=true:=Fs.mp h x hx
theorem imp_of{a b:Bool}(h:(!a||b)=true)(ha:a=true):b=true:=by rw[ha]at h;exact h
theorem notin_of{l:List Str}{x:Str}(h:(!l.contains x)=true):x∉l:=λhm=>by rw[GD.mpr hm]at h;cases h
structure CompOk(ce:CE)(scope:Scope)(xs:List Str):Prop where
 fn:scope.kind=.function
 nocell:∀y∈scope.names,y.2≠.cell
 names:∀y∈scope.names,y.2=.local->scope.names.lookup y.1=some .local
 tgt:∀x∈xs,scope.names.lookup x=some .local
 free:∀y∈scope.names,y.2=.free->de (ce.kind y.1)=true
 dot:(".0":Str)∉ce.names
 loc:∀y∈scope.names,y.2=.local->y.1=(".0":Str)\/y.1∈xs
 dotx:(".0":Str)∉xs
theorem cj{ce:CE}{scope:Scope}{xs:List Str}(h:ce.compOk scope xs=true):CompOk ce scope xs:=by
 refine cps λGq hGq=>?_
 obtain⟨h,h8⟩:=and2 h
 obtain⟨h,h7⟩:=and2 h
 obtain⟨h,h6⟩:=and2 h
 obtain⟨h,h5⟩:=and2 h
 obtain⟨h,h4⟩:=and2 h
 obtain⟨h,h3⟩:=and2 h
 obtain⟨h1,h2⟩:=and2 h
 refine hGq ?_
 clear hGq
 refine⟨isFn_eq h1,λy hy e=>?_,λy hy e=>dA (imp_of (all_of h3 hy) (isLocal_eq e)),λx hx=>dA (all_of h4 hx),λy hy e=>imp_of (all_of h5 hy) (iH e),notin_of h6,λy hy e=>?_,notin_of h8⟩
 .have:=bZ (all_of h2 hy);rw[rp e]at this;cases this
 .have:=all_of h7 hy
  rw[Bool.or_assoc]at this
  exact(HR.mp (imp_of this (isLocal_eq e))).imp eq_of_beq GD.mp
noncomputable def closeOver(env:Env):List (Str×NameKind)->List (Str×Addr)->List (Str×Addr)
 | [],acc=>acc
 | y::r,acc=>closeOver env r (if y.2==.free then(y.1,(env.cells.lookup y.1).getD 0)::acc else acc)
theorem eo{scope:Scope}{env:Env}(h:∀y∈scope.names,y.2=.free->∃c,env.cells.lookup y.1=some c):closureFor scope env=pure (closeOver env scope.names []):=by
 have key:∀(l:List (Str×NameKind)) (acc:List (Str×Addr)),(∀y∈l,y.2=.free->∃c,env.cells.lookup y.1=some c) ->
   (forIn l acc λx cs=>(match x with | (name,kind)=>if(kind==.free)=true then(do let a <-cellOf env name;pure (HO ((name,a)::cs)))else pure (HO cs):Sem (ForInStep (List (Str×Addr)))))=pure (closeOver env l acc):=by
  intro l
  induction l with
  | nil=>exact λacc zz=>rfl
  | cons y l ih =>
   intro acc hl
   obtain⟨n,k⟩:=y
   rw[I7]
   refine Eq.trans ?_ (ih _ λy hy=>hl y (EO _ hy))
   dsimp only
   by_cases hk:(k==NameKind.free)=true
   .obtain⟨c,hc⟩:=hl (n,k) (EP ..) (eq_of_beq hk)
    have hc:env.cells.lookup n=some c:=hc
    have e1:cellOf env n=pure c:=by delta cellOf;rw[hc]
    rw[if_pos hk,if_pos hk,e1,hc,Jg,Jg];rfl
   .rw[if_neg hk,if_neg hk,Jg]
 delta closureFor
 have:=key scope.names [] h
 simp only[bind_pure]
 exact this
theorem closeOver_lookup{env:Env}{y:Str}{c:Addr}(hc:env.cells.lookup y=some c)(l:List (Str×NameKind)):∀(acc:List (Str×Addr)),((y,NameKind.free)∈l\/acc.lookup y=some c)->(closeOver env l acc).lookup y=some c:=by
 induction l with
 | nil=>exact λacc h=>h.elim (λh=>uS h) id
 | cons z l ih =>
  intro acc h
  refine ih _ ?_
  rcases h with h | h
  .rcases EU.mp h with rfl | h
   .refine .inr ?_
    show((y,(env.cells.lookup y).getD 0)::acc).lookup y=_
    rw[hc,FR,beq_self_eq_true];rfl
   .exact .inl h
  .refine .inr ?_
   by_cases hz:(z.2==NameKind.free)=true
   .rw[if_pos hz,FR]
    by_cases e:(y==z.1)=true
    .rw[e,<-eq_of_beq e,hc];rfl
    .rw[GO.mpr e];exact h
   .rw[if_neg hz];exact h
theorem di{env:Env}{ce:CE}(ki:∀x,ce.kind x=env.kindOf x)(fn:env.scope.kind=.function)(scope:Scope):(relabel scope env).names=cR ce.kind scope.names:=by
 delta relabel cR
 refine F8 λy zz=>?_
 obtain⟨n,k⟩:=y
 simp only[fn,ki,show(ScopeKind.function==ScopeKind.function)=true from rfl,FY]
theorem dz{κ:Str->Option NameKind}{y:Str}{l:List (Str×NameKind)}{k:NameKind}(h:(cR κ l).lookup y=some k):∃k',(y,k')∈l/\(k=k'\/(k'=.free/\k=.cell)):=by
 induction l with
 | nil=>cases h
 | cons z l ih =>
  obtain⟨n,k'⟩:=z
  have key:∃kk,(kk=k'\/(k'=.free/\kk=.cell))/\cR κ ((n,k')::l)=(n,kk)::cR κ l:=by
   by_cases hc:(k'==NameKind.free&&κ n==some .cell)=true
   .exact⟨.cell,.inr ⟨eq_of_beq (and2 hc).1,rfl⟩,congrArg (·::cR κ l) (if_pos hc)⟩
   .exact⟨k',.inl rfl,congrArg (·::cR κ l) (if_neg hc)⟩
  obtain⟨kk,hkk,e1⟩:=key
  rw[e1,FR]at h
  by_cases e:(y==n)=true
  .rw[e]at h
   cases h
   rw[eq_of_beq e]
   exact⟨k',EP ..,hkk⟩
  .rw[GO.mpr e]at h
   exact(ih h).imp λq hq=>⟨EO _ hq.1,hq.2⟩
theorem gu{k:Option NameKind}(h:de k=true):d9 k=true:=by
 cases k with
 | none=>cases h
 | some k=>cases k<;>first | rfl | cases h
section
variable{Z:Cf}{lvl:Nat}{A:Around}{env:Env}{ce:CE}{P:Pd}{σ:Sig}{s:Shared}{E:Value->Shared->Prop}
theorem Cx.innerN{scope:Scope}{xs:List Str}{rs:List (Option RV)}{C:Addr}{DE C2:Shared}{Dg:Str->Option Value}{P':Pd}(X:Cx Z lvl A env ce P σ DE)(K:CompOk ce scope xs)(hlen:xs.length=rs.length)(hk:∀b o,DE.heap.get? b=some o->C2.heap.get? b=some o)
  (htk:DE.toks<=C2.toks) (hn:C2.heap.Ns C Dg) (hP:P'.Ok C2.heap) (hPP:∀f c a o,P f c a->DE.heap.get? a=some o->P' f c a) (hv:∀(j:Nat) (x:Str) (r:RV),xs[j]?= some x->rs[j]?= some (some r)->∃v,Dg x=some v/\R Z C2.heap C2.toks (P' r.f r.c) v r.d) :
  Cx Z lvl A (compEnvC scope (closeOver env scope.names []) C env) (ce.inner scope xs) P' (σ++rs) C2 where
 hh:=X.hh
 hd:=X.hd
 hu:=X.hu
 fn:=K.fn
 gl:=X.gl
 bl:=X.bl
 ki:=λy=>(congrArg (List.lookup y) (di X.ki X.fn scope)).symm
 len:=by show(σ++rs).length=(ce.names++xs).length;rw[EQ,EQ,X.len,hlen]
 cells:=λy hy=>by
  have hy':de ((cR ce.kind scope.names).lookup y)=true:=by
   rw[<-di X.ki X.fn];exact hy
  cases hl:(cR ce.kind scope.names).lookup y with
  | none=>rw[hl]at hy';cases hy'
  | some k =>
   rw[hl]at hy'
   obtain⟨k',hm',hk'⟩:=dz hl
   have hfree:k'=.free:=by
    rcases hk' with rfl | ⟨e,zz⟩
    .cases k with
     | free=>rfl
     | cell=>exact absurd rfl (K.nocell _ hm')
     | _=>cases hy'
    .exact e
   subst hfree
   have h1:=K.free _ hm' rfl
   rw[X.ki]at h1
   exact(X.cells y h1).imp λc hc=>closeOver_lookup hc _ _ (.inl hm')
 pd:=hP
 top:=X.top.keeps hk
 tk:=tne X.tk htk
 glb:=λhg x d hx=>by
  obtain⟨v,h1,h2⟩:=X.glb hg x d hx
  exact⟨v,h1,h2.frame (λa o pa zz e=>⟨hk a o e,hPP _ _ a o pa e⟩) htk⟩
 rd:=λy i q h1 h2 h3=>by
  have h1:lastIdx y (ce.names++xs) 0=some i:=h1
  rw[du,Hc]at h1
  cases hxy:lastIdx y xs ce.names.length with
  | some i' =>
   rw[hxy]at h1
   cases h1
   obtain⟨j,rfl,g2⟩:=cX hxy
   rw[<-X.len,Fg (Ff ..),Fu]at h3
   obtain⟨v,hm,hr⟩:=hv _ y q g2 h3
   exact⟨v,.inl ⟨lookup_relabel_local (K.tgt y (Fa g2)),Dg,hn,hm⟩,hr⟩
  | none =>
   rw[hxy]at h1
   have h1:lastIdx y ce.names 0=some i:=h1
   obtain⟨j,hj,g2⟩:=cX h1
   rw[Hc]at hj
   subst hj
   have hlt:i<σ.length:=X.len▸(EY.mp g2).1
   rw[Fq hlt]at h3
   have h2':d9 ((cR ce.kind scope.names).lookup y)=true:=h2
   cases hl2:(cR ce.kind scope.names).lookup y with
   | none=>rw[hl2]at h2';cases h2'
   | some k =>
    rw[hl2]at h2'
    obtain⟨k',hm',hk'⟩:=dz hl2
    have hfree:k'=.free/\(k=.cell\/k=.free):=by
     rcases hk' with rfl | ⟨e,e'⟩
     .cases k with
      | free=>exact⟨rfl,.inr rfl⟩
      | cell=>exact absurd rfl (K.nocell _ hm')
      | «local» =>
       rcases K.loc _ hm' rfl with e | e
       .exact absurd (Fa g2) (by rw[show y=(".0":Str) from e];exact K.dot)
       .exact absurd e (mN hxy)
      | _=>cases h2'
     .exact⟨e,.inl e'⟩
    obtain⟨rfl,hkk⟩:=hfree
    have h4:=K.free _ hm' rfl
    obtain⟨u,l,ru⟩:=X.rd y i q h1 (gu h4) h3
    have e3:(compEnvC scope (closeOver env scope.names []) C env).kindOf y=some k:=by
     show(relabel scope env).names.lookup y=_
     rw[di X.ki X.fn];exact hl2
    refine⟨u,.inr ⟨by rcases hkk with rfl | rfl<;>first | exact .inl e3 | exact .inr e3,?_⟩,ru.frame (λa o pa zz e=>⟨hk a o e,hPP _ _ a o pa e⟩) htk⟩
    rcases l with⟨e,zz⟩ | ⟨zz,c,hc,ic⟩
    .rw[X.ki,e]at h4;cases h4
    .exact⟨c,closeOver_lookup hc _ _ (.inl hm'),ic.keeps hk⟩
theorem acompL_split{go:PV->Option (List RV)}{ds es:List PV}:∀{rs:List RV},aU go (ds++es)=some rs->∃qs ts,aU go ds=some qs/\aU go es=some ts/\rs=qs++ts:=by
 induction ds with
 | nil=>exact λh=>⟨[],_,rfl,h,rfl⟩
 | cons d ds ih =>
  intro rs h1
  refine cps λGq hGq=>?_
  obtain⟨r,hr,h3⟩:=ac h1
  obtain⟨rest,hrest,e⟩:=ac h3
  refine hGq ?_
  clear hGq
  cases e
  obtain⟨qs,ts,h4,h5,rfl⟩:=ih hrest
  refine⟨r++qs,ts,?_,h5,(Fj ..).symm⟩
  show(go d).bind _=_
  rw[hr]
  show(aU go ds).bind _=_
  rw[h4];rfl
theorem rE{go:PV->Option (List RV)}{d:PV}{r:List RV}(h:go d=some r):aU go [d]=some r:=by
 show(go d).bind _=_
 rw[h]
 show some (r++[])=_
 rw[Fb]
theorem me{go:PV->Option (List RV)}{ds:List PV}{rs qs:List RV}{i:Nat}{d:PV}(hgo:aU go ds=some rs)(hq:aU go (ds.take i)=some qs)(hd:ds[i]?= some d):∃r ts,go d=some r/\aU go (ds.take (i+1))=some (qs++r)/\rs=(qs++r)++ts:=by
 have htake:ds.take (i+1)=ds.take i++[d]:=by rw[HA,hd];rfl
 rw[<-GC (i+1) ds]at hgo
 obtain⟨a,ts,h1,h2,rfl⟩:=acompL_split hgo
 have h3:=h1
 rw[htake]at h3
 obtain⟨b,c,h4,h5,rfl⟩:=acompL_split h3
 obtain⟨r,hr,zz⟩:=ac h5
 rw[rE hr]at h5
 cases h5
 cases hq.symm.trans h4
 exact⟨_,ts,hr,h1,rfl⟩
end
noncomputable def tests(ifs:List Expr)(env:Env):Sem Bool:=forIn ifs true λc r=>if r=true then do let ok <-isTrue c env (eval c env);pure (HO ok)else pure (HO r)
noncomputable def turnCode(e:Expr)(k:Nat)(ip:Pos)(target:Expr)(it acc:Value)(env:Env)(ifs:List Expr)(em:Sem Ht):Sem Ht:=do
 standAt ip
 match <-pyNext it with
 | none=>pure (.done .next)
 | some v =>
  letOwnedTupleGo target it v
  assign target env v
  let ok <-tests ifs env
  if ok then em else again (.compLoop e k it acc env)
section
variable{Z:Cf}{A:Around}{P:Pd}{s:Shared}{E:Value->Shared->Prop}
theorem dm{e:Expr}{k:Nat}{x:Str}{px ip:Pos}{it acc:Value}{env:Env}{ifs:List Expr}{em:Sem Ht}{Da:Result->Shared->Prop}(hq:(Code.compLoop e k it acc env).quiet=true)(hfr:(Code.compLoop e k it acc env).isFrame=false)
  (hturn:compTurn e k it acc env=turnCode e k ip (.Name x px) it acc env ifs em)
  (hun:A.under (.compLoop e k it acc env)=A) (I:Nat->Shared->Prop)
  (turn:∀n s,I n s->wpAny Z.M A (pyNext it) (λr CZ=>match r with
   | none=>Da (.ok .next) CZ
   | some v=>wpAny Z.M A (assign (.Name x px) env v) (λzz C2 =>
     wpAny Z.M A (tests ifs env) (λok C5 =>
      if ok=true then wpAny Z.M A em (λfin C7=>fin=.again (.compLoop e k it acc env)/\∃m,m<n/\I m C7) (notedBy Z.M A env λe s'=>Da (.error e) s') C5
      else ∃m,m<n/\I m C5) (notedBy Z.M A env λe s'=>Da (.error e) s') C2) (notedBy Z.M A env λe s'=>Da (.error e) s') CZ) (notedBy Z.M A env λe s'=>Da (.error e) s') s)
  (n:Nat) (h:I n s):codeAny Z.M A (.compLoop e k it acc env) Da s:=by
 refine codeAny_loop hq I (λn s hI=>?_) n h
 rw[hun]
 have hden:Z.M.den (.compLoop e k it acc env)=(compTurn e k it acc env).onRaise (λx=>do noteFrame x env;theTreesLotGoes x):=by
  show(if(Code.compLoop e k it acc env).isFrame then _ else _)=_
  rw[hfr];rfl
 rw[hden]
 refine wpAny_noted ?_
 rw[hturn]
 refine wpAny_bind (wpAny_standAt (wpAny_bind (wpAny_mono (turn n s hI) (λr CZ C4=>?_) λzz zz h'=>h')))
 cases r with
 | none=>exact wpAny_pure C4
 | some v =>
  refine wpAny_bind (wpAny_of_eq (rfl:letOwnedTupleGo (.Name x px) it v=pure ()) ?_)
  refine wpAny_bind (wpAny_mono C4 (λzz C2 C8=>wpAny_bind (wpAny_mono C8 (λok C5 C9=>?_) λzz zz h'=>h')) λzz zz h'=>h')
  cases ok with
  | false=>exact wpAny_pure ⟨rfl,C9⟩
  | true=>exact wpAny_mono C9 (λfin C7 Dh=>by obtain⟨rfl,Dh⟩:=Dh;exact⟨rfl,Dh⟩) λzz zz h'=>h'
def rg(C I D:Addr)(h h':Heap):Prop:=∀b o,b≠C->b≠I->b≠D->h.get? b=some o->h'.get? b=some o
def rH(P:Pd)(D:Addr)(Acc:Heap->Nat->List RV->Prop):Prop :=
 ∀ ⦃h h':Heap⦄ ⦃N N':Nat⦄ ⦃qs:List RV⦄,Acc h N qs->N<=N'->(∀o,h.get? D=some o->h'.get? D=some o)->(∀f c a o,P f c a->isData o->h.get? a=some o->h'.get? a=some o)->Acc h' N' qs
inductive Emit(Acc:Heap->Nat->List RV->Prop)(D C:Addr)(Im:(Str->Option Value)->Prop)(s:Shared)(l:List RV):Shared->Prop
 | mk {h':Heap} {tk:Nat} {dr:Drawn} {m':Str->Option Value}:Acc h' tk l->h'.Ns C m'->Im m'->(∀b o,b≠D->b≠C->s.heap.get? b=some o->h'.get? b=some o)->s.toks<=tk->Emit Acc D C Im s l {s with heap:=h',toks:=tk,drawn:=dr}
inductive LoopI(Acc:Heap->Nat->List RV->Prop)(I D C:Addr)(ds:List PV)(go:PV->Option (List RV))(Im:(Str->Option Value)->Prop)(St:Nat->Heap->Prop)(s:Shared):Nat->Shared->Prop
 | mk {h':Heap} {tk:Nat} {dr:Drawn} {m':Str->Option Value} {i:Nat} {qs:List RV}:St i h'->Acc h' tk qs->h'.Ns C m'->Im m'->aU go (ds.take i)=some qs->i<=ds.length->rg C I D s.heap h'->s.toks<=tk ->
   LoopI Acc I D C ds go Im St s (ds.length+1 - i) {s with heap:=h',toks:=tk,drawn:=dr}
structure LoopC(P:Pd)(cenv:Env)(I D:Addr)(fp:List Addr)(x:Str)(St:Nat->Heap->Prop):Prop where
 hx:cenv.kindOf x=some .local
 hp:(cenv.scope.kind==.class||(cenv.scope.kind==.module&&cenv.locals != cenv.globals))=false
 hDC:D≠cenv.locals
 hDf:D∉fp
 hCf:cenv.locals∉fp
 hId:∀i h',St i h'->∀o,h'.get? I=some o->¬isData o
 hbD:∀f c,¬P f c D
 hbC:∀f c,¬P f c cenv.locals
def A2(Z:Cf)(A:Around)(Acc:Heap->Nat->List RV->Prop)(loop:Code)(cenv:Env)(I D:Addr)(x:Str)(ifs:List Expr)(em:Sem Ht)(ds:List PV)(Pi:Nat->Value->Prop)(go:PV->Option (List RV))(Im:(Str->Option Value)->Prop)(rs:List RV)(s:Shared):Prop :=
 ∀i v d r C2 Dg (qs:List RV) E',Pi i v->ds[i]?= some d->go d=some r->C2.heap.Ns cenv.locals Dg->Dg x=some v->Im Dg->rg cenv.locals I D s.heap C2.heap->s.toks<=C2.toks->Acc C2.heap C2.toks qs->(∃ts,rs=(qs++r)++ts) ->
  wpAny Z.M A (tests ifs cenv) (λok C5=>Keeps C2 C5/\if ok=true then wpAny Z.M A em (λfin C7=>fin=.again loop/\Emit Acc D cenv.locals Im C5 (qs++r) C7) E' C5 else r=[]) E' C2
theorem lt_step{n i:Nat}(h:i<n):n+1 - (i+1)<n+1 - i:=Hi (FI h) (E7 i)
set_option maxHeartbeats 1000000 in
theorem eZ{e:Expr}{k:Nat}{ip:Pos}{x:Str}{px:Pos}{ifs:List Expr}{em:Sem Ht}{I D:Addr}{fp:List Addr}{ds:List PV}{Pi:Nat->Value->Prop}{St:Nat->Heap->Prop}{cenv:Env}{m:Str->Option Value}{Da:Result->Shared->Prop}{Im:(Str->Option Value)->Prop}{Acc:Heap->Nat->List RV->Prop}
  {go:PV->Option (List RV)} {rs:List RV} (hgo:aU go ds=some rs)
  (hq:(Code.compLoop e k (.ref I) (.ref D) cenv).quiet=true) (hfr:(Code.compLoop e k (.ref I) (.ref D) cenv).isFrame=false)
  (hturn:compTurn e k (.ref I) (.ref D) cenv=turnCode e k ip (.Name x px) (.ref I) (.ref D) cenv ifs em)
  (hun:A.under (.compLoop e k (.ref I) (.ref D) cenv)=A) (L:LoopC P cenv I D fp x St) (W:Walks Z.prog Z.w A I fp [I] ds.length Pi St) (hA:rH P D Acc)
  (hst:St 0 s.heap) (hacc:Acc s.heap s.toks []) (hn:s.heap.Ns cenv.locals m) (hIm:Im m) (hIms:∀m v,Im m->Im (λz=>if z=x then some v else m z))
  (turn:A2 Z A Acc (.compLoop e k (.ref I) (.ref D) cenv) cenv I D x ifs em ds Pi go Im rs s)
  (hR:∀h' tk dr m',h'.Ns cenv.locals m'->Im m'->Acc h' tk rs->rg cenv.locals I D s.heap h'->s.toks<=tk->Da (.ok .next) {s with heap:=h',toks:=tk,drawn:=dr}) :
  codeAny Z.M A (.compLoop e k (.ref I) (.ref D) cenv) Da s:=by
 have hDI:D≠I:=λe=>L.hDf (by rw[e];exact W.sub _ (EM.mpr rfl))
 have hCI:cenv.locals≠I:=λe=>L.hCf (by rw[e];exact W.sub _ (EM.mpr rfl))
 refine dm hq hfr hturn hun (LoopI Acc I D cenv.locals ds go Im St s) ?_ (ds.length+1) (.mk (i:=0) hst hacc hn hIm rfl (Fi _) (λzz zz zz zz zz e=>e) (ER _))
 intro k s' hI
 cases hI with
 | @mk H tk dr m' i qs hst' hacc' hn' hIm' hq hi hk ht0 =>
  have data:∀{C4:Heap} {N:Nat},tk<=N->(∀b o,b≠I->H.get? b=some o->C4.get? b=some o)->Acc C4 N qs:=λhN up=>hA hacc' hN (λo e=>up _ o hDI e) λf c a o p hd' e=>up a o (λe'=>L.hId _ _ hst' o (e'▸e) hd') e
  by_cases hlt:i<ds.length
  .refine tk_of (W.item i _ _ _ hlt hst' λv C4 Dc hPv Dd Dm Db=>?_)
   have Dz:tk<=Dc:=Db
   replace Db:=EK ht0 Db
   refine cps λGq hGq=>?_
   obtain⟨r,ts,hr,hq1,hsize⟩:=me hgo hq (EW hlt)
   refine hGq ?_
   clear hGq
   have Dj:∀b o,b≠I->H.get? b=some o->C4.get? b=some o:=λb o hb e=>Dm b o (λhm=>hb (EM.mp hm)) e
   refine wpAny_assign_Name (wpAny_storeName_local L.hx (hn'.at' λo e=>Dj _ o hCI e) (λC8 DF Dk=>?_) L.hp)
   have DM:St (i+1) C8:=W.frame _ _ _ Dd λb hb o e=>Dk.extBut b o (λe'=>L.hCf (e'▸hb)) e
   have Ds:Acc C8 (Dc+1) qs:=hA (data Dz Dj) (Fv _) (λo e=>Dk.extBut D o L.hDC e) λf c a o p zz e=>Dk.extBut a o (λe'=>L.hbC f c (e'▸p)) e
   have Dt:rg cenv.locals I D s.heap C8:=λb o h1 h2 h3 e=>Dk.extBut b o h1 (Dj b o h2 (hk b o h1 h2 h3 e))
   refine wpAny_mono (turn i v _ r _ _ qs _ hPv (EW hlt) hr DF (if_pos rfl) (hIms _ v hIm') Dt (EK Db (Fv _)) Ds ⟨ts,hsize⟩) (λok C5 C9=>?_) λzz zz e=>e
   obtain⟨⟨H3,Dx,Eg,rfl,k3,Dp⟩,C9⟩:=C9
   have Du:Dc+1<=Dx:=Dp
   replace Dp:=EK Db (EK (Fv _) Dp)
   have DA:St (i+1) H3:=W.frame _ _ _ DM λb zz o e=>k3 b o e
   cases ok with
   | false =>
    have C9:r=[]:=C9
    subst C9
    rw[Fb]at hq1
    exact⟨_,lt_step hlt,.mk DA (hA Ds Du (λo e=>k3 _ o e) λf c a o p zz e=>k3 a o e) (DF.keeps k3) (hIms _ v hIm') hq1 hlt (λb o h1 h2 h3 e=>k3 b o (Dt b o h1 h2 h3 e)) Dp⟩
   | true =>
    refine wpAny_mono C9 (λfin C7 Dh=>?_) λzz zz e=>e
    obtain⟨rfl,Dh⟩:=Dh
    cases Dh with
    | @mk H4 Eh Ei Eu DG DU DV k4 DW =>
     exact⟨rfl,_,lt_step hlt,.mk (W.frame _ _ _ DA λb hb o e=>k4 b o (λe'=>L.hDf (e'▸hb)) (λe'=>L.hCf (e'▸hb)) e) DG DU DV hq1 hlt (λb o h1 h2 h3 e=>k4 b o h3 h1 (k3 b o (Dt b o h1 h2 h3 e))) (EK Dp DW)⟩
  .obtain rfl:i=ds.length:=Gb hi (Gc.mp hlt)
   rw[GV,hgo]at hq
   cases hq
   refine tk_of (W.done _ _ _ hst' λC4 Dc Dm Db=>?_)
   have Dj:∀b o,b≠I->H.get? b=some o->C4.get? b=some o:=λb o hb e=>Dm b o (λhm=>hb (EM.mp hm)) e
   exact hR C4 Dc dr m' (hn'.at' λo e=>Dj _ o hCI e) hIm' (data Db Dj) (λb o h1 h2 h3 e=>Dj b o h2 (hk b o h1 h2 h3 e)) (EK ht0 Db)
theorem gC{elt iter iter2:Expr}{t1 t2:Expr}{ifs ifs2:List Expr}{scope:Scope}{pos:Pos}{it acc:Value}{env:Env}{Da:Result->Shared->Prop}
  (h0:codeAny Z.M A (.compLoop (.ListComp elt [⟨t1,iter,ifs,0⟩,⟨t2,iter2,ifs2,0⟩] scope pos) 1 it acc env) Da s)
  (h:wpAny Z.M A (pyIter it) (λit' s'=>codeAny Z.M A (.compLoop (.ListComp elt [⟨t1,iter,ifs,0⟩,⟨t2,iter2,ifs2,0⟩] scope pos) 1 it' acc env) Da s')
   (notedBy Z.M A env λx s'=>Da (.error x) s') s) :
  codeAny Z.M A (.compStart (.ListComp elt [⟨t1,iter,ifs,0⟩,⟨t2,iter2,ifs2,0⟩] scope pos) 1 it acc env) Da s:=by
 refine codeAny_of_tree ?_
 show wpAny _ _ ((compStart (.ListComp elt [⟨t1,iter,ifs,0⟩,⟨t2,iter2,ifs2,0⟩] scope pos) 1 it acc env).onRaise (λx=>do noteFrame x env;standAt theWindowsPlace)) _ _ s
 refine wpAny_notedAt ?_
 delta compStart
 show wpAny _ _ (ask >>= _) _ _ s
 refine wpAny_bind (wpAny_askSetting (wpAny_ite ?_))
 split
 .first
   | exact wpAny_bind (wpAny_pure (wpAny_pure (GW rfl h0)))
   | exact wpAny_pure (GW rfl h0)
 .first
   | exact wpAny_bind (wpAny_rule (wpAny_bind (wpAny_standAt (wpAny_bind (wpAny_mono h (λit' s' h'=>wpAny_pure (GW rfl h')) λzz zz x=>x)))))
   | (refine wpAny_bind (wpAny_rule ?_);show wpAny _ _ (standAt iter2.pos >>= _) _ _ s;exact wpAny_bind (wpAny_standAt (wpAny_bind (wpAny_mono h (λit' s' h'=>wpAny_pure (GW rfl h')) λzz zz x=>x))))
theorem gr{elt iter iter2:Expr}{t1 t2:Expr}{ifs ifs2:List Expr}{scope:Scope}{pos:Pos}{it acc:Value}{env:Env}{Da:Result->Shared->Prop}
  (h0:codeAny Z.M A (.compLoop (.SetComp elt [⟨t1,iter,ifs,0⟩,⟨t2,iter2,ifs2,0⟩] scope pos) 1 it acc env) Da s)
  (h:wpAny Z.M A (pyIter it) (λit' s'=>codeAny Z.M A (.compLoop (.SetComp elt [⟨t1,iter,ifs,0⟩,⟨t2,iter2,ifs2,0⟩] scope pos) 1 it' acc env) Da s')
   (notedBy Z.M A env λx s'=>Da (.error x) s') s) :
  codeAny Z.M A (.compStart (.SetComp elt [⟨t1,iter,ifs,0⟩,⟨t2,iter2,ifs2,0⟩] scope pos) 1 it acc env) Da s:=by
 refine codeAny_of_tree ?_
 show wpAny _ _ ((compStart (.SetComp elt [⟨t1,iter,ifs,0⟩,⟨t2,iter2,ifs2,0⟩] scope pos) 1 it acc env).onRaise (λx=>do noteFrame x env;standAt theWindowsPlace)) _ _ s
 refine wpAny_notedAt ?_
 delta compStart
 show wpAny _ _ (ask >>= _) _ _ s
 refine wpAny_bind (wpAny_askSetting (wpAny_ite ?_))
 split
 .first
   | exact wpAny_bind (wpAny_pure (wpAny_pure (GW rfl h0)))
   | exact wpAny_pure (GW rfl h0)
 .first
   | exact wpAny_bind (wpAny_rule (wpAny_bind (wpAny_standAt (wpAny_bind (wpAny_mono h (λit' s' h'=>wpAny_pure (GW rfl h')) λzz zz x=>x)))))
   | (refine wpAny_bind (wpAny_rule ?_);show wpAny _ _ (standAt iter2.pos >>= _) _ _ s;exact wpAny_bind (wpAny_standAt (wpAny_bind (wpAny_mono h (λit' s' h'=>wpAny_pure (GW rfl h')) λzz zz x=>x))))
theorem gD{elt iter:Expr}{t1:Expr}{ifs:List Expr}{gs:List Comprehension}{scope:Scope}{pos:Pos}{it acc:Value}{env:Env}{Da:Result->Shared->Prop}
  (h0:codeAny Z.M A (.compLoop (.SetComp elt (⟨t1,iter,ifs,0⟩::gs) scope pos) 0 it acc env) Da s)
  (h:wpAny Z.M A (pyIter it) (λit' s'=>codeAny Z.M A (.compLoop (.SetComp elt (⟨t1,iter,ifs,0⟩::gs) scope pos) 0 it' acc env) Da s')
   (notedBy Z.M A env λx s'=>Da (.error x) s') s) :
  codeAny Z.M A (.compStart (.SetComp elt (⟨t1,iter,ifs,0⟩::gs) scope pos) 0 it acc env) Da s:=by
 refine codeAny_of_tree ?_
 show wpAny _ _ ((compStart (.SetComp elt (⟨t1,iter,ifs,0⟩::gs) scope pos) 0 it acc env).onRaise (λx=>do noteFrame x env;standAt theWindowsPlace)) _ _ s
 refine wpAny_notedAt ?_
 delta compStart
 show wpAny _ _ (ask >>= _) _ _ s
 refine wpAny_bind (wpAny_askSetting (wpAny_ite ?_))
 split
 .first
   | exact wpAny_bind (wpAny_pure (wpAny_pure (GW rfl h0)))
   | exact wpAny_pure (GW rfl h0)
 .first
   | exact wpAny_bind (wpAny_rule (wpAny_bind (wpAny_standAt (wpAny_bind (wpAny_mono h (λit' s' h'=>wpAny_pure (GW rfl h')) λzz zz x=>x)))))
   | (refine wpAny_bind (wpAny_rule ?_);show wpAny _ _ (standAt iter.pos >>= _) _ _ s;exact wpAny_bind (wpAny_standAt (wpAny_bind (wpAny_mono h (λit' s' h'=>wpAny_pure (GW rfl h')) λzz zz x=>x))))
noncomputable def g5(loop:Code)(elt:Expr)(add:Value->Sem Unit)(env:Env):Sem Ht:=(do let v <-eval elt env;add v) >>= λzz=>again loop
noncomputable def zJ(acc v:Value):Sem Unit:=do let _ <-call (.builtin "list.append") [acc,v]
noncomputable def addT(elt:Expr)(acc v:Value):Sem Unit:=do standAt elt.pos;let _ <-call (.builtin "set.add") [acc,v]
noncomputable def innerCode(e:Expr)(iter2:Expr)(it acc:Value)(env:Env):Sem Ht:=do
 let x <-eval iter2 env
 standAt iter2.pos
 let x <-foldedSetIterable iter2 env x
 let _ <-runOwn (.compStart e 1 (<-holding [x] (pyIter x)) acc env) env
 again (.compLoop e 0 it acc env)
structure CKind(mk:Expr->List Comprehension->Scope->Pos->Expr)(add:Expr->Value->Value->Sem Unit):Prop where
 cl:∀elt gs scope pos,clausesOf (mk elt gs scope pos)=gs
 q:∀elt gs scope pos k it acc env,(Code.compLoop (mk elt gs scope pos) k it acc env).quiet=true/\(Code.compLoop (mk elt gs scope pos) k it acc env).isFrame=false
 un:∀(A:Around) elt gs scope pos k it acc env,A.under (.compLoop (mk elt gs scope pos) k it acc env)=A
 one:∀(elt t1 iter:Expr) (ifs:List Expr) (scope:Scope) (pos:Pos) (it acc:Value) (env:Env),
  compTurn (mk elt [⟨t1,iter,ifs,0⟩] scope pos) 0 it acc env=turnCode (mk elt [⟨t1,iter,ifs,0⟩] scope pos) 0 iter.pos t1 it acc env ifs (g5 (.compLoop (mk elt [⟨t1,iter,ifs,0⟩] scope pos) 0 it acc env) elt (add elt acc) env)
 two0:∀(elt t1 iter t2 iter2:Expr) (ifs ifs2:List Expr) (scope:Scope) (pos:Pos) (it acc:Value) (env:Env),
  compTurn (mk elt [⟨t1,iter,ifs,0⟩,⟨t2,iter2,ifs2,0⟩] scope pos) 0 it acc env=turnCode (mk elt [⟨t1,iter,ifs,0⟩,⟨t2,iter2,ifs2,0⟩] scope pos) 0 iter.pos t1 it acc env ifs (innerCode (mk elt [⟨t1,iter,ifs,0⟩,⟨t2,iter2,ifs2,0⟩] scope pos) iter2 it acc env)
 two1:∀(elt t1 iter t2 iter2:Expr) (ifs ifs2:List Expr) (scope:Scope) (pos:Pos) (it acc:Value) (env:Env),
  compTurn (mk elt [⟨t1,iter,ifs,0⟩,⟨t2,iter2,ifs2,0⟩] scope pos) 1 it acc env=turnCode (mk elt [⟨t1,iter,ifs,0⟩,⟨t2,iter2,ifs2,0⟩] scope pos) 1 iter2.pos t2 it acc env ifs2 (g5 (.compLoop (mk elt [⟨t1,iter,ifs,0⟩,⟨t2,iter2,ifs2,0⟩] scope pos) 1 it acc env) elt (add elt acc) env)
theorem cz:CKind .ListComp (λθ=>zJ):=⟨λθ θ θ θ=>rfl,λθ θ θ θ θ θ θ θ=>⟨rfl,rfl⟩,λθ θ θ θ θ θ θ θ θ=>rfl,λθ θ θ θ θ θ θ θ θ=>rfl,λθ θ θ θ θ θ θ θ θ θ θ θ=>rfl,λθ θ θ θ θ θ θ θ θ θ θ θ=>rfl⟩
theorem wZ:CKind .SetComp addT:=⟨λθ θ θ θ=>rfl,λθ θ θ θ θ θ θ θ=>⟨rfl,rfl⟩,λθ θ θ θ θ θ θ θ θ=>rfl,λθ θ θ θ θ θ θ θ θ=>rfl,λθ θ θ θ θ θ θ θ θ θ θ θ=>rfl,λθ θ θ θ θ θ θ θ θ θ θ θ=>rfl⟩
def sz(Z:Cf)(A:Around)(P:Pd)(D:Addr)(add:Value->Sem Unit)(Acc:Heap->Nat->List RV->Prop)(rs:List RV):Prop :=
 ∀(v:Value) (z:RV) (qs:List RV) (s:Shared) (E:Value->Shared->Prop) (Q:Unit->Shared->Prop),Acc s.heap s.toks qs->R Z s.heap s.toks (P z.f z.c) v z.d->(∃ts,rs=(qs++[z])++ts) ->
  (∀h' tk,s.toks<=tk->Heap.SameBut D s.heap h'->Acc h' tk (qs++[z])->Q () {s with heap:=h',toks:=tk})->wpAny Z.M A (add v) Q E s
theorem kN{loop:Code}{elt:Expr}{cenv:Env}{D:Addr}{add:Value->Sem Unit}{Acc:Heap->Nat->List RV->Prop}{rs:List RV}{Im:(Str->Option Value)->Prop}{qs r:List RV}{m:Str->Option Value}(hA:rH P D Acc)(hadd:sz Z A P D add Acc rs)(hDC:D≠cenv.locals)(hn:s.heap.Ns cenv.locals m)(hIm:Im m)(hacc:Acc s.heap s.toks qs)(hpre:∃ts,rs=(qs++r)++ts)
  (h:wpAny Z.M A (eval elt cenv) (λv Dq=>Keeps s Dq/\∃z,r=[z]/\R Z Dq.heap Dq.toks (P z.f z.c) v z.d) E s) :
  wpAny Z.M A (g5 loop elt add cenv) (λfin C7=>fin=.again loop/\Emit Acc D cenv.locals Im s (qs++r) C7) E s:=by
 refine wpAny_bind (wpAny_bind (wpAny_mono h (λu Ej DH=>?_) λzz zz e=>e))
 obtain⟨⟨h8,t8,d8,rfl,k8,ht8⟩,z,rfl,rz⟩:=DH
 exact hadd u z qs _ _ _ (hA hacc ht8 (λo e=>k8 _ o e) λf c a o p zz e=>k8 a o e) rz hpre λEk tk El Do Em=>wpAny_pure ⟨rfl,.mk Em ((hn.keeps k8).sameBut Do (Ne.symm hDC)) hIm (λb o h1 h2 e=>Do.extBut b o h1 (k8 b o e)) (EK ht8 El)⟩
end
theorem cM{e:Expr}(h:aM e=false)(env:Env)(x:Value):foldedSetIterable e env x=pure x:=by
 cases e<;>first | exact Eq.refl (pure x) | cases h
theorem aP{h h':Heap}(hk:∀b o,h.get? b=some o->h'.get? b=some o){a:Addr}(e:h'.get? a=none):h.get? a=none:=by
 cases q:h.get? a with
 | none=>rfl
 | some o=>rw[hk a o q]at e;cases e
theorem ne_of_get{h:Heap}{a b:Addr}{o:Obj}(e:h.get? a=none)(e':h.get? b=some o):b≠a:=λq=>by rw[q,e]at e';cases e'
theorem ns_get{h:Heap}{C:Addr}{m:Str->Option Value}(n:h.Ns C m):∃o,h.get? C=some o:=n.elim λo q=>q.elim λzz q=>q.elim λzz q=>⟨o,q.1⟩
abbrev PX(P:Pd)(D C:Addr):Pd:=λf c a=>P f c a/\a≠D/\a≠C
structure CFrame(obj:Obj)(P:Pd)(CZ C2:Shared)(I D C:Addr)(fp:List Addr)(C4:Heap):Prop where
 hDC:D≠C
 hDf:D∉fp
 hCf:C∉fp
 nD:C2.heap.get? D=none
 nC:C2.heap.get? C=none
 old:∀b o,C2.heap.get? b=some o->C4.get? b=some o
 hacc:C4.get? D=some obj
 hns:∃m,C4.Ns C m
 k12:Keeps CZ C2
 hI:CZ.heap.get? I=none
 pd:P.Ok CZ.heap
section
variable{obj:Obj}{P:Pd}{CZ C2:Shared}{I D C:Addr}{fp:List Addr}{C4 C9:Heap}
theorem CFrame.nD1(F:CFrame obj P CZ C2 I D C fp C4):CZ.heap.get? D=none:=aP (kheap F.k12) F.nD
theorem CFrame.nC1(F:CFrame obj P CZ C2 I D C fp C4):CZ.heap.get? C=none:=aP (kheap F.k12) F.nC
theorem CFrame.up2(F:CFrame obj P CZ C2 I D C fp C4)(hk:rg C I D C4 C9){b:Addr}{o:Obj}(hb:b≠I)(e:C2.heap.get? b=some o):C9.get? b=some o:=hk b o (ne_of_get F.nC e) hb (ne_of_get F.nD e) (F.old b o e)
theorem CFrame.up(F:CFrame obj P CZ C2 I D C fp C4)(hk:rg C I D C4 C9)(b:Addr)(o:Obj)(e:CZ.heap.get? b=some o):C9.get? b=some o:=F.up2 hk (ne_of_get F.hI e) (kheap F.k12 b o e)
theorem CFrame.pp(F:CFrame obj P CZ C2 I D C fp C4)(f c:Bool)(a:Addr)(o:Obj)(p:P f c a)(e:CZ.heap.get? a=some o):PX P D C f c a:=⟨p,ne_of_get F.nD1 e,ne_of_get F.nC1 e⟩
theorem CFrame.ok(F:CFrame obj P CZ C2 I D C fp C4)(hk:∀b o,CZ.heap.get? b=some o->C9.get? b=some o){m:Str->Option Value}(hD:∃o,C9.get? D=some o)(hC:C9.Ns C m):(PX P D C).Ok C9 :=
 ⟨λf c f' c' a h1 h2 h3=>⟨F.pd.mono f c f' c' a h1 h2 h3.1,h3.2⟩,λf c a e=>⟨F.pd.fresh f c a (aP hk e),hD.elim λn q=>(ne_of_get e q).symm,(ns_get hC).elim λo q=>(ne_of_get e q).symm⟩⟩
end
structure LoopX(Z:Cf)(A:Around)(obj:Obj)(P:Pd)(q:RV)(ds:List PV)(CZ C2:Shared)(I D C:Addr)(fp:List Addr)(Pi:Nat->Value->Prop)(St:Nat->Heap->Prop)(C4:Heap):Prop where
 F:CFrame obj P CZ C2 I D C fp C4
 W:Walks Z.prog Z.w A I fp [I] ds.length Pi St
 hst:St 0 C4
 hId:∀i h',St i h'->∀o,h'.get? I=some o->¬isData o
 hPi:∀i v,Pi i v->∃d,ds[i]?= some d/\R Z CZ.heap CZ.toks (P q.f q.c) v d
structure CompEnd(P:Pd)(s:Shared)(AccD:Addr->Addr->Heap->Nat->List RV->Prop)(rs:List RV)(D C:Addr)(s':Shared):Prop where
 k:Keeps s s'
 nD:s.heap.get? D=none
 nC:s.heap.get? C=none
 hDC:D≠C
 ns:∃m,s'.heap.Ns C m
 acc:AccD D C s'.heap s'.toks rs
 pD:∀f c,P f c D
def dX(Z:Cf)(A:Around)(env:Env)(P:Pd)(s:Shared)(E:Value->Shared->Prop)(e it:Expr)(scope:Scope)(newAcc:Sem Value)(AccD:Addr->Addr->Heap->Nat->List RV->Prop)(rs:List RV):Prop :=
 ∀(use:Option (Value->Sem Unit)) (Q:Value->Shared->Prop) (cpos:Pos),(∀D C s',CompEnd P s AccD rs D C s'->compPost Z.M A E use Q (.ref D) C (.ok .next) s') ->
  wpAny Z.M A (comprehension e scope env cpos newAcc false (eval it env) use) Q E s
structure CMake(Z:Cf)(mk:Expr->List Comprehension->Scope->Pos->Expr)(newAcc:Sem Value)(obj:Obj):Prop where
 new:∀(A:Around) (E:Value->Shared->Prop) (K:Value->Shared->Prop) (s:Shared),K (.ref s.heap.objs.size) {s with heap:=s.heap.push obj}->wpAny Z.M A newAcc K E s
 live:obj.isFreed=false
 start:∀{A:Around} {elt t1 iter:Expr} {ifs:List Expr} {gs:List Comprehension} {scope:Scope} {pos:Pos} {it acc:Value} {env:Env} {Da:Result->Shared->Prop} {s:Shared},
  codeAny Z.M A (.compLoop (mk elt (⟨t1,iter,ifs,0⟩::gs) scope pos) 0 it acc env) Da s ->
  wpAny Z.M A (pyIter it) (λit' s'=>codeAny Z.M A (.compLoop (mk elt (⟨t1,iter,ifs,0⟩::gs) scope pos) 0 it' acc env) Da s') (notedBy Z.M A env λx s'=>Da (.error x) s') s ->
  codeAny Z.M A (.compStart (mk elt (⟨t1,iter,ifs,0⟩::gs) scope pos) 0 it acc env) Da s
 start1:∀{A:Around} {elt t1 iter t2 iter2:Expr} {ifs ifs2:List Expr} {scope:Scope} {pos:Pos} {it acc:Value} {env:Env} {Da:Result->Shared->Prop} {s:Shared},
  codeAny Z.M A (.compLoop (mk elt [⟨t1,iter,ifs,0⟩,⟨t2,iter2,ifs2,0⟩] scope pos) 1 it acc env) Da s ->
  wpAny Z.M A (pyIter it) (λit' s'=>codeAny Z.M A (.compLoop (mk elt [⟨t1,iter,ifs,0⟩,⟨t2,iter2,ifs2,0⟩] scope pos) 1 it' acc env) Da s') (notedBy Z.M A env λx s'=>Da (.error x) s') s ->
  codeAny Z.M A (.compStart (mk elt [⟨t1,iter,ifs,0⟩,⟨t2,iter2,ifs2,0⟩] scope pos) 1 it acc env) Da s
structure Gather(Z:Cf)(A:Around)(P:Pd)(obj:Obj)(add:Value->Value->Sem Unit)(AccD:Addr->Addr->Heap->Nat->List RV->Prop)(rs:List RV):Prop where
 ok:∀D C,rH (PX P D C) D (AccD D C)
 inn:∀D C h N qs,AccD D C h N qs->∃o,h.get? D=some o
 zero:∀D C h N,h.get? D=some obj->AccD D C h N []
 add:∀D C,sz Z A (PX P D C) D (add (.ref D)) (AccD D C) rs
section
variable{Z:Cf}{lvl:Nat}{A:Around}{env:Env}{ce:CE}{P:Pd}{σ:Sig}{s:Shared}{E:Value->Shared->Prop}
variable{mk:Expr->List Comprehension->Scope->Pos->Expr}{add:Expr->Value->Value->Sem Unit}{newAcc:Sem Value}{obj:Obj}{AccD:Addr->Addr->Heap->Nat->List RV->Prop}
theorem jI{rs:List RV}{r:RV}(h:newlR rs=some r):r.d=.list (rs.map (·.d))/\(rs.map (·.d)).length<=az:=⟨(iQ h).1,(iQ h).2.1⟩
theorem RL.newlR{h:Heap}{N:Nat}{P:Pd}{vs:List Value}{rs:List RV}{r:RV}(hP:∀f c f' c' a,(f'=true->f=true)->(c'=true->c=true)->P f c a->P f' c' a)(x:RL Z h N P vs rs)(hr:newlR rs=some r):RS Z h N (P r.f r.c) vs (rs.map (·.d)) :=
 RS.newl hr (x.toRS hP)
theorem tR{D C:Addr}{h':Heap}{ys:Array Value}{rs:List RV}{r:RV}(hP:∀f c f' c' a,(f'=true->f=true)->(c'=true->c=true)->P f c a->P f' c' a)(hD:∀f c,P f c D)(hDC:D≠C)(hpl:h'.PlainList D ys)(hRL:RL Z h' N' (PX P D C) ys.toList rs)
  (hr:newlR rs=some r):R Z h' N' (λa=>P r.f r.c a/\a≠C) (.ref D) r.d:=by
 obtain⟨hd,hz⟩:=jI hr
 rw[hd]
 obtain⟨n,e⟩:=hpl
 exact .list ⟨hD _ _,hDC⟩ (vs:=ys.toList) (n:=n) e hz ((RL.newlR (λf c f' c' a h1 h2 h3=>⟨hP f c f' c' a h1 h2 h3.1,h3.2⟩) hRL hr).mono λa h=>⟨h.1,h.2.2⟩)
theorem kC(M:CMake Z mk newAcc obj)(ck:CKind mk add){elt iter:Expr}{xs:List Str}{tg:Expr}{ifs:List Expr}{gs:List Comprehension}{scope:Scope}{pos:Pos}{q:RV}{ds:List PV}{rs:List RV}(X:Cx Z lvl A env ce P σ s)(K:CompOk ce scope xs)(hns:aM iter=false)
  (hit:wpAny Z.M A (eval iter env) (Pst Z P s q) E s) (hds:aJ q.d=some ds)
  (loop:∀CZ C2 I D C fp Pi St C4 tk Da,Keeps s CZ->CZ.toks<=tk->LoopX Z A obj P q ds CZ C2 I D C fp Pi St C4 ->
   (∀h' tk' dr m',h'.Ns C m'->AccD D C h' tk' rs->rg C I D C4 h'->tk<=tk'->Da (.ok .next) {C2 with heap:=h',toks:=tk',drawn:=dr}) ->
   codeAny Z.M A (.compLoop (mk elt (⟨tg,iter,ifs,0⟩::gs) scope pos) 0 (.ref I) (.ref D) (compEnvC scope (closeOver env scope.names []) C env)) Da {C2 with heap:=C4,toks:=tk}) :
  dX Z A env P s E (mk elt (⟨tg,iter,ifs,0⟩::gs) scope pos) iter scope newAcc AccD rs:=by
 intro use Q cpos hpost
 refine wpAny_comprehension_free (use:=use) (ck.cl ..) (cM hns env) (eo λy hy e=>X.cells y.1 (by rw[<-X.ki];exact K.free y hy e)) K.fn K.names (wpAny_mono hit (λxv CZ C4=>?_) λzz zz e=>e)
 obtain⟨k1,r1⟩:=C4
 refine fL r1 hds λfp Pi St C2 k2 W hst hfp hfq hI hId hPi hsz zz=>?_
 have pd1:=X.pd.keeps (kheap k1)
 refine M.new _ _ _ _ (wpAny_newFunctionEnv K.nocell (λzz h=>uS h) (λC4 DN DI=>?_) K.fn)
 dsimp only at DN DI ⊢
 generalize hH2:C2.heap.push obj=H2 at DN DI ⊢
 have hC:H2.objs.size=C2.heap.objs.size+1:=by rw[<-hH2,Heap.size_push]
 have nC:C2.heap.get? H2.objs.size=none:=aP (λb o e=>(hH2▸Heap.get?_push_of_some _ e:H2.get? b=some o)) (size_none _)
 have hDC:C2.heap.objs.size≠H2.objs.size:=by rw[hC];exact FG (E7 _)
 have old:∀b o,C2.heap.get? b=some o->C4.get? b=some o:=λb o e=>DI.extBut b o (ne_of_get nC e) (Heap.get?_push_of_some _ (hH2▸Heap.get?_push_of_some _ e))
 have Dd:St 0 C4:=(W A X.hh).frame _ _ _ hst λb zz o e=>old b o e
 have F:CFrame obj P CZ C2 CZ.heap.objs.size C2.heap.objs.size H2.objs.size fp C4 :=
  ⟨hDC,λhm=>Gr _ (hfp _ hm),λhm=>Gr _ (GP (hC▸hfp _ hm:C2.heap.objs.size+1<C2.heap.objs.size)),size_none _,nC,old,DI.extBut _ _ hDC (Heap.get?_push_of_some _ (hH2▸Heap.get?_push_size _ M.live)),⟨_,DN⟩,k2,size_none _,pd1⟩
 have main:=loop CZ C2 _ _ _ fp Pi St C4 (C2.toks+([]:List (Str×Value)).length) (compPost Z.M A E use Q (.ref C2.heap.objs.size) H2.objs.size) k1 (ktl k2) ⟨F,W A X.hh,Dd,hId,hPi⟩ λh' tk dr m' hn hacc hk ht=>by
  refine hpost _ _ _ ⟨?_,aP (kheap k1) F.nD1,aP (kheap k1) F.nC1,hDC,⟨m',hn⟩,hacc,λf c=>pd1.fresh f c _ F.nD1⟩
  have ht2:=EK (ktl k1) (EK (ktl k2) ht)
  obtain⟨H1,t1,d1,rfl,kk1,zz⟩:=k1
  obtain⟨H2,t2,d2,rfl,zz,zy⟩:=k2
  exact⟨h',tk,dr,rfl,λb o e=>F.up hk b o (kk1 b o e),ht2⟩
 exact M.start main ((W A X.hh).self 0 _ _ _ Dd main)
def il(Z:Cf)(lvl:Nat)(A:Around)(cenv:Env)(ce':CE)(ifs:List Expr)(elt:Expr)(τ:PV->Sig)(go:PV->Option (List RV)):Prop :=
 ∀(C5:Shared) (P':Pd) (d:PV) (r:List RV) (E':Value->Shared->Prop),Cx Z lvl A cenv ce' P' (τ d) C5->go d=some r ->
  wpAny Z.M A (tests ifs cenv) (λok C7=>Keeps C5 C7/\if ok=true then wpAny Z.M A (eval elt cenv) (λv Dq=>Keeps C7 Dq/\∃z,r=[z]/\R Z Dq.heap Dq.toks (P' z.f z.c) v z.d) E' C7 else r=[]) E' C5
theorem iP{cenv:Env}{Q:Bool->Shared->Prop}(h:Q true s):wpAny Z.M A (tests [] cenv) Q E s:=wpAny_pure h
theorem iW(M:CMake Z mk newAcc obj)(ck:CKind mk add){elt iter:Expr}{x:Str}{px:Pos}{ifs:List Expr}{scope:Scope}{pos:Pos}{q:RV}{ds:List PV}{go:PV->Option (List RV)}{rs:List RV}(X:Cx Z lvl A env ce P σ s)(K:CompOk ce scope [x])(hns:aM iter=false)
  (hit:wpAny Z.M A (eval iter env) (Pst Z P s q) E s) (hds:aJ q.d=some ds) (hgo:aU go ds=some rs) (G:Gather Z A P obj (add elt) AccD rs)
  (turn:∀C,il Z lvl A (compEnvC scope (closeOver env scope.names []) C env) (ce.inner scope [x]) ifs elt (λd=>σ++[some (part q d)]) go) :
  dX Z A env P s E (mk elt [⟨.Name x px,iter,ifs,0⟩] scope pos) iter scope newAcc AccD rs:=by
 refine kC M ck X K hns hit hds λCZ C2 I D C fp Pi St C4 tk Da k1 htk L hR=>?_
 have F:=L.F
 obtain⟨m,hn⟩:=F.hns
 refine eZ (P:=PX P D C) (Acc:=AccD D C) (Im:=λzz=>True) hgo (ck.q ..).1 (ck.q ..).2 (ck.one ..) (ck.un ..) ⟨lookup_relabel_local (K.tgt x (EM.mpr rfl)),by simp[compEnvC,relabel,K.fn],F.hDC,F.hDf,F.hCf,L.hId,λf c h=>h.2.1 rfl,λf c h=>h.2.2 rfl⟩ L.W (G.ok D C) L.hst (G.zero D C _ _ F.hacc) hn trivial (λzz zz zz=>trivial) ?_ λh' tk dr m' hn zz hacc hk ht=>hR h' tk dr m' hn hacc hk ht
 intro i v d r C5 Dg qs E' hv hd hr hn hm zz hk htk3 hacc hpre
 have tk3:CZ.toks<=C5.toks:=EK htk htk3
 obtain⟨d',hd',rv⟩:=L.hPi i v hv
 cases hd'.symm.trans hd
 have X3:Cx Z lvl A (compEnvC scope (closeOver env scope.names []) C env) (ce.inner scope [x]) (PX P D C) (σ++[some (part q d)]) C5:=by
  refine(X.keeps k1).innerN (rs:=[some (part q d)]) K rfl (F.up hk) tk3 hn (F.ok (F.up hk) (G.inn D C _ _ _ hacc) hn) F.pp λj x' r' hj hr'=>?_
  cases j with
  | zero =>
   cases hj
   cases hr'
   exact⟨v,hm,(cn (P:=P) (r:=q) rv).frame (λa o pa zz e=>⟨F.up hk a o e,F.pp _ _ a o pa e⟩) tk3⟩
  | succ j=>cases hr'
 refine wpAny_mono (turn C C5 (PX P D C) d r E' X3 hr) (λok C7 Dh=>⟨Dh.1,?_⟩) λzz zz e=>e
 obtain⟨k4,Dh⟩:=Dh
 cases ok with
 | false=>exact Dh
 | true =>
  have ha:=G.ok D C
  exact kN ha (G.add D C) F.hDC (hn.keeps (kheap k4)) trivial (ha hacc (ktl k4) (λo e=>kheap k4 _ o e) λf c a o p zz e=>kheap k4 a o e) hpre Dh
inductive InnerOk(Z:Cf)(lvl:Nat)(A:Around)(cenv:Env)(ce':CE)(ifs2:List Expr)(elt iter2:Expr)(τ:Option RV->Sig)(P':Pd)(E':Value->Shared->Prop)(C7:Shared)(r:List RV):Prop
 | mk (q2:RV) (es:List PV) (go2:PV->Option (List RV)):wpAny Z.M A (eval iter2 cenv) (Pst Z P' C7 q2) E' C7->aJ q2.d=some es->aU go2 es=some r ->
   il Z lvl A cenv ce' ifs2 elt (λe=>τ (some (part q2 e))) go2->InnerOk Z lvl A cenv ce' ifs2 elt iter2 τ P' E' C7 r
def yD(Z:Cf)(lvl:Nat)(A:Around)(cenv:Env)(ce':CE)(ifs2:List Expr)(elt iter2:Expr)(τ:PV->Option RV->Sig)(go:PV->Option (List RV)):Prop :=
 ∀(C5:Shared) (P':Pd) (d:PV) (r:List RV) (E':Value->Shared->Prop),Cx Z lvl A cenv ce' P' (τ d EL) C5->go d=some r->InnerOk Z lvl A cenv ce' ifs2 elt iter2 (τ d) P' E' C5 r
theorem vZ{x y x':Str}{a b:Option RV}{r:RV}{j:Nat}{T:Str->RV->Prop}(h0:∀r,a=some r->T x r)(h1:∀r,b=some r->T y r)(hj:[x,y][j]?= some x')(hr:[a,b][j]?= some (some r)):T x' r:=by
 cases j with
 | zero=>cases hj;exact h0 r (ET hr)
 | succ j =>
  cases j with
  | zero=>cases hj;exact h1 r (ET hr)
  | succ j=>cases hj
theorem wL{D:Addr}{ad:Value->Sem Unit}{Acc:Heap->Nat->List RV->Prop}{rs qs r:List RV}(h:sz Z A P D ad Acc rs)(hp:∃ts,rs=(qs++r)++ts):sz Z A P D ad (λh N l=>Acc h N (qs++l)) r:=by
 intro v z l s E Q ha rv hpre hQ
 obtain⟨t0,e0⟩:=hp
 obtain⟨t1,e1⟩:=hpre
 refine h v z (qs++l) s E Q ha rv ⟨t1++t0,?_⟩ λh' tk ht hs ha'=>hQ h' tk ht hs (by show Acc h' tk (qs++(l++[z]));rw[<-Fj];exact ha')
 rw[e0,e1]
 simp only[Fj]
set_option maxHeartbeats 2000000 in
theorem kw(M:CMake Z mk newAcc obj)(ck:CKind mk add){elt iter iter2:Expr}{x y:Str}{px py:Pos}{ifs2:List Expr}{scope:Scope}{pos:Pos}{q:RV}{ds:List PV}{go:PV->Option (List RV)}{rs:List RV}(X:Cx Z lvl A env ce P σ s)(K:CompOk ce scope [x,y])(hxy:x≠y)(hns:aM iter=false)(hns2:aM iter2=false)
  (hit:wpAny Z.M A (eval iter env) (Pst Z P s q) E s) (hds:aJ q.d=some ds) (hgo:aU go ds=some rs) (G:Gather Z A P obj (add elt) AccD rs)
  (turn:∀C,yD Z lvl A (compEnvC scope (closeOver env scope.names []) C env) (ce.inner scope [x,y]) ifs2 elt iter2 (λd u=>σ++[some (part q d),u]) go) :
  dX Z A env P s E (mk elt [⟨.Name x px,iter,[],0⟩,⟨.Name y py,iter2,ifs2,0⟩] scope pos) iter scope newAcc AccD rs:=by
 refine kC M ck X K hns hit hds λCZ C2 I D C fp Pi St C4 tk Da k1 htk L hR=>?_
 have F:=L.F
 have X1:=X.keeps k1
 have ha:=G.ok D C
 have hp:((compEnvC scope (closeOver env scope.names []) C env).scope.kind==.class||((compEnvC scope (closeOver env scope.names []) C env).scope.kind==.module&&(compEnvC scope (closeOver env scope.names []) C env).locals != (compEnvC scope (closeOver env scope.names []) C env).globals))=false:=by simp[compEnvC,relabel,K.fn]
 obtain⟨m,hn⟩:=F.hns
 refine eZ (P:=PX P D C) (Acc:=AccD D C) (Im:=λzz=>True) hgo (ck.q ..).1 (ck.q ..).2 (ck.two0 ..) (ck.un ..) ⟨lookup_relabel_local (K.tgt x (EP ..)),hp,F.hDC,F.hDf,F.hCf,L.hId,λf c h=>h.2.1 rfl,λf c h=>h.2.2 rfl⟩ L.W ha L.hst (G.zero D C _ _ F.hacc) hn trivial (λzz zz zz=>trivial) ?_ λh' tk dr m' hn zz hacc hk ht=>hR h' tk dr m' hn hacc hk ht
 intro i v d r C5 Dg qs E' hv hd hr hn hm zz hk htk3 hacc hpre
 have tk3:CZ.toks<=C5.toks:=EK htk htk3
 obtain⟨d',hd',rv⟩:=L.hPi i v hv
 cases hd'.symm.trans hd
 have hk1:=F.up hk
 have rv1:R Z CZ.heap CZ.toks (PX P D C (part q d).f (part q d).c) v (part q d).d:=(cn (P:=P) (r:=q) rv).frame (λa o pa zz e=>⟨e,F.pp _ _ a o pa e⟩) (ER _)
 refine iP ⟨krefl C5,?_⟩
 cases turn C C5 (PX P D C) d r E' (X1.innerN K rfl hk1 tk3 hn (F.ok hk1 (G.inn D C _ _ _ hacc) hn) F.pp λj x' r'=>vZ (T:=λx' r'=>∃v,Dg x'=some v/\R Z C5.heap C5.toks (PX P D C r'.f r'.c) v r'.d) (λr' e=>by cases e;exact⟨v,hm,rv1.keeps hk1 tk3⟩) (λr' e=>by cases e)) hr with
 | mk q2 es go2 hev hes hgo2 hin =>
  refine wpAny_bind (wpAny_mono hev (λxv Dn Dl=>wpAny_bind (wpAny_standAt (wpAny_bind (wpAny_of_eq (cM hns2 _ xv) (wpAny_bind (wpAny_holding ?_)))))) λzz zz e=>e)
  obtain⟨k5,r5⟩:=Dl
  refine fL r5 hes λfp2 Pi2 St2 Dq k6 W2 hst2 hfp2 hfq2 zz hId2 hPi2 hsz2 zz=>?_
  have W2':=W2 A X.hh
  have k36:=ktrans k5 k6
  have hacc6:AccD D C Dq.heap Dq.toks (qs++[]):=by
   rw[Fb]
   exact ha hacc (ktl k36) (λo e=>kheap k36 _ o e) λf c a o p zz e=>kheap k36 a o e
  have out:∀b,(∃o,Dn.heap.get? b=some o)->(b=D\/b=C)->b∉fp2:=λb hb hDC hm=>by
   rcases hfq2 _ hm with e | e
   .obtain⟨o,ho⟩:=hb;exact ne_of_get (size_none _) ho e
   .exact hDC.elim e.2.1 e.2.2
  have hDf2:=out D ((G.inn D C _ _ _ hacc).imp λo e=>kheap k5 _ _ e) (.inl rfl)
  have hCf2:=out C ((ns_get hn).imp λo e=>kheap k5 _ _ e) (.inr rfl)
  have hin':codeAny Z.M A (.compLoop (mk elt [⟨.Name x px,iter,[],0⟩,⟨.Name y py,iter2,ifs2,0⟩] scope pos) 1 (.ref Dn.heap.objs.size) (.ref D) (compEnvC scope (closeOver env scope.names []) C env))
    (λr0 s'=>match r0 with
     | .ok f=>wpAny Z.M A (again (.compLoop (mk elt [⟨.Name x px,iter,[],0⟩,⟨.Name y py,iter2,ifs2,0⟩] scope pos) 0 (.ref I) (.ref D) (compEnvC scope (closeOver env scope.names []) C env)))
       (λfin En=>fin=.again (.compLoop (mk elt [⟨.Name x px,iter,[],0⟩,⟨.Name y py,iter2,ifs2,0⟩] scope pos) 0 (.ref I) (.ref D) (compEnvC scope (closeOver env scope.names []) C env))/\Emit (AccD D C) D C (λzz=>True) C5 (qs++r) En) E' s'
     | .error e0=>cameBackBy Z.M A (compEnvC scope (closeOver env scope.names []) C env) E' e0 s') Dq:=by
   refine eZ (P:=PX P D C) (Acc:=λh N l=>AccD D C h N (qs++l)) (Im:=λm=>m x=some v) hgo2 (ck.q ..).1 (ck.q ..).2 (ck.two1 ..) (ck.un ..) ⟨lookup_relabel_local (K.tgt y (EO _ (EP ..))),hp,F.hDC,hDf2,hCf2,hId2,λf c h=>h.2.1 rfl,λf c h=>h.2.2 rfl⟩ W2' (λθ θ θ θ θ h1 h2 h3 h4=>ha h1 h2 h3 h4) hst2 hacc6 (hn.keeps (kheap k36)) hm (λm v' hm'=>(if_neg hxy).trans hm') ?_ ?_
   .intro i2 v2 e r' DJ Ev l7 E'' hv2 he hr' hn7 hm7 hIm7 hk7 htk7 hacc7 hpre7
    obtain⟨e',he',rv2⟩:=hPi2 i2 v2 hv2
    cases he'.symm.trans he
    have hk57:∀b o,PX P D C q2.f q2.c b\/(b≠D/\b≠C)->Dn.heap.get? b=some o->DJ.heap.get? b=some o:=λb o hb e=>hk7 b o (hb.elim (·.2.2) (·.2)) (ne_of_get (size_none _) e) (hb.elim (·.2.1) (·.1)) (kheap k6 b o e)
    have hk17:∀b o,CZ.heap.get? b=some o->DJ.heap.get? b=some o:=λb o e=>hk57 b o (.inr ⟨ne_of_get F.nD1 e,ne_of_get F.nC1 e⟩) (kheap k5 b o (hk1 b o e))
    have tk7:CZ.toks<=DJ.toks:=EK tk3 (EK (ktl k36) htk7)
    have X7:Cx Z lvl A (compEnvC scope (closeOver env scope.names []) C env) (ce.inner scope [x,y]) (PX P D C) (σ++[some (part q d),some (part q2 e)]) DJ :=
     X1.innerN K rfl hk17 tk7 hn7 (F.ok hk17 (G.inn D C _ _ _ hacc7) hn7) F.pp λj x' r'=>vZ (T:=λx' r'=>∃v,Ev x'=some v/\R Z DJ.heap DJ.toks (PX P D C r'.f r'.c) v r'.d) (λr' e=>by cases e;exact⟨v,hIm7,rv1.keeps hk17 tk7⟩) λr' e=>by
      cases e
      exact⟨v2,hm7,cn (P:=PX P D C) (r:=q2) (rv2.frame (λa o pa zz e=>⟨hk57 a o (.inl pa) e,pa⟩) (EK (ktl k6) htk7))⟩
    refine wpAny_mono (hin DJ (PX P D C) e r' E'' X7 hr') (λok Ej DH=>⟨DH.1,?_⟩) λzz zz e=>e
    obtain⟨k8,DH⟩:=DH
    cases ok with
    | false=>exact DH
    | true=>exact kN (λθ θ θ θ θ h1 h2 h3 h4=>ha h1 h2 h3 h4) (wL (G.add D C) hpre) F.hDC (hn7.keeps (kheap k8)) hIm7 (ha hacc7 (ktl k8) (λo e=>kheap k8 _ o e) λf c a o p zz e=>kheap k8 a o e) hpre7 DH
   .intro h' tk dr m' hn' hIm' hacc' hk7 ht7
    have ht3:=EK (ktl k36) ht7
    obtain⟨h6,t6,d6,rfl,kk6,zz⟩:=k36
    exact wpAny_pure ⟨rfl,.mk hacc' hn' trivial (λb o h1 h2 e=>hk7 b o h2 (ne_of_get (size_none _) (kheap k5 b o e)) h1 (kk6 b o e)) ht3⟩
  exact wpAny_bind (wpAny_runOwn (M.start1 hin' (W2'.self 0 _ _ _ hst2 hin')))
def pn(Z:Cf)(P:Pd)(D C:Addr)(h:Heap)(N:Nat)(qs:List RV):Prop:=∃ys:Array Value,h.PlainList D ys/\RL Z h N (PX P D C) ys.toList qs
noncomputable def yn:Obj:={cls:=.type "list",dict:=none,data:=.seq ([]:List Value).toArray}
theorem gf:CMake Z .ListComp (newList []) yn:=⟨λA E K s h=>wpAny_newObj_type h,rfl,λh0 h=>codeAny_compStart_list h0 h,λh0 h=>gC h0 h⟩
theorem ef{rs:List RV}(hz:rs.length<=az):Gather Z A P yn zJ (pn Z P) rs where
 ok:=λD C h h' N N' qs ha hN hD hP=>by
  obtain⟨ys,h1,h2⟩:=ha
  exact⟨ys,h1.at hD,h2.frame (λf c a o p hd e=>⟨hP f c a o p hd e,p⟩) hN⟩
 inn:=λD C h N qs ha=>by
  obtain⟨ys,⟨n,h1⟩,h2⟩:=ha
  exact⟨_,h1⟩
 zero:=λD C h N e=>⟨#[],⟨_,e⟩,.nil⟩
 add:=λD C v z qs s E Q ha rv hpre hQ=>by
  obtain⟨ys,h1,h2⟩:=ha
  obtain⟨ts,e⟩:=hpre
  have hsz:ys.size<=sizeLine:=by
   rw[<-F1,h2.length]
   refine EK ?_ (EK hz lim_size)
   rw[e,Fj,EQ]
   exact Ff ..
  refine wpAny_bind (wpAny_list_append_plain (hsz:=hsz) h1 λEk DX Do=>wpAny_pure (hQ _ _ (ER _) Do ⟨ys.push v,DX,?_⟩))
  rw[Ib]
  exact RL.append (h2.off Do.extBut (λf c h=>h.2.1 rfl) (ER _)) (.cons (rv.off Do.extBut (λh=>h.2.1 rfl) (ER _)) .nil)
theorem lU{rs:List RV}{res:RV}{D C:Addr}{s':Shared}(hP:∀f c f' c' a,(f'=true->f=true)->(c'=true->c=true)->P f c a->P f' c' a)(h:CompEnd P s (pn Z P) rs D C s')(hr:newlR rs=some res):R Z s'.heap s'.toks (λa=>P res.f res.c a/\a≠C) (.ref D) res.d:=by
 obtain⟨ys,h1,h2⟩:=h.acc
 exact tR hP h.pD h.hDC h1 h2 hr
theorem nY{rs:List RV}{res:RV}{D C:Addr}{s':Shared}(hP:∀f c f' c' a,(f'=true->f=true)->(c'=true->c=true)->P f c a->P f' c' a)(hr:newlR rs=some res)(h:CompEnd P s (pn Z P) rs D C s'):compPost Z.M A E none (Pst Z P s res) (.ref D) C (.ok .next) s':=by
 obtain⟨m,hn⟩:=h.ns
 refine⟨m,hn,λh'' hs=>⟨?_,((lU hP h hr).off hs.extBut (λh=>h.2 rfl) (ER _)).mono λa h=>h.1⟩⟩
 obtain⟨H,t,dr,rfl,kk,ht⟩:=h.k
 exact⟨h'',t,dr,rfl,λb o e=>hs.extBut b o (ne_of_get h.nC e) (kk b o e),ht⟩
end
theorem aA{env:Env}{l:List Expr}(h:l.all (!aF ·)=true):starEach l env=l.map λe=>(false,eval e env):=by
 induction l with
 | nil=>rfl
 | cons e l ih =>
  obtain⟨h1,h2⟩:=and2 h
  have:starEach (e::l) env=(false,eval e env)::starEach l env:=by
   cases e<;>first | rfl | cases h1
  rw[this,ih h2];rfl
theorem aZ(pos:Pos)(env:Env)(l:List Expr):backTo pos (l.map λe=>(false,eval e env))=l.map λe=>(false,eval e env):=by
 delta backTo
 rw[Fe]
 rfl
theorem nv{op:CmpOp}{r:Expr}(h:aM r=false):behindInMarks op r=false:=by
 cases r<;>first | exact Eq.refl false | cases h
theorem gP{o:Expr}{name:Str}{env:Env}(h:m8 o=false):attributeBase o name env (eval o env)=eval o env:=by
 cases o<;>first | rfl | cases h
section
variable{Z:Cf}{A:Around}{E:Value->Shared->Prop}{s:Shared}{P:Pd}
theorem m9{x:Str}{t:Tok}{s':Shared}(k:Keeps s s')(ht:t≠0)(hN:t<s'.toks):Pst Z P s (at1 (.str x)) (.str x t) s':=aL k (.str x t ht hN) rfl
theorem av{b:Bool}{s':Shared}(k:Keeps s s'):Pst Z P s (at1 (.bool b)) (.bool b) s':=aL k (.bool b) rfl
theorem qJ{x:Str}{ks:List Str}{ds:List PV}{kvs:List (Str×Value)}{h:Heap}{N:Nat}{Q:Addr->Prop}(hk:kvs.map (·.1)=ks)(rs:RS Z h N Q (kvs.map (·.2)) ds):(valueAt kvs x).isSome=(aT ks ds x).isSome:=by
 subst hk
 have:=look_kvs rs x
 cases hd:aT (kvs.map (·.1)) ds x with
 | none=>rw[hd]at this;rw[show valueAt kvs x=none from this];rfl
 | some d=>rw[hd]at this;obtain⟨v,hv,zz⟩:=this;rw[hv];rfl
theorem g7{u a b:Nat}(h:a+b<=40)(hu:u+64<cLine):u+1+a+b<cLine:=by
 rw[Ga];exact ES (Fo h _) (ES (Fo (by decide:41<=64) u) hu)
theorem vL{ks:List Str}{ds:List PV}{p:Str×PV}(h:hitAt ks ds p=true):∃d,aT ks ds p.1=some d/\aeq p.2 d=some true:=by
 delta hitAt at h
 cases h1:aT ks ds p.1 with
 | none=>rw[h1]at h;cases h
 | some d =>
  rw[h1]at h
  cases h2:aeq p.2 d with
  | none=>rw[show(some d).bind (λd=>aeq p.2 d)=aeq p.2 d from rfl,h2]at h;cases h
  | some b=>rw[show(some d).bind (λd=>aeq p.2 d)=aeq p.2 d from rfl,h2]at h;exact⟨d,rfl,h2.trans (congrArg some h)⟩
theorem look_in{ks:List Str}{ds:List PV}{k:Str}{d:PV}:aT ks ds k=some d->d∈ds:=by
 induction ks generalizing ds with
 | nil=>intro h;cases h
 | cons x ks ih =>
  intro h
  cases ds with
  | nil=>cases h
  | cons y ds =>
   rw[look_cons]at h
   split at h
   .cases h;exact EP ..
   .exact EO _ (ih h)
theorem hits_all{A:Around}{Q1 Q2:Addr->Prop}{kb:List (Str×Value)}{ks':List Str}{ds':List PV}(hk:kb.map (·.1)=ks')(rb:RS Z s.heap s.toks Q2 (kb.map (·.2)) ds'){ka:List (Str×Value)}:∀{ds:List PV},RS Z s.heap s.toks Q1 (ka.map (·.2)) ds ->
  ((ka.map (·.1)).zip ds).all (hitAt ks' ds')=true->A.units+PV.depths ds+PV.depths ds'<cLine->PySem.W.KeqHits A s kb ka true:=by
 induction ka with
 | nil=>exact λr h hu=>.nil
 | cons kv ka ih =>
  intro ds r h hu
  cases r with
  | @cons zz zz d ds a r =>
   obtain⟨h1,h2⟩:=and2 h
   refine cps λGq hGq=>?_
   obtain⟨d',e1,e2⟩:=vL h1
   refine hGq ?_
   clear hGq
   have hl:=look_kvs rb kv.1
   rw[hk,e1]at hl
   obtain⟨y,hy,ry⟩:=hl
   obtain⟨k,v⟩:=kv
   have he:=qw d d' A s v y true a ry e2 (ES (E8 (Fo (GI _ _) _) (PV.depths_mem (look_in e1))) hu)
   exact PySem.W.KeqHits.hit hy he (ih r h2 (ES (F4 (Fo (Gz _ _) _) _) hu))
theorem qp{x y:PV}{a b:List Str×List PV}{Q1 Q2:Addr->Prop}{vx vy:Value}{Q:Value->Shared->Prop}(hx:R Z s.heap s.toks Q1 vx x)(hy:R Z s.heap s.toks Q2 vy y)(ha:dD x=some a)(hb:dD y=some b)(hm:pq a b=true)(hu:A.units+1+x.depth+y.depth<cLine)(hq:Q (.bool false) s):wpAny Z.M A (compareOp .NotEq vx vy) Q E s:=by
 rw[dD_eq ha]at hx hu
 rw[dD_eq hb]at hy hu
 obtain⟨h1,h2⟩:=and2 hm
 induction hx.d with
 | @dict l ka zz da qa ea zz r =>
  induction hy.d with
  | @dict l' kb zz db qb eb zz r' =>
   rw[<-ea]at h2
   have hlen:ka.length=kb.length:=by
    have:=of_decide_eq_true h1
    rw[<-ea,<-eb,EN,EN]at this
    exact this
   refine PySem.W.keq_ne (r:=true) qa qb da db (ES (EK (EK (Fv _) (Ff _ _)) (Ff _ _)) hu) (λzz=>hits_all eb r' r h2 (eO hu)) ?_
   rw[hlen]
   simpa using hq
theorem rV{x:PV}{ds:List PV}{k:Bool}{vx:Value}{vs:List Value}{Q1 Q2:Addr->Prop}(h:ky x ds=some k)(hx:R Z s.heap s.toks Q1 vx x)(rs:RS Z s.heap s.toks Q2 vs ds)
  (hu:A.units+1+PV.depths ds+x.depth<cLine) :
  (∀y,y∈vs.toArray->EqAt A.in1 s y vx ((aeq (sF Z s.heap s.toks y) x).getD false))/\vs.toArray.any (λy=>(aeq (sF Z s.heap s.toks y) x).getD false)=k:=by
 obtain⟨h1,h2⟩:=ux h
 refine⟨λy hy=>?_,?_⟩
 .obtain⟨d,hd,ry⟩:=rs.mem y (by simpa using hy)
  obtain⟨b,hb⟩:=h1 d hd
  rw[ot ry,hb]
  exact qw d x A.in1 s y vx b ry hx hb (ES (F4 (Fo (PV.depths_mem hd) _) _) hu)
 .rw[h2,List.any_toArray]
  exact rs.any λv d rv=>by rw[ot rv]
theorem kg{x:Str}(h:x.length=1):∃c,x=⟨#[c]⟩:=by
 obtain⟨⟨l⟩⟩:=x
 match l,h with
 | [c],θ=>exact⟨c,rfl⟩
theorem zd{x y:PV}{k:Bool}{vx vy:Value}{Q1 Q2:Addr->Prop}(h:ty x y=some k)(hx:R Z s.heap s.toks Q1 vx x)(hy:R Z s.heap s.toks Q2 vy y)(hu:A.units+64<cLine) :
  wpAny Z.M A (compareOp .In vx vy) (Pst Z P s (at1 (.bool k))) E s/\wpAny Z.M A (compareOp .NotIn vx vy) (Pst Z P s (at1 (.bool !k))) E s:=by
 cases y with
 | list ds =>
  obtain⟨hd,h1⟩:=ifo_of h
  induction hy.l with
  | list p e z rs =>
   obtain⟨h2,h3⟩:=rV h1 hx rs (A:=A) (g7 hd hu)
   exact⟨in_listAt _ (ak e) h2 (by rw[h3];exact av (krefl s)),notIn_listAt _ (ak e) h2 (by rw[h3];exact av (krefl s))⟩
 | tup ds =>
  obtain⟨hd,h1⟩:=ifo_of h
  induction hy.t with
  | tup p e z rs =>
   obtain⟨h2,h3⟩:=rV h1 hx rs (A:=A) (g7 hd hu)
   exact⟨in_tupleAt _ (ax e) h2 (by rw[h3];exact av (krefl s)),notIn_tupleAt _ (ax e) h2 (by rw[h3];exact av (krefl s))⟩
 | dict ks ds =>
  obtain⟨k',hk',rfl⟩:=aq h
  rw[dR hk']at hx
  induction hx.s with
  | str t =>
   induction hy.d with
   | dict p e q hk z rs =>
    rw[<-qJ hk rs]
    exact⟨wpAny_in_of (strKind_is Z.prog Z.w k' t) q e.mapOf (av (br s)),wpAny_notIn_of (strKind_is Z.prog Z.w k' t) q e.mapOf (av (br s))⟩
 | str y =>
  obtain⟨x',hx',h1⟩:=ac h
  obtain⟨hl,rfl⟩:=aV h1
  obtain⟨c,rfl⟩:=kg hl
  rw[dR hx']at hx
  have e:(#[c]:Array Nat).toList.all (λc=>y.cps.toList.contains c)=decide (c∈y.cps.toList):=by simp
  rw[e,<-Iq]
  induction hx.s with | str t=>induction hy.s with | str u=>exact⟨IN (av (krefl s)),PyProof.Rows.notIn_str (av (krefl s))⟩
 | _=>cases h
theorem zU{op:CmpOp}{x y:PV}{k:Bool}{vx vy:Value}{Q1 Q2:Addr->Prop}(h:bf op x y=some k)(hx:R Z s.heap s.toks Q1 vx x)(hy:R Z s.heap s.toks Q2 vy y)(hu:A.units+64<cLine) :
  wpAny Z.M A (compareOp op vx vy) (Pst Z P s (at1 (.bool k))) E s:=by
 have ii:∀{f:Int->Int->Bool},((dI x).bind λa=>(dI y).map λb=>f a b)=some k->(∀a t b u,vx=.int a t->vy=.int b u->k=f a b->wpAny Z.M A (compareOp op vx vy) (Pst Z P s (at1 (.bool k))) E s)->wpAny Z.M A (compareOp op vx vy) (Pst Z P s (at1 (.bool k))) E s:=by
  intro f h go
  obtain⟨a,h1,h2⟩:=ac h
  obtain⟨b,h3,h4⟩:=aq h2
  rw[dI_eq h1]at hx
  rw[dI_eq h3]at hy
  cases hx.i with | int t=>cases hy.i with | int u=>exact go a t b u rfl rfl h4.symm
 cases op with
 | In=>exact(zd h hx hy hu).1
 | NotIn =>
  obtain⟨b,hb,rfl⟩:=aq h
  exact(zd hb hx hy hu).2
 | Eq =>
  obtain⟨hd,h1⟩:=ifo_of h
  exact Bv h1 hx hy (A:=A) (g7 hd hu) Z.prog Z.w E _ (av (krefl s))
 | NotEq =>
  obtain⟨hd,h1⟩:=ifo_of h
  delta ane at h1
  cases hq:aeq x y with
  | some b =>
   rw[hq]at h1
   cases h1
   exact op_ne hq hx hy (A:=A) (g7 hd hu) Z.prog Z.w E _ (av (krefl s))
  | none =>
   rw[hq]at h1
   refine cps λGq hGq=>?_
   obtain⟨a,h2,h3⟩:=ac (o:=dD x) h1
   obtain⟨b,h4,h5⟩:=ac h3
   refine hGq ?_
   clear hGq
   obtain⟨hr,rfl⟩:=aV h5
   exact qp hx hy h2 h4 hr (g7 hd hu) (av (krefl s))
 | Lt=>exact ii h λa t b u e1 e2 e3=>by rw[e1,e2,e3];exact PyProof.Rows.lt_int (av (krefl s))
 | LtE=>exact ii h λa t b u e1 e2 e3=>by rw[e1,e2,e3];exact le_int (av (krefl s))
 | Gt=>exact ii h λa t b u e1 e2 e3=>by rw[e1,e2,e3];exact PyProof.Rows.gt_int (av (krefl s))
 | GtE=>exact ii h λa t b u e1 e2 e3=>by rw[e1,e2,e3];exact ge_int (av (krefl s))
 | _=>cases h
theorem qh{h:Heap}{N:Nat}{Q:Addr->Prop}{ds:List PV}:∀{vs:List Value} {xs:List Str},RS Z h N Q vs ds->cu ds=some xs->StrsAre vs xs:=by
 induction ds with
 | nil=>intro vs xs r h;cases r;cases h;exact .nil
 | cons d ds ih =>
  intro vs xs r h
  obtain⟨y,h1,h2⟩:=ac h
  obtain⟨ys,h3,rfl⟩:=aq h2
  cases r with
  | cons a r =>
   rw[dR h1]at a
   induction a.s with | str t=>exact .cons _ _ (ih r h3)
def w4(N:Nat)(v:Value):Prop:=∀x t,v=.str x t->t≠0/\t<N
theorem R.tok{h:Heap}{N:Nat}{Q:Addr->Prop}{v:Value}{d:PV}(x:R Z h N Q v d):w4 N v:=by
 intro y t e
 cases x with
 | str y t ht hN=>cases e;exact⟨ht,hN⟩
 | _=>cases e
theorem RS_strsAre{h:Heap}{N:Nat}{Q:Addr->Prop}{vs:List Value}{xs:List Str}(x:StrsAre vs xs)(ht:∀v∈vs,w4 N v):RS Z h N Q vs (xs.map PV.str):=by
 induction x with
 | nil=>exact .nil
 | cons y t zz ih=>exact .cons (have q:=ht _ (EP ..) y t rfl;.str y t q.1 q.2) (ih λv hv=>ht v (EO _ hv))
theorem kD{vs:List Value}{xs:Array Keyed}(hp:xs.Perm (pairsOf vs))(v:Value)(hv:v∈(xs.map (·.2)).toList):v∈vs:=by
 have hl:xs.toList.Perm (vs.zip vs):=by rw[<-pairsOf_toList];exact Array.perm_iff_toList_perm.mp hp
 rw[Array.toList_map]at hv
 obtain⟨p,hp',rfl⟩:=E9.mp hv
 obtain⟨h1,h2⟩:=mem_zip_self (hl.mem_iff.mp hp')
 exact h1▸h2
theorem oK{vs:List Value}{xs:List Str}(x:StrsAre vs xs):vs.length=xs.length:=by
 induction x with
 | nil=>rfl
 | cons zz zz zz ih=>exact congrArg (·+1) ih
theorem jB{l:List Str}:∀{p:Str},risingS p l=true->(p::l).Pairwise (λa b=>jY a b=true):=by
 induction l with
 | nil=>exact λzz=>Ig _ _
 | cons x r ih =>
  intro p h
  obtain⟨h1,h2⟩:=and2 h
  have ih:=ih h2
  have hp:jY p x=true:=by
   delta jY
   rw[<-ltCps_eq];exact h1
  refine Gh.mpr ⟨λz hz=>?_,ih⟩
  rcases EU.mp hz with rfl | hz
  .exact hp
  .exact lX hp ((Gh.mp ih).1 z hz)
theorem eH{l:List Str}(h:sortedS l=true):l.Pairwise (λa b=>jY a b=true):=by
 cases l with
 | nil=>exact .nil
 | cons x l=>exact jB h
theorem hO(l:List Str):(bv l).length=l.length:=(cU l).length_eq
theorem op_sorted{ds:List PV}{xs:List Str}{v:Value}{Q:Addr->Prop}(r:R Z s.heap s.toks Q v (.list ds))(h:cu ds=some xs)(hl:xs.length<64)(hP:P.Ok s.heap) :
  wpAny Z.M A (call (.builtin "sorted") [v]) (Pst Z P s (at1 (.list ((bv xs).map PV.str)))) E s:=by
 induction r.l with
 | list p e z rs =>
  have hs:=qh rs h
  refine sortedK strKind_oneLt (ak e) hs.keysOf (λEw Ex rest e=>keyKind_strs (by rw[<-e];exact hs)) (by rw[oK hs];exact hl) λst' a1 a2=>?_
  obtain⟨ss',h1,h2,h3⟩:=sorted_out_str hs a1 a2
  have hss:ss'=bv xs:=pV h2 (eH h3)
  subst hss
  obtain⟨n,hat⟩:=sortedAll_at s.heap _ ((arrOf st').map (·.2))
  refine⟨⟨_,s.toks,_,rfl,λzz zz e=>sortedAll_old e,ER _⟩,?_⟩
  refine .list (vs:=((arrOf st').map (·.2)).toList) (n:=n) (hP.fresh _ _ _ ?_) hat ?_ (RS_strsAre h1 λv hv=>(rs.mem v (kD a1 v hv)).elim λd q=>q.2.tok)
  .cases q:s.heap.get? (s.heap.objs.size+1)with
   | none=>rfl
   | some o=>exact absurd (Heap.lt_size q) (Gc.mpr (Fv _))
  .rw[EN,hO];exact EK (FS hl) (by decide)
end
end Mine
namespace Mine
open PySem PySem.Calls PyProof.Rows
noncomputable def aN(N:Nat):Value->Option Str
 | .str x t=>if t≠0/\t<N then some x else none
 | _=>none
theorem eM{N:Nat}{v:Value}{y:Str}(h:aN N v=some y):∃t,(t≠0/\t<N)/\v=.str y t:=by
 cases v with
 | str x t =>
  obtain⟨h1,rfl⟩:=aV h
  exact⟨t,h1,rfl⟩
 | _=>cases h
inductive SetS(Z:Cf)(h:Heap)(N:Nat)(a:Addr)(xs:List Str)(led:Bool):Prop
 | mk (o:Obj) (es:Array (Int×Value)) (ep:Nat) (t:SetTable) (ho:h.get? a=some o) (hx:o.ExactSet) (hd:o.data=.set es ep t) (he:ElemsOf (strKind Z.prog Z.w) es.toList) (hy:∃ys:List Str,es.toList.map (λe=>aN N e.2)=ys.map some/\ys.Perm xs) (hb:es.size<scanBound) (hf:t.fits es.size=true) (hl:t.led=led) (hp:es.size≠0->t.plain=false):SetS Z h N a xs led
theorem jC(t:SetTable)(n:Nat):(t.orStandIn n).led=t.led/\(t.plain=false->(t.orStandIn n).plain=false):=by
 delta SetTable.orStandIn
 split
 .exact⟨rfl,id⟩
 .exact⟨rfl,λzz=>rfl⟩
theorem nF(t:SetTable)(es:Array (Int×Value))(h:Int)(x:Value):(layNew t es h x).2.1.led=t.led/\(t.plain=false->(layNew t es h x).2.1.plain=false):=by
 delta layNew
 split
 .exact jC _ _
 .exact⟨rfl,λzz=>rfl⟩
set_option tactic.hygienic true in
theorem j9(t:SetTable)(es:Array (Int×Value))(n:Nat):(relayAll t es n).2.1.led=t.led/\(t.plain=false->(relayAll t es n).2.1.plain=false):=by
 delta relayAll
 split
 .rename_i t' order hr
  have:t'.led=t.led/\t'.plain=t.plain:=by
   delta SetTable.relaid SetTable.laid at hr
   simp only[Option.bind_eq_bind,Option.bind_eq_some_iff]at hr
   obtain⟨owner,zz,e⟩:=hr
   cases e
   exact⟨rfl,rfl⟩
  dsimp only
  split
  .exact⟨this.1,λh=>this.2.trans h⟩
  .exact⟨rfl,λzz=>rfl⟩
 .exact⟨rfl,λzz=>rfl⟩
theorem dp{l l':List (Int×Value)}{ys:List Str}(hp:l'.Perm l)(h:l.map (λe=>aN N e.2)=ys.map some):∃ys':List Str,l'.map (λe=>aN N e.2)=ys'.map some/\ys'.Perm ys:=by
 have hall:∀e∈l',∃y,aN N e.2=some y:=by
  intro e he
  have:aN N e.2∈l.map (λe=>aN N e.2):=E9.mpr ⟨e,hp.mem_iff.mp he,rfl⟩
  rw[h,E9]at this
  obtain⟨y,zz,e'⟩:=this
  exact⟨y,e'.symm⟩
 refine⟨l'.filterMap (λe=>aN N e.2),?_,?_⟩
 .clear hp h
  induction l' with
  | nil=>rfl
  | cons e l' ih =>
   obtain⟨y,hy⟩:=hall e (EP ..)
   rw[Fp,Ic (f:=λe:Int×Value=>aN N e.2) hy,Fp,<-ih λe he=>hall e (EO _ he),hy]
 .have e1:l.filterMap (λe=>aN N e.2)=ys:=by
   clear hp hall
   induction l generalizing ys with
   | nil=>cases ys with
    | nil=>rfl
    | cons zz zz=>simp at h
   | cons e l ih =>
    cases ys with
    | nil=>simp at h
    | cons y ys =>
     simp only[Fp,Gu]at h
     rw[Ic (f:=λe:Int×Value=>aN N e.2) h.1,ih h.2]
  rw[<-e1]
  exact hp.filterMap _
section
variable{Z:Cf}{A:Around}{E:Value->Shared->Prop}{s:Shared}{a:Addr}{xs:List Str}{led:Bool}
theorem y6{k y:Str}{t:Tok}:(strKind Z.prog Z.w).is k (.str y t)=decide (k=y):=KeyKind.is_eq_decide (strKind_is Z.prog Z.w y t) k
theorem vV{es:Array (Int×Value)}{ys:List Str}{x:Str}(hys:es.toList.map (λe=>aN N e.2)=ys.map some)(hyp:ys.Perm xs):(∃e∈es.toList,(strKind Z.prog Z.w).is x e.2=true)↔x∈xs:=by
 rw[<-hyp.mem_iff]
 constructor
 .rintro⟨e,he,hi⟩
  have:aN N e.2∈ys.map some:=by rw[<-hys];exact E9.mpr ⟨e,he,rfl⟩
  obtain⟨y,hy,e'⟩:=E9.mp this
  obtain⟨tz,zz,hv⟩:=eM e'.symm
  rw[hv,y6]at hi
  rw[of_decide_eq_true hi];exact hy
 .intro hx
  have:some x∈es.toList.map (λe=>aN N e.2):=by rw[hys];exact E9.mpr ⟨x,hx,rfl⟩
  obtain⟨e,he,e'⟩:=E9.mp this
  refine⟨e,he,?_⟩
  obtain⟨tz,zz,hv⟩:=eM e'
  rw[hv,y6];simp
theorem w3{x:Str}{t0:Tok}{Q:Bool->Shared->Prop}(ht0:t0≠0/\t0<N)(hS:SetS Z s.heap N a xs led)(hroom:xs.length+1<scanBound)
  (h:∀h' b,Heap.SameBut a s.heap h'->SetS Z h' N a (if x∈xs then xs else xs++[x]) led->Q b {s with heap:=h'}) :
  wpAny Z.M A (setAddHashed a (.str x t0) ((strKind Z.prog Z.w).hash x)) Q E s:=by
 refine cps λGq hGq=>?_
 obtain⟨o,es,ep,t,ho,hex,hd,hel,⟨ys,hys,hyp⟩,hb,hf,hled,hpl⟩:=hS
 refine hGq ?_
 clear hGq
 have hkey:=strKind_is Z.prog Z.w x t0
 have hsc:(Value.str x t0).scannable=true:=rfl
 have hn:es.size=xs.length:=by
  have:=congrArg G7 hys
  simp at this
  rw[this,hyp.length_eq]
 have hb1:es.size+1<scanBound:=by rw[hn];exact hroom
 have mem:=vV (Z:=Z) (x:=x) hys hyp
 delta setAddHashed
 rw[setAddHashedIn]
 refine wpAny_holding (wpAny_bind (wpAny_setState_of ho hd hf ?_))
 dsimp only
 rw[byScan_of hsc hb hel]
 simp only[↓reduceIte]
 delta setAddByScan
 refine wpAny_bind ?_
 refine wpAny_bind (wpAny_rule ?_)
 refine wpAny_bind (wpAny_setScan_of hkey ho hd hf hel ?_)
 cases hr:List.findIdx? (λe=>(strKind Z.prog Z.w).is x e.2) es.toList with
 | some j =>
  dsimp only
  obtain⟨hj,hpj,zz⟩:=List.findIdx?_eq_some_iff_getElem.mp hr
  have hx:x∈xs:=mem.mp ⟨es.toList[j],GU hj,hpj⟩
  refine wpAny_pure (wpAny_pure ?_)
  have e:s={s with heap:=s.heap}:=by cases s;rfl
  have:=h s.heap false (Heap.SameBut.refl a s.heap) (by rw[if_pos hx];exact⟨o,es,ep,t,ho,hex,hd,hel,⟨ys,hys,hyp⟩,hb,hf,hled,hpl⟩)
  rw[e];exact this
 | none =>
  dsimp only
  have hx:x∉xs:=λhx=>by
   obtain⟨e,he,hp⟩:=mem.mpr hx
   have:=List.findIdx?_eq_none_iff.mp hr e he
   rw[hp]at this;exact Ih this
  have hgw:∀(b:Bool) {CZ:Shared} {Q':Unit->Shared->Prop},Q' () CZ->wpAny Z.M A (match b with | true=>rule "set.scan.the-table-gave-way" | false=>pure ()) Q' E CZ :=
   λb CZ Q' hq=>by cases b<;>first | exact wpAny_pure hq | exact wpAny_rule hq
  have hperm:=layNew_perm t es ((strKind Z.prog Z.w).hash x) (.str x t0)
  have hfits:=layNew_fits t es ((strKind Z.prog Z.w).hash x) (.str x t0)
  have hmarks:=nF t es ((strKind Z.prog Z.w).hash x) (.str x t0)
  generalize hL:layNew t es ((strKind Z.prog Z.w).hash x) (.str x t0)=L at hperm hfits hmarks ⊢
  refine cps λGq hGq=>?_
  obtain⟨es1,t1,wasDummy,gave⟩:=L
  refine hGq ?_
  clear hGq
  dsimp only at hperm hfits hmarks ⊢
  rw[Ib]at hperm
  have hel1:ElemsOf (strKind Z.prog Z.w) es1.toList:=(hel.push hkey hsc).perm hperm
  have hb1':es1.size<scanBound:=by rw[<-F1,hperm.length_eq,EQ,F1];simpa using hb1
  obtain⟨ys1,hys1,hyp1⟩:=dp (ys:=ys++[x]) hperm (by rw[Fc,hys,Fc];exact congrArg (List.map some ys++[·]) (if_pos ht0))
  have hyp1':ys1.Perm (xs++[x]):=hyp1.trans (hyp.append_right [x])
  refine wpAny_bind (hgw _ ?_)
  have tail:∀t2:SetTable,t2.fits es1.size=true->t2.led=led->t2.plain=false->∀{g:Bool->Sem Unit},(∀(b:Bool) (CZ:Shared) (Q':Unit->Shared->Prop),Q' () CZ->wpAny Z.M A (g b) Q' E CZ)->∀{R:Option Bool->Shared->Prop},
    (∀h',Heap.SameBut a s.heap h'->SetS Z h' N a (xs++[x]) led->R (some true) {s with heap:=h'}) ->
    wpAny Z.M A (do
     storeSet a es1 t2
     if(!wasDummy&&t2.tooFull)=true then do
       g (relayAll t2 es1 (SetTable.grown es1.size)).2.2
       storeSet a (relayAll t2 es1 (SetTable.grown es1.size)).1 (relayAll t2 es1 (SetTable.grown es1.size)).2.1
       pure (some true)
      else pure (some true)) R E s:=by
   intro t2 hf2 hl2 hp2 g hg R hR
   refine wpAny_bind (wpAny_storeSet_of ho hd ?_ (fits_of_scanBound hb1'))
   have ho1:(s.heap.update a (Obj.putSet es1 t2)).get? a=some {o with data:=.set es1 (ep+1) t2}:=by
    have:=Heap.get?_update_self (Obj.putSet es1 t2) ho (by rw[putSet_of es1 t2 hd];rfl)
    rw[putSet_of es1 t2 hd]at this;exact this
   have hsb1:=Heap.SameBut.update s.heap a (Obj.putSet es1 t2)
   split
   .have hp:=relayAll_perm t2 es1 (SetTable.grown es1.size)
    have hfr:=relayAll_fits t2 es1 (SetTable.grown es1.size)
    have hm:=j9 t2 es1 (SetTable.grown es1.size)
    generalize hRl:relayAll t2 es1 (SetTable.grown es1.size)=Rl at hp hfr hm ⊢
    obtain⟨es2,t3,gave2⟩:=Rl
    dsimp only at hp hfr hm ⊢
    have hsz:es2.size=es1.size:=by rw[<-F1,hp.length_eq,F1]
    obtain⟨ys2,hys2,hyp2⟩:=dp hp hys1
    refine wpAny_bind (hg _ _ _ ?_)
    refine wpAny_bind (wpAny_storeSet_of ho1 rfl ?_ (fits_of_scanBound (by rw[hsz];exact hb1')))
    have ho2:((s.heap.update a (Obj.putSet es1 t2)).update a (Obj.putSet es2 t3)).get? a=some {o with data:=.set es2 (ep+1+1) t3}:=by
     have:=Heap.get?_update_self (Obj.putSet es2 t3) ho1 (by rw[putSet_of es2 t3 rfl];rfl)
     rw[putSet_of es2 t3 rfl]at this;exact this
    exact wpAny_pure (hR _ (hsb1.trans (Heap.SameBut.update _ a _)) ⟨_,es2,_,t3,ho2,hex,rfl,hel1.perm hp,⟨ys2,hys2,hyp2.trans hyp1'⟩,by rw[hsz];exact hb1',hfr,hm.1.trans hl2,λzz=>hm.2 hp2⟩)
   .exact wpAny_pure (hR _ hsb1 ⟨_,es1,_,t2,ho1,hex,rfl,hel1,⟨ys1,hys1,hyp1'⟩,hb1',hf2,hl2,λzz=>hp2⟩)
  have hend:∀h',Heap.SameBut a s.heap h'->SetS Z h' N a (xs++[x]) led->Q true {s with heap:=h'}:=by
   intro h' hsb hS'
   have:=h h' true hsb
   rw[if_neg hx]at this
   exact this hS'
  split
  .refine wpAny_bind ?_
   rw[hashByValue_scannable 8 hsc]
   refine wpAny_pure ?_
   have hpk:plainKind (Value.str x t0)=false:=rfl
   rw[hpk]
   simp only[FK,↓reduceIte]
   refine tail {t1 with plain:=false} (SetTable.fits_plain_off hfits) (hmarks.1.trans hled) rfl ?_ ?_
   .intro b CZ Q' hq;cases b<;>first | exact wpAny_pure hq | exact wpAny_rule hq
   .intro h' hsb hS';dsimp only;exact wpAny_pure (hend h' hsb hS')
  .rename_i hplain
   refine wpAny_bind (wpAny_pure ?_)
   simp only[↓reduceIte]
   refine tail t1 hfits (hmarks.1.trans hled) (by simpa using hplain) ?_ ?_
   .intro b CZ Q' hq;cases b<;>first | exact wpAny_pure hq | exact wpAny_rule hq
   .intro h' hsb hS';dsimp only;exact wpAny_pure (hend h' hsb hS')
end
noncomputable def ledOf(w:World):Bool:=!(w.params.followText "set-order")
section
variable{Z:Cf}{A:Around}{E:Value->Shared->Prop}{s:Shared}
theorem qm{led:Bool}{h:Heap}{a:Addr}(hg:h.get? a=some {cls:=.type "set",dict:=none,data:=.set #[] 0 (.fresh 0 0 led)}):SetS Z h N a [] led :=
 ⟨_,#[],0,_,hg,⟨rfl,rfl,rfl⟩,rfl,(by intro e he;simp at he),⟨[],rfl,.refl _⟩,(by decide),rfl,rfl,λh=>absurd rfl h⟩
end
end Mine
set_option backward.match.sparseCases true
namespace Mine
open PySem PySem.Calls PyProof.Rows
namespace ZF
theorem slot_next:Slot "set_iterator" "__next__" "set_iterator.__next__" :=
 .of (owner:="set_iterator") (n:="__next__") (by rw[typeLookup_type,builtinLookup_eq_fast];kernel_rfl) (by decide +kernel) (by decide +kernel) (by decide +kernel)
  (by first | exact .inl (by decide +kernel) | exact .inr (by decide +kernel)) (by rw[isSubtype_type];kernel_rfl)
theorem entry_next:entryFor table "set_iterator.__next__"=some Builtin.«set_iterator.__next__»:=entryFor_of_tree (by kernel_rfl)
theorem args_next (a:Value):argsOk "set_iterator.__next__" ⟨[a],[]⟩:=by delta argsOk;kernel_rfl
theorem slot_self:Slot "set_iterator" "__iter__" "set_iterator.__iter__" :=
 .of (owner:="set_iterator") (n:="__iter__") (by rw[typeLookup_type,builtinLookup_eq_fast];kernel_rfl) (by decide +kernel) (by decide +kernel) (by decide +kernel)
  (by first | exact .inl (by decide +kernel) | exact .inr (by decide +kernel)) (by rw[isSubtype_type];kernel_rfl)
theorem entry_iter:entryFor table "set.__iter__"=some Builtin.«frozenset.__iter__» :=
 entryFor_alias (id':="frozenset.__iter__") (by kernel_rfl) rfl (by decide +kernel) (by kernel_rfl)
theorem entry_self:entryFor table "set_iterator.__iter__"=some Builtin.«dict_keyiterator.__iter__» :=
 entryFor_alias (id':="dict_keyiterator.__iter__") (by kernel_rfl) rfl (by decide +kernel) (by kernel_rfl)
theorem args_self (a:Value):argsOk "set_iterator.__iter__" ⟨[a],[]⟩:=by delta argsOk;kernel_rfl
end ZF
theorem eraseIdx_perm{α:Type}:∀(l:List α) (i:Nat) (x:α),l[i]?= some x->(x::l.eraseIdx i).Perm l:=by
 intro l0
 induction l0 with
 | nil=>exact @λi x h=>yP h
 | cons y l ih =>
  intro i x h
  cases i with
  | zero=>cases h;exact .refl _
  | succ i=>exact(List.Perm.swap y x _).trans ((ih i x h).cons y)
theorem le{α:Type}(f:Nat->Nat)(xs:Array α):(pickOrder f xs).toList.Perm xs.toList:=by
 have key:∀(n k:Nat) (left:List α) (out:Array α),n=left.length->(pickOrder.go f n k left out).toList.Perm (out.toList++left):=by
  intro n
  induction n with
  | zero=>intro k left out hn;cases left with
   | nil=>rw[Fb];exact .refl _
   | cons zz zz=>simp at hn
  | succ n ih =>
   intro k left out hn
   show(match left[f k % left.length]? with | some x=>pickOrder.go f n (k+1) (left.eraseIdx (f k % left.length)) (out.push x) | none=>out).toList.Perm _
   have hlt:f k % left.length<left.length:=Nat.mod_lt _ (hn▸Hv n)
   cases hx:left[f k % left.length]? with
   | none=>rw[Hh]at hx;exact absurd hlt (Gc.mpr hx)
   | some x =>
    dsimp only
    have hp:=eraseIdx_perm left _ x hx
    refine(ih (k+1) _ _ (by rw[List.length_eraseIdx_of_lt hlt,<-hn];rfl)).trans ?_
    rw[Ib,Fj]
    exact List.Perm.append_left _ hp
 show(pickOrder.go f xs.size 0 xs.toList #[]).toList.Perm _
 have:=key xs.size 0 xs.toList #[] (by simp)
 simpa using this
section
variable{Z:Cf}{A:Around}{E:Value->Shared->Prop}{s:Shared}
theorem mV{α:Type}:∀(n:Nat) (xs:List α) (s:Shared) (Q:List α->Shared->Prop),n=xs.length->(∀ys dr,ys.Perm xs->Q ys {s with drawn:=dr})->wpAny Z.M A (drawOrder n xs) Q E s:=by
 intro l0
 induction l0 with
 | zero =>
  intro xs s Q hn h
  cases xs with
  | nil=>exact wpAny_pure (h [] s.drawn (.refl _))
  | cons y ys=>cases hn
 | succ n ih =>
  intro xs s Q hn h
  cases xs with
  | nil=>cases hn
  | cons y ys =>
  show wpAny _ _ (choose .order (y::ys).length >>= λi=>match (y::ys)[i]? with | some x=>(do return x::(<-drawOrder n ((y::ys).eraseIdx i))) | none=>unsupported "internal:drawOrder") _ _ _
  refine wpAny_bind ?_
  intro Γ p EH
  delta choose
  rw[Sem.wp_choose]
  refine⟨by simp,?_⟩
  rw[Sem.wp]
  have hlt:Z.M.w.draws .order (s.drawn.get .order) % (y::ys).length<(y::ys).length:=Nat.mod_lt _ (by simp)
  generalize Z.M.w.draws .order (s.drawn.get .order) % (y::ys).length=i at hlt
  have goal:wpAny Z.M A (match (y::ys)[i]? with | some x=>(do return x::(<-drawOrder n ((y::ys).eraseIdx i))) | none=>unsupported "internal:drawOrder") Q E {s with drawn:=s.drawn.bump .order}:=by
   have hx:(y::ys)[i]?= some (y::ys)[i]:=EW hlt
   rw[hx]
   dsimp only
   refine wpAny_bind (ih _ _ _ ?_ λzs dr hz=>wpAny_pure ?_)
   .rw[List.length_eraseIdx,if_pos hlt];simp at hn ⊢;exact hn
   .exact h _ dr ((hz.cons _).trans (eraseIdx_perm _ i _ hx))
  exact goal
noncomputable def sitObj(first:Value)(i:Nat)(a:Value)(n ep:Nat):Obj:={cls:=.type "set_iterator",data:=.fields #[first,rawInt i,a,rawInt n,rawInt ep]}
variable{I a:Addr}{o:Obj}{es:Array (Int×Value)}{ep:Nat}{t:SetTable}{i n:Nat}{x:Value}{hsh:Int}{Q:Option Value->Shared->Prop}
theorem byText_ok {Qb:Bool->Shared->Prop} (h:Qb (Z.w.params.followText "set-order") s):wpAny Z.M A setsByText Qb E s:=by
 delta setsByText
 exact wpAny_bind (wpAny_askSetting (wpAny_pure h))
theorem gH{Qe:Array (Int×Value)->Shared->Prop}(ho:s.heap.get? a=some o)(hd:o.data=.set es ep t)(hf:t.fits es.size=true)(h:Qe es s):wpAny Z.M A (setEntries a) Qe E s:=by
 delta setEntries
 exact wpAny_bind (wpAny_setState_of ho hd hf (wpAny_pure h))
theorem bV{first:Value}(hit:s.heap.get? I=some (sitObj first i (.ref a) n ep))(ho:s.heap.get? a=some o)(hd:o.data=.set es ep t)(hf:t.fits es.size=true)(hn:es.size=n)
  (h:wpAny Z.M A.in1 (match first with
    | .int slot θ=>do
     match <-setNext a slot.toNat i ep with
     | some (x,next)=>do
      setField (.ref I) 0 (rawInt next)
      setField (.ref I) 1 (rawInt (i+1))
      ret x
     | none=>do
      setField (.ref I) 2 .none
      raiseNew (<-newExc (.type "StopIteration") [])
    | _=>do
     let some places <-seqItems? first | unsupported "internal:set_iterator"
     match places[i]? with
     | some (.int place θ)=>do
      let x <-setNextDrawn a place.toNat ep
      setField (.ref I) 1 (rawInt (i+1))
      ret x
     | some zz=>unsupported "internal:set_iterator"
     | none=>do
      setField (.ref I) 0 (rawInt 0)
      setField (.ref I) 2 .none
      raiseNew (<-newExc (.type "StopIteration") []))
   (λfin s'=>∃v,fin=.done (.ret v)/\Q (some v) s') (λe s'=>wpAny Z.M A (isInstance e (.type "StopIteration")) (λb s''=>b=true/\Q none s'') E s') s) :
  wpAny Z.M A (pyNext (.ref I)) Q E s:=by
 have hT:s.TypeIs (.ref I) "set_iterator":=⟨_,hit,rfl⟩
 delta pyNext
 refine wpAny_bind (wpAny_attempt (wpAny_callSpecial?_slot (name:=Str.ofString "__next__") hT ZF.slot_next (wpAny_call_entry ZF.slot_next hT ZF.entry_next ?_ (ZF.args_next _))))
 delta Builtin.«set_iterator.__next__»
 refine wpAny_bind (wpAny_of_eq (a:=(Value.ref I,([]:List Value))) rfl ?_)
 refine wpAny_bind (wpAny_fieldsOf hit rfl ?_)
 show wpAny _ _ (setEntries a >>= _) _ _ _
 refine wpAny_bind (gH ho hd hf ?_)
 have hne:(((es.size:Int) != (n:Int))=false):=by rw[hn];simp
 dsimp only
 rw[hne]
 simp only[FK,if_false,FT]
 refine wpAny_mono h (λfin s' h'=>?_) (λe s' h'=>?_)
 .obtain⟨v,e,q⟩:=h'
  exact⟨v,e,wpAny_pure q⟩
 .refine wpAny_bind (wpAny_mono h' (λb s'' h''=>?_) λzz zz x=>x)
  obtain⟨rfl,q⟩:=h''
  simp only[if_true]
  exact wpAny_pure q
theorem jE{Qx:Ht->Shared->Prop}(hh:A.handled=none)(hQ:∀h',(∀b o,s.heap.get? b=some o->h'.get? b=some o)->Q none {s with heap:=h'}) :
  wpAny Z.M A.in1 (do raiseNew (<-newExc (.type "StopIteration") [])) Qx (λe s'=>wpAny Z.M A (isInstance e (.type "StopIteration")) (λb s''=>b=true/\Q none s'') E s') s:=by
 refine wpAny_bind ?_
 simp only[newExc,newTuple]
 refine wpAny_bind (wpAny_newObj_type ?_ (by size_fits))
 refine wpAny_bind (m:=firstArgMember _ _) (wpAny_of_eq (a:=Value.none) (by first | rfl | (simp only[firstArgMember];rfl)) ?_)
 refine wpAny_newObj_type ?_ (by size_fits)
 simp only[raiseNew]
 refine wpAny_bind (wpAny_handled ?_)
 rw[show A.in1.handled=none from hh]
 refine wpAny_bind (wpAny_pure (wpAny_throw ?_))
 refine wpAny_isInstance (T:="StopIteration") (b:=true) ⟨_,Heap.get?_push_size _ rfl,rfl⟩ isSubtype_stop ⟨rfl,hQ _ λb o e=>?_⟩
 exact Heap.get?_push_of_some _ (Heap.get?_push_of_some _ e)
theorem jO{first v:Value}(hit:s.heap.get? I=some (sitObj first i (.ref a) n ep)){Qu:Unit->Shared->Prop}(h:∀h',h'.get? I=some (sitObj v i (.ref a) n ep)->Heap.SameBut I s.heap h'->Qu () {s with heap:=h'}):wpAny Z.M A (setField (.ref I) 0 v) Qu E s:=by
 refine wpAny_setField hit rfl (by simp) (h _ ?_ (Heap.SameBut.update ..))
 rw[Heap.get?_update_self _ hit rfl];rfl
theorem kU{first:Value}{j:Nat}(hit:s.heap.get? I=some (sitObj first i (.ref a) n ep)){Qu:Unit->Shared->Prop}(h:∀h',h'.get? I=some (sitObj first j (.ref a) n ep)->Heap.SameBut I s.heap h'->Qu () {s with heap:=h'}):wpAny Z.M A (setField (.ref I) 1 (rawInt j)) Qu E s:=by
 refine wpAny_setField hit rfl (by simp) (h _ ?_ (Heap.SameBut.update ..))
 rw[Heap.get?_update_self _ hit rfl];rfl
theorem Av (hne:a≠I) (hbt:Z.w.params.followText "set-order"=true) (hit:s.heap.get? I=some (sitObj (rawInt 0) i (.ref a) n ep)) (ho:s.heap.get? a=some o) (hd:o.data=.set es ep t) (hf:t.fits es.size=true) (hn:es.size=n)
  (hx:(pickOrder (Z.w.params.setOrder a ep) es)[i]?= some (hsh,x))
  (hQ:∀h',h'.get? I=some (sitObj (rawInt 0) (i+1) (.ref a) n ep)->Heap.SameBut I s.heap h'->Q (some x) {s with heap:=h'}):wpAny Z.M A (pyNext (.ref I)) Q E s:=by
 refine bV hit ho hd hf hn ?_
 show wpAny _ _ (setNext a 0 i ep >>= _) _ _ _
 refine wpAny_bind ?_
 delta setNext
 refine wpAny_bind (wpAny_setState_of ho hd hf ?_)
 dsimp only
 refine wpAny_bind (byText_ok ?_)
 rw[hbt]
 simp only[if_true,bne_self_eq_false,FK,if_false]
 refine wpAny_bind ?_
 delta setWalk
 refine wpAny_bind (wpAny_setState_of ho hd hf ?_)
 dsimp only
 refine wpAny_bind (byText_ok ?_)
 rw[hbt]
 simp only[if_true]
 refine wpAny_bind (wpAny_askSetting (wpAny_pure (wpAny_pure ?_)))
 have hx':(pickOrder (Z.M.w.params.setOrder a ep) es)[i]?= some (hsh,x):=hx
 dsimp only
 rw[hx']
 simp only[Option.map_some]
 refine wpAny_bind (jO hit λC4 DB Dy=>?_)
 refine wpAny_bind (kU (s:={s with heap:=C4}) (j:=i+1) DB λC8 DC Dk=>?_)
 exact wpAny_pure ⟨x,rfl,hQ C8 DC (Dy.trans Dk)⟩
theorem wg (hh:A.handled=none) (hbt:Z.w.params.followText "set-order"=true) (hit:s.heap.get? I=some (sitObj (rawInt 0) i (.ref a) n ep)) (ho:s.heap.get? a=some o) (hd:o.data=.set es ep t) (hf:t.fits es.size=true) (hn:es.size=n)
  (hx:(pickOrder (Z.w.params.setOrder a ep) es)[i]?= none)
  (hQ:∀h',(∀b o,b≠I->s.heap.get? b=some o->h'.get? b=some o)->Q none {s with heap:=h'}):wpAny Z.M A (pyNext (.ref I)) Q E s:=by
 refine bV hit ho hd hf hn ?_
 show wpAny _ _ (setNext a 0 i ep >>= _) _ _ _
 refine wpAny_bind ?_
 delta setNext
 refine wpAny_bind (wpAny_setState_of ho hd hf ?_)
 dsimp only
 refine wpAny_bind (byText_ok ?_)
 rw[hbt]
 simp only[if_true,bne_self_eq_false,FK,if_false]
 refine wpAny_bind ?_
 delta setWalk
 refine wpAny_bind (wpAny_setState_of ho hd hf ?_)
 dsimp only
 refine wpAny_bind (byText_ok ?_)
 rw[hbt]
 simp only[if_true]
 refine wpAny_bind (wpAny_askSetting (wpAny_pure (wpAny_pure ?_)))
 have hx':(pickOrder (Z.M.w.params.setOrder a ep) es)[i]?= none:=hx
 dsimp only
 rw[hx']
 simp only[Option.map_none]
 refine wpAny_bind (wpAny_setField hit rfl (by simp) ?_)
 exact jE hh λh' hk=>hQ h' λb o hb e=>hk b o ((Heap.get?_update_other _ _ (Ne.symm hb)).trans e)
theorem zG {T:Addr} {ps:List Nat} {pl:Nat} (hbt:Z.w.params.followText "set-order"=false) (hit:s.heap.get? I=some (sitObj (.ref T) i (.ref a) n ep)) (ho:s.heap.get? a=some o) (hd:o.data=.set es ep t) (hf:t.fits es.size=true) (hn:es.size=n)
  {oT:Obj} {nT:Nat} (hoT:s.heap.get? T=some oT) (hdT:oT.data=.seq (ps.map λ(i:Nat)=>rawInt i).toArray nT) (hp:ps[i]?= some pl) (hx:es[pl]?= some (hsh,x))
  (hQ:∀h',h'.get? I=some (sitObj (.ref T) (i+1) (.ref a) n ep)->Heap.SameBut I s.heap h'->Q (some x) {s with heap:=h'}):wpAny Z.M A (pyNext (.ref I)) Q E s:=by
 refine bV hit ho hd hf hn ?_
 show wpAny _ _ (seqItems? (.ref T) >>= _) _ _ _
 refine wpAny_bind (wpAny_seqItems hoT hdT ?_)
 have hpl:(ps.map λ(i:Nat)=>rawInt i).toArray[i]?= some (rawInt pl):=by simp[hp]
 dsimp only
 rw[hpl]
 show wpAny _ _ (setNextDrawn a (pl:Int).toNat ep >>= _) _ _ _
 refine wpAny_bind ?_
 delta setNextDrawn
 refine wpAny_bind (wpAny_setState_of ho hd hf ?_)
 simp only[bne_self_eq_false,FK,if_false,FT]
 rw[hx]
 refine wpAny_pure ?_
 refine wpAny_bind (kU (j:=i+1) hit λC8 DC Dk=>?_)
 exact wpAny_pure ⟨x,rfl,hQ C8 DC Dk⟩
theorem zH{T:Addr}{ps:List Nat}(hh:A.handled=none)(hit:s.heap.get? I=some (sitObj (.ref T) i (.ref a) n ep))(ho:s.heap.get? a=some o)(hd:o.data=.set es ep t)(hf:t.fits es.size=true)(hn:es.size=n)
  {oT:Obj} {nT:Nat} (hoT:s.heap.get? T=some oT) (hdT:oT.data=.seq (ps.map λ(i:Nat)=>rawInt i).toArray nT) (hp:ps[i]?= none)
  (hQ:∀h',(∀b o,b≠I->s.heap.get? b=some o->h'.get? b=some o)->Q none {s with heap:=h'}):wpAny Z.M A (pyNext (.ref I)) Q E s:=by
 refine bV hit ho hd hf hn ?_
 show wpAny _ _ (seqItems? (.ref T) >>= _) _ _ _
 refine wpAny_bind (wpAny_seqItems hoT hdT ?_)
 have hpl:(ps.map λ(i:Nat)=>rawInt i).toArray[i]?= none:=by simpa using hp
 dsimp only
 rw[hpl]
 refine wpAny_bind (jO hit λC4 DB Dy=>?_)
 refine wpAny_bind (wpAny_setField (s:={s with heap:=C4}) DB rfl (by simp) ?_)
 exact jE hh λh' hk=>hQ h' λb o hb e=>hk b o ((Heap.get?_update_other _ _ (Ne.symm hb)).trans (Dy.extBut b o hb e))
theorem Ae(j:Nat):SetTable.below #[j] 0=0:=by
 show(if 0<1 then(if(#[j]:Array Nat).getD 0 0<0 then 1 else 0)else 0)=0
 exact(if_pos (by decide)).trans (if_neg (FP _))
theorem zX(j:Nat):SetTable.below #[j] (j+1)=1:=by
 show(if 0<1 then(if(#[j]:Array Nat).getD ((0+1) / 2) (j+1)<j+1 then SetTable.below.go #[j] (j+1) 0 ((0+1) / 2+1) 1 else SetTable.below.go #[j] (j+1) 0 0 ((0+1) / 2))else 0)=1
 exact(if_pos (by decide)).trans (if_pos (E7 j))
theorem next_C {e:Int×Value} {mask j finger moves:Nat} {dum:Array Nat} (hbt:Z.w.params.followText "set-order"=false) (hit:s.heap.get? I=some (sitObj (rawInt 0) 0 (.ref a) 1 ep)) (ho:s.heap.get? a=some o)
  (hd:o.data=.set #[e] ep ⟨mask,#[j],dum,finger,true,moves,false⟩) (hf:(⟨mask,#[j],dum,finger,true,moves,false⟩:SetTable).fits (#[e]:Array (Int×Value)).size=true)
  (hQ:∀h',h'.get? I=some (sitObj (rawInt (j+1:Nat)) 1 (.ref a) 1 ep)->Heap.SameBut I s.heap h'->Q (some e.2) {s with heap:=h'}):wpAny Z.M A (pyNext (.ref I)) Q E s:=by
 refine bV hit ho hd hf rfl ?_
 show wpAny _ _ (setNext a 0 0 ep >>= _) _ _ _
 refine wpAny_bind ?_
 delta setNext
 refine wpAny_bind (wpAny_setState_of ho hd hf ?_)
 dsimp only
 refine wpAny_bind (byText_ok ?_)
 rw[hbt]
 simp only[FK,if_false]
 show wpAny _ _ (pure (match (#[e]:Array (Int×Value))[SetTable.below #[j] 0]?,(#[j]:Array Nat)[SetTable.below #[j] 0]? with | some (_,x),some j=>some (x,j+1) | _,_=>none)) _ _ _
 rw[Ae]
 refine wpAny_pure ?_
 show wpAny _ _ (do setField (.ref I) 0 (rawInt (j+1:Nat));setField (.ref I) 1 (rawInt ((0:Nat)+1:Int));ret e.2) _ _ _
 refine wpAny_bind (jO hit λC4 DB Dy=>?_)
 refine wpAny_bind (kU (s:={s with heap:=C4}) (j:=1) DB λC8 DC Dk=>?_)
 exact wpAny_pure ⟨e.2,rfl,hQ C8 DC (Dy.trans Dk)⟩
theorem z8 {e:Int×Value} {mask j finger moves:Nat} {dum:Array Nat} (hh:A.handled=none) (hbt:Z.w.params.followText "set-order"=false) (hit:s.heap.get? I=some (sitObj (rawInt (j+1:Nat)) 1 (.ref a) 1 ep)) (ho:s.heap.get? a=some o)
  (hd:o.data=.set #[e] ep ⟨mask,#[j],dum,finger,true,moves,false⟩) (hf:(⟨mask,#[j],dum,finger,true,moves,false⟩:SetTable).fits (#[e]:Array (Int×Value)).size=true)
  (hQ:∀h',(∀b o,b≠I->s.heap.get? b=some o->h'.get? b=some o)->Q none {s with heap:=h'}):wpAny Z.M A (pyNext (.ref I)) Q E s:=by
 refine bV hit ho hd hf rfl ?_
 show wpAny _ _ (setNext a (j+1) 1 ep >>= _) _ _ _
 refine wpAny_bind ?_
 delta setNext
 refine wpAny_bind (wpAny_setState_of ho hd hf ?_)
 dsimp only
 refine wpAny_bind (byText_ok ?_)
 rw[hbt]
 simp only[FK,if_false]
 show wpAny _ _ (pure (match (#[e]:Array (Int×Value))[SetTable.below #[j] (j+1)]?,(#[j]:Array Nat)[SetTable.below #[j] (j+1)]? with | some (_,x),some j=>some (x,j+1) | _,_=>none)) _ _ _
 rw[zX]
 refine wpAny_pure ?_
 show wpAny _ _ (do setField (.ref I) 2 .none;raiseNew (<-newExc (.type "StopIteration") [])) _ _ _
 refine wpAny_bind (wpAny_setField hit rfl (by simp) ?_)
 exact jE hh λh' hk=>hQ h' λb o hb e=>hk b o ((Heap.get?_update_other _ _ (Ne.symm hb)).trans e)
theorem done_0 {mask finger moves:Nat} {place dum:Array Nat} {plain:Bool} (hh:A.handled=none) (hbt:Z.w.params.followText "set-order"=false) (hit:s.heap.get? I=some (sitObj (rawInt 0) 0 (.ref a) 0 ep)) (ho:s.heap.get? a=some o)
  (hd:o.data=.set #[] ep ⟨mask,place,dum,finger,true,moves,plain⟩) (hf:(⟨mask,place,dum,finger,true,moves,plain⟩:SetTable).fits (#[]:Array (Int×Value)).size=true)
  (hQ:∀h',(∀b o,b≠I->s.heap.get? b=some o->h'.get? b=some o)->Q none {s with heap:=h'}):wpAny Z.M A (pyNext (.ref I)) Q E s:=by
 refine bV hit ho hd hf rfl ?_
 show wpAny _ _ (setNext a 0 0 ep >>= _) _ _ _
 refine wpAny_bind ?_
 delta setNext
 refine wpAny_bind (wpAny_setState_of ho hd hf ?_)
 dsimp only
 refine wpAny_bind (byText_ok ?_)
 rw[hbt]
 simp only[FK,if_false]
 have key:∀{Qk:Option (Value×Nat)->Shared->Prop},Qk none s->wpAny Z.M A.in1 (pure (match (#[]:Array (Int×Value))[SetTable.below place 0]?,place[SetTable.below place 0]? with | some (_,x),some j=>some (x,j+1) | _,_=>none)) Qk (λe s'=>wpAny Z.M A (isInstance e (.type "StopIteration")) (λb s''=>b=true/\Q none s'') E s') s:=by
  intro Qk hq
  rw[Array.getElem?_empty]
  exact wpAny_pure hq
 refine(λhfin=>by cases plain<;>exact key hfin) ?_
 show wpAny _ _ (do setField (.ref I) 2 .none;raiseNew (<-newExc (.type "StopIteration") [])) _ _ _
 refine wpAny_bind (wpAny_setField hit rfl (by simp) ?_)
 exact jE hh λh' hk=>hQ h' λb o hb e=>hk b o ((Heap.get?_update_other _ _ (Ne.symm hb)).trans e)
end
end Mine
set_option backward.match.sparseCases false
namespace Mine
open PySem PySem.Calls PyProof.Rows
section
variable{Z:Cf}{A:Around}{E:Value->Shared->Prop}{s:Shared}{I a:Addr}{o:Obj}{es:Array (Int×Value)}{ep:Nat}{t:SetTable}{i n:Nat}
theorem hW{first:Value}{Q:Value->Shared->Prop}(hit:s.heap.get? I=some (sitObj first i (.ref a) n ep))(hQ:Q (.ref I) s):wpAny Z.M A (pyIter (.ref I)) Q E s:=by
 have hT:s.TypeIs (.ref I) "set_iterator":=⟨_,hit,rfl⟩
 refine wpAny_pyIter_slot hT ZF.slot_self (wpAny_call_entry ZF.slot_self hT ZF.entry_self ?_ (ZF.args_self _))
 exact wpAny_pure ⟨_,rfl,"set_iterator",_,hT,ZF.slot_next.lookup,hQ⟩
theorem xr (hh:A.handled=none) (hne:a≠I) (hbt:Z.w.params.followText "set-order"=true) (hd:o.data=.set es ep t) (hf:t.fits es.size=true) :
  Walks Z.prog Z.w A I [I,a] [I] ((pickOrder (Z.w.params.setOrder a ep) es).toList.map (·.2)).length (λi v=>((pickOrder (Z.w.params.setOrder a ep) es).toList.map (·.2))[i]?= some v) (λi h=>h.get? I=some (sitObj (rawInt 0) i (.ref a) es.size ep)/\h.get? a=some o) where
 sub:=λb hb=>by simp at hb;simp[hb]
 frame:=λzz zz zz st hk=>⟨hk I (by simp) _ st.1,hk a (by simp) _ st.2⟩
 item:=λi s Q E hi st hQ=>by
  have hi':i<(pickOrder (Z.w.params.setOrder a ep) es).toList.length:=by simpa using hi
  have hx:(pickOrder (Z.w.params.setOrder a ep) es)[i]?= some ((pickOrder (Z.w.params.setOrder a ep) es).toList[i].1,(pickOrder (Z.w.params.setOrder a ep) es).toList[i].2):=by
   rw[<-GE,EW hi']
  refine Av hne hbt st.1 st.2 hd hf rfl hx λh' hit' hs'=>hQ _ h' s.toks ?_ ⟨hit',hs'.extBut a o hne st.2⟩ λb o hb e=>hs'.extBut b o (λq=>hb (by simp[q])) e
  rw[EZ,EW hi'];rfl
 done:=λs Q E st hQ=>by
  refine wg hh hbt st.1 st.2 hd hf rfl ?_ λh' hk=>hQ h' s.toks λb o hb e=>hk b o (λq=>hb (by simp[q])) e
  rw[<-GE,Hh];simp
 self:=λi s Q E st hQ=>hW st.1 hQ
theorem yM {T:Addr} {ps:List Nat} {oT:Obj} {nT:Nat} (hh:A.handled=none) (hne:a≠I) (hTI:T≠I) (hbt:Z.w.params.followText "set-order"=false) (hd:o.data=.set es ep t) (hf:t.fits es.size=true) (hdT:oT.data=.seq (ps.map λ(i:Nat)=>rawInt i).toArray nT) (hps:∀p∈ps,p<es.size) :
  Walks Z.prog Z.w A I [I,a,T] [I] (ps.map λp=>((es[p]?).getD (0,.none)).2).length (λi v=>(ps.map λp=>((es[p]?).getD (0,.none)).2)[i]?= some v) (λi h=>h.get? I=some (sitObj (.ref T) i (.ref a) es.size ep)/\h.get? a=some o/\h.get? T=some oT) where
 sub:=λb hb=>by simp at hb;simp[hb]
 frame:=λzz zz zz st hk=>⟨hk I (by simp) _ st.1,hk a (by simp) _ st.2.1,hk T (by simp) _ st.2.2⟩
 item:=λi s Q E hi st hQ=>by
  have hi':i<ps.length:=by simpa using hi
  have hp:ps[i]?= some ps[i]:=EW hi'
  have hlt:=hps ps[i] (GU hi')
  have hx:es[ps[i]]?= some (es[ps[i]].1,es[ps[i]].2):=F7 hlt
  refine zG hbt st.1 st.2.1 hd hf rfl st.2.2 hdT hp hx λh' hit' hs'=>hQ _ h' s.toks ?_ ⟨hit',hs'.extBut a o hne st.2.1,hs'.extBut T oT hTI st.2.2⟩ λb o hb e=>hs'.extBut b o (λq=>hb (by simp[q])) e
  rw[EZ,hp]
  simp[hlt]
 done:=λs Q E st hQ=>by
  refine zH hh st.1 st.2.1 hd hf rfl st.2.2 hdT ?_ λh' hk=>hQ h' s.toks λb o hb e=>hk b o (λq=>hb (by simp[q])) e
  rw[Hh];simp
 self:=λi s Q E st hQ=>hW st.1 hQ
theorem yx {e:Int×Value} {mask j finger moves:Nat} {dum:Array Nat} (hh:A.handled=none) (hne:a≠I) (hbt:Z.w.params.followText "set-order"=false)
  (hd:o.data=.set #[e] ep ⟨mask,#[j],dum,finger,true,moves,false⟩) (hf:(⟨mask,#[j],dum,finger,true,moves,false⟩:SetTable).fits (#[e]:Array (Int×Value)).size=true) :
  Walks Z.prog Z.w A I [I,a] [I] [e.2].length (λi v=>[e.2][i]?= some v) (λi h=>h.get? I=some (sitObj (rawInt (if i=0 then 0 else j+1:Nat)) i (.ref a) 1 ep)/\h.get? a=some o) where
 sub:=λb hb=>by simp at hb;simp[hb]
 frame:=λzz zz zz st hk=>⟨hk I (by simp) _ st.1,hk a (by simp) _ st.2⟩
 item:=λi s Q E hi st hQ=>by
  have:i=0:=by simp at hi;exact hi
  subst this
  exact next_C hbt st.1 st.2 hd hf λh' hit' hs'=>hQ _ h' s.toks rfl ⟨hit',hs'.extBut a o hne st.2⟩ λb o hb e=>hs'.extBut b o (λq=>hb (by simp[q])) e
 done:=λs Q E st hQ=>z8 hh hbt st.1 st.2 hd hf λh' hk=>hQ h' s.toks λb o hb e=>hk b o (λq=>hb (by simp[q])) e
 self:=λi s Q E st hQ=>hW st.1 hQ
theorem yL{mask finger moves:Nat}{place dum:Array Nat}{plain:Bool}(hh:A.handled=none)(hne:a≠I)(hd:o.data=.set #[] ep ⟨mask,place,dum,finger,ledOf Z.w,moves,plain⟩)(hf:(⟨mask,place,dum,finger,ledOf Z.w,moves,plain⟩:SetTable).fits (#[]:Array (Int×Value)).size=true) :
  Walks Z.prog Z.w A I [I,a] [I] ([]:List Value).length (λi v=>([]:List Value)[i]?= some v) (λi h=>h.get? I=some (sitObj (rawInt 0) 0 (.ref a) 0 ep)/\h.get? a=some o) where
 sub:=by intro b hb;simp at hb;simp[hb]
 frame:=λi h h' st hk=>⟨hk I (by simp) _ st.1,hk a (by simp) _ st.2⟩
 item:=λi s Q E hi=>absurd hi (FP _)
 done:=λs Q E st hQ=>by
  cases hbt:Z.w.params.followText "set-order" with
  | true=>exact wg hh hbt st.1 st.2 hd hf rfl rfl λh' hk=>hQ h' s.toks λb o hb e=>hk b o (λq=>hb (by simp[q])) e
  | false =>
   have hl:ledOf Z.w=true:=by delta ledOf;rw[hbt];rfl
   rw[hl]at hd hf
   exact done_0 hh hbt st.1 st.2 hd hf λh' hk=>hQ h' s.toks λb o hb e=>hk b o (λq=>hb (by simp[q])) e
 self:=λi s Q E st hQ=>hW st.1 hQ
theorem p6{mask finger moves:Nat}{place dum:Array Nat}{led:Bool}{Q:Bool->Shared->Prop}(ho:s.heap.get? a=some o)(hd:o.data=.set es ep ⟨mask,place,dum,finger,led,moves,false⟩)(hf:(⟨mask,place,dum,finger,led,moves,false⟩:SetTable).fits es.size=true)
  (h:Q (!(Z.w.params.followText "set-order")&&decide (es.size>1)) s):wpAny Z.M A (setDrawn a) Q E s:=by
 delta setDrawn
 refine wpAny_bind (wpAny_setState_of ho hd hf ?_)
 dsimp only
 exact wpAny_bind (byText_ok (wpAny_pure h))
end
theorem mr{vs us:List Value}{ys:List Str}(hp:vs.Perm us)(h:us.map (aN N)=ys.map some):∃ys':List Str,vs.map (aN N)=ys'.map some/\ys'.Perm ys:=by
 obtain⟨ys',h1,h2⟩:=dp (l:=us.map λv=>((0:Int),v)) (l':=vs.map λv=>((0:Int),v)) (ys:=ys) (hp.map _) (by rw[Fe];exact h)
 exact⟨ys',by rw[Fe]at h1;exact h1,h2⟩
theorem range_vals(es:Array (Int×Value)):(Fd es.size).map (λp=>((es[p]?).getD (0,.none)).2)=es.toList.map (·.2):=by
 apply IY
 .simp
 .intro i h1 h2
  have hi:i<es.size:=by simpa using h1
  simp[hi]
theorem sr{α:Type}{es:Array α}(h:es.size=1):∃e,es=#[e]:=by
 obtain⟨l⟩:=es
 cases l with
 | nil=>cases h
 | cons e l =>
  cases l with
  | nil=>exact⟨e,rfl⟩
  | cons zz zz=>cases h
section
variable{Z:Cf}{A:Around}{E:Value->Shared->Prop}{s:Shared}{a:Addr}{xs:List Str}
theorem tu{K:Value->Shared->Prop}(hS:SetS Z s.heap N a xs (ledOf Z.w))(he:xs=[])
  (h:∀(I:Addr) (fp:List Addr) (vs:List Value) (St:Nat->Heap->Prop) (C2:Shared) (ys:List Str),Keeps s C2->s.heap.get? I=none->(∀b∈fp,b<C2.heap.objs.size)->(∀b∈fp,b=a\/s.heap.get? b=none)->I∈fp->(∀A':Around,A'.handled=none->Walks Z.prog Z.w A' I fp [I] vs.length (λi v=>vs[i]?= some v) St)->St 0 C2.heap ->
   vs.map (aN N)=ys.map some->ys.Perm xs->K (.ref I) C2):wpAny Z.M A (pyIter (.ref a)) K E s:=by
 subst he
 refine cps λGq hGq=>?_
 obtain⟨o,es,ep,t,ho,hex,hd,hel,⟨ys,hys,hyp⟩,hb,hf,hled,hpl⟩:=hS
 refine hGq ?_
 clear hGq
 have hsz:es.size=0:=by
  have:=congrArg G7 hys
  simp at this
  rw[this,hyp.length_eq];rfl
 obtain rfl:es=#[]:=HJ hsz
 have hy0:ys=[]:=hyp.eq_nil
 subst hy0
 refine cps λGq hGq=>?_
 obtain⟨mask,place,dum,finger,led,moves,plain⟩:=t
 refine hGq ?_
 clear hGq
 simp only at hled
 subst hled
 have hT:s.TypeIs (.ref a) "set":=⟨o,ho,hex.1⟩
 have halt:a<s.heap.objs.size:=Heap.lt_size ho
 refine wpAny_pyIter_slot hT _root_.PySem.F.slot_set_iter (wpAny_call_entry _root_.PySem.F.slot_set_iter hT ZF.entry_iter ?_ (_root_.PySem.F.args_set_iter_1 _))
 delta Builtin.«frozenset.__iter__»
 refine wpAny_bind (wpAny_of_eq (a:=a) rfl ?_)
 delta Builtin.Frozenset.sizeOf
 refine wpAny_bind (wpAny_bind (gH ho hd hf (wpAny_pure ?_)))
 have hdr:∀{Qd:Bool->Shared->Prop},Qd false s->wpAny Z.M A.in1 (setDrawn a) Qd E s:=by
  intro Qd hq
  delta setDrawn
  refine wpAny_bind (wpAny_setState_of ho hd hf ?_)
  dsimp only
  refine wpAny_bind (byText_ok (wpAny_pure ?_))
  have e0:∀b:Bool,(!b&&(!plain&&decide ((#[]:Array (Int×Value)).size>1)))=false:=λb=>by cases b<;>cases plain<;>rfl
  have:Qd (!(Z.w.params.followText "set-order")&&(!plain&&decide ((#[]:Array (Int×Value)).size>1))) s:=by rw[e0];exact hq
  exact this
 refine wpAny_bind (hdr ?_)
 simp only[FK,if_false]
 refine wpAny_bind (wpAny_pure ?_)
 refine wpAny_bind (wpAny_setEpoch_of ho hd hf ?_)
 refine wpAny_bind (wpAny_newObj_type (wpAny_pure ⟨_,rfl,"set_iterator",_,⟨_,Heap.get?_push_size _ rfl,rfl⟩,ZF.slot_next.lookup,?_⟩))
 refine h s.heap.objs.size [s.heap.objs.size,a] [] _ _ [] (kpush _ _) (size_none _) ?_ (by intro b hb;simp at hb;rcases hb with rfl | rfl<;>first | exact .inr (size_none _) | exact .inl rfl) (by simp) (λA' hA'=>yL hA' (FG halt) hd hf) ⟨Heap.get?_push_size _ rfl,Heap.get?_push_of_some _ ho⟩ rfl (.refl _)
 intro b hb
 rw[Heap.size_push]
 simp at hb
 rcases hb with rfl | rfl
 .exact E7 _
 .exact FI halt
theorem iter_set{K:Value->Shared->Prop}(hS:SetS Z s.heap N a xs (ledOf Z.w))(hne:xs≠[])
  (h:∀(I:Addr) (fp:List Addr) (vs:List Value) (St:Nat->Heap->Prop) (C2:Shared) (ys:List Str),Keeps s C2->s.heap.get? I=none->(∀b∈fp,b<C2.heap.objs.size)->(∀b∈fp,b=a\/s.heap.get? b=none)->I∈fp->(∀A':Around,A'.handled=none->Walks Z.prog Z.w A' I fp [I] vs.length (λi v=>vs[i]?= some v) St)->St 0 C2.heap ->
   vs.map (aN N)=ys.map some->ys.Perm xs->K (.ref I) C2):wpAny Z.M A (pyIter (.ref a)) K E s:=by
 refine cps λGq hGq=>?_
 obtain⟨o,es,ep,t,ho,hex,hd,hel,⟨ys,hys,hyp⟩,hb,hf,hled,hpl⟩:=hS
 refine hGq ?_
 clear hGq
 have hsz:es.size=xs.length:=by
  have:=congrArg G7 hys
  simp at this
  rw[this,hyp.length_eq]
 have hsz0:es.size≠0:=by rw[hsz];intro e;exact hne (F3.mp e)
 have hpl:=hpl hsz0
 refine cps λGq hGq=>?_
 obtain⟨mask,place,dum,finger,led,moves,plain⟩:=t
 refine hGq ?_
 clear hGq
 simp only at hpl hled
 subst hpl
 subst hled
 have hT:s.TypeIs (.ref a) "set":=⟨o,ho,hex.1⟩
 have halt:a<s.heap.objs.size:=Heap.lt_size ho
 have hys':(es.toList.map (·.2)).map (aN N)=ys.map some:=by rw[Fe];exact hys
 refine wpAny_pyIter_slot hT _root_.PySem.F.slot_set_iter (wpAny_call_entry _root_.PySem.F.slot_set_iter hT ZF.entry_iter ?_ (_root_.PySem.F.args_set_iter_1 _))
 delta Builtin.«frozenset.__iter__»
 refine wpAny_bind (wpAny_of_eq (a:=a) rfl ?_)
 delta Builtin.Frozenset.sizeOf
 refine wpAny_bind (wpAny_bind (gH ho hd hf (wpAny_pure ?_)))
 refine wpAny_bind (p6 ho hd hf ?_)
 cases hbt:Z.w.params.followText "set-order" with
 | true =>
  simp only[Jc,G8,FK,if_false]
  refine wpAny_bind (wpAny_pure ?_)
  refine wpAny_bind (wpAny_setEpoch_of ho hd hf ?_)
  refine wpAny_bind (wpAny_newObj_type (wpAny_pure ⟨_,rfl,"set_iterator",_,⟨_,Heap.get?_push_size _ rfl,rfl⟩,ZF.slot_next.lookup,?_⟩))
  have hp:=(le (Z.w.params.setOrder a ep) es).map (λe:Int×Value=>e.2)
  obtain⟨ys',h1,h2⟩:=mr hp hys'
  refine h s.heap.objs.size [s.heap.objs.size,a] _ _ _ ys' (kpush _ _) (size_none _) ?_ (by intro b hb;simp at hb;rcases hb with rfl | rfl<;>first | exact .inr (size_none _) | exact .inl rfl) (by simp) (λA' hA'=>xr hA' (FG halt) hbt hd hf) ⟨Heap.get?_push_size _ rfl,Heap.get?_push_of_some _ ho⟩ h1 (h2.trans hyp)
  intro b hb
  rw[Heap.size_push]
  simp at hb
  rcases hb with rfl | rfl
  .exact E7 _
  .exact FI halt
 | false =>
  by_cases h1:es.size>1
  .simp only[h1,decide_true,IE,Bool.and_self,if_true]
   refine wpAny_bind (mV _ _ _ _ (by simp) λps dr hps=>?_)
   delta newTuple
   have hpl:(ps.map λ(i:Nat)=>rawInt i).length<=sizeLine:=by
    rw[EN,hps.length_eq,Fk]
    exact fits_of_scanBound hb
   refine wpAny_bind (wpAny_newObj_type ?_ (by first | exact hpl | (delta sizeOk;simpa using hpl) | (simp only[sizeOk];simpa using hpl) | size_fits))
   have ho1:(s.heap.push {cls:=.type "tuple",data:=.seq (ps.map λ(i:Nat)=>rawInt i).toArray}).get? a=some o:=Heap.get?_push_of_some _ ho
   refine wpAny_bind (wpAny_setEpoch_of (s:={s with heap:=s.heap.push {cls:=.type "tuple",data:=.seq (ps.map λ(i:Nat)=>rawInt i).toArray},drawn:=dr}) ho1 hd hf ?_)
   refine wpAny_bind (wpAny_newObj_type (wpAny_pure ⟨_,rfl,"set_iterator",_,⟨_,Heap.get?_push_size _ rfl,rfl⟩,ZF.slot_next.lookup,?_⟩))
   have hvp:(ps.map λp=>((es[p]?).getD (0,.none)).2).Perm (es.toList.map (·.2)):=by
    rw[<-range_vals];exact hps.map _
   obtain⟨ys',g1,g2⟩:=mr hvp hys'
   have hI:(s.heap.push {cls:=.type "tuple",data:=.seq (ps.map λ(i:Nat)=>rawInt i).toArray}).objs.size=s.heap.objs.size+1:=Heap.size_push ..
   refine h _ [_,a,s.heap.objs.size] _ _ _ ys' ⟨_,s.toks,dr,rfl,λb o e=>Heap.get?_push_of_some _ (Heap.get?_push_of_some _ e),ER _⟩ ?_ ?_ ?_ (by simp) (λA' hA'=>yM (T:=s.heap.objs.size) (ps:=ps) (oT:={cls:=.type "tuple",data:=.seq (ps.map λ(i:Nat)=>rawInt i).toArray}) (nT:=0) hA' ?_ ?_ hbt hd hf rfl λp hp=>FL.mp (hps.mem_iff.mp hp)) ⟨Heap.get?_push_size _ rfl,Heap.get?_push_of_some _ ho1,Heap.get?_push_of_some _ (Heap.get?_push_size _ rfl)⟩ g1 (g2.trans hyp)
   .show s.heap.get? (s.heap.push _).objs.size=none
    rw[hI]
    cases q:s.heap.get? (s.heap.objs.size+1)with
    | none=>rfl
    | some o=>exact absurd (Heap.lt_size q) (Gc.mpr (Fv _))
   .intro b hb
    rw[Heap.size_push]
    simp only[EU,FC,or_false]at hb
    rcases hb with rfl | rfl | rfl
    .exact E7 _
    .show b<(s.heap.push _).objs.size+1
     rw[hI];exact FI (FI halt)
    .show _<(s.heap.push _).objs.size+1
     rw[hI];exact FI (E7 _)
   .intro b hb
    simp only[EU,FC,or_false]at hb
    rcases hb with rfl | rfl | rfl
    .refine .inr ?_
     show s.heap.get? (s.heap.push _).objs.size=none
     rw[hI]
     cases q:s.heap.get? (s.heap.objs.size+1)with
     | none=>rfl
     | some o=>exact absurd (Heap.lt_size q) (Gc.mpr (Fv _))
    .exact .inl rfl
    .exact .inr (size_none _)
   .show a≠(s.heap.push _).objs.size
    rw[hI];exact FG (FI halt)
   .show s.heap.objs.size≠(s.heap.push _).objs.size
    rw[hI];exact FG (E7 _)
  .have h1e:es.size=1:=by lia
   simp only[h1,decide_false,Gf,FK,if_false]
   refine wpAny_bind (wpAny_pure ?_)
   refine wpAny_bind (wpAny_setEpoch_of ho hd hf ?_)
   refine wpAny_bind (wpAny_newObj_type (wpAny_pure ⟨_,rfl,"set_iterator",_,⟨_,Heap.get?_push_size _ rfl,rfl⟩,ZF.slot_next.lookup,?_⟩))
   obtain⟨e,rfl⟩:=sr h1e
   have hfits:=hf
   simp only[SetTable.fits,Gj,beq_iff_eq]at hfits
   obtain⟨j,rfl⟩:=sr hfits.1
   have hl1:ledOf Z.w=true:=by delta ledOf;rw[hbt];rfl
   rw[hl1]at hd hf
   refine h s.heap.objs.size [s.heap.objs.size,a] [e.2] _ _ ys (kpush _ _) (size_none _) ?_ (by intro b hb;simp at hb;rcases hb with rfl | rfl<;>first | exact .inr (size_none _) | exact .inl rfl) (by simp) (λA' hA'=>yx hA' (FG halt) hbt hd hf) ⟨Heap.get?_push_size _ rfl,Heap.get?_push_of_some _ ho⟩ hys' hyp
   intro b hb
   rw[Heap.size_push]
   simp at hb
   rcases hb with rfl | rfl
   .exact E7 _
   .exact FI halt
end
theorem set_len:typeLookup (.type "set") "__len__"=pure (some (.builtin "set.__len__")):=by rw[typeLookup_type,builtinLookup_eq_fast];kernel_rfl
section
variable{Z:Cf}{A:Around}{E:Value->Shared->Prop}{s:Shared}{a:Addr}{xs:List Str}
theorem SetS.at{h h':Heap}{led:Bool}(x:SetS Z h N a xs led)(hk:∀o,h.get? a=some o->h'.get? a=some o):SetS Z h' N a xs led:=by
 cases x with | mk o es ep t ho hx hd he hy hb hf hl hp=>exact⟨o,es,ep,t,hk _ ho,hx,hd,he,hy,hb,hf,hl,hp⟩
theorem tQ{N N':Nat}(hN:N<=N'){l:List (Int×Value)}:∀{ys:List Str},l.map (λe=>aN N e.2)=ys.map some->l.map (λe=>aN N' e.2)=ys.map some:=by
 induction l with
 | nil=>exact λh=>h
 | cons e l ih =>
  intro ys h
  cases ys with
  | nil=>cases h
  | cons y ys =>
   simp only[Fp,Gu]at h ⊢
   obtain⟨t,h1,h2⟩:=eM h.1
   exact⟨by rw[h2];exact if_pos ⟨h1.1,EX h1.2 hN⟩,ih h.2⟩
theorem SetS.up{h:Heap}{N N':Nat}{led:Bool}(x:SetS Z h N a xs led)(hN:N<=N'):SetS Z h N' a xs led:=by
 cases x with | mk o es ep t ho hx hd he hy hb hf hl hp=>exact⟨o,es,ep,t,ho,hx,hd,he,hy.imp λys q=>⟨tQ hN q.1,q.2⟩,hb,hf,hl,hp⟩
theorem SetS.typeIs {led:Bool} (x:SetS Z s.heap N a xs led):s.TypeIs (.ref a) "set":=by
 cases x with | mk o es ep t ho hx hd he hy hb hf hl hp=>exact⟨o,ho,hx.1⟩
theorem SetS.lt{h:Heap}{led:Bool}(x:SetS Z h N a xs led):a<h.objs.size:=by
 cases x with | mk o es ep t ho hx hd he hy hb hf hl hp=>exact Heap.lt_size ho
theorem wi (hT:s.TypeIs (.ref a) "set") {Q:Bool->Shared->Prop} (h:Q false s):wpAny Z.M A (Builtin.List.listLengthHint (.ref a)) Q E s:=by
 delta Builtin.List.listLengthHint
 refine wpAny_bind (wpAny_specialOf hT set_len ?_)
 generalize hid:("set.__len__":String)=id0
 wp_delta
 rw[show splitId id0=some ("set","__len__") from by subst hid;decide +kernel]
 subst hid
 refine wpAny_bind (wpAny_isInstance (T:="set") (b:=true) hT (by rw[isSubtype_type];kernel_rfl) ?_)
 refine wpAny_ite_split (λhab=>absurd hab (by decide)) (λzz=>?_)
 refine wpAny_ite_split (λzz=>?_) (λhab=>absurd (by decide +kernel) hab)
 refine wpAny_bind (wpAny_typeOf hT ?_)
 exact wpAny_pure h
theorem tO{K:Value->Shared->Prop}(hS:SetS Z s.heap N a xs (ledOf Z.w))
  (h:∀(I:Addr) (fp:List Addr) (vs:List Value) (St:Nat->Heap->Prop) (C2:Shared) (ys:List Str),Keeps s C2->s.heap.get? I=none->(∀b∈fp,b<C2.heap.objs.size)->(∀b∈fp,b=a\/s.heap.get? b=none)->I∈fp->(∀A':Around,A'.handled=none->Walks Z.prog Z.w A' I fp [I] vs.length (λi v=>vs[i]?= some v) St)->St 0 C2.heap ->
   vs.map (aN N)=ys.map some->ys.Perm xs->K (.ref I) C2):wpAny Z.M A (pyIter (.ref a)) K E s:=by
 by_cases hx:xs=[]
 .exact tu hS hx h
 .exact iter_set hS hx h
theorem n8{Da:List Value->Shared->Prop}(hh:A.handled=none)(hS:SetS Z s.heap N a xs (ledOf Z.w))(hn:xs.length<=sizeLine)
  (h:∀(vs:List Value) (ys:List Str) (s':Shared),Keeps s s'->vs.map (aN N)=ys.map some->ys.Perm xs->Da vs s'):wpAny Z.M A (collect (.ref a)) Da E s:=by
 have halt:a<s.heap.objs.size:=hS.lt
 refine tk_of ?_
 delta collect
 refine wpAny_bind (wpAny_runValue (codeAny_builtin _root_.PySem.F.entry_proto_collect ?_))
 rw[Around.under_plainId _root_.PySem.F.plain_proto_collect _]
 show wpAny _ A.in1 (newList [] >>= λl=>again (.builtin "list.__iadd__" ⟨[l,.ref a],[]⟩)) _ _ s
 refine wpAny_bind (wpAny_newObj_type ?_)
 refine wpAny_pure ⟨plainId_quiet _root_.PySem.F.plain_list_iadd _,codeAny_builtin _root_.PySem.F.entry_list_iadd ?_⟩
 rw[Around.under_plainId _root_.PySem.F.plain_list_iadd _]
 have hL:(s.heap.push {cls:=.type "list",data:=.seq ([]:List Value).toArray}).get? s.heap.objs.size=some {cls:=.type "list",data:=.seq #[]}:=Heap.get?_push_size _ rfl
 have hS1:SetS Z (s.heap.push {cls:=.type "list",data:=.seq ([]:List Value).toArray}) N a xs (ledOf Z.w):=hS.at λo e=>Heap.get?_push_of_some _ e
 show wpAny _ A.in1 (Builtin.List.listExtendWith (.ref s.heap.objs.size) (.ref a) (.ref s.heap.objs.size)) _ _ _
 delta Builtin.List.listExtendWith
 refine wpAny_bind (wpAny_typeOf (T:="set") hS1.typeIs ?_)
 have h1:Builtin.List.listSameRef (.ref s.heap.objs.size) (.ref a)=false:=by simp[Builtin.List.listSameRef,Jq halt]
 have h2:(Value.type "set"==Value.type "list")=false:=by decide
 have h3:(Value.type "set"==Value.type "tuple")=false:=by decide
 simp only[h1,h2,h3,GR,FK,if_false]
 refine wpAny_bind (tO (s:={s with heap:=s.heap.push {cls:=.type "list",data:=.seq ([]:List Value).toArray}}) hS1 λI fp vs St C2 ys k2 hI hfp hfq hIf W hst hvs hyp=>?_)
 have hL2:C2.heap.get? s.heap.objs.size=some {cls:=.type "list",data:=.seq #[]}:=kheap k2 _ _ hL
 have hLf:s.heap.objs.size∉fp:=λhm=>by
  rcases hfq _ hm with e | e
  .exact Jq halt e
  .rw[hL]at e;cases e
 have hIl:s.heap.objs.size≠I:=λe=>hLf (e▸hIf)
 have hvl:vs.length<=sizeLine:=by
  have:=congrArg G7 hvs
  simp only[EN]at this
  rw[this,hyp.length_eq];exact hn
 have key:∀{R1:Result->Shared->Prop},(∀s' acc' c',(s.toks<=s'.toks->Keeps s s')->s'.heap.get? s.heap.objs.size=some {cls:=.type "list",dict:=none,data:=.seq acc' c',slots:=#[]}->ItemsOf (λi v=>vs[i]?= some v) acc' vs.length->R1 (.ok (.ret (.ref s.heap.objs.size))) s') ->
   ∀(h':Heap) (D9 tk:Nat),(∀b o,b≠s.heap.objs.size->C2.heap.get? b=some o->h'.get? b=some o)->h'.get? s.heap.objs.size=some {cls:=.type "list",data:=.seq #[] D9} ->
   codeAny Z.M A (.builtin "list.extend.loop" ⟨[.ref s.heap.objs.size,.ref I,.ref s.heap.objs.size],[]⟩) R1 {C2 with heap:=h',toks:=tk}:=by
  intro R1 hR1 h' D9 tk hk hL'
  have hst':St 0 h':=(W A.in1 hh).frame _ _ _ hst λb hb o e=>hk b o (λq=>hLf (q▸hb)) e
  refine codeAny_extend_loopS (W A.in1 hh).toS hvl _ hLf _ vs.length 0 _ #[] D9 rfl (Fi _) hst' hL' (ItemsOf.nil _) λs' acc' c' hm hS' hacc=>hR1 s' acc' c' ?_ hS' hacc
  obtain⟨H2,t2,d2,rfl,kk2,zz⟩:=k2
  refine cps λGq hGq=>?_
  obtain⟨h3,g3,d3,t3,o3⟩:=s'
  refine hGq ?_
  clear hGq
  have e1:g3=s.gens:=hm.gens
  have e2:o3=s.os:=hm.os
  subst e1;subst e2
  refine λht=>⟨h3,t3,d3,rfl,λb o e=>hm.heap b o ?_ (hk b o (FG (Heap.lt_size e)) (kk2 b o (Heap.get?_push_of_some _ e))),ht⟩
  intro hb
  simp only[EU,FC,or_false]at hb
  rcases hb with rfl | rfl
  .rw[size_none]at e;cases e
  .have:=Heap.get?_push_of_some {cls:=.type "list",data:=.seq ([]:List Value).toArray} e
   rw[hI]at this;cases this
 have fin:∀s' (acc':Array Value) (c':Nat),(s.toks<=s'.toks->Keeps s s')->ItemsOf (λi v=>vs[i]?= some v) acc' vs.length->s.toks<=s'.toks->Da acc'.toList s':=by
  intro s' acc' c' k hacc ht
  have e:acc'.toList=vs:=by
   apply Hy
   intro i
   rcases Gp i vs.length with hi | hi
   .have hi':i<acc'.size:=by rw[hacc.1];exact hi
    have:=hacc.2 i acc'[i] (F7 hi')
    rw[this,GE,F7 hi']
   .rw[FN hi,FN (by simp[hacc.1];exact hi)]
  rw[e]
  exact h vs ys s' (k ht) hvs hyp
 have hT2:C2.TypeIs (.ref a) "set":=(hS1.at λo e=>kheap k2 _ o e).typeIs
 refine wpAny_bind (wpAny_holding (wi hT2 ?_))
 refine wpAny_ite_split (λzz=>?_) (λzz=>?_)
 .refine wpAny_bind (wpAny_rule ?_)
  refine wpAny_bind ?_
  show wpAny _ _ (updateSeq s.heap.objs.size (·.push .none) >>= λzz=>updateSeq s.heap.objs.size (·.pop)) _ _ _
  refine wpAny_bind (wpAny_updateSeq hL2 rfl ?_)
  have hL3:=Heap.get?_update_self (Obj.mapSeq (·.push Value.none)) hL2 rfl
  refine wpAny_updateSeq (hz:=by seq_fits) hL3 rfl ?_
  have hL4:=Heap.get?_update_self (Obj.mapSeq (·.pop)) hL3 rfl
  refine wpAny_pure ⟨plainId_quiet _root_.PySem.F.plain_extend_loop _,key (λs' acc' c' k hS' hacc=>?_) _ _ C2.toks (λb o hb e=>?_) hL4⟩
  .show wpAny _ A (load s.heap.objs.size >>= _) _ _ s'
   exact wpAny_bind (wpAny_load hS' (wpAny_pure (fin s' acc' c' k hacc)))
  .exact(Heap.get?_update_other _ _ (Ne.symm hb)).trans ((Heap.get?_update_other _ _ (Ne.symm hb)).trans e)
 .refine wpAny_pure ⟨plainId_quiet _root_.PySem.F.plain_extend_loop _,key (λs' acc' c' k hS' hacc=>?_) _ _ C2.toks (λb o hb e=>e) hL2⟩
  show wpAny _ A (load s.heap.objs.size >>= _) _ _ s'
  exact wpAny_bind (wpAny_load hS' (wpAny_pure (fin s' acc' c' k hacc)))
end
theorem qg:∀{vs:List Value} {ys:List Str},vs.map (aN N)=ys.map some->StrsAre vs ys:=by
 intro l0
 induction l0 with
 | nil =>
  intro ys h
  cases ys with
  | nil=>exact .nil
  | cons y ys=>cases h
 | cons v vs ih =>
  intro ys h
  cases ys with
  | nil=>cases h
  | cons y ys =>
  simp only[Fp,Gu]at h
  cases v with
  | str x t =>
   obtain⟨t',h0,h1⟩:=eM (v:=.str x t) h.1
   cases h1
   exact .cons _ _ (ih h.2)
  | _=>cases h.1
theorem rD{vs:List Value}{ys:List Str}(h:vs.map (aN N)=ys.map some)(v:Value)(hv:v∈vs):w4 N v:=by
 have:aN N v∈ys.map some:=by rw[<-h];exact E9.mpr ⟨v,hv,rfl⟩
 obtain⟨y,zz,e⟩:=E9.mp this
 intro x t ev
 obtain⟨t',h0,h1⟩:=eM e.symm
 rw[h1]at ev
 cases ev
 exact h0
section
variable{Z:Cf}{A:Around}{E:Value->Shared->Prop}{s:Shared}{a:Addr}{xs:List Str}{P:Pd}
set_option maxHeartbeats 1000000 in
theorem qz(hh:A.handled=none)(hS:SetS Z s.heap s.toks a xs (ledOf Z.w))(hl:xs.length<64)(hP:P.Ok s.heap) :
  wpAny Z.M A (call (.builtin "sorted") [.ref a]) (Pst Z P s (at1 (.list ((bv xs).map PV.str)))) E s:=by
 refine Calls.call_function_entry kind_sorted plain_sorted entry_sorted (args_sorted1 _) ?_
 delta Builtin.«sorted»
 refine wpAny_bind (m:=checkCount "sorted" 1 1 _) (wpAny_pure ?_)
 refine wpAny_bind (n8 (A:=A.in1) hh hS (by rw[sizeLine_eq];exact FS (EX hl (by decide))) λvs ys s' k hvs hyp=>?_)
 have hSt:=qg hvs
 have hvl:vs.length=xs.length:=by
  have:=congrArg G7 hvs
  simp only[EN]at this
  rw[this,hyp.length_eq]
 refine wpAny_bind (wpAny_newList ?_ (by rw[hvl,sizeLine_eq];exact FS (EX hl (by decide))))
 have hoL:(s'.heap.push (seqObj "list" vs.toArray 0)).get? s'.heap.objs.size=some (seqObj "list" vs.toArray 0):=Heap.get?_push_size _ rfl
 show wpAny _ _ _ _ _ {s' with heap:=s'.heap.push (seqObj "list" vs.toArray 0)}
 refine wpAny_bind (wpAny_holding (wpAny_call_entry slot_list_sort ⟨_,hoL,rfl⟩ entry_list_sort (list_sort_treeK strKind_oneLt hoL hSt.keysOf (λEw Ex rest e=>keyKind_strs (by rw[<-e];exact hSt)) (by rw[hvl];exact hl) λst' a1 a2=>⟨_,rfl,?_⟩) (args_list_sort _)))
 refine wpAny_pure ⟨_,rfl,?_⟩
 refine cps λGq hGq=>?_
 obtain⟨ss',h1,h2,h3⟩:=sorted_out_str hSt a1 a2
 refine hGq ?_
 clear hGq
 have hss:ss'=bv xs:=pV (h2.trans hyp) (eH h3)
 subst hss
 obtain⟨n,hat⟩:=sortedHeap_at (out:=(arrOf st').map (·.2)) (vs:=vs) hoL
 have hkeep:∀b o,s'.heap.get? b=some o->(sortedHeap (s'.heap.push (seqObj "list" vs.toArray 0)) s'.heap.objs.size vs ((arrOf st').map (·.2))).get? b=some o:=by
  intro b o e
  have hlt:=Heap.lt_size e
  rw[sortedHeap_old (FG hlt) (by rw[Heap.size_push];exact FI hlt)]
  exact Heap.get?_push_of_some _ e
 have hat':(sortedHeap (s'.heap.push (seqObj "list" vs.toArray 0)) s'.heap.objs.size vs ((arrOf st').map (·.2))).get? s'.heap.objs.size=some (bY ((arrOf st').map (·.2)).toList n):=hat.trans (by delta bY seqObj;rw[Array.toArray_toList])
 generalize sortedHeap (s'.heap.push (seqObj "list" vs.toArray 0)) s'.heap.objs.size vs ((arrOf st').map (·.2))=HH at hat' hkeep ⊢
 have k':Keeps s' {s' with heap:=HH}:=⟨_,_,_,rfl,hkeep,ER _⟩
 refine⟨ktrans k k',?_⟩
 refine .list (vs:=((arrOf st').map (·.2)).toList) (n:=n) (hP.fresh _ _ _ ?_) ?_ ?_ (RS_strsAre h1 λv hv x t e=>(rD hvs v (kD a1 v hv) x t e).imp_right λh=>EX h (show s.toks<=s'.toks from ktl k))
 .cases q:s.heap.get? s'.heap.objs.size with
  | none=>rfl
  | some o=>have:=kheap k _ _ q;rw[size_none]at this;cases this
 .exact hat'
 .have hlim:=gQ
  rw[EN,hO];exact FS (EX hl (by decide))
end
end Mine
namespace Mine
open PySem PySem.SeqAt PySem.Calls PyProof.Rows
noncomputable def BH(w:World):Obj:={cls:=.type "set",dict:=none,data:=.set #[] 0 (.fresh 0 0 (ledOf w))}
section
variable{Z:Cf}{A:Around}{E:Value->Shared->Prop}{s:Shared}{P:Pd}
def zI(Z:Cf)(D C:Addr)(h:Heap)(N:Nat)(qs:List RV):Prop:=∃xs,cu (qs.map (·.d))=some xs/\SetS Z h N D (metS xs) (ledOf Z.w)
theorem uK:CMake Z .SetComp (newSet (.type "set")) (BH Z.w):=⟨λA E K s h=>by
  delta newSet
  exact wpAny_bind (byText_ok (wpAny_newObj_type h)),rfl,λh0 h=>gD h0 h,λh0 h=>gr h0 h⟩
theorem kj{a b:List PV}:∀{xs:List Str},cu (a++b)=some xs->∃ys zs,cu a=some ys/\cu b=some zs/\xs=ys++zs:=by
 induction a with
 | nil=>exact λh=>⟨[],_,rfl,h,rfl⟩
 | cons d a ih =>
  intro xs h
  obtain⟨x,h1,h2⟩:=ac (show(dS d).bind (λx=>(cu (a++b)).map (x::·))=some xs from h)
  obtain⟨ys,h3,rfl⟩:=aq h2
  obtain⟨us,zs,h4,h5,rfl⟩:=ih h3
  exact⟨x::us,zs,by show(dS d).bind (λx=>(cu a).map (x::·))=_;rw[h1,h4];rfl,h5,rfl⟩
theorem w9(xs:List Str)(x:Str):xs.length<=(addS xs x).length:=by
 delta addS
 split
 .exact ER _
 .rw[EQ];exact Ff _ _
theorem foldl_le:∀(l xs:List Str),xs.length<=(l.foldl addS xs).length:=by
 intro l0
 induction l0 with
 | nil=>exact @λxs=>ER _
 | cons x l ih=>exact @λxs=>EK (w9 xs x) (ih (addS xs x))
theorem jT(a b:List Str):metS (a++b)=b.foldl addS (metS a):=H9
theorem xe{D:Addr}{xs:List Str}{x:Str}{t:Tok}{Q:Value->Shared->Prop}(ht:t≠0/\t<s.toks)(hS:SetS Z s.heap s.toks D xs (ledOf Z.w))(hb:xs.length+1<scanBound)
  (h:∀h',Heap.SameBut D s.heap h'->SetS Z h' s.toks D (addS xs x) (ledOf Z.w)->Q .none {s with heap:=h',toks:=s.toks+1}):wpAny Z.M A (call (.builtin "set.add") [.ref D,.str x t]) Q E s:=by
 refine wpAny_call_entry _root_.PySem.F.slot_set_add hS.typeIs _root_.PySem.F.entry_set_add ?_ (_root_.PySem.F.args_set_add_2 _ _)
 delta Builtin.«set.add»
 refine wpAny_bind (wpAny_of_eq (a:=(D,Value.str x t)) rfl ?_)
 delta setAdd
 refine wpAny_bind (wpAny_holding ?_)
 refine wpAny_bind ((strKind Z.prog Z.w).pyHash (k:=x) (strKind_is _ _ _ _) ?_)
 refine w3 (s:={s with toks:=s.toks+1}) ht hS hb λC8 b hsb DL=>?_
 exact wpAny_pure ⟨_,rfl,h _ hsb DL⟩
theorem jS{rs:List RV}{elt:Expr}{xs:List Str}(hx:cu (rs.map (·.d))=some xs)(hz:(metS xs).length<5):Gather Z A P (BH Z.w) (addT elt) (zI Z) rs where
 ok:=λD C h h' N N' qs ha hN hD hP=>by
  obtain⟨ys,h1,h2⟩:=ha
  exact⟨ys,h1,(h2.at hD).up hN⟩
 inn:=λD C h N qs ha=>by
  obtain⟨ys,h1,h2⟩:=ha
  cases h2 with | mk o es ep t ho hx hd he hy hb hf hl hp=>exact⟨o,ho⟩
 zero:=λD C h N e=>⟨[],rfl,qm e⟩
 add:=λD C v z qs s E Q ha rv hpre hQ=>by
  obtain⟨ys,h1,h2⟩:=ha
  obtain⟨ts,e⟩:=hpre
  rw[e,Fc,Fc]at hx
  obtain⟨as,bs,g1,g2,rfl⟩:=kj hx
  obtain⟨us,cs,g3,g4,rfl⟩:=kj g1
  cases h1.symm.trans g3
  obtain⟨x,hx1,hx2⟩:=ac (show(dS z.d).bind (λx=>(cu []).map (x::·))=some cs from g4)
  cases hx2
  rw[dR hx1]at rv
  have hl:(metS (ys++[x])).length<5:=by
   rw[jT]at hz
   exact ES (foldl_le _ _) hz
  have hl2:(metS ys).length<5:=by
   rw[jT]at hl
   exact ES (foldl_le _ _) hl
  induction rv.s with
  | str t ht hN =>
   refine wpAny_bind (wpAny_standAt (wpAny_bind (xe ⟨ht,hN⟩ h2 (EX (HG hl2) (by decide)) λh' hs hS=>wpAny_pure (hQ h' _ (Fv _) hs ⟨ys++[x],?_,?_⟩))))
   .rw[Fc];exact g1
   .rw[jT];exact hS.up (Fv _)
theorem xJ {rs:List RV} {r:RV} {D C:Addr} {s':Shared} (hh:A.handled=none) (hP:P.Ok s.heap) (hr:kK rs=some r) (h:CompEnd P s (zI Z) rs D C s') {m:Str->Option Value} (hn:s'.heap.Ns C m) {h'':Heap} (hs:Heap.SameBut C s'.heap h''):wpAny Z.M A (call (.builtin "sorted") [.ref D]) (Pst Z P s r) E {s' with heap:=h''}:=by
 obtain⟨xs,h1,h2⟩:=h.acc
 obtain⟨ys,g1,g2⟩:=ac hr
 cases h1.symm.trans g1
 obtain⟨g3,rfl⟩:=aV g2
 have k:Keeps s {s' with heap:=h''}:=by
  obtain⟨H,t,dr,rfl,kk,ht⟩:=h.k
  exact⟨h'',t,dr,rfl,λb o e=>hs.extBut b o (ne_of_get h.nC e) (kk b o e),ht⟩
 refine wpAny_mono (qz (s:={s' with heap:=h''}) (P:=P) hh (h2.at λo e=>hs.extBut D o h.hDC e) (FZ g3 (by decide)) (hP.keeps (kheap k))) (λv C5 C9=>C9.of k) λzz zz e=>e
end
section
variable(Z:Cf)(lvl:Nat)(Φ:FTab)
abbrev EvOk(se:SExpr):Prop :=
 ∀(ce:CE) (e:Expr) (A:Around) (env:Env) (P:Pd) (σ:Sig) (s:Shared) (r:RV) (E:Value->Shared->Prop),chk se ce e=true->Cx Z lvl A env ce P σ s->aa Φ se σ=some r->wpAny Z.M A (eval e env) (Pst Z P s r) E s
abbrev TeOk(se:SExpr):Prop :=
 ∀(ce:CE) (e:Expr) (A:Around) (env:Env) (P:Pd) (σ:Sig) (s:Shared) (r:RV) (k:Bool) (E:Value->Shared->Prop),chk se ce e=true->Cx Z lvl A env ce P σ s->aa Φ se σ=some r->r.d=.bool k ->
  wpAny Z.M A (isTrue e env (eval e env)) (λb s'=>b=k/\Keeps s s') E s
structure EOk(se:SExpr):Prop where
 ev:EvOk Z lvl Φ se
 te:TeOk Z lvl Φ se
end
section
variable{Z:Cf}{lvl:Nat}{Φ:FTab}
theorem wm{α:Type}{M:Model}{A:Around}{m:Sem α}{Q Q':α->Shared->Prop}{E:Value->Shared->Prop}{s:Shared}(h:wpAny M A m Q E s)(f:∀v s',Q v s'->Q' v s'):wpAny M A m Q' E s:=wpAny_mono h f λzz zz e=>e
theorem wp_abs{α:Type}{M:Model}{A:Around}{m:Sem α}{Q:α->Shared->Prop}{E:Value->Shared->Prop}{s:Shared}(h:∀(Q':α->Shared->Prop) (E':Value->Shared->Prop),(∀v s',Q v s'->Q' v s')->(∀v s',E v s'->E' v s')->wpAny M A m Q' E' s):wpAny M A m Q E s:=h Q E (λzz zz h=>h) (λzz zz h=>h)
theorem wp{P:Pd}{A:Around}{m:Sem Value}{E:Value->Shared->Prop}{s CZ:Shared}{r:RV}(h:wpAny Z.M A m (Pst Z P CZ r) E CZ)(k:Keeps s CZ):wpAny Z.M A m (Pst Z P s r) E CZ:=wm h λzz zz h=>h.of k
theorem xI{u l:Nat}(h:u+16*l+64<cLine):u+64<cLine:=ES (F4 (Ff ..) _) h
theorem cZ(D:Wd Z){A:Around}{E:Value->Shared->Prop}{s:Shared}{env:Env}{ce:CE}{P:Pd}{σ:Sig}{f:Str}{id:String}{x:Expr}{q1 q2:Pos}{Q:Value->Shared->Prop}(X:Cx Z lvl A env ce P σ s)
  (hg:cW (ce.kind f)=true) (hst:[x].all (!aF ·)=true) (hf:f∈bltNames) (hb:bootBuiltins f=some (.builtin id)) (hd:(f==("__debug__":Str))=false) (hn:f≠("__name__":Str))
  (h:wpAny Z.M A (eval x env) (λv CZ=>wpAny Z.M A (call (.builtin id) [v]) Q E CZ) E s):wpAny Z.M A (eval (.Call (.Name f q1) [x] [] q2) env) Q E s:=by
 refine Call_Name rfl (wo D X hg hf hb hd hn ?_)
 rw[aA hst,aZ]
 exact callWith_builtin rfl (evalArgs_plain (spliced_cons (wm h λv CZ C4=>spliced_nil C4)))
theorem iG(D:Wd Z){A:Around}{E:Value->Shared->Prop}{s:Shared}{env:Env}{ce:CE}{P:Pd}{σ:Sig}{f:Str}{id:String}{x:Expr}{q1 q2:Pos}{Q:Value->Shared->Prop}(X:Cx Z lvl A env ce P σ s)
  (hg:cW (ce.kind f)=true) (hst:[x].all (!aF ·)=true) (hf:f∈bltNames) (hb:bootBuiltins f=some (.type id)) (hd:(f==("__debug__":Str))=false) (hn:f≠("__name__":Str))
  (h:wpAny Z.M A (eval x env) (λv CZ=>wpAny Z.M A (call (.type id) [v]) Q E CZ) E s):wpAny Z.M A (eval (.Call (.Name f q1) [x] [] q2) env) Q E s:=by
 refine Call_Name rfl (wo D X hg hf hb hd hn ?_)
 rw[aA hst,aZ]
 exact H5 rfl (evalArgs_plain (spliced_cons (wm h λv CZ C4=>spliced_nil C4)))
theorem wy:bootBuiltins "len"=some (.builtin "len"):=by decide +kernel
theorem jf:bootBuiltins "sorted"=some (.builtin "sorted"):=by decide +kernel
theorem pN:bootBuiltins "any"=some (.builtin "any"):=by decide +kernel
theorem oq:bootBuiltins "all"=some (.builtin "all"):=by decide +kernel
theorem qL:bootBuiltins "range"=some (.type "range"):=by decide +kernel
theorem lW:bootBuiltins "list"=some (.type "list"):=by decide +kernel
theorem tT:bootBuiltins "type"=some (.type "type"):=by decide +kernel
theorem cA{x:Str}(h:bltNames.contains x=true):x∈bltNames:=GD.mp h
theorem As {A:Around} {E:Value->Shared->Prop} {s:Shared} {P:Pd} {n:Int} {t:Tok} (hP:P.Ok s.heap) (h0:0<=n) (h1:n<=az):wpAny Z.M A (call (.type "range") [.int n t]) (Pst Z P s ⟨.rng 0 n 1,true,true⟩) E s:=by
 have hlim:=gQ
 refine tk_of (call_range_1 λht=>⟨⟨_,_,_,rfl,λzz zz e=>Heap.get?_push_of_some _ e,ht⟩,?_⟩)
 exact .rng (hP.fresh _ _ _ (size_none _)) (Heap.get?_push_size _ rfl) (by constructor<;>lia)
theorem lq{A:Around}{E:Value->Shared->Prop}{s:Shared}{env:Env}{value:Expr}{lo hi st:Option Expr}{q pos:Pos}{Q:Value->Shared->Prop}
  (h:wpAny Z.M A (eval value env) (λo CZ=>wpAny Z.M A (evalPart lo env) (λvl C2=>wpAny Z.M A (evalPart hi env) (λvu C5=>wpAny Z.M A (evalPart st env) (λvs C7 =>
   ∃l items a b c,o=.ref l/\C7.heap.IsList l items/\items.size<=sizeLine/\IsPart vl a/\IsPart vu b/\IsPart vs c/\c≠some 0 /\
    Q (.ref (C7.heap.objs.size+1)) {C7 with heap:=(C7.heap.push {cls:=.type "slice",data:=.fields #[vl,vu,vs]}).push {cls:=.type "list",data:=.seq (slicePick items a b c)}}) E C5) E C2) E CZ) E s) :
  wpAny Z.M A (eval (.Subscript value (.Slice lo hi st q) pos) env) Q E s:=by
 refine be (wpAny_mono h (λo CZ C4=>wpAny_Slice (wpAny_mono C4 (λvl C2 C8=>wpAny_mono C8 (λvu C5 C9=>wpAny_mono C9 (λvs C7 Dh=>?_) λzz zz e=>e) λzz zz e=>e) λzz zz e=>e)) λzz zz e=>e)
 obtain⟨l,items,a,b,c,rfl,hl,hsz,pa,pb,pc,hc,hQ⟩:=Dh
 refine⟨"list",_,(hl.push _).typeIs,slot_list_getitem.lookup,wpAny_getItem_list_slice (hl.push _) (Heap.IsSliceOf.new ..) pa pb pc hc ?_ hsz⟩
 rw[Heap.size_push]
 exact hQ
theorem tm{s CZ:Shared}{P:Pd}{x r:RV}{ds:List PV}{vs:List Value}{o:Obj}(hP:P.Ok s.heap)(k:Keeps s CZ)(hn:newl x.f x.c ds=some r)(rs:RS Z CZ.heap CZ.toks (P x.f x.c) vs ds) :
  Pst Z P s r (.ref (CZ.heap.objs.size+1)) {CZ with heap:=(CZ.heap.push o).push {cls:=.type "list",data:=.seq vs.toArray}}:=by
 have:=pst_newl (s':={CZ with heap:=CZ.heap.push o}) hP hn (rs.keeps (λzz zz e=>Heap.get?_push_of_some _ e) (ER _)) (ktrans k (kpush CZ o))
 rw[show({CZ with heap:=CZ.heap.push o}:Shared).heap.objs.size=CZ.heap.objs.size+1 from Heap.size_push ..]at this
 exact this
def special:SExpr->Bool
 | .not θ | .band θ | .bor θ | .ife θ ξ ζ=>true
 | _=>false
def qA:SExpr->Bool
 | .cmp .. | .isN ..=>true
 | _=>false
theorem yc{se:SExpr}(hs:special se=false)(ce:CE)(x:Expr)(q:Pos):chk se ce (.UnaryOp .Not x q)=false:=by cases se<;>first | exact Eq.refl false | cases hs
theorem q9{se:SExpr}(hs:special se=false)(ce:CE)(o:BoolOp)(l:List Expr)(q:Pos):chk se ce (.BoolOp o l q)=false:=by cases se<;>first | exact Eq.refl false | cases hs
theorem tH{se:SExpr}(hs:special se=false)(ce:CE)(x y z:Expr)(q:Pos):chk se ce (.IfExp x y z q)=false:=by cases se<;>first | exact Eq.refl false | cases hs
theorem xi{se:SExpr}(hs:special se=false)(hn:qA se=false)(ce:CE)(l:Expr)(os:List CmpOp)(rs:List Expr)(q:Pos):chk se ce (.Compare l os rs q)=false:=by cases se<;>first | exact Eq.refl false | (cases hn;done) | (cases hs;done)
theorem xK{se:SExpr}(hs:qA se=true){ce:CE}{e:Expr}(hc:chk se ce e=true):∃k,tG k e=true:=by cases se<;>first | exact⟨_,hc⟩ | exact absurd hs Gk
theorem yK{se:SExpr}(hs:special se=false){ce:CE}{l:Expr}{os:List CmpOp}{rs:List Expr}{q:Pos}(hc:chk se ce (.Compare l os rs q)=true):∃o r,os=[o]/\rs=[r]:=by
 cases hn:qA se with
 | false=>rw[xi hs hn]at hc;cases hc
 | true =>
  refine cps λGq hGq=>?_
  obtain⟨k,h⟩:=xK hn hc
  obtain⟨l',o,r,p',e,zz⟩:=io h
  refine hGq ?_
  clear hGq
  injection e with e1 e2 e3 e4
  exact⟨o,r,e2,e3⟩
theorem uH{se:SExpr}(hs:special se=false)(h:EvOk Z lvl Φ se):TeOk Z lvl Φ se:=by
 intro ce e A env P σ s r k E hc X hr hk
 have h:=h ce e A env P σ s r E hc X hr
 have tr:∀v CZ,Pst Z P s r v CZ->wpAny Z.M A (truthy v) (λb s'=>b=k/\Keeps s s') E CZ:=by
  intro v CZ k1
  have rv:=k1.2
  rw[hk]at rv
  rw[rv.b]
  exact wpAny_truthy_bool ⟨rfl,k1.1⟩
 have pl:(isTrue e env (eval e env)=(do let v <-eval e env;standAt e.pos;holding [v] (truthy v)))->wpAny Z.M A (isTrue e env (eval e env)) (λb s'=>b=k/\Keeps s s') E s:=λhe=>isTrue_plain (wm h tr) he
 cases e with
 | BoolOp o l q=>rw[q9 hs]at hc;cases hc
 | IfExp x y z q=>rw[tH hs]at hc;cases hc
 | UnaryOp o x q =>
  cases o with
  | Not=>rw[yc hs]at hc;cases hc
  | _=>exact pl rfl
 | Compare l os rs q =>
  obtain⟨o,r',rfl,rfl⟩:=yK hs hc
  have e1:isTrue (.Compare l [o] [r'] q) env (eval (.Compare l [o] [r'] q) env)=(eval (.Compare l [o] [r'] q) env >>= λc=>holding [c] (truthy c)):=by
   rw[isTrue_Compare1,eval_Compare1]
   simp only[bind_assoc]
  rw[e1];exact wpAny_bind (wm h λv CZ k1=>wpAny_holding (tr v CZ k1))
 | _=>exact pl rfl
theorem EOk.of{se:SExpr}(hs:special se=false)(h:EvOk Z lvl Φ se):EOk Z lvl Φ se:=⟨h,uH hs h⟩
abbrev LOk(Z:Cf)(lvl:Nat)(Φ:FTab)(es:List SExpr):Prop:=∀se∈es,EOk Z lvl Φ se
theorem LOk.hd{se:SExpr}{es:List SExpr}(L:LOk Z lvl Φ (se::es)):EOk Z lvl Φ se:=L se (EP ..)
theorem LOk.tl{se:SExpr}{es:List SExpr}(L:LOk Z lvl Φ (se::es)):LOk Z lvl Φ es:=λx hx=>L x (EO _ hx)
theorem cp{se:SExpr}{es:List SExpr}{ce:CE}{l:List Expr}(h:eG (se::es) ce l=true):∃x xs,l=x::xs/\chk se ce x=true/\aF x=false/\eG es ce xs=true:=by
 cases l with
 | nil=>cases h
 | cons x xs=>exact⟨x,xs,rfl,(and2 h).1,bZ (and2 (and2 h).2).1,(and2 (and2 h).2).2⟩
theorem mD{es:List SExpr}{ce:CE}:∀{l:List Expr},eG es ce l=true->l.all (!aF ·)=true:=by
 induction es with
 | nil=>intro l h;rw[isEmpty_of h];rfl
 | cons se es ih =>
  intro l h
  obtain⟨x,xs,rfl,zz,h2,h3⟩:=cp h
  rw[F5,h2,ih h3];rfl
theorem df{se:SExpr}{es:List SExpr}{σ:Sig}{rs:List RV}(h:bB Φ (se::es) σ=some rs):∃r rs',aa Φ se σ=some r/\bB Φ es σ=some rs'/\rs=r::rs':=by
 refine cps λGq hGq=>?_
 obtain⟨r,h1,hA⟩:=ac h
 obtain⟨rs',h2,hB⟩:=ac hA
 refine hGq ?_
 clear hGq
 exact⟨r,rs',h1,h2,(ET hB).symm⟩
theorem wP{es:List SExpr}(L:LOk Z lvl Φ es):∀(ce:CE) (l:List Expr) (A:Around) (env:Env) (P:Pd) (σ:Sig) (s:Shared) (rs:List RV) (E:Value->Shared->Prop),eG es ce l=true->Cx Z lvl A env ce P σ s->bB Φ es σ=some rs ->
  wpAny Z.M A (spliced (l.map λe=>(false,eval e env))) (λvs s'=>Keeps s s'/\RL Z s'.heap s'.toks P vs rs) E s:=by
 induction es with
 | nil =>
  intro ce l A env P σ s rs E hc X h
  rw[isEmpty_of hc]
  cases h
  exact spliced_nil ⟨krefl s,.nil⟩
 | cons se es ih =>
  intro ce l A env P σ s rs E hc X h
  obtain⟨x,xs,rfl,h1,h2,h3⟩:=cp hc
  obtain⟨r,rs',hr,hrs,rfl⟩:=df h
  exact spliced_cons (wm (L.hd.ev ce x A env P σ s r E h1 X hr) λv CZ k1=>wm (ih L.tl ce xs A env P σ CZ rs' E h3 (X.keeps k1.1) hrs) λvs C2 k2=>⟨ktrans k1.1 k2.1,.cons (k1.2.kp k2.1) k2.2⟩)
theorem o8{se:SExpr}{es:List SExpr}{σ:Sig}{k:Bool}(h:fW Φ (se::es) σ=some k):∃r b,aa Φ se σ=some r/\r.d=.bool b/\(if b then fW Φ es σ else some false)=some k:=by
 refine cps λGq hGq=>?_
 obtain⟨r,h1,hA⟩:=ac h
 obtain⟨b,h2,hB⟩:=ac hA
 refine hGq ?_
 clear hGq
 exact⟨r,b,h1,bI h2,hB⟩
theorem so{se:SExpr}{es:List SExpr}{σ:Sig}{k:Bool}(h:jN Φ (se::es) σ=some k):∃r b,aa Φ se σ=some r/\r.d=.bool b/\(if b then some true else jN Φ es σ)=some k:=by
 refine cps λGq hGq=>?_
 obtain⟨r,h1,hA⟩:=ac h
 obtain⟨b,h2,hB⟩:=ac hA
 refine hGq ?_
 clear hGq
 exact⟨r,b,h1,bI h2,hB⟩
theorem pS{P:Pd}{s CZ:Shared}{r:RV}{v:Value}{b:Bool}(h:Pst Z P s r v CZ)(hb:r.d=.bool b):v=.bool b:=by
 have rv:=h.2
 rw[hb]at rv
 exact rv.b
theorem evAnd{es:List SExpr}(L:LOk Z lvl Φ es):∀(ce:CE) (l:List Expr) (A:Around) (env:Env) (P:Pd) (σ:Sig) (s:Shared) (k:Bool) (E:Value->Shared->Prop) (q:Pos),eG es ce l=true->l≠[]->Cx Z lvl A env ce P σ s->fW Φ es σ=some k ->
  wpAny Z.M A (eval (.BoolOp .And l q) env) (Pst Z P s (at1 (.bool k))) E s:=by
 induction es with
 | nil=>exact λce l A env P σ s k E q hc hne=>absurd (isEmpty_of hc) hne
 | cons se es ih =>
  intro ce l A env P σ s k E q hc hne X h
  obtain⟨x,xs,rfl,h1,h2,h3⟩:=cp hc
  refine cps λGq hGq=>?_
  obtain⟨r,b,hr,hb,hk⟩:=o8 h
  refine hGq ?_
  clear hGq
  have hx:=L.hd.ev ce x A env P σ s r E h1 X hr
  cases xs with
  | nil =>
   cases es with
   | cons zz zz=>cases h3
   | nil =>
    refine BoolOp_one (wm hx λv CZ k1=>?_)
    rw[pS k1 hb]
    have:b=k:=by cases b<;>exact ET hk
    rw[this]
    exact av k1.1
  | cons x2 xs =>
   refine BoolOp_and (wm hx λv CZ k1=>?_)
   rw[pS k1 hb]
   refine wpAny_truthy_bool ?_
   cases b with
   | true=>exact wp (ih L.tl ce (x2::xs) A env P σ CZ k E q h3 (FQ _ _) (X.keeps k1.1) hk) k1.1
   | false=>cases hk;exact av k1.1
theorem BU{es:List SExpr}(L:LOk Z lvl Φ es):∀(ce:CE) (l:List Expr) (A:Around) (env:Env) (P:Pd) (σ:Sig) (s:Shared) (k:Bool) (E:Value->Shared->Prop) (q:Pos),eG es ce l=true->l≠[]->Cx Z lvl A env ce P σ s->jN Φ es σ=some k ->
  wpAny Z.M A (eval (.BoolOp .Or l q) env) (Pst Z P s (at1 (.bool k))) E s:=by
 induction es with
 | nil=>exact λce l A env P σ s k E q hc hne=>absurd (isEmpty_of hc) hne
 | cons se es ih =>
  intro ce l A env P σ s k E q hc hne X h
  obtain⟨x,xs,rfl,h1,h2,h3⟩:=cp hc
  refine cps λGq hGq=>?_
  obtain⟨r,b,hr,hb,hk⟩:=so h
  refine hGq ?_
  clear hGq
  have hx:=L.hd.ev ce x A env P σ s r E h1 X hr
  cases xs with
  | nil =>
   cases es with
   | cons zz zz=>cases h3
   | nil =>
    refine BoolOp_one (wm hx λv CZ k1=>?_)
    rw[pS k1 hb]
    have:b=k:=by cases b<;>exact ET hk
    rw[this]
    exact av k1.1
  | cons x2 xs =>
   refine BoolOp_or (wm hx λv CZ k1=>?_)
   rw[pS k1 hb]
   refine wpAny_truthy_bool ?_
   cases b with
   | false=>exact wp (ih L.tl ce (x2::xs) A env P σ CZ k E q h3 (FQ _ _) (X.keeps k1.1) hk) k1.1
   | true=>cases hk;exact av k1.1
theorem Bq{es:List SExpr}(L:LOk Z lvl Φ es):∀(ce:CE) (l:List Expr) (A:Around) (env:Env) (P:Pd) (σ:Sig) (s:Shared) (k:Bool) (E:Value->Shared->Prop) (q:Pos) (whole:Sem Value),eG es ce l=true->Cx Z lvl A env ce P σ s->fW Φ es σ=some k ->
  wpAny Z.M A (isTrue (.BoolOp .And l q) env whole) (λb s'=>b=k/\Keeps s s') E s:=by
 induction es with
 | nil =>
  intro ce l A env P σ s k E q wh hc X h
  rw[isEmpty_of hc]
  cases h
  exact isTrue_and_nil ⟨rfl,krefl s⟩
 | cons se es ih =>
  intro ce l A env P σ s k E q wh hc X h
  obtain⟨x,xs,rfl,h1,h2,h3⟩:=cp hc
  refine cps λGq hGq=>?_
  obtain⟨r,b,hr,hb,hk⟩:=o8 h
  refine hGq ?_
  clear hGq
  refine isTrue_and (wm (L.hd.te ce x A env P σ s r b E h1 X hr hb) λc CZ C4=>?_)
  obtain⟨rfl,k1⟩:=C4
  cases c with
  | true=>exact wm (ih L.tl ce xs A env P σ CZ k E q wh h3 (X.keeps k1) hk) λv C2 C8=>⟨C8.1,ktrans k1 C8.2⟩
  | false=>cases hk;exact⟨rfl,k1⟩
theorem BR{es:List SExpr}(L:LOk Z lvl Φ es):∀(ce:CE) (l:List Expr) (A:Around) (env:Env) (P:Pd) (σ:Sig) (s:Shared) (k:Bool) (E:Value->Shared->Prop) (q:Pos) (whole:Sem Value),eG es ce l=true->Cx Z lvl A env ce P σ s->jN Φ es σ=some k ->
  wpAny Z.M A (isTrue (.BoolOp .Or l q) env whole) (λb s'=>b=k/\Keeps s s') E s:=by
 induction es with
 | nil =>
  intro ce l A env P σ s k E q wh hc X h
  rw[isEmpty_of hc]
  cases h
  exact isTrue_or_nil ⟨rfl,krefl s⟩
 | cons se es ih =>
  intro ce l A env P σ s k E q wh hc X h
  obtain⟨x,xs,rfl,h1,h2,h3⟩:=cp hc
  refine cps λGq hGq=>?_
  obtain⟨r,b,hr,hb,hk⟩:=so h
  refine hGq ?_
  clear hGq
  refine isTrue_or (wm (L.hd.te ce x A env P σ s r b E h1 X hr hb) λc CZ C4=>?_)
  obtain⟨rfl,k1⟩:=C4
  cases c with
  | false=>exact wm (ih L.tl ce xs A env P σ CZ k E q wh h3 (X.keeps k1) hk) λv C2 C8=>⟨C8.1,ktrans k1 C8.2⟩
  | true=>cases hk;exact⟨rfl,k1⟩
inductive NameV(Z:Cf)(A:Around)(env:Env)(ce:CE)(P:Pd)(s:Shared)(i:Nat)(r:RV):Prop
 | mk (v:Value):R Z s.heap s.toks (P r.f r.c) v r.d->(∀(e:Expr) (s':Shared) (Q:Value->Shared->Prop) (E:Value->Shared->Prop),iI ce i e=true->Keeps s s'->Q v s'->wpAny Z.M A (eval e env) Q E s')->NameV Z A env ce P s i r
theorem i8{ce:CE}{e:Expr}{A:Around}{env:Env}{P:Pd}{σ:Sig}{s:Shared}{r:RV}{i:Nat}(hc:iI ce i e=true)(X:Cx Z lvl A env ce P σ s)(h:(σ[i]?).join=some r):NameV Z A env ce P s i r:=by
 obtain⟨x,⟨q,rfl⟩,hd⟩:=ag hc
 obtain⟨h1,hd⟩:=and2 hd
 have h5:σ[i]?= some (some r):=by
  cases hq:σ[i]? with
  | none=>rw[hq]at h;cases h
  | some o=>rw[hq]at h;exact congrArg some h
 obtain⟨v,l,rv⟩:=X.rd x i r (eq_of_beq h1) (and2 hd).1 h5
 refine⟨v,rv,λe s' Q E hc' k hq=>?_⟩
 obtain⟨x',⟨q,rfl⟩,hd'⟩:=ag hc'
 refine cps λGq hGq=>?_
 obtain⟨h1',hd'⟩:=and2 hd'
 obtain⟨j,e1,g1⟩:=cX (eq_of_beq h1:lastIdx x ce.names 0=some i)
 obtain⟨j',e2,g2⟩:=cX (eq_of_beq h1':lastIdx x' ce.names 0=some i)
 refine hGq ?_
 clear hGq
 have:j=j':=Nat.add_left_cancel (e1.symm.trans e2)
 subst this
 cases g1.symm.trans g2
 exact gN X.fn (l.keeps (kheap k)) (bZ (and2 (and2 hd').2).1) (bZ (and2 (and2 hd').2).2) hq
theorem lT(i:Nat):EvOk Z lvl Φ (.var i):=by
 intro ce e A env P σ s r E hc X h
 obtain⟨v,rv,l⟩:=i8 hc X h
 exact l e s _ E hc (krefl s) ⟨krefl s,rv⟩
theorem bN{ce:CE}{c:Const}{e:Expr}(hc:(aH (cT e) λc'=>c'==c)=true):∃k p,e=.Constant c k p:=by
 obtain⟨c',⟨k,q,rfl⟩,hA⟩:=ag hc
 exact⟨k,q,by rw[eq_of_beq hA]⟩
theorem qB:EvOk Z lvl Φ .none:=by
 intro ce e A env P σ s r E hc X h
 obtain⟨k,q,rfl⟩:=bN (ce:=ce) hc
 cases h
 exact wpAny_pure (aL (krefl s) .none rfl)
theorem qo(b:Bool):EvOk Z lvl Φ (.bool b):=by
 intro ce e A env P σ s r E hc X h
 obtain⟨k,q,rfl⟩:=bN (ce:=ce) hc
 cases h
 exact wpAny_pure (av (krefl s))
theorem uf(i:Int):EvOk Z lvl Φ (.int i):=by
 intro ce e A env P σ s r E hc X h
 obtain⟨k,q,rfl⟩:=bN (ce:=ce) hc
 cases h
 exact wpAny_Constant_int (aL (br s) (.int _ _) rfl)
theorem tY(x:Str):EvOk Z lvl Φ (.str x):=by
 intro ce e A env P σ s r E hc X h
 obtain⟨k,q,rfl⟩:=bN (ce:=ce) hc
 cases h
 exact Constant_str (m9 (br s) X.tk (E7 _))
theorem qU{es:List SExpr}(L:LOk Z lvl Φ es):EvOk Z lvl Φ (.list es):=by
 intro ce e A env P σ s r E hc X h
 obtain⟨l,⟨q,rfl⟩,hc⟩:=ag hc
 obtain⟨rs,hrs,hr⟩:=ac h
 refine wpAny_List_spliced ?_
 rw[aA (mD hc),aZ]
 refine wm (wP L ce l A env P σ s rs E hc X hrs) λvs CZ C4=>⟨?_,pst_newl X.pd hr (C4.2.toRS X.pd.mono) C4.1⟩
 have hz:=(jI hr).2
 rw[EN]at hz
 rw[C4.2.length];exact EK hz lim_size
theorem ev_tup_ok{es:List SExpr}(L:LOk Z lvl Φ es):EvOk Z lvl Φ (.tup es):=by
 intro ce e A env P σ s r E hc X h
 obtain⟨l,⟨k,q,rfl⟩,hc⟩:=ag hc
 obtain⟨rs,hrs,hr⟩:=ac h
 obtain⟨hz,rfl⟩:=aV hr
 refine wpAny_Tuple_spliced ?_
 rw[aA (mD hc),aZ]
 refine wm (wP L ce l A env P σ s rs E hc X hrs) λvs CZ C4=>?_
 obtain⟨k1,rl⟩:=C4
 exact⟨by rw[rl.length];exact EK hz.1 lim_size,ktrans k1 (kpush _ _),.tup ((X.pd.keeps (kheap k1)).fresh _ _ _ (size_none _)) (Heap.get?_push_size _ rfl) (by rw[EN];exact hz.1) ((rl.toRS X.pd.mono).keeps (λzz zz e=>Heap.get?_push_of_some _ e) (ER _)) hz.2⟩
section
variable{a b i t:SExpr}
theorem ug(op:Operator)(ha:EOk Z lvl Φ a)(hb:EOk Z lvl Φ b):EvOk Z lvl Φ (.bin op a b):=by
 intro ce e A env P σ s r E hc X h
 obtain⟨y,⟨q,rfl⟩,hd⟩:=ag hc
 refine cps λGq hGq=>?_
 obtain⟨h1,hd⟩:=and2 hd
 obtain⟨h2,h3⟩:=and2 hd
 obtain⟨x,hx,hA⟩:=ac h
 obtain⟨z,hz,hr⟩:=ac hA
 refine hGq ?_
 clear hGq
 refine wpAny_BinOp (wm (ha.ev ce _ A env P σ s x E h2 X hx) λvx CZ k1=>wm (hb.ev ce _ A env P σ CZ z E h3 (X.keeps k1.1) hz) λvy C2 k2=>?_)
 rw[eq_of_beq h1]
 exact wp (z6 ((X.keeps k1.1).keeps k2.1).tk hr ((X.keeps k1.1).keeps k2.1).pd (k1.2.kp k2.1) k2.2) (ktrans k1.1 k2.1)
theorem sK(ha:EOk Z lvl Φ a)(hi:EOk Z lvl Φ i):EvOk Z lvl Φ (.idx a i):=by
 intro ce e A env P σ s r E hc X h
 obtain⟨y,⟨q,rfl⟩,hd⟩:=ag hc
 refine cps λGq hGq=>?_
 obtain⟨h1,hd⟩:=and2 hd
 obtain⟨h2,h3⟩:=and2 hd
 obtain⟨x,hx,hA⟩:=ac h
 obtain⟨z,hz,hr⟩:=ac hA
 refine hGq ?_
 clear hGq
 refine be (wm (ha.ev ce _ A env P σ s x E h2 X hx) λvx CZ k1=>wm (hi.ev ce _ A env P σ CZ z E h3 (X.keeps k1.1) hz) λvy C2 k2=>?_)
 exact(zR (A:=A) (E:=E) ((X.keeps k1.1).keeps k2.1).tk hr (k1.2.kp k2.1) k2.2).imp λT' q=>q.imp λid q=>⟨q.1,q.2.1,wp q.2.2 (ktrans k1.1 k2.1)⟩
theorem ov{value:Expr}{lo hi st:Option Expr}{q pos:Pos}{ds es:List PV}{ce:CE}{A:Around}{env:Env}{P:Pd}{σ:Sig}{s:Shared}{x r:RV}{E:Value->Shared->Prop}{pa pb pc:Option Int}(X:Cx Z lvl A env ce P σ s)(hv:wpAny Z.M A (eval value env) (Pst Z P s x) E s)(hx:dL x.d=some ds)(hn:newl x.f x.c es=some r)
  (hc:pc≠some 0) (hes:∀(vs:List Value) (h:Heap) (N:Nat),RS Z h N (P x.f x.c) vs ds->∃us,slicePick vs.toArray pa pb pc=us.toArray/\RS Z h N (P x.f x.c) us es)
  (hl:∀CZ,Keeps s CZ->wpAny Z.M A (evalPart lo env) (λvl C2=>Keeps CZ C2/\IsPart vl pa) E CZ) (hu:∀CZ,Keeps s CZ->wpAny Z.M A (evalPart hi env) (λvl C2=>Keeps CZ C2/\IsPart vl pb) E CZ) (hs:∀CZ,Keeps s CZ->wpAny Z.M A (evalPart st env) (λvl C2=>Keeps CZ C2/\IsPart vl pc) E CZ) :
  wpAny Z.M A (eval (.Subscript value (.Slice lo hi st q) pos) env) (Pst Z P s r) E s:=by
 refine lq (wm hv λo CZ k1=>wm (hl CZ k1.1) λvl C2 k2=>wm (hu C2 (ktrans k1.1 k2.1)) λvu C5 k3=>wm (hs C5 (ktrans (ktrans k1.1 k2.1) k3.1)) λvs C7 k4=>?_)
 have k14:=ktrans (ktrans k2.1 k3.1) k4.1
 have rx:=k1.2.kp k14
 rw[dL_eq hx]at rx
 induction rx.l with
 | list pa' ea za ra =>
  obtain⟨us,e1,ru⟩:=hes _ _ _ ra
  refine⟨_,_,pa,pb,pc,rfl,ak ea,?_,k2.2,k3.2,k4.2,hc,?_⟩
  .rw[FJ,ra.length];exact EK za lim_size
  .rw[e1];exact tm X.pd (ktrans k1.1 k14) hn ru
theorem eD{A:Around}{env:Env}{s:Shared}{E:Value->Shared->Prop}(CZ:Shared)(_:Keeps s CZ):wpAny Z.M A (evalPart none env) (λvl C2=>Keeps CZ C2/\IsPart vl none) E CZ:=wpAny_pure ⟨krefl CZ,.none⟩
theorem pu(ha:EOk Z lvl Φ a)(hi:EOk Z lvl Φ i):EvOk Z lvl Φ (.sfrom a i):=by
 intro ce e A env P σ s r E hc X h
 obtain⟨v,l,u,st,q1,q2,rfl,hd⟩:=gS hc
 refine cps λGq hGq=>?_
 obtain⟨h1,hd⟩:=and2 hd
 obtain⟨h2,hd⟩:=and2 hd
 obtain⟨h3,hd⟩:=and2 hd
 refine hGq ?_
 clear hGq
 obtain⟨y,rfl,h4⟩:=ag hd
 refine cps λGq hGq=>?_
 obtain⟨x,hx,hA⟩:=ac h
 obtain⟨z,hz,hB⟩:=ac hA
 obtain⟨ds,hds,hC⟩:=ac hB
 obtain⟨k,hk,hD⟩:=ac hC
 obtain⟨h0,hn⟩:=ifo_of hD
 refine hGq ?_
 clear hGq
 rw[cc h1,cc h2]
 refine ov (pa:=some k) (pb:=none) (pc:=none) X (ha.ev ce v A env P σ s x E h3 X hx) hds hn (λe=>yP e) (λvs hd N rs=>⟨vs.drop k.toNat,?_,rs.drop k.toNat⟩) (λCZ k1=>wm (hi.ev ce y A env P σ CZ z E h4 (X.keeps k1) hz) λvl C2 k2=>⟨k2.1,?_⟩) eD eD
 .rw[<-FE h0,slicePick_from',FE h0]
 .have ry:=k2.2
  rw[dI_eq hk]at ry
  induction ry.i with | int t=>exact .int _ _
theorem uh(op:CmpOp)(ha:EOk Z lvl Φ a)(hb:EOk Z lvl Φ b):EvOk Z lvl Φ (.cmp op a b):=by
 intro ce e A env P σ s r E hc X h
 obtain⟨l,o,r',q,rfl,hd⟩:=io hc
 refine cps λGq hGq=>?_
 obtain⟨h1,hd⟩:=and2 hd
 obtain⟨h2,hd⟩:=and2 hd
 obtain⟨h3,h4⟩:=and2 hd
 obtain⟨x,hx,hA⟩:=ac h
 obtain⟨y,hy,hB⟩:=ac hA
 refine hGq ?_
 clear hGq
 obtain⟨k,hk,rfl⟩:=aq hB
 refine wpAny_Compare1 (wm (ha.ev ce l A env P σ s x E h2 X hx) λvx CZ k1=>wm (hb.ev ce r' A env P σ CZ y E h3 (X.keeps k1.1) hy) λvy C2 k2=>?_) (nv (bZ h4))
 rw[eq_of_beq h1]
 exact wp (zU (P:=P) hk (k1.2.kp k2.1) k2.2 (xI X.hu)) (ktrans k1.1 k2.1)
theorem xz{h:Heap}{N:Nat}{Q:Addr->Prop}{v:Value}{d:PV}(x:R Z h N Q v d):plainIs v Value.none=true/\(v==Value.none)=(dU d).isSome:=by
 cases x<;>exact⟨rfl,rfl⟩
theorem tL(neg:Bool)(ha:EOk Z lvl Φ a):EvOk Z lvl Φ (.isN neg a):=by
 intro ce e A env P σ s r E hc X h
 obtain⟨l,o,r',q,rfl,hd⟩:=io hc
 obtain⟨h1,hd⟩:=and2 hd
 obtain⟨h2,h3⟩:=and2 hd
 obtain⟨k',q',rfl⟩:=bN (ce:=ce) h3
 obtain⟨x,hx,rfl⟩:=aq h
 refine wpAny_Compare1 (wm (ha.ev ce l A env P σ s x E h2 X hx) λvx CZ k1=>wpAny_pure ?_) rfl
 obtain⟨hp,hv⟩:=xz k1.2
 rw[eq_of_beq h1,<-hv]
 cases neg with
 | true =>
  refine wpAny_isNot_plain hp ?_
  rw[Bool.bne_true]
  exact av k1.1
 | false =>
  refine wpAny_is_plain hp ?_
  rw[Bool.bne_false]
  exact av k1.1
theorem tS:bootBuiltins "bool"=some (.type "bool"):=by decide +kernel
theorem yu{es:List SExpr}(L:LOk Z lvl Φ es):EOk Z lvl Φ (.band es):=by
 constructor
 .intro ce e A env P σ s r E hc X h
  obtain⟨y,⟨q,rfl⟩,hd⟩:=ag hc
  obtain⟨h1,hd⟩:=and2 hd
  obtain⟨h2,h3⟩:=and2 hd
  obtain⟨k,hk,rfl⟩:=aq h
  rw[eq_of_beq h1]
  exact evAnd L ce _ A env P σ s k E q h2 (λe=>by rw[e]at h3;cases h3) X hk
 .intro ce e A env P σ s r k E hc X h hr
  obtain⟨y,⟨q,rfl⟩,hd⟩:=ag hc
  obtain⟨h1,hd⟩:=and2 hd
  obtain⟨k',hk,rfl⟩:=aq h
  cases hr
  rw[eq_of_beq h1]
  exact Bq L ce _ A env P σ s k E q _ (and2 hd).1 X hk
theorem zF{es:List SExpr}(L:LOk Z lvl Φ es):EOk Z lvl Φ (.bor es):=by
 constructor
 .intro ce e A env P σ s r E hc X h
  obtain⟨y,⟨q,rfl⟩,hd⟩:=ag hc
  obtain⟨h1,hd⟩:=and2 hd
  obtain⟨h2,h3⟩:=and2 hd
  obtain⟨k,hk,rfl⟩:=aq h
  rw[eq_of_beq h1]
  exact BU L ce _ A env P σ s k E q h2 (λe=>by rw[e]at h3;cases h3) X hk
 .intro ce e A env P σ s r k E hc X h hr
  obtain⟨y,⟨q,rfl⟩,hd⟩:=ag hc
  obtain⟨h1,hd⟩:=and2 hd
  obtain⟨k',hk,rfl⟩:=aq h
  cases hr
  rw[eq_of_beq h1]
  exact BR L ce _ A env P σ s k E q _ (and2 hd).1 X hk
theorem zK(ha:EOk Z lvl Φ a):EOk Z lvl Φ (.not a):=by
 constructor
 .intro ce e A env P σ s r E hc X h
  obtain⟨x,⟨q,rfl⟩,hd⟩:=ag hc
  refine cps λGq hGq=>?_
  obtain⟨h1,h2⟩:=and2 hd
  obtain⟨y,hy,hA⟩:=ac h
  refine hGq ?_
  clear hGq
  obtain⟨k,hk,rfl⟩:=aq hA
  rw[eq_of_beq h1,arm_eval_UnaryOp]
  refine wpAny_bind (wm (ha.ev ce _ A env P σ s y E h2 X hy) λv CZ k1=>wpAny_bind (wpAny_standAt (wpAny_holding (not_of ?_))))
  rw[pS k1 (bI hk)]
  exact wpAny_truthy_bool (av k1.1)
 .intro ce e A env P σ s r k E hc X h hr
  obtain⟨x,⟨q,rfl⟩,hd⟩:=ag hc
  refine cps λGq hGq=>?_
  obtain⟨h1,h2⟩:=and2 hd
  obtain⟨y,hy,hA⟩:=ac h
  refine hGq ?_
  clear hGq
  obtain⟨k',hk',rfl⟩:=aq hA
  cases hr
  rw[eq_of_beq h1]
  exact isTrue_not (wm (ha.te ce _ A env P σ s y k' E h2 X hy (bI hk')) λc CZ C4=>⟨by rw[C4.1],C4.2⟩)
theorem Az(ht:EOk Z lvl Φ t)(ha:EOk Z lvl Φ a)(hb:EOk Z lvl Φ b):EOk Z lvl Φ (.ife t a b):=by
 constructor
 .intro ce e A env P σ s r E hc X h
  obtain⟨x,⟨q,rfl⟩,hd⟩:=ag hc
  refine cps λGq hGq=>?_
  obtain⟨h1,hd⟩:=and2 hd
  obtain⟨h2,h3⟩:=and2 hd
  obtain⟨u,hu,hA⟩:=ac h
  obtain⟨k,hk,hr⟩:=ac hA
  refine hGq ?_
  clear hGq
  refine IfExp_ (wm (ht.te ce _ A env P σ s u k E h1 X hu (bI hk)) λc CZ C4=>?_)
  obtain⟨rfl,k1⟩:=C4
  cases c with
  | true=>exact wp (ha.ev ce _ A env P σ CZ r E h2 (X.keeps k1) hr) k1
  | false=>exact wp (hb.ev ce _ A env P σ CZ r E h3 (X.keeps k1) hr) k1
 .intro ce e A env P σ s r k E hc X h hk
  obtain⟨x,⟨q,rfl⟩,hd⟩:=ag hc
  refine cps λGq hGq=>?_
  obtain⟨h1,hd⟩:=and2 hd
  obtain⟨h2,h3⟩:=and2 hd
  obtain⟨u,hu,hA⟩:=ac h
  obtain⟨k',hk',hr⟩:=ac hA
  refine hGq ?_
  clear hGq
  refine isTrue_IfExp (wm (ht.te ce _ A env P σ s u k' E h1 X hu (bI hk')) λc CZ C4=>?_)
  obtain⟨rfl,k1⟩:=C4
  cases c with
  | true=>exact wm (ha.te ce _ A env P σ CZ r k E h2 (X.keeps k1) hr hk) λv C2 C8=>⟨C8.1,ktrans k1 C8.2⟩
  | false=>exact wm (hb.te ce _ A env P σ CZ r k E h3 (X.keeps k1) hr hk) λv C2 C8=>⟨C8.1,ktrans k1 C8.2⟩
theorem qO(T:Ctr Z lvl Φ)(f:Str){es:List SExpr}(L:LOk Z lvl Φ es):EvOk Z lvl Φ (.call f es):=by
 intro ce e A env P σ s r E hc X h
 obtain⟨as,q1,q2,rfl,h1,h3,hd⟩:=i7 hc
 refine cps λGq hGq=>?_
 obtain⟨h2,hd5⟩:=and2 hd
 obtain⟨hne,h5⟩:=and2 hd5
 obtain⟨h5,h6⟩:=and2 h5
 obtain⟨rs,hrs,hA⟩:=ac h
 refine hGq ?_
 clear hGq
 obtain⟨⟨d,fr⟩,Ey,rfl⟩:=aq hA
 have hrn:rs.map (·.d)≠[]:=λe=>by
  cases es with
  | nil=>cases hne
  | cons se es =>
   obtain⟨r,rs',zz,zz,rfl⟩:=df hrs
   cases e
 refine cps λGq hGq=>?_
 obtain⟨fa,hmg,hfn,hcall⟩:=T f (rs.map (·.d)) d fr hrn (beq_eq_false_iff_ne.mp (bZ h6)) Ey
 refine hGq ?_
 clear hGq
 refine Call_Name rfl (v4 X h1 hmg (bZ h5) ?_)
 rw[aA h3,aZ]
 refine cps λGq hGq=>?_
 obtain⟨o,fd,ho,hfd⟩:=hfn s.heap X.top
 refine hGq ?_
 clear hGq
 have main:∀vs CZ,Keeps s CZ/\RL Z CZ.heap CZ.toks P vs rs->(CZ.heap.get? fa=some o/\o.data=.func fd)/\wpAny Z.M A (call (.ref fa) ([]++vs) []) (Pst Z P s ⟨d,fr||d.atom||rs.all (·.f),fr||d.atom||rs.all (·.c)⟩) E CZ:=by
  intro vs CZ hk
  obtain⟨k1,rl⟩:=hk
  have X1:=X.keeps k1
  refine⟨⟨kheap k1 _ _ ho,hfd⟩,wm (hcall A E CZ vs (P (rs.all (·.f)) (rs.all (·.c))) X.hh X.hd X.hu X1.top X1.tk (λb hb=>X1.pd.fresh _ _ b hb) (rl.toRS X.pd.mono)) λv C2 C8=>⟨ktrans k1 C8.1,?_⟩⟩
  show R Z C2.heap C2.toks (P (fr||d.atom||rs.all (·.f)) (fr||d.atom||rs.all (·.c))) v d
  cases ha:d.atom with
  | true=>exact C8.2.atom ha (ER _)
  | false =>
   cases fr with
   | true=>exact C8.2.mono λb hb=>X1.pd.fresh _ _ b (hb.2 rfl)
   | false=>exact C8.2.mono λb hb=>hb.1
 cases as with
 | nil =>
  have:es=[]:=by cases es with | nil=>rfl | cons _ _=>cases h2
  subst this
  cases hrs
  exact callWith_function (o:=o) (fd:=fd) (evalArgs_nil3 (main [] s ⟨krefl s,.nil⟩))
 | cons a as=>exact callWith_function (o:=o) (fd:=fd) (evalArgs_plain (wm (wP L ce _ A env P σ s rs E h2 X hrs) main))
variable(D:Wd Z)
include D in
theorem sP(ha:EOk Z lvl Φ a):EvOk Z lvl Φ (.len a):=by
 intro ce e A env P σ s r E hc X h
 obtain⟨x,q1,q2,rfl,hg,hst,hd⟩:=bF hc
 obtain⟨y,hy,hA⟩:=ac h
 obtain⟨n,hn,rfl⟩:=aq hA
 exact cZ D X hg hst (cA (by decide +kernel)) wy (by decide +kernel) (by decide +kernel) (wm (ha.ev ce x A env P σ s y E hd X hy) λv CZ k1=>wp (Ac (P:=P) hn k1.2) k1.1)
include D in
theorem nJ(ha:EOk Z lvl Φ a):EvOk Z lvl Φ (.sorted a):=by
 intro ce e A env P σ s r E hc X h
 obtain⟨x,q1,q2,rfl,hg,hst,hd⟩:=bF hc
 refine cps λGq hGq=>?_
 obtain⟨y,hy,hA⟩:=ac h
 obtain⟨ds,hds,hB⟩:=ac hA
 obtain⟨xs,hxs,hC⟩:=ac hB
 refine hGq ?_
 clear hGq
 obtain⟨hl,rfl⟩:=aV hC
 refine cZ D X hg hst (cA (by decide +kernel)) jf (by decide +kernel) (by decide +kernel) (wm (ha.ev ce x A env P σ s y E hd X hy) λv CZ k1=>?_)
 have rv:=k1.2
 rw[dL_eq hds]at rv
 exact wp (op_sorted (P:=P) rv hxs hl (X.keeps k1.1).pd) k1.1
include D in
theorem tI(ha:EOk Z lvl Φ a):EvOk Z lvl Φ (.all a):=by
 intro ce e A env P σ s r E hc X h
 obtain⟨x,q1,q2,rfl,hg,hst,hd⟩:=bF hc
 refine cps λGq hGq=>?_
 obtain⟨y,hy,hA⟩:=ac h
 obtain⟨ds,hds,hB⟩:=ac hA
 refine hGq ?_
 clear hGq
 obtain⟨xs,hxs,rfl⟩:=aq hB
 refine cZ D X hg hst (cA (by decide +kernel)) oq (by decide +kernel) (by decide +kernel) (wm (ha.ev ce x A env P σ s y E hd X hy) λv CZ k1=>?_)
 have rv:=k1.2
 rw[dL_eq hds]at rv
 exact wp (op_all (P:=P) X.hh hxs rv) k1.1
include D in
theorem tA(ha:EOk Z lvl Φ a):EvOk Z lvl Φ (.any a):=by
 intro ce e A env P σ s r E hc X h
 obtain⟨x,q1,q2,rfl,hg,hst,hd⟩:=bF hc
 refine cps λGq hGq=>?_
 obtain⟨y,hy,hA⟩:=ac h
 obtain⟨ds,hds,hB⟩:=ac hA
 refine hGq ?_
 clear hGq
 obtain⟨xs,hxs,rfl⟩:=aq hB
 refine cZ D X hg hst (cA (by decide +kernel)) pN (by decide +kernel) (by decide +kernel) (wm (ha.ev ce x A env P σ s y E hd X hy) λv CZ k1=>?_)
 have rv:=k1.2
 rw[dL_eq hds]at rv
 exact wp (op_any (P:=P) X.hh hxs rv) k1.1
include D in
theorem pf(ha:EOk Z lvl Φ a):EvOk Z lvl Φ (.range a):=by
 intro ce e A env P σ s r E hc X h
 obtain⟨x,q1,q2,rfl,hg,hst,hd⟩:=bF hc
 refine cps λGq hGq=>?_
 obtain⟨y,hy,hA⟩:=ac h
 obtain⟨n,hn,hB⟩:=ac hA
 refine hGq ?_
 clear hGq
 obtain⟨hb,rfl⟩:=aV hB
 refine iG D X hg hst (cA (by decide +kernel)) qL (by decide +kernel) (by decide +kernel) (wm (ha.ev ce x A env P σ s y E hd X hy) λv CZ k1=>?_)
 have rv:=k1.2
 rw[dI_eq hn]at rv
 induction rv.i with | int t=>exact wp (As (P:=P) (X.keeps k1.1).pd hb.1 hb.2) k1.1
omit D in
theorem tq{o k d:SExpr}(ho:EOk Z lvl Φ o)(hk:EOk Z lvl Φ k)(hd:EOk Z lvl Φ d):EvOk Z lvl Φ (.get o k d):=by
 intro ce e A env P σ s r E hc X h
 obtain⟨o',as,ap,q,rfl,hline,hbase,hc1⟩:=jF hc
 obtain⟨h1,hc2⟩:=and2 hc1
 obtain⟨x,rfl,hc3⟩:=ag hc2
 refine cps λGq hGq=>?_
 obtain⟨h3,hc4⟩:=and2 hc3
 obtain⟨h4,hc5⟩:=and2 hc4
 obtain⟨h5,h6⟩:=and2 hc5
 obtain⟨u,hu,hA⟩:=ac h
 obtain⟨v,hv,hB⟩:=ac hA
 obtain⟨z,hz,hC⟩:=ac hB
 obtain⟨kd,hkd,hD⟩:=ac hC
 refine hGq ?_
 clear hGq
 obtain⟨kk,hkk,rfl⟩:=aq hD
 have hst:starEach [x.1,x.2] env=[(false,eval x.1 env),(false,eval x.2 env)]:=aA (env:=env) (l:=[x.1,x.2]) (by rw[F5,F5,h5,h6];rfl)
 refine Call_method2 (gP hbase) hst hline (wm (ho.ev ce o' A env P σ s u E h1 X hu) λvo CZ k1=>?_)
 have ro:=k1.2
 rw[dD_eq hkd]at ro
 induction ro.d with
 | dict pa ea qa ka za ra =>
  refine⟨"dict","dict.get",F.plainAttrs_dict,F.slot_dict_get,F.type_dict_get,ea.typeIs,λb hb=>?_,?_⟩
  .cases hb
   refine cps λGq hGq=>?_
   obtain⟨ob,zz,zz,hob,hcx,zz⟩:=ea
   refine hGq ?_
   clear hGq
   exact⟨ob,hob,hcx.2.1⟩
  .refine wpAny_dict_get2 (knd:=strKind Z.prog Z.w) qa (wm (hk.ev ce x.1 A env P σ CZ v E h3 (X.keeps k1.1) hv) λvk C2 k2=>wm (hd.ev ce x.2 A env P σ C2 z E h4 ((X.keeps k1.1).keeps k2.1) hz) λvd C5 k3=>?_)
   have rk:=k2.2
   rw[dR hkk]at rk
   induction rk.s with
   | str t =>
    have kk3:=ktrans k2.1 k3.1
    refine⟨kk,_,strKind_is Z.prog Z.w kk t,(ea.keep (kheap kk3)).mapOf,?_⟩
    have hlk:=look_kvs ra kk
    rw[ka]at hlk
    cases hdv:aT kd.1 kd.2 kk with
    | some dv =>
     rw[hdv]at hlk
     obtain⟨v',hv',rv'⟩:=hlk
     rw[hv']
     exact⟨ktrans (ktrans k1.1 kk3) (br _),((cn (P:=P) (r:=u) rv').kp kk3).kp (br C5)⟩
    | none =>
     rw[hdv]at hlk
     rw[show valueAt _ kk=none from hlk]
     exact⟨ktrans (ktrans k1.1 kk3) (br _),k3.2.kp (br C5)⟩
end
end
open PySem.Builtin.Str (strSliceIndices)
theorem Cu(i n:Nat):((min i n:Nat):Int)=min (i:Int) n:=by
 rcases Jr i n with h | h
 .rw[G5 h,Int.min_eq_left (Go.mpr h)]
 .rw[Ir h,Int.min_eq_right (Go.mpr h)]
theorem oG(i n:Nat):max (0:Int) (min (i:Int) (n:Int))=((min i n:Nat):Int):=by
 rw[<-Cu];exact Int.max_eq_right (Fy _)
theorem AP(j:Nat):¬(j:Int)<0:=GB.mpr (Fy j)
theorem CY(j n:Nat):min (min j n) n=min j n:=G5 (Ge ..)
theorem xX(i k n:Nat):strSliceIndices (some (i:Int)) (some (k:Int)) 1 n=strSliceIndices (some ((min i n:Nat):Int)) (some ((min k n:Nat):Int)) 1 n:=by
 simp only[strSliceIndices,AP,if_false,show((1:Int)>0)=True from by simp,if_true,oG,CY]
theorem nB(l:List Nat)(i k:Nat):(l.drop i).take (k - i)=(l.drop (min i l.length)).take (min k l.length - min i l.length):=by
 rcases Gp i l.length with h | h
 .rw[G5 (FS h)]
  rcases Gp k l.length with h2 | h2
  .rw[G5 (FS h2)]
  .rw[Ir h2,HB (by rw[FW];exact HK h2 i),HB (by rw[FW];exact ER _)]
 .rw[Ir h,G3 h,G3 (ER _),Jf,Jf]
theorem mf(x:Str)(i k:Nat):Txt.slice x (some (i:Int)) (some (k:Int))=⟨x.cps.extract i k⟩:=by
 have hx:x.length=x.cps.toList.length:=by show x.cps.size=_;rw[F1]
 have e0:(⟨x.cps.extract i k⟩:Str)=⟨((x.cps.toList.drop i).take (k - i)).toArray⟩:=by
  congr 1
  apply Array.ext'
  simp
 rw[e0,nB]
 have e1:Txt.slice x (some (i:Int)) (some (k:Int))=Txt.slice x (some ((min i x.length:Nat):Int)) (some ((min k x.length:Nat):Int)):=by
  delta Txt.slice
  rw[xX]
 rw[e1,<-hx]
 rcases Jr (min i x.length) (min k x.length)with h | h
 .exact HS x h (Ge _ _)
 .rcases Gp (min k x.length) (min i x.length)with h2 | h2
  .have hz:min k x.length - min i x.length=0:=Nat.sub_eq_zero_of_le h
   rw[hz,Ja]
   have hs:strSliceIndices (some ((min i x.length:Nat):Int)) (some ((min k x.length:Nat):Int)) 1 x.length=[]:=by
    simp only[strSliceIndices,sliceRange,AP,if_false,show((1:Int)>0)=True from by simp,if_true,oG,CY]
    rw[if_neg (by omega)];rfl
   delta Txt.slice
   rw[hs]
   split
   .rename_i hc
    have h0:0=x.length:=by simpa using hc
    have this:=h0.symm
    obtain⟨c⟩:=x
    have:c=#[]:=HJ this
    rw[this]
   .rfl
  .have:min i x.length=min k x.length:=Gb h2 h
   exact HS x (Fm this) (Ge _ _)
theorem slice_upto(x:Str)(k:Nat):Txt.slice x none (some (k:Int))=⟨x.cps.extract 0 k⟩:=by
 rw[<-mf x 0 k]
 delta Txt.slice
 rw[IZ];rfl
section
variable{Z:Cf}{lvl:Nat}{Φ:FTab}
theorem lQ{v:Value}{a:Option Int}(h:IsPart v a):∃l:Option (Int×Tok),v=partValue l/\l.map (·.1)=a:=by
 cases h with
 | none=>exact⟨none,rfl,rfl⟩
 | int i t=>exact⟨some (i,t),rfl,rfl⟩
theorem ju{s:Shared}{c:Prop}[Decidable c]{y z:Str}{t:Tok}{Q:Value->Shared->Prop}(ht:t≠0)(htN:t<s.toks)(hs:s.toks≠0)(h1:(if c then y else z).length<=sizeLine)(h2:∀t' k,s.toks<=k->t'≠0->t'<k->Q (.str (if c then y else z) t') {s with toks:=k}):(if c then Made.val (.str y t)else Made.str z).post Q s:=by
 by_cases hc:c
 .rw[if_pos hc];have h':=h2 t s.toks (ER _) ht htN;rw[if_pos hc]at h';exact h'
 .rw[if_neg hc];have h':=h2 s.toks (s.toks+1) (Fv _) hs (E7 _);rw[if_neg hc]at h' h1;exact⟨h1,h'⟩
theorem str_slice{value:Expr}{lo hi:Option Expr}{q pos:Pos}{A:Around}{env:Env}{P:Pd}{s:Shared}{x:RV}{t z:Str}{E:Value->Shared->Prop}{pa pb:Option Int}(htk:s.toks≠0)(hv:wpAny Z.M A (eval value env) (Pst Z P s x) E s)(hx:x.d=.str t)(hz:Txt.slice t pa pb=z)(hl:z.length<=sizeLine)
  (h1:∀CZ,Keeps s CZ->wpAny Z.M A (evalPart lo env) (λvl C2=>Keeps CZ C2/\IsPart vl pa) E CZ) (h2:∀CZ,Keeps s CZ->wpAny Z.M A (evalPart hi env) (λvl C2=>Keeps CZ C2/\IsPart vl pb) E CZ) :
  wpAny Z.M A (eval (.Subscript value (.Slice lo hi none q) pos) env) (Pst Z P s (at1 (.str z))) E s:=by
 refine be (wm hv λo CZ k1=>wpAny_Slice (wm (h1 CZ k1.1) λvl C2 k2=>wm (h2 C2 (ktrans k1.1 k2.1)) λvu C5 k3=>wpAny_pure ?_))
 have rx:=k1.2
 rw[hx]at rx
 obtain⟨l,rfl,e1⟩:=lQ k2.2
 obtain⟨u,rfl,e2⟩:=lQ k3.2
 have kk:=ktrans (ktrans k1.1 k2.1) k3.1
 induction rx.s with
 | str tt htt httN =>
  refine⟨"str",_,typeIs_str _ _ _,F.slot_str_getitem.lookup,wpAny_getItem_str_slice (l:=l) (u:=u) (st:=none) ⟨_,Heap.get?_push_size _ rfl,rfl,rfl⟩ rfl (ju (y:=t) htt (EX httN (show CZ.toks<=C5.toks from ktl (ktrans k2.1 k3.1))) (show C5.toks≠0 from Ci kk htk) ?_ λt' k hk ht' hN'=>?_)⟩
  .show(Txt.slice t (l.map (·.1)) (u.map (·.1))).length<=_
   rw[e1,e2,hz];exact hl
  .show Pst Z P s (at1 (.str z)) (.str (Txt.slice t (l.map (·.1)) (u.map (·.1))) t') _
   rw[e1,e2,hz]
   exact m9 (ktrans kk ⟨_,k,_,rfl,λb o e=>Heap.get?_push_of_some _ e,hk⟩) ht' hN'
variable{a i j:SExpr}
theorem rR{x:Str}{i k:Nat}(h:k<=1000000):(⟨x.cps.extract i k⟩:Str).length<=sizeLine:=by
 refine EK ?_ lim_size
 show(x.cps.extract i k).size<=1000000
 rw[Array.size_extract]
 exact EK (HY _ _) (EK (Nat.min_le_left _ _) h)
theorem lg{P:Pd}{CZ C2:Shared}{z:RV}{v:Value}{k:Int}(h:Pst Z P CZ z v C2)(hk:dI z.d=some k):Keeps CZ C2/\IsPart v (some k):=by
 have ry:=h.2
 rw[dI_eq hk]at ry
 exact⟨h.1,by induction ry.i with | int t=>exact .int _ _⟩
theorem oW(ha:EOk Z lvl Φ a)(hi:EOk Z lvl Φ i):EvOk Z lvl Φ (.supto a i):=by
 intro ce e A env P σ s r E hc X h
 obtain⟨v,l,u,st,q1,q2,rfl,hd⟩:=gS hc
 refine cps λGq hGq=>?_
 obtain⟨h1,hd⟩:=and2 hd
 obtain⟨h2,hd⟩:=and2 hd
 obtain⟨h3,hd⟩:=and2 hd
 refine hGq ?_
 clear hGq
 obtain⟨y,rfl,h4⟩:=ag hd
 refine cps λGq hGq=>?_
 obtain⟨x,hx,hA⟩:=ac h
 obtain⟨z,hz,hB⟩:=ac hA
 obtain⟨k,hk,hC⟩:=ac hB
 refine hGq ?_
 clear hGq
 rw[cc h1,cc h2]
 have hu:∀CZ,Keeps s CZ->wpAny Z.M A (evalPart (some y) env) (λvl C2=>Keeps CZ C2/\IsPart vl (some k)) E CZ:=λCZ k1=>wm (hi.ev ce y A env P σ CZ z E h4 (X.keeps k1) hz) λvl C2 k2=>lg k2 hk
 have hv:=ha.ev ce v A env P σ s x E h3 X hx
 obtain⟨xd,xf,xc⟩:=x
 cases xd with
 | list ds =>
  obtain⟨h0,hn⟩:=ifo_of hC
  refine ov (pa:=none) (pb:=some k) (pc:=none) X hv (ds:=ds) rfl hn (λe=>yP e) (λvs hd N rs=>⟨vs.take k.toNat,?_,rs.take k.toNat⟩) eD hu eD
  rw[<-FE h0,slicePick_upto',FE h0]
 | str t =>
  obtain⟨h0,rfl⟩:=aV hC
  have hkn:k.toNat<=1000000:=by omega
  refine str_slice (pa:=none) (pb:=some k) X.tk hv rfl ?_ (rR hkn) eD hu
  rw[<-FE h0.1,slice_upto,FE h0.1]
 | _=>cases hC
theorem re(ha:EOk Z lvl Φ a)(hi:EOk Z lvl Φ i)(hj:EOk Z lvl Φ j):EvOk Z lvl Φ (.smid a i j):=by
 intro ce e A env P σ s r E hc X h
 obtain⟨v,l,u,st,q1,q2,rfl,hd⟩:=gS hc
 refine cps λGq hGq=>?_
 obtain⟨h2,hd⟩:=and2 hd
 obtain⟨h3,hd⟩:=and2 hd
 obtain⟨hd1,hd2⟩:=and2 hd
 refine hGq ?_
 clear hGq
 obtain⟨y,rfl,h4⟩:=ag hd1
 obtain⟨y',rfl,h5⟩:=ag hd2
 refine cps λGq hGq=>?_
 obtain⟨x,hx,hA⟩:=ac h
 obtain⟨z,hz,hB⟩:=ac hA
 obtain⟨z',hz',hC⟩:=ac hB
 obtain⟨t,ht,hD⟩:=ac hC
 obtain⟨k,hk,hE⟩:=ac hD
 obtain⟨k',hk',hF⟩:=ac hE
 refine hGq ?_
 clear hGq
 obtain⟨h0,rfl⟩:=aV hF
 rw[cc h2]
 have hkn:k'.toNat<=1000000:=by omega
 refine str_slice (pa:=some k) (pb:=some k') X.tk (ha.ev ce v A env P σ s x E h3 X hx) (dR ht) ?_ (rR hkn) (λCZ k1=>wm (hi.ev ce y A env P σ CZ z E h4 (X.keeps k1) hz) λvl C2 k2=>lg k2 hk) (λCZ k1=>wm (hj.ev ce y' A env P σ CZ z' E h5 (X.keeps k1) hz') λvl C2 k2=>lg k2 hk')
 rw[<-FE h0.1.1,<-FE h0.2.1,mf,FE h0.1.1,FE h0.2.1]
def rN(x:Str)(N i:Nat)(v:Value):Prop:=∃c u,(u≠0/\u<N)/\x.cps[i]?= some c/\v=.str ⟨#[c]⟩ u
theorem wE{h:Heap}{N:Nat}{Q:Addr->Prop}{x:Str}{acc:Array Value}(ha:ItemsOf (rN x N) acc x.cps.size):RS Z h N Q acc.toList ((gy x).map PV.str):=by
 have hl:acc.toList.length=((gy x).map PV.str).length:=by
  delta gy
  rw[EN,EN,F1,F1]
  exact ha.1
 have key:∀(vs:List Value) (ds:List PV),vs.length=ds.length->(∀(i:Nat) v,vs[i]?= some v->∃d,ds[i]?= some d/\R Z h N Q v d)->RS Z h N Q vs ds:=by
  intro vs
  induction vs with
  | nil=>intro ds hl zz;cases ds with
   | nil=>exact .nil
   | cons zz zz=>cases hl
  | cons v vs ih =>
   intro ds hl hg
   cases ds with
   | nil=>cases hl
   | cons d ds =>
    obtain⟨d',e,rv⟩:=hg 0 v rfl
    cases e
    exact .cons rv (ih ds (GY hl) λi v hv=>hg (i+1) v hv)
 refine key _ _ hl λi v hv=>?_
 have:=ha.2 i v (by rw[<-GE];exact hv)
 obtain⟨c,t,ht,hc,rfl⟩:=this
 refine⟨.str ⟨#[c]⟩,?_,.str _ _ ht.1 ht.2⟩
 delta gy
 rw[EZ,EZ,GE,hc];rfl
theorem t9 {A:Around} {E:Value->Shared->Prop} {s:Shared} {I:Addr} {x:Str} {t:Tok} {T:String} (hT:T= "str_ascii_iterator"\/T= "str_iterator") {i:Nat} (hi:i<x.cps.size) {Q:Option Value->Shared->Prop} (st:s.heap.IsStrIter I T x t i)
  (h:∀h',h'.IsStrIter I T x t (i+1)->Heap.SameBut I s.heap h'->Q (some (.str ⟨#[x.cps[i]]⟩ s.toks)) {s with heap:=h',toks:=s.toks+1}):wpAny Z.M A (pyNext (.ref I)) Q E s:=by
 rcases hT with rfl | rfl
 .exact wpAny_pyNext_ascii_item st (F7 hi) h
 .exact wpAny_pyNext_wide_item st (F7 hi) h
theorem tX {A:Around} (hh:A.handled=none) {x:Str} {t:Tok} {T:String} (hT:T= "str_ascii_iterator"\/T= "str_iterator") (hn:x.cps.size<=sizeLine) {S I:Addr} (hSI:S≠I) {Da:Result->Shared->Prop} (res:Value) :
  ∀(k i:Nat) (s:Shared) (acc:Array Value) (c:Nat),x.cps.size - i=k->i<=x.cps.size->s.heap.IsStrIter I T x t i->s.toks≠0->s.heap.get? S=some {cls:=.type "list",dict:=none,data:=.seq acc c,slots:=#[]}->ItemsOf (rN x s.toks) acc i ->
  (∀h' tk acc' c',s.toks<=tk->(∀b o,b≠S->b≠I->s.heap.get? b=some o->h'.get? b=some o)->h'.get? S=some {cls:=.type "list",dict:=none,data:=.seq acc' c',slots:=#[]}->ItemsOf (rN x tk) acc' x.cps.size->Da (.ok (.ret res)) {s with heap:=h',toks:=tk}) ->
  codeAny Z.M A (.builtin "list.extend.loop" ⟨[.ref S,.ref I,res],[]⟩) Da s:=by
 intro k
 induction k with
 | zero =>
  intro i s acc c hk hi hst htk hS hacc hR
  obtain rfl:i=x.cps.size:=Gb hi (IA hk)
  refine codeAny_builtin F.entry_extend_loop ?_
  rw[Around.under_plainId F.plain_extend_loop _]
  have go:∀h',Heap.ExtBut I s.heap h'->Da (.ok (.ret res)) {s with heap:=h'}:=λh' he=>hR h' s.toks acc c (ER _) (λb o zz hb e=>he b o hb e) (he S _ hSI hS) hacc
  show wpAny _ A.in1 (pyNext (.ref I) >>= _) _ _ s
  refine wpAny_bind ?_
  rcases hT with rfl | rfl
  .exact wpAny_pyNext_ascii_end (A:=A.in1) hh hst (by simp) λh' he=>wpAny_pure (go h' he)
  .exact wpAny_pyNext_wide_end (A:=A.in1) hh hst (by simp) λh' he=>wpAny_pure (go h' he)
 | succ k ih =>
  intro i s acc c hk hi hst htk hS hacc hR
  have hlt:i<x.cps.size:=Nat.lt_of_sub_pos (hk▸Hv k)
  refine codeAny_builtin F.entry_extend_loop ?_
  rw[Around.under_plainId F.plain_extend_loop _]
  show wpAny _ A.in1 (pyNext (.ref I) >>= _) _ _ s
  refine wpAny_bind (t9 hT hlt hst λC4 Dd Dy=>?_)
  have D6:=Dy.extBut S _ hSI hS
  show wpAny _ A.in1 (updateSeq S (·.push _) >>= _) _ _ _
  refine wpAny_bind ?_
  refine wpAny_updateSeq D6 rfl (wpAny_pure ⟨plainId_quiet F.plain_extend_loop _,ih (i+1) _ (acc.push _) _ (by rw[Nat.sub_succ,hk];rfl) hlt ?_ (Nat.succ_ne_zero _) (Heap.get?_update_self _ D6 rfl) ?_ λh' tk acc' c' ht hk' hS' ha=>hR h' tk acc' c' (Nat.le_of_succ_le ht) (λb o h1 h2 e=>hk' b o h1 h2 ((Heap.get?_update_other _ _ (Ne.symm h1)).trans (Dy.extBut b o h2 e))) hS' ha⟩) (by rw[hacc.1];exact FS (EX hlt hn)) (by show(acc.push _).size<=sizeLine+1;rw[Array.size_push,hacc.1];exact EX hlt (EK hn (by decide)))
  .obtain⟨o,ho,r⟩:=Dd
   exact⟨o,(Heap.get?_update_other _ _ hSI).trans ho,r⟩
  .refine ItemsOf.push ⟨hacc.1,λj v hj=>?_⟩ ⟨_,s.toks,⟨htk,E7 _⟩,F7 hlt,rfl⟩
   obtain⟨c,u,hu,hc⟩:=hacc.2 j v hj
   exact⟨c,u,⟨hu.1,FI hu.2⟩,hc⟩
theorem qD {A:Around} {E:Value->Shared->Prop} {s:Shared} {x:Str} {t:Tok} {K:Value->Shared->Prop} (h:∀(o:Obj) (T:String),(T= "str_ascii_iterator"\/T= "str_iterator")->(s.heap.push o).IsStrIter s.heap.objs.size T x t 0->K (.ref s.heap.objs.size) {s with heap:=s.heap.push o}):wpAny Z.M A (pyIter (.str x t)) K E s:=by
 cases ha:x.cps.all (·<128)with
 | false=>exact wpAny_pyIter_wide ha (h _ _ (.inr rfl) ⟨_,Heap.get?_push_size _ rfl,rfl,rfl⟩)
 | true=>exact wpAny_pyIter_ascii ha (h _ _ (.inl rfl) ⟨_,Heap.get?_push_size _ rfl,rfl,rfl⟩)
theorem p9{A:Around}{E:Value->Shared->Prop}{s:Shared}{Q:Value->Shared->Prop}(hh:A.handled=none)(hk:s.toks≠0)(x:Str)(t:Tok)(hn:x.cps.size<=sizeLine)
  (hQ:∀h' tk acc c,(∀b o,s.heap.get? b=some o->h'.get? b=some o)->s.toks<=tk->h'.get? s.heap.objs.size=some (bY acc.toList c)->ItemsOf (rN x tk) acc x.cps.size->Q (.ref s.heap.objs.size) {s with heap:=h',toks:=tk}) :
  wpAny Z.M A (call (.type "list") [.str x t]) Q E s:=by
 refine callType_codes (Q₁:=λobj CZ=>obj=.ref s.heap.objs.size/\CZ={s with heap:=s.heap.push {cls:=.type "list",data:=.seq #[]}}) F.called_list (F.typeCall_list_1 _) F.entry_list_init (code_list_new _ ⟨rfl,rfl⟩) λobj CZ C4=>?_
 obtain⟨rfl,rfl⟩:=C4
 have hS:(s.heap.push {cls:=.type "list",data:=.seq #[]}).get? s.heap.objs.size=some {cls:=.type "list",data:=.seq #[]}:=Heap.get?_push_size _ rfl
 refine⟨⟨_,hS,rfl⟩,F.args_list_init_2 _ _,?_⟩
 generalize hH:s.heap.push {cls:=.type "list",data:=.seq #[]}=H at hS ⊢
 have old:∀b o,s.heap.get? b=some o->H.get? b=some o:=λb o e=>hH▸Heap.get?_push_of_some _ e
 refine wpAny_bind (m:=Builtin.List.listItems (.ref s.heap.objs.size)) (wpAny_bind (wpAny_seqItems hS rfl (wpAny_pure ?_)))
 refine wpAny_bind (wpAny_updateSeq hS rfl ?_)
 have DL:=Heap.get?_update_self (Obj.mapSeq (λθ=>(#[]:Array Value))) hS rfl
 have DO:∀b o,s.heap.get? b=some o->(H.update s.heap.objs.size (Obj.mapSeq (λθ=>(#[]:Array Value)))).get? b=some o:=λb o e=>(Heap.get?_update_other _ _ (Ne.symm (FG (Heap.lt_size e)))).trans (old b o e)
 generalize H.update s.heap.objs.size (Obj.mapSeq (λθ=>(#[]:Array Value)))=EE at DL DO ⊢
 refine wpAny_bind (wpAny_letGo ?_)
 have hSI:=Heap.lt_size DL
 show wpAny _ _ (Builtin.List.listExtendWith (.ref s.heap.objs.size) (.str x t) .none) _ _ _
 delta Builtin.List.listExtendWith
 refine wpAny_bind (wpAny_typeOf (T:="str") (v:=.str x t) rfl ?_)
 have h1:Builtin.List.listSameRef (.ref s.heap.objs.size) (.str x t)=false:=rfl
 have h2:(Value.type "str"==Value.type "list")=false:=by decide
 have h3:(Value.type "str"==Value.type "tuple")=false:=by decide
 simp only[h1,h2,h3,GR,FK,if_false]
 refine wpAny_bind (qD λo T hT hst=>?_)
 refine wpAny_bind (wpAny_holding ?_)
 delta Builtin.List.listLengthHint
 refine wpAny_bind (wpAny_specialOf (T:="str") (v:=.str x t) rfl F.str_len ?_)
 wp_delta
 refine wpAny_bind (wpAny_isInstance (T:="str") (v:=.str x t) (b:=true) rfl (by rw[isSubtype_type];kernel_rfl) ?_)
 show wpAny _ _ (typeOf (Value.str x t) >>= _) _ _ _
 refine wpAny_bind (wpAny_typeOf (T:="str") (v:=.str x t) rfl ?_)
 refine wpAny_pure ?_
 rw[if_neg (by decide)]
 refine wpAny_pure ⟨plainId_quiet F.plain_extend_loop _,?_⟩
 refine tX (A:=A.in1) hh hT hn (FG hSI) _ x.cps.size 0 _ _ _ rfl (Fi _) hst hk (Heap.get?_push_of_some _ DL) (ItemsOf.nil _) λh' tk acc c ht hk' hS' hacc=>?_
 refine⟨rfl,hQ h' tk acc c (λb o e=>hk' b o (FG (Heap.lt_size e)) (FG (Heap.lt_size (DO b o e))) (Heap.get?_push_of_some _ (DO b o e))) ht (by rw[hS'];rfl) hacc⟩
theorem ui {A:Around} {E:Value->Shared->Prop} {s:Shared} {P:Pd} {x r:RV} {v:Value} (htk:s.toks≠0) (hh:A.handled=none) (hP:P.Ok s.heap) (h:fY x=some r) (rv:R Z s.heap s.toks (P x.f x.c) v x.d):wpAny Z.M A (call (.type "list") [v]) (Pst Z P s r) E s:=by
 obtain⟨xd,xf,xc⟩:=x
 have seq:∀{ds:List PV} {vs:List Value} {l:Addr} {o:Obj} {n:Nat} {T:String},newl xf xc ds=some r->(T= "list"\/T= "tuple")->s.heap.get? l=some o->o.cls=.type T->o.data=.seq vs.toArray n->RS Z s.heap s.toks (P xf xc) vs ds->wpAny Z.M A (call (.type "list") [.ref l]) (Pst Z P s r) E s:=by
  intro ds vs l o n T hn hT ho hc hd rs
  obtain⟨h1,h2,zz⟩:=iQ hn
  refine call_list_seq l hT ho hc hd (λh' c' hk hl=>⟨⟨h',s.toks,s.drawn,rfl,hk,ER _⟩,?_⟩) (by rw[FJ,rs.length];exact EK h2 lim_size)
  rw[h1]
  exact .list (vs:=vs) (n:=c') (hP.fresh _ _ _ (size_none _)) hl h2 ((rs.newl hn).keeps hk (ER _))
 cases xd with
 | list ds =>
  induction rv.l with
  | list p e z rs=>exact seq h (.inl rfl) e rfl rfl rs
 | tup ds =>
  induction rv.t with
  | tup p e z rs=>exact seq h (.inr rfl) e rfl rfl rs
 | str x =>
  obtain⟨hz,rfl⟩:=aV h
  induction rv.s with
  | str t =>
   refine p9 hh htk x t (EK hz (by decide)) λh' tk acc' c' hk ht hl ha=>⟨⟨h',tk,s.drawn,rfl,hk,ht⟩,?_⟩
   refine .list (vs:=acc'.toList) (n:=c') (hP.fresh _ _ _ (size_none _)) hl ?_ (wE ha)
   delta gy
   rw[EN,EN,F1]
   exact EK hz (by decide)
 | _=>cases h
theorem nL(D:Wd Z)(ha:EOk Z lvl Φ a):EvOk Z lvl Φ (.listOf a):=by
 intro ce e A env P σ s r E hc X h
 obtain⟨x,q1,q2,rfl,hg,hst,hd⟩:=bF hc
 obtain⟨y,hy,hA⟩:=ac h
 exact iG D X hg hst (cA (by decide +kernel)) lW (by decide +kernel) (by decide +kernel) (wm (ha.ev ce x A env P σ s y E hd X hy) λv CZ k1=>wp (ui (P:=P) (X.keeps k1.1).tk X.hh (X.keeps k1.1).pd hA k1.2) k1.1)
theorem qV(hG:∀x q,Φ x []=some q->gp x=some q.1)(x:Str):EvOk Z lvl Φ (.glob x):=by
 intro ce e A env P σ s r E hc X h
 obtain⟨y,⟨q,rfl⟩,hd⟩:=ag hc
 refine cps λGq hGq=>?_
 obtain⟨h1,hd⟩:=and2 hd
 obtain⟨h2,hd⟩:=and2 hd
 obtain⟨h3,h4⟩:=and2 hd
 refine hGq ?_
 clear hGq
 obtain⟨d,hd,rfl⟩:=aq h
 obtain⟨v,hv,rv⟩:=X.glb h2 x d.1 (hG x d hd)
 rw[eq_of_beq h1]
 exact v4 X h3 hv (bZ h4) ⟨krefl s,rv⟩
end
section
variable{Z:Cf}{lvl:Nat}{Φ:FTab}
theorem kX{a:SExpr}{el:Expr}{ce':CE}{A:Around}{cenv:Env}{τ:PV->Sig}(ha:EOk Z lvl Φ a)(hc:chk a ce' el=true):il Z lvl A cenv ce' [] el τ (λd=>(aa Φ a (τ d)).map λr=>[r]):=by
 intro C5 P' d r E' X3 hgo
 obtain⟨z,hz,rfl⟩:=aq hgo
 exact iP ⟨krefl C5,wm (ha.ev _ el A _ P' _ C5 z E' hc X3 hz) λv Dq DP=>⟨DP.1,z,rfl,DP.2⟩⟩
theorem gL{a c:SExpr}{el ct:Expr}{ce':CE}{A:Around}{cenv:Env}{τ:PV->Sig}(ha:EOk Z lvl Φ a)(hcd:EOk Z lvl Φ c)(hc:chk a ce' el=true)(hct:chk c ce' ct=true) :
  il Z lvl A cenv ce' [ct] el τ (λd=>(aa Φ c (τ d)).bind λt=>(aX t.d).bind λk=>if k then(aa Φ a (τ d)).map λr=>[r]else some []):=by
 intro C5 P' d r E' X3 hgo
 refine cps λGq hGq=>?_
 obtain⟨t,ht,hgo⟩:=ac hgo
 obtain⟨k,hk,hgo⟩:=ac hgo
 refine hGq ?_
 clear hGq
 show wpAny Z.M A (forIn [ct] true _) _ E' C5
 rw[I7]
 refine wpAny_bind (wpAny_bind (wm (hcd.te _ ct A _ P' _ C5 t k E' hct X3 ht (bI hk)) λb C7 Dh=>wpAny_pure ?_))
 obtain⟨rfl,k4⟩:=Dh
 refine wpAny_pure ⟨k4,?_⟩
 cases b with
 | true =>
  obtain⟨z,hz,rfl⟩:=aq hgo
  exact wm (ha.ev _ el A _ P' _ C7 z E' hc (X3.keeps k4) hz) λv Dq DP=>⟨DP.1,z,rfl,DP.2⟩
 | false=>exact(ET hgo).symm
inductive IsComp(Z:Cf)(A:Around)(env:Env)(P:Pd)(s:Shared)(E:Value->Shared->Prop)(v:Expr)(r:RV):Prop
 | mk (elt tg it:Expr) (ifs:List Expr) (gs:List Comprehension) (scope:Scope) (vp:Pos) (rs:List RV) (e:v=.ListComp elt (⟨tg,it,ifs,0⟩::gs) scope vp) (hr:newlR rs=some r) (h:dX Z A env P s E v it scope (newList []) (pn Z P) rs):IsComp Z A env P s E v r
theorem IsComp.ev{A:Around}{env:Env}{P:Pd}{s:Shared}{E:Value->Shared->Prop}{v:Expr}{r:RV}(hP:P.Ok s.heap)(h:IsComp Z A env P s E v r):wpAny Z.M A (eval v env) (Pst Z P s r) E s:=by
 obtain⟨elt,tg,it,ifs,gs,scope,vp,rs,rfl,hr,h⟩:=h
 exact h none _ _ λD C s' h=>nY hP.mono hr h
theorem mR{rs:List RV}{r:RV}(h:newlR rs=some r):rs.length<=az:=by
 have:=(jI h).2
 rwa [EN]at this
section
variable{elt it it2 cond:SExpr}{ce:CE}{e:Expr}{A:Around}{env:Env}{P:Pd}{σ:Sig}{s:Shared}{r:RV}{E:Value->Shared->Prop}
theorem rU(he:EOk Z lvl Φ elt)(hi:EOk Z lvl Φ it)(hc:chk (.comp elt it) ce e=true)(X:Cx Z lvl A env ce P σ s)(h:aa Φ (.comp elt it) σ=some r):IsComp Z A env P s E e r:=by
 obtain⟨el,x,i,sc,p',q',rfl,hd⟩:=pw hc
 refine cps λGq hGq=>?_
 obtain⟨h2,hd⟩:=and2 hd
 obtain⟨h3,hd⟩:=and2 hd
 obtain⟨h4,h5⟩:=and2 hd
 obtain⟨q,hq,hA⟩:=ac h
 obtain⟨ds,hds,hB⟩:=ac hA
 obtain⟨rs,hrs,hr⟩:=ac hB
 refine hGq ?_
 clear hGq
 exact⟨_,_,_,_,_,_,_,rs,rfl,hr,iW gf cz X (cj h2) (bZ h5) (hi.ev ce i A env P σ s q E h3 X hq) hds hrs (ef (mR hr)) λC=>kX he h4⟩
theorem lL(he:EOk Z lvl Φ elt)(hi:EOk Z lvl Φ it)(hcd:EOk Z lvl Φ cond)(hc:chk (.compIf elt it cond) ce e=true)(X:Cx Z lvl A env ce P σ s)(h:aa Φ (.compIf elt it cond) σ=some r):IsComp Z A env P s E e r:=by
 obtain⟨el,x,i,c,sc,p',q',rfl,hd⟩:=uL hc
 refine cps λGq hGq=>?_
 obtain⟨h1,hd⟩:=and2 hd
 obtain⟨h2,hd⟩:=and2 hd
 obtain⟨h3,hd⟩:=and2 hd
 obtain⟨h4,h5⟩:=and2 hd
 obtain⟨q,hq,hA⟩:=ac h
 obtain⟨ds,hds,hB⟩:=ac hA
 obtain⟨rs,hrs,hr⟩:=ac hB
 refine hGq ?_
 clear hGq
 exact⟨_,_,_,_,_,_,_,rs,rfl,hr,iW gf cz X (cj h2) (bZ h5) (hi.ev ce i A env P σ s q E h3 X hq) hds hrs (ef (mR hr)) λC=>gL he hcd h4 h1⟩
theorem oY(he:EOk Z lvl Φ elt)(hi:EOk Z lvl Φ it)(hi2:EOk Z lvl Φ it2)(hc:chk (.comp2 elt it it2) ce e=true)(X:Cx Z lvl A env ce P σ s)(h:aa Φ (.comp2 elt it it2) σ=some r):IsComp Z A env P s E e r:=by
 obtain⟨el,x,i,y,i2,sc,p',q',r',rfl,hd⟩:=vY hc
 refine cps λGq hGq=>?_
 obtain⟨h2,hd⟩:=and2 hd
 obtain⟨h3,hd⟩:=and2 hd
 obtain⟨h4,hd⟩:=and2 hd
 obtain⟨h5,hd⟩:=and2 hd
 obtain⟨h6,hd⟩:=and2 hd
 obtain⟨h7,h8⟩:=and2 hd
 obtain⟨q,hq,hA⟩:=ac h
 obtain⟨ds,hds,hB⟩:=ac hA
 obtain⟨rs,hrs,hr⟩:=ac hB
 refine hGq ?_
 clear hGq
 refine⟨_,_,_,_,_,_,_,rs,rfl,hr,kw gf cz X (cj h2) (beq_eq_false_iff_ne.mp (bZ h8)) (bZ h6) (bZ h7) (hi.ev ce i A env P σ s q E h3 X hq) hds hrs (ef (mR hr)) λC=>?_⟩
 intro C5 P' d rr E' X3 hgo
 obtain⟨q2,hq2,hgo⟩:=ac hgo
 obtain⟨es,hes,hgo⟩:=ac hgo
 exact .mk q2 es _ (hi2.ev _ i2 A _ P' _ C5 q2 E' h4 X3 hq2) hes hgo (kX he h5)
end
section
variable(D:Wd Z){elt it it2 cond:SExpr}
include D in
theorem sG {ce:CE} {x:Expr} {f q:Pos} {A:Around} {env:Env} {P:Pd} {σ:Sig} {s:Shared} {r:RV} {E:Value->Shared->Prop} {rs:List RV} {elt' tg i:Expr} {ifs:List Expr} {gs:List Comprehension} {sc:Scope} {vp:Pos} (hg:cW (ce.kind "sorted")=true) (hst:[x].all (!aF ·)=true) (X:Cx Z lvl A env ce P σ s) (hr:kK rs=some r) (hx:x=.SetComp elt' (⟨tg,i,ifs,0⟩::gs) sc vp)
  (h:dX Z A env P s E x i sc (newSet (.type "set")) (zI Z) rs):wpAny Z.M A (eval (.Call (.Name "sorted" f) [x] [] q) env) (Pst Z P s r) E s:=by
 refine cZ D X hg hst (cA (by decide +kernel)) jf (by decide +kernel) (by decide +kernel) ?_
 subst hx
 refine h none _ _ λD' C s' h=>?_
 obtain⟨m,hn⟩:=h.ns
 exact⟨m,hn,λh'' hs=>xJ X.hh X.pd hr h hn hs⟩
end
end
noncomputable def zu(env:Env)(pos:Pos):List (Option Expr)->List Expr->List (Sem Value×Sem Value)
 | some k::ks,v::vs=>(eval k env,do let x <-eval v env;standAt pos;pure x)::zu env pos ks vs
 | θ,ξ=>[]
theorem wV(env:Env)(pos:Pos)(k:Expr)(ks:List (Option Expr))(v:Expr)(vs:List Expr):zu env pos (some k::ks) (v::vs)=(eval k env,do let x <-eval v env;standAt pos;pure x)::zu env pos ks vs:=rfl
theorem fi{x:Str}{xs:List Str}{l:List (Option Expr)}(h:lj (x::xs) l=true):∃k q es,l=some (.Constant (.str x) k q)::es/\lj xs es=true:=by
 cases l with
 | nil=>cases h
 | cons o es =>
  cases o with
  | none=>cases h
  | some e =>
   obtain⟨h1,h2⟩:=and2 h
   obtain⟨c,⟨k,q,rfl⟩,h3⟩:=ag h1
   exact⟨k,q,es,by rw[eq_of_beq h3],h2⟩
theorem tW{env:Env}{pos:Pos}:∀{ks:List Str} {keys:List (Option Expr)} {values:List Expr},lj ks keys=true->(evalEachOpt keys env).zip ((evalEach values env).map λv=>do let x <-v;standAt pos;pure x)=(zu env pos keys values).map λp=>(some p.1,p.2):=by
 intro ks
 induction ks with
 | nil=>intro keys values h;rw[isEmpty_of h];rfl
 | cons x ks ih =>
  intro keys values h
  obtain⟨k,q,es,rfl,h2⟩:=fi h
  cases values with
  | nil=>rfl
  | cons v vs=>exact congrArg (_::·) (ih h2)
theorem qX{K:Type}[DecidableEq K]:∀(more acc:List (K×Value)),((acc++more).map (·.1)).Nodup->merged acc more=acc++more:=by
 intro more
 induction more with
 | nil=>intro acc zz;exact(Fb acc).symm
 | cons kv more ih =>
  intro acc h
  have hk:stored acc kv.1 kv.2=acc++[kv]:=by
   delta stored
   rw[if_neg]
   intro hm
   obtain⟨q,hq,e⟩:=List.any_eq_true.mp hm
   rw[Fc,Fp]at h
   exact(List.nodup_append.mp h).2.2 q.1 (E9.mpr ⟨q,hq,rfl⟩) kv.1 (EP ..) (of_decide_eq_true e)
  show merged (stored acc kv.1 kv.2) more=_
  rw[hk,ih (acc++[kv]) (by rw[Fj];exact h),Fj];rfl
section
variable{Z:Cf}{lvl:Nat}{Φ:FTab}
theorem Cx.less{A:Around}{env:Env}{ce:CE}{P:Pd}{σ:Sig}{s:Shared}(X:Cx Z lvl A env ce P σ s){o:Obj}(ho:o.isFreed=false):Cx Z lvl A env ce (λf c a=>P f c a/\a≠s.heap.objs.size) σ {s with heap:=s.heap.push o} where
 hh:=X.hh
 hd:=X.hd
 hu:=X.hu
 fn:=X.fn
 gl:=X.gl
 bl:=X.bl
 ki:=X.ki
 len:=X.len
 cells:=X.cells
 pd:=⟨λf c f' c' a h1 h2 h3=>⟨X.pd.mono f c f' c' a h1 h2 h3.1,h3.2⟩,λf c a e=>⟨X.pd.fresh f c a (aP (λb o e=>Heap.get?_push_of_some _ e) e),λq=>by rw[q]at e;exact absurd (e.symm.trans (Heap.get?_push_size _ ho)) (λh=>yP h)⟩⟩
 top:=X.top.keeps (kheap (kpush s o))
 tk:=X.tk
 glb:=λhg x d hx=>by
  obtain⟨v,h1,h2⟩:=X.glb hg x d hx
  exact⟨v,h1,h2.frame (λa o pa zz e=>⟨Heap.get?_push_of_some _ e,pa,ne_of_get (size_none _) e⟩) (ER _)⟩
 rd:=λx i r h1 h2 h3=>by
  obtain⟨v,l,q⟩:=X.rd x i r h1 h2 h3
  exact⟨v,l.keeps (kheap (kpush s o)),q.frame (λa o pa zz e=>⟨Heap.get?_push_of_some _ e,pa,ne_of_get (size_none _) e⟩) (ER _)⟩
theorem yB{es:List SExpr}(L:LOk Z lvl Φ es){ce:CE}{A:Around}{env:Env}{P:Pd}{σ:Sig}{E:Value->Shared->Prop}{pos:Pos}:∀{ks:List Str} {keys:List (Option Expr)} {values:List Expr} {rs:List RV} {s:Shared},lj ks keys=true->eG es ce values=true->Cx Z lvl A env ce P σ s->bB Φ es σ=some rs->ks.length=rs.length ->
  wpAny Z.M A (evalPairs (zu env pos keys values)) (λvs CZ=>Keeps s CZ/\∃kvs:List (Str×Value),Carries (strKind Z.prog Z.w) vs kvs/\kvs.map (·.1)=ks/\RL Z CZ.heap CZ.toks P (kvs.map (·.2)) rs) E s:=by
 induction es with
 | nil =>
  intro ks keys values rs s h1 h2 X h3 h4
  cases h3
  cases ks with
  | cons θ ξ=>cases h4
  | nil =>
   rw[isEmpty_of h1]
   exact evalPairs_nil ⟨krefl s,[],trivial,rfl,.nil⟩
 | cons se es ih =>
  intro ks keys values rs s h1 h2 X h3 h4
  obtain⟨r,rs',hr,hrs,rfl⟩:=df h3
  cases ks with
  | nil=>cases h4
  | cons x ks =>
   obtain⟨k,q,keys',rfl,h1'⟩:=fi h1
   obtain⟨v,vs,rfl,hc,hst,hcs⟩:=cp h2
   rw[wV]
   have X1:=X.keeps (br s)
   refine evalPairs_cons (Constant_str (wpAny_bind (wm (L.hd.ev ce v A env P σ _ r E hc X1 hr) λvv C2 k2=>wpAny_bind (wpAny_standAt (wpAny_pure (wm (ih L.tl h1' hcs (X1.keeps k2.1) hrs (GY h4)) λvs' C5 C9=>?_))))))
   obtain⟨k3,kvs,h5,h6,h7⟩:=C9
   exact⟨ktrans (br s) (ktrans k2.1 k3),(x,vv)::kvs,⟨strKind_is Z.prog Z.w x s.toks,rfl,h5⟩,congrArg (x::·) h6,.cons (k2.2.kp k3) h7⟩
theorem rA{h:Heap}{m:Str->Option Value}(hg:h.Ns mainGlobals m):(h.objs.size==sysModules)=false:=by
 have hlt:mainGlobals<h.objs.size:=hg.lt
 rw[beq_eq_false_iff_ne]
 intro e
 rw[e]at hlt
 exact absurd hlt (by decide)
theorem ev_dict_ok{ks:List Str}{es:List SExpr}(L:LOk Z lvl Φ es):EvOk Z lvl Φ (.dict ks es):=by
 intro ce e A env P σ s r E hc X h
 obtain⟨x,⟨q,rfl⟩,hd⟩:=ag hc
 refine cps λGq hGq=>?_
 obtain⟨h1,hd⟩:=and2 hd
 obtain⟨h2,h3⟩:=and2 hd
 obtain⟨rs,hrs,hr⟩:=ac h
 obtain⟨⟨hnd,hlen,hl⟩,rfl⟩:=aV hr
 refine hGq ?_
 clear hGq
 have hne:=rA X.top.g
 have hPD:∀f c,P f c s.heap.objs.size:=λf c=>X.pd.fresh f c _ (size_none _)
 cases ks with
 | nil =>
  have:rs=[]:=F3.mp hlen.symm
  subst this
  have e1:x.1=[]:=isEmpty_of h1
  have e2:x.2=[]:=by
   cases es with
   | nil=>exact isEmpty_of h2
   | cons se es=>obtain⟨r,rs',zz,zz,e⟩:=df hrs;cases e
  rw[e1,e2,eval_Dict_empty]
  exact wpAny_bind (wpAny_standAt (wpAny_newObj_type ⟨kpush _ _,.dict (kvs:=[]) (hPD _ _) (Heap.DictOf.new _) hne rfl (Fi _) .nil⟩))
 | cons k ks =>
  have hp:(zu env q x.1 x.2)≠[]/\(zu env q x.1 x.2).length<=15:=by
   have key:∀{ks:List Str} {keys:List (Option Expr)} {values:List Expr},lj ks keys=true->(zu env q keys values).length<=ks.length:=by
    intro ks
    induction ks with
    | nil=>intro keys values h;rw[isEmpty_of h];exact ER _
    | cons x ks ih =>
     intro keys values h
     obtain⟨k,q,es,rfl,h2⟩:=fi h
     cases values with
     | nil=>exact Fi _
     | cons v vs=>exact Fz (ih h2)
   refine⟨?_,EK (key h1) (decT h3)⟩
   obtain⟨k',q',es',e1,zz⟩:=fi h1
   cases es with
   | nil=>cases hrs;cases hlen
   | cons se es =>
    obtain⟨v,vs,e2,zz⟩:=cp h2
    rw[e1,e2]
    exact λh=>nomatch h
  refine wpAny_Dict_pairs (knd:=strKind Z.prog Z.w) (tW h1) hp.1 hp.2 (wm (yB L h1 h2 (X.less (o:={cls:=.type "dict",data:=.dict #[]}) rfl) hrs hlen) λvs CZ C4=>?_)
  obtain⟨k1,kvs,h5,h6,h7⟩:=C4
  refine⟨kvs,h5,(Heap.DictOf.new _).keep (kheap k1),λh' hd hs=>?_⟩
  rw[qX kvs [] (by rw[Gv,h6];exact hnd),Gv]at hd
  have k2:Keeps s {CZ with heap:=h',toks:=CZ.toks+vs.length}:=by
   have kk:=ktrans (kpush s {cls:=.type "dict",data:=.dict #[]}) k1
   obtain⟨H,t,dr,rfl,k,ht⟩:=k1
   exact⟨h',_,dr,rfl,λb o e=>hs.extBut b o (ne_of_get (size_none _) e) (kheap kk b o e),EK ht (Ff _ _)⟩
  refine⟨k2,.dict (hPD _ _) hd hne h6 (by rw[hlen];exact EK hl (by decide)) ?_⟩
  exact((h7.toRS (λf c f' c' a h1 h2 h3=>⟨X.pd.mono f c f' c' a h1 h2 h3.1,h3.2⟩)).off hs.extBut (λh=>h.2 rfl) (Ff _ _)).mono λa h=>h.1
end
end Mine
namespace Mine
open PySem PySem.SeqAt PySem.Calls PyProof.Rows PySem.StrLaws
open PySem.Builtin.Str (occurrences partsBetween glued)
theorem qy{c:Nat}{z:List Nat}:∀{l:List Nat},c∉l->bk c z l=l:=by
 intro l
 induction l with
 | nil=>exact λzz=>rfl
 | cons x l ih =>
  intro h
  show(if x=c then z++l else x::bk c z l)=_
  rw[if_neg λ(e:x=c)=>h (e▸EP ..),ih λe=>h (EO _ e)]
theorem replL_at{c:Nat}{z:List Nat}:∀{l:List Nat} {i:Nat},l[i]?= some c->(∀k,k<i->l[k]?≠ some c)->bk c z l=l.take i++z++l.drop (i+1):=by
 intro l
 induction l with
 | nil=>intro i h;cases h
 | cons x l ih =>
  intro i h hn
  show(if x=c then z++l else x::bk c z l)=_
  cases i with
  | zero=>rw[if_pos (ET h)];rfl
  | succ i =>
   rw[if_neg λe=>hn 0 (Hv i) (congrArg some e),ih (i:=i) h λk hk=>hn (k+1) (HG hk)]
   rfl
theorem repl_made(x z:Str)(c:Nat):(occurrences x ⟨#[c]⟩ 0 x.length 1=[]/\(⟨(bk c z.cps.toList x.cps.toList).toArray⟩:Str)=x)\/((occurrences x ⟨#[c]⟩ 0 x.length 1).isEmpty=false/\(occurrences x ⟨#[c]⟩ 0 x.length 1).length<=1/\glued z (partsBetween x (occurrences x ⟨#[c]⟩ 0 x.length 1) 1)=⟨(bk c z.cps.toList x.cps.toList).toArray⟩):=by
 rcases occ_head x ⟨#[c]⟩ 1 (ER 1)with⟨h0,hn⟩ | ⟨i,r,h0,ha,hn⟩
 .refine .inl ⟨h0,?_⟩
  rw[qy λhm=>by obtain⟨i,hi⟩:=List.mem_iff_getElem?.mp hm;exact hn i ((subAt_one x c i).mpr hi)]
 .refine .inr ⟨by rw[h0];rfl,occ_length_le _ _ _ _ _,?_⟩
  have hr:r=[]:=by
   have:=occ_length_le x ⟨#[c]⟩ 0 x.length 1
   rw[h0]at this
   exact F3.mp (IG.mp (GX this))
  subst hr
  rw[h0,replL_at ((subAt_one x c i).mp ha) λk hk e=>hn k hk ((subAt_one x c k).mpr e)]
  rw[partsBetween_eq]
  show(⟨(Builtin.Str.strSub x 0 i).cps++z.cps++(Builtin.Str.strSub x (i+1) x.length).cps⟩:Str)=_
  congr 1
  apply Ie.mp
  simp only[Array.toList_append,strSub_toList]
  have hn:x.cps.toList.length=x.length:=by simp[Str.length]
  rw[I9,Jn,<-hn,HB (l:=x.cps.toList.drop (i+1)) (by rw[FW];exact ER _)]
theorem tN(c:Nat)(z:List Nat):∀l:List Nat,(bk c z l).length<=l.length+z.length:=by
 intro l
 induction l with
 | nil=>exact Fi _
 | cons x l ih =>
  show(if x=c then z++l else x::bk c z l).length<=_
  split
  .rw[EQ,Fl];exact EK (Fm (FV ..)) (F4 (Fv _) _)
  .rw[Fl,Fl];lia
section
variable{Z:Cf}
theorem ta{A:Around}{E:Value->Shared->Prop}{s:Shared}{Q:Value->Shared->Prop}{x z:Str}{c:Nat}{t u v ti:Tok}(hu:u≠0)(hv:v≠0)(huv:(⟨#[c]⟩:Str)≠z->u≠v)(hl:x.length+z.length<=100)(hnb:NoneBooked s.heap)(ht:t≠0)(htN:t<s.toks)(hk:s.toks≠0)
  (hq:∀t' k,s.toks<=k->t'≠0->t'<k->Q (.str ⟨(bk c z.cps.toList x.cps.toList).toArray⟩ t') {s with toks:=k}):wpAny Z.M A (call (.builtin "str.replace") [.str x t,.str ⟨#[c]⟩ u,.str z v,.int 1 ti]) Q E s:=by
 refine wpAny_call_entry F.slot_str_replace (typeIs_str _ _ _) F.entry_str_replace ?_ (F.args_str_replace_4 _ _ _ _)
 show wpAny _ _ (Builtin.Str.countLimit "str.replace" (some (.int 1 ti)) (x.length+1) >>= λlimit=>if((occurrences x ⟨#[c]⟩ 0 x.length limit).isEmpty||((⟨#[c]⟩:Str).length==0&&z.length==0))=true then(do rule "str.replace.nothing";ret (.str x t))else
     (do
       let same <-isSame (.str ⟨#[c]⟩ u) (.str z v)
       if same=true then(do rule "str.replace.old-is-new";ret (.str x t))else
       if Builtin.Str.tooLong (x.length+(occurrences x ⟨#[c]⟩ 0 x.length limit).length*z.length)=true then unsupported "str.replace:memory" else
       retStr (glued z (partsBetween x (occurrences x ⟨#[c]⟩ 0 x.length limit) (⟨#[c]⟩:Str).length)))) _ _ s
 rw[countLimit_int _ _ _ _ (by decide)]
 refine wpAny_bind (wpAny_pure ?_)
 show wpAny _ _ (if((occurrences x ⟨#[c]⟩ 0 x.length 1).isEmpty||false)=true then _ else _) _ _ s
 have same:(⟨(bk c z.cps.toList x.cps.toList).toArray⟩:Str)=x->wpAny Z.M A.in1 (ret (.str x t):Sem Ht) (λfin s'=>∃f,fin=.done (.ret f)/\Q f s') E s:=λe=>by
  have:=hq t s.toks (ER _) ht htN
  rw[e]at this
  exact wpAny_pure ⟨_,rfl,this⟩
 rcases repl_made x z c with⟨h0,e⟩ | ⟨h0,h1,e⟩
 .rw[h0]
  exact wpAny_bind (wpAny_rule (same e))
 .rw[h0]
  have hne:(u==0||v==0)=false:=by simp[hu,hv]
  have hz:z.length<=100:=EK (FM _ _) hl
  have hm:(occurrences x ⟨#[c]⟩ 0 x.length 1).length*z.length<=1*z.length:=Nat.mul_le_mul_right _ h1
  have hlong:Builtin.Str.tooLong (x.length+(occurrences x ⟨#[c]⟩ 0 x.length 1).length*z.length)=false:=decide_eq_false (by
   rw[sizeLine_eq];lia)
  have last:wpAny Z.M A.in1 (if Builtin.Str.tooLong (x.length+(occurrences x ⟨#[c]⟩ 0 x.length 1).length*z.length)=true then unsupported "str.replace:memory" else retStr (glued z (partsBetween x (occurrences x ⟨#[c]⟩ 0 x.length 1) 1))) (λfin s'=>∃f,fin=.done (.ret f)/\Q f s') E s:=by
   rw[hlong,e]
   refine wpAny_bind (wpAny_mkStr (wpAny_pure ⟨_,rfl,hq _ _ (Fv _) hk (E7 _)⟩) ?_)
   show(bk c z.cps.toList x.cps.toList).toArray.size<=_
   have:=tN c z.cps.toList x.cps.toList
   have hx:x.cps.toList.length=x.length:=by simp[Str.length]
   have hz':z.cps.toList.length=z.length:=by simp[Str.length]
   rw[FJ,sizeLine_eq]
   exact EK this (EK hl (by decide))
  show wpAny _ _ (isSame (.str ⟨#[c]⟩ u) (.str z v) >>= _) _ _ s
  by_cases hyz:(⟨#[c]⟩:Str)=z
  .refine wpAny_bind (wpAny_isSame_str hne hnb λb=>?_)
   cases b with
   | false=>exact last
   | true =>
    refine wpAny_bind (wpAny_rule (same ?_))
    rw[<-e,<-hyz]
    exact glued_between_self x ⟨#[c]⟩ 1
  .have huv':(u==v)=false:=beq_eq_false_iff_ne.mpr (huv hyz)
   rw[isSame_str_other _ _ u v hne huv' (beq_eq_false_iff_ne.mpr hyz)]
   exact wpAny_bind (wpAny_pure last)
end
end Mine
namespace Mine
open PySem PySem.SeqAt PySem.Calls PyProof.Rows
section
variable{Z:Cf}{lvl:Nat}{Φ:FTab}
inductive IsRu(Z:Cf)(h:Heap)(N:Nat)(P:Addr->Prop)(x:Str)(ds:List PV):Value->Prop
 | mk {a b:Addr} {u:Tok} {ws:List Value} {n m:Nat}:P a->h.get? a=some (gO [.str x u,.ref b] n)->u≠0->u<N->P b->h.get? b=some (bY ws m)->ds.length<=az->RS Z h N P ws ds->(∀y v,ws=[.str y v]->x∈ud->x≠y->u≠v)->IsRu Z h N P x ds (.ref a)
theorem R.ru{h:Heap}{N:Nat}{P:Addr->Prop}{x:Str}{ds:List PV}{v:Value}(r:R Z h N P v (.tup [.str x,.list ds])):IsRu Z h N P x ds v:=by
 cases r with
 | tup p e z r hr=>cases hr
 | rule p e h0 hu q f z r hs=>exact .mk p e h0 hu q f z r hs
theorem l9{ds:List PV}{q:Str×List PV}(h:rG ds=some q):ds=[.str q.1,.list q.2]:=by
 refine cps λGq hGq=>?_
 obtain⟨z,h1,h⟩:=ac h
 obtain⟨x,h2,h⟩:=ac h
 obtain⟨l,h3,rfl⟩:=aq h
 refine hGq ?_
 clear hGq
 rw[sy h1,dR h2,dL_eq h3]
theorem ue{e:SExpr}(h:uy e=true):∃i,e=.var i:=by
 obtain⟨i,e,_⟩:=ag h
 exact⟨i,e⟩
theorem ns2{a b:Expr}(ha:aF a=false)(hb:aF b=false):[a,b].all (!aF ·)=true:=by
 rw[F5,F5,ha,hb];rfl
theorem uR{a b:Expr}{k:Nat}{q:Pos}{A:Around}{env:Env}{s:Shared}{E:Value->Shared->Prop}{Q:Value->Shared->Prop}(ha:aF a=false)(hb:aF b=false)
  (h:wpAny Z.M A (eval a env) (λva CZ=>wpAny Z.M A (eval b env) (λvb C2=>Q (.ref C2.heap.objs.size) {C2 with heap:=C2.heap.push {cls:=.type "tuple",data:=.seq [va,vb].toArray}}) E CZ) E s):wpAny Z.M A (eval (.Tuple [a,b] k q) env) Q E s:=by
 refine wpAny_Tuple_spliced ?_
 rw[aA (ns2 ha hb),aZ]
 exact spliced_cons (wm h λva CZ C4=>spliced_cons (wm C4 λvb C2 C8=>spliced_nil ⟨show 2<=sizeLine by decide,C8⟩))
theorem s9{x:Str}{e:SExpr}(he:EOk Z lvl Φ e):EvOk Z lvl Φ (.mkR x e):=by
 intro ce ex A env P σ s r E hc X h
 obtain⟨l,⟨k,q,rfl⟩,hd⟩:=ag hc
 obtain⟨z,rfl,hd⟩:=ag hd
 refine cps λGq hGq=>?_
 obtain⟨h1,hd⟩:=and2 hd
 obtain⟨h2,hd⟩:=and2 hd
 obtain⟨h3,h4⟩:=and2 hd
 obtain⟨k',q',e1⟩:=bN (ce:=ce) h1
 obtain⟨y,hy,hA⟩:=ac h
 obtain⟨ds,hds,hB⟩:=ac hA
 refine hGq ?_
 clear hGq
 cases hB
 have k1:=br s
 have fin:∀(v:Value) (C2:Shared),Pst Z P {s with toks:=s.toks+1} y v C2->(∀b ws m y' u,v=.ref b->C2.heap.get? b=some (bY ws m)->ws=[.str y' u]->x∈ud->s.toks≠u)->Pst Z P s ⟨.tup [.str x,.list ds],y.f,y.c⟩ (.ref C2.heap.objs.size) {C2 with heap:=C2.heap.push {cls:=.type "tuple",data:=.seq [.str x s.toks,v].toArray}}:=by
  intro v C2 C8 hs
  refine⟨ktrans k1 (ktrans C8.1 (kpush _ _)),?_⟩
  have rv:=C8.2
  rw[dL_eq hds]at rv
  have hpd:=(X.keeps k1).pd.keeps (kheap C8.1)
  cases rv.l with
  | list pb eb zb rb =>
   exact .rule (hpd.fresh _ _ _ (size_none _)) (Heap.get?_push_size _ rfl) X.tk (EX (E7 _) (ktl C8.1)) pb (Heap.get?_push_of_some _ eb) zb (rb.keeps (λb o e=>Heap.get?_push_of_some _ e) (ER _)) λy' u e hx zz=>hs _ _ _ y' u rfl eb e hx
 have hz1:aF z.1=false:=by rw[e1];rfl
 refine uR hz1 (bZ h3) ?_
 rw[e1]
 refine Constant_str ?_
 by_cases hx:ud.contains x=true
 .rw[hx]at h4
  obtain⟨i,rfl⟩:=ue h4
  obtain⟨v,rv,ld⟩:=i8 h2 X hy
  refine ld _ _ _ E h2 k1 (fin v _ ⟨krefl _,rv.kp k1⟩ λb ws m y' u e1 e2 e3 zz=>?_)
  rw[dL_eq hds,e1]at rv
  cases rv.l with
  | list pb eb zb rb =>
   have:=g0 eb e2
   subst this
   rw[e3]at rb
   cases rb with
   | cons a zz=>exact Ne.symm (FG (a.tok _ _ rfl).2)
 .exact wm (he.ev ce _ A env P σ _ y E h2 (X.keeps k1) hy) λv C2 C8=>fin v C2 C8 λb ws m y' u zz zz zz hm=>absurd (GD.mpr hm) hx
theorem qE{ce:CE}{i:Nat}{m:Int}{e:Expr}{A:Around}{env:Env}{s:Shared}{u:Value}{a:Addr}{vs:List Value}{n:Nat}{Q:Value->Shared->Prop}{E:Value->Shared->Prop}(hc:gx ce i m e=true)(ld:∀(e:Expr) (s':Shared) (Q:Value->Shared->Prop) (E:Value->Shared->Prop),iI ce i e=true->Keeps s s'->Q (.ref a) s'->wpAny Z.M A (eval e env) Q E s')(ea:s.heap.get? a=some (gO vs n))(hl:vs.length=2)(h0:0<=m)(h1:m<2)(hu:vs[m.toNat]?= some u){s':Shared}(k:Keeps s s')(hq:Q u {s' with toks:=s'.toks+1}):wpAny Z.M A (eval e env) Q E s':=by
 obtain⟨y,⟨q,rfl⟩,hd2⟩:=ag hc
 obtain⟨h2,h3⟩:=and2 hd2
 obtain⟨k',q',e1⟩:=bN (ce:=ce) h3
 rw[e1]
 refine be (ld _ s' _ E h2 k (wpAny_Constant_int ?_))
 have ea':=kheap k _ _ ea
 refine⟨"tuple",_,⟨_,ea',rfl⟩,slot_tuple_getitem.lookup,Hb (j:=m.toNat) (ax ea') (yQ h0) (IS h1 (by decide)) (sC h0 (EY.mp hu).1) (vm hu) hq⟩
theorem wM{ce:CE}{i:Nat}{m:Int}{e:Expr}(hc:gx ce i m e=true):aF e=false:=by
 obtain⟨y,⟨q,rfl⟩,zz⟩:=ag hc
 rfl
theorem yk{ce:CE}{i:Nat}{m:Int}{e:Expr}(hc:gx ce i m e=true):∃e0,iI ce i e0=true:=by
 obtain⟨y,zz,hd2⟩:=ag hc
 exact⟨_,(and2 hd2).1⟩
theorem tK(D:Wd Z)(sl:Bool)(i:Nat):EvOk Z lvl Φ (.cpy sl i):=by
 intro ce ex A env P σ s r E hc X h
 obtain⟨l,⟨k,q,rfl⟩,hd⟩:=ag hc
 obtain⟨z,rfl,hd⟩:=ag hd
 refine cps λGq hGq=>?_
 obtain⟨h1,h2⟩:=and2 hd
 obtain⟨y,hy,hA⟩:=ac h
 obtain⟨ds,hds,hB⟩:=ac hA
 obtain⟨ru,hru,hC⟩:=ac hB
 obtain⟨hat,hr⟩:=aV hC
 refine hGq ?_
 clear hGq
 subst hr
 have e1:=l9 hru
 obtain⟨e0,hcv⟩:=yk h1
 obtain⟨v,rv,ld⟩:=i8 hcv X hy
 rw[lM hds,e1]at rv
 cases rv.ru with
 | @mk a b u ws n m pa ea h0 hu pb eb zb rb hs =>
  have fin:∀(L:Addr) (c:Nat) (C2:Shared),Keeps s C2->s.heap.get? L=none->C2.heap.get? L=some (bY ws c)->Pst Z P s ⟨.tup [.str ru.1,.list ru.2],true,true⟩ (.ref C2.heap.objs.size) {C2 with heap:=C2.heap.push {cls:=.type "tuple",data:=.seq [.str ru.1 u,.ref L].toArray}}:=by
   intro L c C2 k2 hL eL
   refine⟨ktrans k2 (kpush _ _),?_⟩
   have kt:s.toks<=C2.toks:=ktl k2
   exact .rule ((X.pd.keeps (kheap k2)).fresh _ _ _ (size_none _)) (Heap.get?_push_size _ rfl) h0 (EX hu kt) (X.pd.fresh _ _ _ hL) (Heap.get?_push_of_some _ eL) zb (rb.atom hat kt) hs
  have hz2:aF z.2=false:=by
   cases sl with
   | true=>obtain⟨v',l',u',st,q1,q2,e3,zz⟩:=gS (k:=λv l u s=>l.isNone&&(u.isNone&&(s.isNone&&gx ce i 1 v))) (e:=z.2) h2;rw[e3];rfl
   | false=>obtain⟨x,q1,q2,e3,zz,zz,zz⟩:=bF (k:=λx=>gx ce i 1 x) (e:=z.2) h2;rw[e3];rfl
  refine uR (wM h1) hz2 (qE h1 ld ea rfl (by decide) (by decide) rfl (krefl s) ?_)
  have k1:=br s
  have hws:ws.toArray.size<=sizeLine:=by rw[FJ,rb.length];exact EK zb lim_size
  cases sl with
  | true =>
   obtain⟨v',lo,up,st,q1,q2,e3,hd⟩:=gS (k:=λv l u s=>l.isNone&&(u.isNone&&(s.isNone&&gx ce i 1 v))) (e:=z.2) h2
   refine cps λGq hGq=>?_
   obtain⟨g1,hd⟩:=and2 hd
   obtain⟨g2,hd⟩:=and2 hd
   obtain⟨g3,g4⟩:=and2 hd
   refine hGq ?_
   clear hGq
   rw[e3,cc g1,cc g2,cc g3]
   refine lq (qE g4 ld ea rfl (by decide) (by decide) rfl k1 ?_)
   have k2:=ktrans k1 (br {s with toks:=s.toks+1})
   refine wpAny_pure (wpAny_pure (wpAny_pure ⟨b,ws.toArray,none,none,none,rfl,ak (kheap k2 _ _ eb),hws,.none,.none,.none,(λe=>yP e),?_⟩))
   rw[slicePick_all]
   have k3:=ktrans k2 (kpush _ {cls:=.type "slice",data:=.fields #[.none,.none,.none]})
   have k4:=ktrans k3 (kpush _ {cls:=.type "list",data:=.seq ws.toArray})
   have hsz:(s.heap.push {cls:=.type "slice",data:=.fields #[.none,.none,.none]}).objs.size=s.heap.objs.size+1:=Heap.size_push ..
   refine fin (s.heap.objs.size+1) 0 _ k4 ?_ ?_
   .cases q:s.heap.get? (s.heap.objs.size+1)with
    | none=>rfl
    | some o=>exact absurd (Heap.lt_size q) (Gc.mpr (Fv _))
   .rw[<-hsz];exact Heap.get?_push_size _ rfl
  | false =>
   obtain⟨x,q1,q2,e3,hg,hst,hd⟩:=bF (k:=λx=>gx ce i 1 x) (e:=z.2) h2
   rw[e3]
   have k2:=ktrans k1 (br {s with toks:=s.toks+1})
   refine iG D (X.keeps k1) hg hst (cA (by decide +kernel)) lW (by decide +kernel) (by decide +kernel) (qE hd ld ea rfl (by decide) (by decide) rfl k1 ?_)
   exact call_list_seq b (.inl rfl) (kheap k2 _ _ eb) rfl rfl (λh' c' hk hl=>fin _ _ _ (ktrans k2 ⟨h',_,_,rfl,hk,ER _⟩) (aP (kheap k2) (size_none _)) hl) hws
end
end Mine
namespace Mine
open PySem PySem.SeqAt PySem.Calls PyProof.Rows PySem.StrLaws
open PySem.Builtin.Str (occurrences partsBetween glued)
theorem oS{xs:List Str}:∀{z:Str},ci (xs.map PV.str)=some z->∀n,xs.foldl (λa p=>a+p.length+(Str.empty).length) n=n+z.length:=by
 induction xs with
 | nil=>intro z h n;cases h;rfl
 | cons x xs ih =>
  intro z h n
  obtain⟨y,hy,h⟩:=ac (show(dS (.str x)).bind (λx=>(ci (xs.map PV.str)).map (x++·))=some z from h)
  cases hy
  obtain⟨z',h1,rfl⟩:=aq h
  rw[Hn,ih h1,str_len]
  show n+x.length+0+z'.length=_
  lia
theorem mM{xs:List Str}:∀{z:Str},ci (xs.map PV.str)=some z->∀acc:Array Nat,xs.foldl (λacc p=>acc++(Str.empty).cps++p.cps) acc=acc++z.cps:=by
 induction xs with
 | nil=>intro z h acc;cases h;exact(G4).symm
 | cons x xs ih =>
  intro z h acc
  obtain⟨y,hy,h⟩:=ac (show(dS (.str x)).bind (λx=>(ci (xs.map PV.str)).map (x++·))=some z from h)
  cases hy
  obtain⟨z',h1,rfl⟩:=aq h
  rw[Hn,ih h1]
  show acc++#[]++x.cps++z'.cps=acc++(x.cps++z'.cps)
  rw[G4,Array.append_assoc]
theorem qv{xs:List Str}{z:Str}(h:ci (xs.map PV.str)=some z):glued Str.empty xs=z:=by
 cases xs with
 | nil=>cases h;rfl
 | cons x xs =>
  obtain⟨y,hy,h⟩:=ac (show(dS (.str x)).bind (λx=>(ci (xs.map PV.str)).map (x++·))=some z from h)
  cases hy
  obtain⟨z',h1,rfl⟩:=aq h
  show(⟨xs.foldl (λacc p=>acc++(Str.empty).cps++p.cps) x.cps⟩:Str)=_
  rw[mM h1];rfl
theorem nR{ds:List PV}:∀{z:Str},ci ds=some z->∃xs:List Str,ds=xs.map PV.str:=by
 induction ds with
 | nil=>exact λzz=>⟨[],rfl⟩
 | cons d ds ih =>
  intro z h
  obtain⟨y,hy,h⟩:=ac h
  obtain⟨z',h1,zz⟩:=aq h
  obtain⟨xs,e⟩:=ih h1
  exact⟨y::xs,by rw[dR hy,e];rfl⟩
section
variable{Z:Cf}{lvl:Nat}{Φ:FTab}
theorem xR{h:Heap}{N:Nat}{Q:Addr->Prop}{xs:List Str}:∀{vs:List Value},RS Z h N Q vs (xs.map PV.str)->∃l:List (Str×Tok),vs=strValues l/\l.map (·.1)=xs/\∀p∈l,p.2≠0/\p.2<N:=by
 induction xs with
 | nil=>intro vs r;cases r;exact⟨[],rfl,rfl,λθ h=>uS h⟩
 | cons x xs ih =>
  intro vs r
  cases r with
  | cons a r =>
   obtain⟨l,h1,h2,h3⟩:=ih r
   cases a.s with
   | str t ht hN=>exact⟨(x,t)::l,by rw[h1];rfl,by rw[Fp,h2],λp hp=>(EU.mp hp).elim (λe=>e▸⟨ht,hN⟩) (h3 p)⟩
theorem xS{A:Around}{E:Value->Shared->Prop}{s:Shared}{Q:Addr->Prop}{K:Value->Shared->Prop}{b:Addr}{ws:List Value}{m:Nat}{t:Tok}{ds:List PV}{z:Str}(hb:s.heap.get? b=some (bY ws m))(rb:RS Z s.heap s.toks Q ws ds)(hz:ci ds=some z)(hl:z.length<=1000)(hk:s.toks≠0)
  (h:∀v k,s.toks<=k->v≠0->v<k->((∃y,ws=[.str y v]/\y=z)\/s.toks<=v)->K (.str z v) {s with toks:=k}):wpAny Z.M A (call (.builtin "str.join") [.str Str.empty t,.ref b]) K E s:=by
 obtain⟨xs,rfl⟩:=nR hz
 obtain⟨l,rfl,hx,ht⟩:=xR rb
 have hn:=oS hz 0
 have hg:=qv hz
 refine call_meets F.slot_str_join (typeIs_str _ _ _) F.entry_str_join (F.args_str_join_2 _ _) (meets_str_join_list Str.empty t b l ?_) ⟨ak hb,?_⟩
 .rw[hx,List.foldl_toArray,hn]
  exact decide_eq_false (by rw[sizeLine_eq];lia)
 .have other:(joinMade Str.empty l=.str (glued Str.empty (l.map (·.1))))->(joinMade Str.empty l).post (λv s'=>wants K E (.ok (.ret v)) s') s:=by
   intro e
   rw[e,hx,hg]
   exact⟨by rw[sizeLine_eq];exact EK hl (FM ..),h _ _ (Fv _) hk (E7 _) (.inr (ER _))⟩
  cases l with
  | nil=>exact other rfl
  | cons q r =>
   cases r with
   | nil =>
    have hq:=ht q (EP ..)
    have e:q.1=z:=by
     subst hx
     obtain⟨y,hy,h'⟩:=ac (show(dS (.str q.1)).bind (λx=>(ci []).map (x++·))=some z from hz)
     cases hy
     cases h'
     exact(mi rfl).symm
    show K (.str q.1 q.2) s
    rw[e]
    exact h q.2 s.toks (ER _) hq.1 hq.2 (.inl ⟨q.1,rfl,e⟩)
   | cons q' r=>exact other rfl
end
section
variable{Z:Cf}{lvl:Nat}{Φ:FTab}
theorem si{ce:CE}{r k:Nat}{m:Int}{e:Expr}{A:Around}{env:Env}{s:Shared}{u:Value}{l a:Addr}{vs us:List Value}{n n':Nat}{j:Int}{tj:Tok}{Q:Value->Shared->Prop}{E:Value->Shared->Prop}(hc:kh ce r k m e=true)
  (ldr:∀(e:Expr) (s':Shared) (Q:Value->Shared->Prop) (E:Value->Shared->Prop),iI ce r e=true->Keeps s s'->Q (.ref l) s'->wpAny Z.M A (eval e env) Q E s') (ldk:∀(e:Expr) (s':Shared) (Q:Value->Shared->Prop) (E:Value->Shared->Prop),iI ce k e=true->Keeps s s'->Q (.int j tj) s'->wpAny Z.M A (eval e env) Q E s')
  (el:s.heap.get? l=some (bY vs n)) (hj:0<=j) (hz:vs.length<=az) (hv:vs[j.toNat]?= some (.ref a)) (ea:s.heap.get? a=some (gO us n')) (hl:us.length=2) (h0:0<=m) (h1:m<2) (hu:us[m.toNat]?= some u) {s':Shared} (kk:Keeps s s') (hq:Q u {s' with toks:=s'.toks+1}):wpAny Z.M A (eval e env) Q E s':=by
 obtain⟨y,⟨q,rfl⟩,hd⟩:=ag hc
 refine cps λGq hGq=>?_
 obtain⟨h2,h3⟩:=and2 hd
 obtain⟨k',q',e1⟩:=bN (ce:=ce) h3
 obtain⟨x,⟨q2,e2⟩,hd⟩:=ag h2
 obtain⟨h4,h5⟩:=and2 hd
 refine hGq ?_
 clear hGq
 rw[e1,e2]
 have el':=kheap kk _ _ el
 have ea':=kheap kk _ _ ea
 have hb:j.toNat<vs.length:=(EY.mp hv).1
 have hlim:=gQ
 refine be (be (ldr _ s' _ E h4 kk (ldk _ s' _ E h5 kk ⟨"list",_,⟨_,el',rfl⟩,slot_list_getitem.lookup,wpAny_getItem_list (ak el') hj (Ab hj hb hz) (vm hv) (wpAny_Constant_int ?_)⟩)))
 refine⟨"tuple",_,⟨_,ea',rfl⟩,slot_tuple_getitem.lookup,Hb (j:=m.toNat) (ax ea') (yQ h0) (IS h1 (by decide)) (sC h0 (EY.mp hu).1) (vm hu) hq⟩
theorem iL{ce:CE}{r k:Nat}{m:Int}{e:Expr}(hc:kh ce r k m e=true):aF e=false:=by
 obtain⟨y,⟨q,rfl⟩,zz⟩:=ag hc
 rfl
theorem u9{ce:CE}{r k:Nat}{m:Int}{e:Expr}(hc:kh ce r k m e=true):(∃e0,iI ce r e0=true)/\∃e0,iI ce k e0=true:=by
 obtain⟨y,zz,hd⟩:=ag hc
 obtain⟨x,zz,hd⟩:=ag (and2 hd).1
 exact⟨⟨_,(and2 hd).1⟩,⟨_,(and2 hd).2⟩⟩
theorem ns3{a b c:Expr}(ha:aF a=false)(hb:aF b=false)(hc:aF c=false):[a,b,c].all (!aF ·)=true:=by
 rw[F5,F5,F5,ha,hb,hc];rfl
theorem oy(f r k:Nat):EvOk Z lvl Φ (.replR f r k):=by
 intro ce ex A env P σ s rr E hc X h
 obtain⟨o,as,ap,q,rfl,hline,hbase,hd⟩:=jF hc
 obtain⟨h1,hd⟩:=and2 hd
 obtain⟨x,rfl,hd⟩:=ag hd
 refine cps λGq hGq=>?_
 obtain⟨h2,hd⟩:=and2 hd
 obtain⟨h3,h4⟩:=and2 hd
 obtain⟨k4,q4,e4⟩:=bN (ce:=ce) h4
 obtain⟨o',as',ap',q',e3,hline',hbase',hd⟩:=jF h3
 obtain⟨h5,hd⟩:=and2 hd
 obtain⟨k5,q5,e5⟩:=bN (ce:=ce) h5
 obtain⟨y,e6,h6⟩:=ag hd
 obtain⟨⟨er,hr⟩,⟨ek,hk⟩⟩:=u9 h2
 obtain⟨xv,hx,h⟩:=ac h
 obtain⟨yv,hy,h⟩:=ac h
 obtain⟨zv,hz,h⟩:=ac h
 obtain⟨t,ht,h⟩:=ac h
 obtain⟨ds,hds,h⟩:=ac h
 obtain⟨j,hj,h⟩:=ac h
 obtain⟨hj0,h⟩:=ifo_of h
 obtain⟨d,hdd,h⟩:=ac h
 obtain⟨es,hes,h⟩:=ac h
 obtain⟨ru,hru,h⟩:=ac h
 obtain⟨hhd,h⟩:=ifo_of h
 obtain⟨z,hzz,h⟩:=ac h
 obtain⟨hlen,h⟩:=ifo_of h
 obtain⟨tt,htt,h⟩:=aq h
 refine hGq ?_
 clear hGq
 subst h
 obtain⟨c,hc1,htt⟩:=ac htt
 obtain⟨⟨hr1,hr2⟩,rfl⟩:=aV htt
 have ex1:ru.1=⟨#[c]⟩:=by
  obtain⟨c',e⟩:=kg hr1
  rw[e]at hc1 ⊢
  cases hc1
  rfl
 obtain⟨vf,rf,ldf⟩:=i8 h1 X hx
 obtain⟨vr,rr,ldr⟩:=i8 hr X hy
 obtain⟨vk,rk,ldk⟩:=i8 hk X hz
 rw[dR ht]at rf
 rw[dL_eq hds]at rr
 rw[dI_eq hj]at rk
 cases rf.s with
 | str tf htf htfN =>
  cases rk.i with
  | int tj =>
   cases rr.l with
   | @list l vs n pl el zl rl =>
    obtain⟨vd,hvd,rd⟩:=rl.get hdd
    rw[lM hes,l9 hru]at rd
    cases rd.ru with
    | @mk a b u ws n' m' pa ea h0 hu pb eb zb rb hs =>
     have hvl:vs.length<=az:=by rw[rl.length];exact zl
     have hns:aF x.2.1=false:=by rw[e3];rfl
     have hns':aF x.2.2=false:=by rw[e4];rfl
     refine wpAny_Call_method_lateS (gP hbase) ?_ hline (ldf _ s _ E h1 (krefl s) ?_)
     .rw[aA (ns3 (iL h2) hns hns'),aZ];rfl
     .refine⟨"str","str.replace",F.plainAttrs_str,F.slot_str_replace,F.type_str_replace,typeIs_str _ _ _,(λθ e=>nomatch e),?_⟩
      rw[aA (ns3 (iL h2) hns hns'),aZ]
      refine callWith_builtin rfl (evalArgs_plain (spliced_cons (si h2 ldr ldk el hj0 hvl hvd ea rfl (by decide) (by decide) rfl (krefl s) (spliced_cons ?_))))
      have k1:=br s
      rw[e3,e5,e6]
      refine Call_method1 rfl (aA (l:=[y]) (by rw[F5,iL h6];rfl)) hline' (Constant_str ?_)
      have k2:=ktrans k1 (br {s with toks:=s.toks+1})
      refine⟨"str","str.join",F.plainAttrs_str,F.slot_str_join,F.type_str_join,typeIs_str _ _ _,(λθ e=>nomatch e),?_⟩
      refine callWith_builtin rfl (evalArgs_plain (spliced_cons (si h6 ldr ldk el hj0 hvl hvd ea rfl (by decide) (by decide) rfl k2 (spliced_nil ?_))))
      have k3:=ktrans k2 (br {s with toks:=s.toks+1+1})
      refine xS (Q:=P yv.f yv.c) (kheap k3 _ _ eb) (rb.kp k3) hzz hlen.2 (Ci k3 X.tk) λv kt hkt hv0 hvk hv=>?_
      rw[e4]
      refine spliced_cons (wpAny_Constant_int (spliced_nil ?_))
      have k4:=ktrans k3 (ktrans (wK _ kt hkt) (br _))
      have hxx:ru.1∈ud:=GD.mp hhd
      show wpAny _ _ (call (.builtin "str.replace") [.str t tf,.str ru.1 u,.str z v,.int 1 kt]) _ _ _
      rw[ex1]
      refine ta h0 hv0 (λhne=>?_) hr2 (X.keeps k4).top.nb htf (EX htfN (ktl k4)) (X.keeps k4).tk λt' k' hk' ht' htk'=>m9 (ktrans k4 (wK _ k' hk')) ht' htk'
      rcases hv with⟨y',e7,e8⟩ | hv
      .exact hs y' v e7 hxx (λe=>hne (by rw[<-ex1,e,e8]))
      .exact FG (EX hu (EK (ktl k3) hv))
end
end Mine
namespace Mine
open PySem PySem.SeqAt PySem.Calls PyProof.Rows
structure CompOkC(ce:CE)(scope:Scope)(x:Str):Prop where
 fn:scope.kind=.function
 one:∃y:Str×NameKind,scope.names.filter (λy=>aY y.2)=[y]/\y.1=x
 lk:scope.names.lookup x=some .cell
 loc:∀y∈scope.names,y.2=.local->y.1=(".0":Str)/\scope.names.lookup y.1=some .local
 free:∀y∈scope.names,y.2=.free->de (ce.kind y.1)=true/\y.1≠x
 dot:(".0":Str)∉ce.names
 dotx:x≠(".0":Str)
theorem oO{l:List (Str×NameKind)}{x:Str}(h:kz l x=true):l.lookup x=some .cell:=by
 delta kz at h
 cases hk:l.lookup x with
 | none=>rw[hk]at h;cases h
 | some k=>rw[hk]at h;cases k<;>first | rfl | cases h
theorem oneCell_eq{l:List (Str×NameKind)}{x:Str}(h:nH l x=true):∃y:Str×NameKind,l.filter (λy=>aY y.2)=[y]/\y.1=x:=by
 delta nH at h
 cases hk:l.filter (λy=>aY y.2)with
 | nil=>rw[hk]at h;cases h
 | cons y r =>
  cases r with
  | nil=>rw[hk]at h;exact⟨y,rfl,eq_of_beq h⟩
  | cons z r=>rw[hk]at h;cases h
theorem compOkC_of{ce:CE}{scope:Scope}{x:Str}(h:ce.compOkC scope x=true):CompOkC ce scope x:=by
 refine cps λGq hGq=>?_
 obtain⟨h1,h⟩:=and2 h
 obtain⟨h2,h⟩:=and2 h
 obtain⟨h3,h⟩:=and2 h
 obtain⟨h4,h⟩:=and2 h
 obtain⟨h5,h⟩:=and2 h
 obtain⟨h6,h7⟩:=and2 h
 refine hGq ?_
 clear hGq
 refine⟨isFn_eq h1,oneCell_eq h2,oO h3,λy hy e=>?_,λy hy e=>?_,notin_of h6,beq_eq_false_iff_ne.mp (bZ h7)⟩
 .obtain⟨a,b⟩:=and2 (imp_of (all_of h4 hy) (isLocal_eq e))
  exact⟨eq_of_beq a,dA b⟩
 .obtain⟨a,b⟩:=and2 (imp_of (all_of h5 hy) (iH e))
  exact⟨a,beq_eq_false_iff_ne.mp (bZ b)⟩
theorem j0{κ:Str->Option NameKind}{x:Str}:∀{l:List (Str×NameKind)},l.lookup x=some .cell->(cR κ l).lookup x=some .cell:=by
 intro l
 induction l with
 | nil=>exact λh=>h
 | cons z l ih =>
  intro h
  obtain⟨n,k⟩:=z
  rw[FR]at h
  show((if(k==NameKind.free&&κ n==some .cell)=true then(n,NameKind.cell)else(n,k))::cR κ l).lookup x=_
  by_cases e:(x==n)=true
  .rw[e]at h
   cases h
   rw[show(NameKind.cell==NameKind.free&&κ n==some .cell)=false from rfl,if_neg Gk,FR,e]
  .rw[GO.mpr e]at h
   have:(if(k==NameKind.free&&κ n==some .cell)=true then(n,NameKind.cell)else(n,k)).1=n:=by split<;>rfl
   rw[FR,this,GO.mpr e]
   exact ih h
theorem fX(k:NameKind):(k==NameKind.cell)=aY k:=by cases k<;>rfl
theorem fJ(n:Nat)(a:Str)(k:NameKind)(l:List (Str×NameKind))(acc:List (Str×Addr)):cellsFrom n ((a,k)::l) acc=if(k==NameKind.cell)=true then cellsFrom (n+1) l ((a,n)::acc)else cellsFrom n l acc:=rfl
theorem fK(h:Heap)(a:Str)(k:NameKind)(l:List (Str×NameKind)):pushCells h ((a,k)::l)=if(k==NameKind.cell)=true then pushCells (h.push {cls:=.type "cell",data:=.cell none}) l else pushCells h l:=rfl
theorem lh:∀{l:List (Str×NameKind)} (n:Nat) (acc:List (Str×Addr)) (h:Heap),l.filter (λy=>aY y.2)=[]->cellsFrom n l acc=acc/\pushCells h l=h:=by
 intro l
 induction l with
 | nil=>exact λn acc h zz=>⟨rfl,rfl⟩
 | cons z l ih =>
  intro n acc h hf
  obtain⟨a,k⟩:=z
  by_cases hk:aY k=true
  .rw[It (p:=λy:Str×NameKind=>aY y.2) (a:=(a,k)) hk]at hf;cases hf
  .rw[Iu (p:=λy:Str×NameKind=>aY y.2) (a:=(a,k)) hk]at hf
   have hb:¬(k==NameKind.cell)=true:=by rw[fX];exact hk
   rw[fJ,fK]
   exact⟨(if_neg hb).trans (ih n acc h hf).1,(if_neg hb).trans (ih n acc h hf).2⟩
theorem mz{y:Str×NameKind}:∀{l:List (Str×NameKind)} (n:Nat) (acc:List (Str×Addr)) (h:Heap),l.filter (λy=>aY y.2)=[y]->cellsFrom n l acc=(y.1,n)::acc/\pushCells h l=h.push {cls:=.type "cell",data:=.cell none}:=by
 intro l
 induction l with
 | nil=>exact λn acc h hf=>nomatch hf
 | cons z l ih =>
  intro n acc h hf
  obtain⟨a,k⟩:=z
  by_cases hk:aY k=true
  .rw[It (p:=λy:Str×NameKind=>aY y.2) (a:=(a,k)) hk]at hf
   injection hf with e hf
   subst e
   have hb:(k==NameKind.cell)=true:=by rw[fX];exact hk
   rw[fJ,fK]
   exact⟨(if_pos hb).trans (lh (n+1) _ h hf).1,(if_pos hb).trans (lh 0 [] _ hf).2⟩
  .rw[Iu (p:=λy:Str×NameKind=>aY y.2) (a:=(a,k)) hk]at hf
   have hb:¬(k==NameKind.cell)=true:=by rw[fX];exact hk
   rw[fJ,fK]
   exact⟨(if_neg hb).trans (ih n acc h hf).1,(if_neg hb).trans (ih n acc h hf).2⟩
theorem pU{M:Model}{A:Around}{E:Value->Shared->Prop}{s:Shared}{scope:Scope}{y:Str×NameKind}{globals:Addr}{cl:List (Str×Addr)}{qual:Str}{env:Env}{Q:Env->Shared->Prop}(h1:scope.names.filter (λy=>aY y.2)=[y])
  (hQ:Q {scope,locals:=s.heap.objs.size,globals,cells:=(y.1,s.heap.objs.size+1)::cl,qual,func:=none,code:=env.code,frame:=env.frame,builtins:=env.builtins} {s with heap:=(s.heap.push {cls:=.type "dict",data:=.dict #[]}).push {cls:=.type "cell",data:=.cell none}}) :
  wpAny M A (newFunctionEnv scope globals cl [] qual none .none (some env)) Q E s:=by
 simp only[newFunctionEnv,Option.isSome_some,if_true]
 refine wpAny_bind (wpAny_alloc ?_)
 refine wpAny_bind (wpAny_layCells _ (λname kind cells=>by cases hkc:kind==NameKind.cell<;>simp[hkc]) _ _ _ _ ?_)
 rw[(mz _ _ s.heap h1).1,(mz 0 [] _ h1).2]
 rw[show({s with heap:=s.heap.push {cls:=.type "dict",data:=.dict #[]}}:Shared).heap.objs.size=s.heap.objs.size+1 from Heap.size_push ..]
 exact wpAny_bind (wpAny_pure (wpAny_pure hQ))
section
variable{Z:Cf}{lvl:Nat}{A:Around}{env:Env}{ce:CE}{P:Pd}{σ:Sig}{s:Shared}{E:Value->Shared->Prop}
theorem Cx.innerC{scope:Scope}{x:Str}{r:RV}{C K:Addr}{DE C2:Shared}{v:Value}{P':Pd}(X:Cx Z lvl A env ce P σ DE)(O:CompOkC ce scope x)(hk:∀b o,DE.heap.get? b=some o->C2.heap.get? b=some o)(htk:DE.toks<=C2.toks)
  (hc:C2.heap.IsCell K (some v)) (hP:P'.Ok C2.heap) (hPP:∀f c a o,P f c a->DE.heap.get? a=some o->P' f c a) (hv:R Z C2.heap C2.toks (P' r.f r.c) v r.d) :
  Cx Z lvl A (compEnvC scope ((x,K)::closeOver env scope.names []) C env) (ce.inner scope [x]) P' (σ++[some r]) C2 where
 hh:=X.hh
 hd:=X.hd
 hu:=X.hu
 fn:=O.fn
 gl:=X.gl
 bl:=X.bl
 ki:=λy=>(congrArg (List.lookup y) (di X.ki X.fn scope)).symm
 len:=by show(σ++[some r]).length=(ce.names++[x]).length;rw[EQ,EQ,X.len];rfl
 cells:=λy hy=>by
  by_cases e:y=x
  .exact⟨K,by rw[e];show((x,K)::closeOver env scope.names []).lookup x=_;rw[FR,beq_self_eq_true]⟩
  .have hy':de ((cR ce.kind scope.names).lookup y)=true:=by
    rw[<-di X.ki X.fn];exact hy
   cases hl:(cR ce.kind scope.names).lookup y with
   | none=>rw[hl]at hy';cases hy'
   | some k =>
    rw[hl]at hy'
    obtain⟨k',hm',hk'⟩:=dz hl
    have hfree:k'=.free:=by
     rcases hk' with rfl | ⟨e',zz⟩
     .cases k with
      | free=>rfl
      | cell =>
       obtain⟨z,h1,h2⟩:=O.one
       have:(y,NameKind.cell)∈scope.names.filter (λy=>aY y.2):=Fh.mpr ⟨hm',rfl⟩
       rw[h1]at this
       exact absurd (by rw[<-h2,<-EM.mp this]) e
      | _=>cases hy'
     .exact e'
    subst hfree
    have h1:=(O.free _ hm' rfl).1
    rw[X.ki]at h1
    refine(X.cells y h1).imp λc hc=>?_
    show((x,K)::closeOver env scope.names []).lookup y=_
    rw[FR,beq_eq_false_iff_ne.mpr e]
    exact closeOver_lookup hc _ _ (.inl hm')
 pd:=hP
 top:=X.top.keeps hk
 tk:=tne X.tk htk
 glb:=λhg x d hx=>by
  obtain⟨v,h1,h2⟩:=X.glb hg x d hx
  exact⟨v,h1,h2.frame (λa o pa zz e=>⟨hk a o e,hPP _ _ a o pa e⟩) htk⟩
 rd:=λy i q h1 h2 h3=>by
  have h1:lastIdx y (ce.names++[x]) 0=some i:=h1
  rw[du,Hc]at h1
  have hkx:(compEnvC scope ((x,K)::closeOver env scope.names []) C env).kindOf x=some .cell:=by
   show(relabel scope env).names.lookup x=_
   rw[di X.ki X.fn]
   exact j0 O.lk
  by_cases hxy:x=y
  .subst hxy
   have:lastIdx x [x] ce.names.length=some ce.names.length:=by rw[lastIdx_cons];exact if_pos rfl
   rw[this]at h1
   cases h1
   rw[<-X.len,Fg (ER _),G0]at h3
   cases h3
   exact⟨v,.inr ⟨.inl hkx,K,by show((x,K)::closeOver env scope.names []).lookup x=_;rw[FR,beq_self_eq_true],hc⟩,hv⟩
  .have:lastIdx y [x] ce.names.length=none:=by rw[lastIdx_cons];exact if_neg hxy
   rw[this]at h1
   have h1:lastIdx y ce.names 0=some i:=h1
   obtain⟨j,hj,g2⟩:=cX h1
   rw[Hc]at hj
   subst hj
   have hlt:i<σ.length:=X.len▸(EY.mp g2).1
   rw[Fq hlt]at h3
   have h2':d9 ((cR ce.kind scope.names).lookup y)=true:=h2
   cases hl2:(cR ce.kind scope.names).lookup y with
   | none=>rw[hl2]at h2';cases h2'
   | some k =>
    rw[hl2]at h2'
    obtain⟨k',hm',hk'⟩:=dz hl2
    have hfree:k'=.free/\(k=.cell\/k=.free):=by
     rcases hk' with rfl | ⟨e,e'⟩
     .cases k with
      | free=>exact⟨rfl,.inr rfl⟩
      | cell =>
       obtain⟨z,q1,q2⟩:=O.one
       have:(y,NameKind.cell)∈scope.names.filter (λy=>aY y.2):=Fh.mpr ⟨hm',rfl⟩
       rw[q1]at this
       exact absurd (by rw[<-q2,<-EM.mp this]) hxy
      | «local» =>
       have e:=(O.loc _ hm' rfl).1
       exact absurd (Fa g2) (by rw[show y=(".0":Str) from e];exact O.dot)
      | _=>cases h2'
     .exact⟨e,.inl e'⟩
    obtain⟨rfl,hkk⟩:=hfree
    have h4:=(O.free _ hm' rfl).1
    obtain⟨u,l,ru⟩:=X.rd y i q h1 (gu h4) h3
    have e3:(compEnvC scope ((x,K)::closeOver env scope.names []) C env).kindOf y=some k:=by
     show(relabel scope env).names.lookup y=_
     rw[di X.ki X.fn];exact hl2
    refine⟨u,.inr ⟨by rcases hkk with rfl | rfl<;>first | exact .inl e3 | exact .inr e3,?_⟩,ru.frame (λa o pa zz e=>⟨hk a o e,hPP _ _ a o pa e⟩) htk⟩
    rcases l with⟨e,zz⟩ | ⟨zz,c,hc,ic⟩
    .rw[X.ki,e]at h4;cases h4
    .refine⟨c,?_,ic.keeps hk⟩
     show((x,K)::closeOver env scope.names []).lookup y=_
     rw[FR,beq_eq_false_iff_ne.mpr (Ne.symm hxy)]
     exact closeOver_lookup hc _ _ (.inl hm')
end
inductive LoopK(Acc:Heap->Nat->List RV->Prop)(I D C K:Addr)(ds:List PV)(go:PV->Option (List RV))(St:Nat->Heap->Prop)(s:Shared):Nat->Shared->Prop
 | mk {h':Heap} {tk:Nat} {dr:Drawn} {m':Str->Option Value} {u:Option Value} {i:Nat} {qs:List RV}:St i h'->Acc h' tk qs->h'.Ns C m'->h'.IsCell K u->aU go (ds.take i)=some qs->i<=ds.length->(∀b o,b≠C->b≠I->b≠D->b≠K->s.heap.get? b=some o->h'.get? b=some o)->s.toks<=tk ->
   LoopK Acc I D C K ds go St s (ds.length+1 - i) {s with heap:=h',toks:=tk,drawn:=dr}
section
variable{Z:Cf}{lvl:Nat}{A:Around}{env:Env}{ce:CE}{P:Pd}{σ:Sig}{s:Shared}{E:Value->Shared->Prop}
set_option maxHeartbeats 2000000 in
theorem qP{elt iter:Expr}{x:Str}{px:Pos}{scope:Scope}{pos:Pos}{q:RV}{ds:List PV}{go:PV->Option (List RV)}{rs:List RV}(X:Cx Z lvl A env ce P σ s)(O:CompOkC ce scope x)(hns:aM iter=false)
  (hit:wpAny Z.M A (eval iter env) (Pst Z P s q) E s) (hds:aJ q.d=some ds) (hgo:aU go ds=some rs) (hz:rs.length<=az)
  (turn:∀C K,il Z lvl A (compEnvC scope ((x,K)::closeOver env scope.names []) C env) (ce.inner scope [x]) [] elt (λd=>σ++[some (part q d)]) go) :
  dX Z A env P s E (.ListComp elt [⟨.Name x px,iter,[],0⟩] scope pos) iter scope (newList []) (pn Z P) rs:=by
 intro use Q cpos hpost
 obtain⟨y,hy1,hy2⟩:=O.one
 refine wpAny_comprehension_free (use:=use) rfl (cM hns env) (eo λy hy e=>X.cells y.1 (by rw[<-X.ki];exact(O.free y hy e).1)) O.fn (λy hy e=>(O.loc y hy e).2) (wpAny_mono hit (λxv CZ C4=>?_) λzz zz e=>e)
 obtain⟨k1,r1⟩:=C4
 have X1:=X.keeps k1
 refine fL r1 hds λfp Pi St C2 k2 W hst hfp hfq hI hId hPi hsz zz=>?_
 have WW:=W A X.hh
 refine gf.new _ _ _ _ (pU hy1 ?_)
 rw[hy2]
 generalize hH1:C2.heap.push yn=H1
 generalize hH2:H1.push {cls:=.type "dict",data:=.dict #[]}=H2
 have e1:∀b o,C2.heap.get? b=some o->H1.get? b=some o:=λb o e=>hH1▸Heap.get?_push_of_some _ e
 have e2:∀b o,H1.get? b=some o->H2.get? b=some o:=λb o e=>hH2▸Heap.get?_push_of_some _ e
 have e3:∀b o,H2.get? b=some o->(H2.push {cls:=.type "cell",data:=.cell none}).get? b=some o:=λb o e=>Heap.get?_push_of_some _ e
 have z1:H1.objs.size=C2.heap.objs.size+1:=by rw[<-hH1,Heap.size_push]
 have z2:H2.objs.size=H1.objs.size+1:=by rw[<-hH2,Heap.size_push]
 have nC:C2.heap.get? H1.objs.size=none:=aP e1 (size_none _)
 have nK:C2.heap.get? (H1.objs.size+1)=none:=by rw[<-z2];exact aP e1 (aP e2 (size_none _))
 show codeAny Z.M A (.compStart _ 0 (.ref CZ.heap.objs.size) (.ref C2.heap.objs.size) (compEnvC scope ((x,H1.objs.size+1)::closeOver env scope.names []) H1.objs.size env)) _ {C2 with heap:=H2.push {cls:=.type "cell",data:=.cell none}}
 generalize hH3:H2.push {cls:=.type "cell",data:=.cell none}=H3 at e3 ⊢
 have cK:H3.IsCell (H1.objs.size+1) none:=⟨{cls:=.type "cell",data:=.cell none},by rw[<-z2,<-hH3];exact Heap.get?_push_size _ rfl,rfl⟩
 have nsC:H3.Ns H1.objs.size (λzz=>none):=(hH2▸Heap.Ns.new H1 (.type "dict")).keeps e3
 have oD:H3.get? C2.heap.objs.size=some yn:=e3 _ _ (e2 _ _ (hH1▸Heap.get?_push_size _ rfl))
 have hDC:C2.heap.objs.size≠H1.objs.size:=by rw[z1];exact FG (E7 _)
 have hDK:C2.heap.objs.size≠H1.objs.size+1:=by rw[z1];exact FG (FI (E7 _))
 have hCK:H1.objs.size≠H1.objs.size+1:=FG (E7 _)
 have hDf:C2.heap.objs.size∉fp:=λhm=>Gr _ (hfp _ hm)
 have hCf:H1.objs.size∉fp:=λhm=>by have:=hfp _ hm;rw[z1]at this;exact Gr _ (GP this)
 have hKf:H1.objs.size+1∉fp:=λhm=>by have:=hfp _ hm;rw[z1]at this;exact Gr _ (GP (GP this))
 have hIf:CZ.heap.objs.size∈fp:=WW.sub _ (EM.mpr rfl)
 generalize hC:H1.objs.size=C at nC nK nsC hDC hDK hCK hCf hKf cK ⊢
 generalize hK:C+1=K at nK hDK hCK hKf cK ⊢
 generalize hD:C2.heap.objs.size=D at oD hDC hDK hDf ⊢
 have nD:C2.heap.get? D=none:=hD▸size_none _
 have old:∀b o,C2.heap.get? b=some o->H3.get? b=some o:=λb o e=>e3 b o (e2 b o (e1 b o e))
 have pd1:=X.pd.keeps (kheap k1)
 have Dd:St 0 H3:=WW.frame _ _ _ hst λb zz o e=>old b o e
 have hDI:D≠CZ.heap.objs.size:=λe=>hDf (e▸hIf)
 have hCI:C≠CZ.heap.objs.size:=λe=>hCf (e▸hIf)
 have hKI:K≠CZ.heap.objs.size:=λe=>hKf (e▸hIf)
 have up:∀{h':Heap},(∀b o,b≠C->b≠CZ.heap.objs.size->b≠D->b≠K->H3.get? b=some o->h'.get? b=some o)->∀b o,CZ.heap.get? b=some o->h'.get? b=some o:=λhk b o e =>
  have e2:=kheap k2 b o e
  hk b o (ne_of_get nC e2) (ne_of_get (size_none _) e) (ne_of_get nD e2) (ne_of_get nK e2) (old b o e2)
 have G:=ef (Z:=Z) (A:=A) (P:=λf c a=>P f c a/\a≠K) (rs:=rs) hz
 have main:codeAny Z.M A (.compLoop (.ListComp elt [⟨.Name x px,iter,[],0⟩] scope pos) 0 (.ref CZ.heap.objs.size) (.ref D) (compEnvC scope ((x,K)::closeOver env scope.names []) C env)) (compPost Z.M A E use Q (.ref D) C) {C2 with heap:=H3}:=by
  refine dm (cz.q ..).1 (cz.q ..).2 (cz.one ..) (cz.un ..) (LoopK (pn Z (λf c a=>P f c a/\a≠K) D C) CZ.heap.objs.size D C K ds go St {C2 with heap:=H3}) ?_ (ds.length+1) (.mk (i:=0) Dd (G.zero D C _ _ oD) nsC cK rfl (Fi _) (λzz zz zz zz zz zz e=>e) (ER _))
  intro n s' hL
  cases hL with
  | @mk H tk dr m' u i qs hst' hacc' hn' hcK hq hi hk ht0 =>
   have data:∀{C4:Heap} {N:Nat},tk<=N->(∀b o,b≠CZ.heap.objs.size->H.get? b=some o->C4.get? b=some o)->pn Z (λf c a=>P f c a/\a≠K) D C C4 N qs:=λhN up=>G.ok D C hacc' hN (λo e=>up _ o hDI e) λf c a o p hd' e=>up a o (λe'=>hId _ _ hst' o (e'▸e) hd') e
   by_cases hlt:i<ds.length
   .refine tk_of (WW.item i _ _ _ hlt hst' λv C4 Dc hPv Dd Dm Db=>?_)
    have Dz:tk<=Dc:=Db
    replace Db:=EK ht0 Db
    refine cps λGq hGq=>?_
    obtain⟨r,ts,hr,hq1,hsize⟩:=me hgo hq (EW hlt)
    obtain⟨d',hd',rv⟩:=hPi i v hPv
    refine hGq ?_
    clear hGq
    cases hd'.symm.trans (EW hlt)
    have Dj:∀b o,b≠CZ.heap.objs.size->H.get? b=some o->C4.get? b=some o:=λb o hb e=>Dm b o (λhm=>hb (EM.mp hm)) e
    have kx:(compEnvC scope ((x,K)::closeOver env scope.names []) C env).kindOf x=some .cell:=by
     show(relabel scope env).names.lookup x=_
     rw[di X.ki X.fn]
     exact j0 O.lk
    have Eo:C4.IsCell K u:=hcK.imp λo q=>⟨Dj K o hKI q.1,q.2⟩
    refine wpAny_assign_Name (wpAny_storeName_cell (c:=K) O.fn kx (by show((x,K)::closeOver env scope.names []).lookup x=_;rw[FR,beq_self_eq_true]) Eo λC8 DS Dk=>?_)
    have DM:St (i+1) C8:=WW.frame _ _ _ Dd λb hb o e=>Dk.extBut b o (λe'=>hKf (e'▸hb)) e
    have Ds:pn Z (λf c a=>P f c a/\a≠K) D C C8 Dc qs:=G.ok D C (data Dz Dj) (ER _) (λo e=>Dk.extBut D o hDK e) λf c a o p zz e=>Dk.extBut a o p.1.2 e
    have DF:C8.Ns C m':=(hn'.at' λo e=>Dj _ o hCI e).sameBut Dk hCK
    have Dt:∀b o,b≠C->b≠CZ.heap.objs.size->b≠D->b≠K->H3.get? b=some o->C8.get? b=some o:=λb o h1 h2 h3 h4 e=>Dk.extBut b o h4 (Dj b o h2 (hk b o h1 h2 h3 h4 e))
    have tk1:CZ.toks<=Dc:=EK (ktl k2) Db
    have hP0:Pd.Ok (PX (λf c a=>P f c a/\a≠K) D C) C8:=⟨λf c f' c' a h1 h2 h3=>⟨⟨X.pd.mono f c f' c' a h1 h2 h3.1.1,h3.1.2⟩,h3.2⟩,λf c a e=>⟨⟨pd1.fresh f c a (aP (up Dt) e),λq=>by obtain⟨o,ho,zz⟩:=DS;rw[q,ho]at e;cases e⟩,(G.inn D C _ _ _ Ds).elim λn q=>(ne_of_get e q).symm,(ns_get DF).elim λo q=>(ne_of_get e q).symm⟩⟩
    have pp:∀f c a o,P f c a->CZ.heap.get? a=some o->PX (λf c a=>P f c a/\a≠K) D C f c a:=λf c a o p e=>have e2:=kheap k2 a o e;⟨⟨p,ne_of_get nK e2⟩,ne_of_get nD e2,ne_of_get nC e2⟩
    have X3:Cx Z lvl A (compEnvC scope ((x,K)::closeOver env scope.names []) C env) (ce.inner scope [x]) (PX (λf c a=>P f c a/\a≠K) D C) (σ++[some (part q (ds[i]))]) {C2 with heap:=C8,toks:=Dc,drawn:=dr} :=
     X1.innerC O (up Dt) tk1 DS hP0 pp ((cn (P:=P) (r:=q) rv).frame (λa o pa zz e=>⟨up Dt a o e,pp _ _ a o pa e⟩) tk1)
    refine wpAny_mono (turn C K _ _ _ r _ X3 hr) (λok C5 C9=>?_) λzz zz e=>e
    obtain⟨⟨H3',Dx,Eg,rfl,k3,Dp⟩,C9⟩:=C9
    have Du:Dc<=Dx:=Dp
    replace Dp:=EK Db Du
    have DA:St (i+1) H3':=WW.frame _ _ _ DM λb zz o e=>k3 b o e
    have DT:=G.ok D C Ds Du (λo e=>k3 _ o e) λf c a o p zz e=>k3 a o e
    cases ok with
    | false =>
     have C9:r=[]:=C9
     subst C9
     rw[Fb]at hq1
     exact⟨_,lt_step hlt,.mk DA DT (DF.keeps k3) (DS.keeps k3) hq1 hlt (λb o h1 h2 h3 h4 e=>k3 b o (Dt b o h1 h2 h3 h4 e)) Dp⟩
    | true =>
     refine wpAny_mono (kN (rs:=rs) (Im:=λzz=>True) (cenv:=compEnvC scope ((x,K)::closeOver env scope.names []) C env) (G.ok D C) (G.add D C) hDC (DF.keeps k3) trivial DT ⟨ts,hsize⟩ C9) (λfin C7 Dh=>?_) λzz zz e=>e
     obtain⟨rfl,Dh⟩:=Dh
     cases Dh with
     | @mk H4 Eh Ei Eu DG DU DV k4 DW =>
      exact⟨rfl,_,lt_step hlt,.mk (WW.frame _ _ _ DA λb hb o e=>k4 b o (λe'=>hDf (e'▸hb)) (λ(e':b=C)=>hCf (e'▸hb)) e) DG DU ((DS.keeps k3).imp λo q=>⟨k4 K o (Ne.symm hDK) (Ne.symm hCK) q.1,q.2⟩) hq1 hlt (λb o h1 h2 h3 h4 e=>k4 b o h3 h1 (k3 b o (Dt b o h1 h2 h3 h4 e))) (EK Dp DW)⟩
   .obtain rfl:i=ds.length:=Gb hi (Gc.mp hlt)
    rw[GV,hgo]at hq
    cases hq
    refine tk_of (WW.done _ _ _ hst' λC4 Dc Dm Db=>?_)
    have Dj:∀b o,b≠CZ.heap.objs.size->H.get? b=some o->C4.get? b=some o:=λb o hb e=>Dm b o (λhm=>hb (EM.mp hm)) e
    have ht2:=EK (ktl k1) (EK (ktl k2) (EK ht0 Db))
    obtain⟨ys,g1,g2⟩:=data Db Dj
    refine hpost _ _ _ ⟨?_,aP (kheap k1) (aP (kheap k2) nD),aP (kheap k1) (aP (kheap k2) nC),hDC,⟨m',hn'.at' λo e=>Dj _ o hCI e⟩,⟨ys,g1,g2.frame (λf c a o p zz e=>⟨e,p.1.1,p.2⟩) (ER _)⟩,λf c=>pd1.fresh f c _ (aP (kheap k2) nD)⟩
    have upA:=up (λb o h1 h2 h3 h4 e=>Dj b o h2 (hk b o h1 h2 h3 h4 e))
    obtain⟨G1,t1,d1,rfl,kk1,zz⟩:=k1
    obtain⟨G2,t2,d2,rfl,zz,zy⟩:=k2
    exact⟨C4,Dc,dr,rfl,λb o e=>upA b o (kk1 b o e),ht2⟩
 exact gf.start main (WW.self 0 _ _ _ Dd main)
end
section
variable{Z:Cf}{lvl:Nat}{Φ:FTab}
section
variable{elt it it2 cond:SExpr}{ce:CE}{e:Expr}{A:Around}{env:Env}{P:Pd}{σ:Sig}{s:Shared}{r:RV}{E:Value->Shared->Prop}
theorem o0(he:EOk Z lvl Φ elt)(hi:EOk Z lvl Φ it)(hc:chk (.compC elt it) ce e=true)(X:Cx Z lvl A env ce P σ s)(h:aa Φ (.compC elt it) σ=some r):IsComp Z A env P s E e r:=by
 obtain⟨el,x,i,sc,p',q',rfl,hd⟩:=pw hc
 refine cps λGq hGq=>?_
 obtain⟨h2,hd⟩:=and2 hd
 obtain⟨h3,hd⟩:=and2 hd
 obtain⟨h4,h5⟩:=and2 hd
 obtain⟨q,hq,hA⟩:=ac h
 obtain⟨ds,hds,hB⟩:=ac hA
 obtain⟨rs,hrs,hr⟩:=ac hB
 refine hGq ?_
 clear hGq
 exact⟨_,_,_,_,_,_,_,rs,rfl,hr,qP X (compOkC_of h2) (bZ h5) (hi.ev ce i A env P σ s q E h3 X hq) hds hrs (mR hr) λC K=>kX he h4⟩
end
variable(D:Wd Z){elt it it2 cond:SExpr}
include D in
theorem qH(he:EOk Z lvl Φ elt)(hi:EOk Z lvl Φ it)(hcd:EOk Z lvl Φ cond):EvOk Z lvl Φ (.sset elt it cond):=by
 intro ce e A env P σ s r E hc X h
 obtain⟨x,q1,q2,rfl,hg,hst,hc1⟩:=bF hc
 obtain⟨el,y,i,c,sc,p',q',rfl,hd⟩:=x8 hc1
 refine cps λGq hGq=>?_
 obtain⟨h1,hd⟩:=and2 hd
 obtain⟨h2,hd⟩:=and2 hd
 obtain⟨h3,hd⟩:=and2 hd
 obtain⟨h4,h5⟩:=and2 hd
 obtain⟨q,hq,hA⟩:=ac h
 obtain⟨ds,hds,hB⟩:=ac hA
 obtain⟨rs,hrs,hr⟩:=ac hB
 obtain⟨xs,hxs,hr'⟩:=ac hr
 refine hGq ?_
 clear hGq
 exact sG D hg hst X hr rfl (iW uK wZ X (cj h2) (bZ h5) (hi.ev ce i A env P σ s q E h3 X hq) hds hrs (jS hxs (aV hr').1) λC=>gL he hcd h4 h1)
include D in
theorem pL(he:EOk Z lvl Φ elt)(hi:EOk Z lvl Φ it)(hi2:EOk Z lvl Φ it2)(hcd:EOk Z lvl Φ cond):EvOk Z lvl Φ (.sset2 elt it it2 cond):=by
 intro ce e A env P σ s r E hc X h
 obtain⟨x,q1,q2,rfl,hg,hst,hc1⟩:=bF hc
 obtain⟨el,y,i,z,i2,c,sc,p',q',r',rfl,hd⟩:=yo hc1
 refine cps λGq hGq=>?_
 obtain⟨h1,hd⟩:=and2 hd
 obtain⟨h2,hd⟩:=and2 hd
 obtain⟨h3,hd⟩:=and2 hd
 obtain⟨h4,hd⟩:=and2 hd
 obtain⟨h5,hd⟩:=and2 hd
 obtain⟨h6,hd⟩:=and2 hd
 obtain⟨h7,h8⟩:=and2 hd
 obtain⟨q,hq,hA⟩:=ac h
 obtain⟨ds,hds,hB⟩:=ac hA
 obtain⟨rs,hrs,hr⟩:=ac hB
 obtain⟨xs,hxs,hr'⟩:=ac hr
 refine hGq ?_
 clear hGq
 refine sG D hg hst X hr rfl (kw uK wZ X (cj h2) (beq_eq_false_iff_ne.mp (bZ h8)) (bZ h6) (bZ h7) (hi.ev ce i A env P σ s q E h3 X hq) hds hrs (jS hxs (aV hr').1) λC=>?_)
 intro C5 P' d rr E' X3 hgo
 obtain⟨q2,hq2,hgo⟩:=ac hgo
 obtain⟨es,hes,hgo⟩:=ac hgo
 exact .mk q2 es _ (hi2.ev _ i2 A _ P' _ C5 q2 E' h4 X3 hq2) hes hgo (gL he hcd h5 h1)
end
section
variable{Z:Cf}{lvl:Nat}{Φ:FTab}
theorem eok(D:Wd Z)(T:Ctr Z lvl Φ)(hG:∀x q,Φ x []=some q->gp x=some q.1)(se:SExpr):EOk Z lvl Φ se :=
 SExpr.rec (motive_1:=EOk Z lvl Φ) (motive_2:=LOk Z lvl Φ)
  (λi=>.of rfl (lT i)) (λx=>.of rfl (qV hG x)) (.of rfl qB) (λb=>.of rfl (qo b)) (λi=>.of rfl (uf i)) (λx=>.of rfl (tY x)) (λzz L=>.of rfl (qU L)) (λzz L=>.of rfl (ev_tup_ok L)) (λzz zz L=>.of rfl (ev_dict_ok L))
  (λop zz zz a b=>.of rfl (ug op a b)) (λzz zz a b=>.of rfl (sK a b)) (λzz zz a b=>.of rfl (pu a b)) (λzz zz a b=>.of rfl (oW a b)) (λzz zz zz a b c=>.of rfl (re a b c)) (λop zz zz a b=>.of rfl (uh op a b)) (λn zz a=>.of rfl (tL n a))
  (λzz L=>yu L) (λzz L=>zF L) (λzz a=>zK a) (λzz zz zz t a b=>Az t a b) (λf zz L=>.of rfl (qO T f L)) (λzz a=>.of rfl (sP D a)) (λzz a=>.of rfl (nJ D a)) (λzz a=>.of rfl (tI D a)) (λzz a=>.of rfl (tA D a))
  (λzz zz zz=>.of rfl λzz zz zz zz zz zz zz zz zz hc=>rQ hc)
  (λzz a=>.of rfl (pf D a)) (λzz zz zz a b c=>.of rfl (tq a b c))
  (λzz zz a b=>.of rfl λzz zz zz zz zz zz zz zz zz hc X h=>(rU a b hc X h).ev X.pd) (λzz zz a b=>.of rfl λzz zz zz zz zz zz zz zz zz hc X h=>(o0 a b hc X h).ev X.pd) (λzz zz zz a b c=>.of rfl λzz zz zz zz zz zz zz zz zz hc X h=>(lL a b c hc X h).ev X.pd) (λzz zz zz a b c=>.of rfl λzz zz zz zz zz zz zz zz zz hc X h=>(oY a b c hc X h).ev X.pd)
  (λzz zz zz a b c=>.of rfl (qH D a b c)) (λzz zz zz zz a b c d=>.of rfl (pL D a b c d)) (λzz a=>.of rfl (nL D a)) (λx zz a=>.of rfl (s9 a)) (λsl i=>.of rfl (tK D sl i)) (λf r k=>.of rfl (oy f r k))
  (λzz h=>uS h) (λzz zz a L x hx=>(EU.mp hx).elim (λe=>e▸a) (L x)) se
theorem ev(D:Wd Z)(T:Ctr Z lvl Φ)(hG:∀x q,Φ x []=some q->gp x=some q.1)(se:SExpr):EvOk Z lvl Φ se:=(eok D T hG se).ev
theorem te(D:Wd Z)(T:Ctr Z lvl Φ)(hG:∀x q,Φ x []=some q->gp x=some q.1)(se:SExpr):TeOk Z lvl Φ se:=(eok D T hG se).te
end
abbrev Tbl(o:Obj):Prop:=o.cls=.none/\∃vs,o.data=.fields vs
theorem data_tbl{o:Obj}(h:isData o):¬Tbl o:=by
 rintro⟨e,zz⟩
 rcases h with q | q | q | q<;>· rw[e]at q;cases q
inductive KeepG(g:Bool)(s s':Shared):Prop
 | mk (h':Heap) (tk:Nat) (dr:Drawn) (gs:Array GenState) (e:s'={s with heap:=h',toks:=tk,drawn:=dr,gens:=gs}) (ht:s.toks<=tk) (k:∀b o,s.heap.get? b=some o->(g=true->¬Tbl o)->h'.get? b=some o) (th:∀b o,s.heap.get? b=some o->∃o',h'.get? b=some o') (hg:g=false->gs=s.gens)
   (gt:g=true->(AllBare s.gens->AllBare gs)/\OldK s.heap h'/\∀c P,dY s.heap c P->dY h' c P):KeepG g s s'
theorem gT{h:Heap}{a:Addr}{m:Str->Option Value}(n:h.Ns a m){o:Obj}(e:h.get? a=some o):¬Tbl o:=by
 obtain⟨o',es,ep,ho,hd,zz⟩:=n
 cases e.symm.trans ho
 rintro⟨zz,vs,q⟩
 rw[hd]at q;cases q
theorem isCode_at{h h':Heap}{c P:Addr}{ps:Array Value}(x:h.IsCode c P ps)(hc:∀o,h.get? c=some o->h'.get? c=some o)(hP:∀o,h.get? P=some o->h'.get? P=some o):h'.IsCode c P ps:=by
 refine cps λGq hGq=>?_
 obtain⟨o,vs,file,tf,flags,tg,inF,text,tt,op,a,r1,r2,r3,r4,r5,r6,b,r⟩:=x
 exact hGq ⟨o,vs,file,tf,flags,tg,inF,text,tt,op,hc _ a,r1,r2,r3,r4,r5,r6,hP _ b,r⟩
theorem tableAt_at{h h':Heap}{c P:Addr}{ps:Array Value}(x:h.TableAt c P ps)(hc:∀o,h.get? c=some o->h'.get? c=some o)(hP:∀o,h.get? P=some o->h'.get? P=some o):h'.TableAt c P ps :=
 ⟨x.1.imp λo q=>q.imp λvs q=>⟨hc _ q.1,q.2⟩,hP _ x.2⟩
theorem w0{h h':Heap}{c P:Addr}(x:dY h c P)(hc:∀o,h.get? c=some o->h'.get? c=some o)(hP:∀o,h.get? P=some o->h'.get? P=some o):dY h' c P:=x.imp λps q=>⟨isCode_at q.1 hc hP,tableAt_at q.2 hc hP⟩
theorem tabOk_in{h:Heap}{c P:Addr}(x:dY h c P):(∃o,h.get? c=some o)/\∃o,h.get? P=some o:=x.elim λps q=>⟨q.2.1.imp λo w=>w.elim λvs w=>w.1,_,q.2.2⟩
theorem xV{Ea h h':Heap}(K:OldK Ea h)(hk:∀b o',(∃o,Ea.get? b=some o)->h.get? b=some o'->h'.get? b=some o'):OldK Ea h' :=
 ⟨λb o e=>by
  rcases K.old b o e with x | ⟨t,hc,vs,more,hv,x⟩ | ⟨rfl,hc,⟨o',es,n,ho',r⟩,z⟩
  .exact .inl (hk _ _ ⟨o,e⟩ x)
  .exact .inr (.inl ⟨t,hc,vs,more,hv,hk _ _ ⟨o,e⟩ x⟩)
  .exact .inr (.inr ⟨rfl,hc,⟨o',es,n,hk _ _ ⟨o,e⟩ ho',r⟩,λkey=>by rw[OldK.staticOf_congr ((hk _ _ ⟨o,e⟩ ho').trans ho'.symm) key];exact z key⟩),
  λb o e=>(K.there b o e).imp λo' ho'=>hk _ _ ⟨o,e⟩ ho'⟩
section
variable{g:Bool}{s0 s s':Shared}
theorem KeepG.refl(s:Shared):KeepG g s s:=⟨s.heap,s.toks,s.drawn,s.gens,rfl,ER _,λb o e zz=>e,λb o e=>⟨o,e⟩,λzz=>rfl,λzz=>⟨id,.refl _,λc P h=>h⟩⟩
theorem KeepG.step{h':Heap}{tk:Nat}{dr:Drawn}(K:KeepG g s0 s)(ht:s.toks<=tk)(hk:∀b o',(∃o,s0.heap.get? b=some o)->s.heap.get? b=some o'->h'.get? b=some o'):KeepG g s0 {s with heap:=h',toks:=tk,drawn:=dr}:=by
 obtain⟨h,t,d,gs,rfl,ht0,k,th,hg,gt⟩:=K
 refine⟨h',tk,dr,gs,rfl,EK ht0 ht,λb o e hb=>hk b o ⟨o,e⟩ (k b o e hb),λb o e=>(th b o e).imp λo' e'=>hk b o' ⟨o,e⟩ e',hg,λq=>⟨(gt q).1,xV (gt q).2.1 hk,λc P x=>?_⟩⟩
 have:=tabOk_in x
 exact w0 ((gt q).2.2 c P x) (λo e=>hk _ o this.1 e) λo e=>hk _ o this.2 e
theorem KeepG.keeps(K:KeepG g s0 s)(k:Keeps s s'):KeepG g s0 s':=by
 obtain⟨h,t,dr,rfl,kk,ht⟩:=k
 exact K.step ht λb o' zz e=>kk b o' e
theorem KeepG.none(K:KeepG g s0 s){a:Addr}(e:s.heap.get? a=none):s0.heap.get? a=none:=by
 obtain⟨h,t,d,gs,rfl,ht0,k,th,hg,gt⟩:=K
 cases q:s0.heap.get? a with
 | none=>rfl
 | some o=>obtain⟨o',e'⟩:=th a o q;rw[show h.get? a=none from e]at e';cases e'
theorem KeepG.tk(K:KeepG g s0 s):s0.toks<=s.toks:=by
 obtain⟨h,t,d,gs,rfl,ht0,k,th,hg,gt⟩:=K
 exact ht0
theorem KeepG.at(K:KeepG g s0 s){b:Addr}{o:Obj}(e:s0.heap.get? b=some o)(h:g=true->¬Tbl o):s.heap.get? b=some o:=by
 obtain⟨h',t,d,gs,rfl,ht0,k,th,hg,gt⟩:=K
 exact k b o e h
theorem KeepG.all(K:KeepG false s0 s):Keeps s0 s:=by
 obtain⟨h',t,d,gs,rfl,ht0,k,th,hg,gt⟩:=K
 cases hg rfl
 exact⟨h',t,d,rfl,λb o e=>k b o e (λq=>rQ q),ht0⟩
theorem KeepG.tab(K:KeepG g s0 s){c P:Addr}(x:dY s0.heap c P):dY s.heap c P:=by
 cases g with
 | false=>obtain⟨ps,x1,x2⟩:=x;exact⟨ps,x1.keeps (kheap K.all),x2.keeps (kheap K.all)⟩
 | true =>
  obtain⟨h',t,d,gs,rfl,ht0,k,th,hg,gt⟩:=K
  exact(gt rfl).2.2 c P x
theorem gZ{a:Addr}{m:Str->Option Value}(K:KeepG g s0 s)(n:s0.heap.Ns a m):s.heap.Ns a m:=n.at' λo e=>K.at e λzz=>gT n e
theorem Tp.keepG{Z:Cf}(T:Tp Z s0.heap)(K:KeepG g s0 s):Tp Z s.heap where
 g:=gZ K T.g
 b:=gZ K T.b
 nolimit:=T.nolimit.imp λm q=>⟨gZ K q.1,q.2⟩
 fn:=λd hd=>by
  induction T.fn d hd with
  | mk a o pm doc h1 h2 h3 h4 h6 =>
   refine⟨a,o,pm,doc,h1,K.at h2 (λzz q=>by obtain⟨zz,vs,e⟩:=q;rw[h3]at e;cases e),h3,?_,K.tab h6⟩
   obtain⟨ps,zz,⟨oc,vs,ec,hc,r⟩,zz⟩:=h6
   obtain⟨c',o',vs',t,e,g',r'⟩:=h4
   cases e
   cases ec.symm.trans g'
   exact⟨_,oc,vs',t,rfl,K.at ec (λzz q=>by have:=q.1;rw[hc]at this;cases this),r'⟩
 builtins:=T.builtins
 nb:=T.nb.imp λm q=>⟨gZ K q.1,q.2⟩
 bm:=T.bm.imp λbm q=>q.imp λob q=>⟨q.1,q.2.1,K.at q.2.2.1 (λzz w=>by have:=w.1;rw[q.2.2.2.1]at this;cases this),q.2.2.2⟩
end
def Ow(env:Env)(X:Addr->Prop)(σ:Sig)(ad:Nat->Addr)(a:Addr):Prop :=
 X a\/a=env.locals\/(∃y,env.cells.lookup y=some a)\/∃i r,σ[i]?= some (some r)/\r.c=false/\ad i=a
def Pf(Q0:Addr->Prop)(h0:Heap)(O:Addr->Prop):Pd:=λf c a=>Q0 a/\(f=true->h0.get? a=none)/\(c=true->¬O a)
inductive OwnR(Z:Cf)(h:Heap)(N:Nat)(P1:Addr->Prop)(a:Addr):PV->Prop
 | list {vs:List Value} {n:Nat} {ds:List PV}:h.get? a=some (bY vs n)->ds.length<=az->RS Z h N P1 vs ds->OwnR Z h N P1 a (.list ds)
 | dict {kvs:List (Str×Value)} {ks:List Str} {ds:List PV}:h.DictOf (strKind Z.prog Z.w) a kvs->(a==sysModules)=false->kvs.map (·.1)=ks->ks.length<=az->RS Z h N P1 (kvs.map (·.2)) ds->OwnR Z h N P1 a (.dict ks ds)
theorem OwnR.toR{Z:Cf}{h:Heap}{N:Nat}{P1 P2:Addr->Prop}{a:Addr}{d:PV}(hp:∀b,P1 b->P2 b)(ha:P2 a)(x:OwnR Z h N P1 a d):R Z h N P2 (.ref a) d:=by
 cases x with
 | list e z r=>exact .list ha e z (r.mono hp)
 | dict e q k z r=>exact .dict ha e q k z (r.mono hp)
theorem OwnR.live{Z:Cf}{h:Heap}{N:Nat}{P1:Addr->Prop}{a:Addr}{d:PV}(x:OwnR Z h N P1 a d):∃o,h.get? a=some o/\isData o:=by
 cases x with
 | list e z r=>exact⟨_,e,eJ⟩
 | dict e q k z r=>obtain⟨o,zz,zz,ho,hc,zz⟩:=e;exact⟨o,ho,.inr (.inr (.inl hc.1))⟩
theorem OwnR.frame{Z:Cf}{h h':Heap}{N N':Nat}{P1 P2:Addr->Prop}{a:Addr}{d:PV}(hk:∀b o,P1 b->isData o->h.get? b=some o->h'.get? b=some o/\P2 b)(hN:N<=N')(ha:∀o,h.get? a=some o->h'.get? a=some o)(x:OwnR Z h N P1 a d):OwnR Z h' N' P2 a d:=by
 cases x with
 | list e z r=>exact .list (ha _ e) z (r.frame hk hN)
 | dict e q k z r=>exact .dict (e.imp λo e=>e.imp λes e=>e.imp λep e=>⟨ha _ e.1,e.2⟩) q k z (r.frame hk hN)
def fg(k:Option NameKind):Bool:=match k with | some .local=>true | some .cell=>true | _=>false
theorem cO{k:Option NameKind}(h:fg k=true):d9 k=true:=by
 cases k with
 | none=>cases h
 | some k=>cases k<;>first | rfl | cases h
structure Fx(Z:Cf)(lvl:Nat)(A:Around)(env:Env)(ce:CE)(Q0:Addr->Prop)(s0:Shared):Prop where
 hh:A.handled=none
 hd:A.depth+lvl<recursionLimit
 hu:A.units+16*lvl+64<cLine
 fn:env.scope.kind=.function
 gl:env.globals=mainGlobals
 bl:env.builtins=builtinsNs
 ki:∀x,ce.kind x=env.kindOf x
 cells:∀y,de (env.kindOf y)=true->∃c,env.cells.lookup y=some c
 q0:∀b,s0.heap.get? b=none->Q0 b
 cinj:∀y z c,env.cells.lookup y=some c->env.cells.lookup z=some c->y=z
 cne:∀y c,env.cells.lookup y=some c->c≠env.locals
 top0:Tp Z s0.heap
 tk0:s0.toks≠0
 glb:ce.gl=true->∀x d,gp x=some d->∃v,Z.mg x=some v/\R Z s0.heap s0.toks Q0 v d
structure Sx(Z:Cf)(env:Env)(ce:CE)(Q0:Addr->Prop)(s0:Shared)(X:Addr->Prop)(ad:Nat->Addr)(σ:Sig)(s:Shared):Prop where
 len:σ.length=ce.names.length
 k0:KeepG ce.gl s0 s
 ob:∀b,Ow env X σ ad b->s0.heap.get? b=none
 lv:∀b,Ow env X σ ad b->∃o,s.heap.get? b=some o
 ns:∃m,s.heap.Ns env.locals m
 cl:∀y c,env.cells.lookup y=some c->∃v,s.heap.IsCell c v
 rd:∀x i r,ce.idx x=some i->d9 (ce.kind x)=true->σ[i]?= some (some r)->∃v,aS env s.heap x v /\
  (r.c=true->R Z s.heap s.toks (Pf Q0 s0.heap (Ow env X σ ad) r.f true) v r.d) /\
  (r.c=false->v=.ref (ad i)/\OwnR Z s.heap s.toks (Pf Q0 s0.heap (Ow env X σ ad) r.f true) (ad i) r.d)
 adj:∀i j r r',σ[i]?= some (some r)->r.c=false->σ[j]?= some (some r')->r'.c=false->ad i=ad j->i=j
 adn:∀i r,σ[i]?= some (some r)->r.c=false->ad i≠env.locals/\(∀y,env.cells.lookup y≠some (ad i))/\¬X (ad i)
 xn:∀b,X b->b≠env.locals/\∀y,env.cells.lookup y≠some b
structure Ext(env:Env)(ce:CE)(X:Addr->Prop)(ad:Nat->Addr)(σ:Sig)(s:Shared)(ad':Nat->Addr)(σ':Sig)(s':Shared):Prop where
 kp:∀b o,s.heap.get? b=some o->(¬Ow env X σ ad b\/X b)->(ce.gl=true->¬Tbl o)->s'.heap.get? b=some o
 ow:∀b,Ow env X σ' ad' b->Ow env X σ ad b\/s.heap.get? b=none
 lv:∀b,(∃o,s.heap.get? b=some o)->∃o,s'.heap.get? b=some o
 tk:s.toks<=s'.toks
 ld:∀y u,ce.idx y=none->d9 (ce.kind y)=true->aS env s.heap y u->aS env s'.heap y u
section
variable{Z:Cf}{lvl:Nat}{A:Around}{env:Env}{ce:CE}{Q0:Addr->Prop}{s0 s s' s'':Shared}{X:Addr->Prop}{ad ad' ad'':Nat->Addr}{σ σ' Df:Sig}{E:Value->Shared->Prop}
theorem none_of{h h':Heap}(hk:∀b o,h.get? b=some o->h'.get? b=some o){a:Addr}(e:h'.get? a=none):h.get? a=none:=by
 cases q:h.get? a with
 | none=>rfl
 | some o=>rw[hk a o q]at e;cases e
theorem Pf.ok(F:Fx Z lvl A env ce Q0 s0)(S:Sx Z env ce Q0 s0 X ad σ s):(Pf Q0 s0.heap (Ow env X σ ad)).Ok s.heap where
 mono:=λf c f' c' a h1 h2 ⟨q1,q2,q3⟩=>⟨q1,λh=>q2 (h1 h),λh=>q3 (h2 h)⟩
 fresh:=λf c a e=>by
  have e0:=S.k0.none e
  refine⟨F.q0 a e0,λzz=>e0,λzz ho=>?_⟩
  obtain⟨o,ho⟩:=S.lv a ho
  rw[ho]at e;cases e
theorem Sx.cx(F:Fx Z lvl A env ce Q0 s0)(S:Sx Z env ce Q0 s0 X ad σ s):Cx Z lvl A env ce (Pf Q0 s0.heap (Ow env X σ ad)) σ s where
 hh:=F.hh
 hd:=F.hd
 hu:=F.hu
 fn:=F.fn
 gl:=F.gl
 bl:=F.bl
 ki:=F.ki
 len:=S.len
 cells:=F.cells
 pd:=Pf.ok F S
 top:=F.top0.keepG S.k0
 tk:=tne F.tk0 S.k0.tk
 glb:=λhg x d hx=>by
  obtain⟨v,h1,h2⟩:=F.glb hg x d hx
  exact⟨v,h1,h2.frame (λa o q dd e=>⟨S.k0.at e (λzz=>data_tbl dd),q,(λh=>rQ h),λzz ho=>by rw[S.ob a ho]at e;cases e⟩) S.k0.tk⟩
 rd:=λx i r h1 h2 h3=>by
  refine cps λGq hGq=>?_
  obtain⟨v,l,hc,ho⟩:=S.rd x i r h1 h2 h3
  refine hGq ?_
  clear hGq
  refine⟨v,l,?_⟩
  cases hrc:r.c with
  | true=>exact hc hrc
  | false =>
   obtain⟨rfl,o⟩:=ho hrc
   refine o.toR (λb hb=>⟨hb.1,hb.2.1,λh=>by cases h⟩) ?_
   have e0:=S.ob (ad i) (.inr (.inr (.inr ⟨i,r,h3,hrc,rfl⟩)))
   exact⟨F.q0 _ e0,λzz=>e0,λh=>by cases h⟩
theorem Sx.step(S:Sx Z env ce Q0 s0 X ad σ s)(k:KeepG ce.gl s0 s')(ht:s.toks<=s'.toks)(hk:∀b o,(Ow env X σ ad b\/isData o)->s.heap.get? b=some o->s'.heap.get? b=some o):Sx Z env ce Q0 s0 X ad σ s' where
 len:=S.len
 k0:=k
 ob:=S.ob
 lv:=λb hb=>(S.lv b hb).imp λo ho=>hk b o (.inl hb) ho
 ns:=S.ns.imp λm hm=>hm.at' λo e=>hk _ o (.inl (.inr (.inl rfl))) e
 cl:=λy c hc=>(S.cl y c hc).imp λv q=>q.imp λo q=>⟨hk c o (.inl (.inr (.inr (.inl ⟨y,hc⟩)))) q.1,q.2⟩
 rd:=λx i r h1 h2 h3=>by
  refine cps λGq hGq=>?_
  obtain⟨v,l,hc,ho⟩:=S.rd x i r h1 h2 h3
  refine hGq ?_
  clear hGq
  refine⟨v,?_,λh=>(hc h).frame (λb o p dd e=>⟨hk b o (.inr dd) e,p⟩) ht,λh=>⟨(ho h).1,(ho h).2.frame (λb o p dd e=>⟨hk b o (.inr dd) e,p⟩) ht λo e=>hk _ o (.inl (.inr (.inr (.inr ⟨i,r,h3,h,rfl⟩)))) e⟩⟩
  rcases l with⟨k,m2,nn,e⟩ | ⟨k,c',hc',o,ho,r⟩
  .exact .inl ⟨k,m2,nn.at' λo e=>hk _ o (.inl (.inr (.inl rfl))) e,e⟩
  .exact .inr ⟨k,c',hc',o,hk c' o (.inl (.inr (.inr (.inl ⟨x,hc'⟩)))) ho,r⟩
 adj:=S.adj
 adn:=S.adn
 xn:=S.xn
theorem Sx.keeps(S:Sx Z env ce Q0 s0 X ad σ s)(k:Keeps s s'):Sx Z env ce Q0 s0 X ad σ s':=S.step (S.k0.keeps k) (ktl k) λb o zz e=>kheap k b o e
theorem cf(k:Keeps s s'):Ext env ce X ad σ s ad σ s' :=
 ⟨λb o e zz zz=>kheap k b o e,λb h=>.inl h,λb ⟨o,e⟩=>⟨o,kheap k b o e⟩,ktl k,λy u zz zz l=>l.keeps (kheap k)⟩
theorem ext_refl:Ext env ce X ad σ s ad σ s:=cf (krefl s)
theorem aW(x:Ext env ce X ad σ s ad' σ' s')(y:Ext env ce X ad' σ' s' ad'' Df s''):Ext env ce X ad σ s ad'' Df s'':=by
 refine⟨λb o e hb ht=>?_,λb hb=>?_,λb hb=>y.lv b (x.lv b hb),EK x.tk y.tk,λz u h1 h2 l=>y.ld z u h1 h2 (x.ld z u h1 h2 l)⟩
 .have e1:=x.kp b o e hb ht
  refine y.kp b o e1 ?_ ht
  rcases hb with hb | hb
  .refine .inl λho=>?_
   rcases x.ow b ho with h | h
   .exact hb h
   .rw[h]at e;cases e
  .exact .inr hb
 .rcases y.ow b hb with h1 | h1
  .exact x.ow b h1
  .refine .inr ?_
   cases q:s.heap.get? b with
   | none=>rfl
   | some o=>obtain⟨o',e'⟩:=x.lv b ⟨o,q⟩;rw[h1]at e';cases e'
theorem Ext.frame{h0:Heap}{f:Bool}(x:Ext env ce X ad σ s ad' σ' s')(b:Addr)(o:Obj)(hp:Pf Q0 h0 (Ow env X σ ad) f true b)(hd:isData o)(e:s.heap.get? b=some o):s'.heap.get? b=some o/\Pf Q0 h0 (Ow env X σ' ad') f true b:=by
 obtain⟨q1,q2,q3⟩:=hp
 refine⟨x.kp b o e (.inl (q3 rfl)) (λzz=>data_tbl hd),q1,q2,λzz ho=>?_⟩
 rcases x.ow b ho with h | h
 .exact q3 rfl h
 .rw[h]at e;cases e
theorem Ext.R{h0:Heap}{f:Bool}{v:Value}{d:PV}(x:Ext env ce X ad σ s ad' σ' s')(r:R Z s.heap s.toks (Pf Q0 h0 (Ow env X σ ad) f true) v d):R Z s'.heap s'.toks (Pf Q0 h0 (Ow env X σ' ad') f true) v d :=
 r.frame (λb o hp dd e=>x.frame b o hp dd e) x.tk
theorem jP{i:Nat}{r:RV}{b:Addr}(hc:r.c=true)(h:Ow env X (σ.set i (some r)) ad b):Ow env X σ ad b:=by
 rcases h with h | h | h | ⟨j,q,hj,hq,e⟩
 .exact .inl h
 .exact .inr (.inl h)
 .exact .inr (.inr (.inl h))
 .by_cases hij:i=j
  .subst hij
   rw[GN]at hj
   simp only[if_true]at hj
   split at hj
   .cases hj;rw[hc]at hq;cases hq
   .cases hj
  .rw[GN,if_neg hij]at hj
   exact .inr (.inr (.inr ⟨j,q,hj,hq,e⟩))
theorem ns_unique{h:Heap}{L:Addr}{m m2:Str->Option Value}(a:h.Ns L m)(b:h.Ns L m2):m=m2:=by
 refine cps λGq hGq=>?_
 obtain⟨o,es,ep,ho,hd,zz,hm⟩:=a
 obtain⟨o',es',ep',ho',hd',zz,hm'⟩:=b
 refine hGq ?_
 clear hGq
 rw[ho]at ho'
 cases ho'
 rw[hd]at hd'
 cases hd'
 funext n
 rw[<-hm n,hm' n]
theorem loads_store_local{x y:Str}{v u:Value}{h h':Heap}{m:Str->Option Value}(cne:∀y c,env.cells.lookup y=some c->c≠env.locals)(hn:h.Ns env.locals m)(hn':h'.Ns env.locals (λz=>if z=x then some v else m z))(hs:Heap.SameBut env.locals h h')(hxy:y≠x)(l:aS env h y u):aS env h' y u:=by
 rcases l with⟨k,m2,n2,e⟩ | ⟨k,c,hc,n⟩
 .refine .inl ⟨k,_,hn',?_⟩
  have:m=m2:=ns_unique hn n2
  subst this
  simp[hxy,e]
 .refine .inr ⟨k,c,hc,?_⟩
  obtain⟨o,ho,r⟩:=n
  exact⟨o,hs.extBut c o (cne y c hc) ho,r⟩
theorem iX{x y:Str}{u:Value}{h h':Heap}{c:Addr}(cne:∀y c,env.cells.lookup y=some c->c≠env.locals)(cinj:∀y z c,env.cells.lookup y=some c->env.cells.lookup z=some c->y=z)(hc:env.cells.lookup x=some c)(hs:Heap.SameBut c h h')(hxy:y≠x)(l:aS env h y u):aS env h' y u:=by
 rcases l with⟨k,m2,n2,e⟩ | ⟨k,c',hc',n⟩
 .exact .inl ⟨k,m2,n2.sameBut hs (λq=>cne x c hc q.symm),e⟩
 .refine .inr ⟨k,c',hc',?_⟩
  obtain⟨o,ho,r⟩:=n
  exact⟨o,hs.extBut c' o (λq=>hxy (cinj y x c' hc' (q▸hc))) ho,r⟩
theorem jQ{x:Str}{v:Value}{Q:Unit->Shared->Prop}(F:Fx Z lvl A env ce Q0 s0)(S:Sx Z env ce Q0 s0 X ad σ s)(hx:fg (ce.kind x)=true)
  (h:∀h' tk b,s.toks<=tk->(b=env.locals\/∃y,env.cells.lookup y=some b)->Heap.SameBut b s.heap h'->(∃m,h'.Ns env.locals m)->(∀y c,env.cells.lookup y=some c->∃v,h'.IsCell c v)->aS env h' x v->(∀y u,y≠x->aS env s.heap y u->aS env h' y u)->Q () {s with heap:=h',toks:=tk}) :
  wpAny Z.M A (storeName env x v) Q E s:=by
 rw[F.ki]at hx
 obtain⟨m,hn⟩:=S.ns
 cases hk:env.kindOf x with
 | none=>rw[hk]at hx;cases hx
 | some k =>
  rw[hk]at hx
  cases k with
  | «local» =>
   refine wpAny_storeName_local hk hn (λh' hn' hs=>?_) (by rw[F.fn];rfl)
   refine h h' _ env.locals (Fv _) (.inl rfl) hs ⟨_,hn'⟩ (λy c hc=>?_) (.inl ⟨hk,_,hn',by simp⟩) λy u hxy l=>loads_store_local F.cne hn hn' hs hxy l
   refine cps λGq hGq=>?_
   obtain⟨v,o,ho,r⟩:=S.cl y c hc
   refine hGq ?_
   clear hGq
   exact⟨v,o,hs.extBut c o (F.cne y c hc) ho,r⟩
  | cell =>
   obtain⟨c,hc⟩:=F.cells x (by rw[hk];rfl)
   obtain⟨EF,Ep⟩:=S.cl x c hc
   refine wpAny_storeName_cell F.fn hk hc Ep λh' hv' hs=>?_
   refine h h' s.toks c (ER _) (.inr ⟨x,hc⟩) hs ⟨m,hn.sameBut hs (λq=>F.cne x c hc q.symm)⟩ (λy c' hc'=>?_) (.inr ⟨.inl hk,c,hc,hv'⟩) λy u hxy l=>iX F.cne F.cinj hc hs hxy l
   by_cases e:c'=c
   .subst e;exact⟨_,hv'⟩
   .obtain⟨v,o,ho,r⟩:=S.cl y c' hc'
    exact⟨v,o,hs.extBut c' o e ho,r⟩
  | _=>cases hx
theorem set_get{i j:Nat}{nr q:Option RV}(h:(σ.set i nr)[j]?= some q):(j=i/\q=nr)\/(j≠i/\σ[j]?= some q):=by
 by_cases hij:i=j
 .subst hij
  rw[GN]at h
  simp only[if_true]at h
  split at h
  .cases h;exact .inl ⟨rfl,rfl⟩
  .cases h
 .rw[GN,if_neg hij]at h
  exact .inr ⟨λe=>hij e.symm,h⟩
theorem store_ok{x:Str}{i:Nat}{v:Value}{r:RV}{CZ:Shared}{Q:Unit->Shared->Prop}(F:Fx Z lvl A env ce Q0 s0)(S:Sx Z env ce Q0 s0 X ad σ s)(k:Keeps s CZ)(hix:ce.idx x=some i)(hi:∀y,ce.idx y=some i->y=x)(hx:fg (ce.kind x)=true)
  (had:∀j,j≠i->ad' j=ad j)
  (h1:r.c=true->R Z CZ.heap CZ.toks (Pf Q0 s0.heap (Ow env X σ ad) r.f true) v r.d)
  (h0:r.c=false->v=.ref (ad' i)/\s.heap.get? (ad' i)=none/\OwnR Z CZ.heap CZ.toks (Pf Q0 s0.heap (λa=>Ow env X σ ad a\/a=ad' i) r.f true) (ad' i) r.d)
  (h:∀s',Sx Z env ce Q0 s0 X ad' (σ.set i (some r)) s'->Ext env ce X ad σ s ad' (σ.set i (some r)) s'->Q () s'):wpAny Z.M A (storeName env x v) Q E CZ:=by
 have S1:=S.keeps k
 refine jQ F S1 hx λh' tk b htk hb hs hns hcl hl hls=>?_
 have hbo:Ow env X σ ad b:=hb.elim (λe=>.inr (.inl e)) λe=>.inr (.inr (.inl e))
 have hbX:¬X b:=λq=>by
  obtain⟨q1,q2⟩:=S.xn b q
  rcases hb with e | ⟨y,hy⟩
  .exact q1 e
  .exact q2 y hy
 have new:∀a,Ow env X (σ.set i (some r)) ad' a->Ow env X σ ad a\/(r.c=false/\a=ad' i):=by
  intro a ha
  rcases ha with ha | ha | ha | ⟨j,q,hj,hq,e⟩
  .exact .inl (.inl ha)
  .exact .inl (.inr (.inl ha))
  .exact .inl (.inr (.inr (.inl ha)))
  .rcases set_get hj with⟨rfl,e2⟩ | ⟨hji,hj'⟩
   .cases e2;exact .inr ⟨hq,e.symm⟩
   .rw[had j hji]at e
    exact .inl (.inr (.inr (.inr ⟨j,q,hj',hq,e⟩)))
 have fr:r.c=false->s.heap.get? (ad' i)=none/\s0.heap.get? (ad' i)=none/\(∃o,CZ.heap.get? (ad' i)=some o)/\¬Ow env X σ ad (ad' i):=λhc=>by
  refine cps λGq hGq=>?_
  obtain⟨zz,e,o⟩:=h0 hc
  obtain⟨ob,e2,zz⟩:=o.live
  refine hGq ?_
  clear hGq
  refine⟨e,S.k0.none e,⟨ob,e2⟩,λq=>?_⟩
  obtain⟨o2,q2⟩:=S.lv _ q
  rw[e]at q2;cases q2
 have live:∀a,(∃o,CZ.heap.get? a=some o)->∃o,h'.get? a=some o:=λa ⟨o,e⟩=>by
  by_cases hab:a=b
  .subst hab
   rcases hb with e1 | ⟨y,hy⟩
   .obtain⟨m,o,zz,zz,ho,zz⟩:=hns;exact⟨o,e1▸ho⟩
   .obtain⟨v,o,ho,zz⟩:=hcl y a hy;exact⟨o,ho⟩
  .exact⟨o,hs.extBut a o hab e⟩
 have up:∀f a o,Pf Q0 s0.heap (Ow env X σ ad) f true a->s.heap.get? a=some o->h'.get? a=some o/\Pf Q0 s0.heap (Ow env X (σ.set i (some r)) ad') f true a:=λf a o hp e =>
  ⟨hs.extBut a o (λq=>hp.2.2 rfl (q▸hbo)) (kheap k a o e),hp.1,hp.2.1,λhh ho=>by
   rcases new a ho with q | ⟨hc,q⟩
   .exact hp.2.2 hh q
   .rw[q,(fr hc).1]at e;cases e⟩
 refine h _ ⟨by rw[Iz];exact S.len,?_,λa ha=>?_,λa ha=>?_,hns,hcl,?_,?_,?_,S.xn⟩ ⟨?_,?_,?_,?_,?_⟩
 .exact S1.k0.step htk λa o ⟨o',e⟩ e'=>hs.extBut a o (λq=>by rw[q,S.ob b hbo]at e;cases e) e'
 .rcases new a ha with q | ⟨hc,q⟩
  .exact S.ob a q
  .rw[q];exact(fr hc).2.1
 .rcases new a ha with q | ⟨hc,q⟩
  .exact live a (S1.lv a q)
  .rw[q];exact live _ (fr hc).2.2.1
 .intro y j q e1 e2 e3
  rcases set_get e3 with⟨rfl,e4⟩ | ⟨hji,e4⟩
  .cases e4
   have hyx:y=x:=hi y e1
   subst hyx
   refine⟨v,hl,λhc=>?_,λhc=>?_⟩
   .refine(h1 hc).frame (λa o hp zz e=>⟨hs.extBut a o (λq=>hp.2.2 rfl (q▸hbo)) e,hp.1,hp.2.1,λhh ho=>?_⟩) htk
    rcases new a ho with q | ⟨hc',zz⟩
    .exact hp.2.2 hh q
    .rw[hc]at hc';cases hc'
   .obtain⟨e5,e6,o6⟩:=h0 hc
    refine⟨e5,o6.frame (λa o hp zz e=>⟨hs.extBut a o (λq=>hp.2.2 rfl (.inl (q▸hbo))) e,hp.1,hp.2.1,λhh ho=>?_⟩) htk λo e=>hs.extBut _ o (λq=>(fr hc).2.2.2 (q▸hbo)) e⟩
    rcases new a ho with q | ⟨zz,q⟩
    .exact hp.2.2 hh (.inl q)
    .exact hp.2.2 hh (.inr q)
  .obtain⟨u,l,c1,c2⟩:=S.rd y j q e1 e2 e4
   have hyx:y≠x:=λe=>by
    subst e
    rw[hix]at e1
    exact hji (ET e1).symm
   refine⟨u,hls y u hyx (l.keeps (kheap k)),λhc=>(c1 hc).frame (λa o hp zz e=>up _ a o hp e) (EK (ktl k) htk),λhc=>?_⟩
   obtain⟨e5,o5⟩:=c2 hc
   rw[had j hji]
   refine⟨e5,o5.frame (λa o hp zz e=>up _ a o hp e) (EK (ktl k) htk) λo e=>hs.extBut _ o (λqq=>?_) (kheap k _ o e)⟩
   obtain⟨n1,n2,n3⟩:=S.adn j q e4 hc
   rcases hb with e | ⟨y,hy⟩
   .exact n1 (qq.trans e)
   .exact n2 y (by rw[hy,qq])
 .intro j j' q q' e1 c1 e2 c2 e
  rcases set_get e1 with⟨rfl,e3⟩ | ⟨hj,e3⟩
  .rcases set_get e2 with⟨rfl,e4⟩ | ⟨hj',e4⟩
   .rfl
   .cases e3
    rw[had j' hj']at e
    exact absurd (.inr (.inr (.inr ⟨j',q',e4,c2,e.symm⟩))) (fr c1).2.2.2
  .rcases set_get e2 with⟨rfl,e4⟩ | ⟨hj',e4⟩
   .cases e4
    rw[had j hj]at e
    exact absurd (.inr (.inr (.inr ⟨j,q,e3,c1,e⟩))) (fr c2).2.2.2
   .rw[had j hj,had j' hj']at e
    exact S.adj j j' q q' e3 c1 e4 c2 e
 .intro j q e1 c1
  rcases set_get e1 with⟨rfl,e3⟩ | ⟨hj,e3⟩
  .cases e3
   have:=(fr c1).2.2.2
   exact⟨λe=>this (.inr (.inl e)),λy hy=>this (.inr (.inr (.inl ⟨y,hy⟩))),λhX=>this (.inl hX)⟩
  .rw[had j hj]
   exact S.adn j q e3 c1
 .intro a o e ha zz
  refine hs.extBut a o (λq=>?_) (kheap k a o e)
  rcases ha with ha | ha
  .exact ha (q▸hbo)
  .exact hbX (q▸ha)
 .intro a ha
  rcases new a ha with q | ⟨hc,q⟩
  .exact .inl q
  .rw[q];exact .inr (fr hc).1
 .intro a ⟨o,e⟩
  exact live a ⟨o,kheap k a o e⟩
 .exact EK (ktl k) htk
 .exact λy u h1 zz l=>hls y u (λe=>by rw[e,hix]at h1;cases h1) (l.keeps (kheap k))
theorem mutate_ok{i:Nat}{r nr:RV}{h':Heap}{tk:Nat}{x:Str}(S:Sx Z env ce Q0 s0 X ad σ s)(hix:ce.idx x=some i)(hi:∀y,ce.idx y=some i->y=x)(hx:fg (ce.kind x)=true)(hr:σ[i]?= some (some r))(hc:r.c=false)(hn:nr.c=false)(htk:s.toks<=tk)(hs:Heap.SameBut (ad i) s.heap h')
  (ho:OwnR Z h' tk (Pf Q0 s0.heap (Ow env X σ ad) nr.f true) (ad i) nr.d) :
  Sx Z env ce Q0 s0 X ad (σ.set i (some nr)) {s with heap:=h',toks:=tk}/\Ext env ce X ad σ s ad (σ.set i (some nr)) {s with heap:=h',toks:=tk}:=by
 have hb:Ow env X σ ad (ad i):=.inr (.inr (.inr ⟨i,r,hr,hc,rfl⟩))
 obtain⟨n1,n2,n3⟩:=S.adn i r hr hc
 have hlt:i<σ.length:=by
  rcases Gp i σ.length with h | h
  .exact h
  .rw[FN h]at hr;cases hr
 have ow:∀a,Ow env X (σ.set i (some nr)) ad a->Ow env X σ ad a:=by
  intro a ha
  rcases ha with ha | ha | ha | ⟨j,q,hj,hq,e⟩
  .exact .inl ha
  .exact .inr (.inl ha)
  .exact .inr (.inr (.inl ha))
  .rcases set_get hj with⟨rfl,e2⟩ | ⟨hji,hj'⟩
   .rw[<-e];exact hb
   .exact .inr (.inr (.inr ⟨j,q,hj',hq,e⟩))
 obtain⟨oo,hoo,zz⟩:=ho.live
 have live:∀a,(∃o,s.heap.get? a=some o)->∃o,h'.get? a=some o:=λa ⟨o,e⟩=>by
  by_cases hab:a=ad i
  .subst hab;exact⟨oo,hoo⟩
  .exact⟨o,hs.extBut a o hab e⟩
 have up:∀f a o,Pf Q0 s0.heap (Ow env X σ ad) f true a->s.heap.get? a=some o->h'.get? a=some o/\Pf Q0 s0.heap (Ow env X (σ.set i (some nr)) ad) f true a:=λf a o hp e =>
  ⟨hs.extBut a o (λq=>hp.2.2 rfl (q▸hb)) e,hp.1,hp.2.1,λhh ho=>hp.2.2 hh (ow a ho)⟩
 refine⟨⟨by rw[Iz];exact S.len,?_,λa ha=>S.ob a (ow a ha),λa ha=>live a (S.lv a (ow a ha)),?_,?_,?_,?_,?_,S.xn⟩,⟨?_,?_,λa ha=>live a ha,htk,?_⟩⟩
 .exact S.k0.step htk λa o ⟨o',e⟩ e'=>hs.extBut a o (λq=>by rw[q,S.ob _ hb]at e;cases e) e'
 .obtain⟨m,hm⟩:=S.ns
  exact⟨m,hm.sameBut hs (λe=>n1 e.symm)⟩
 .intro y c hcc
  refine cps λGq hGq=>?_
  obtain⟨v,o,ho,r⟩:=S.cl y c hcc
  refine hGq ?_
  clear hGq
  exact⟨v,o,hs.extBut c o (λe=>n2 y (e▸hcc)) ho,r⟩
 .intro y j q e1 e2 e3
  have ldk:∀u,aS env s.heap y u->aS env h' y u:=by
   intro u l
   rcases l with⟨k,m2,nn,e⟩ | ⟨k,c',hc',n⟩
   .exact .inl ⟨k,m2,nn.sameBut hs (λe=>n1 e.symm),e⟩
   .refine .inr ⟨k,c',hc',?_⟩
    obtain⟨o,ho,r⟩:=n
    exact⟨o,hs.extBut c' o (λe=>n2 y (e▸hc')) ho,r⟩
  rcases set_get e3 with⟨rfl,e4⟩ | ⟨hji,e4⟩
  .cases e4
   refine cps λGq hGq=>?_
   obtain⟨u,l,zz,c2⟩:=S.rd y j r e1 e2 hr
   refine hGq ?_
   clear hGq
   obtain⟨rfl,zz⟩:=c2 hc
   refine⟨_,ldk _ l,λh=>(by rw[hn]at h;cases h),λzz=>⟨rfl,ho.frame (λa o hp zz e=>⟨e,hp.1,hp.2.1,λhh ho=>hp.2.2 hh (ow a ho)⟩) (ER _) λo e=>e⟩⟩
  .obtain⟨u,l,c1,c2⟩:=S.rd y j q e1 e2 e4
   refine⟨u,ldk u l,λh=>(c1 h).frame (λa o hp zz e=>up _ a o hp e) htk,λh=>⟨(c2 h).1,(c2 h).2.frame (λa o hp zz e=>up _ a o hp e) htk λo e=>hs.extBut _ o (λqq=>hji (S.adj j i q r e4 h hr hc qq)) e⟩⟩
 .intro j j' q q' e1 c1 e2 c2 e
  rcases set_get e1 with⟨rfl,e3⟩ | ⟨hj,e3⟩
  .rcases set_get e2 with⟨rfl,e4⟩ | ⟨hj',e4⟩
   .rfl
   .exact S.adj j j' r q' hr hc e4 c2 e
  .rcases set_get e2 with⟨rfl,e4⟩ | ⟨hj',e4⟩
   .exact S.adj j j' q r e3 c1 hr hc e
   .exact S.adj j j' q q' e3 c1 e4 c2 e
 .intro j q e1 c1
  rcases set_get e1 with⟨rfl,e3⟩ | ⟨hj,e3⟩
  .exact⟨n1,n2,n3⟩
  .exact S.adn j q e3 c1
 .intro a o e ha zz
  refine hs.extBut a o (λq=>?_) e
  rcases ha with ha | ha
  .exact ha (q▸hb)
  .exact n3 (q▸ha)
 .exact λa ha=>.inl (ow a ha)
 .intro y u zz zz l
  rcases l with⟨k,m2,nn,e⟩ | ⟨k,c',hc',n⟩
  .exact .inl ⟨k,m2,nn.sameBut hs (λe=>n1 e.symm),e⟩
  .refine .inr ⟨k,c',hc',?_⟩
   obtain⟨o,ho,r⟩:=n
   exact⟨o,hs.extBut c' o (λe=>n2 y (e▸hc')) ho,r⟩
theorem yZ{X X':Addr->Prop}{b:Addr}(h:Ow env X σ ad b)(hX:∀a,X a->X' a):Ow env X' σ ad b:=h.imp (hX b) id
theorem Sx.addS{C:Addr->Prop}(S:Sx Z env ce Q0 s0 X ad σ s)(k:Keeps s s')(hC:∀a,C a->s.heap.get? a=none)(hC':∀a,C a->∃o,s'.heap.get? a=some o):Sx Z env ce Q0 s0 (λa=>X a\/C a) ad σ s':=by
 have S1:=S.keeps k
 have ow:∀b,Ow env (λa=>X a\/C a) σ ad b->Ow env X σ ad b\/C b:=by
  intro b hb
  rcases hb with(hb | hb) | hb
  .exact .inl (.inl hb)
  .exact .inr hb
  .exact .inl (.inr hb)
 have up:∀f a o,Pf Q0 s0.heap (Ow env X σ ad) f true a->s.heap.get? a=some o->s'.heap.get? a=some o/\Pf Q0 s0.heap (Ow env (λa=>X a\/C a) σ ad) f true a:=λf a o hp e =>
  ⟨kheap k a o e,hp.1,hp.2.1,λhh ho=>by
   rcases ow a ho with q | q
   .exact hp.2.2 hh q
   .rw[hC a q]at e;cases e⟩
 have lo:∀b,Ow env X σ ad b->¬C b:=λb hb e=>by
  obtain⟨o,ho⟩:=S.lv b hb
  rw[hC b e]at ho;cases ho
 refine⟨S.len,S1.k0,λb hb=>?_,λb hb=>?_,S1.ns,S1.cl,?_,S.adj,λi r h1 h2=>?_,?_⟩
 .exact(ow b hb).elim (S.ob b) λq=>S.k0.none (hC b q)
 .exact(ow b hb).elim (S1.lv b) (hC' b)
 .intro x i r h1 h2 h3
  refine cps λGq hGq=>?_
  obtain⟨v,l,c1,c2⟩:=S.rd x i r h1 h2 h3
  refine hGq ?_
  clear hGq
  exact⟨v,l.keeps (kheap k),λh=>(c1 h).frame (λa o hp zz e=>up _ a o hp e) (ktl k),λh=>⟨(c2 h).1,(c2 h).2.frame (λa o hp zz e=>up _ a o hp e) (ktl k) λo e=>kheap k _ o e⟩⟩
 .obtain⟨n1,n2,n3⟩:=S.adn i r h1 h2
  exact⟨n1,n2,λq=>q.elim n3 λq=>lo (ad i) (.inr (.inr (.inr ⟨i,r,h1,h2,rfl⟩))) q⟩
 .intro b hb
  rcases hb with hb | hb
  .exact S.xn b hb
  .exact⟨λe=>lo b (.inr (.inl e)) hb,λy hy=>lo b (.inr (.inr (.inl ⟨y,hy⟩))) hb⟩
theorem Sx.addX{C:Addr}(S:Sx Z env ce Q0 s0 X ad σ s)(k:Keeps s s')(hC:s.heap.get? C=none)(hC':∃o,s'.heap.get? C=some o):Sx Z env ce Q0 s0 (λa=>X a\/a=C) ad σ s':=S.addS k (λa e=>e▸hC) λa e=>e▸hC'
theorem Sx.dropX{X':Addr->Prop}(S:Sx Z env ce Q0 s0 X' ad σ s)(hX:∀a,X a->X' a):Sx Z env ce Q0 s0 X ad σ s:=by
 have up:∀f a,Pf Q0 s0.heap (Ow env X' σ ad) f true a->Pf Q0 s0.heap (Ow env X σ ad) f true a:=λf a hp=>⟨hp.1,hp.2.1,λhh ho=>hp.2.2 hh (yZ ho hX)⟩
 refine⟨S.len,S.k0,λb hb=>S.ob b (yZ hb hX),λb hb=>S.lv b (yZ hb hX),S.ns,S.cl,?_,S.adj,λi r h1 h2=>?_,λb hb=>S.xn b (hX b hb)⟩
 .intro x i r h1 h2 h3
  refine cps λGq hGq=>?_
  obtain⟨v,l,c1,c2⟩:=S.rd x i r h1 h2 h3
  refine hGq ?_
  clear hGq
  exact⟨v,l,λh=>(c1 h).mono (up _),λh=>⟨(c2 h).1,(c2 h).2.frame (λa o hp zz e=>⟨e,up _ a hp⟩) (ER _) λo e=>e⟩⟩
 .obtain⟨n1,n2,n3⟩:=S.adn i r h1 h2
  exact⟨n1,n2,λq=>n3 (hX _ q)⟩
theorem Sx.offX{C:Addr}{h':Heap}(S:Sx Z env ce Q0 s0 (λa=>X a\/a=C) ad σ s)(hC:¬Ow env X σ ad C)(hs:Heap.SameBut C s.heap h'):Sx Z env ce Q0 s0 X ad σ {s with heap:=h'}:=by
 have hb:Ow env (λa=>X a\/a=C) σ ad C:=.inl (.inr rfl)
 obtain⟨x1,x2⟩:=S.xn C (.inr rfl)
 have T:=S.dropX (X:=X) λa h=>.inl h
 have up:∀f a o,Pf Q0 s0.heap (Ow env (λa=>X a\/a=C) σ ad) f true a->s.heap.get? a=some o->h'.get? a=some o/\Pf Q0 s0.heap (Ow env X σ ad) f true a:=λf a o hp e=>⟨hs.extBut a o (λq=>hp.2.2 rfl (q▸hb)) e,hp.1,hp.2.1,λhh ho=>hp.2.2 hh (yZ ho λzz h=>.inl h)⟩
 refine⟨S.len,?_,T.ob,λb hb=>?_,?_,?_,?_,S.adj,T.adn,T.xn⟩
 .exact S.k0.step (tk:=s.toks) (dr:=s.drawn) (ER _) λa o ⟨o',e⟩ e'=>hs.extBut a o (λq=>by rw[q,S.ob _ hb]at e;cases e) e'
 .obtain⟨o,ho⟩:=T.lv b hb
  exact⟨o,hs.extBut b o (λq=>hC (q▸hb)) ho⟩
 .obtain⟨m,hm⟩:=S.ns
  exact⟨m,hm.sameBut hs (λe=>x1 e.symm)⟩
 .intro y c hcc
  refine cps λGq hGq=>?_
  obtain⟨v,o,ho,r⟩:=S.cl y c hcc
  refine hGq ?_
  clear hGq
  exact⟨v,o,hs.extBut c o (λe=>x2 y (e▸hcc)) ho,r⟩
 .intro y j q e1 e2 e3
  have ldk:∀u,aS env s.heap y u->aS env h' y u:=by
   intro u l
   rcases l with⟨k,m2,nn,e⟩ | ⟨k,c',hc',n⟩
   .exact .inl ⟨k,m2,nn.sameBut hs (λe=>x1 e.symm),e⟩
   .refine .inr ⟨k,c',hc',?_⟩
    obtain⟨o,ho,r⟩:=n
    exact⟨o,hs.extBut c' o (λe=>x2 y (e▸hc')) ho,r⟩
  refine cps λGq hGq=>?_
  obtain⟨u,l,c1,c2⟩:=S.rd y j q e1 e2 e3
  refine hGq ?_
  clear hGq
  refine⟨u,ldk u l,λh=>(c1 h).frame (λa o hp zz e=>up _ a o hp e) (ER _),λh=>⟨(c2 h).1,(c2 h).2.frame (λa o hp zz e=>up _ a o hp e) (ER _) λo e=>hs.extBut _ o (λqq=>(S.adn j q e3 h).2.2 (.inr qq)) e⟩⟩
theorem Sx.iterI{I:Addr}{h':Heap}{tk:Nat}(S:Sx Z env ce Q0 s0 X ad σ s)(htk:s.toks<=tk)(hI:¬Ow env X σ ad I)(hI0:s0.heap.get? I=none)(hd:∀o,s.heap.get? I=some o->¬isData o)(hk:∀b o,b≠I->s.heap.get? b=some o->h'.get? b=some o) :
  Sx Z env ce Q0 s0 X ad σ {s with heap:=h',toks:=tk} :=
 S.step (S.k0.step htk λa o ⟨o',e⟩ e'=>hk a o (λq=>by rw[q,hI0]at e;cases e) e') htk λb o h e=>hk b o (λq=>h.elim (λh=>hI (q▸h)) λdd=>hd o (q▸e) dd) e
theorem Sx.rel{i:Nat}{d:PV}{f:Bool}(q0:∀b,s0.heap.get? b=none->Q0 b)(S:Sx Z env ce Q0 s0 X ad σ s)(hr:σ[i]?= some (some ⟨d,f,false⟩)):Sx Z env ce Q0 s0 X ad (σ.set i (some ⟨d,f,true⟩)) s/\Ext env ce X ad σ s ad (σ.set i (some ⟨d,f,true⟩)) s:=by
 have ow:∀b,Ow env X (σ.set i (some ⟨d,f,true⟩)) ad b->Ow env X σ ad b:=λb hb=>jP rfl hb
 have hown:Ow env X σ ad (ad i):=.inr (.inr (.inr ⟨i,_,hr,rfl,rfl⟩))
 obtain⟨n1,n2,n3⟩:=S.adn i _ hr rfl
 have nown:¬Ow env X (σ.set i (some ⟨d,f,true⟩)) ad (ad i):=by
  intro hb
  rcases hb with h | h | ⟨y,h⟩ | ⟨j,q,hj,hq,e⟩
  .exact n3 h
  .exact n1 h
  .exact n2 y h
  .rcases set_get hj with⟨rfl,e2⟩ | ⟨hji,hj'⟩
   .cases e2;cases hq
   .exact hji (S.adj j i q _ hj' hq hr rfl e)
 have up2:∀f' a,Pf Q0 s0.heap (Ow env X σ ad) f' true a->Pf Q0 s0.heap (Ow env X (σ.set i (some ⟨d,f,true⟩)) ad) f' true a:=λf' a hp=>⟨hp.1,hp.2.1,λhh ho=>hp.2.2 hh (ow a ho)⟩
 refine⟨⟨by rw[Iz];exact S.len,S.k0,λb hb=>S.ob b (ow b hb),λb hb=>S.lv b (ow b hb),S.ns,S.cl,?_,?_,?_,S.xn⟩,⟨λb o e zz zz=>e,λb hb=>.inl (ow b hb),λb hb=>hb,ER _,λzz zz zz zz l=>l⟩⟩
 .intro y j q e1 e2 e3
  rcases set_get e3 with⟨rfl,e4⟩ | ⟨hji,e4⟩
  .cases e4
   refine cps λGq hGq=>?_
   obtain⟨u,l,zz,c2⟩:=S.rd y j _ e1 e2 hr
   refine hGq ?_
   clear hGq
   obtain⟨rfl,o⟩:=c2 rfl
   refine⟨_,l,λzz=>?_,λh=>by cases h⟩
   have e0:=S.ob _ hown
   exact o.toR (λb hb=>up2 f b hb) ⟨q0 _ e0,λzz=>e0,λzz=>nown⟩
  .obtain⟨u,l,c1,c2⟩:=S.rd y j q e1 e2 e4
   exact⟨u,l,λh=>(c1 h).mono (up2 _),λh=>⟨(c2 h).1,(c2 h).2.frame (λa o hp zz e=>⟨e,up2 _ a hp⟩) (ER _) λo e=>e⟩⟩
 .intro j j' q q' e1 c1 e2 c2 e
  rcases set_get e1 with⟨rfl,e3⟩ | ⟨hj,e3⟩
  .cases e3;cases c1
  .rcases set_get e2 with⟨rfl,e4⟩ | ⟨hj',e4⟩
   .cases e4;cases c2
   .exact S.adj j j' q q' e3 c1 e4 c2 e
 .intro j q e1 c1
  rcases set_get e1 with⟨rfl,e3⟩ | ⟨hj,e3⟩
  .cases e3;cases c1
  .exact S.adn j q e3 c1
end
noncomputable def isNoComp:Expr->Bool
 | .ListComp ..=>false
 | .SetComp ..=>false
 | .DictComp ..=>false
 | _=>true
noncomputable def iZ:Expr->Bool
 | .Tuple ..=>true
 | _=>false
noncomputable def Cq(e:Expr):Option {x:Expr×List Comprehension×Scope×Pos // e=.ListComp x.1 x.2.1 x.2.2.1 x.2.2.2}:=if h:e.ctorIdx=8 then Expr.ListComp.elim e h λa b c d=>some ⟨(a,b,c,d),rfl⟩else EL
noncomputable def BF(ce:CE)(v:Expr)(t:Str)(tp:Pos):Bool:=aH (Cq v) λx=>ce.kind t==some .local&&(tp.line==x.2.2.2.line&&!(x.2.2.1.names.any λ(n,k)=>n==t&&(k==.local||k==.cell)))
noncomputable def tgt(ce:CE)(x:Str)(i:Nat):Bool:=ce.idx x==some i&&(fg (ce.kind x)&&(!(x==("__debug__":Str))&&!(x==("__classdict__":Str))))
noncomputable def ff(e:Stmt):Option {x:Expr×Expr // ∃p,e=.Assign [x.1] x.2 p}:=if h:e.ctorIdx=5 then Stmt.Assign.elim e h λts v p=>match ts with
 | [t]=>some ⟨(t,v),p,rfl⟩
 | zz=>EL
 else EL
noncomputable def uM(e:Stmt):Option {x:Expr // ∃p,e=.Expr x p}:=if h:e.ctorIdx=24 then Stmt.Expr.elim e h λv p=>some ⟨v,p,rfl⟩else EL
noncomputable def AY(e:Stmt):Option {x:Expr×List Stmt×List Stmt // ∃p,e=.If x.1 x.2.1 x.2.2 p}:=if h:e.ctorIdx=12 then Stmt.If.elim e h λc a b p=>some ⟨(c,a,b),p,rfl⟩else EL
noncomputable def AT(e:Stmt):Option {x:Expr×Expr×List Stmt // ∃p,e=.For x.1 x.2.1 x.2.2 [] p}:=if h:e.ctorIdx=9 then Stmt.For.elim e h λt i b l p=>match l with
 | []=>some ⟨(t,i,b),p,rfl⟩
 | zz=>EL
 else EL
noncomputable def uw(e:Stmt):Option {x:Expr×List Stmt // ∃p,e=.While x.1 x.2 [] p}:=if h:e.ctorIdx=11 then Stmt.While.elim e h λc b l p=>match l with
 | []=>some ⟨(c,b),p,rfl⟩
 | zz=>EL
 else EL
noncomputable def Bh(e:Stmt):Option {x:Expr // ∃p,e=.Return (some x) p}:=if h:e.ctorIdx=3 then Stmt.Return.elim e h λo p=>match o with
 | some v=>some ⟨v,p,rfl⟩
 | none=>EL
 else EL
noncomputable def uW(e:Expr):Option {x:Str×Pos // e=.Name x.1 x.2}:=if h:e.ctorIdx=23 then Expr.Name.elim e h λx p=>some ⟨(x,p),rfl⟩else EL
noncomputable def Bg(k:Str->Pos->Expr->Bool)(st:Stmt):Bool:=aH (ff st) λx=>aH (uW x.1) λy=>k y.1 y.2 x.2
inductive Asg(k:Str->Pos->Expr->Bool)(st:Stmt):Prop
 | mk (y:Str) (tp:Pos) (v:Expr) (p:Pos) (h:st=.Assign [.Name y tp] v p) (hk:k y tp v=true):Asg k st
theorem mT{k:Str->Pos->Expr->Bool}{st:Stmt}(h:Bg k st=true):Asg k st:=by
 obtain⟨x,⟨p,rfl⟩,h1⟩:=ag h
 obtain⟨y,e,h2⟩:=ag h1
 exact⟨y.1,y.2,x.2,p,by rw[e],h2⟩
noncomputable def gk(ce:CE)(i:Nat)(o:Expr):Bool:=aH (uW o) λy=>tgt ce y.1 i
theorem ee{ce:CE}{i:Nat}{o:Expr}(h:gk ce i o=true):∃y np,o=.Name y np/\tgt ce y i=true:=by
 obtain⟨y,e,h1⟩:=ag h
 exact⟨y.1,y.2,e,h1⟩
noncomputable def vD(ce:CE)(scope:Scope)(x:Str):Bool:=ce.compOk scope [x]&&(dN scope.names (".0":Str)&&!scope.isCoroutine)
noncomputable def rT:Expr->Bool
 | .Name ..=>true
 | _=>false
noncomputable def lZ(c:SExpr)(ce:CE)(e:Expr):Bool:=aH (Aj c) λx=>x.1==("_law_bools":Str)&&jM ce x.1 (λas=>eG x.2 ce as&&(!x.2.isEmpty)) e
noncomputable def oj:SStmt->Bool
 | .rel θ=>true
 | _=>false
noncomputable def nE(e:Expr):Bool:=aH (zq e) λx=>x.1.isEmpty&&x.2.isEmpty
noncomputable def BE(lit:Str)(x:Str)(e:Expr):Bool:=tG (λl o r=>o==.In&&(aH (my l) (λy=>y==x&&(!(x==("__debug__":Str))&&!(x==("__classdict__":Str))))&&(aH (cT r) λc=>c==.str lit))) e
noncomputable def yf:SExpr->CE->Expr->Bool
 | .gany lit it,ce,e=>ce.gl&&fu ce "any" (λz=>zY (λel x i scope=>vD ce scope x&&(chk it ce i&&(BE lit x el&&rT i))) z) e
 | .not c,ce,e=>ce.gl&&aH (CP e) λx=>x.1==.Not&&lZ c ce x.2
 | θ,ξ,ζ=>false
mutual
noncomputable def oH:SStmt->CE->Stmt->Bool
 | .set x e,ce,st=>Bg (λy tp v=>tgt ce y x&&(chk e ce v&&isNoComp v)) st
 | .setc x e,ce,st=>Bg (λy tp v=>tgt ce y x&&(chk e ce v&&BF ce v y tp)) st
 | .ownl x es,ce,st=>Bg (λy tp v=>tgt ce y x&&(isNoComp v&&aH (wH v) λl=>eG es ce l)) st
 | .ownd x,ce,st=>Bg (λy tp v=>tgt ce y x&&nE v) st
 | .unpk x y e,ce,st=>aH (ff st) λt=>aH (gE t.1) λl=>aH (kr l) λz=>gk ce x z.1&&(gk ce y z.2&&(chk e ce t.2&&(isNoComp t.2&&!iZ t.2)))
 | .unpk3 x y z e,ce,st=>aH (ff st) λt=>aH (gE t.1) λl=>aH (mH l) λq=>gk ce x q.1&&(gk ce y q.2.1&&(gk ce z q.2.2&&(chk e ce t.2&&(isNoComp t.2&&!iZ t.2))))
 | .app x e,ce,st=>aH (uM st) λv=>uC "append" (λo as=>gk ce x o&&aH (g8 as) λa=>chk e ce a&&!aF a) v
 | .put x k e,ce,st=>aH (ff st) λt=>aH (qt t.1) λz=>gk ce x z.1&&(chk k ce z.2&&chk e ce t.2)
 | .ife c a b,ce,st=>aH (AY st) λt=>(chk c ce t.1||yf c ce t.1)&&(bM a ce t.2.1&&bM b ce t.2.2)
 | .fr x e b,ce,st=>aH (AT st) λt=>gk ce x t.1&&(chk e ce t.2.1&&(!aM t.2.1&&bM b ce t.2.2))
 | .whl c b,ce,st=>aH (uw st) λt=>chk c ce t.1&&bM b ce t.2
 | .ret e,ce,st=>aH (Bh st) λv=>chk e ce v
 | .rel θ,ξ,ζ=>false
noncomputable def bM:List SStmt->CE->List Stmt->Bool
 | [],θ,l=>l.isEmpty
 | t::ts,ce,l=>if oj t then bM ts ce l else match l with
  | st::sts=>oH t ce st&&bM ts ce sts
  | []=>false
end
theorem d7{y:Str}{l:List Str}{i:Nat}(h:lastIdx y l 0=some i):l[i]?= some y:=by
 obtain⟨j,e,h2⟩:=cX h
 rw[e,Hc];exact h2
theorem idx_inj{ce:CE}{x y:Str}{i:Nat}(hx:ce.idx x=some i)(hy:ce.idx y=some i):y=x:=ET ((d7 hy).symm.trans (d7 hx))
structure Tgt(ce:CE)(x:Str)(i:Nat):Prop where
 ix:ce.idx x=some i
 lc:fg (ce.kind x)=true
 nd:(x==("__debug__":Str))=false
 nc:(x==("__classdict__":Str))=false
 uq:∀y,ce.idx y=some i->y=x
theorem bP{ce:CE}{x:Str}{i:Nat}(h:tgt ce x i=true):Tgt ce x i:=by
 refine cps λGq hGq=>?_
 obtain⟨h1,h⟩:=and2 h
 obtain⟨h2,h⟩:=and2 h
 obtain⟨h3,h4⟩:=and2 h
 refine hGq ?_
 clear hGq
 exact⟨eq_of_beq h1,h2,bZ h3,bZ h4,λy hy=>idx_inj (eq_of_beq h1) hy⟩
theorem rB{σ:Sig}{x:Nat}{o:RV}(h:lP σ x=some o):σ[x]?= some (some o)/\o.c=false:=by
 obtain⟨r,h1,h2⟩:=ac h
 have h3:r.c=false/\r=o:=by
  cases hc:r.c with
  | true=>rw[hc]at h2;cases h2
  | false=>rw[hc]at h2;exact⟨rfl,ET h2⟩
 obtain⟨h3,rfl⟩:=h3
 refine⟨?_,h3⟩
 cases hq:σ[x]? with
 | none=>rw[hq]at h1;cases h1
 | some q=>rw[hq]at h1;exact congrArg some h1
theorem swaps_plain{v:Expr}{t:Expr}{l:Nat}{env:Env}(h:isNoComp v=true):swapsWith v (some t) l env=pure false:=by
 cases v<;>first | exact Eq.refl (pure false) | cases h
theorem iS{v o i:Expr}{p:Pos}{l:Nat}{env:Env}:swapsWith v (some (.Subscript o i p)) l env=pure false:=by
 cases v<;>exact Eq.refl (pure false)
theorem qT{ce:CE}{elt:Expr}{gens:List Comprehension}{scope:Scope}{vp:Pos}{t:Str}{p:Pos}{l:Nat}{env:Env}(fn:env.scope.kind=.function)(ki:∀x,ce.kind x=env.kindOf x)(h:BF ce (.ListComp elt gens scope vp) t p=true):swapsWith (.ListComp elt gens scope vp) (some (.Name t p)) l env=pure true:=by
 obtain⟨h1,h⟩:=and2 h
 obtain⟨h2,h3⟩:=and2 h
 rw[ki]at h1
 delta swapsWith
 have h2':(p.line==(Expr.ListComp elt gens scope vp).pos.line)=true:=h2
 simp only[Env.blockKind,fn,h1,h2',h3]
 rfl
section
variable{Z:Cf}{lvl:Nat}{A:Around}{env:Env}{ce:CE}{Q0:Addr->Prop}{s0 s s':Shared}{X:Addr->Prop}{ad ad':Nat->Addr}{σ σ':Sig}{E:Value->Shared->Prop}{Φ:FTab}{n:Nat}
theorem wq{α:Type}{M:Model}{m:Sem α}{Q:α->Shared->Prop}(h:∀Q':α->Shared->Prop,(∀v s',Q v s'->Q' v s')->wpAny M A m Q' E s):wpAny M A m Q E s:=h Q λzz zz h=>h
inductive PostN(Z:Cf)(env:Env)(ce:CE)(Q0:Addr->Prop)(s0:Shared)(X:Addr->Prop)(ad:Nat->Addr)(σ:Sig)(s:Shared)(σ':Sig)(s':Shared):Prop
 | mk (ad':Nat->Addr):Sx Z env ce Q0 s0 X ad' σ' s'->Ext env ce X ad σ s ad' σ' s'->PostN Z env ce Q0 s0 X ad σ s σ' s'
def iF(Z:Cf)(env:Env)(ce:CE)(Q0:Addr->Prop)(s0:Shared)(X:Addr->Prop)(ad:Nat->Addr)(σ:Sig)(s:Shared):Out->Flow->Shared->Prop
 | .next σ',fl,s'=>fl=.next/\PostN Z env ce Q0 s0 X ad σ s σ' s'
 | .ret r,fl,s'=>∃v,fl=.ret v/\KeepG ce.gl s0 s'/\R Z s'.heap s'.toks (λa=>Q0 a/\(r.f=true->s0.heap.get? a=none)) v r.d
theorem PostN.of{Df:Sig}{s'':Shared}(x:Ext env ce X ad σ s ad' σ' s')(h:PostN Z env ce Q0 s0 X ad' σ' s' Df s''):PostN Z env ce Q0 s0 X ad σ s Df s'':=by
 obtain⟨ad2,h1,h2⟩:=h
 exact⟨ad2,h1,aW x h2⟩
theorem iF.of{out:Out}{fl:Flow}{s'':Shared}(x:Ext env ce X ad σ s ad' σ' s')(h:iF Z env ce Q0 s0 X ad' σ' s' out fl s''):iF Z env ce Q0 s0 X ad σ s out fl s'':=by
 cases out with
 | next=>exact⟨h.1,h.2.of x⟩
 | ret r=>exact h
def iu(Z:Cf)(Φ:FTab)(A:Around)(env:Env)(ce:CE)(Q0:Addr->Prop)(s0:Shared)(X:Addr->Prop)(n:Nat)(t:SStmt):Prop :=
 ∀(st:Stmt) (ad:Nat->Addr) (σ:Sig) (s:Shared) (out:Out) (E:Value->Shared->Prop),oH t ce st=true->Sx Z env ce Q0 s0 X ad σ s->bO Φ n t σ=some out ->
  wpAny Z.M A (exec st env) (iF Z env ce Q0 s0 X ad σ s out) E s
def fB(Z:Cf)(Φ:FTab)(A:Around)(env:Env)(ce:CE)(Q0:Addr->Prop)(s0:Shared)(X:Addr->Prop)(n:Nat)(ts:List SStmt):Prop :=
 ∀(sts:List Stmt) (ad:Nat->Addr) (σ:Sig) (s:Shared) (out:Out) (E:Value->Shared->Prop),bM ts ce sts=true->Sx Z env ce Q0 s0 X ad σ s->aexecs Φ n ts σ=some out ->
  wpAny Z.M A (execs sts env) (iF Z env ce Q0 s0 X ad σ s out) E s
def j1(Z:Cf)(Φ:FTab)(A:Around)(env:Env)(ce:CE)(Q0:Addr->Prop)(s0:Shared)(X:Addr->Prop)(c:SExpr):Prop :=
 ∀(e:Expr) (ad:Nat->Addr) (σ:Sig) (s:Shared) (r:RV) (k:Bool) (E:Value->Shared->Prop),yf c ce e=true->Sx Z env ce Q0 s0 X ad σ s->aa Φ c σ=some r->r.d=.bool k ->
  wpAny Z.M A (isTrue e env (eval e env)) (λb s'=>b=k/\Sx Z env ce Q0 s0 X ad σ s'/\Ext env ce X ad σ s ad σ s') E s
theorem cV{q:RV}{d:PV}(h:q.c=true):(part q d).c=true:=by
 delta part
 cases d.atom with
 | true=>rfl
 | false=>exact h
theorem iK{I:Addr}{h h':Heap}{y:Str}{u:Value}(hI:¬Ow env X σ ad I)(hk:∀b o,b≠I->h.get? b=some o->h'.get? b=some o)(l:aS env h y u):aS env h' y u:=by
 rcases l with⟨k,m2,nn,e⟩ | ⟨k,c',hc',n⟩
 .exact .inl ⟨k,m2,nn.at' λo e=>hk _ o (λq=>hI (q▸.inr (.inl rfl))) e,e⟩
 .refine .inr ⟨k,c',hc',?_⟩
  obtain⟨o,ho,r⟩:=n
  exact⟨o,hk c' o (λq=>hI (q▸.inr (.inr (.inl ⟨y,hc'⟩)))) ho,r⟩
theorem pK{I:Addr}{CZ:Shared}{h':Heap}{tk:Nat}(x:Ext env ce X ad σ CZ ad' σ' s)(htk:s.toks<=tk)(hI:CZ.heap.get? I=none)(hIo:¬Ow env X σ' ad' I)(hk:∀b o,b≠I->s.heap.get? b=some o->h'.get? b=some o):Ext env ce X ad σ CZ ad' σ' {s with heap:=h',toks:=tk}:=by
 refine⟨λb o e hb ht=>hk b o (λq=>?_) (x.kp b o e hb ht),x.ow,λb ⟨o,e⟩=>?_,EK x.tk htk,λy u h1 h2 l=>iK hIo hk (x.ld y u h1 h2 l)⟩
 .rw[q,hI]at e;cases e
 .obtain⟨o',e'⟩:=x.lv b ⟨o,e⟩
  exact⟨o',hk b o' (λq=>by rw[q,hI]at e;cases e) e'⟩
inductive ForI(Z:Cf)(env:Env)(ce:CE)(Q0:Addr->Prop)(s0:Shared)(X:Addr->Prop)(ad:Nat->Addr)(σ:Sig)(CZ:Shared)(St:Nat->Heap->Prop)(go:List PV->Sig->Option Out)(ds:List PV)(out:Out):Nat->Shared->Prop
 | mk {j:Nat} {σ':Sig} {ad':Nat->Addr} {s':Shared} (hj:j<=ds.length) (S:Sx Z env ce Q0 s0 X ad' σ' s') (x:Ext env ce X ad σ CZ ad' σ' s') (hst:St j s'.heap) (hI:¬Ow env X σ' ad' CZ.heap.objs.size) (ha:go (ds.drop j) σ'=some out):ForI Z env ce Q0 s0 X ad σ CZ St go ds out (ds.length+1 - j) s'
set_option maxHeartbeats 1000000 in
theorem Af{x:Str}{i:Nat}{px:Pos}{it:Expr}{bd:List Stmt}{pos:Pos}{q:RV}{ds:List PV}{ts:List SStmt}{out:Out}(F:Fx Z lvl A env ce Q0 s0)(S:Sx Z env ce Q0 s0 X ad σ s)(hx:tgt ce x i=true)(hns:aM it=false)
  (hit:wpAny Z.M A (eval it env) (Pst Z (Pf Q0 s0.heap (Ow env X σ ad)) s q) E s) (hq:q.c=true) (hds:aJ q.d=some ds) (hb:bM ts ce bd=true) (body:fB Z Φ A env ce Q0 s0 X n ts) (h:afor (aexecs Φ n ts) i q ds σ=some out) :
  wpAny Z.M A (exec (.For (.Name x px) it bd [] pos) env) (iF Z env ce Q0 s0 X ad σ s out) E s:=by
 refine cps λGq hGq=>?_
 obtain⟨hix,hlc,zz,zz,huq⟩:=bP hx
 refine hGq ?_
 clear hGq
 refine wpAny_For (wm hit λv CZ C4=>?_) (cM hns env)
 obtain⟨k1,r1⟩:=C4
 rw[hq]at r1
 have r1':R Z CZ.heap CZ.toks (λa=>Pf Q0 s0.heap (Ow env X σ ad) q.f true a/\∃o,CZ.heap.get? a=some o) v q.d:=r1.frame (λa o hp zz e=>⟨e,hp,o,e⟩) (ER _)
 refine fL r1' hds λfp Pi St C2 k2 W hst hfp hfq hI hId hPi hsz hLv=>?_
 have S1:=S.keeps k1
 have hI0:s0.heap.get? CZ.heap.objs.size=none:=S1.k0.none (size_none _)
 have hIo:¬Ow env X σ ad CZ.heap.objs.size:=λho=>by
  obtain⟨o,e⟩:=S1.lv _ ho
  rw[size_none]at e;cases e
 refine codeAny_forLoop (ForI Z env ce Q0 s0 X ad σ CZ St (afor (aexecs Φ n ts) i q) ds out) ?_ (ds.length+1)
  (.mk (j:=0) (Fi _) (S1.keeps k2) (cf k2) hst hIo h)
 intro k s' hFI
 induction hFI with
 | @mk j σ' ad' s' hj S' x' hst' hIo' ha =>
  have WW:=W A F.hh
  have fpo:∀{Dv:Sig} {Dw:Nat->Addr} {C5:Shared},Ext env ce X ad σ CZ Dw Dv C5->¬Ow env X Dv Dw CZ.heap.objs.size->∀b∈fp,¬Ow env X Dv Dw b:=by
   intro Dv Dw C5 Eb DY b hb ho
   rcases hfq b hb with e | ⟨hp,o,e⟩
   .exact DY (e▸ho)
   .rcases Eb.ow b ho with q1 | q1
    .exact hp.2.2 rfl q1
    .rw[q1]at e;cases e
  by_cases hlt:j<ds.length
  .refine tk_of (WW.item j _ _ _ hlt hst' λv C4 Dc hPv Dd Dm Db=>?_)
   have De:∀b o,b≠CZ.heap.objs.size->s'.heap.get? b=some o->C4.get? b=some o:=λb o hb e=>Dm b o (λhm=>hb (EM.mp hm)) e
   obtain⟨d,hd,rd⟩:=hPi j v hPv
   have hdrop:ds.drop j=d::ds.drop (j+1):=by
    rw[GF hlt]
    congr 1
    rw[EW hlt]at hd
    exact ET hd
   rw[hdrop]at ha
   obtain⟨o1,hb1,ha⟩:=ac ha
   have S2:=S'.iterI (tk:=Dc) Db hIo' hI0 (hId j _ hst') De
   have rd1:R Z CZ.heap CZ.toks (Pf Q0 s0.heap (Ow env X σ ad) q.f true) v d:=rd.mono λa h=>h.1
   have rd2:R Z C4 Dc (Pf Q0 s0.heap (Ow env X σ' ad') q.f true) v d:=(x'.R rd1).frame (λa o hp dd e=>⟨De a o (λe'=>hId j _ hst' o (e'▸e) dd) e,hp⟩) Db
   have rd3:R Z C4 Dc (Pf Q0 s0.heap (Ow env X σ' ad') (part q d).f true) v (part q d).d:=by
    have:=cn (P:=Pf Q0 s0.heap (Ow env X σ' ad')) (r:=q) (by rw[hq];exact rd2)
    rw[cV hq]at this
    exact this
   refine wpAny_assign_Name (store_ok F S2 (krefl _) hix huq hlc (λzz zz=>rfl) (λzz=>rd3) (λh=>by rw[cV hq]at h;cases h) λC7 S4 x4=>?_)
   have x4':Ext env ce X ad σ CZ ad' (σ'.set i (some (part q d))) C7:=aW (pK x' Db (size_none _) hIo' De) x4
   have hI4:¬Ow env X (σ'.set i (some (part q d))) ad' CZ.heap.objs.size:=λho=>hIo' (jP (cV hq) ho)
   have live1:∃o,C4.get? CZ.heap.objs.size=some o:=(hLv (j+1) C4 Dd).1
   obtain⟨oI1,hoI1⟩:=live1
   have ntb:∀b∈fp,∀o,C4.get? b=some o->(ce.gl=true->¬Tbl o):=λb hb o e zz q=>(hLv (j+1) C4 Dd).2 b hb o e q.1
   have hoI4:C7.heap.get? CZ.heap.objs.size=some oI1:=x4.1 _ _ hoI1 (.inl hIo') (ntb _ (WW.sub _ (EM.mpr rfl)) _ hoI1)
   have hst4:St (j+1) C7.heap:=WW.frame _ _ _ Dd λb hb o e=>x4.1 b o e (.inl (fpo x' hIo' b hb)) (ntb b hb o e)
   refine wm (body bd ad' _ C7 o1 _ hb S4 hb1) (λfl Dn Dl=>?_)
   .cases o1 with
    | next DZ =>
     obtain⟨rfl,ad5,S5,x5⟩:=Dl
     refine⟨_,lt_step hlt,.mk hlt S5 (aW x4' x5) (WW.frame _ _ _ hst4 λb hb o e=>x5.1 b o e (.inl (fpo x4' hI4 b hb)) λzz q=>(hLv (j+1) _ hst4).2 b hb o e q.1) (λho=>?_) ha⟩
     .rcases x5.ow _ ho with q1 | q1
      .exact hI4 q1
      .rw[q1]at hoI4;cases hoI4
    | ret r =>
     obtain⟨v5,rfl,k5,r5⟩:=Dl
     cases ha
     exact⟨v5,rfl,k5,r5⟩
  .have hjn:j=ds.length:=by exact Gb hj (Gc.mp hlt)
   subst hjn
   rw[List.drop_length]at ha
   cases ha
   refine tk_of (WW.done _ _ _ hst' λC4 Dc Dm Db=>?_)
   have De:∀b o,b≠CZ.heap.objs.size->s'.heap.get? b=some o->C4.get? b=some o:=λb o hb e=>Dm b o (λhm=>hb (EM.mp hm)) e
   refine wpAny_execs_nil ⟨rfl,ad',S'.iterI Db hIo' hI0 (hId _ _ hst') De,aW (cf k1) (pK x' Db (size_none _) hIo' De)⟩
theorem s6{v:Expr}{tp pos:Pos}{y:Str}{x:Nat}{r:RV}(F:Fx Z lvl A env ce Q0 s0)(S:Sx Z env ce Q0 s0 X ad σ s)(hx:tgt ce y x=true)(hsw:BF ce v y tp=true)(hr:r.c=true)(hrun:IsComp Z A env (Pf Q0 s0.heap (Ow env X σ ad)) s E v r) :
  wpAny Z.M A (exec (.Assign [.Name y tp] v pos) env) (iF Z env ce Q0 s0 X ad σ s (.next (σ.set x (some r)))) E s:=by
 refine cps λGq hGq=>?_
 obtain⟨hix,hlc,zz,zz,huq⟩:=bP hx
 obtain⟨elt,tg,it,ifs,gs,scope,vp,rs,e0,hres,hrun⟩:=hrun
 refine hGq ?_
 clear hGq
 subst e0
 rw[exec_Assign_Name_used _ _ _ _ (qT F.fn F.ki hsw)]
 refine wpAny_bind (wpAny_standAt (wpAny_bind ?_))
 show wpAny _ A (do let _ <-comprehension (.ListComp elt (⟨tg,it,ifs,0⟩::gs) scope vp) scope env _ (newList []) false (eval it env) (some (assign (.Name y tp) env))) _ _ s
 refine wpAny_bind (wm (hrun (some (assign (.Name y tp) env)) (λzz s'=>iF Z env ce Q0 s0 X ad σ s (.next (σ.set x (some r))) .next s') _ ?_) (λzz s' hq=>wpAny_pure (wpAny_pure hq)))
 intro D C s' hce
 have rr:=lU (Pf.ok F S).mono hce hres
 refine cps λGq hGq=>?_
 obtain⟨k,hD,hC,hDC,⟨m,hn⟩,zz,zz⟩:=hce
 refine hGq ?_
 clear hGq
 show wpAny _ A (assign (.Name y tp) env (.ref D)) _ _ _
 have hCl:∃o,s'.heap.get? C=some o:=ns_get hn
 have S1:=S.addX k hC hCl
 have hCo:¬Ow env X σ ad C:=λho=>by
  obtain⟨o,e⟩:=S.lv C ho
  rw[hC]at e;cases e
 have owX:∀b,Ow env (λa=>X a\/a=C) σ ad b->Ow env X σ ad b\/b=C:=by
  intro b hb
  rcases hb with(hb | hb) | hb
  .exact .inl (.inl hb)
  .exact .inr hb
  .exact .inl (.inr hb)
 have rr':R Z s'.heap s'.toks (Pf Q0 s0.heap (Ow env (λa=>X a\/a=C) σ ad) r.f true) (.ref D) r.d:=rr.mono λa h=>⟨h.1.1,h.1.2.1,λzz ho=>by
  rcases owX a ho with q | q
  .exact h.1.2.2 hr q
  .exact h.2 q⟩
 refine wpAny_assign_Name (store_ok F S1 (krefl _) hix huq hlc (λzz zz=>rfl) (λzz=>rr') (λh=>by rw[hr]at h;cases h) λC7 S4 x4=>?_)
 have hn4:C7.heap.Ns C m:=hn.at' λo e=>x4.1 C o e (.inr (.inr rfl)) λzz=>gT hn e
 refine⟨m,hn4,λh' hs=>⟨rfl,ad,S4.offX (λho=>hCo (jP hr ho)) hs,?_,?_,?_,?_,?_⟩⟩
 .intro b o e hb ht
  have hbC:b≠C:=λq=>by rw[q,hC]at e;cases e
  refine hs.extBut b o hbC (x4.1 b o (kheap k b o e) ?_ ht)
  rcases hb with hb | hb
  .refine .inl λho=>?_
   rcases owX b ho with q | q
   .exact hb q
   .exact hbC q
  .exact .inr (.inl hb)
 .exact λb hb=>.inl (jP hr hb)
 .rintro b ⟨o,e⟩
  have hbC:b≠C:=λq=>by rw[q,hC]at e;cases e
  obtain⟨o',e'⟩:=x4.lv b ⟨o,kheap k b o e⟩
  exact⟨o',hs.extBut b o' hbC e'⟩
 .exact EK (ktl k) x4.tk
 .exact λz u h1 h2 l=>iK hCo (λb o hb e=>hs.extBut b o hb e) (x4.ld z u h1 h2 (l.keeps (kheap k)))
end
section
variable{Z:Cf}{lvl:Nat}{A:Around}{env:Env}{ce:CE}{Q0:Addr->Prop}{s0 s s':Shared}{X:Addr->Prop}{ad ad':Nat->Addr}{σ σ':Sig}{E:Value->Shared->Prop}{Φ:FTab}{n:Nat}
theorem wA{h:Heap}{N:Nat}{Q:Addr->Prop}{vs:List Value}{d e:PV}(x:RS Z h N Q vs [d,e]):∃a b,vs=[a,b]/\R Z h N Q a d/\R Z h N Q b e:=by
 cases x with | cons a r=>cases r with | cons b r=>cases r;exact⟨_,_,rfl,a,b⟩
theorem vK{h:Heap}{N:Nat}{Q:Addr->Prop}{vs:List Value}{d e g:PV}(x:RS Z h N Q vs [d,e,g]):∃a b c,vs=[a,b,c]/\R Z h N Q a d/\R Z h N Q b e/\R Z h N Q c g:=by
 cases x with | cons a r=>obtain⟨u,v,rfl,b,c⟩:=wA r;exact⟨_,u,v,rfl,a,b,c⟩
theorem qS{e:Expr}(h:nE e=true):∃p,e=.Dict [] [] p:=by
 obtain⟨x,⟨p,rfl⟩,hd⟩:=ag h
 exact⟨p,by rw[isEmpty_of (and2 hd).1,isEmpty_of (and2 hd).2]⟩
theorem vt{c:SExpr}{tst:Expr}{bd:List Stmt}{pos:Pos}{ts:List SStmt}{out:Out}(hte:TeOk Z lvl Φ c)(F:Fx Z lvl A env ce Q0 s0)(S:Sx Z env ce Q0 s0 X ad σ s)
  (hc:chk c ce tst=true) (hb:bM ts ce bd=true) (body:fB Z Φ A env ce Q0 s0 X n ts) {k:Nat} (h:ql (λσ=>(aa Φ c σ).bind λt=>aX t.d) (aexecs Φ n ts) k σ=some out) :
  wpAny Z.M A (exec (.While tst bd [] pos) env) (iF Z env ce Q0 s0 X ad σ s out) E s:=by
 refine wpAny_While (codeAny_whileLoop (λk s'=>∃σ' ad',Sx Z env ce Q0 s0 X ad' σ' s'/\Ext env ce X ad σ s ad' σ' s'/\ql (λσ=>(aa Φ c σ).bind λt=>aX t.d) (aexecs Φ n ts) k σ'=some out) ?_ k ⟨σ,ad,S,ext_refl,h⟩)
 intro k s' hI
 refine cps λGq hGq=>?_
 obtain⟨σ',ad',S',x',ha⟩:=hI
 refine hGq ?_
 clear hGq
 cases k with
 | zero=>cases ha
 | succ k =>
  refine cps λGq hGq=>?_
  obtain⟨b,hb0,ha⟩:=ac ha
  obtain⟨t,ht,hb1⟩:=ac hb0
  refine hGq ?_
  clear hGq
  refine wm (hte ce tst A env _ σ' s' t b _ hc (S'.cx F) ht (bI hb1)) λb' C2 C8=>?_
  obtain⟨rfl,k2⟩:=C8
  have S2:=S'.keeps k2
  have x2:=aW x' (cf (env:=env) (X:=X) (ad:=ad') (σ:=σ') k2)
  cases b' with
  | true =>
   obtain⟨o1,hb1,ha⟩:=ac (o:=aexecs Φ n ts σ') ha
   refine wm (body bd ad' _ C2 o1 _ hb S2 hb1) λfl Dn Dl=>?_
   .cases o1 with
    | next DZ =>
     obtain⟨rfl,ad5,S5,x5⟩:=Dl
     exact⟨k,E7 _,DZ,ad5,S5,aW x2 x5,ha⟩
    | ret r =>
     cases ha
     obtain⟨v5,rfl,Dl⟩:=Dl
     exact⟨v5,rfl,Dl⟩
  | false =>
   cases ha
   exact wpAny_execs_nil ⟨rfl,ad',S2,x2⟩
theorem w6{y:Str}{tp pos:Pos}{v:Expr}{x:Nat}{r:RV}(F:Fx Z lvl A env ce Q0 s0)(S:Sx Z env ce Q0 s0 X ad σ s)(hx:tgt ce y x=true)(hn:isNoComp v=true)(hr:r.c=true)
  (hv:wpAny Z.M A (eval v env) (Pst Z (Pf Q0 s0.heap (Ow env X σ ad)) s r) E s) :
  wpAny Z.M A (exec (.Assign [.Name y tp] v pos) env) (iF Z env ce Q0 s0 X ad σ s (.next (σ.set x (some r)))) E s:=by
 refine cps λGq hGq=>?_
 obtain⟨hix,hlc,zz,zz,huq⟩:=bP hx
 refine hGq ?_
 clear hGq
 refine wpAny_Assign_Name (wm hv λu CZ C4=>?_) (swaps_plain hn)
 obtain⟨k1,r1⟩:=C4
 rw[hr]at r1
 exact store_ok F S k1 hix huq hlc (λzz zz=>rfl) (λzz=>r1) (λh=>by rw[hr]at h;cases h) λC7 S4 x4=>⟨rfl,ad,S4,x4⟩
theorem oN{y:Str}{tp pos:Pos}{v:Expr}{x:Nat}{r:RV}(F:Fx Z lvl A env ce Q0 s0)(S:Sx Z env ce Q0 s0 X ad σ s)(hx:tgt ce y x=true)(hn:isNoComp v=true)(hr:r.c=false)
  (hv:wpAny Z.M A (eval v env) (λu CZ=>Keeps s CZ/\∃a,u=.ref a/\s.heap.get? a=none/\OwnR Z CZ.heap CZ.toks (Pf Q0 s0.heap (λb=>Ow env X σ ad b\/b=a) r.f true) a r.d) E s) :
  wpAny Z.M A (exec (.Assign [.Name y tp] v pos) env) (iF Z env ce Q0 s0 X ad σ s (.next (σ.set x (some r)))) E s:=by
 refine cps λGq hGq=>?_
 obtain⟨hix,hlc,zz,zz,huq⟩:=bP hx
 refine hGq ?_
 clear hGq
 refine wpAny_Assign_Name (wm hv λu CZ C4=>?_) (swaps_plain hn)
 obtain⟨k1,a,rfl,ha,o⟩:=C4
 refine store_ok (ad':=λj=>if j=x then a else ad j) F S k1 hix huq hlc (λj hj=>if_neg hj) (λh=>by rw[hr]at h;cases h) (λzz=>?_) λC7 S4 x4=>⟨rfl,_,S4,x4⟩
 simp only[if_true]
 exact⟨trivial,ha,o⟩
theorem pB{y:Str}{i:Nat}{r:RV}{np:Pos}{Q:Value->Shared->Prop}(F:Fx Z lvl A env ce Q0 s0)(S:Sx Z env ce Q0 s0 X ad σ s)(hx:tgt ce y i=true)(hr:σ[i]?= some (some r))(hc:r.c=false)
  (h:OwnR Z s.heap s.toks (Pf Q0 s0.heap (Ow env X σ ad) r.f true) (ad i) r.d->Q (.ref (ad i)) s):wpAny Z.M A (eval (.Name y np) env) Q E s:=by
 refine cps λGq hGq=>?_
 obtain⟨hix,hlc,hd1,hd2,huq⟩:=bP hx
 obtain⟨v,l,zz,c2⟩:=S.rd y i r hix (cO hlc) hr
 refine hGq ?_
 clear hGq
 obtain⟨rfl,o⟩:=c2 hc
 exact gN F.fn l hd1 hd2 (h o)
theorem Pf.mono{f c f' c':Bool}{O:Addr->Prop}{h0:Heap}{a:Addr}(h1:f'=true->f=true)(h2:c'=true->c=true)(h:Pf Q0 h0 O f c a):Pf Q0 h0 O f' c' a:=⟨h.1,λq=>h.2.1 (h1 q),λq=>h.2.2 (h2 q)⟩
theorem g6{h':Heap}(he:Heap.ExtBut s.heap.objs.size s.heap h'):Keeps s {s with heap:=h'} :=
 ⟨h',s.toks,s.drawn,rfl,λb o e=>he b o (λq=>by rw[q,size_none]at e;cases e) e,ER _⟩
theorem unpk_stmt{a b:Str}{np nq tp pos:Pos}{c:Nat}{v:Expr}{x y:Nat}{r:RV}{d e:PV}(F:Fx Z lvl A env ce Q0 s0)(S:Sx Z env ce Q0 s0 X ad σ s)(hx:tgt ce a x=true)(hy:tgt ce b y=true)(hn:isNoComp v=true)(hnt:iZ v=false)(hr:r.c=true)(hrd:r.d=.tup [d,e])
  (hv:wpAny Z.M A (eval v env) (Pst Z (Pf Q0 s0.heap (Ow env X σ ad)) s r) E s) :
  wpAny Z.M A (exec (.Assign [.Tuple [.Name a np,.Name b nq] c tp] v pos) env) (iF Z env ce Q0 s0 X ad σ s (.next ((σ.set x (some (part r d))).set y (some (part r e))))) E s:=by
 refine cps λGq hGq=>?_
 obtain⟨hix,hlc,zz,zz,huq⟩:=bP hx
 obtain⟨hix',hlc',zz,zz,huq'⟩:=bP hy
 refine hGq ?_
 clear hGq
 refine H7 (wm hv λu CZ C4=>?_) (by delta swapsWithSole;exact swaps_plain hn) (by cases v<;>first | rfl | cases hnt)
 obtain⟨k1,r1⟩:=C4
 have S1:=S.keeps k1
 rw[hrd,hr]at r1
 induction r1.t with
 | @tup t vs m pt et zt rt =>
  obtain⟨v1,v2,rfl,ra,rb⟩:=wA rt
  refine wpAny_assign_Tuple F.hh (ax et) rfl rfl λh' he=>?_
  have k2:=g6 he
  have S2:=S1.keeps k2
  have hp:∀{u:PV} {q:Value},R Z CZ.heap CZ.toks (Pf Q0 s0.heap (Ow env X σ ad) r.f true) q u->R Z CZ.heap CZ.toks (Pf Q0 s0.heap (Ow env X σ ad) (part r u).f true) q (part r u).d:=by
   intro u q hq
   have:=cn (P:=Pf Q0 s0.heap (Ow env X σ ad)) (r:=r) (d:=u) (v:=q) (h:=CZ.heap) (N:=CZ.toks) (by rw[hr];exact hq)
   rw[cV hr]at this
   exact this
  refine wpAny_bind (wpAny_holding ?_)
  refine wpAny_assign_Name (store_ok F S2 (krefl _) hix huq hlc (λzz zz=>rfl) (λzz=>(hp ra).kp k2) (λh=>by rw[cV hr]at h;cases h) λC7 S4 x4=>?_)
  refine wpAny_bind (wpAny_holding ?_)
  refine wpAny_assign_Name (store_ok F S4 (krefl _) hix' huq' hlc' (λzz zz=>rfl) (λzz=>x4.R ((hp rb).kp k2)) (λh=>by rw[cV hr]at h;cases h) λDn S5 x5=>?_)
  exact wpAny_pure ⟨rfl,ad,S5,aW (cf (ktrans k1 k2)) (aW x4 x5)⟩
theorem rC{a b c0:Str}{np nq nr tp pos:Pos}{c:Nat}{v:Expr}{x y z:Nat}{r:RV}{d e g:PV}(F:Fx Z lvl A env ce Q0 s0)(S:Sx Z env ce Q0 s0 X ad σ s)(hx:tgt ce a x=true)(hy:tgt ce b y=true)(hz:tgt ce c0 z=true)(hn:isNoComp v=true)(hnt:iZ v=false)(hr:r.c=true)(hrd:r.d=.tup [d,e,g])
  (hv:wpAny Z.M A (eval v env) (Pst Z (Pf Q0 s0.heap (Ow env X σ ad)) s r) E s) :
  wpAny Z.M A (exec (.Assign [.Tuple [.Name a np,.Name b nq,.Name c0 nr] c tp] v pos) env) (iF Z env ce Q0 s0 X ad σ s (.next (((σ.set x (some (part r d))).set y (some (part r e))).set z (some (part r g))))) E s:=by
 refine wq λQQ hQQ=>?_
 refine cps λGq hGq=>?_
 obtain⟨hix,hlc,zz,zz,huq⟩:=bP hx
 obtain⟨hix',hlc',zz,zz,huq'⟩:=bP hy
 obtain⟨hix2,hlc2,zz,zz,huq2⟩:=bP hz
 refine hGq ?_
 clear hGq
 refine H7 (wm hv λu CZ C4=>?_) (by delta swapsWithSole;exact swaps_plain hn) (by cases v<;>first | rfl | cases hnt)
 obtain⟨k1,r1⟩:=C4
 have S1:=S.keeps k1
 rw[hrd,hr]at r1
 induction r1.t with
 | @tup t vs m pt et zt rt =>
  obtain⟨v1,v2,v3,rfl,ra,rb,rc⟩:=vK rt
  refine wpAny_assign_Tuple F.hh (ax et) rfl rfl λh' he=>?_
  have k2:=g6 he
  have S2:=S1.keeps k2
  have hp:∀{u:PV} {q:Value},R Z CZ.heap CZ.toks (Pf Q0 s0.heap (Ow env X σ ad) r.f true) q u->R Z CZ.heap CZ.toks (Pf Q0 s0.heap (Ow env X σ ad) (part r u).f true) q (part r u).d:=by
   intro u q hq
   have:=cn (P:=Pf Q0 s0.heap (Ow env X σ ad)) (r:=r) (d:=u) (v:=q) (h:=CZ.heap) (N:=CZ.toks) (by rw[hr];exact hq)
   rw[cV hr]at this
   exact this
  refine wpAny_bind (wpAny_holding ?_)
  refine wpAny_assign_Name (store_ok F S2 (krefl _) hix huq hlc (λzz zz=>rfl) (λzz=>(hp ra).kp k2) (λh=>by rw[cV hr]at h;cases h) λC7 S4 x4=>?_)
  refine wpAny_bind (wpAny_holding ?_)
  refine wpAny_assign_Name (store_ok F S4 (krefl _) hix' huq' hlc' (λzz zz=>rfl) (λzz=>x4.R ((hp rb).kp k2)) (λh=>by rw[cV hr]at h;cases h) λDn S5 x5=>?_)
  refine wpAny_bind (wpAny_holding ?_)
  refine wpAny_assign_Name (store_ok F S5 (krefl _) hix2 huq2 hlc2 (λzz zz=>rfl) (λzz=>x5.R (x4.R ((hp rc).kp k2))) (λh=>by rw[cV hr]at h;cases h) λDq S6 x6=>?_)
  exact wpAny_pure (hQQ _ _ ⟨rfl,ad,S6,aW (cf (ktrans k1 k2)) (aW x4 (aW x5 x6))⟩)
theorem OwnR.l{h:Heap}{N:Nat}{P1:Addr->Prop}{a:Addr}{ds:List PV}(x:OwnR Z h N P1 a (.list ds)):∃vs n,h.get? a=some (bY vs n)/\ds.length<=az/\RS Z h N P1 vs ds:=by
 cases x with | list e z r=>exact⟨_,_,e,z,r⟩
theorem A7{f g:Bool}{O:Addr->Prop}{h0:Heap}{a:Addr}(h:Pf Q0 h0 O f true a):Pf Q0 h0 O (f&&g) true a:=Pf.mono ou id h
theorem Bf{f g:Bool}{O:Addr->Prop}{h0:Heap}{a:Addr}(h:Pf Q0 h0 O g true a):Pf Q0 h0 O (f&&g) true a:=Pf.mono pO id h
section
variable{t:SStmt}{e:SExpr}{x:Nat}
theorem jR(he:EvOk Z lvl Φ e)(F:Fx Z lvl A env ce Q0 s0):iu Z Φ A env ce Q0 s0 X n (.set x e):=by
 intro st ad σ s out E hc S h
 obtain⟨y,tp,v,pos,rfl,hd⟩:=mT (st:=st) (k:=λy tp v=>tgt ce y x&&(chk e ce v&&isNoComp v)) hc
 refine cps λGq hGq=>?_
 obtain⟨h1,hd⟩:=and2 hd
 obtain⟨r,hr,h⟩:=ac h
 refine hGq ?_
 clear hGq
 obtain⟨hrc,rfl⟩:=aV h
 exact w6 F S h1 (and2 hd).2 hrc (he ce v A env _ σ s r E (and2 hd).1 (S.cx F) hr)
theorem Ay{v:Expr}{y:Str}{tp:Pos}(h:BF ce v y tp=true):∃el gs sc vp,v=.ListComp el gs sc vp:=by
 obtain⟨x,e,zz⟩:=ag h
 exact⟨_,_,_,_,e⟩
theorem zE{el:Expr}{gs:List Comprehension}{sc:Scope}{vp:Pos}(h:chk e ce (.ListComp el gs sc vp)=true):((∃a b,e=.comp a b)\/∃a b,e=.compC a b)\/(∃a b c,e=.compIf a b c)\/∃a b c,e=.comp2 a b c:=by
 cases e<;>first | exact .inl (.inl ⟨_,_,rfl⟩) | exact .inl (.inr ⟨_,_,rfl⟩) | exact .inr (.inl ⟨_,_,_,rfl⟩) | exact .inr (.inr ⟨_,_,_,rfl⟩) | exact absurd h Gk
theorem yz(eok:∀e,EOk Z lvl Φ e)(F:Fx Z lvl A env ce Q0 s0):iu Z Φ A env ce Q0 s0 X n (.setc x e):=by
 intro st ad σ s out E hc S h
 obtain⟨y,tp,v,pos,rfl,hd⟩:=mT (st:=st) (k:=λy tp v=>tgt ce y x&&(chk e ce v&&BF ce v y tp)) hc
 refine cps λGq hGq=>?_
 obtain⟨h1,hd⟩:=and2 hd
 obtain⟨h2,h3⟩:=and2 hd
 obtain⟨r,hr,h⟩:=ac h
 refine hGq ?_
 clear hGq
 obtain⟨hrc,rfl⟩:=aV h
 have key:IsComp Z A env (Pf Q0 s0.heap (Ow env X σ ad)) s E v r:=by
  obtain⟨el,gs,sc,vp,rfl⟩:=Ay h3
  rcases zE h2 with(⟨a,b,rfl⟩ | ⟨a,b,rfl⟩) | ⟨a,b,c,rfl⟩ | ⟨a,b,c,rfl⟩
  .exact rU (eok a) (eok b) h2 (S.cx F) hr
  .exact o0 (eok a) (eok b) h2 (S.cx F) hr
  .exact lL (eok a) (eok b) (eok c) h2 (S.cx F) hr
  .exact oY (eok a) (eok b) (eok c) h2 (S.cx F) hr
 exact s6 F S h1 h3 hrc key
theorem xL{es:List SExpr}(L:LOk Z lvl Φ es)(F:Fx Z lvl A env ce Q0 s0):iu Z Φ A env ce Q0 s0 X n (.ownl x es):=by
 intro st ad σ s out E hc S h
 obtain⟨y,tp,v,pos,rfl,hd⟩:=mT (st:=st) (k:=λy tp v=>tgt ce y x&&(isNoComp v&&aH (wH v) λl=>eG es ce l)) hc
 obtain⟨h1,hd⟩:=and2 hd
 obtain⟨h3,hd⟩:=and2 hd
 obtain⟨l,⟨q,rfl⟩,h2⟩:=ag hd
 refine cps λGq hGq=>?_
 obtain⟨rs,hrs,h⟩:=ac h
 obtain⟨r,hr,h⟩:=ac h
 refine hGq ?_
 clear hGq
 obtain⟨hrc,rfl⟩:=aV h
 refine oN F S h1 h3 rfl (wpAny_List_spliced ?_)
 rw[aA (mD h2),aZ]
 refine wm (wP L ce l A env _ σ s rs E h2 (S.cx F) hrs) λvs CZ C4=>?_
 obtain⟨k1,rl⟩:=C4
 obtain⟨hd,hz⟩:=jI hr
 refine⟨by rw[EN]at hz;rw[rl.length];exact EK hz lim_size,ktrans k1 (kpush _ _),_,rfl,none_of (kheap k1) (size_none _),?_⟩
 have rr:=RS.newl (P:=Pf Q0 s0.heap (Ow env X σ ad)) hr (rl.toRS (S.cx F).pd.mono)
 rw[hrc]at rr
 show OwnR Z _ _ _ _ r.d
 rw[hd]
 exact .list (Heap.get?_push_size _ rfl) hz (rr.frame (λa o hp zz e=>⟨Heap.get?_push_of_some _ e,hp.1,hp.2.1,λhh ho=>ho.elim (hp.2.2 hh) (ne_of_get (size_none _) e)⟩) (ER _))
theorem yj(F:Fx Z lvl A env ce Q0 s0):iu Z Φ A env ce Q0 s0 X n (.ownd x):=by
 intro st ad σ s out E hc S h
 obtain⟨y,tp,v,pos,rfl,hd⟩:=mT (st:=st) (k:=λy tp v=>tgt ce y x&&nE v) hc
 obtain⟨h1,h2⟩:=and2 hd
 obtain⟨q,rfl⟩:=qS h2
 cases h
 refine oN F S h1 rfl rfl ?_
 rw[eval_Dict_empty]
 exact wpAny_bind (wpAny_standAt (wpAny_newObj_type ⟨kpush _ _,_,rfl,size_none _,.dict (kvs:=[]) (Heap.DictOf.new _) (rA (S.cx F).top.g) rfl (Fi _) .nil⟩))
theorem xG{y:Nat}(he:EvOk Z lvl Φ e)(F:Fx Z lvl A env ce Q0 s0):iu Z Φ A env ce Q0 s0 X n (.unpk x y e):=by
 intro st ad σ s out E hc S h
 obtain⟨t,⟨pos,rfl⟩,hd⟩:=ag (o:=ff st) (f:=λt=>aH (gE t.1) λl=>aH (kr l) λz=>gk ce x z.1&&(gk ce y z.2&&(chk e ce t.2&&(isNoComp t.2&&!iZ t.2)))) hc
 refine cps λGq hGq=>?_
 obtain⟨l,⟨k,tp,e1⟩,hd⟩:=ag hd
 refine hGq ?_
 clear hGq
 obtain⟨z,rfl,hd⟩:=ag hd
 refine cps λGq hGq=>?_
 obtain⟨h1,hd⟩:=and2 hd
 obtain⟨h2,hd⟩:=and2 hd
 obtain⟨h3,hd⟩:=and2 hd
 obtain⟨h4,h5⟩:=and2 hd
 obtain⟨a,np,e2,g1⟩:=ee h1
 obtain⟨b,nq,e3,g2⟩:=ee h2
 obtain⟨r,hr,h⟩:=ac h
 obtain⟨ds,hds,h⟩:=ac h
 obtain⟨q,hq,h⟩:=ac h
 refine hGq ?_
 clear hGq
 obtain⟨hrc,rfl⟩:=aV h
 rw[e1,e2,e3]
 exact unpk_stmt F S g1 g2 h4 (bZ h5) hrc ((lM hds).trans (congrArg PV.tup (sy hq))) (he ce _ A env _ σ s _ E h3 (S.cx F) hr)
theorem wl{y z:Nat}(he:EvOk Z lvl Φ e)(F:Fx Z lvl A env ce Q0 s0):iu Z Φ A env ce Q0 s0 X n (.unpk3 x y z e):=by
 intro st ad σ s out E hc S h
 obtain⟨t,⟨pos,rfl⟩,hd⟩:=ag (o:=ff st) (f:=λt=>aH (gE t.1) λl=>aH (mH l) λq=>gk ce x q.1&&(gk ce y q.2.1&&(gk ce z q.2.2&&(chk e ce t.2&&(isNoComp t.2&&!iZ t.2))))) hc
 refine cps λGq hGq=>?_
 obtain⟨l,⟨k,tp,e1⟩,hd⟩:=ag hd
 refine hGq ?_
 clear hGq
 obtain⟨q,rfl,hd⟩:=ag hd
 refine cps λGq hGq=>?_
 obtain⟨h1,hd⟩:=and2 hd
 obtain⟨h2,hd⟩:=and2 hd
 obtain⟨h6,hd⟩:=and2 hd
 obtain⟨h3,hd⟩:=and2 hd
 obtain⟨h4,h5⟩:=and2 hd
 obtain⟨a,np,e2,g1⟩:=ee h1
 obtain⟨b,nq,e3,g2⟩:=ee h2
 obtain⟨c,nr,e4,g3⟩:=ee h6
 obtain⟨r,hr,h⟩:=ac h
 obtain⟨ds,hds,h⟩:=ac h
 obtain⟨qq,hq,h⟩:=ac h
 refine hGq ?_
 clear hGq
 obtain⟨hrc,rfl⟩:=aV h
 rw[e1,e2,e3,e4]
 exact rC F S g1 g2 g3 h4 (bZ h5) hrc ((lM hds).trans (congrArg PV.tup (ub hq))) (he ce _ A env _ σ s _ E h3 (S.cx F) hr)
theorem uj(he:EvOk Z lvl Φ e)(F:Fx Z lvl A env ce Q0 s0):iu Z Φ A env ce Q0 s0 X n (.app x e):=by
 intro st ad σ s out E hc S h
 obtain⟨v,⟨pos,rfl⟩,hd⟩:=ag (o:=uM st) hc
 obtain⟨o,as,ap,q,rfl,hline,hbase,hd1⟩:=jF hd
 obtain⟨h1,hd2⟩:=and2 hd1
 obtain⟨a,rfl,hd3⟩:=ag hd2
 obtain⟨h2,h3⟩:=and2 hd3
 obtain⟨y,np,rfl,h1⟩:=ee h1
 refine cps λGq hGq=>?_
 obtain⟨own,ho,h⟩:=ac h
 obtain⟨ds,hds,h⟩:=ac h
 obtain⟨r,hr,h⟩:=ac h
 refine hGq ?_
 clear hGq
 obtain⟨hcd,rfl⟩:=aV h
 obtain⟨hrc,hl⟩:=and2 hcd
 obtain⟨D0,hoc⟩:=rB ho
 have htr:backTo q (starEach [a] env)=[(false,eval a env)]:=by
  rw[aA (by rw[F5,h3];rfl),aZ];rfl
 refine wpAny_Expr (wpAny_Call_append (gP hbase) (by rw[htr];rfl) hline htr (pB F S h1 D0 hoc λo=>?_)) ?_ rfl
 .rw[dL_eq hds]at o
  refine cps λGq hGq=>?_
  obtain⟨vs,m,e1,z1,rs1⟩:=o.l
  refine hGq ?_
  clear hGq
  refine⟨_,vs.toArray,rfl,⟨_,m,e1,rfl,rfl,rfl⟩,wm (he ce a A env _ σ s r E h2 (S.cx F) hr) λu C2 C8=>?_⟩
  obtain⟨k2,r2⟩:=C8
  refine wpAny_list_append_plain ⟨m,kheap k2 _ _ e1⟩ (λh' hpl hs=>?_) (by rw[FJ,rs1.length];exact EK z1 lim_size)
  rw[hrc]at r2
  have hb:Ow env X σ ad (ad x):=.inr (.inr (.inr ⟨x,_,D0,hoc,rfl⟩))
  have key:OwnR Z h' C2.toks (Pf Q0 s0.heap (Ow env X σ ad) (own.f&&r.f) true) (ad x) (.list (ds++[r.d])):=by
   obtain⟨m',e'⟩:=hpl
   exact .list (vs:=vs++[u]) (n:=m') (by rw[e',List.push_toArray];rfl) (by rw[EQ];exact decT hl) ((((rs1.kp k2).off hs.extBut (λhp=>hp.2.2 rfl hb) (ER _)).mono λa hp=>A7 hp).append (.one ((r2.off hs.extBut (λhp=>hp.2.2 rfl hb) (ER _)).mono λa hp=>Bf hp)))
  obtain⟨S3,x3⟩:=mutate_ok (tk:=C2.toks) (S.keeps k2) (bP h1).ix (bP h1).uq (bP h1).lc D0 hoc (nr:=⟨.list (ds++[r.d]),own.f&&r.f,false⟩) rfl (ER _) hs key
  exact⟨rfl,ad,S3,aW (cf k2) x3⟩
 .delta interactive
  rw[F.fn]
  rfl
theorem put_len{ks:List Str}{ds:List PV}{k:Str}{d:PV}(h:ks.length<az):(put ks ds k d).1.length<=az:=by
 delta put
 by_cases hk:k∈ks
 .rw[if_pos hk];exact FS h
 .rw[if_neg hk];show(ks++[k]).length<=az;rw[EQ];exact h
theorem OwnR.d{h:Heap}{N:Nat}{P1:Addr->Prop}{a:Addr}{ks:List Str}{ds:List PV}(x:OwnR Z h N P1 a (.dict ks ds)):∃kvs:List (Str×Value),h.DictOf (strKind Z.prog Z.w) a kvs/\(a==sysModules)=false/\kvs.map (·.1)=ks/\ks.length<=az/\RS Z h N P1 (kvs.map (·.2)) ds:=by
 cases x with | dict e q k z r=>exact⟨_,e,q,k,z,r⟩
theorem sM{k:SExpr}(hk:EvOk Z lvl Φ k)(he:EvOk Z lvl Φ e)(F:Fx Z lvl A env ce Q0 s0):iu Z Φ A env ce Q0 s0 X n (.put x k e):=by
 intro st ad σ s out E hc S h
 obtain⟨t,⟨pos,rfl⟩,hd⟩:=ag (o:=ff st) (f:=λt=>aH (qt t.1) λz=>gk ce x z.1&&(chk k ce z.2&&chk e ce t.2)) hc
 refine cps λGq hGq=>?_
 obtain⟨z,⟨tp,e1⟩,hd⟩:=ag hd
 obtain⟨h1,hd⟩:=and2 hd
 obtain⟨h2,h3⟩:=and2 hd
 obtain⟨y,np,e2,h1⟩:=ee h1
 obtain⟨own,ho,h⟩:=ac h
 obtain⟨kd,hkd,h⟩:=ac h
 obtain⟨r,hr,h⟩:=ac h
 obtain⟨qk,hqk,h⟩:=ac h
 obtain⟨kk,hkk,h⟩:=ac h
 refine hGq ?_
 clear hGq
 obtain⟨hcd,rfl⟩:=aV h
 obtain⟨hrc,hl⟩:=and2 hcd
 obtain⟨D0,hoc⟩:=rB ho
 rw[e1,e2]
 refine wpAny_Assign_Subscript (wm (he ce _ A env _ σ s r E h3 (S.cx F) hr) λu CZ C4=>?_) iS
 obtain⟨k1,r1⟩:=C4
 have S1:=S.keeps k1
 refine pB F S1 h1 D0 hoc λo=>wm (hk ce _ A env _ σ CZ qk E h2 (S1.cx F) hqk) λuk C2 C8=>?_
 obtain⟨k2,rk⟩:=C8
 rw[dR hkk]at rk
 rw[dD_eq hkd]at o
 induction rk.s with
 | str tk =>
  refine cps λGq hGq=>?_
  obtain⟨kvs,e3,q1,hk1,z1,rs1⟩:=o.d
  refine hGq ?_
  clear hGq
  rw[hrc]at r1
  refine wpAny_setItem_pairs (strKind_is Z.prog Z.w kk tk) (e3.keep (kheap k2)) (λh' hd' hs=>?_) (by rw[<-hk1,EN]at z1;exact EK z1 lim_size)
  have hb:Ow env X σ ad (ad x):=.inr (.inr (.inr ⟨x,_,D0,hoc,rfl⟩))
  have key:OwnR Z h' (C2.toks+1) (Pf Q0 s0.heap (Ow env X σ ad) (own.f&&r.f) true) (ad x) (.dict (put kd.1 kd.2 kk r.d).1 (put kd.1 kd.2 kk r.d).2):=by
   have a1:=((rs1.kp k2).off hs.extBut (λhp=>hp.2.2 rfl hb) (Fv _)).mono λa hp=>A7 (g:=r.f) hp
   have a2:=((r1.kp k2).off hs.extBut (λhp=>hp.2.2 rfl hb) (Fv _)).mono λa hp=>Bf (f:=own.f) hp
   obtain⟨p1,p2⟩:=yU (k:=kk) a1 a2
   rw[hk1]at p1 p2
   exact .dict hd' q1 p1 (put_len (decT hl)) p2
  obtain⟨S3,x3⟩:=mutate_ok (tk:=C2.toks+1) (S1.keeps k2) (bP h1).ix (bP h1).uq (bP h1).lc D0 hoc (nr:=⟨.dict (put kd.1 kd.2 kk r.d).1 (put kd.1 kd.2 kk r.d).2,own.f&&r.f,false⟩) rfl (Fv _) hs key
  exact⟨rfl,ad,S3,aW (cf (ktrans k1 k2)) x3⟩
theorem AD{c:SExpr}{a b:List SStmt}(ht:TeOk Z lvl Φ c)(SP:j1 Z Φ A env ce Q0 s0 X c)(ha:fB Z Φ A env ce Q0 s0 X n a)(hb:fB Z Φ A env ce Q0 s0 X n b)(F:Fx Z lvl A env ce Q0 s0):iu Z Φ A env ce Q0 s0 X n (.ife c a b):=by
 intro st ad σ s out E hc S h
 obtain⟨t,⟨pos,rfl⟩,hd⟩:=ag (o:=AY st) (f:=λt=>(chk c ce t.1||yf c ce t.1)&&(bM a ce t.2.1&&bM b ce t.2.2)) hc
 refine cps λGq hGq=>?_
 obtain⟨h1,hd⟩:=and2 hd
 obtain⟨h2,h3⟩:=and2 hd
 obtain⟨r,hr,h⟩:=ac h
 obtain⟨k,hk,h⟩:=ac h
 refine hGq ?_
 clear hGq
 have test:wpAny Z.M A (isTrue t.1 env (eval t.1 env)) (λb s'=>b=k/\Sx Z env ce Q0 s0 X ad σ s'/\Ext env ce X ad σ s ad σ s') E s:=by
  rcases HR.mp h1 with h1 | h1
  .exact wm (ht ce _ A env _ σ s r k E h1 (S.cx F) hr (bI hk)) λb' C2 C8=>⟨C8.1,S.keeps C8.2,cf C8.2⟩
  .exact SP _ ad σ s r k E h1 S hr (bI hk)
 refine wpAny_If (wm test λb' C2 C8=>?_)
 obtain⟨rfl,S2,x2⟩:=C8
 cases b' with
 | true=>exact wm (ha _ ad σ C2 out E h2 S2 h) λfl C5 C9=>C9.of x2
 | false=>exact wm (hb _ ad σ C2 out E h3 S2 h) λfl C5 C9=>C9.of x2
theorem wR{b:List SStmt}(he:EvOk Z lvl Φ e)(hb:fB Z Φ A env ce Q0 s0 X n b)(F:Fx Z lvl A env ce Q0 s0):iu Z Φ A env ce Q0 s0 X n (.fr x e b):=by
 intro st ad σ s out E hc S h
 obtain⟨t,⟨pos,rfl⟩,hd⟩:=ag (o:=AT st) (f:=λt=>gk ce x t.1&&(chk e ce t.2.1&&(!aM t.2.1&&bM b ce t.2.2))) hc
 refine cps λGq hGq=>?_
 obtain⟨h1,hd⟩:=and2 hd
 obtain⟨h2,hd⟩:=and2 hd
 obtain⟨h3,h4⟩:=and2 hd
 obtain⟨y,np,e2,h1⟩:=ee h1
 obtain⟨r,hr,h⟩:=ac h
 obtain⟨ds,hds,h⟩:=ac h
 obtain⟨hrc,h⟩:=ifo_of h
 refine hGq ?_
 clear hGq
 rw[e2]
 exact Af F S h1 (bZ h3) (he ce _ A env _ σ s r E h2 (S.cx F) hr) hrc hds h4 hb h
theorem tv{c:SExpr}{b:List SStmt}(ht:TeOk Z lvl Φ c)(hb:fB Z Φ A env ce Q0 s0 X n b)(F:Fx Z lvl A env ce Q0 s0):iu Z Φ A env ce Q0 s0 X n (.whl c b):=by
 intro st ad σ s out E hc S h
 obtain⟨t,⟨pos,rfl⟩,hd⟩:=ag (o:=uw st) (f:=λt=>chk c ce t.1&&bM b ce t.2) hc
 exact vt ht F S (and2 hd).1 (and2 hd).2 hb h
theorem zT(he:EvOk Z lvl Φ e)(F:Fx Z lvl A env ce Q0 s0):iu Z Φ A env ce Q0 s0 X n (.ret e):=by
 intro st ad σ s out E hc S h
 obtain⟨v,⟨pos,rfl⟩,hd⟩:=ag hc
 obtain⟨r,hr,rfl⟩:=aq h
 exact wpAny_Return_some (wm (he ce v A env _ σ s r E hd (S.cx F) hr) λu CZ C4=>⟨u,rfl,S.k0.keeps C4.1,C4.2.mono λa h=>⟨h.1,h.2.1⟩⟩)
theorem yh:fB Z Φ A env ce Q0 s0 X n []:=by
 intro sts ad σ s out E hc S h
 rw[isEmpty_of hc]
 cases h
 exact wpAny_execs_nil ⟨rfl,ad,S,ext_refl⟩
theorem chkSs_rel{ts:List SStmt}{l:List Stmt}(h:oj t=true)(hc:bM (t::ts) ce l=true):bM ts ce l=true:=by
 have e:bM (t::ts) ce l=bM ts ce l:=if_pos h
 rw[<-e];exact hc
theorem rm{ts:List SStmt}{l:List Stmt}(h:oj t=false)(hc:bM (t::ts) ce l=true):∃st sts,l=st::sts/\oH t ce st=true/\bM ts ce sts=true:=by
 have hn:¬oj t=true:=λq=>by rw[h]at q;cases q
 cases l with
 | nil =>
  have e:bM (t::ts) ce []=false:=if_neg hn
  rw[e]at hc;cases hc
 | cons st sts =>
  have e:bM (t::ts) ce (st::sts)=(oH t ce st&&bM ts ce sts):=if_neg hn
  rw[e]at hc
  exact⟨st,sts,rfl,and2 hc⟩
theorem exs_cons{ts:List SStmt}(F:Fx Z lvl A env ce Q0 s0)(ht:iu Z Φ A env ce Q0 s0 X n t)(hts:fB Z Φ A env ce Q0 s0 X n ts):fB Z Φ A env ce Q0 s0 X n (t::ts):=by
 intro sts ad σ s out E hc S h
 obtain⟨o,ho,h⟩:=ac h
 cases hrel:oj t with
 | true =>
  have hc:=chkSs_rel hrel hc
  have key:∃x,t=.rel x:=by cases t<;>first | exact⟨_,rfl⟩ | cases hrel
  obtain⟨x,rfl⟩:=key
  obtain⟨q,hq,rfl⟩:=aq ho
  refine cps λGq hGq=>?_
  obtain⟨D0,hoc⟩:=rB hq
  obtain⟨d,f,c⟩:=q
  refine hGq ?_
  clear hGq
  cases hoc
  obtain⟨S',x'⟩:=S.rel F.q0 D0
  exact wm (hts sts ad _ s out E hc S' h) λfl C5 C9=>C9.of x'
 | false =>
  obtain⟨st,rest,rfl,hc1,hc2⟩:=rm hrel hc
  .refine wpAny_execs_cons (wm (ht st ad σ s o E hc1 S ho) λfl CZ C4=>?_)
   .cases o with
    | next σ' =>
     obtain⟨rfl,ad',S',x'⟩:=C4
     exact wm (hts rest ad' σ' CZ out E hc2 S' h) λfl C5 C9=>C9.of x'
    | ret r =>
     cases h
     obtain⟨v,rfl,r⟩:=C4
     exact⟨v,rfl,r⟩
end
theorem CX(ek:∀e,EOk Z lvl Φ e)(SP:∀c,j1 Z Φ A env ce Q0 s0 X c)(F:Fx Z lvl A env ce Q0 s0)(ts:List SStmt):fB Z Φ A env ce Q0 s0 X n ts :=
 SStmt.rec_1 (motive_1:=iu Z Φ A env ce Q0 s0 X n) (motive_2:=fB Z Φ A env ce Q0 s0 X n)
  (λzz e=>jR (ek e).ev F) (λzz e=>yz ek F) (λzz es=>xL (λe zz=>ek e) F) (λzz=>yj F) (λzz zz e=>xG (ek e).ev F) (λzz zz zz e=>wl (ek e).ev F) (λzz e=>uj (ek e).ev F) (λzz k e=>sM (ek k).ev (ek e).ev F)
  (λc zz zz ha hb=>AD (ek c).te (SP c) ha hb F) (λzz e zz hb=>wR (ek e).ev hb F) (λc zz hb=>tv (ek c).te hb F) (λe=>zT (ek e).ev F) (λzz zz zz zz zz zz zz hc=>rQ hc) yh (λzz zz=>exs_cons F) ts
end
noncomputable def jw(names:List Str)(scope:Scope)(gl:Bool):CE:=⟨names,λx=>scope.names.lookup x,gl⟩
noncomputable def zM(scope:Scope)(x:Str):Bool:=fg (scope.names.lookup x)
noncomputable def cP(gl:Bool)(d:DefRec)(xs ys:List Str)(ts:List SStmt):Bool :=
 bM ts (jw (xs++ys) d.scope gl) d.body&&!d.scope.isCoroutine&&!d.scope.isGenerator&&yR d.scope.kind&&xs.all (zM d.scope)&&decide xs.Nodup&&d.scope.names.all (λy=>!nV y.2)&&decide (d.params.args.map (·.arg)=xs)
theorem bindL_other{κ:Str->Option NameKind}{n:Str}:∀(binds:List (Str×Value)) (m:Str->Option Value),n∉binds.map (·.1)->bindL κ binds m n=m n:=by
 intro l0
 induction l0 with
 | nil=>exact @λθ θ=>rfl
 | cons p0 r ih =>
  intro m h
  obtain⟨k,v⟩:=p0
  simp only[Fp,EU,not_or]at h
  unfold bindL
  rw[ih _ h.2]
  split
  .exact if_neg h.1
  .rfl
theorem bindC_other{κ:Str->Option NameKind}{n:Str}:∀(binds:List (Str×Value)) (m:Str->Option Value),n∉binds.map (·.1)->bindC κ binds m n=m n:=by
 intro l0
 induction l0 with
 | nil=>exact @λθ θ=>rfl
 | cons p0 r ih =>
  intro m h
  obtain⟨k,v⟩:=p0
  simp only[Fp,EU,not_or]at h
  unfold bindC
  rw[ih _ h.2]
  split
  .rfl
  .exact if_neg h.1
theorem bindL_at{κ:Str->Option NameKind}{n:Str}{v:Value}(Ez:κ n=some .local):∀(binds:List (Str×Value)) (m:Str->Option Value),(binds.map (·.1)).Nodup->(n,v)∈binds->bindL κ binds m n=some v:=by
 intro l0
 induction l0 with
 | nil=>exact @λθ θ h=>uS h
 | cons p0 r ih =>
  intro m hn h
  obtain⟨k,u⟩:=p0
  simp only[Fp,GK]at hn
  unfold bindL
  rcases EU.mp h with e | h
  .cases e
   rw[bindL_other r _ hn.1,if_pos Ez,if_pos rfl]
  .exact ih _ hn.2 h
theorem bindC_at{κ:Str->Option NameKind}{n:Str}{v:Value}(Ez:κ n=some .cell):∀(binds:List (Str×Value)) (m:Str->Option Value),(binds.map (·.1)).Nodup->(n,v)∈binds->bindC κ binds m n=some v:=by
 intro l0
 induction l0 with
 | nil=>exact @λθ θ h=>uS h
 | cons p0 r ih =>
  intro m hn h
  obtain⟨k,u⟩:=p0
  simp only[Fp,GK]at hn
  unfold bindC
  rcases EU.mp h with e | h
  .cases e
   rw[bindC_other r _ hn.1,if_neg (by rw[Ez];decide),if_pos rfl]
  .exact ih _ hn.2 h
theorem cellsFrom_some{y:Str}:∀(l:List (Str×NameKind)) (n:Nat) (acc:List (Str×Addr)),((y,NameKind.cell)∈l\/(acc.lookup y).isSome=true)->((cellsFrom n l acc).lookup y).isSome=true:=by
 intro l0
 induction l0 with
 | nil =>
  intro _ acc h
  rcases h with h | h
  .cases h
  .exact h
 | cons p0 r ih =>
  intro n acc h
  obtain⟨k,kd⟩:=p0
  unfold cellsFrom
  split
  .rename_i hk
   refine ih _ _ ?_
   by_cases e:y=k
   .refine .inr ?_
    rw[FR,e]
    simp
   .rcases h with h | h
    .rcases EU.mp h with e' | h
     .cases e';exact absurd rfl e
     .exact .inl h
    .refine .inr ?_
     rw[FR]
     have:(y==k)=false:=by simpa using e
     rw[this];exact h
  .rename_i hk
   refine ih _ _ ?_
   rcases h with h | h
   .rcases EU.mp h with e' | h
    .cases e';exact absurd rfl hk
    .exact .inl h
   .exact .inr h
section
variable{Z:Cf}{lvl:Nat}{A:Around}{E:Value->Shared->Prop}{s:Shared}{Φ:FTab}
theorem Ctr.up(T:Ctr Z lvl Φ):Ctr Z (lvl+1) Φ:=by
 intro f ds d fr h0 hf h
 refine cps λGq hGq=>?_
 obtain⟨a,h1,h2,h3⟩:=T f ds d fr h0 hf h
 refine hGq ?_
 clear hGq
 exact⟨a,h1,h2,λA E s vs Q hh hd hu=>h3 A E s vs Q hh (GP hd) (by lia)⟩
theorem xx{xs:List Str}{vs:List Value}:∀{i:Nat} {x:Str} {v:Value},xs[i]?= some x->vs[i]?= some v->(x,v)∈xs.zip vs:=by
 induction xs generalizing vs with
 | nil=>intro i x v h;simp at h
 | cons y ys ih =>
  intro i x v h1 h2
  cases vs with
  | nil=>simp at h2
  | cons u us =>
   cases i with
   | zero=>simp at h1 h2;subst h1;subst h2;simp
   | succ i =>
    simp only[GZ]
    exact EO _ (ih (by simpa using h1) (by simpa using h2))
theorem oM{xs:List Str}{vs:List Value}(h:xs.length=vs.length):(xs.zip vs).map (·.1)=xs:=by
 induction xs generalizing vs with
 | nil=>rfl
 | cons y ys ih =>
  cases vs with
  | nil=>simp at h
  | cons u us=>simp only[GZ,Fp];rw[ih (by simpa using h)]
structure FnHead(d:DefRec)(xs:List Str):Prop where
 co:d.scope.isCoroutine=false
 gen:d.scope.isGenerator=false
 kind:d.scope.kind=.function
 ps:∀x∈xs,fg (d.scope.names.lookup x)=true
 nd:xs.Nodup
 free:∀y∈d.scope.names,y.2≠.free
 args:d.params.args.map (·.arg)=xs
structure FnFacts(gl:Bool)(d:DefRec)(xs ys:List Str)(ts:List SStmt):Prop where
 chk:bM ts (jw (xs++ys) d.scope gl) d.body=true
 hd:FnHead d xs
theorem gJ{gl:Bool}{d:DefRec}{xs ys:List Str}{ts:List SStmt}(h:cP gl d xs ys ts=true):FnFacts gl d xs ys ts:=by
 delta cP at h
 simp only[Gj,FX,decide_eq_true_eq,Fs]at h
 refine cps λGq hGq=>?_
 obtain⟨⟨⟨⟨⟨⟨⟨h1,h2⟩,h3⟩,h4⟩,h5⟩,h6⟩,h7⟩,h8⟩:=h
 refine hGq ?_
 clear hGq
 exact⟨h1,h2,h3,isFn_eq h4,λx hx=>h5 x hx,h6,(λy hy e=>by have:=h7 y hy;rw[iH e]at this;cases this),h8⟩
theorem mem_lookup_kind{l:List (Str×NameKind)}{y:Str}{k:NameKind}(h:l.lookup y=some k):(y,k)∈l:=mem_of_lookup h
theorem pP{d:DefRec}{xs ys:List Str}{a:Addr}{cd:Value}{C4:Heap}{tk:Nat}{vs:List Value}{ds:List PV}{Q:Addr->Prop}{gl:Bool}(FF:FnHead d xs)(hh:A.handled=none)(hd:A.depth+(lvl+1)<recursionLimit)(hu:A.units+16*(lvl+1)+64<cLine)
  (hT:Tp Z s.heap) (htk:s.toks≠0) (ht:s.toks<=tk) (hgl:gl=true->∀x d,gp x=some d->∃v,Z.mg x=some v/\R Z s.heap s.toks Q v d) (hQ:∀b,s.heap.get? b=none->Q b) (hr:RS Z s.heap s.toks Q vs ds) (hl:xs.length=vs.length)
  (Fr1:Fr s.heap s.heap.objs.size C4 (bindL (envOfC d.name d.scope s.heap.objs.size a cd).kindOf (xs.zip vs) λzz=>none))
  (Cl1:Cl s.heap.objs.size (cellsFrom (s.heap.objs.size+1) d.scope.names []) C4 (bindC (envOfC d.name d.scope s.heap.objs.size a cd).kindOf (xs.zip vs) λzz=>none)) :
  Fx Z lvl (A.deeper (envOfC d.name d.scope s.heap.objs.size a cd)) (envOfC d.name d.scope s.heap.objs.size a cd) (jw (xs++ys) d.scope gl) Q s /\
  Sx Z (envOfC d.name d.scope s.heap.objs.size a cd) (jw (xs++ys) d.scope gl) Q s (λzz=>False) (λzz=>0) (C6 ys.length ds) {s with heap:=C4,toks:=tk}:=by
 have kOf:∀x,(envOfC d.name d.scope s.heap.objs.size a cd).kindOf x=d.scope.names.lookup x:=λzz=>rfl
 have nolive:∀b,s.heap.objs.size<=b->s.heap.get? b=none:=λb hb=>by
  cases e:s.heap.get? b with
  | none=>rfl
  | some o=>exact absurd (Heap.lt_size e) (Gc.mpr hb)
 have cells:∀y,de (d.scope.names.lookup y)=true->∃c,(cellsFrom (s.heap.objs.size+1) d.scope.names []).lookup y=some c:=by
  intro y hy
  cases hk:d.scope.names.lookup y with
  | none=>rw[hk]at hy;cases hy
  | some k =>
   rw[hk]at hy
   have hm:=mem_lookup_kind hk
   cases k with
   | cell=>exact Option.isSome_iff_exists.mp (cellsFrom_some _ _ _ (.inl hm))
   | free=>exact absurd rfl (FF.free _ hm)
   | _=>cases hy
 have hlen:=hr.length
 have slot:∀(i:Nat) (r:RV),(C6 ys.length ds)[i]?= some (some r)->∃dd,ds[i]?= some dd/\r=parg dd:=by
  intro i r h
  delta C6 at h
  by_cases hi:i<ds.length
  .rw[Fq (by simpa using hi),EZ,F6]at h
   obtain⟨dd,h1,h2⟩:=h
   exact⟨dd,h1,(ET h2).symm⟩
  .rw[Fg (by simpa using hi)]at h
   have:=Fa h
   rw[List.mem_replicate]at this
   cases this.2
 have pc:∀dd,(parg dd).c=true:=λdd=>by delta parg;split<;>rfl
 have ow:∀b,Ow (envOfC d.name d.scope s.heap.objs.size a cd) (λzz=>False) (C6 ys.length ds) (λzz=>0) b->b=s.heap.objs.size\/∃y,(cellsFrom (s.heap.objs.size+1) d.scope.names []).lookup y=some b:=by
  intro b hb
  rcases hb with h | h | h | ⟨i,r,h1,h2,zz⟩
  .exact h.elim
  .exact .inl h
  .exact .inr h
  .obtain⟨dd,zz,rfl⟩:=slot i r h1
   rw[pc]at h2;cases h2
 have owN:∀b,Ow (envOfC d.name d.scope s.heap.objs.size a cd) (λzz=>False) (C6 ys.length ds) (λzz=>0) b->s.heap.get? b=none:=by
  intro b hb
  rcases ow b hb with e | ⟨y,hy⟩
  .rw[e];exact size_none _
  .exact nolive b (FS (Cl1.above y b (mem_of_lookup hy)))
 refine⟨⟨hh,by show A.depth+1+lvl<_;lia,by show A.units+3+16*lvl+64<_;lia,FF.kind,rfl,rfl,λx=>rfl,cells,hQ,?_,?_,hT,htk,hgl⟩,?_⟩
 .intro y z c hy hz
  exact name_of_addr Cl1.apart (mem_of_lookup hy) (mem_of_lookup hz)
 .intro y c hy e
  exact absurd (Cl1.above y c (mem_of_lookup hy)) (by rw[e];exact Gr _)
 .refine⟨?_,(KeepG.refl s).keeps ⟨C4,tk,s.drawn,rfl,Fr1.keep,ht⟩,owN,?_,⟨_,Fr1.ns⟩,λy c hy=>⟨_,Cl1.cell y c hy⟩,?_,?_,?_,λb hb=>hb.elim⟩
  .delta C6 jw;simp;lia
  .intro b hb
   rcases ow b hb with e | ⟨y,hy⟩
   .obtain⟨o,zz,zz,ho,zz⟩:=Fr1.ns
    exact⟨o,by rw[e];exact ho⟩
   .obtain⟨o,ho,zz⟩:=Cl1.cell y b hy
    exact⟨o,ho⟩
  .intro x i r h1 h2 h3
   obtain⟨dd,hdd,rfl⟩:=slot i r h3
   have hi:i<ds.length:=by
    rcases Gp i ds.length with h | h
    .exact h
    .rw[FN h]at hdd;cases hdd
   obtain⟨v,hv,rv⟩:=hr.get hdd
   have hx:xs[i]?= some x:=by
    have:=d7 h1
    simp only[jw]at this
    rw[Fq (by lia)]at this
    exact this
   have hmem:=xx hx hv
   have hnd:((xs.zip vs).map (·.1)).Nodup:=by rw[oM hl];exact FF.nd
   refine⟨v,?_,λzz=>?_,λh=>by rw[pc]at h;cases h⟩
   .have hk:=FF.ps x (Fa hx)
    cases hkk:d.scope.names.lookup x with
    | none=>rw[hkk]at hk;cases hk
    | some k =>
     rw[hkk]at hk
     cases k with
     | «local»=>exact .inl ⟨hkk,_,Fr1.ns,bindL_at hkk _ _ hnd hmem⟩
     | cell =>
      obtain⟨c,hc⟩:=cells x (by rw[hkk];rfl)
      refine .inr ⟨.inl hkk,c,hc,?_⟩
      have:=Cl1.cell x c hc
      rw[bindC_at hkk _ _ hnd hmem]at this
      exact this
     | _=>cases hk
   .have rv1:R Z C4 tk (Pf Q s.heap (Ow (envOfC d.name d.scope s.heap.objs.size a cd) (λzz=>False) (C6 ys.length ds) (λzz=>0)) false true) v dd :=
     rv.frame (λb o hq zz e=>⟨Fr1.keep b o e,hq,(λh=>by cases h),λzz ho=>by rw[owN b ho]at e;cases e⟩) ht
    delta parg
    split
    .rename_i ha;exact rv1.atom ha (ER _)
    .exact rv1
  .intro i j r r' h1 h2 zz zz zz
   obtain⟨dd,zz,rfl⟩:=slot i r h1
   rw[pc]at h2;cases h2
  .intro i r h1 h2
   obtain⟨dd,zz,rfl⟩:=slot i r h1
   rw[pc]at h2;cases h2
theorem call_tk{R:Result->Shared->Prop}{name:Str}{params:Arguments}{body:List Stmt}{scope:Scope}{pm cd doc:Value}{a:Addr}{o:Obj}{args:List Value}{binds:List (Str×Value)}
  (hroom:A.depth<recursionLimit) (ho:s.heap.get? a=some o) (hdata:o.data=.func (docDef name params body scope pm cd doc)) (hlim:s.heap.NoLimit) (hcd:s.heap.CodeRec cd name) (hbind:bindArgs (docDef name params body scope pm cd doc) ⟨args,[]⟩=pure binds)
  (hkind:∀x∈binds,scope.names.lookup x.1=some .local\/(scope.names.lookup x.1=some .cell/\((cellsFrom (s.heap.objs.size+1) scope.names []).lookup x.1).isSome=true))
  (h:∀C4 tk,s.toks<=tk->Fr s.heap s.heap.objs.size C4 (bindL (envOfC name scope s.heap.objs.size a cd).kindOf binds λzz=>none)->Cl s.heap.objs.size (cellsFrom (s.heap.objs.size+1) scope.names []) C4 (bindC (envOfC name scope s.heap.objs.size a cd).kindOf binds λzz=>none) ->
   wpAny Z.M (A.deeper (envOfC name scope s.heap.objs.size a cd)) (execs body (envOfC name scope s.heap.objs.size a cd)) (λf s'=>∃v,f=.ret v/\R (.ok (.ret v)) s')
    (λe s'=>wpAny Z.M (A.deeper (envOfC name scope s.heap.objs.size a cd)) (leaving (envOfC name scope s.heap.objs.size a cd) e) (λzz s''=>R (.error e) s'') (λe' s''=>R (.error e') s'') s') {s with heap:=C4,toks:=tk})
  (hco:scope.isCoroutine=false) (hgen:scope.isGenerator=false) (hk:scope.kind=.function):codeAny Z.M A (.call (.ref a) ⟨args,[]⟩) R s:=by
 refine codeAny_call_function (fd:=docDef name params body scope pm cd doc) hroom ho hdata hco hgen rfl hcd ?_
 rw[hbind]
 refine wpAny_pure (tk_of (wpAny_newFunctionEnv_cells hk hkind λenv he s' x ht=>?_))
 subst he
 obtain⟨C4,tk,rfl,zz⟩:=x.done
 exact⟨hlim.keeps x.toInCall.keep,codeAny_func (wpAny_mono (h C4 tk ht ⟨x.toInCall.ns,x.toInCall.keep,x.toInCall.fresh⟩ ⟨x.cell,x.apart,x.above⟩) (λf s' h=>by obtain⟨v,rfl,h⟩:=h;exact h) λzz zz h=>h)⟩
theorem fn_call{d:DefRec}{xs ys:List Str}{gl:Bool}{vs:List Value}{ds:List PV}{Q:Addr->Prop}{K:Value->Shared->Prop}(hd:d∈recsOf Z.p)(FF:FnHead d xs)
  (hbind:∀pm code doc (vals:List Value),vals.length=xs.length->bindArgs (docDef d.name d.params d.body d.scope pm code doc) ⟨vals,[]⟩=pure (xs.zip vals)) {a:Addr} (ha:Z.mg d.name=some (.ref a))
  (hh:A.handled=none) (hd':A.depth+(lvl+1)<recursionLimit) (hu:A.units+16*(lvl+1)+64<cLine) (hT:Tp Z s.heap) (htk:s.toks≠0) (hgl:gl=true->∀x d,gp x=some d->∃v,Z.mg x=some v/\R Z s.heap s.toks Q v d) (hQ:∀b,s.heap.get? b=none->Q b) (hr:RS Z s.heap s.toks Q vs ds) (hl:xs.length=vs.length)
  (h:∀(env:Env) (CZ:Shared) (E':Value->Shared->Prop),env.code=.ref (Z.ct d)->Fx Z lvl (A.deeper env) env (jw (xs++ys) d.scope gl) Q s->Sx Z env (jw (xs++ys) d.scope gl) Q s (λzz=>False) (λzz=>0) (C6 ys.length ds) CZ->wpAny Z.M (A.deeper env) (execs d.body env) (λf s'=>∃v,f=.ret v/\K v s') E' CZ) :
  wpAny Z.M A (call (.ref a) vs) K E s:=by
 refine cps λGq hGq=>?_
 obtain⟨a',o,pm,doc,h1,ho,hdat,hcd,h6⟩:=hT.fn d hd
 refine hGq ?_
 clear hGq
 cases ha.symm.trans h1
 refine wpAny_call (call_tk (ES (Ff ..) hd') ho hdat hT.nolimit hcd (hbind pm _ doc vs hl.symm) ?_ (λC4 tk ht Fr1 Cl1=>?_) FF.co FF.gen FF.kind)
 .intro x hx
  have hx1:x.1∈xs:=by
   have:=E4 (f:=(·.1)) hx
   rwa [oM hl]at this
  have hk:=FF.ps x.1 hx1
  cases hkk:d.scope.names.lookup x.1 with
  | none=>rw[hkk]at hk;cases hk
  | some k =>
   rw[hkk]at hk
   cases k with
   | «local»=>exact .inl rfl
   | cell=>exact .inr ⟨rfl,cellsFrom_some _ _ _ (.inl (mem_lookup_kind hkk))⟩
   | _=>cases hk
 .obtain⟨Fx1,Sx1⟩:=pP (tk:=tk) FF hh hd' hu hT htk ht hgl hQ hr hl Fr1 Cl1
  exact h _ _ _ rfl Fx1 Sx1
theorem tP{env:Env}{ce:CE}{Q0:Addr->Prop}{s0:Shared}{X:Addr->Prop}(hg:ce.gl=false)(c:SExpr):j1 Z Φ A env ce Q0 s0 X c:=by
 intro e ad σ s r k E hc
 have:yf c ce e=false:=by
  cases c<;>first | rfl | (show(ce.gl&&_)=false;rw[hg];rfl)
 rw[this]at hc;cases hc
theorem Ctr.add{d:DefRec}{xs ys:List Str}{ts:List SStmt}{g:List PV->Option (PV×Bool)}(T:Ctr Z lvl Φ)(D:Wd Z)(hG:∀x q,Φ x []=some q->gp x=some q.1)(hT:∃h,Tp Z h)(hd:d∈recsOf Z.p)(FF:FnFacts false d xs ys ts)
  (hbind:∀pm code doc (vals:List Value),vals.length=xs.length->bindArgs (docDef d.name d.params d.body d.scope pm code doc) ⟨vals,[]⟩=pure (xs.zip vals))
  (hg:∀ds r,g ds=some r->ds.length=xs.length/\∃n q,aexecs Φ n ts (C6 ys.length ds)=some (.ret q)/\q.d=r.1/\(r.2=true->q.f=true)) :
  Ctr Z (lvl+1) (Dr Φ d.name g):=by
 intro f ds dd fr h0 hf h
 delta Dr at h
 split at h
 .rename_i hf
  subst hf
  refine cps λGq hGq=>?_
  obtain⟨hlen,n,q,hex,hqd,hqf⟩:=hg ds _ h
  obtain⟨H0,T0⟩:=hT
  obtain⟨a,zz,zz,zz,ha,zz,zz,zz,zz⟩:=T0.fn d hd
  refine hGq ?_
  clear hGq
  refine⟨a,ha,λh Th=>?_,?_⟩
  .obtain⟨a',o,pm,doc,h1,h2,h3,h4,h5⟩:=Th.fn d hd
   cases ha.symm.trans h1
   exact⟨o,_,h2,h3⟩
  .intro A E s vs Q hh hd' hu hTs htk hQ hr
   refine fn_call (gl:=false) (ys:=ys) hd FF.hd hbind ha hh hd' hu hTs htk (λh=>nomatch h) hQ hr (by rw[<-hlen,hr.length]) λenv CZ E' zz Fx1 Sx1=>?_
   refine wm (CX (eok D T hG) (tP rfl) Fx1 ts d.body _ _ _ _ _ FF.chk Sx1 hex) (λfl s' h'=>?_)
   obtain⟨v,rfl,k,r⟩:=h'
   rw[hqd]at r
   exact⟨v,rfl,k.all,r.mono λb hb=>⟨hb.1,λhfr=>hb.2 (hqf hfr)⟩⟩
 .exact T.up f ds dd fr h0 hf h
end
inductive GStep(c P:Addr)(s s':Shared):Prop
 | mk (h':Heap) (tk:Nat) (dr:Drawn) (gs:Array GenState) (ps more:Array Value) (e:s'={s with heap:=h',toks:=tk,drawn:=dr,gens:=gs}) (ht:s.toks<=tk) (hx:Heap.ExtBut P s.heap h') (hb:AllBare s.gens->AllBare gs)
   (t:s.heap.TableAt c P ps) (t':h'.TableAt c P (ps++more)) (cd:h'.IsCode c P (ps++more)):GStep c P s s'
theorem rF{h:Heap}{c P:Addr}{ps:Array Value}(t:h.TableAt c P ps){o:Obj}(e:h.get? P=some o):Tbl o:=by
 cases e.symm.trans t.2
 exact⟨rfl,_,rfl⟩
section
variable{c P:Addr}{s0 s s' s'':Shared}
theorem GStep.kx(g:GStep c P s s'){b:Addr}{o:Obj}(h:b≠P)(e:s.heap.get? b=some o):s'.heap.get? b=some o:=by
 obtain⟨h',tk,dr,gs,ps,more,rfl,ht,hx,hb,t,t',cd⟩:=g
 exact hx b o h e
theorem GStep.kp(g:GStep c P s s'){b:Addr}{o:Obj}(e:s.heap.get? b=some o)(h:¬Tbl o):s'.heap.get? b=some o:=by
 refine g.kx (λq=>?_) e
 obtain⟨h',tk,dr,gs,ps,more,rfl,ht,hx,hb,t,t',cd⟩:=g
 exact h (rF t (q▸e))
theorem GStep.lv(g:GStep c P s s'){b:Addr}(e:∃o,s.heap.get? b=some o):∃o,s'.heap.get? b=some o:=by
 by_cases q:b=P
 .obtain⟨h',tk,dr,gs,ps,more,rfl,ht,hx,hb,t,t',cd⟩:=g
  exact⟨_,q▸t'.2⟩
 .exact e.imp λo e=>g.kx q e
theorem GStep.tk(g:GStep c P s s'):s.toks<=s'.toks:=by
 obtain⟨h',tk,dr,gs,ps,more,rfl,ht,hx,hb,t,t',cd⟩:=g
 exact ht
theorem GStep.pre(k:Keeps s s')(x:dY s.heap c P)(g:GStep c P s' s''):GStep c P s s'':=by
 obtain⟨h,t0,d,rfl,kk,hk⟩:=k
 obtain⟨h',tk,dr,gs,ps,more,rfl,ht,hx,hb,t,t',cd⟩:=g
 obtain⟨ps0,zz,tt⟩:=x
 have e:ps=ps0:=by
  have:=ET (t.2.symm.trans (kk _ _ tt.2))
  injection this with _ _ h3
  injection h3
 subst e
 exact⟨h',tk,dr,gs,ps,more,rfl,EK hk ht,λb o q e=>hx b o q (kk b o e),hb,tt,t',cd⟩
theorem GStep.moved{wr:List Addr}{n:Nat}(g:GStep c P s s')(m:PySem.Moved wr (GenOnlyQ n) s' s'')(hw:∀b∈wr,s.heap.get? b=none):GStep c P s s'':=by
 induction g with
 | mk h' tk dr gs ps more e ht hx hb t t' cd =>
  subst e
  have nw:∀{b},(∃o,s.heap.get? b=some o)->b∉wr:=λe h=>e.elim λo e=>by rw[hw _ h]at e;cases e
  have kc:∀o,h'.get? c=some o->s''.heap.get? c=some o:=λo e=>m.heap c o (nw (t.1.imp λo q=>q.elim λvs q=>q.1)) e
  have kP:∀o,h'.get? P=some o->s''.heap.get? P=some o:=λo e=>m.heap P o (nw ⟨_,t.2⟩) e
  refine⟨s''.heap,s''.toks,s''.drawn,s''.gens,ps,more,?_,EK ht m.toks,λb o q e=>m.heap b o (nw ⟨o,e⟩) (hx b o q e),λq=>(hb q).moved m.gens,t,tableAt_at t' kc kP,isCode_at cd kc kP⟩
  have:=m.os
  cases s'';cases this;rfl
theorem KeepG.gstep(K:KeepG true s0 s)(T0:dY s0.heap c P)(hl:s0.heap.NoLimit)(g:GStep c P s s'):KeepG true s0 s':=by
 obtain⟨h,t0,d,gs0,rfl,ht0,k,th,hg,gt⟩:=K
 obtain⟨h',tk,dr,gs,ps,more,rfl,ht,hx,hb,t,t',cd⟩:=g
 obtain⟨ps0,zz,tt⟩:=T0
 have hP:P≠cStatics:=λe=>by
  refine cps λGq hGq=>?_
  obtain⟨m,⟨o,es,ep,ho,hd,zz⟩,zz⟩:=hl
  refine hGq ?_
  clear hGq
  rw[<-e,tt.2]at ho;cases ho;cases hd
 refine⟨h',tk,dr,gs,rfl,EK ht0 ht,λb o e nt=>hx b o (λq=>nt rfl (rF tt (q▸e))) (k b o e nt),λb o e=>?_,(λh=>nomatch h),λzz=>⟨λq=>hb ((gt rfl).1 q),(gt rfl).2.1.step_table tt t t' hx hP,λc2 P2 x=>?_⟩⟩
 .by_cases q:b=P
  .exact⟨_,q▸t'.2⟩
  .obtain⟨o',e'⟩:=th b o e
   exact⟨o',hx b o' q e'⟩
 .obtain⟨ps2,i2,t2⟩:=(gt rfl).2.2 c2 P2 x
  have n1:c2≠P:=λq=>by
   obtain⟨⟨o',vs',a',c',r'⟩,_⟩:=t2
   subst q
   cases t.2.symm.trans a'
   cases c'
  by_cases q:P2=P
  .subst q
   refine cps λGq hGq=>?_
   obtain⟨_,_,_,_,_,_,_,_,_,op4,_,_,_,_,_,_,_,b4,p4,tr4,_⟩:=cd
   obtain⟨o,vs,file,tf,flags,tg,inF,text,tx,op,a,r1,r2,r3,r4,r5,r6,b,r⟩:=i2
   exact hGq ⟨ps++more,⟨o,vs,file,tf,flags,tg,inF,text,tx,op4,hx _ _ n1 a,r1,r2,r3,r4,r5,r6,b4,p4,tr4,n1⟩,t2.1.imp λo q=>q.imp λvs q=>⟨hx _ _ n1 q.1,q.2⟩,t'.2⟩
  .exact⟨ps2,i2.extBut hx n1 q,t2.extBut hx n1 q⟩
end
inductive GenV(Z:Cf)(A:Around)(c P:Addr)(s:Shared)(tr:List Bool)(v:Value)(s':Shared):Prop
 | mk (a:Addr) (fp wr:List Addr) (g:Nat) (Pj:Nat->Value->Prop) (St:Nat->Shared->Prop) (e:v=.ref a) (W:WalksS Z.prog Z.w A.in4 a fp wr (GenOnlyQ g) tr.length Pj St) (hst:St 0 s') (hp:∀j y,Pj j y->y=.bool (tr.getD j false)) (hg:GStep c P s s') (hw:∀b∈wr,s.heap.get? b=none):GenV Z A c P s tr v s'
theorem wn(l:List Bool):(Fd l.length).map (λj=>l.getD j false)=l:=by
 refine IY (by simp) λi h1 h2=>?_
 simp[EW h2]
section
variable{Z:Cf}{lvl:Nat}{A:Around}{env:Env}{ce:CE}{Q0:Addr->Prop}{s0 s s':Shared}{X:Addr->Prop}{ad:Nat->Addr}{σ:Sig}{E:Value->Shared->Prop}{Φ:FTab}{c P:Addr}{tr:List Bool}{v:Value}{K:Value->Shared->Prop}
theorem xA (x:GenV Z A c P s tr v s') (h:∀s'',GStep c P s s''->K (.bool (tr.all id)) s''):wpAny Z.M A (call (.builtin "all") [v]) K E s':=by
 obtain⟨a,fp,wr,g,Pj,St,rfl,W,hst,hp,hg,hw⟩:=x
 have W:=W.in4_1
 refine call_all_walkS (W.self 0 _ _ _ hst ⟨a,_,_,_,_,_,_,λj=>tr.getD j false,rfl,W,hst,λi v s Q E hP hQ=>by rw[hp i v hP];exact wpAny_truthy_bool hQ,λs'' hm=>?_⟩)
 show K (.bool ((Fd tr.length).all (id∘λj=>tr.getD j false))) s''
 rw[<-GM,wn]
 exact h _ (hg.moved hm hw)
theorem yW (x:GenV Z A c P s tr v s') (h:∀s'',GStep c P s s''->K (.bool (tr.any id)) s''):wpAny Z.M A (call (.builtin "any") [v]) K E s':=by
 obtain⟨a,fp,wr,g,Pj,St,rfl,W,hst,hp,hg,hw⟩:=x
 have W:=W.in4_1
 refine call_any_walkS (W.self 0 _ _ _ hst ⟨a,_,_,_,_,_,_,λj=>tr.getD j false,rfl,W,hst,λi v s Q E hP hQ=>by rw[hp i v hP];exact wpAny_truthy_bool hQ,λs'' hm=>?_⟩)
 show K (.bool ((Fd tr.length).any (id∘λj=>tr.getD j false))) s''
 rw[<-Ji,wn]
 exact h _ (hg.moved hm hw)
theorem qY{it:Expr}(h:rT it=true)(x:Value):genFold it env x=pure x:=by
 cases it<;>first | rfl | cases h
theorem oV{P0:Pd}{it el:Expr}{x:Str}{px pos:Pos}{scope:Scope}{q:RV}{ds:List PV}(C:Cx Z lvl A env ce P0 σ s)(hcode:env.code=.ref c)(hT:dY s.heap c P)(hg:vD ce scope x=true)(hs:rT it=true)(hroom:A.depth<recursionLimit)
  (hit:wpAny Z.M A (eval it env) (Pst Z P0 s q) E s) (hds:aJ q.d=some ds) (hl:tr.length=ds.length)
  (hel:∀(A':Around) (E':Value->Shared->Prop) (i:Nat) (v:Value) (d:PV) (C2:Shared) (Dg:Str->Option Value) (C:Addr) (cv:Value) (cl:List (Str×Addr)),A'.handled=none->ds[i]?= some d->(∃h N Q,R Z h N Q v d)->C2.heap.Ns C Dg->Dg x=some v->C2.heap.Ns mainGlobals Z.mg->C2.heap.Ns builtinsNs Z.mb ->
   wpAny Z.M A' (eval el (genEnv scope cl C cv builtinsNs env)) (λy C5=>y=.bool (tr.getD i false)/\I3 C2 C5) E' C2) :
  wpAny Z.M A (eval (.GeneratorExp el [⟨.Name x px,it,[],0⟩] scope pos) env) (GenV Z A c P s tr) E s:=by
 refine cps λGq hGq=>?_
 obtain⟨g1,g2⟩:=and2 hg
 obtain⟨g2,g3⟩:=and2 g2
 have O:=cj g1
 obtain⟨ps,hIs,hTb⟩:=hT
 refine hGq ?_
 clear hGq
 refine tk_of (wpAny_GeneratorExp_walksQD C.hh (bZ g3) (eo λy hy e=>C.cells y.1 (by rw[<-C.ki];exact O.free y hy e)) O.nocell (dA g2) (O.tgt x (EP ..)) O.fn hroom (wm hit λxv CZ C4=>?_) (qY hs))
 obtain⟨k1,r1⟩:=C4
 refine fL r1 hds λfp Pi St C2 k2 W hst hfp hfq hI hId hPi hsz hLv=>?_
 have k12:=ktrans k1 k2
 have T1:Tp Z CZ.heap:=C.top.keeps (kheap k1)
 have T2:Tp Z C2.heap:=T1.keeps (kheap k2)
 refine⟨T2.nolimit,?_⟩
 have hIs2:=hIs.keeps (kheap k12)
 have hTb2:=hTb.keeps (kheap k12)
 have fin:∀(cv:Value) (C9:Heap) (Dx:Nat) (more:Array Value),Heap.ExtBut P C2.heap C9->C2.heap.objs.size<=C9.objs.size->C9.IsCode c P (ps++more)->C9.TableAt c P (ps++more) ->
   wpAny Z.M A (builtinsFor env.globals env.builtins) (λbi C7=>∃I fp wr D1 P' D7 pz F,(Value.ref CZ.heap.objs.size)=.ref I/\(∀A':Around,A'.handled=none->Walks Z.prog Z.w A' I fp wr D1 P' D7)/\D7 0 C7.heap/\(∀b∈fp,b<C7.heap.objs.size)/\C7.heap.NoLimit/\cStatics∉wr /\
     (∀href:Heap,(∀b o,C7.heap.get? b=some o->href.get? b=some o) ->
      QuietGenD Z.prog Z.w (genEnv scope (closeOver env scope.names []) C7.heap.objs.size cv bi env) x [] el (Fd C7.heap.objs.size) wr P' pz F href (A.depth+1) (A.units+8)) /\
     (∀a Dl tk gs,gs.bare=true->C7.heap.objs.size<a->Dl.objs.size=a+1->(∀b o,C7.heap.get? b=some o->Dl.get? b=some o) ->
      WalksS Z.prog Z.w A.in4 a (a::C7.heap.objs.size::Fd C7.heap.objs.size) (C7.heap.objs.size::wr) (GenOnlyQ C7.gens.size) (passing pz D1 0).length
       (λj y=>∃i,(passing pz D1 0)[j]?= some i/\F i y) (GenAt Z.prog Z.w A.in4 a C7.gens.size C7.heap.objs.size (Fd C7.heap.objs.size) wr pz D1 F) ->
      GenAt Z.prog Z.w A.in4 a C7.gens.size C7.heap.objs.size (Fd C7.heap.objs.size) wr pz D1 F 0 {C7 with gens:=C7.gens.push gs,toks:=tk,heap:=Dl} ->
      s.toks<=tk->GenV Z A c P s tr (.ref a) {C7 with gens:=C7.gens.push gs,toks:=tk,heap:=Dl})) E {C2 with heap:=C9,toks:=Dx}:=by
  intro cv C9 Dx more hx D2 Ec Ed
  have kp3:∀{b o},C2.heap.get? b=some o->¬Tbl o->C9.get? b=some o:=λ{b o} e nt=>hx b o (λq=>nt (rF hTb2 (q▸e))) e
  have ns3:∀{a m},C2.heap.Ns a m->C9.Ns a m:=λn=>n.at' λo e=>kp3 e (gT n e)
  refine cps λGq hGq=>?_
  obtain⟨bm,ob,b1,b2,b3,b4,b5,b6⟩:=T2.bm
  refine hGq ?_
  clear hGq
  rw[C.gl]
  refine wpAny_builtinsFor (ns3 T2.g) b1 b2 (kp3 b3 λq=>by have:=q.1;rw[b4]at this;cases this) b4 b5 b6 ?_
  have low:∀{a m},CZ.heap.Ns a m->a≠CZ.heap.objs.size:=λn e=>Gr _ (e▸n.lt)
  refine⟨_,fp,_,ds.length,Pi,St,λzz=>true,λi y=>y=.bool (tr.getD i false),rfl,W,(W A C.hh).frame _ _ _ hst (λb hb o e=>kp3 e λq=>(hLv 0 _ hst).2 b hb o e q.1),λb hb=>EX (hfp b hb) D2,T2.nolimit.imp λm q=>⟨ns3 q.1,q.2⟩,?_,λhref hr=>⟨?_,?_⟩,?_⟩
  .intro hm
   obtain⟨m,n,zz⟩:=T1.nolimit
   exact low n (EM.mp hm)
  .intro A' E' i v t Dg h1 h2 h3 h4 h5 h6 h7
   exact wpAny_pure ⟨rfl,_,_,rfl,λθ θ e=>e⟩
  .intro A' E' i v t Dg h1 h2 h3 h4 h5 h6 h7 h8
   obtain⟨d,hd,rd⟩:=hPi i v h4
   have nst:∀{a m},CZ.heap.Ns a m->t.heap.Ns a m:=λ{a m} n=>by
    have n3:C9.Ns a m:=ns3 (n.keeps (kheap k2))
    exact n3.at' λo e=>h8 a (FL.mpr (Heap.lt_size e)) (λhm=>low n (EM.mp hm)) o (hr a o e)
   exact hel A' E' i v d t Dg _ cv _ h1 hd ⟨_,_,_,rd⟩ h6 h7 (nst T1.g) (nst T1.b)
  .intro a Dl tk gs hb ha EA D3 W' hat htk
   obtain⟨hh,tt,dd,rfl,kk,kt⟩:=k12
   have pe:passing (λzz=>true) ds.length 0=Fd ds.length:=HP.mpr λzz θ=>rfl
   rw[pe,Fk,<-hl]at W'
   rw[<-hl]at hat
   refine⟨a,_,_,_,_,_,rfl,W',hat,?_,⟨Dl,tk,dd,s.gens.push gs,ps,more,rfl,htk,λb o q e=>D3 b o (hx b o q (kk b o e)),λz=>z.push hb,hTb,Ed.keeps D3,Ec.keeps D3⟩,?_⟩
   .rintro j y ⟨i,hi,rfl⟩
    have:i=j:=by
     obtain⟨h1,h2⟩:=EY.mp hi
     rw[<-h2,H6]
    rw[this]
   .intro b hb
    rcases EU.mp hb with rfl | hb
    .cases e:s.heap.get? C9.objs.size with
     | none=>rfl
     | some o=>exact absurd (Heap.lt_size (kk _ _ e)) (Gc.mpr D2)
    .rw[EM.mp hb]
     cases e:s.heap.get? CZ.heap.objs.size with
     | none=>rfl
     | some o=>exact absurd (Heap.lt_size (kheap k1 _ _ e)) (Gr _)
 cases hf:codeAmong pos ps.toList with
 | none =>
  refine wpAny_genexprCodeX hcode hIs2 hTb2 hf λc' C9 Dx hx hge hlt h1 zz h2 zz=>fin _ C9 Dx _ hx (EK hge (FS hlt)) h1 h2
 | some c' =>
  refine wpAny_genexprCode_hit hcode hIs2 hf ?_
  have:=fin c' C2.heap C2.toks #[] (λb o zz e=>e) (ER _) (by rw[G4];exact hIs2) (by rw[G4];exact hTb2)
  exact this
end
noncomputable def Be(scope:Scope)(x:Str)(e:Expr):Bool:=tG (λl o r=>o==.Is&&(wd (λf as=>f==("type":Str)&&aH (g8 as) λa=>aH (my a) λy=>y==x) l&&aH (my r) λy=>y==("bool":Str))) e &&
 (cW (scope.names.lookup ("type":Str))&&(cW (scope.names.lookup ("bool":Str))&&(!(x==("__debug__":Str))&&!(x==("__classdict__":Str)))))
noncomputable def sm(d:DefRec):Bool:=aH (g8 d.body) λst=>aH (Bh st) λv=>fu (jw ["row"] d.scope false) "all" (λz=>zY (λel x i sc=>vD (jw ["row"] d.scope false) sc x&&(chk (.var 0) (jw ["row"] d.scope false) i&&(Be sc x el&&rT i))) z) v
theorem uF{lit:Str}{ds:List PV}:∀{k:Bool},vB lit ds=some k->∃tr:List Bool,tr.length=ds.length/\(∀(i:Nat) (d:PV),ds[i]?= some d->ty d (.str lit)=some (tr.getD i false))/\tr.any id=k:=by
 induction ds with
 | nil=>intro k h;cases h;exact⟨[],rfl,λi d h=>(by cases h),rfl⟩
 | cons d ds ih =>
  intro k h
  obtain⟨b,hb,h⟩:=ac h
  obtain⟨k',hk,rfl⟩:=aq h
  obtain⟨tr,h1,h2,rfl⟩:=ih hk
  refine⟨b::tr,congrArg (·+1) h1,λi d' h=>?_,rfl⟩
  cases i with
  | zero=>cases h;exact hb
  | succ i=>exact h2 i d' h
theorem qd{ds:List PV}:∀{bs:List Bool},bC ds=some bs->∀(i:Nat) (d:PV),ds[i]?= some d->∃b,d=.bool b:=by
 induction ds with
 | nil=>intro bs h i d h;cases h
 | cons d ds ih =>
  intro bs h i d' h'
  obtain⟨b,hb,h⟩:=ac h
  obtain⟨k',hk,rfl⟩:=aq h
  cases i with
  | zero=>cases h';exact⟨b,rI hb⟩
  | succ i=>exact ih hk i d' h'
section
variable{Z:Cf}{lvl:Nat}{A:Around}{env:Env}{ce:CE}{Q0:Addr->Prop}{s0 s s':Shared}{X:Addr->Prop}{ad:Nat->Addr}{σ:Sig}{E:Value->Shared->Prop}{Φ:FTab}{c P:Addr}{scope:Scope}{cl:List (Str×Addr)}{C:Addr}{cv:Value}{Dg:Str->Option Value}
theorem uB{lit x:Str}{el:Expr}(h:BE lit x el=true){y:Str}{t:Tok}{b:Bool}(hk:scope.kind=.function)(hx:scope.names.lookup x=some .local)(hn:s.heap.Ns C Dg)(hm:Dg x=some (.str y t))(hb:nA y lit=some b) :
  wpAny Z.M A (eval el (genEnv scope cl C cv builtinsNs env)) (λv C5=>v=.bool b/\I3 s C5) E s:=by
 obtain⟨l,o,r,p,rfl,hq⟩:=io h
 obtain⟨h1,h'⟩:=and2 hq
 obtain⟨h2,h3⟩:=and2 h'
 obtain⟨yy,⟨np,rfl⟩,h4⟩:=ag h2
 obtain⟨h5,h6'⟩:=and2 h4
 obtain⟨h6,h7⟩:=and2 h6'
 obtain⟨k,q,rfl⟩:=bN (ce:=⟨[],λzz=>none,false⟩) h3
 have e1:o=.In:=eq_of_beq h1
 have e5:yy=x:=eq_of_beq h5
 subst e1 e5
 refine wpAny_Compare1 (gN (env:=genEnv scope cl C cv builtinsNs env) hk (.inl ⟨hx,Dg,hn,hm⟩) (bZ h6) (bZ h7) (Constant_str ?_)) rfl
 obtain⟨hl,rfl⟩:=aV hb
 obtain⟨c,rfl⟩:=kg hl
 have e:(#[c]:Array Nat).toList.all (λc=>lit.cps.toList.contains c)=decide (c∈lit.cps.toList):=by simp
 rw[e,<-Iq]
 exact IN ⟨rfl,_,_,rfl,λθ θ e=>e⟩
theorem uQ (D:Wd Z) {x:Str} {el:Expr} (h:Be scope x el=true) {b:Bool} (hk:scope.kind=.function) (hx:scope.names.lookup x=some .local) (hn:s.heap.Ns C Dg) (hm:Dg x=some (.bool b)) (hg:env.globals=mainGlobals) (g:s.heap.Ns mainGlobals Z.mg) (bi:s.heap.Ns builtinsNs Z.mb) (hb:∀x:Str,x≠ "__name__"->Z.mb x=bootBuiltins x) :
  wpAny Z.M A (eval el (genEnv scope cl C cv builtinsNs env)) (λv C5=>v=.bool true/\I3 s C5) E s:=by
 refine cps λGq hGq=>?_
 obtain⟨h0,h'⟩:=and2 h
 obtain⟨t1,h''⟩:=and2 h'
 obtain⟨t2,h3⟩:=and2 h''
 obtain⟨t3,t4⟩:=and2 h3
 refine hGq ?_
 clear hGq
 obtain⟨l,o,r,p,rfl,hq⟩:=io h0
 obtain⟨h1,h8⟩:=and2 hq
 obtain⟨h2,h3⟩:=and2 h8
 obtain⟨f,as,p1,p2,rfl,h9⟩:=oL h2
 obtain⟨h4,h5⟩:=and2 h9
 obtain⟨a,rfl,h10⟩:=ag h5
 obtain⟨yy,⟨np,rfl⟩,h6⟩:=ag h10
 obtain⟨zb,⟨nb,rfl⟩,h7⟩:=ag h3
 have e1:o=.Is:=eq_of_beq h1
 have e6:yy=x:=eq_of_beq h6
 have e4:f= "type":=eq_of_beq h4
 have e7:zb= "bool":=eq_of_beq h7
 subst e1 e6 e4 e7
 have gb:∀{f:Str} {v:Value} {s:Shared} {Q:Value->Shared->Prop} {pos:Pos},s.heap.Ns mainGlobals Z.mg->s.heap.Ns builtinsNs Z.mb->cW (scope.names.lookup f)=true->f∈bltNames->bootBuiltins f=some v->(f==("__debug__":Str))=false->f≠("__name__":Str)->Q v s->wpAny Z.M A (eval (.Name f pos) (genEnv scope cl C cv builtinsNs env)) Q E s :=
  λg bi k1 k2 k3 k4 k5 k6=>Name_function_global hk (jd k1) (loadGlobal_builtin (by show _;rw[show(genEnv scope cl C cv builtinsNs env).globals=mainGlobals from hg];exact g) (D.blt _ k2) bi ((hb _ k5).trans k3) k6) k4
 refine wpAny_Compare1 (Call_Name rfl (gb g bi t1 (cA (by decide +kernel)) tT (by decide +kernel) (by decide +kernel) ?_)) rfl
 rw[aA rfl,aZ]
 refine H5 rfl (evalArgs_plain (spliced_cons (gN (env:=genEnv scope cl C cv builtinsNs env) hk (.inl ⟨hx,Dg,hn,hm⟩) (bZ t3) (bZ t4) (spliced_nil ?_))))
 refine call_type_of (Tx:="bool") rfl (by decide +kernel) (gb g bi t2 (cA (by decide +kernel)) tS (by decide +kernel) (by decide +kernel) (wpAny_is_plain rfl ?_))
 rw[show(Value.type "bool"==Value.type "bool")=true by decide +kernel]
 exact⟨rfl,_,_,rfl,λθ θ e=>e⟩
theorem Sx.gstep(F:Fx Z lvl A env ce Q0 s0)(S:Sx Z env ce Q0 s0 X ad σ s)(hgl:ce.gl=true)(T:dY s0.heap c P)(g:GStep c P s s'):Sx Z env ce Q0 s0 X ad σ s'/\Ext env ce X ad σ s ad σ s':=by
 have k:=S.k0
 rw[hgl]at k
 refine⟨S.step (by rw[hgl];exact k.gstep T F.top0.nolimit g) g.tk λb o h e=>?_,λb o e zz nt=>g.kp e (nt hgl),λb h=>.inl h,λb h=>g.lv h,g.tk,λy u zz zz l=>?_⟩
 .rcases h with h | dd
  .refine g.kx (λq=>?_) e
   obtain⟨o',ho'⟩:=(tabOk_in T).2
   rw[<-q,S.ob b h]at ho';cases ho'
  .exact g.kp e (data_tbl dd)
 .rcases l with⟨k,m2,nn,e⟩ | ⟨k,c',hc',o,ho,r⟩
  .exact .inl ⟨k,m2,nn.at' λo e=>g.kp e (gT nn e),e⟩
  .exact .inr ⟨k,c',hc',o,g.kp ho λq=>(by obtain⟨zz,vs,e⟩:=q;rw[r]at e;cases e),r⟩
theorem Tp.tab{d:DefRec}{h:Heap}(T:Tp Z h)(hd:d∈recsOf Z.p):dY h (Z.ct d) (Z.tb d):=by cases T.fn d hd with | mk a o pm doc h1 h2 h3 h4 h5=>exact h5
theorem uE(D:Wd Z)(ek:∀se,EOk Z lvl Φ se)(F:Fx Z lvl A env ce Q0 s0){dl:DefRec}(hdl:dl∈recsOf Z.p)(hcode:env.code=.ref (Z.ct dl)){lit:Str}{it:SExpr}:j1 Z Φ A env ce Q0 s0 X (.gany lit it):=by
 intro e ad σ s r k E hc S h hr
 refine cps λGq hGq=>?_
 obtain⟨hgl,hc⟩:=and2 hc
 obtain⟨z,q1,q2,rfl,hg,hst,h3⟩:=bF hc
 obtain⟨el,x,i,sc,p,q,rfl,h4⟩:=rM h3
 refine cps λGq hGq=>?_
 obtain⟨h4,h5⟩:=and2 h4
 obtain⟨h5,h6⟩:=and2 h5
 obtain⟨h6,h7⟩:=and2 h6
 obtain⟨y,hy,hA⟩:=ac h
 obtain⟨ds,hds,hB⟩:=ac hA
 refine hGq ?_
 clear hGq
 obtain⟨k',hk',rfl⟩:=aq hB
 cases hr
 obtain⟨tr,ht1,ht2,rfl⟩:=uF hk'
 refine hGq ?_
 clear hGq
 have C:=S.cx F
 have T:=F.top0.tab hdl
 have O:=cj (and2 h4).1
 refine isTrue_plain (cZ D C hg hst (cA (by decide +kernel)) pN (by decide +kernel) (by decide +kernel) (wm (oV C hcode (S.k0.tab T) h4 h7 (ES (Ff ..) F.hd) ((ek it).ev ce i A env _ σ s y E h5 C hy) hds ht1 ?_) λv CZ G=>yW G λC2 g=>wpAny_truthy_bool ⟨rfl,S.gstep F hgl T g⟩)) rfl
 intro A' E' i v d C2 Dg C cv cl h1 h2 hrd hn hm zz zz
 refine cps λGq hGq=>?_
 obtain⟨h,N,Q,rd⟩:=hrd
 obtain⟨y',e,hs⟩:=ac (ht2 i d h2)
 refine hGq ?_
 clear hGq
 rw[dR e]at rd
 induction rd.s with | str t=>exact uB h6 O.fn (O.tgt x (EP ..)) hn hm hs
theorem m5 {c:SExpr} {e:Expr} (h:lZ c ce e=true):∃es,c=.call "_law_bools" es/\jM ce "_law_bools" (λas=>eG es ce as&&(!es.isEmpty)) e=true:=by
 obtain⟨⟨f,es⟩,rfl,h'⟩:=ag h
 obtain⟨h1,h2⟩:=and2 h'
 have e:f= "_law_bools":=eq_of_beq h1
 subst e
 exact⟨es,rfl,h2⟩
theorem gbl_eq{ds:List PV}{r:PV×Bool}(h:AI ds=some r):∃l bs,ds=[.list l]/\bC l=some bs/\r=(.bool true,true):=by
 refine cps λGq hGq=>?_
 obtain⟨d,hd,h⟩:=ac h
 obtain⟨l,hl,h⟩:=ac h
 refine hGq ?_
 clear hGq
 obtain⟨bs,hb,rfl⟩:=aq h
 exact⟨l,bs,by rw[en (p:=λy=>ds=[y]) hd,dL_eq hl],hb,rfl⟩
theorem we (D:Wd Z) (ek:∀se,EOk Z (lvl+1) Φ se) (F:Fx Z (lvl+1) A env ce Q0 s0) {db:DefRec} (hdb:db∈recsOf Z.p) (hnm:db.name= "_law_bools") (FH:FnHead db ["row"]) (hbo:sm db=true)
  (hbind:∀pm code doc (vals:List Value),vals.length=["row"].length->bindArgs (docDef db.name db.params db.body db.scope pm code doc) ⟨vals,[]⟩=pure ((["row"]:List Str).zip vals)) (Ey:∀d ds r,Φ "_law_bools" (d::ds)=some r->AI (d::ds)=some r) {c:SExpr}:j1 Z Φ A env ce Q0 s0 X (.not c):=by
 intro e ad σ s r k E hc S h hr
 refine cps λGq hGq=>?_
 obtain⟨hgl,hc'⟩:=and2 hc
 obtain⟨x,⟨q,rfl⟩,hd⟩:=ag hc'
 obtain⟨h1,h2⟩:=and2 hd
 obtain⟨es,rfl,h2'⟩:=m5 h2
 refine cps λGq hGq=>?_
 obtain⟨as,q1,q2,ex,hg,hst,h3'⟩:=i7 h2'
 obtain⟨h3,h4⟩:=and2 h3'
 obtain⟨y,hy,hA⟩:=ac h
 refine hGq ?_
 clear hGq
 obtain⟨k',hk',rfl⟩:=aq hA
 cases hr
 obtain⟨rs,hrs,hB⟩:=ac hy
 obtain⟨p,hp,rfl⟩:=aq hB
 have C:=S.cx F
 have T0:=F.top0.tab hdb
 refine cps λGq hGq=>?_
 obtain⟨fa,o,pm,doc,hmg,ho,hfd,zz,zz⟩:=C.top.fn db hdb
 refine hGq ?_
 clear hGq
 rw[hnm]at hmg
 refine hGq ?_
 clear hGq
 rw[eq_of_beq h1,ex]
 have hrn:∃l bs,rs.map (·.d)=[.list l]/\bC l=some bs/\p=(.bool true,true):=by
  cases hr:rs.map (·.d)with
  | nil =>
   cases es with
   | nil=>cases h4
   | cons se es =>
    obtain⟨r,rs',zz,zz,rfl⟩:=df hrs
    cases hr
  | cons d ds=>rw[hr]at hp;exact gbl_eq (Ey d ds p hp)
 obtain⟨l,bs,hl,hbs,rfl⟩:=hrn
 cases hk'
 obtain⟨y1,ys,rfl⟩:∃y ys,as=y::ys:=by
  cases es with
  | nil=>cases h4
  | cons se es=>obtain⟨x,xs,e,zz⟩:=cp h3;exact⟨x,xs,e⟩
 refine isTrue_not (isTrue_plain (Call_Name rfl (v4 C hg hmg (by decide +kernel) ?_)) rfl)
 rw[aA hst,aZ]
 refine callWith_function (o:=o) (fd:=docDef db.name db.params db.body db.scope pm (.ref (Z.ct db)) doc) (evalArgs_plain (wm (wP (λse zz=>ek se) ce _ A env _ σ s rs E h3 C hrs) λvs CZ hk=>?_))
 obtain⟨k1,rl⟩:=hk
 have C1:=C.keeps k1
 have rs1:=rl.toRS C.pd.mono
 rw[hl]at rs1
 refine⟨⟨kheap k1 _ _ ho,hfd⟩,?_⟩
 have hvl:=rs1.length
 refine fn_call (gl:=false) (ys:=[]) hdb FH hbind (hnm▸hmg) C.hh C.hd C.hu C1.top C1.tk (λh=>rQ h) (λb hb=>C1.pd.fresh _ _ b hb) rs1 hvl.symm λenv' C2 E' hcode' F' S'=>?_
 refine cps λGq hGq=>?_
 obtain⟨st,eb,hbo1⟩:=ag hbo
 obtain⟨v,⟨pr,rfl⟩,hbo2⟩:=ag hbo1
 obtain⟨z,r1,r2,rfl,bg,bst,b3⟩:=bF hbo2
 obtain⟨el,x',i',sc,pp,qq,rfl,b8⟩:=rM b3
 refine cps λGq hGq=>?_
 obtain⟨b4,b9⟩:=and2 b8
 obtain⟨b5,b10⟩:=and2 b9
 obtain⟨b6,b7⟩:=and2 b10
 refine hGq ?_
 clear hGq
 refine hGq ?_
 clear hGq
 rw[eb]
 have C':=S'.cx F'
 have T':=C'.top.tab hdb
 have O:=cj (and2 b4).1
 have k2:Keeps CZ C2:=S'.k0.all
 refine wpAny_execs_cons (wpAny_Return_some (cZ D C' bg bst (cA (by decide +kernel)) oq (by decide +kernel) (by decide +kernel) (wm (oV (tr:=l.map λzz=>true) C' hcode' T' b4 b7 (ES (Ff ..) F'.hd) ((lT (Φ:=Φ) 0) _ i' _ env' _ _ C2 _ E' b5 C' rfl) rfl (by rw[EN]) ?_) λv C5 G=>xA G λC7 g=>⟨_,rfl,?_⟩)))
 .intro A' E' i v d t Dg C cv cl u1 u2 hrd hn hm hG hB
  refine cps λGq hGq=>?_
  obtain⟨h,N,Q,rd⟩:=hrd
  refine hGq ?_
  clear hGq
  obtain⟨b,rfl⟩:=qd hbs i d u2
  rw[rd.b]at hm
  have e:(l.map λzz=>true).getD i false=true:=by simp[u2]
  rw[e]
  exact uQ D b6 O.fn (O.tgt x' (EP ..)) hn hm F'.gl hG hB C'.top.builtins
 .have e:(l.map λzz=>true).all id=true:=by simp
  rw[e]
  exact wpAny_truthy_bool ⟨rfl,S.gstep F hgl T0 (g.pre (ktrans k1 k2) (S.k0.tab T0))⟩
end
structure ExtW(env:Env)(X:Addr->Prop)(ad:Nat->Addr)(σ:Sig)(s:Shared)(X':Addr->Prop)(ad':Nat->Addr)(σ':Sig)(s':Shared):Prop where
 kp:∀b o,s.heap.get? b=some o->¬Ow env X σ ad b->s'.heap.get? b=some o
 ow:∀b,Ow env X' σ' ad' b->Ow env X σ ad b\/s.heap.get? b=none
 lv:∀b,(∃o,s.heap.get? b=some o)->∃o,s'.heap.get? b=some o
 tk:s.toks<=s'.toks
structure Stb(env:Env)(ce:CE)(X:Addr->Prop)(s s':Shared):Prop where
 x:∀b o,X b->s.heap.get? b=some o->s'.heap.get? b=some o
 ld:∀y u,ce.idx y=none->d9 (ce.kind y)=true->aS env s.heap y u->aS env s'.heap y u
section
variable{Z:Cf}{lvl:Nat}{A:Around}{env:Env}{ce:CE}{Q0:Addr->Prop}{s0 s s' s'':Shared}{X X' X'':Addr->Prop}{ad ad' ad'':Nat->Addr}{σ σ' Df:Sig}{E:Value->Shared->Prop}{Φ:FTab}
theorem yX{o:Obj}(hg:ce.gl=false):ce.gl=true->¬Tbl o:=λh=>by rw[hg]at h;cases h
theorem Ext.toW(hg:ce.gl=false)(x:Ext env ce X ad σ s ad' σ' s'):ExtW env X ad σ s X ad' σ' s':=⟨λb o e h=>x.1 b o e (.inl h) (yX hg),x.ow,x.lv,x.tk⟩
theorem bX(x:ExtW env X ad σ s X' ad' σ' s')(y:ExtW env X' ad' σ' s' X'' ad'' Df s''):ExtW env X ad σ s X'' ad'' Df s'':=by
 refine⟨λb o e hb=>?_,λb hb=>?_,λb hb=>y.lv b (x.lv b hb),EK x.tk y.tk⟩
 .refine y.kp b o (x.kp b o e hb) λho=>?_
  rcases x.ow b ho with h | h
  .exact hb h
  .rw[h]at e;cases e
 .rcases y.ow b hb with h1 | h1
  .exact x.ow b h1
  .refine .inr ?_
   cases q:s.heap.get? b with
   | none=>rfl
   | some o=>obtain⟨o',e'⟩:=x.lv b ⟨o,q⟩;rw[h1]at e';cases e'
theorem extw_keeps(k:Keeps s s'):ExtW env X ad σ s X ad σ s':=⟨λb o e zz=>kheap k b o e,λb h=>.inl h,λb ⟨o,e⟩=>⟨o,kheap k b o e⟩,ktl k⟩
theorem ExtW.R{h0:Heap}{f:Bool}{v:Value}{d:PV}(x:ExtW env X ad σ s X' ad' σ' s')(r:R Z s.heap s.toks (Pf Q0 h0 (Ow env X σ ad) f true) v d):R Z s'.heap s'.toks (Pf Q0 h0 (Ow env X' σ' ad') f true) v d :=
 r.frame (λb o hp zz e=>⟨x.kp b o e (hp.2.2 rfl),hp.1,hp.2.1,λzz ho=>by
  rcases x.ow b ho with h | h
  .exact hp.2.2 rfl h
  .rw[h]at e;cases e⟩) x.tk
theorem extw_iter{I:Addr}{CZ:Shared}{h':Heap}{tk:Nat}(x:ExtW env X ad σ CZ X' ad' σ' s)(ht:s.toks<=tk)(hI:CZ.heap.get? I=none)(hk:∀b o,b≠I->s.heap.get? b=some o->h'.get? b=some o):ExtW env X ad σ CZ X' ad' σ' {s with heap:=h',toks:=tk}:=by
 refine⟨λb o e hb=>hk b o (λq=>?_) (x.kp b o e hb),x.ow,λb ⟨o,e⟩=>?_,EK x.tk ht⟩
 .rw[q,hI]at e;cases e
 .obtain⟨o',e'⟩:=x.lv b ⟨o,e⟩
  exact⟨o',hk b o' (λq=>by rw[q,hI]at e;cases e) e'⟩
theorem Ext.stb(hg:ce.gl=false)(x:Ext env ce X ad σ s ad' σ' s'):Stb env ce X s s':=⟨λb o h e=>x.1 b o e (.inr h) (yX hg),x.ld⟩
theorem bJ(k:Keeps s s'):Stb env ce X s s':=⟨λb o zz e=>kheap k b o e,λy u zz zz l=>l.keeps (kheap k)⟩
inductive ForW(Z:Cf)(env:Env)(ce:CE)(Q0:Addr->Prop)(s0:Shared)(X:Addr->Prop)(ad:Nat->Addr)(σ:Sig)(CZ:Shared)(St:Nat->Heap->Prop)(J:Nat->(Addr->Prop)->Sig->Shared->Prop)(n:Nat):Nat->Shared->Prop
 | mk {j:Nat} {X':Addr->Prop} {σ':Sig} {ad':Nat->Addr} {s':Shared} (hj:j<=n) (S:Sx Z env ce Q0 s0 X' ad' σ' s') (x:ExtW env X ad σ CZ X' ad' σ' s') (hst:St j s'.heap) (hI:¬Ow env X' σ' ad' CZ.heap.objs.size) (ha:J j X' σ' s'):ForW Z env ce Q0 s0 X ad σ CZ St J n (n+1 - j) s'
set_option maxHeartbeats 1000000 in
theorem for_w{J:Nat->(Addr->Prop)->Sig->Shared->Prop}{x:Str}{i:Nat}{px:Pos}{it:Expr}{bd:List Stmt}{pos:Pos}{q:RV}{ds:List PV}{Q:Flow->Shared->Prop}(hg:ce.gl=false)(F:Fx Z lvl A env ce Q0 s0)(S:Sx Z env ce Q0 s0 X ad σ s)(hx:tgt ce x i=true)(hns:aM it=false)
  (hit:wpAny Z.M A (eval it env) (Pst Z (Pf Q0 s0.heap (Ow env X σ ad)) s q) E s) (hq:q.c=true) (hds:aJ q.d=some ds)
  (hJ:∀j X σ s s',J j X σ s->Stb env ce X s s'->J j X σ s') (h0:J 0 X σ s)
  (body:∀(j:Nat) (d:PV) (X':Addr->Prop) (ad':Nat->Addr) (σ':Sig) (s':Shared) (E':Value->Shared->Prop),ds[j]?= some d->ExtW env X ad σ s X' ad' (σ'.set i (some (part q d))) s'->J j X' σ' s'->Sx Z env ce Q0 s0 X' ad' (σ'.set i (some (part q d))) s' ->
   wpAny Z.M A (execs bd env) (λfl CZ=>fl=.next/\∃X'' ad'' Df,Sx Z env ce Q0 s0 X'' ad'' Df CZ/\ExtW env X' ad' (σ'.set i (some (part q d))) s' X'' ad'' Df CZ/\J (j+1) X'' Df CZ) E' s')
  (done:∀X' ad' σ' s',Sx Z env ce Q0 s0 X' ad' σ' s'->ExtW env X ad σ s X' ad' σ' s'->J ds.length X' σ' s'->Q .next s') :
  wpAny Z.M A (exec (.For (.Name x px) it bd [] pos) env) Q E s:=by
 refine cps λGq hGq=>?_
 refine cps λGq hGq=>?_
 obtain⟨hix,hlc,zz,zz,huq⟩:=bP hx
 refine hGq ?_
 clear hGq
 refine hGq ?_
 clear hGq
 refine wpAny_For (wm hit (λv CZ C4=>?_)) (cM hns env)
 obtain⟨k1,r1⟩:=C4
 rw[hq]at r1
 have r1':R Z CZ.heap CZ.toks (λa=>Pf Q0 s0.heap (Ow env X σ ad) q.f true a/\∃o,CZ.heap.get? a=some o) v q.d:=r1.frame (λa o hp zz e=>⟨e,hp,o,e⟩) (ER _)
 refine fL r1' hds λfp Pi St C2 k2 W hst hfp hfq hI hId hPi hsz hLv=>?_
 have S1:=S.keeps k1
 have hI0:s0.heap.get? CZ.heap.objs.size=none:=S1.k0.none (size_none _)
 have hIo:¬Ow env X σ ad CZ.heap.objs.size:=λho=>by
  obtain⟨o,e⟩:=S1.lv _ ho
  rw[size_none]at e;cases e
 refine codeAny_forLoop (ForW Z env ce Q0 s0 X ad σ CZ St J ds.length) ?_ (ds.length+1)
  (.mk (j:=0) (Fi _) (S1.keeps k2) (extw_keeps k2) hst hIo (hJ _ _ _ _ _ h0 (bJ (ktrans k1 k2))))
 intro k s' hFI
 obtain @⟨j,X',σ',ad',s',hj,S',x',hst',hIo',ha⟩:=hFI
 have WW:=W A F.hh
 have fpo:∀{D5:Addr->Prop} {Dv:Sig} {Dw:Nat->Addr} {C5:Shared},ExtW env X ad σ CZ D5 Dw Dv C5->¬Ow env D5 Dv Dw CZ.heap.objs.size->∀b∈fp,¬Ow env D5 Dv Dw b:=by
  intro D5 Dv Dw C5 Eb DY b hb ho
  rcases hfq b hb with e | ⟨hp,o,e⟩
  .exact DY (e▸ho)
  .rcases Eb.ow b ho with q1 | q1
   .exact hp.2.2 rfl q1
   .rw[q1]at e;cases e
 have stI:∀{C4:Heap} {Dc:Nat},(∀b o,b≠CZ.heap.objs.size->s'.heap.get? b=some o->C4.get? b=some o)->Stb env ce X' s' {s' with heap:=C4,toks:=Dc}:=λhk=>⟨λb o hb e=>hk b o (λq=>hIo' (q▸.inl hb)) e,λy u zz zz l=>iK hIo' hk l⟩
 by_cases hlt:j<ds.length
 .refine tk_of (WW.item j _ _ _ hlt hst' λv C4 Dc hPv Dd Dm Db=>?_)
  have De:∀b o,b≠CZ.heap.objs.size->s'.heap.get? b=some o->C4.get? b=some o:=λb o hb e=>Dm b o (λhm=>hb (EM.mp hm)) e
  obtain⟨d,hd,rd⟩:=hPi j v hPv
  have S2:=S'.iterI (tk:=Dc) Db hIo' hI0 (hId j _ hst') De
  have rd1:R Z CZ.heap CZ.toks (Pf Q0 s0.heap (Ow env X σ ad) q.f true) v d:=rd.mono λa h=>h.1
  have rd2:R Z C4 Dc (Pf Q0 s0.heap (Ow env X' σ' ad') q.f true) v d:=(x'.R rd1).frame (λa o hp dd e=>⟨De a o (λe'=>hId j _ hst' o (e'▸e) dd) e,hp⟩) Db
  have rd3:R Z C4 Dc (Pf Q0 s0.heap (Ow env X' σ' ad') (part q d).f true) v (part q d).d:=by
   have:=cn (P:=Pf Q0 s0.heap (Ow env X' σ' ad')) (r:=q) (by rw[hq];exact rd2)
   rw[cV hq]at this
   exact this
  refine wpAny_assign_Name (store_ok F S2 (krefl _) hix huq hlc (λzz zz=>rfl) (λzz=>rd3) (λh=>by rw[cV hq]at h;cases h) λC7 S4 x4=>?_)
  have x4':ExtW env X ad σ CZ X' ad' (σ'.set i (some (part q d))) C7:=bX (extw_iter x' Db (size_none _) De) (x4.toW hg)
  have hI4:¬Ow env X' (σ'.set i (some (part q d))) ad' CZ.heap.objs.size:=λho=>hIo' (jP (cV hq) ho)
  obtain⟨oI1,hoI1⟩:=(hLv (j+1) C4 Dd).1
  have hoI4:C7.heap.get? CZ.heap.objs.size=some oI1:=x4.1 _ _ hoI1 (.inl hIo') (yX hg)
  have hst4:St (j+1) C7.heap:=WW.frame _ _ _ Dd λb hb o e=>x4.1 b o e (.inl (fpo x' hIo' b hb)) (yX hg)
  refine wm (body j d X' ad' σ' C7 _ hd (bX (extw_keeps k1) x4') (hJ _ _ _ _ _ (hJ _ _ _ _ _ ha (stI De)) (x4.stb hg)) S4) (λfl Dn Dl=>?_)
  obtain⟨rfl,X5,ad5,DZ,S5,x5,ha5⟩:=Dl
  refine⟨_,lt_step hlt,.mk hlt S5 (bX x4' x5) (WW.frame _ _ _ hst4 λb hb o e=>x5.1 b o e (fpo x4' hI4 b hb)) (λho=>?_) ha5⟩
  .rcases x5.ow _ ho with q1 | q1
   .exact hI4 q1
   .rw[q1]at hoI4;cases hoI4
 .have hjn:j=ds.length:=by exact Gb hj (Gc.mp hlt)
  subst hjn
  refine tk_of (WW.done _ _ _ hst' λC4 Dc Dm Db=>?_)
  have De:∀b o,b≠CZ.heap.objs.size->s'.heap.get? b=some o->C4.get? b=some o:=λb o hb e=>Dm b o (λhm=>hb (EM.mp hm)) e
  exact wpAny_execs_nil (done X' ad' σ' _ (S'.iterI Db hIo' hI0 (hId _ _ hst') De) (bX (extw_keeps k1) (extw_iter x' Db (size_none _) De)) (hJ _ _ _ _ _ ha (stI De)))
theorem sR{x:Str}{v:Value}{Q:Unit->Shared->Prop}(F:Fx Z lvl A env ce Q0 s0)(S:Sx Z env ce Q0 s0 X ad σ s)(hix:ce.idx x=none)(hx:fg (ce.kind x)=true)
  (h:∀s',Sx Z env ce Q0 s0 X ad σ s'->ExtW env X ad σ s X ad σ s'->(∀b o,X b->s.heap.get? b=some o->s'.heap.get? b=some o)->aS env s'.heap x v->Q () s'):wpAny Z.M A (storeName env x v) Q E s:=by
 refine jQ F S hx λh' tk b ht hb hs hns hcl hl hls=>?_
 have hbo:Ow env X σ ad b:=hb.elim (λe=>.inr (.inl e)) λe=>.inr (.inr (.inl e))
 have hbX:¬X b:=λq=>by
  obtain⟨q1,q2⟩:=S.xn b q
  rcases hb with e | ⟨y,hy⟩
  .exact q1 e
  .exact q2 y hy
 have live:∀a,(∃o,s.heap.get? a=some o)->∃o,h'.get? a=some o:=λa ⟨o,e⟩=>by
  by_cases hab:a=b
  .subst hab
   rcases hb with e1 | ⟨y,hy⟩
   .obtain⟨m,o,zz,zz,ho,zz⟩:=hns;exact⟨o,e1▸ho⟩
   .obtain⟨v,o,ho,zz⟩:=hcl y a hy;exact⟨o,ho⟩
  .exact⟨o,hs.extBut a o hab e⟩
 have up:∀f a o,Pf Q0 s0.heap (Ow env X σ ad) f true a->s.heap.get? a=some o->h'.get? a=some o/\Pf Q0 s0.heap (Ow env X σ ad) f true a:=λf a o hp e=>⟨hs.extBut a o (λq=>hp.2.2 rfl (q▸hbo)) e,hp⟩
 refine h _ ⟨S.len,S.k0.step ht λa o ⟨o',e⟩ e'=>hs.extBut a o (λq=>by rw[q,S.ob b hbo]at e;cases e) e',S.ob,λa ha=>live a (S.lv a ha),hns,hcl,?_,S.adj,S.adn,S.xn⟩ ⟨λa o e ha=>hs.extBut a o (λq=>ha (q▸hbo)) e,λa ha=>.inl ha,live,ht⟩ (λa o ha e=>hs.extBut a o (λq=>hbX (q▸ha)) e) hl
 intro y j q e1 e2 e4
 refine cps λGq hGq=>?_
 refine cps λGq hGq=>?_
 obtain⟨u,l,c1,c2⟩:=S.rd y j q e1 e2 e4
 refine hGq ?_
 clear hGq
 refine hGq ?_
 clear hGq
 have hyx:y≠x:=λe=>by rw[e,hix]at e1;cases e1
 refine⟨u,hls y u hyx l,λhc=>(c1 hc).frame (λa o hp zz e=>up _ a o hp e) ht,λhc=>?_⟩
 obtain⟨e5,o5⟩:=c2 hc
 refine⟨e5,o5.frame (λa o hp zz e=>up _ a o hp e) ht λo e=>hs.extBut _ o (λqq=>?_) e⟩
 obtain⟨n1,n2,n3⟩:=S.adn j q e4 hc
 rcases hb with e | ⟨y,hy⟩
 .exact n1 (qq.trans e)
 .exact n2 y (by rw[hy,qq])
theorem Sx.mutX{C:Addr}{h':Heap}{tk:Nat}(S:Sx Z env ce Q0 s0 X ad σ s)(ht:s.toks<=tk)(hC:X C)(hs:Heap.SameBut C s.heap h')(hl:∃o,h'.get? C=some o) :
  Sx Z env ce Q0 s0 X ad σ {s with heap:=h',toks:=tk}/\ExtW env X ad σ s X ad σ {s with heap:=h',toks:=tk}/\∀y u,aS env s.heap y u->aS env h' y u:=by
 have hb:Ow env X σ ad C:=.inl hC
 obtain⟨x1,x2⟩:=S.xn C hC
 have up:∀f a o,Pf Q0 s0.heap (Ow env X σ ad) f true a->s.heap.get? a=some o->h'.get? a=some o/\Pf Q0 s0.heap (Ow env X σ ad) f true a:=λf a o hp e=>⟨hs.extBut a o (λq=>hp.2.2 rfl (q▸hb)) e,hp⟩
 have live:∀a,(∃o,s.heap.get? a=some o)->∃o,h'.get? a=some o:=λa ⟨o,e⟩=>by
  by_cases hab:a=C
  .subst hab;exact hl
  .exact⟨o,hs.extBut a o hab e⟩
 have ldk:∀y u,aS env s.heap y u->aS env h' y u:=by
  intro y u l
  rcases l with⟨k,m2,nn,e⟩ | ⟨k,c',hc',o,ho,r⟩
  .exact .inl ⟨k,m2,nn.sameBut hs (λe=>x1 e.symm),e⟩
  .exact .inr ⟨k,c',hc',o,hs.extBut c' o (λe=>x2 y (e▸hc')) ho,r⟩
 refine⟨⟨S.len,S.k0.step ht λa o ⟨o',e⟩ e'=>hs.extBut a o (λq=>by rw[q,S.ob _ hb]at e;cases e) e',S.ob,λb hb=>live b (S.lv b hb),?_,?_,?_,S.adj,S.adn,S.xn⟩,⟨λa o e ha=>hs.extBut a o (λq=>ha (q▸hb)) e,λa ha=>.inl ha,live,ht⟩,ldk⟩
 .obtain⟨m,hm⟩:=S.ns
  exact⟨m,hm.sameBut hs (λe=>x1 e.symm)⟩
 .intro y c hcc
  refine cps λGq hGq=>?_
  obtain⟨v,o,ho,r⟩:=S.cl y c hcc
  refine hGq ?_
  clear hGq
  exact⟨v,o,hs.extBut c o (λe=>x2 y (e▸hcc)) ho,r⟩
 .intro y j q e1 e2 e3
  refine cps λGq hGq=>?_
  refine cps λGq hGq=>?_
  obtain⟨u,l,c1,c2⟩:=S.rd y j q e1 e2 e3
  refine hGq ?_
  clear hGq
  refine hGq ?_
  clear hGq
  exact⟨u,ldk y u l,λh=>(c1 h).frame (λa o hp zz e=>up _ a o hp e) ht,λh=>⟨(c2 h).1,(c2 h).2.frame (λa o hp zz e=>up _ a o hp e) ht λo e=>hs.extBut _ o (λqq=>(S.adn j q e3 h).2.2 (qq▸hC)) e⟩⟩
end
noncomputable def kQ(t:Tab)(h:Str)(i j:Nat):Tab:=λx a b=>if x=h/\a=i/\b=j then true else t x a b
noncomputable def BL(ks:List Str)(n:Nat)(t:Tab):Nat:=(ks.flatMap λh=>(Fd (n+1)).flatMap λi=>(Fd (n+1)).map λj=>(h,i,j)).countP λc=>!t c.1 c.2.1 c.2.2
theorem tB{α:Type}{p q:α->Bool}{l:List α}(h:∀x,q x=true->p x=true){x:α}(hp:p x=true)(hq:q x=false)(hx:x∈l):l.countP q<l.countP p:=by
 induction l with
 | nil=>cases hx
 | cons y l ih =>
  have hle:l.countP q<=l.countP p:=List.countP_mono_left λx θ=>h x
  rw[I0,I0]
  rcases EU.mp hx with rfl | hx
  .rw[hp,hq];exact F2 hle
  .refine Nat.add_lt_add_of_lt_of_le (ih hx) ?_
   cases e:q y with
   | false=>exact Fi _
   | true=>rw[h y e];exact ER _
theorem xO{ks:List Str}{n:Nat}{t:Tab}{h:Str}{i j:Nat}(hh:h∈ks)(hi:i<=n)(hj:j<=n)(ht:t h i j=false):BL ks n (kQ t h i j)<BL ks n t:=by
 refine tB (x:=(h,i,j)) (λc hc=>?_) (by rw[ht];rfl) (by show(!kQ t h i j h i j)=false;rw[kQ,if_pos ⟨rfl,rfl,rfl⟩];rfl)
  (F0.mpr ⟨h,hh,F0.mpr ⟨i,FL.mpr (F2 hi),E9.mpr ⟨j,FL.mpr (F2 hj),rfl⟩⟩⟩)
 rw[kQ]at hc
 split at hc
 .cases hc
 .exact hc
structure PI(g:List Rule)(ks tokens:List Str)(t0 t:Tab)(ch:Bool)(N:Prop):Prop where
 snd:∀G,dh g ks tokens G->∀h∈ks,∀i j,i<=tokens.length->j<=tokens.length->t h i j=true->G h i j
 eq:ch=false->t=t0/\N
 lt:ch=true->BL ks tokens.length t<BL ks tokens.length t0
section
variable{g:List Rule}{ks tokens:List Str}{t0 t:Tab}{ch:Bool}{N N':Prop}
theorem PI.more(P:PI g ks tokens t0 t ch N)(h:t=t0->N->N'):PI g ks tokens t0 t ch N':=⟨P.snd,λe=>⟨(P.eq e).1,h (P.eq e).1 (P.eq e).2⟩,P.lt⟩
theorem PI.set(P:PI g ks tokens t0 t ch N){h:Str}{i j:Nat}(hh:h∈ks)(hi:i<=tokens.length)(hj:j<=tokens.length)(ht:t h i j=false)(hG:∀G,dh g ks tokens G->G h i j):PI g ks tokens t0 (kQ t h i j) true N':=by
 refine⟨λG hc h' hk a b ha hb e=>?_,λe=>(rQ e.symm),λθ=>?_⟩
 .rw[kQ]at e
  split at e
  .rename_i q;rw[q.1,q.2.1,q.2.2];exact hG G hc
  .exact P.snd G hc h' hk a b ha hb e
 .have:=xO hh hi hj ht
  cases ch with
  | false=>rw[<-(P.eq rfl).1];exact this
  | true=>exact FZ this (P.lt rfl)
end
section
variable{Z:Cf}{lvl:Nat}{A:Around}{env:Env}{ce:CE}{P:Pd}{Q0:Addr->Prop}{s0 s s' s'':Shared}{X X':Addr->Prop}{ad ad':Nat->Addr}{σ σ':Sig}{E:Value->Shared->Prop}{Φ:FTab}
theorem nu{x y:Str}{l:List Str}{n:Nat}:lastIdx x (l++[y]) n=if y=x then some (n+l.length)else lastIdx x l n:=by
 rw[du]
 show(match (if y=x then some (n+l.length)else none)with | some i=>some i | none=>lastIdx x l n)=_
 by_cases e:y=x
 .rw[if_pos e,if_pos e]
 .rw[if_neg e,if_neg e]
theorem Sx.cx1{y:Str}{r:RV}{v:Value}(F:Fx Z lvl A env ce Q0 s0)(S:Sx Z env ce Q0 s0 X ad σ s)(l:aS env s.heap y v)(hr:R Z s.heap s.toks (Pf Q0 s0.heap (Ow env X σ ad) r.f r.c) v r.d) :
  Cx Z lvl A env ⟨ce.names++[y],ce.kind,ce.gl⟩ (Pf Q0 s0.heap (Ow env X σ ad)) (σ++[some r]) s:=by
 have C:=S.cx F
 refine⟨C.hh,C.hd,C.hu,C.fn,C.gl,C.bl,C.ki,by rw[EQ,C.len,EQ];rfl,C.cells,C.pd,C.top,C.tk,C.glb,λx i q h1 h2 h3=>?_⟩
 rw[show(⟨ce.names++[y],ce.kind,ce.gl⟩:CE).idx x=lastIdx x (ce.names++[y]) 0 from rfl,nu]at h1
 by_cases e:y=x
 .rw[if_pos e,Hc]at h1
  cases h1
  rw[<-C.len,Fg (ER _),G0]at h3
  cases h3
  exact⟨v,e▸l,hr⟩
 .rw[if_neg e]at h1
  have hi:i<σ.length:=by
   rw[C.len]
   exact(EY.mp (d7 h1)).1
  rw[Fq hi]at h3
  exact C.rd x i q h1 h2 h3
theorem Cx.atoms{P':Pd}(C:Cx Z lvl A env ce P σ s)(hg:ce.gl=false)(hl:σ'.length=σ.length)(hP:P'.Ok s.heap)(h:∀(i:Nat) (r:RV),σ'[i]?= some (some r)->σ[i]?= some (some r)/\r.d.atom=true):Cx Z lvl A env ce P' σ' s :=
 ⟨C.hh,C.hd,C.hu,C.fn,C.gl,C.bl,C.ki,hl.trans C.len,C.cells,hP,C.top,C.tk,λq=>(by rw[hg]at q;cases q),λx i r h1 h2 h3=>by
  refine cps λGq hGq=>?_
  obtain⟨q1,q2⟩:=h i r h3
  obtain⟨v,l,rv⟩:=C.rd x i r h1 h2 q1
  refine hGq ?_
  clear hGq
  exact⟨v,l,rv.atom q2 (ER _)⟩⟩
def Nw(h:Heap):Pd:=λf θ a=>f=true->h.get? a=none
theorem Nw.ok(h:Heap):(Nw h).Ok h:=⟨λf c f' c' a h1 h2 h3 q=>h3 (h1 q),λf c a e θ=>e⟩
def Aa(P:Pd)(m:Nat)(D C:Addr)(h:Heap)(N:Nat)(qs:List RV):Prop :=
 ∃(n:Nat) (bs:List Addr),h.get? D=some (bY (bs.map Value.ref) n)/\bs.length=qs.length/\bs.Nodup/\∀b∈bs,(∃c,h.get? b=some (bY (Fw m (.bool false)) c))/\PX P D C true true b
theorem xH(m:Nat)(D C:Addr):rH (PX P D C) D (Aa P m D C):=λh h' N N' qs ha hN hD hP=>by
 refine cps λGq hGq=>?_
 obtain⟨n,bs,h1,h2,h3,h4⟩:=ha
 refine hGq ?_
 clear hGq
 exact⟨n,bs,hD _ h1,h2,h3,λb hb=>⟨(h4 b hb).1.imp λc e=>hP true true b _ (h4 b hb).2 eJ e,(h4 b hb).2⟩⟩
theorem RS.falses{h:Heap}{N m:Nat}{Q:Addr->Prop}:∀{vs:List Value},RS Z h N Q vs (Fw m (.bool false))->vs=Fw m (.bool false):=by
 induction m with
 | zero=>intro vs x;cases x;rfl
 | succ m ih=>intro vs x;cases x with | cons a r=>rw[a.b,ih r];rfl
structure MatAt(s:Shared)(w k:Nat)(v:Value)(s':Shared):Prop where
 kp:Keeps s s'
 m:∃(a:Addr) (c:Nat) (bs:List Addr),v=.ref a/\s'.heap.get? a=some (bY (bs.map Value.ref) c)/\s.heap.get? a=none/\bs.length=k/\bs.Nodup/\∀b∈bs,(∃c,s'.heap.get? b=some (bY (Fw w (.bool false)) c))/\s.heap.get? b=none
set_option maxHeartbeats 1000000 in
theorem yd{el iter:Expr}{x:Str}{px pos:Pos}{scope:Scope}{q:RV}{ds:List PV}{m:Nat}(C0:Cx Z lvl A env ce (Nw s.heap) σ s)(K:CompOk ce scope [x])(hns:aM iter=false)(D0:∀(i:Nat) (r:RV),σ[i]?= some (some r)->r.d.atom=true)(hg:ce.gl=false)(hq:q.c=true)
  (hit:wpAny Z.M A (eval iter env) (Pst Z (Nw s.heap) s q) E s) (hds:aJ q.d=some ds) (hat:∀d∈ds,d.atom=true) (hl:ds.length<=az)
  (hel:∀C P' d C5 E',Cx Z lvl A (compEnvC scope (closeOver env scope.names []) C env) (ce.inner scope [x]) P' (σ++[some (part q d)]) C5->wpAny Z.M A (eval el (compEnvC scope (closeOver env scope.names []) C env)) (Pst Z P' C5 ⟨.list (Fw m (.bool false)),true,true⟩) E' C5) :
  wpAny Z.M A (eval (.ListComp el [⟨.Name x px,iter,[],0⟩] scope pos) env) (MatAt s m ds.length) E s:=by
 have key:∀ds:List PV,aU (λzz=>some [(⟨.list (Fw m (.bool false)),true,true⟩:RV)]) ds=some (ds.map λzz=>⟨.list (Fw m (.bool false)),true,true⟩):=λds=>by
  induction ds with
  | nil=>rfl
  | cons d ds ih=>exact bind_to rfl (bind_to ih rfl)
 have run:dX Z A env (Nw s.heap) s E (.ListComp el [⟨.Name x px,iter,[],0⟩] scope pos) iter scope (newList []) (Aa (Nw s.heap) m) (ds.map λzz=>⟨.list (Fw m (.bool false)),true,true⟩):=by
  refine kC gf cz C0 K hns hit hds λCZ C2 I D C fp Pi St C4 tk Da k1 htk L hR=>?_
  have F:=L.F
  obtain⟨mm,hn⟩:=F.hns
  refine eZ (P:=PX (Nw s.heap) D C) (Acc:=Aa (Nw s.heap) m D C) (Im:=λzz=>True) (key ds) (cz.q ..).1 (cz.q ..).2 (cz.one ..) (cz.un ..) ⟨lookup_relabel_local (K.tgt x (EM.mpr rfl)),by simp[compEnvC,relabel,K.fn],F.hDC,F.hDf,F.hCf,L.hId,λf c h=>h.2.1 rfl,λf c h=>h.2.2 rfl⟩ L.W (xH m D C) L.hst ⟨_,[],F.hacc,rfl,.nil,λb hb=>uS hb⟩ hn trivial (λzz zz zz=>trivial) ?_ λh' tk dr m' hn zz hacc hk ht=>hR h' tk dr m' hn hacc hk ht
  intro i v d r C5 Dg qs E' hv hd hr hn hm zz hk htk3 hacc hpre
  cases hr
  have tk3:CZ.toks<=C5.toks:=EK htk htk3
  obtain⟨d',hd',rv⟩:=L.hPi i v hv
  cases hd'.symm.trans hd
  refine cps λGq hGq=>?_
  obtain⟨nD,bs,a1,a2,a3,a4⟩:=hacc
  refine hGq ?_
  clear hGq
  have okP:=F.ok (F.up hk) ⟨_,a1⟩ hn
  have hda:=hat d (Fa hd)
  have pe:part q d=⟨d,true,true⟩:=if_pos hda
  have X3:Cx Z lvl A (compEnvC scope (closeOver env scope.names []) C env) (ce.inner scope [x]) (λf c a=>PX (Nw s.heap) D C f c a/\(f=true->C5.heap.get? a=none)) (σ++[some (part q d)]) C5:=by
   refine((C0.keeps k1).atoms (P':=Nw CZ.heap) hg rfl (Nw.ok _) λi r h=>⟨h,D0 i r h⟩).innerN (rs:=[some (part q d)]) K rfl (F.up hk) tk3 hn ⟨λf c f' c' a h1 h2 h3=>⟨okP.mono f c f' c' a h1 h2 h3.1,λq=>h3.2 (h1 q)⟩,λf c a e=>⟨okP.fresh f c a e,λzz=>e⟩⟩ (λf c a o h e=>?_) λj x' r' hj hr'=>?_
   .cases f with
    | true=>rw[h rfl]at e;cases e
    | false=>exact⟨F.pp false c a o (λq=>rQ q) e,λq=>rQ q⟩
   .cases j with
    | zero =>
     cases hj
     cases hr'
     refine⟨v,hm,?_⟩
     rw[pe]
     exact rv.atom hda tk3
    | succ j=>cases hr'
  refine iP ⟨krefl _,?_⟩
  show wpAny _ A (g5 _ el (zJ (.ref D)) _) _ _ _
  refine wpAny_bind (wpAny_bind (wm (hel C _ d C5 E' X3) λu Ej DH=>?_))
  obtain⟨k8,r8⟩:=DH
  induction r8.l with
  | @list b vs nn p e z rs =>
   rw[rs.falses]at e
   have hsz:bs.length<=sizeLine:=by
    obtain⟨ts,e⟩:=hpre
    have:=congrArg G7 e
    rw[EN,EQ,EQ]at this
    rw[a2]
    exact EK (by lia) (EK hl lim_size)
   refine wpAny_bind (wpAny_list_append_plain (l:=D) (items:=(bs.map Value.ref).toArray) (hsz:=by simpa using hsz) ⟨nD,kheap k8 _ _ a1⟩ λEk DX Do=>wpAny_pure (wpAny_pure ⟨rfl,?_⟩))
   obtain⟨n9,e9⟩:=DX
   obtain⟨H8,t8,d8,rfl,kk8,ht8⟩:=k8
   have ne:b≠D:=p.1.2.1
   have nb:b∉bs:=λhm=>by
    obtain⟨c,q⟩:=(a4 b hm).1
    rw[p.2 rfl]at q;cases q
   refine .mk (dr:=d8) ⟨n9,bs++[b],by rw[e9];simp[bY],by rw[EQ,EQ,a2];rfl,List.nodup_append.mpr ⟨a3,by simp,λy hy z hz q=>nb (by rw[EM]at hz;rw[<-hz,<-q];exact hy)⟩,λy hy=>?_⟩ ((hn.keeps kk8).sameBut Do (Ne.symm F.hDC)) trivial (λy o h1 h2 e=>Do.extBut y o h1 (kk8 y o e)) ht8
   rcases E0.mp hy with hy | hy
   .obtain⟨⟨c,q⟩,w⟩:=a4 y hy
    exact⟨⟨c,Do.extBut y _ w.2.1 (kk8 _ _ q)⟩,w⟩
   .rw[EM.mp hy]
    exact⟨⟨nn,Do.extBut b _ ne e⟩,p.1⟩
 refine run none _ _ λD C s' h=>?_
 refine cps λGq hGq=>?_
 obtain⟨mm,hn⟩:=h.ns
 obtain⟨nD,bs,a1,a2,a3,a4⟩:=h.acc
 refine hGq ?_
 clear hGq
 refine⟨mm,hn,λh'' hs=>⟨?_,D,nD,bs,rfl,hs.extBut D _ h.hDC a1,h.nD,by rw[a2,EN],a3,λb hb=>?_⟩⟩
 .obtain⟨H,t,dr,rfl,kk,ht⟩:=h.k
  exact⟨h'',t,dr,rfl,λb o e=>hs.extBut b o (ne_of_get h.nC e) (kk b o e),ht⟩
 .obtain⟨⟨c,q⟩,w⟩:=a4 b hb
  exact⟨⟨c,hs.extBut b _ w.2.2 q⟩,w.1 rfl⟩
end
structure Tr(Z:Cf)(env:Env)(ks:List Str)(n:Nat)(t:Tab)(D:Addr)(a:Str->Addr)(b:Str->Nat->Addr)(X:Addr->Prop)(s:Shared):Prop where
 ld:aS env s.heap "tables" (.ref D)
 dD:s.heap.DictOf (strKind Z.prog Z.w) D (ks.map λk=>(k,Value.ref (a k)))
 ra:∀k∈ks,∃c,s.heap.get? (a k)=some (bY ((Fd (n+1)).map λi=>Value.ref (b k i)) c)
 rb:∀k∈ks,∀i,i<=n->∃c,s.heap.get? (b k i)=some (bY ((Fd (n+1)).map λj=>Value.bool (t k i j)) c)
 xD:X D
 xa:∀k∈ks,X (a k)
 xb:∀k∈ks,∀i,i<=n->X (b k i)
 inj:∀k∈ks,∀i,i<=n->∀k'∈ks,∀i',i'<=n->b k i=b k' i'->k=k'/\i=i'
 ne:(D==sysModules)=false
theorem RS.of_map{Z:Cf}{h:Heap}{N:Nat}{P:Addr->Prop}{α:Type}{f:α->Value}{g:α->PV}:∀{l:List α},(∀x∈l,R Z h N P (f x) (g x))->RS Z h N P (l.map f) (l.map g):=by
 intro l0
 induction l0 with
 | nil=>exact @λθ=>.nil
 | cons x l ih=>exact @λH=>.cons (H x (EP ..)) (ih λy hy=>H y (EO _ hy))
theorem qn{kvs:List (Str×Value)}{k:Str}{v:Value}(h:k∉kvs.map (·.1)):stored kvs k v=kvs++[(k,v)]:=by
 delta stored
 rw[if_neg]
 simp only[GA,decide_eq_true_eq,not_exists,not_and]
 intro kv hm e
 exact h (by rw[<-e];exact E4 hm)
theorem valueAt_map{ks:List Str}{f:Str->Value}{k:Str}(h:k∈ks):valueAt (ks.map λk=>(k,f k)) k=some (f k):=by
 induction ks with
 | nil=>cases h
 | cons x ks ih =>
  by_cases e:x=k
  .simp[valueAt,e]
  .have:=ih ((EU.mp h).resolve_left λq=>e q.symm)
   simpa [valueAt,e]using this
section
variable{Z:Cf}{lvl:Nat}{A:Around}{env:Env}{ce:CE}{Q0:Addr->Prop}{s0 s s' s'':Shared}{X X':Addr->Prop}{ad ad':Nat->Addr}{σ σ':Sig}{E:Value->Shared->Prop}{Φ:FTab}{ks:List Str}{n:Nat}{t:Tab}{D:Addr}{a:Str->Addr}{b:Str->Nat->Addr}
theorem Tr.stb (T:Tr Z env ks n t D a b X s) (hx:ce.idx "tables"=none) (hv:d9 (ce.kind "tables")=true) (h:Stb env ce X s s'):Tr Z env ks n t D a b X s' where
 ld:=h.2 _ _ hx hv T.ld
 dD:=T.dD.imp λo e=>e.imp λes e=>e.imp λep e=>⟨h.1 _ _ T.xD e.1,e.2⟩
 ra:=λk hk=>(T.ra k hk).imp λc e=>h.1 _ _ (T.xa k hk) e
 rb:=λk hk i hi=>(T.rb k hk i hi).imp λc e=>h.1 _ _ (T.xb k hk i hi) e
 xD:=T.xD
 xa:=T.xa
 xb:=T.xb
 inj:=T.inj
 ne:=T.ne
theorem Tr.toR{P:Addr->Prop}(T:Tr Z env ks n t D a b X s)(hp:∀c,X c->P c)(hk:ks.length<=100)(hn:n<=100):R Z s.heap s.toks P (.ref D) (aI ks n t):=by
 have hl:∀{β:Type} (f:Nat->β),((Fd (n+1)).map f).length<=az:=λf=>by rw[EN,Fk];exact EK (Fz hn) (by decide)
 refine .dict (hp _ T.xD) T.dD T.ne (by rw[Fe];exact List.map_id _) (EK hk (by decide)) ?_
 rw[Fe]
 refine RS.of_map λk hk=>?_
 obtain⟨c,e⟩:=T.ra k hk
 refine .list (hp _ (T.xa k hk)) e (hl _) (RS.of_map λi hi=>?_)
 have hi:=FB (FL.mp hi)
 obtain⟨c,e⟩:=T.rb k hk i hi
 exact .list (hp _ (T.xb k hk i hi)) e (hl _) (RS.of_map λj θ=>.bool _)
theorem Tr.set{h:Str}{i j c:Nat}{h':Heap}{tk:Nat}(T:Tr Z env ks n t D a b X s)(hh:h∈ks)(hi:i<=n)(hs:Heap.SameBut (b h i) s.heap h')(e:h'.get? (b h i)=some (bY ((Fd (n+1)).map λm=>Value.bool (kQ t h i j h i m)) c))(hl:∀y u,aS env s.heap y u->aS env h' y u) :
  Tr Z env ks n (kQ t h i j) D a b X {s with heap:=h',toks:=tk}:=by
 obtain⟨c0,e0⟩:=T.rb h hh i hi
 refine⟨hl _ _ T.ld,?_,λk hk=>?_,λk hk m hm=>?_,T.xD,T.xa,T.xb,T.inj,T.ne⟩
 .obtain⟨o,es,ep,ho,q⟩:=T.dD
  refine⟨o,es,ep,hs.extBut _ _ (λq'=>?_) ho,q⟩
  rw[q',e0]at ho
  cases ho
  exact absurd (Value.type.inj q.1.1) (by decide)
 .obtain⟨c1,e1⟩:=T.ra k hk
  refine⟨c1,hs.extBut _ _ (λq'=>?_) e1⟩
  rw[q',e0]at e1
  have:=congrArg (λo:Obj=>match o.data with | .seq xs _=>xs[0]? | _=>none) (ET e1)
  simp[bY]at this
 .by_cases q:k=h/\m=i
  .obtain⟨rfl,rfl⟩:=q
   exact⟨c,e⟩
  .obtain⟨c1,e1⟩:=T.rb k hk m hm
   refine⟨c1,?_⟩
   have:(Fd (n+1)).map (λj'=>Value.bool (kQ t h i j k m j'))=(Fd (n+1)).map λj'=>Value.bool (t k m j'):=by
    refine F8 λj' θ=>?_
    rw[kQ,if_neg λw=>q ⟨w.1,w.2.1⟩]
   rw[this]
   exact hs.extBut _ _ (λq'=>q (T.inj k hk m hm h hh i hi q')) e1
theorem Tr.add{h:Str}{h':Heap}{tk:Nat}{r c:Nat}{bs:List Addr}{CZ:Shared}(T1:Tr Z env ks n (λθ θ θ=>false) D a b X CZ)(k:Keeps CZ s)(hh:h∉ks)(er:s.heap.get? r=some (bY (bs.map Value.ref) c))(hr:CZ.heap.get? r=none)(hbl:bs.length=n+1)(hnd:bs.Nodup)
  (hb:∀x∈bs,(∃c,s.heap.get? x=some (bY (Fw (n+1) (.bool false)) c))/\CZ.heap.get? x=none)
  (hd:h'.DictOf (strKind Z.prog Z.w) D (stored (ks.map λk=>(k,Value.ref (a k))) h (.ref r))) (hs:Heap.SameBut D s.heap h') (hl:∀y u,aS env s.heap y u->aS env h' y u) :
  ∃a' b',Tr Z env (ks++[h]) n (λθ θ θ=>false) D a' b' (λx=>X x\/(x=r\/x∈bs)) {s with heap:=h',toks:=tk}:=by
 have liveD:∃o,CZ.heap.get? D=some o:=T1.dD.imp λo q=>q.elim λθ q=>q.elim λθ q=>q.1
 have nD:∀{x},CZ.heap.get? x=none->x≠D:=λe q=>by obtain⟨o,ho⟩:=liveD;rw[q,ho]at e;cases e
 have up:∀{x o},CZ.heap.get? x=some o->x≠D->h'.get? x=some o:=λe q=>hs.extBut _ _ q (kheap k _ _ e)
 have isL:∀{vs c},CZ.heap.get? D≠some (bY vs c):=λ{vs c} e=>by
  refine cps λGq hGq=>?_
  obtain⟨o,_,_,ho,q⟩:=T1.dD
  refine hGq ?_
  clear hGq
  rw[e]at ho;cases ho
  exact absurd (Value.type.inj q.1.1) (by decide)
 have hk:∀{k},k∈ks->¬k=h:=λhk e=>hh (e▸hk)
 have getb:∀i,i<=n->bs[i]?= some (bs.getD i 0):=λi hi=>by
  rw[Ha,EW (by lia)];rfl
 rw[qn (by rw[Fe,show((λx:Str×Value=>x.1)∘λk=>(k,Value.ref (a k)))=id from rfl,List.map_id];exact hh)]at hd
 refine⟨λk=>if k=h then r else a k,λk i=>if k=h then bs.getD i 0 else b k i,hl _ _ (T1.ld.keeps (kheap k)),?_,?_,?_,.inl T1.xD,?_,?_,?_,T1.ne⟩
 .have e:((ks++[h]).map λk=>(k,Value.ref (if k=h then r else a k)))=ks.map (λk=>(k,Value.ref (a k)))++[(h,.ref r)]:=by
   rw[Fc]
   congr 1
   .exact F8 λk hk'=>by rw[if_neg (hk hk')]
   .show [(h,Value.ref (if h=h then r else a h))]=_
    rw[if_pos rfl]
  rw[e];exact hd
 .intro k hk'
  rcases E0.mp hk' with hk' | hk'
  .obtain⟨c,e⟩:=T1.ra k hk'
   refine⟨c,?_⟩
   simp only[if_neg (hk hk')]
   exact up e λq=>isL (q▸e)
  .rw[EM.mp hk']
   refine⟨c,?_⟩
   simp only[if_true]
   rw[show((Fd (n+1)).map λi=>Value.ref (bs.getD i 0))=bs.map Value.ref from Hy λi=>by
    rw[EZ,EZ]
    rcases Gp i (n+1)with q | q
    .rw[GT q,getb i (FB q)];rfl
    .rw[FN (by rw[Fk];exact q),FN (by rw[hbl];exact q)];rfl]at ⊢
   exact hs.extBut _ _ (nD hr) er
 .intro k hk' i hi
  rcases E0.mp hk' with hk' | hk'
  .obtain⟨c,e⟩:=T1.rb k hk' i hi
   refine⟨c,?_⟩
   simp only[if_neg (hk hk')]
   exact up e λq=>isL (q▸e)
  .rw[EM.mp hk']
   obtain⟨⟨c,e⟩,q⟩:=hb _ (Fa (getb i hi))
   refine⟨c,?_⟩
   simp only[if_true]
   rw[List.map_const',Fk]
   exact hs.extBut _ _ (nD q) e
 .intro k hk'
  rcases E0.mp hk' with hk' | hk'
  .simp only[if_neg (hk hk')];exact .inl (T1.xa k hk')
  .simp only[EM.mp hk',if_true];exact .inr (.inl trivial)
 .intro k hk' i hi
  rcases E0.mp hk' with hk' | hk'
  .simp only[if_neg (hk hk')];exact .inl (T1.xb k hk' i hi)
  .simp only[EM.mp hk',if_true];exact .inr (.inr (Fa (getb i hi)))
 .have cross:∀k∈ks,∀i,i<=n->∀i',i'<=n->b k i≠bs.getD i' 0:=λk hk' i hi i' hi' q=>by
   obtain⟨c,e⟩:=T1.rb k hk' i hi
   rw[q,(hb _ (Fa (getb i' hi'))).2]at e;cases e
  intro k hk' i hi k2 hk2 i2 hi2 q
  rcases E0.mp hk' with hk' | hk'<;>rcases E0.mp hk2 with hk2 | hk2
  .simp only[if_neg (hk hk'),if_neg (hk hk2)]at q;exact T1.inj k hk' i hi k2 hk2 i2 hi2 q
  .simp only[if_neg (hk hk'),EM.mp hk2,if_true]at q;exact(cross k hk' i hi i2 hi2 q).elim
  .simp only[if_neg (hk hk2),EM.mp hk',if_true]at q;exact(cross k2 hk2 i2 hi2 i hi q.symm).elim
  .simp only[EM.mp hk2,EM.mp hk',if_true]at q ⊢
   refine⟨trivial,?_⟩
   have h1:=getb i hi
   have h2:=getb i2 hi2
   rw[q,<-h2]at h1
   exact(List.getElem?_inj (i:=i) (by rw[hbl];exact F2 hi) hnd).mp h1
end
noncomputable def m6:List Str:=["g","tokens","n","head","changed","rule","i","j"]
noncomputable def aw(d:DefRec):CE:=jw m6 d.scope false
noncomputable def uU(d:DefRec):CE:=⟨m6++[("tables":Str)],(aw d).kind,false⟩
noncomputable def eN:SExpr:=.bin .Add (.var 2) (.int 1)
noncomputable def eT:SExpr:=.idx (.idx (.idx (.var 8) (.idx (.var 5) (.int 0))) (.var 6)) (.var 7)
noncomputable def eP:SExpr:=.call "places_after" [.idx (.var 5) (.int 1),.var 6,.var 1,.var 8]
inductive IfOk(d:DefRec)(st:Stmt):Prop
 | mk (test ix1 ix2 ix3 v1:Expr) (st6:Stmt) (q1 q2 q3 q4 q5 q6:Pos) (e:st=.If test [.Assign [.Subscript (.Subscript (.Subscript (.Name "tables" q1) ix1 q2) ix2 q3) ix3 q4] v1 q5,st6] [] q6) (c6:oH (.set 4 (.bool true)) (aw d) st6=true) (k9:chk (.not eT) (uU d) test=true)
   (k10:chk (.idx (.var 5) (.int 0)) (aw d) ix1=true) (k11:chk (.var 6) (aw d) ix2=true) (k12:chk (.var 7) (aw d) ix3=true) (k13:chk (.bool true) (aw d) v1=true):IfOk d st
inductive JOk(d:DefRec)(st:Stmt):Prop
 | mk (it:Expr) (b:Stmt) (q1 q2:Pos) (e:st=.For (.Name "j" q1) it [b] [] q2) (k:chk eP (uU d) it=true) (ns:aM it=false) (t:tgt (aw d) "j" 7=true) (h:IfOk d b):JOk d st
inductive IOk(d:DefRec)(st:Stmt):Prop
 | mk (it:Expr) (b:Stmt) (q1 q2:Pos) (e:st=.For (.Name "i" q1) it [b] [] q2) (k:chk (.range eN) (aw d) it=true) (ns:aM it=false) (t:tgt (aw d) "i" 6=true) (h:JOk d b):IOk d st
inductive ROk(d:DefRec)(st:Stmt):Prop
 | mk (it:Expr) (b:Stmt) (q1 q2:Pos) (e:st=.For (.Name "rule" q1) it [b] [] q2) (k:chk (.var 0) (aw d) it=true) (ns:aM it=false) (t:tgt (aw d) "rule" 5=true) (h:IOk d b):ROk d st
inductive WOk(d:DefRec)(st:Stmt):Prop
 | mk (tst:Expr) (st5 b:Stmt) (q:Pos) (e:st=.While tst [st5,b] [] q) (k:chk (.var 4) (aw d) tst=true) (c:oH (.set 4 (.bool false)) (aw d) st5=true) (h:ROk d b):WOk d st
inductive AOk(d:DefRec)(st:Stmt):Prop
 | mk (i1 it el:Expr) (sc:Scope) (q1 q2 q3 q4 q5:Pos) (e:st=.Assign [.Subscript (.Name "tables" q1) i1 q2] (.ListComp el [⟨.Name "i" q3,it,[],0⟩] sc q4) q5) (k2:chk (.var 3) (aw d) i1=true) (k3:chk (.range eN) (aw d) it=true) (k4:chk (.bin .Mult (.list [.bool false]) eN) ((aw d).inner sc ["i"]) el=true) (ns:aM it=false) (cs:(aw d).compOk sc ["i"]=true):AOk d st
inductive HOk(d:DefRec)(st:Stmt):Prop
 | mk (it:Expr) (b:Stmt) (q1 q2:Pos) (e:st=.For (.Name "head" q1) it [b] [] q2) (k:chk (.call "heads_of" [.var 0]) (aw d) it=true) (ns:aM it=false) (t:tgt (aw d) "head" 3=true) (h:AOk d b):HOk d st
inductive SpText(d:DefRec):Prop
 | mk (st1 h st4 w:Stmt) (q1 q2 q3 q4 q5:Pos) (body:d.body=[st1,.Assign [.Name "tables" q1] (.Dict [] [] q2) q3,h,st4,w,.Return (some (.Name "tables" q4)) q5]) (c1:oH (.set 2 (.len (.var 1))) (aw d) st1=true) (c4:oH (.set 4 (.bool true)) (aw d) st4=true) (hh:HOk d h) (hw:WOk d w):SpText d
noncomputable def DK(g:List Rule)(tokens:List Str)(a b c d e:Option RV):Sig:=[some ⟨aj g,false,true⟩,some ⟨ae tokens,false,true⟩,some (at1 (.int tokens.length)),a,b,c,d,e]
noncomputable def tb(b:Bool):Option RV:=some (at1 (.bool b))
noncomputable def Cl(ks tokens:List Str)(t:Tab)(r:Rule)(i:Nat):Prop:=∀j∈aftP ks t tokens [i] r.2,t r.1 i j=true
section
variable{Z:Cf}{lvl:Nat}{A:Around}{env:Env}{Q0:Addr->Prop}{s0 s s':Shared}{X:Addr->Prop}{ad:Nat->Addr}{E:Value->Shared->Prop}{Φ:FTab}{d:DefRec}{g:List Rule}{ks tokens:List Str}{t t0 t1:Tab}{ch:Bool}{D:Addr}{a b c e r3 r5 r6 r7:Option RV}
theorem qC:(aw d).idx "tables"=none:=by show lastIdx ("tables":Str) m6 0=none;decide +kernel
inductive In(Z:Cf)(env:Env)(g:List Rule)(ks tokens:List Str)(D:Addr)(t0:Tab)(X:Addr->Prop)(K:Option RV->Option RV->Prop)(N:Prop)(X':Addr->Prop)(σ:Sig)(s:Shared):Prop
 | mk (t:Tab) (ch:Bool) (r3 r5 r6 r7:Option RV) (a:Str->Addr) (b:Str->Nat->Addr) (eX:X'=X) (Ee:σ=DK g tokens r3 (tb ch) r5 r6 r7) (hK:K r5 r6) (T:Tr Z env ks tokens.length t D a b X s) (P:PI g ks tokens t0 t ch N):In Z env g ks tokens D t0 X K N X' σ s
theorem In.stb {K:Option RV->Option RV->Prop} {N:Prop} {X':Addr->Prop} {σ:Sig} (h:In Z env g ks tokens D t0 X K N X' σ s) (hv:d9 ((aw d).kind "tables")=true) (hs:Stb env (aw d) X' s s'):In Z env g ks tokens D t0 X K N X' σ s':=by
 obtain⟨t,ch,r3,r5,r6,r7,a,b,rfl,rfl,hK,T,P⟩:=h
 exact⟨t,ch,r3,r5,r6,r7,a,b,rfl,rfl,hK,T.stb qC hv hs,P⟩
theorem Tr.cx{a:Str->Addr}{b:Str->Nat->Addr}{σ:Sig}(F:Fx Z lvl A env (aw d) Q0 s0)(S:Sx Z env (aw d) Q0 s0 X ad σ s)(T:Tr Z env ks tokens.length t D a b X s)(hk:ks.length<=100)(hn:tokens.length<=100) :
  Cx Z lvl A env (uU d) (Pf Q0 s0.heap (Ow env X σ ad)) (σ++[some ⟨aI ks tokens.length t,true,false⟩]) s :=
 S.cx1 F T.ld (T.toR (λc hc=>⟨F.q0 c (S.ob c (.inl hc)),λθ=>S.ob c (.inl hc),λq=>rQ q⟩) hk hn)
theorem vc{σ:Sig}{k:Nat}(h:σ[2]?= some (some (at1 (.int k)))):aa Φ eN σ=some (at1 (.int ((k+1:Nat):Int))):=ev_bin (op:=.Add) (ev_var h) ai rfl
theorem xZ{h:Str}{n i j:Nat}(hj:j<=n):(((Fd (n+1)).map λm=>Value.bool (t h i m)).toArray.setIfInBounds (j:Int).toNat (.bool true))=((Fd (n+1)).map λm=>Value.bool (kQ t h i j h i m)).toArray:=by
 apply Ie.mp
 rw[Array.toList_setIfInBounds,FT]
 refine Hy λk=>?_
 rw[GN,EZ,EZ,EN,Fk]
 by_cases e:j=k
 .subst e
  rw[if_pos rfl,if_pos (F2 hj),GT (F2 hj)]
  show _=some (Value.bool (if h=h/\i=i/\j=j then true else _))
  rw[if_pos ⟨rfl,rfl,rfl⟩]
 .rw[if_neg e]
  cases q:(Fd (n+1))[k]? with
  | none=>rfl
  | some k' =>
   have:k'=k:=by obtain⟨h1,h2⟩:=EY.mp q;rw[<-h2,H6]
   show some _=some (Value.bool (if h=h/\i=i/\k'=j then true else _))
   rw[if_neg λw=>e (w.2.2.symm.trans this)]
set_option maxHeartbeats 1000000 in
theorem sp_inner (vT:fg ((aw d).kind "tables")=true) {st:Stmt} (TT:IfOk d st) (ek:∀e,EOk Z lvl Φ e) (F:Fx Z lvl A env (aw d) Q0 s0) (H:SpOk Φ g ks tokens t1) {r:Rule} (hr:r∈g) {i j:Nat} (hi:i<=tokens.length) (hj:j<=tokens.length) (hG:∀G,dh g ks tokens G->G r.1 i j) {K:Option RV->Option RV->Prop} (hK:K (some ⟨ao r,false,true⟩) (some (at1 (.int i)))) {N N':Prop} (hN:N->t0 r.1 i j=true->N')
  {r3:Option RV} {a:Str->Addr} {b:Str->Nat->Addr} (S:Sx Z env (aw d) Q0 s0 X ad (DK g tokens r3 (tb ch) (some ⟨ao r,false,true⟩) (some (at1 (.int i))) (some (at1 (.int j)))) s) (T:Tr Z env ks tokens.length t D a b X s) (P:PI g ks tokens t0 t ch N) :
  wpAny Z.M A (execs [st] env)
   (λfl CZ=>fl=.next/\∃X'' ad'' Df,Sx Z env (aw d) Q0 s0 X'' ad'' Df CZ/\ExtW env X ad (DK g tokens r3 (tb ch) (some ⟨ao r,false,true⟩) (some (at1 (.int i))) (some (at1 (.int j)))) s X'' ad'' Df CZ/\In Z env g ks tokens D t0 X K N' X'' Df CZ) E s:=by
 have hrk:=H.hd r hr
 replace vT:d9 ((aw d).kind "tables")=true:=cO vT
 induction TT with
 | mk test ix1 ix2 ix3 v1 st6 q1 q2 q3 q4 q5 q6 e c6 k9 k10 k11 k12 k13 =>
 subst e
 refine wp_abs λQ5 E5 hQ5 zz=>?_
 have hT:aa Φ (.not eT) (DK g tokens r3 (tb ch) (some ⟨ao r,false,true⟩) (some (at1 (.int i))) (some (at1 (.int j)))++[some ⟨aI ks tokens.length t,true,false⟩])=some (at1 (.bool !t r.1 i j)) :=
  iR (ev_idx (ev_idx (ev_idx (ev_var rfl) (ev_idx (ev_var rfl) ai rfl) (idx_encTab hrk)) (ev_var rfl) (idx_encM hi)) (ev_var rfl) (idx_encRw hj))
 refine wpAny_execs_cons (wpAny_If (wm ((ek (.not eT)).te _ test A env _ _ s _ _ _ k9 (T.cx F S H.g2 H.g3) hT rfl) λbb CZ C4=>?_))
 obtain⟨rfl,k1⟩:=C4
 have S1:=S.keeps k1
 have T1:=T.stb (ce:=aw d) qC vT (bJ k1)
 cases ht:t r.1 i j with
 | true =>
  refine wpAny_execs_nil (wpAny_execs_nil (hQ5 _ _ ⟨rfl,X,ad,_,S1,extw_keeps k1,.mk t ch r3 _ _ _ a b rfl rfl hK T1 (P.more λq n=>hN n (q▸ht))⟩))
 | false =>
  refine wpAny_execs_cons (wpAny_Assign_Subscript (wm ((ek (.bool true)).ev _ v1 A env _ _ CZ _ _ k13 (S1.cx F) bp) λu C2 C8=>?_) iS)
  obtain⟨k2,r2⟩:=C8
  have eu:u=.bool true:=R.b r2
  subst eu
  have S2:=S1.keeps k2
  have T2:=T1.stb (ce:=aw d) qC vT (bJ k2)
  refine be (be (gN F.fn T2.ld (by decide) (by decide) (wm ((ek _).ev _ ix1 A env _ _ C2 (at1 (.str r.1)) _ k10 (S2.cx F) (ev_idx (r:=⟨ao r,false,true⟩) (ev_var rfl) ai rfl)) λu3 C5 C9=>?_)))
  obtain⟨k3,r3'⟩:=C9
  have r3':R Z C5.heap C5.toks _ u3 (.str r.1):=r3'
  induction r3'.s with
  | str tk3 =>
   have T3:=T2.stb (ce:=aw d) qC vT (bJ k3)
   refine⟨"dict",_,T3.dD.typeIs,slot_dict_getitem.lookup,wpAny_getItem_of (strKind_is Z.prog Z.w r.1 tk3) T3.dD.mapOf (valueAt_map hrk) ?_⟩
   have k3':=ktrans k3 (br C5)
   have S3:=S2.keeps k3'
   have T3:=T2.stb (ce:=aw d) qC vT (bJ k3')
   refine wm ((ek _).ev _ ix2 A env _ _ _ (at1 (.int i)) _ k11 (S3.cx F) (ev_var rfl)) λu4 C7 Dh=>?_
   obtain⟨k4,r4⟩:=Dh
   have r4:R Z C7.heap C7.toks _ u4 (.int i):=r4
   induction r4.i with
   | int tk4 =>
    have S4:=S3.keeps k4
    have T4:=T3.stb (ce:=aw d) qC vT (bJ k4)
    obtain⟨ca,ea⟩:=T4.ra r.1 hrk
    have h100:=H.g3
    refine⟨"list",_,⟨_,ea,rfl⟩,slot_list_getitem.lookup,wpAny_getItem_list (ak ea) (Fy i) (by lia) (x:=.ref (b r.1 i)) (by simp[F2 hi]) ?_⟩
    refine wm ((ek _).ev _ ix3 A env _ _ C7 (at1 (.int j)) _ k12 (S4.cx F) (ev_var rfl)) λu5 Dn Dl=>?_
    obtain⟨k5,r5⟩:=Dl
    have r5:R Z Dn.heap Dn.toks _ u5 (.int j):=r5
    induction r5.i with
    | int tk5 =>
     have S5:=S4.keeps k5
     have T5:=T4.stb (ce:=aw d) qC vT (bJ k5)
     obtain⟨cb,eb⟩:=T5.rb r.1 hrk i hi
     have hXb:=T5.xb r.1 hrk i hi
     refine PySem.W.ki_setAt (n:=cb) eb (Fy j) (by lia) (by simp;lia) ?_
     have e6:=PySem.IsL.update (l:=b r.1 i) eb λxs=>xs.setIfInBounds (j:Int).toNat (.bool true)
     have hs6:Heap.SameBut (b r.1 i) Dn.heap (Dn.heap.update (b r.1 i) (Obj.mapSeq λxs=>xs.setIfInBounds (j:Int).toNat (.bool true))):=Heap.SameBut.update ..
     generalize Dn.heap.update (b r.1 i) (Obj.mapSeq λxs=>xs.setIfInBounds (j:Int).toNat (.bool true))=h6 at e6 hs6 ⊢
     obtain⟨S6,x6,l6⟩:=S5.mutX (tk:=Dn.toks) (ER _) hXb hs6 ⟨_,e6⟩
     rw[xZ hj]at e6
     have T6:=T5.set (j:=j) (tk:=Dn.toks) hrk hi hs6 e6 l6
     .refine wpAny_execs_cons (wm (jR (n:=0) (ek _).ev F st6 _ _ _ (.next (DK g tokens r3 (tb true) (some ⟨ao r,false,true⟩) (some (at1 (.int i))) (some (at1 (.int j))))) _ c6 S6 (jH bp rfl)) λfl DJ EB=>?_)
      obtain⟨rfl,ad7,S7,x7⟩:=EB
      refine wpAny_execs_nil (wpAny_execs_nil (hQ5 _ _ ⟨rfl,X,ad7,_,S7,bX (extw_keeps (ktrans k1 (ktrans k2 (ktrans k3' (ktrans k4 k5))))) (bX x6 (x7.toW rfl)),.mk _ true r3 _ _ _ a b rfl rfl hK (T6.stb qC vT (x7.stb rfl)) (P.set hrk hi hj ht hG)⟩))
theorem tJ{n k:Nat}{dd:PV}(h:((Fd (n+1)).map λi:Nat=>PV.int i)[k]?= some dd):k<=n/\dd=.int (k:Nat):=by
 rw[EZ,F6]at h
 obtain⟨k',hk,rfl⟩:=h
 obtain⟨h1,h2⟩:=EY.mp hk
 rw[H6]at h2
 rw[Fk]at h1
 exact⟨FB h1,by rw[h2]⟩
def Turned(Z:Cf)(env:Env)(d:DefRec)(Q0:Addr->Prop)(s0:Shared)(X:Addr->Prop)(ad:Nat->Addr)(σ:Sig)(s:Shared)(I:(Addr->Prop)->Sig->Shared->Prop)(fl:Flow)(CZ:Shared):Prop :=
 fl=.next/\∃X'' ad'' Df,Sx Z env (aw d) Q0 s0 X'' ad'' Df CZ/\ExtW env X ad σ s X'' ad'' Df CZ/\I X'' Df CZ
section
variable{K:Option RV->Option RV->Prop}{N N':Prop}{st:Stmt}{σ:Sig}{r:Rule}
theorem Cn (vT:fg ((aw d).kind "tables")=true) (TT:JOk d st) (ek:∀e,EOk Z lvl Φ e) (F:Fx Z lvl A env (aw d) Q0 s0) (H:SpOk Φ g ks tokens t1) (hr:r∈g) {m:Nat} (hm:m<=tokens.length) (Ee:σ=DK g tokens r3 (tb ch) (some ⟨ao r,false,true⟩) (some (at1 (.int (m:Nat)))) r7) (hK:K (some ⟨ao r,false,true⟩) (some (at1 (.int (m:Nat))))) (hN:N->Cl ks tokens t0 r m->N') {a:Str->Addr} {b:Str->Nat->Addr} (S:Sx Z env (aw d) Q0 s0 X ad σ s) (T:Tr Z env ks tokens.length t D a b X s) (P:PI g ks tokens t0 t ch N) :
  wpAny Z.M A (execs [st] env) (Turned Z env d Q0 s0 X ad σ s (In Z env g ks tokens D t0 X K N')) E s:=by
 subst Ee
 induction TT with
 | mk it bd q1 q2 e k ns tj h =>
 subst e
 refine wp_abs λQ6 E6 hQ6 zz=>?_
 have hP:aa Φ eP (DK g tokens r3 (tb ch) (some ⟨ao r,false,true⟩) (some (at1 (.int (m:Nat)))) r7++[some ⟨aI ks tokens.length t,true,false⟩])=some ⟨fI (aftP ks t tokens [m] r.2),true,true⟩ :=
  ev_callT (rs:=[⟨ae r.2,false,true⟩,at1 (.int (m:Nat)),⟨ae tokens,false,true⟩,⟨aI ks tokens.length t,true,false⟩]) (evs_cons (ev_idx (ev_var rfl) ai rfl) (evs_cons (ev_var rfl) (evs_cons (ev_var rfl) (evs_cons (ev_var rfl) evs_nil)))) (H.aft t m r hr hm)
 generalize hL:aftP ks t tokens [m] r.2=L at hP
 refine wpAny_execs_cons (for_w (q:=⟨fI L,true,true⟩) (ds:=L.map λi:Nat=>PV.int i) (i:=7)
  (J:=λw=>In Z env g ks tokens D t0 X (λr5 r6=>r5=some ⟨ao r,false,true⟩/\r6=some (at1 (.int (m:Nat)))) (N/\t=t0/\∀j∈L.take w,t0 r.1 m j=true)) rfl F S tj ns
  ((ek _).ev _ _ A env _ _ s _ _ k (T.cx F S H.g2 H.g3) hP) rfl rfl (λθ θ θ θ θ h hs=>h.stb (cO vT) hs) ⟨t,ch,r3,_,_,r7,a,b,rfl,rfl,⟨rfl,rfl⟩,T,P.more λq n=>⟨n,q,λj hj=>by cases hj⟩⟩ ?_ ?_)
 .intro w dd X3 ad3 EC C5 E3 hd x3 hJ S3
  rw[EZ,F6]at hd
  obtain⟨j,hj,rfl⟩:=hd
  obtain⟨t',ch',r3,r5,r6,r7,a,b,rfl,rfl,⟨rfl,rfl⟩,T3,P3⟩:=hJ
  have hin:iA ks tokens (Mine.TT t) r.2 m j:=by
   have:=Fa hj
   rw[<-hL,mem_aftP]at this
   obtain⟨i,hi,h⟩:=this
   rw[EM.mp hi]at h
   exact h
  refine sp_inner vT h ek F H hr hm (inAft_le hm hin) (λG hc=>hc r hr m j hm (kZ (λY i j hY hi hj h=>P.snd G hc Y hY i j hi hj h) hm hin)) (K:=λr5 r6=>r5=some ⟨ao r,false,true⟩/\r6=some (at1 (.int (m:Nat)))) ⟨rfl,rfl⟩ (λn ht=>⟨n.1,n.2.1,λj' hj'=>?_⟩) S3 T3 P3
  rw[HA,hj]at hj'
  rcases E0.mp hj' with h | h
  .exact n.2.2 j' h
  .exact EM.mp h▸ht
 .intro X3 ad3 EC C5 S3 x3 hJ
  obtain⟨t',ch',r3,r5,r6,r7,a,b,rfl,rfl,⟨rfl,rfl⟩,T3,P3⟩:=hJ
  refine wpAny_execs_nil (hQ6 _ _ ⟨rfl,X3,ad3,_,S3,x3,⟨t',ch',r3,_,_,r7,a,b,rfl,rfl,hK,T3,P3.more λθ n=>hN n.1 λj hj=>?_⟩⟩)
  rw[<-n.2.1,hL]at hj
  exact n.2.2 j (by rw[EN,GV];exact hj)
theorem sp_i (vT:fg ((aw d).kind "tables")=true) (TT:IOk d st) (ek:∀e,EOk Z lvl Φ e) (F:Fx Z lvl A env (aw d) Q0 s0) (H:SpOk Φ g ks tokens t1) (hr:r∈g) (Ee:σ=DK g tokens r3 (tb ch) (some ⟨ao r,false,true⟩) r6 r7) (hN:N->(∀i,i<=tokens.length->Cl ks tokens t0 r i)->N') {a:Str->Addr} {b:Str->Nat->Addr} (S:Sx Z env (aw d) Q0 s0 X ad σ s) (T:Tr Z env ks tokens.length t D a b X s) (P:PI g ks tokens t0 t ch N) :
  wpAny Z.M A (execs [st] env) (Turned Z env d Q0 s0 X ad σ s (In Z env g ks tokens D t0 X (λθ θ=>True) N')) E s:=by
 subst Ee
 induction TT with
 | mk it bd q1 q2 e k ns ti h =>
 subst e
 refine wp_abs λQ5 E5 hQ5 zz=>?_
 refine wpAny_execs_cons (for_w (q:=⟨.rng 0 ((tokens.length+1:Nat):Int) 1,true,true⟩) (ds:=(Fd (tokens.length+1)).map λi:Nat=>PV.int i) (i:=6)
  (J:=λm=>In Z env g ks tokens D t0 X (λr5 θ=>r5=some ⟨ao r,false,true⟩) (N/\∀i,i<m->Cl ks tokens t0 r i)) rfl F S ti ns
  ((ek _).ev _ _ A env _ _ s _ _ k (S.cx F) (ev_range (f:=true) (c:=true) (vc rfl) (EK (Fz H.g3) (by decide)))) rfl (aiter_range _) (λθ θ θ θ θ h hs=>h.stb (cO vT) hs) ⟨t,ch,r3,_,r6,r7,a,b,rfl,rfl,rfl,T,P.more λθ n=>⟨n,λi hi=>absurd hi (FP _)⟩⟩ ?_ ?_)
 .intro m dd X2 ad2 Es C2 E2 hd x2 hJ S2
  obtain⟨hm,rfl⟩:=tJ hd
  obtain⟨t,ch,r3,r5,r6,r7,a,b,rfl,rfl,rfl,T2,P2⟩:=hJ
  exact Cn vT h ek F H hr hm rfl rfl (λn c=>⟨n.1,λi hi=>(Nat.lt_or_eq_of_le (FB hi)).elim (n.2 i) λe=>e▸c⟩) S2 T2 P2
 .intro X2 ad2 Es C2 S2 x2 hJ
  obtain⟨t',ch',r3,r5,r6,r7,a,b,rfl,rfl,hK,T2,P2⟩:=hJ
  exact wpAny_execs_nil (hQ5 _ _ ⟨rfl,X2,ad2,_,S2,x2,⟨t',ch',r3,_,_,r7,a,b,rfl,rfl,trivial,T2,P2.more λθ n=>hN n.1 λi hi=>n.2 i (by rw[EN,Fk];exact F2 hi)⟩⟩)
theorem wC (vT:fg ((aw d).kind "tables")=true) (TT:ROk d st) (ek:∀e,EOk Z lvl Φ e) (F:Fx Z lvl A env (aw d) Q0 s0) (H:SpOk Φ g ks tokens t1) {a:Str->Addr} {b:Str->Nat->Addr} (S:Sx Z env (aw d) Q0 s0 X ad (DK g tokens r3 (tb false) r5 r6 r7) s) (T:Tr Z env ks tokens.length t0 D a b X s) (P:PI g ks tokens t0 t0 false True) {Q:Flow->Shared->Prop}
  (hQ:∀ad' σ' s',Sx Z env (aw d) Q0 s0 X ad' σ' s'->In Z env g ks tokens D t0 X (λθ θ=>True) (∀r∈g,∀i,i<=tokens.length->Cl ks tokens t0 r i) X σ' s'->Q .next s'):wpAny Z.M A (exec st env) Q E s:=by
 induction TT with
 | mk it bd q1 q2 e k ns tr h =>
 subst e
 refine for_w (q:=⟨aj g,false,true⟩) (ds:=g.map ao) (i:=5) (J:=λk=>In Z env g ks tokens D t0 X (λθ θ=>True) (∀r∈g.take k,∀i,i<=tokens.length->Cl ks tokens t0 r i)) rfl F S tr ns ((ek _).ev _ _ A env _ _ s _ _ k (S.cx F) (ev_var rfl)) rfl rfl (λθ θ θ θ θ h hs=>h.stb (cO vT) hs) ⟨t0,false,r3,r5,r6,r7,a,b,rfl,rfl,trivial,T,P.more λθ θ r hr=>by cases hr⟩ ?_ ?_
 .intro k dd X1 ad1 Ef CZ E1 hd x1 hJ S1
  rw[EZ,F6]at hd
  obtain⟨r,hgr,rfl⟩:=hd
  obtain⟨t,ch,r3,r5,r6,r7,a,b,rfl,rfl,hK,T1,P1⟩:=hJ
  refine sp_i vT h ek F H (Fa hgr) rfl (λn c q hq i hi=>?_) S1 T1 P1
  rw[HA,hgr]at hq
  rcases E0.mp hq with h | h
  .exact n q h i hi
  .exact EM.mp h▸c i hi
 .intro X1 ad1 Ef CZ S1 x1 hJ
  obtain⟨t',ch',r3,r5,r6,r7,a,b,rfl,rfl,hK,T1,P1⟩:=hJ
  exact hQ ad1 _ CZ S1 ⟨t',ch',r3,_,_,r7,a,b,rfl,rfl,trivial,T1,P1.more λθ n q hq=>n q (by rw[EN,GV];exact hq)⟩
end
end
section
variable{Z:Cf}{lvl:Nat}{A:Around}{env:Env}{Q0:Addr->Prop}{s0 s s':Shared}{X:Addr->Prop}{ad:Nat->Addr}{σ:Sig}{E:Value->Shared->Prop}{Φ:FTab}{d:DefRec}{g:List Rule}{ks tokens:List Str}{ts:Tab}
theorem tZ{C:Addr->Prop}(k:Keeps s s')(hC:∀a,C a->s.heap.get? a=none):ExtW env X ad σ s (λa=>X a\/C a) ad σ s':=by
 refine⟨λb o e zz=>kheap k b o e,λb hb=>?_,λb ⟨o,e⟩=>⟨o,kheap k b o e⟩,ktl k⟩
 rcases hb with(hb | hb) | hb
 .exact .inl (.inl hb)
 .exact .inr (hC b hb)
 .exact .inl (.inr hb)
theorem sY(n:Nat):∀d∈(Fd n).map λi:Nat=>PV.int i,d.atom=true:=λd hd=>by
 obtain⟨i,_,rfl⟩:=E9.mp hd
 rfl
noncomputable def ED(n:Nat):Sig:=[none,none,some (at1 (.int n)),none,none,none,none,none]
theorem uY{n i:Nat}{r:RV}(h:(ED n)[i]?= some (some r)):i=2/\r=at1 (.int n):=by
 rcases i with _ | _ | _ | _ | _ | _ | _ | _ | i<;>first | (cases h;exact⟨rfl,rfl⟩) | (cases h;done)
theorem xQ (vT:fg ((aw d).kind "tables")=true) {st:Stmt} (TT:AOk d st) (ek:∀e,EOk Z lvl Φ e) (F:Fx Z lvl A env (aw d) Q0 s0) (hn:tokens.length<=100) (hk:ks.length<=100) {j:Nat} {h:Str} (hh:ks[j]?= some h) (hnd:ks.Nodup) {a:Str->Addr} {b:Str->Nat->Addr} {D:Addr}
  (S:Sx Z env (aw d) Q0 s0 X ad (DK g tokens (some (at1 (.str h))) none none none none) s) (B:Tr Z env (ks.take j) tokens.length (λθ θ θ=>false) D a b X s) :
  wpAny Z.M A (execs [st] env)
   (λfl CZ=>fl=.next/\∃X'' ad'' Df,Sx Z env (aw d) Q0 s0 X'' ad'' Df CZ/\ExtW env X ad (DK g tokens (some (at1 (.str h))) none none none none) s X'' ad'' Df CZ/\(∃r3,Df=DK g tokens r3 none none none none)/\∃a b,Tr Z env (ks.take (j+1)) tokens.length (λθ θ θ=>false) D a b X'' CZ) E s:=by
 replace vT:d9 ((aw d).kind "tables")=true:=cO vT
 induction TT with
 | mk i1 it el sc q1 q2 q3 q4 q5 e k2' k3 k4 ns cs =>
 subst e
 have htake:ks.take (j+1)=ks.take j++[h]:=by rw[HA,hh];rfl
 have hnew:h∉ks.take j:=λhm=>by
  have:(ks.take (j+1)).Nodup:=hnd.sublist (List.take_sublist _ _)
  rw[htake,Hu]at this
  exact this.2.2 h hm h (EM.mpr rfl) rfl
 have hN:tokens.length+1<=az:=EK (Fz hn) (by decide)
 have Ca:Cx Z lvl A env (aw d) (Nw s.heap) (ED tokens.length) s:=(S.cx F).atoms rfl rfl (Nw.ok _) λi r h=>by
  obtain⟨rfl,rfl⟩:=uY h
  exact⟨rfl,rfl⟩
 refine wp_abs λQ5 E5 hQ5 zz=>?_
 refine wpAny_execs_cons (wpAny_Assign_Subscript (wm (yd (m:=tokens.length+1) (q:=⟨.rng 0 ((tokens.length+1:Nat):Int) 1,true,true⟩) Ca (cj cs) ns (λi r h=>by obtain⟨rfl,rfl⟩:=uY h;rfl) rfl rfl
  ((ek _).ev _ _ A env _ _ s _ _ k3 Ca (ev_range (f:=true) (c:=true) (vc rfl) hN)) (aiter_range _) (sY _) (by rw[EN,Fk];exact hN) λC P' dd C5 E' C3=>(ek _).ev _ _ A _ _ _ C5 _ _ k4 C3 ?_) λv C2 C8=>?_) iS)
 .refine ev_bin (r:=⟨.list [.bool false],true,true⟩) (q:=at1 (.int ((tokens.length+1:Nat):Int))) (ev_list (rs:=[at1 (.bool false)]) (evs_cons bp evs_nil) rfl) (vc rfl) ?_
  show(if 1*((tokens.length+1:Nat):Int).toNat<=az/\((tokens.length+1:Nat):Int).natAbs<=az then newl true true (Fw ((tokens.length+1:Nat):Int).toNat [PV.bool false]).flatten else none)=_
  have e:(Fw (tokens.length+1) [PV.bool false]).flatten=Fw (tokens.length+1) (PV.bool false):=by simp
  rw[FT,Int.natAbs_natCast,I1,if_pos ⟨hN,hN⟩,e]
  delta newl
  rw[if_pos (by rw[List.length_replicate];exact hN),if_pos (by rw[Fs];intro x hx;rw[List.eq_of_mem_replicate hx];rfl)]
 .obtain⟨k2,r,c,bs,rfl,er,hr,hbl,hbn,hb⟩:=C8
  rw[EN,Fk]at hbl
  have fr:∀x,x=r\/x∈bs->s.heap.get? x=none:=λx hx=>hx.elim (λe=>e▸hr) λhx=>(hb x hx).2
  have S2:=S.addS (C:=λx=>x=r\/x∈bs) k2 fr λx hx=>hx.elim (λe=>⟨_,e▸er⟩) λhx=>(hb x hx).1.elim λc e=>⟨_,e⟩
  have B2:=B.stb (ce:=aw d) qC vT (bJ k2)
  refine gN F.fn B2.ld (by decide) (by decide) (wm ((ek (.var 3)).ev _ i1 A env _ _ _ (at1 (.str h)) _ k2' (S2.cx F) (ev_var rfl)) λu5 Dn Dl=>?_)
  obtain⟨k5,r5⟩:=Dl
  have r5:R Z Dn.heap Dn.toks _ u5 (.str h):=r5
  induction r5.s with
  | str tk5 =>
   have S5:=S2.keeps k5
   have B5:=B2.stb (ce:=aw d) qC vT (bJ k5)
   refine wpAny_setItem_pairs (strKind_is Z.prog Z.w h tk5) B5.dD (λh' hd' hs=>?_) ?_
   .obtain⟨S6,x6,l6⟩:=S5.mutX (tk:=Dn.toks+1) (Fv _) (.inl B5.xD) hs (hd'.imp λo q=>q.elim λθ q=>q.elim λθ q=>q.1)
    obtain⟨a',b',B6⟩:=B.add (tk:=Dn.toks+1) (ktrans k2 k5) hnew (kheap k5 _ _ er) hr hbl hbn (λx hx=>⟨(hb x hx).1.imp λc e=>kheap k5 _ _ e,(hb x hx).2⟩) hd' hs l6
    refine wpAny_execs_nil (hQ5 _ _ ⟨rfl,_,ad,_,S6,bX (tZ k2 fr) (bX (extw_keeps k5) x6),⟨_,rfl⟩,a',b',?_⟩)
    rw[htake]
    exact B6
   .rw[EN,Gd]
    exact EK (Ge ..) (EK hk (by decide))
inductive WhI(Z:Cf)(env:Env)(d:DefRec)(Q0:Addr->Prop)(s0:Shared)(g:List Rule)(ks tokens:List Str)(D:Addr)(X:Addr->Prop):Nat->Shared->Prop
 | mk {t:Tab} {ch:Bool} {ad:Nat->Addr} {r3 r5 r6 r7:Option RV} {a:Str->Addr} {b:Str->Nat->Addr} {s:Shared} (S:Sx Z env (aw d) Q0 s0 X ad (DK g tokens r3 (tb ch) r5 r6 r7) s) (B:Tr Z env ks tokens.length t D a b X s) (P:PI g ks tokens t t false True) (hcl:ch=false->∀r∈g,∀i,i<=tokens.length->Cl ks tokens t r i):WhI Z env d Q0 s0 g ks tokens D X (2*BL ks tokens.length t+(if ch=true then 1 else 0)) s
theorem uN (vT:fg ((aw d).kind "tables")=true) {st:Stmt} (TT:WOk d st) (ek:∀e,EOk Z lvl Φ e) (F:Fx Z lvl A env (aw d) Q0 s0) (H:SpOk Φ g ks tokens ts) {D:Addr} {n:Nat} {Q:Flow->Shared->Prop} (W:WhI Z env d Q0 s0 g ks tokens D X n s)
  (hQ:∀ad σ a b s',Sx Z env (aw d) Q0 s0 X ad σ s'->Tr Z env ks tokens.length ts D a b X s'->Q .next s'):wpAny Z.M A (exec st env) Q E s:=by
 have vT':=vT
 replace vT:d9 ((aw d).kind "tables")=true:=cO vT
 induction TT with
 | mk tst st5 bd q e kt c5 h =>
 subst e
 refine wpAny_While (codeAny_whileLoop (WhI Z env d Q0 s0 g ks tokens D X) ?_ n W)
 intro k s' hI
 induction hI with
 | @mk t ch ad' r3 r5 r6 r7 a b s' S' B' P' hcl =>
  refine wm ((ek (.var 4)).te _ tst A env _ _ s' _ ch _ kt (S'.cx F) (ev_var (r:=at1 (.bool ch)) rfl) rfl) λb' Dn Dl=>?_
  obtain⟨rfl,k5⟩:=Dl
  have S5:=S'.keeps k5
  have B5:=B'.stb (ce:=aw d) qC vT (bJ k5)
  cases b' with
  | true =>
   refine wpAny_execs_cons (wm (jR (n:=0) (ek _).ev F st5 _ _ _ (.next (DK g tokens r3 (tb false) r5 r6 r7)) _ c5 S5 (jH bp rfl)) λfl Dq DP=>?_)
   obtain⟨rfl,ad6,S6,x6⟩:=DP
   refine wpAny_execs_cons (wC vT' h ek F H S6 (B5.stb qC vT (x6.stb rfl)) P' λad7 EI DJ S7 hJ=>?_)
   induction hJ with
   | mk t' ch' r3 r5 r6 r7 a b zz Ee hK T7 P7 =>
    subst Ee
    refine wpAny_execs_nil ⟨_,?_,.mk S7 T7 ⟨P7.snd,λθ=>⟨rfl,trivial⟩,λq=>(rQ q)⟩ λq=>(P7.eq q).1▸(P7.eq q).2⟩
    cases ch' with
    | true=>exact HG (HU (P7.lt rfl) (IU 1))
    | false=>rw[(P7.eq rfl).1];exact E7 _
  | false =>
   refine wpAny_execs_nil (hQ _ _ a b _ S5 ⟨B5.ld,B5.dD,B5.ra,λk hk i hi=>?_,B5.xD,B5.xa,B5.xb,B5.inj,B5.ne⟩)
   refine(B5.rb k hk i hi).imp λc e=>?_
   rw[F8 (g:=λj=>Value.bool (ts k i j)) λj hj=>congrArg Value.bool ((IsSpan.of (t:=t) (hcl rfl) P'.snd).uniq H.sp hk hi (FB (FL.mp hj)))]at e
   exact e
theorem sp_heads (vT:fg ((aw d).kind "tables")=true) {st:Stmt} (TT:HOk d st) (ek:∀e,EOk Z lvl Φ e) (F:Fx Z lvl A env (aw d) Q0 s0) (H:SpOk Φ g ks tokens ts) {D:Addr} {Q:Flow->Shared->Prop} {a:Str->Addr} {b:Str->Nat->Addr} (S:Sx Z env (aw d) Q0 s0 X ad (DK g tokens none none none none none) s) (B:Tr Z env (ks.take 0) tokens.length (λθ θ θ=>false) D a b X s)
  (hQ:∀X ad r3 a b s',Sx Z env (aw d) Q0 s0 X ad (DK g tokens r3 none none none none) s'->Tr Z env ks tokens.length (λθ θ θ=>false) D a b X s'->Q .next s'):wpAny Z.M A (exec st env) Q E s:=by
 induction TT with
 | mk it bd q1 q2 e k ns th h =>
 subst e
 refine for_w (q:=⟨ae ks,true,true⟩) (ds:=ks.map PV.str) (i:=3) (J:=λj X σ s=>(∃r3,σ=DK g tokens r3 none none none none)/\∃a b,Tr Z env (ks.take j) tokens.length (λθ θ θ=>false) D a b X s) rfl F S th ns
  ((ek _).ev _ _ A env _ _ s _ E k (S.cx F) (ev_callT (rs:=[⟨aj g,false,true⟩]) (evs_cons (ev_var rfl) evs_nil) H.hds)) rfl rfl ?_ ⟨⟨_,rfl⟩,_,_,B⟩ ?_ ?_
 .intro j X1 Ef t1 t2 h hst
  exact⟨h.1,h.2.imp λa q=>q.imp λb q=>q.stb qC (cO vT) hst⟩
 .rintro j dd X1 ad3 Ef EG E1 hd x0 ⟨⟨r3,rfl⟩,a,b,B3⟩ S3
  rw[EZ,F6]at hd
  obtain⟨x,hh,rfl⟩:=hd
  exact xQ vT h ek F H.g3 H.g2 hh H.nd S3 B3
 .rintro X3 ad3 EC C5 S3 x3 ⟨⟨r3,rfl⟩,a,b,B3⟩
  rw[EN,GV]at B3
  exact hQ X3 ad3 r3 a b C5 S3 B3
theorem span_body (vT:fg ((aw d).kind "tables")=true) (TT:SpText d) (ek:∀e,EOk Z lvl Φ e) (F:Fx Z lvl A env (aw d) Q0 s0) (H:SpOk Φ g ks tokens ts) (S:Sx Z env (aw d) Q0 s0 (λθ=>False) ad [some ⟨aj g,false,true⟩,some ⟨ae tokens,false,true⟩,none,none,none,none,none,none] s)
  {Q:Flow->Shared->Prop} (hQ:∀v s',Keeps s0 s'->R Z s'.heap s'.toks (λa=>Q0 a/\s0.heap.get? a=none) v (aI ks tokens.length ts)->Q (.ret v) s'):wpAny Z.M A (execs d.body env) Q E s:=by
 induction TT with
 | mk st1 st2 st4 st5 q1 q2 q3 q4 q5 eb c1 c4 hh hw =>
 rw[eb]
 refine wpAny_execs_cons (wm (jR (n:=0) (ek _).ev F st1 _ _ _ (.next (DK g tokens none none none none none)) _ c1 S (jH (r:=at1 (.int (tokens.length:Nat))) (dt (ev_var rfl) (by show some (tokens.map PV.str).length=_;rw[EN])) rfl)) λfl CZ C4=>?_)
 obtain⟨rfl,ad1,S1,x1⟩:=C4
 refine wpAny_execs_cons (wpAny_Assign_Name ?_ (swaps_plain rfl))
 rw[eval_Dict_empty]
 refine wpAny_bind (wpAny_standAt (wpAny_newObj_type ?_))
 refine sR F (S1.addX (kpush CZ _) (size_none _) ⟨_,Heap.get?_push_size _ rfl⟩) qC vT λC2 S2 x2 stX ldT=>?_
 have B2:Tr Z env (ks.take 0) tokens.length (λθ θ θ=>false) CZ.heap.objs.size (λθ=>0) (λθ θ=>0) (λa=>False\/a=CZ.heap.objs.size) C2:=by
  have nk:∀k,k∈ks.take 0->False:=λk hk=>uS (Ja▸hk:k∈([]:List Str))
  refine⟨ldT,?_,λk hk=>(nk k hk).elim,λk hk=>(nk k hk).elim,.inr rfl,λk hk=>(nk k hk).elim,λk hk=>(nk k hk).elim,λk hk=>(nk k hk).elim,rA (S1.cx F).top.g⟩
  exact(Heap.DictOf.new (prog:=Z.prog) (w:=Z.w) (knd:=strKind Z.prog Z.w) CZ.heap).imp λo e=>e.imp λes e=>e.imp λep e=>⟨stX _ _ (.inr rfl) e.1,e.2⟩
 refine wpAny_execs_cons (sp_heads vT hh ek F H S2 B2 λX3 ad3 r3 a b C5 S3 B3=>?_)
 refine wpAny_execs_cons (wm (jR (n:=0) (ek _).ev F st4 _ _ _ (.next (DK g tokens r3 (tb true) none none none)) _ c4 S3 (jH bp rfl)) λfl C7 Dh=>?_)
 obtain⟨rfl,ad4,S4,x4⟩:=Dh
 refine wpAny_execs_cons (uN vT hw ek F H (.mk S4 (B3.stb qC (cO vT) (x4.stb rfl)) ⟨λG hG h hk i j hi hj q=>(rQ q),λθ=>⟨rfl,trivial⟩,λq=>(rQ q)⟩ λq=>(rQ q.symm)) λad5 EJ a b Dn S5 B5=>?_)
 exact wpAny_execs_cons (wpAny_Return_some (gN F.fn B5.ld (by decide) (by decide) (hQ _ _ S5.k0.all (B5.toR (λc hc=>⟨F.q0 c (S5.ob c (.inl hc)),S5.ob c (.inl hc)⟩) H.g2 H.g3))))
theorem Ctr.addT {d:DefRec} (T:Ctr Z lvl Φ) (D:Wd Z) (hG:∀x q,Φ x []=some q->gp x=some q.1) (hT:∃h,Tp Z h) (hd:d∈recsOf Z.p) (FH:FnHead d ["g","tokens"]) (vT:fg ((aw d).kind "tables")=true) (TT:SpText d)
  (hbind:∀pm code doc (vals:List Value),vals.length=(["g","tokens"]:List Str).length->bindArgs (docDef d.name d.params d.body d.scope pm code doc) ⟨vals,[]⟩=pure ((["g","tokens"]:List Str).zip vals)) :
  Ctr Z (lvl+1) (Dr Φ d.name (wf Φ)):=by
 intro f ds dd fr h0 hf h
 delta Dr at h
 split at h
 .rename_i hf
  subst hf
  refine cps λGq hGq=>?_
  obtain⟨g,ks,tokens,t,rfl,H,he⟩:=kG h
  cases he
  refine cps λGq hGq=>?_
  obtain⟨H0,T0⟩:=hT
  obtain⟨a,zz,zz,zz,ha,zz,zz,zz,zz⟩:=T0.fn d hd
  refine hGq ?_
  clear hGq
  refine hGq ?_
  clear hGq
  refine⟨a,ha,λh Th=>?_,?_⟩
  .obtain⟨a',o,pm,doc,h1,h2,h3,h4,h5⟩:=Th.fn d hd
   cases ha.symm.trans h1
   exact⟨o,_,h2,h3⟩
  .intro A E s vs Q hh hd' hu hTs htk hQ hr
   refine fn_call (gl:=false) (ys:=["n","head","changed","rule","i","j"]) hd FH hbind ha hh hd' hu hTs htk (λh=>rQ h) hQ hr (by rw[hr.length];rfl) λenv CZ E' zz Fx1 Sx1=>?_
   exact span_body vT TT (eok D T hG) Fx1 H Sx1 λv s' k r=>⟨v,rfl,k,r.mono λb hb=>⟨hb.1,λθ=>hb.2⟩⟩
 .exact T.up f ds dd fr h0 hf h
end
end Mine
namespace Mine
open PySem PySem.SeqAt PySem.Calls PyProof.Rows L7
noncomputable def p8:Program:=Gm
noncomputable def rec8(n:Str):DefRec:=((recsOf p8).find? λd=>d.name==n).getD ⟨n,⟨[],[],EL,[],[],EL,[]⟩,[],default,default⟩
theorem Cd:(["law","_law_carried","_law_bools","_law_spans","_law_letters","_law_after","_law_all","_law_words","_law_pick","trimmed","reachable_heads","productive_heads","derives","derives_from","span_tables","places_after","replayed","follow_sets","first_sets","first_of_string","nullable_heads","heads_built_from","merged","tokens_of","heads_of"]:List Str).all (λn=>((recsOf p8).find? λd=>d.name==n).isSome)=true:=by decide +kernel
theorem AL {n:Str} (h:n∈(["law","_law_carried","_law_bools","_law_spans","_law_letters","_law_after","_law_all","_law_words","_law_pick","trimmed","reachable_heads","productive_heads","derives","derives_from","span_tables","places_after","replayed","follow_sets","first_sets","first_of_string","nullable_heads","heads_built_from","merged","tokens_of","heads_of"]:List Str)):rec8 n∈recsOf p8/\(rec8 n).name=n:=by
 have h:=Fs.mp Cd n h
 delta rec8
 cases e:(recsOf p8).find? λd=>d.name==n with
 | none=>rw[e]at h;cases h
 | some d=>exact⟨List.mem_of_find?_eq_some e,eq_of_beq (List.find?_some e :)⟩
theorem gV{α:Type}{l:List α}{n:Nat}(h:l.length=n+1):∃a l',l=a::l'/\l'.length=n:=by
 cases l with
 | nil=>cases h
 | cons a l=>exact⟨a,l,rfl,GY h⟩
theorem js{α:Type}{l:List α}(h:l.length=1):∃a,l=[a]:=by
 obtain⟨a,l',rfl,h'⟩:=gV h
 exact⟨a,by rw[F3.mp h']⟩
theorem kq{α:Type}{l:List α}(h:l.length=2):∃a1 a2,l=[a1,a2]:=by
 obtain⟨a1,l',rfl,h'⟩:=gV h
 obtain⟨a2,rfl⟩:=js h'
 exact⟨a1,a2,rfl⟩
theorem Ah{α:Type}{l:List α}(h:l.length=3):∃a1 a2 a3,l=[a1,a2,a3]:=by
 obtain⟨a1,l',rfl,h'⟩:=gV h
 obtain⟨a2,a3,rfl⟩:=kq h'
 exact⟨a1,a2,a3,rfl⟩
theorem A1{α:Type}{l:List α}(h:l.length=4):∃a1 a2 a3 a4,l=[a1,a2,a3,a4]:=by
 obtain⟨a1,l',rfl,h'⟩:=gV h
 obtain⟨a2,a3,a4,rfl⟩:=Ah h'
 exact⟨a1,a2,a3,a4,rfl⟩
def aO(d:DefRec)(xs:List Str):Prop:=∀pm code doc (vals:List Value),vals.length=xs.length->bindArgs (docDef d.name d.params d.body d.scope pm code doc) ⟨vals,[]⟩=pure (xs.zip vals)
theorem kW:cP false (rec8 "_law_carried") fM ku bu=true:=by decide +kernel
theorem iU:aO (rec8 "_law_carried") fM:=λpm code doc vals h=>by
 obtain⟨a1,a2,rfl⟩:=kq h
 rfl
theorem nm:cP false (rec8 "_law_spans") iq mQ dy=true:=by decide +kernel
theorem kT:aO (rec8 "_law_spans") iq:=λpm code doc vals h=>by
 obtain⟨a1,a2,rfl⟩:=kq h
 rfl
theorem j4:cP false (rec8 "_law_letters") fU lf dQ=true:=by decide +kernel
theorem i5:aO (rec8 "_law_letters") fU:=λpm code doc vals h=>by
 obtain⟨a1,rfl⟩:=js h
 rfl
theorem mX:cP false (rec8 "_law_after") iD nM dG=true:=by decide +kernel
theorem km:aO (rec8 "_law_after") iD:=λpm code doc vals h=>by
 obtain⟨a1,a2,a3,a4,rfl⟩:=A1 h
 rfl
theorem qr:cP false (rec8 "_law_all") jU qc eQ=true:=by decide +kernel
theorem nS:aO (rec8 "_law_all") jU:=λpm code doc vals h=>by
 obtain⟨a1,a2,rfl⟩:=kq h
 rfl
theorem n7:cP false (rec8 "_law_words") ig nz dK=true:=by decide +kernel
theorem jZ:aO (rec8 "_law_words") ig:=λpm code doc vals h=>by
 obtain⟨a1,a2,rfl⟩:=kq h
 rfl
theorem pC:cP false (rec8 "_law_pick") jj pI fC=true:=by decide +kernel
theorem lE:aO (rec8 "_law_pick") jj:=λpm code doc vals h=>by
 obtain⟨a1,a2,rfl⟩:=kq h
 rfl
theorem rq:cP false (rec8 "trimmed") kf qQ fk=true:=by decide +kernel
theorem mE:aO (rec8 "trimmed") kf:=λpm code doc vals h=>by
 obtain⟨a1,rfl⟩:=js h
 rfl
theorem gA:cP false (rec8 "reachable_heads") dO gM bD=true:=by decide +kernel
theorem fR:aO (rec8 "reachable_heads") dO:=λpm code doc vals h=>by
 obtain⟨a1,rfl⟩:=js h
 rfl
theorem gi:cP false (rec8 "productive_heads") dw gm cr=true:=by decide +kernel
theorem fw:aO (rec8 "productive_heads") dw:=λpm code doc vals h=>by
 obtain⟨a1,rfl⟩:=js h
 rfl
theorem rh:cP false (rec8 "derives") j2 qG ke=true:=by decide +kernel
theorem mF:aO (rec8 "derives") j2:=λpm code doc vals h=>by
 obtain⟨a1,a2,rfl⟩:=kq h
 rfl
theorem jx:cP false (rec8 "derives_from") fs jz ft=true:=by decide +kernel
theorem gW:aO (rec8 "derives_from") fs:=λpm code doc vals h=>by
 obtain⟨a1,a2,a3,rfl⟩:=Ah h
 rfl
theorem jt:cP false (rec8 "places_after") fm jr cB=true:=by decide +kernel
theorem iC:aO (rec8 "places_after") fm:=λpm code doc vals h=>by
 obtain⟨a1,a2,a3,a4,rfl⟩:=A1 h
 rfl
theorem oU:cP false (rec8 "replayed") jp pv d5=true:=by decide +kernel
theorem lI:aO (rec8 "replayed") jp:=λpm code doc vals h=>by
 obtain⟨a1,a2,rfl⟩:=kq h
 rfl
theorem kY:cP false (rec8 "follow_sets") fH j6 bR=true:=by decide +kernel
theorem iN:aO (rec8 "follow_sets") fH:=λpm code doc vals h=>by
 obtain⟨a1,rfl⟩:=js h
 rfl
theorem lD:cP false (rec8 "first_sets") gw lH cy=true:=by decide +kernel
theorem jA:aO (rec8 "first_sets") gw:=λpm code doc vals h=>by
 obtain⟨a1,rfl⟩:=js h
 rfl
theorem gB:cP false (rec8 "first_of_string") dP gG bz=true:=by decide +kernel
theorem fE:aO (rec8 "first_of_string") dP:=λpm code doc vals h=>by
 obtain⟨a1,a2,a3,rfl⟩:=Ah h
 rfl
theorem ie:cP false (rec8 "nullable_heads") eg ir cL=true:=by decide +kernel
theorem gj:aO (rec8 "nullable_heads") eg:=λpm code doc vals h=>by
 obtain⟨a1,rfl⟩:=js h
 rfl
theorem gn:cP false (rec8 "heads_built_from") dx gh bq=true:=by decide +kernel
theorem fy:aO (rec8 "heads_built_from") dx:=λpm code doc vals h=>by
 obtain⟨a1,a2,rfl⟩:=kq h
 rfl
theorem sN:cP false (rec8 "merged") mn sO ja=true:=by decide +kernel
theorem pE:aO (rec8 "merged") mn:=λpm code doc vals h=>by
 obtain⟨a1,a2,rfl⟩:=kq h
 rfl
theorem nI:cP false (rec8 "tokens_of") iw na dH=true:=by decide +kernel
theorem jV:aO (rec8 "tokens_of") iw:=λpm code doc vals h=>by
 obtain⟨a1,rfl⟩:=js h
 rfl
theorem pi:cP false (rec8 "heads_of") ji pM fP=true:=by decide +kernel
theorem lA:aO (rec8 "heads_of") ji:=λpm code doc vals h=>by
 obtain⟨a1,rfl⟩:=js h
 rfl
theorem An:cP true (rec8 "law") wz vC bh=true:=by decide +kernel
theorem vn:aO (rec8 "law") wz:=λpm code doc vals h=>by
 obtain⟨a1,rfl⟩:=js h
 rfl
theorem kl:aO (rec8 "_law_bools") ["row"]:=λpm code doc vals h=>by
 obtain⟨a1,rfl⟩:=js h
 rfl
theorem jb:aO (rec8 "span_tables") ["g","tokens"]:=λpm code doc vals h=>by
 obtain⟨a1,a2,rfl⟩:=kq h
 rfl
theorem m7:cP false {rec8 "_law_bools" with body:=[]} ["row"] [] []=true:=by decide +kernel
theorem j8:cP false {rec8 "span_tables" with body:=[]} ["g","tokens"] [] []=true:=by decide +kernel
theorem fh{d:DefRec}{xs:List Str}(h:cP false {d with body:=[]} xs [] []=true):FnHead d xs:=let⟨a,b,c,e,f,g,i⟩:=(gJ h).hd;⟨a,b,c,e,f,g,i⟩
theorem v8:sm (rec8 "_law_bools")=true:=by decide +kernel
theorem kT8:fg ((aw (rec8 "span_tables")).kind "tables")=true:=by decide +kernel
theorem st8:SpText (rec8 "span_tables"):=by
 refine .mk _ _ _ _ _ _ _ _ _ rfl (by decide +kernel) (by decide +kernel) (.mk _ _ _ _ rfl ?_ ?_ ?_ (.mk _ _ _ _ _ _ _ _ _ rfl ?_ ?_ ?_ ?_ ?_)) (.mk _ _ _ _ rfl ?_ ?_ (.mk _ _ _ _ rfl ?_ ?_ ?_ (.mk _ _ _ _ rfl ?_ ?_ ?_ (.mk _ _ _ _ rfl ?_ ?_ ?_ (.mk _ _ _ _ _ _ _ _ _ _ _ _ rfl ?_ ?_ ?_ ?_ ?_ ?_)))))<;>decide +kernel
structure Hp(Z:Cf):Prop where
 hp:recsOf Z.p=recsOf p8
 D:Wd Z
 hT:∃h,Tp Z h
theorem ya:∀d∈fns,∀Φ,d.g Φ []=none:=by
 have key:∀{name ss k m},k≠0->∀Φ,(fn name ss k m).g Φ []=none:=λ{name ss k m} hk Φ=>by
  cases e:AJ Φ ss k m []with
  | none=>exact e
  | some r=>exact absurd (ol e).1.symm hk
 have sp:∀Φ,wf Φ []=none:=λΦ=>by
  cases e:wf Φ []with
  | none=>rfl
  | some r=>obtain⟨_,_,_,_,h,_⟩:=kG e;cases h
 delta fns
 simp only[List.forall_mem_cons]
 exact⟨key (by decide),λθ=>rfl,key (by decide),key (by decide),key (by decide),key (by decide),key (by decide),key (by decide),key (by decide),key (by decide),key (by decide),key (by decide),key (by decide),sp,key (by decide),key (by decide),key (by decide),key (by decide),key (by decide),key (by decide),key (by decide),key (by decide),key (by decide),key (by decide),λθ h=>nomatch h⟩
theorem xw{f:Str}:∀{l:List FnDef},(∀d∈l,∀Φ,d.g Φ []=none)->tab l f []=none:=by
 intro l0
 induction l0 with
 | nil=>exact @λθ=>rfl
 | cons d l ih =>
  intro h
  show(if f=d.name then d.g (tab l) []else tab l f [])=none
  split
  .exact h d (EP ..) _
  .exact ih λx hx=>h x (EO _ hx)
theorem Ar{n:Nat}{f:Str}:Ft n f []=none:=xw λd hd=>ya d (FU hd)
theorem A3{n:Nat}(x:Str)(q:PV×Bool)(h:Ft n x []=some q):gp x=some q.1:=by rw[Ar]at h;cases h
theorem Ft_eq{n:Nat}{d:FnDef}(hd:fns[n]?= some d):Ft n=Dr (Ft (n+1)) d.name (d.g (Ft (n+1))):=by
 obtain⟨hn,e⟩:=EY.mp hd
 unfold Ft
 rw[GF hn,e]
 rfl
section
variable{Z:Cf}{lvl:Nat}
theorem ay (H:Hp Z) {n:Nat} {name:Str} {ss:List SStmt} {k m:Nat} {xs ys:List Str} (hf:fns[n]?= some (fn name ss k m)) (hm:name∈(["law","_law_carried","_law_bools","_law_spans","_law_letters","_law_after","_law_all","_law_words","_law_pick","trimmed","reachable_heads","productive_heads","derives","derives_from","span_tables","places_after","replayed","follow_sets","first_sets","first_of_string","nullable_heads","heads_built_from","merged","tokens_of","heads_of"]:List Str)) (ok:cP false (rec8 name) xs ys ss=true) (hb:aO (rec8 name) xs) (hk:k=xs.length) (hy:m=ys.length) (T:Ctr Z lvl (Ft (n+1))):Ctr Z (lvl+1) (Ft n):=by
 subst hk hy
 have h:=Ctr.add T H.D A3 H.hT (H.hp▸(AL hm).1) (gJ ok) hb (λds r h=>ol h)
 rw[(AL hm).2]at h
 rw[Ft_eq hf]
 exact h
theorem ctr8(H:Hp Z):Ctr Z 23 (Ft 0):=by
 have c24:Ctr Z 0 (Ft 24):=λf ds d fr θ θ h=>by cases h
 have c23:=ay H (n:=23) rfl (by decide +kernel) pi lA rfl rfl c24
 have c22:=ay H (n:=22) rfl (by decide +kernel) nI jV rfl rfl c23
 have c21:=ay H (n:=21) rfl (by decide +kernel) sN pE rfl rfl c22
 have c20:=ay H (n:=20) rfl (by decide +kernel) gn fy rfl rfl c21
 have c19:=ay H (n:=19) rfl (by decide +kernel) ie gj rfl rfl c20
 have c18:=ay H (n:=18) rfl (by decide +kernel) gB fE rfl rfl c19
 have c17:=ay H (n:=17) rfl (by decide +kernel) lD jA rfl rfl c18
 have c16:=ay H (n:=16) rfl (by decide +kernel) kY iN rfl rfl c17
 have c15:=ay H (n:=15) rfl (by decide +kernel) oU lI rfl rfl c16
 have c14:=ay H (n:=14) rfl (by decide +kernel) jt iC rfl rfl c15
 have c13:Ctr Z 11 (Ft 13):=by
  have h:=Ctr.addT c14 H.D A3 H.hT (H.hp▸(AL (n:="span_tables") (by decide +kernel)).1) (fh j8) kT8 st8 jb
  rw[(AL (n:="span_tables") (by decide +kernel)).2]at h
  rw[Ft_eq (d:=⟨"span_tables",wf⟩) rfl]
  exact h
 have c12:=ay H (n:=12) rfl (by decide +kernel) jx gW rfl rfl c13
 have c11:=ay H (n:=11) rfl (by decide +kernel) rh mF rfl rfl c12
 have c10:=ay H (n:=10) rfl (by decide +kernel) gi fw rfl rfl c11
 have c9:=ay H (n:=9) rfl (by decide +kernel) gA fR rfl rfl c10
 have c8:=ay H (n:=8) rfl (by decide +kernel) rq mE rfl rfl c9
 have c7:=ay H (n:=7) rfl (by decide +kernel) pC lE rfl rfl c8
 have c6:=ay H (n:=6) rfl (by decide +kernel) n7 jZ rfl rfl c7
 have c5:=ay H (n:=5) rfl (by decide +kernel) qr nS rfl rfl c6
 have c4:=ay H (n:=4) rfl (by decide +kernel) mX km rfl rfl c5
 have c3:=ay H (n:=3) rfl (by decide +kernel) j4 i5 rfl rfl c4
 have c2:=ay H (n:=2) rfl (by decide +kernel) nm kT rfl rfl c3
 have c1:Ctr Z 22 (Ft 1):=by
  rw[Ft_eq (d:=⟨"_law_bools",λzz=>AI⟩) rfl]
  intro f ds d fr h0 hf h
  delta Dr at h
  rw[if_neg hf]at h
  exact c2 f ds d fr h0 hf h
 have c0:=ay H (n:=0) rfl (by decide +kernel) kW iU rfl rfl c1
 exact c0
end
noncomputable def Bz(o:Obj):Option {x:List Value×Nat // o=gO x.1 x.2}:=match o with
 | ⟨c,none,.seq ⟨xs⟩ n,⟨[]⟩⟩=>if h:c=.type "tuple" then some ⟨(xs,n),by rw[h];rfl⟩else none
 | _=>none
noncomputable def qW{α:Type}(v:Option α):Option {x:α // v=some x}:=match v with
 | some x=>some ⟨x,rfl⟩
 | none=>none
noncomputable def By(v:Value):Option {a:Addr // v=.ref a}:=match v with
 | .ref a=>some ⟨a,rfl⟩
 | _=>none
noncomputable def Bs(v:Value):Option {x:Str×Tok // v=.str x.1 x.2}:=match v with
 | .str x t=>some ⟨(x,t),rfl⟩
 | _=>none
noncomputable def At(f:PV->Value->Bool):List PV->List Value->Bool
 | [],[]=>true
 | d::ds,v::vs=>f d v&&At f ds vs
 | θ,ξ=>false
noncomputable def wI{α:Type}(o:Option α)(f:α->Bool):Bool:=match o with
 | some x=>f x
 | none=>false
theorem ph{α:Type}{o:Option α}{f:α->Bool}(h:wI o f=true):∃x,o=some x/\f x=true:=by
 cases o with
 | none=>cases h
 | some x=>exact⟨x,rfl,h⟩
noncomputable def Cb(K:Nat)(d:PV)(v:Value):Bool:=wI (dS d) λx=>aH (Bs v) λy=>decide (x=y.1)&&(!decide (y.2=0)&&decide (y.2<K))
noncomputable def CF(h:Heap)(K:Nat):Nat->PV->Value->Bool
 | 0,d,v=>Cb K d v
 | n+1,d,v=>Cb K d v||wI (dT d) λds=>aH (By v) λa=>aH (qW (h.get? a)) λo=>aH (Bz o) λx=>(!n4 ds&&decide (ds.length<=az))&&At (CF h K n) ds x.1
theorem xY{Z:Cf}{h:Heap}{K:Nat}{f:PV->Value->Bool}(H:∀d v,f d v=true->R Z h K (λθ=>True) v d):∀{ds:List PV} {vs:List Value},At f ds vs=true->RS Z h K (λθ=>True) vs ds:=by
 intro l0
 induction l0 with
 | nil =>
  intro vs e
  cases vs with
  | nil=>exact .nil
  | cons v vs=>cases e
 | cons d ds ih =>
  intro vs e
  cases vs with
  | nil=>cases e
  | cons v vs=>exact .cons (H _ _ (and2 e).1) (ih (and2 e).2)
theorem AW{Z:Cf}{h:Heap}{K:Nat}(n:Nat):∀(d:PV) (v:Value),CF h K n d v=true->R Z h K (λθ=>True) v d:=by
 have b:∀(d:PV) (v:Value),Cb K d v=true->R Z h K (λθ=>True) v d:=by
  intro d v e
  obtain⟨x,hx,e1⟩:=ph e
  obtain⟨y,rfl,e2⟩:=ag e1
  obtain⟨h1,h2⟩:=and2 e2
  obtain⟨h3,h4⟩:=and2 h2
  rw[dR hx,decT h1]
  exact .str _ _ (of_decide_eq_false (bZ h3)) (decT h4)
 induction n with
 | zero=>exact b
 | succ n ih =>
  intro d v e
  rcases HR.mp e with e | e
  .exact b d v e
  .obtain⟨ds,hd,e0⟩:=ph e
   obtain⟨a,rfl,e1⟩:=ag e0
   obtain⟨o,ho,e2⟩:=ag e1
   obtain⟨x,rfl,e3⟩:=ag e2
   obtain⟨e4,e5⟩:=and2 e3
   rw[lM hd]
   exact .tup trivial ho (decT (and2 e4).2) (xY ih e5) (bZ (and2 e4).1)
noncomputable def tabNames:List Str:=["_law_joins","_law_s","_law_a","_law_t","_law_u","_law_v"]
noncomputable def startOk(K:Nat)(s:Shared):Bool:=tabNames.all (λx=>aH (qW (gp x)) λd=>aH (qW (s.heap.nsMap mainGlobals x)) λv=>CF s.heap K 4 d v)&&(s.heap.isNs cStatics&&(s.heap.nsMap cStatics sharingNotToldKey).isNone)
structure StartP(K:Nat)(mg:Str->Option Value)(h:Heap):Prop where
 tab:∀x d,gp x=some d->∃v,mg x=some v/\∀Z,R Z h K (λθ=>True) v d
 nb:NoneBooked h
theorem uI{x:Str}{d:PV}(h:gp x=some d):x∈tabNames:=(look_mem h).1
theorem start_of{K:Nat}(s:Shared)(e:startOk K s=true):StartP K (s.heap.nsMap mainGlobals) s.heap:=by
 obtain⟨e1,e2⟩:=and2 e
 obtain⟨e3,e4⟩:=and2 e2
 refine⟨λx d hx=>?_,_,.of_isNs e3,cc e4⟩
 refine cps λGq hGq=>?_
 obtain⟨d',hd,q⟩:=ag (all_of e1 (uI hx))
 obtain⟨v,hv,q⟩:=ag q
 refine hGq ?_
 clear hGq
 cases hd.symm.trans hx
 exact⟨v,hv,λZ=>AW 4 d v q⟩
theorem StartP.keeps{K:Nat}{mg:Str->Option Value}{h h':Heap}(x:StartP K mg h)(hk:∀b o,h.get? b=some o->h'.get? b=some o):StartP K mg h' :=
 ⟨λy d hy=>(x.tab y d hy).imp λv q=>⟨q.1,λZ=>(q.2 Z).keeps hk (ER _)⟩,x.nb.imp λm q=>⟨q.1.keeps hk,q.2⟩⟩
theorem tp_of{prog:Program}{w:World}{p:Program}{loose:List Str}{mean:ExcName->Option Value}{mg mb:Str->Option Value}{h:Heap}(T:Top p loose mean mg mb h)(nb:NoneBooked h):∃ct tb,Tp ⟨prog,w,p,mg,mb,ct,tb⟩ h:=by
 have key:∀d:DefRec,∃q:Addr×Addr,d∈recsOf p->FnAt ⟨prog,w,p,mg,mb,λθ=>q.1,λθ=>q.2⟩ h d:=λd=>by
  rcases Jm (d∈recsOf p)with hd | hd
  .refine cps λGq hGq=>?_
   obtain⟨a,o,pm,code,doc,h1,h2,h3,h4⟩:=T.fn d hd
   obtain⟨a',o',fd,c,P,k1,k2,k3,k4,k5,k6⟩:=T.tab d hd
   cases h1.symm.trans k1
   cases h2.symm.trans k2
   cases h3.symm.trans k3
   cases k4
   exact hGq ⟨(c,P),λθ=>⟨a,o,pm,doc,h1,h2,h3,h4,#[],k5,k6⟩⟩
  .exact⟨(0,0),λq=>absurd q hd⟩
 refine⟨λd=>(Gi (key d)).1,λd=>(Gi (key d)).2,T.g,T.b,T.nolimit,λd hd=>?_,T.builtins,nb,T.bmain⟩
 cases F9 (key d) hd with | mk a o pm doc h1 h2 h3 h4 h5=>exact⟨a,o,pm,doc,h1,h2,h3,h4,h5⟩
noncomputable def Er:FTab:=λx ds=>if ds.isEmpty then(gp x).map λd=>(d,true)else Ft 0 x ds
theorem kE{f:Str}{d:PV}{ds:List PV}:Er f (d::ds)=Ft 0 f (d::ds):=if_neg (c:=(d::ds).isEmpty=true) Gk
theorem yV:Di Er:=⟨λf d ds r h=>kE.trans h,rfl,rfl,rfl,rfl,rfl,rfl⟩
section
variable{Z:Cf}{lvl:Nat}
theorem Bx(H:Hp Z):Ctr Z 24 Er:=λf ds d fr h0 hf h=>by
 cases ds with
 | nil=>exact absurd rfl h0
 | cons x xs=>exact(ctr8 H).up f _ d fr h0 hf (kE.symm.trans h)
theorem A8(x:Str)(q:PV×Bool)(h:Er x []=some q):gp x=some q.1:=by
 obtain⟨d,hd,rfl⟩:=aq h
 exact hd
theorem xh{h:Heap}{N:Nat}{P:Addr->Prop}:∀{vs:List Value} {ns:List Int},IntsAre vs ns->RS Z h N P vs (ns.map PV.int):=by
 intro l0
 induction l0 with
 | nil=>exact @λns h=>by cases h;exact .nil
 | cons v vs ih =>
  intro ns h
  cases h with
  | cons zz zz h=>exact .cons (.int _ _) (ih h)
theorem law_call {E:Value->Shared->Prop} {s:Shared} {K:Nat} {fa a:Addr} {vs:List Value} {k:Nat} {ns:List Int} {Q:Value->Shared->Prop} (H:Hp Z) (T:Tp Z s.heap) (P:StartP K Z.mg s.heap) (hK:K<=s.toks) (h0:K≠0) (hfa:Z.mg "law"=some (.ref fa)) (ha:s.heap.get? a=some (bY vs k)) (hi:IntsAre vs ns) (hn:ns.length<=az)
  (hQ:∀s',KeepG true s s'->Q (.bool true) s'):wpAny Z.M callerA (call (.ref fa) [.ref a]) Q E s:=by
 obtain⟨m1,m2⟩:=AL (n:="law") (by decide +kernel)
 obtain⟨b1,b2⟩:=AL (n:="_law_bools") (by decide +kernel)
 have FF:=gJ An
 have ek:=eok H.D (Bx H) A8
 refine fn_call (lvl:=24) (gl:=true) (ys:=vC) (Q:=λθ=>True) (ds:=[ar ns]) (H.hp▸m1) FF.hd vn (by rw[m2];exact hfa) rfl (by decide) (by decide) T (λq=>h0 (IG.mp (q▸hK))) (λθ x d hx=>(P.tab x d hx).imp λv q=>⟨q.1,(q.2 Z).frame (λa o p dd e=>⟨e,p⟩) hK⟩) (λθ θ=>trivial) (.one (.list trivial ha (by rw[EN];exact hn) (xh hi))) rfl λenv CZ E' hcode F S=>?_
 refine wm (CX ek (λc=>?_) F bh _ _ _ _ _ _ FF.chk S (B0 yV ns 0)) λfl s' h'=>?_
 .intro e ad σ s r k E hc
  cases c with
  | gany lit it=>exact uE H.D ek F (H.hp▸m1) hcode e ad σ s r k E hc
  | not c=>exact we H.D ek F (H.hp▸b1) b2 (fh m7) v8 kl (λd ds r h=>by
    have e:=Ft_eq (n:=0) (d:=fn "_law_carried" bu 2 2) rfl
    have e1:=Ft_eq (n:=1) (d:=⟨"_law_bools",λzz=>AI⟩) rfl
    rw[kE,e,Dr,if_neg (show("_law_bools":Str)≠(fn "_law_carried" bu 2 2).name from(by decide +kernel:("_law_bools":Str)≠ "_law_carried")),e1,Dr,if_pos rfl]at h
    exact h) e ad σ s r k E hc
  | _=>exact absurd hc Gk
 .obtain⟨v,rfl,kk,r⟩:=h'
  rw[show v=.bool true from R.b r]
  exact⟨_,rfl,hQ s' kk⟩
theorem KeepG.good{s s':Shared}(K:KeepG true s s')(hg:s.gens=#[]):OldK s.heap s'.heap/\s'.os=s.os/\AllBare s'.gens:=by
 obtain⟨h',t,d,gs,rfl,ht0,k,th,h1,gt⟩:=K
 exact⟨(gt rfl).2.1,rfl,(gt rfl).1 (.of_eq hg)⟩
end
end Mine
open PySem PySem.W PyProof.Rows
set_option Elab.async false
namespace Mine
noncomputable def view8:Program:={Gm with main:={Gm.main with body:=Gm.main.body.filter λs=>s.ctorIdx==0}}
noncomputable def z7(p:Program)(loose:List Str):Bool :=
 bltNames.all (λx=>!startupNames.contains x&&!loose.contains x&&!((recsOf p).map (·.name)).contains x&&!((litsOf p).map (·.1)).contains x&&!((clssOf p loose).map (·.name)).contains x)
theorem wd_of{prog:Program}{w:World}{p:Program}{loose:List Str}{mean:ExcName->Option Value}{mg mb:Str->Option Value}{h:Heap}{ct tb:DefRec->Addr}(hv:z7 p loose=true)(T:Top p loose mean mg mb h):Wd ⟨prog,w,p,mg,mb,ct,tb⟩:=by
 refine⟨λx hx=>?_⟩
 have hq:=all_of hv hx
 simp only[Gj,FX]at hq
 obtain⟨⟨⟨⟨a,b⟩,c⟩,d⟩,e⟩:=hq
 exact T.free x (by simpa using a) (by simpa using b) (by simpa using c) (by simpa using d) (by simpa using e)
end Mine
set_option maxRecDepth 100000 in
set_option maxHeartbeats 8000000 in
set_option tactic.hygienic true in
theorem PySem.Challenge.cw_sx_vaugur_8_holds : PySem.Challenge.rw_sx_vaugur_8.Holds := by
 w_on
 refine holds_law (by kernel_rfl) λsaid=>?_
 refine PySem.W.holds_openX (q:=Mine.view8) (loose:=Mine.tabNames) (Xt:=λs=>(xlAt Mine.view8 [] s&&recOk (RowW.records (OpenRow.toRowW (OpenLaw.row Gn))) s)&&Mine.startOk 446 s) (XP:=λmg h=>XL Mine.view8 [] mg h/\Mine.StartP 446 mg h) (Yf:=λs=>s.toks) (Ya:=λθ=>446) (N:=1940) ?hl (λs e=>⟨xl_of s (GQ.mp (GQ.mp e).1).1,Mine.start_of s (GQ.mp e).2⟩) (λmg h h' x hk=>⟨XL.keeps mg h h' x.1 hk,x.2.keeps hk⟩) (by rfl) (by rfl) (by rfl) (λs e=>recFacts_of (GQ.mp (GQ.mp e).1).2) (by rfl) (by first | assumption | decide +kernel) (by decide +kernel) ⟨rfl,rfl,rfl,rfl,rfl,by decide +kernel⟩ ?hw ?hc
 case hl=>(intro w;kernel_rfl)
 case hw=>w_witness2
 case hc =>
  intro w DE CZ mg mb G Y fa o pm cd doc dV kV ho hd hcd hD hmg hg args vals as L hpre hlay hrd hwl hlo
  have KE:=G.X.2
  have T:=G.T
  obtain⟨ct,tb,TT⟩:=Mine.tp_of (prog:=Gn.row.prog) (w:=w) T KE.nb
  wrow_args hpre hlay hrd hwl hlo
  rename_i ns hs hlay0 hL1 hr1 hl2 as4 as3 a vs as0 hL ra w1 r0 hI hr hc1 hc0
  refine Mine.law_call (Z:=⟨Gn.row.prog,w,Mine.view8,mg,mb,ct,tb⟩) (k:=0) ⟨by rfl,Mine.wd_of (by decide +kernel) T,_,TT⟩ TT KE (PySem.W.X.script_toks L Y) (by decide) hmg (PySem.W.X.script_obj L hL) hI (EK (by omega:ns.length<=63) (by decide)) λs' kk=>?_
  obtain⟨k1,k2,k3⟩:=kk.good hg
  refine⟨.inl ⟨_,.bool true,[],rfl,?hn,.bool true,?hp,?hu⟩,k1,k2,k3⟩
  case hn=>exact raisesW_false (by wrow_none_raised)
  case hu=>exact unshared_nil
  case hp=>(refine' postW_of ?zs ?zv ?ze;(case zs=>o_shape);(case zv=>wtm_val);(case ze=>first | rfl | w_fin))
