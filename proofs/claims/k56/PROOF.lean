import PyProof.Rows.All
import Wide.All
import OpenK.AllK
import Wide.FinOn
import HandS.ForMost
import HandS.ForExc
import HandS.Wide
import HandS.Deep
import HandS.EndBits
import HandS.CallSlots
import KE.KDictKeyed
import HandS.TupAny
import HandS.TupMul
import HandS.Text
import HandS.Style
import HandS.IsInst
import HandS.TryOnly
import KE.GoesEnum
import HandS.Rev
import HandS.RevRange
import PyProof.StrLawsChain
import HandS.StrMore
import KE.DataMinMax
import KE.SortData
import HandS.SortKw
import KE.IntTextLaws
import HandS.Codes
import HandS.RaiseMore
import KE.KxMul
import PyProof.Rows.BitMore
import KE.KIsAll
import HandS.ExcIs
import PyProof.StrOps2
import HandS.Dict
import KE.KDictLaws
import KE.KDictDisplayH
import HandS.Iter
import KE.KDictWalk
import KE.KDictSum
import KE.KDictCopyH
import HandS.More
import PyProof.TupleOps
import KE.KRevIter
import PyProof.FactsAll.subtypes_4
import HandS.SetFor
import HandS.Strs
import HandS.Conv
import HandS.TryMany
import HandS.Defaults
import PyProof.TupleOfSeq
import PySem.Challenge.RW_vellum_k56_deeds_of_a_house
set_option Elab.async false
section
set_option Elab.async false
set_option linter.all false
set_option maxRecDepth 100000
open PySem PySem.W PyProof.Rows
set_option maxHeartbeats 0 in
open_top vp_hd for PySem.Challenge.rw_vellum_k56_deeds_of_a_house
end
section
set_option linter.all false
namespace Vm
inductive PV where
 | non | bl (b:Bool) | int (i:Int) | str (s:List Nat) | tup (l:List PV) | lst (l:List PV) | dic (ks l:List PV) | exo (c:Nat) (l:List PV)
inductive Tg where
 | fz | bw (d:Nat) | ow (d:Nat)
inductive Res (α:Type) where
 | ok (a:α) | exc (c:Nat) | bad
abbrev TV:=Tg×PV
abbrev Sl:=Option TV
abbrev En:=List Sl
def Res.bind{α β:Type}(r:Res α)(f:α→Res β):Res β:=match r with
 | .ok a=>f a
 | .exc c=>.exc c
 | .bad=>.bad
@[simp] theorem bind_ok {α β:Type} (a:α) (f:α→Res β):(Res.ok a).bind f=f a:=rfl
@[simp] theorem bind_exc {α β:Type} (c:Nat) (f:α→Res β):(Res.exc c).bind f = .exc c:=rfl
@[simp] theorem bind_bad {α β:Type} (f:α→Res β):(Res.bad:Res α).bind f = .bad:=rfl
@[simp] def boxed:PV→Bool
 | .lst _=>true
 | .dic _ _=>true
 | .exo 0 _=>true
 | _=>false
def strG(l:List Nat):Bool:=decide (l.length≤16777216) && l.all (fun c=>decide (c < 1114112))
mutual
@[simp] def eqv:PV→PV→Bool
 | .non,.non=>true
 | .bl a,.bl b=>a == b
 | .bl a,.int j=>(if a then 1 else 0) == j
 | .int i,.bl b=>i == (if b then 1 else 0)
 | .int i,.int j=>i == j
 | .str x,.str y=>x == y
 | .lst xs,.lst ys=>eqvL xs ys
 | .tup xs,.tup ys=>eqvL xs ys
 | _,_=>false
@[simp] def eqvL:List PV→List PV→Bool
 | [],[]=>true
 | x :: xs,y :: ys=>eqv x y && eqvL xs ys
 | _,_=>false
end
mutual
@[simp] def shp:Nat→PV→Bool
 | _,.non=>true
 | _,.bl _=>true
 | _,.int _=>true
 | _,.str _=>true
 | 0,.tup _=>false
 | 0,.lst _=>false
 | n+1,.tup l=>shpL n l
 | n+1,.lst l=>shpL n l
 | _,.dic _ _=>false
 | _,.exo _ _=>false
@[simp] def shpL:Nat→List PV→Bool
 | _,[]=>true
 | n,x :: xs=>shp n x && shpL n xs
end
@[simp] def plainP:PV→Bool
 | .non=>true
 | .bl _=>true
 | .int _=>true
 | .str _=>true
 | _=>false
mutual
@[simp] def stab:PV→Bool
 | .non=>true
 | .bl _=>true
 | .int _=>true
 | .str _=>true
 | .tup l=>stabL l
 | _=>false
@[simp] def stabL:List PV→Bool
 | []=>true
 | x :: xs=>stab x && stabL xs
end
@[simp] def stabO:Nat→PV→Bool
 | 0,p=>stab p
 | d+1,.lst l=>l.all (stabO d)
 | d+1,.dic _ l=>l.all (stabO d)
 | d+1,.exo 0 l=>l.all (stabO d)
 | _+1,p=>stab p
def vIxN(n:Nat)(i:Int):Option Nat:=if 0≤i then (if i < n then some i.toNat else none) else if -(n:Int)≤i then some (i+n).toNat else none
def vAt{α:Type}(xs:List α)(i:Int):Option α:=(vIxN xs.length i).bind fun j=>xs[j]?
def vSix(n d:Nat):Option Int→Nat
 | none=>d
 | some v=>if v < 0 then (v+(n:Int)).toNat else min v.toNat n
def cutL{α:Type}(xs:List α)(lo hi:Option Int):List α:=(xs.drop (vSix xs.length 0 lo)).take (vSix xs.length xs.length hi - vSix xs.length 0 lo)
@[simp] def En.get (Γ:En) (i:Nat):Sl:=Γ.getD i none
@[simp] def wipeE (Γ:En):List Nat→En
 | []=>Γ
 | v :: vs=>(wipeE Γ vs).set v none
@[simp] def putV:TV→Res PV
 | (.fz,p)=>.ok p
 | (.ow _,p)=>.ok p
 | (.bw 0,p)=>.ok p
 | (.bw _,_)=>.bad
abbrev EX:=En→Res TV
abbrev EXs:=En→Res (List TV)
@[simp] def fzv (p:PV):Res TV:=.ok (.fz,p)
@[simp] def eC (p:PV):EX:=fun _=>.ok (.fz,p)
@[simp] def eVar (i:Nat):EX:=fun Γ=>match Γ.get i with
 | some (.fz,p)=>.ok (.fz,p)
 | some (.bw d,p)=>.ok (.bw d,p)
 | some (.ow d,p)=>.ok (.bw d,p)
 | none=>.bad
@[simp] def eOp2 (op:PV→PV→Res PV) (a b:EX):EX:=fun Γ=>(a Γ).bind fun x=>(b Γ).bind fun y=>(op x.2 y.2).bind fzv
@[simp] def eOp1 (op:PV→Res PV) (a:EX):EX:=fun Γ=>(a Γ).bind fun x=>(op x.2).bind fzv
@[simp] def eNil:EXs:=fun _=>.ok []
@[simp] def eCons (a:EX) (as:EXs):EXs:=fun Γ=>(a Γ).bind fun x=>(as Γ).bind fun xs=>.ok (x :: xs)
@[simp] def putVs:List TV→Res (List PV)
 | []=>.ok []
 | x :: xs=>(putV x).bind fun p=>(putVs xs).bind fun ps=>.ok (p :: ps)
@[simp] def eTup (as:EXs):EX:=fun Γ=>(as Γ).bind fun xs=>(putVs xs).bind fun ps=>if ps.length≤16777216 then .ok (.fz,.tup ps) else .bad
@[simp] def eLst (as:EXs):EX:=fun Γ=>(as Γ).bind fun xs=>(putVs xs).bind fun ps=>if ps.length≤16777216 then .ok (.ow 1,.lst ps) else .bad
@[simp] def opAdd:PV→PV→Res PV
 | .int i,.int j=>.ok (.int (i+j))
 | .str a,.str b=>if a.length+b.length≤16777216 then .ok (.str (a++b)) else .bad
 | _,_=>.bad
@[simp] def opSub:PV→PV→Res PV
 | .int i,.int j=>.ok (.int (i - j))
 | _,_=>.bad
def mulOk(i j:Int):Bool:=decide (i.natAbs.log2+j.natAbs.log2 < 50000000)
@[simp] def opMul:PV→PV→Res PV
 | .int i,.int j=>if mulOk i j then .ok (.int (i * j)) else .bad
 | _,_=>.bad
@[simp] def opFdiv:PV→PV→Res PV
 | .int i,.int j=>if 0 < j∧j.natAbs.log2 < 9000 then .ok (.int (i / j)) else .bad
 | _,_=>.bad
@[simp] def opMod:PV→PV→Res PV
 | .int i,.int j=>if 0 < j then .ok (.int (i % j)) else .bad
 | _,_=>.bad
@[simp] def opPow:PV→PV→Res PV
 | .int i,.int j=>if 0≤j∧j≤1000∧i.natAbs < 2 ^ 64 then .ok (.int (i ^ j.toNat)) else .bad
 | _,_=>.bad
@[simp] def opNeg:PV→Res PV
 | .int i=>.ok (.int (-i))
 | _=>.bad
@[simp] def opLt:PV→PV→Res PV
 | .int i,.int j=>.ok (.bl (decide (i < j)))
 | _,_=>.bad
@[simp] def opLe:PV→PV→Res PV
 | .int i,.int j=>.ok (.bl (decide (i≤j)))
 | _,_=>.bad
@[simp] def opGt:PV→PV→Res PV
 | .int i,.int j=>.ok (.bl (decide (j < i)))
 | _,_=>.bad
@[simp] def opGe:PV→PV→Res PV
 | .int i,.int j=>.ok (.bl (decide (j≤i)))
 | _,_=>.bad
@[simp] def opEq (x y:PV):Res PV:=if shp 60 x && shp 60 y then .ok (.bl (eqv x y)) else .bad
@[simp] def opNe (x y:PV):Res PV:=if shp 60 x && shp 60 y then .ok (.bl (!eqv x y)) else .bad
@[simp] def isNon:PV→Bool
 | .non=>true
 | _=>false
@[simp] def opIsN (x:PV):Res PV:=.ok (.bl (isNon x))
@[simp] def opNotN (x:PV):Res PV:=.ok (.bl (!isNon x))
@[simp] def isBl (b:Bool):PV→Bool
 | .bl c=>c == b
 | _=>false
@[simp] def opIsB (b:Bool) (x:PV):Res PV:=.ok (.bl (isBl b x))
@[simp] def opNotB (b:Bool) (x:PV):Res PV:=.ok (.bl (!isBl b x))
@[simp] def opNot:PV→Res PV
 | .bl b=>.ok (.bl (!b))
 | _=>.bad
@[simp] def inB (x y:PV):Res Bool:=match y with
 | .str t=>match x with
  | .str [c]=>.ok (t.elem c)
  | _=>.bad
 | .lst l=>if shp 50 x && shpL 50 l then .ok (l.any fun z=>eqv z x) else .bad
 | .tup l=>if plainP x && l.all plainP then .ok (l.any fun z=>eqv z x) else .bad
 | _=>.bad
@[simp] def opIn (x y:PV):Res PV:=(inB x y).bind fun b=>.ok (.bl b)
@[simp] def opNotIn (x y:PV):Res PV:=(inB x y).bind fun b=>.ok (.bl (!b))
@[simp] def dn:Tg→Tg
 | .fz=>.fz
 | .bw 0=>.fz
 | .bw 1=>.fz
 | .bw (d+2)=>.bw (d+1)
 | .ow 0=>.fz
 | .ow 1=>.fz
 | .ow (d+2)=>.bw (d+1)
@[simp] def ixV (o:TV) (i:PV):Res TV:=match o,i with
 | (t,.lst l),.int k=>match vAt l k with
  | some x=>.ok (dn t,x)
  | none=>.bad
 | (_,.tup l),.int k=>match vAt l k with
  | some x=>.ok (.fz,x)
  | none=>.bad
 | (_,.str s),.int k=>match vAt s k with
  | some c=>.ok (.fz,.str [c])
  | none=>.bad
 | _,_=>.bad
@[simp] def eIdx (a b:EX):EX:=fun Γ=>(a Γ).bind fun x=>(b Γ).bind fun y=>ixV x y.2
abbrev OX:=En→Res (Option Int)
@[simp] def oNone:OX:=fun _=>.ok none
@[simp] def oSome (a:EX):OX:=fun Γ=>(a Γ).bind fun x=>match x.2 with
 | .int i=>.ok (some i)
 | _=>.bad
@[simp] def flat1:Tg→Bool
 | .fz=>true
 | .bw 0=>true
 | .bw 1=>true
 | .ow 0=>true
 | .ow 1=>true
 | _=>false
@[simp] def sliceV (o:TV) (lo hi:Option Int):Res TV:=match o with
 | (t,.lst l)=>if flat1 t then .ok (.ow 1,.lst (cutL l lo hi)) else .bad
 | (_,.tup l)=>.ok (.fz,.tup (cutL l lo hi))
 | (_,.str s)=>.ok (.fz,.str (cutL s lo hi))
 | _=>.bad
@[simp] def eSlice (a:EX) (lo hi:OX):EX:=fun Γ=>(a Γ).bind fun x=>(lo Γ).bind fun l=>(hi Γ).bind fun h=>sliceV x l h
@[simp] def addV (x y:TV):Res TV:=match x,y with
 | (t,.lst a),(u,.lst b)=>if flat1 t && flat1 u && decide (a.length+b.length≤16777216) then .ok (.ow 1,.lst (a++b)) else .bad
 | (_,.tup a),(_,.tup b)=>if a.length+b.length≤16777216 then .ok (.fz,.tup (a++b)) else .bad
 | x,y=>(opAdd x.2 y.2).bind fzv
@[simp] def eAdd (a b:EX):EX:=fun Γ=>(a Γ).bind fun x=>(b Γ).bind fun y=>addV x y
@[simp] def own1:Tg→Bool
 | .ow 1=>true
 | _=>false
def repOk(n:Nat):Int→Bool
 | .ofNat j=>Nat.ble j 1152921504606846975 && Nat.ble (n * j) 16777216
 | .negSucc j=>Nat.ble j 1152921504606846975
@[simp] def mulV (x y:TV):Res TV:=match x.2,y.2 with
 | .lst a,.int k=>if own1 x.1 && repOk a.length k then .ok (.ow 1,.lst (List.replicate k.toNat a).flatten) else .bad
 | p,q=>(opMul p q).bind fzv
@[simp] def eMul (a b:EX):EX:=fun Γ=>(a Γ).bind fun x=>(b Γ).bind fun y=>mulV x y
abbrev TX:=En→Res Bool
@[simp] def xVal (a:EX):TX:=fun Γ=>(a Γ).bind fun x=>match x.2 with
 | .bl b=>.ok b
 | _=>.bad
@[simp] def xAnd (a b:TX):TX:=fun Γ=>(a Γ).bind fun x=>if x then b Γ else .ok false
@[simp] def xOr (a b:TX):TX:=fun Γ=>(a Γ).bind fun x=>if x then .ok true else b Γ
@[simp] def xNot (a:TX):TX:=fun Γ=>(a Γ).bind fun x=>.ok (!x)
@[simp] def eTest (a:TX):EX:=fun Γ=>(a Γ).bind fun b=>.ok (.fz,.bl b)
@[simp] def eIf (t:TX) (a b:EX):EX:=fun Γ=>(t Γ).bind fun c=>if c then a Γ else b Γ
@[simp] def eAnd (a b:EX):EX:=fun Γ=>(a Γ).bind fun x=>match x.2 with
 | .bl true=>b Γ
 | .bl false=>.ok (.fz,.bl false)
 | _=>.bad
@[simp] def eOr (a b:EX):EX:=fun Γ=>(a Γ).bind fun x=>match x.2 with
 | .bl true=>.ok (.fz,.bl true)
 | .bl false=>b Γ
 | _=>.bad
abbrev FN:=List PV→Res TV
@[simp] def isBw:TV→Bool
 | (.bw 0,_)=>false
 | (.bw _,_)=>true
 | _=>false
@[simp] def stabR:TV→Bool
 | (.fz,p)=>stab p
 | (.bw _,_)=>false
 | (.ow d,p)=>stabO d p
@[simp] def eCall (f:FN) (as:EXs):EX:=fun Γ=>(as Γ).bind fun xs=>(f (xs.map (·.2))).bind fun r=>if xs.any isBw && !stabR r then .bad else .ok r
@[simp] def eLen (a:EX):EX:=fun Γ=>(a Γ).bind fun x=>match x.2 with
 | .lst l=>.ok (.fz,.int l.length)
 | .tup l=>.ok (.fz,.int l.length)
 | .str l=>.ok (.fz,.int l.length)
 | .dic _ _=>.bad
 | _=>.bad
@[simp] def eTuple (a:EX):EX:=fun Γ=>(a Γ).bind fun x=>match x with
 | (t,.lst l)=>if flat1 t then .ok (.fz,.tup l) else .bad
 | (_,.tup l)=>.ok (.fz,.tup l)
 | _=>.bad
@[simp] def eList (a:EX):EX:=fun Γ=>(a Γ).bind fun x=>match x with
 | (t,.lst l)=>if flat1 t then .ok (.ow 1,.lst l) else .bad
 | (_,.tup l)=>.ok (.ow 1,.lst l)
 | _=>.bad
def allBl:List PV→Res Bool
 | []=>.ok true
 | .bl b :: r=>(allBl r).bind fun c=>.ok (b && c)
 | _=>.bad
def anyBl:List PV→Res Bool
 | []=>.ok false
 | .bl b :: r=>(anyBl r).bind fun c=>.ok (b || c)
 | _=>.bad
def intsOf:List PV→Res (List Int)
 | []=>.ok []
 | .int i :: r=>(intsOf r).bind fun is=>.ok (i :: is)
 | _=>.bad
@[simp] def lstOf:PV→Res (List PV)
 | .lst l=>.ok l
 | _=>.bad
@[simp] def eAll (a:EX):EX:=fun Γ=>(a Γ).bind fun x=>match x.2 with
 | .lst l=>(allBl l).bind fun b=>.ok (.fz,.bl b)
 | _=>.bad
@[simp] def eAny (a:EX):EX:=fun Γ=>(a Γ).bind fun x=>match x.2 with
 | .lst l=>(anyBl l).bind fun b=>.ok (.fz,.bl b)
 | _=>.bad
@[simp] def eSum (a:EX):EX:=fun Γ=>(a Γ).bind fun x=>match x.2 with
 | .lst l=>(intsOf l).bind fun is=>.ok (.fz,.int is.sum)
 | _=>.bad
def minI:List Int→Option Int
 | []=>none
 | x :: xs=>some (xs.foldl (fun a b=>if b < a then b else a) x)
def maxI:List Int→Option Int
 | []=>none
 | x :: xs=>some (xs.foldl (fun a b=>if a < b then b else a) x)
@[simp] def eMin2 (a b:EX):EX:=eOp2 (fun x y=>match x,y with
 | .int i,.int j=>.ok (.int (if j < i then j else i))
 | _,_=>.bad) a b
@[simp] def eMax2 (a b:EX):EX:=eOp2 (fun x y=>match x,y with
 | .int i,.int j=>.ok (.int (if i < j then j else i))
 | _,_=>.bad) a b
@[simp] def eMin (a:EX):EX:=fun Γ=>(a Γ).bind fun x=>(lstOf x.2).bind fun l=>(intsOf l).bind fun is=>match minI is with
 | some m=>.ok (.fz,.int m)
 | none=>.bad
@[simp] def eMax (a:EX):EX:=fun Γ=>(a Γ).bind fun x=>(lstOf x.2).bind fun l=>(intsOf l).bind fun is=>match maxI is with
 | some m=>.ok (.fz,.int m)
 | none=>.bad
@[simp] def kindIs:String→PV→Bool
 | "tuple",.tup _=>true
 | "list",.lst _=>true
 | "str",.str _=>true
 | "int",.int _=>true
 | "int",.bl _=>true
 | "bool",.bl _=>true
 | "dict",.dic _ _=>true
 | _,_=>false
@[simp] def isExo:PV→Bool
 | .exo _ _=>true
 | _=>false
@[simp] def eIsI (a:EX) (t:String):EX:=fun Γ=>eOp1 (fun x=>if isExo x then .bad else .ok (.bl (kindIs t x))) a Γ
abbrev IX:=En→Res (Bool×List TV)
@[simp] def jSeq (a:EX):IX:=fun Γ=>(a Γ).bind fun x=>match x.2 with
 | .lst l=>match x.1 with
  | .bw d=>.ok (false,l.map fun p=>(dn (.bw d),p))
  | _=>.ok (true,l.map fun p=>(.fz,p))
 | .tup l=>.ok (true,l.map fun p=>(.fz,p))
 | .str l=>.ok (true,l.map fun c=>(.fz,.str [c]))
 | _=>.bad
def rngL(lo hi:Int):List PV:=(List.range (hi - lo).toNat).map fun (k:Nat)=>.int (lo+(k:Int))
def rngOk:Int→Bool
 | .ofNat n=>Nat.ble n 4611686018427387903
 | .negSucc n=>Nat.ble n 4611686018427387903
theorem rngOk_iff{i:Int}:rngOk i=true ↔ -(2 ^ 62)≤i∧i < 2 ^ 62:=by
 cases i with
 | ofNat n=>rw [rngOk,Nat.ble_eq]; exact ⟨fun h=>⟨by simp only [Int.ofNat_eq_natCast]; omega,by simp only [Int.ofNat_eq_natCast]; omega⟩,fun h=>by simp only [Int.ofNat_eq_natCast] at h; omega⟩
 | negSucc n=>rw [rngOk,Nat.ble_eq]; exact ⟨fun h=>⟨by omega,by omega⟩,fun h=>by omega⟩
theorem rngOk_of{i:Int}(a:-(2 ^ 62)≤i)(b:i < 2 ^ 62):rngOk i=true:=rngOk_iff.mpr ⟨a,b⟩
@[simp] def jRange (a:EX):IX:=fun Γ=>(a Γ).bind fun x=>match x.2 with
 | .int n=>if rngOk n then .ok (true,(rngL 0 n).map fun p=>(.fz,p)) else .bad
 | _=>.bad
@[simp] def jRange2 (a b:EX):IX:=fun Γ=>(a Γ).bind fun x=>(b Γ).bind fun y=>match x.2,y.2 with
 | .int m,.int n=>if rngOk m && rngOk n then .ok (true,(rngL m n).map fun p=>(.fz,p)) else .bad
 | _,_=>.bad
@[simp] def seqV (x:TV):Res (Bool×List PV):=match x.2 with
 | .lst l=>match x.1 with
  | .bw 0=>.ok (false,l)
  | .bw 1=>.ok (false,l)
  | .bw _=>.bad
  | _=>.ok (true,l)
 | .tup l=>.ok (true,l)
 | .str l=>.ok (true,l.map fun c=>.str [c])
 | _=>.bad
def enumL(l:List PV):List PV:=l.mapIdx fun i p=>.tup [.int (i:Nat),p]
def zipL(l m:List PV):List PV:=List.zipWith (fun p q=>.tup [p,q]) l m
@[simp] def jEnum (a:EX):IX:=fun Γ=>(a Γ).bind fun x=>(seqV x).bind fun y=>.ok (y.1,(enumL y.2).map fun p=>(.fz,p))
@[simp] def jZip (a b:EX):IX:=fun Γ=>(a Γ).bind fun x=>(b Γ).bind fun y=>(seqV x).bind fun l=>(seqV y).bind fun m=>.ok (l.1 && m.1,(zipL l.2 m.2).map fun p=>(.fz,p))
@[simp] def isStr:PV→Bool
 | .str _=>true
 | _=>false
@[simp] def jRev (a:EX):IX:=fun Γ=>(a Γ).bind fun x=>match isStr x.2 with
 | true=>.bad
 | false=>(seqV x).bind fun y=>.ok (y.1,y.2.reverse.map fun p=>(.fz,p))
@[simp] def jRevR (a:EX):IX:=fun Γ=>(a Γ).bind fun x=>match x.2 with
 | .int n=>if rngOk n then .ok (true,(rngL 0 n).reverse.map fun p=>(.fz,p)) else .bad
 | _=>.bad
inductive Pat where
 | v (i:Nat) | t (l:List Nat)
@[simp] def Pat.slots:Pat→List Nat
 | .v i=>[i]
 | .t l=>l
@[simp] def setAll:En→List Nat→List PV→Option En
 | Γ,[],[]=>some Γ
 | Γ,i :: is,p :: ps=>setAll (Γ.set i (some (.fz,p))) is ps
 | _,_,_=>none
@[simp] def seqP (x:TV):Option (List PV):=match x.2 with
 | .tup ps=>some ps
 | .lst ps=>if flat1 x.1 then some ps else none
 | _=>none
@[simp] def bindP (Γ:En) (x:TV):Pat→Res En
 | .v i=>match x with
  | (.bw 0,p)=>.ok (Γ.set i (some (.fz,p)))
  | (.ow d,p)=>.ok (Γ.set i (some (.bw d,p)))
  | (t,p)=>.ok (Γ.set i (some (t,p)))
 | .t is=>match seqP x with
  | some ps=>match setAll Γ is ps with
   | some Γ'=>.ok Γ'
   | none=>.bad
  | none=>.bad
def lcGo(Γ:En)(pat:Pat)(c:TX)(e:EX):List TV→Res (List PV)
 | []=>.ok []
 | x :: xs=>(bindP Γ x pat).bind fun Γ'=>(c Γ').bind fun b =>
   if b then (e Γ').bind fun y=>(putV y).bind fun p=>(lcGo Γ pat c e xs).bind fun ps=>.ok (p :: ps) else lcGo Γ pat c e xs
@[simp] def xYes:TX:=fun _=>.ok true
@[simp] def noExc {α:Type}:Res α→Res α
 | .exc _=>.bad
 | r=>r
@[simp] def eLC (own:List Nat) (it:IX) (pat:Pat) (c:TX) (e:EX):EX:=fun Γ=>(it Γ).bind fun xs =>
 (noExc (lcGo (wipeE Γ own) pat c e xs.2)).bind fun ps=>if ps.length≤16777216 then .ok (.ow 1,.lst ps) else .bad
@[simp] def opAddI:PV→PV→Res PV
 | .int i,.int j=>.ok (.int (i+j))
 | _,_=>.bad
@[simp] def intV (x:TV):Res TV:=match x.2 with
 | .int i=>.ok (.fz,.int i)
 | .bl b=>.ok (.fz,.int (if b then 1 else 0))
 | _=>.bad
@[simp] def eInt (a:EX):EX:=fun Γ=>(a Γ).bind intV
@[simp] def opMax2:PV→PV→Res PV
 | .int i,.int j=>.ok (.int (if j > i then j else i))
 | _,_=>.bad
@[simp] def opMin2:PV→PV→Res PV
 | .int i,.int j=>.ok (.int (if j < i then j else i))
 | _,_=>.bad
def strsOf:List PV→Option (List (List Nat))
 | []=>some []
 | .str l :: r=>(strsOf r).map (l :: ·)
 | _ :: _=>none
@[simp] theorem strsOf_map:∀ ws:List (List Nat),strsOf (ws.map PV.str)=some ws
 | []=>rfl
 | w :: ws=>by rw [List.map_cons,strsOf,strsOf_map ws]; rfl
def joinL(sep:List Nat):List (List Nat)→List Nat
 | []=>[]
 | [w]=>w
 | w :: v :: r=>w++sep++joinL sep (v :: r)
@[simp] def listOf:PV→Option (List PV)
 | .lst l=>some l
 | .tup l=>some l
 | _=>none
@[simp] def eTxt (f:List Nat→TV→Res TV) (a b:EX):EX:=fun Γ=>(a Γ).bind fun x=>match x.2 with
 | .str s=>(b Γ).bind fun y=>f s y
 | _=>.bad
@[simp] def joinV (s:List Nat) (y:TV):Res TV:=match listOf y.2 with
 | some l=>match strsOf l with
  | some ws=>if (ws.map (·.length)).sum+ws.length * s.length≤16777216 then .ok (.fz,.str (joinL s ws)) else .bad
  | none=>.bad
 | none=>.bad
def splS(Y:List Nat):List Nat→Nat→List Nat→List (List Nat)
 | [],_,acc=>[acc.reverse]
 | c :: S,0,acc=>if Y.isPrefixOf (c :: S) then acc.reverse :: splS Y S (Y.length - 1) [] else splS Y S 0 (c :: acc)
 | _ :: S,n+1,acc=>splS Y S n acc
@[simp] def splitV (s:List Nat) (y:TV):Res TV:=match y.2 with
 | .str (c :: Y)=>if s.length+2≤16777216 then .ok (.ow 1,.lst ((splS (c :: Y) s 0 []).map .str)) else .bad
 | _=>.bad
def firstIx{α:Type}(p:α→Bool):List α→Option Nat
 | []=>none
 | x :: xs=>if p x then some 0 else (firstIx p xs).map (· + 1)
@[simp] def indexSV (s:List Nat) (y:TV):Res TV:=match y.2 with
 | .str [c]=>match firstIx (· == c) s with
  | some k=>.ok (.fz,.int k)
  | none=>.bad
 | _=>.bad
@[simp] def eIndexL (a b:EX):EX:=fun Γ=>(a Γ).bind fun x=>match x.2 with
 | .lst l=>(b Γ).bind fun y=>match plainP y.2 && l.all plainP with
  | true=>match firstIx (fun z=>eqv z y.2) l with
   | some k=>.ok (.fz,.int k)
   | none=>.bad
  | false=>.bad
 | _=>.bad
inductive Out where
 | nx (Γ:En) | rt (t:Tg) (p:PV) (Γ:En) | bk (Γ:En) | ct (Γ:En) | exc (c:Nat) (Γ:En) | bad
abbrev ST:=En→Out
@[simp] def Out.then (o:Out) (f:ST):Out:=match o with
 | .nx Γ=>f Γ
 | o=>o
@[simp] def aft {α:Type} (r:Res α) (Γ:En) (f:α→Out):Out:=match r with
 | .ok a=>f a
 | .exc c=>.exc c Γ
 | .bad=>.bad
theorem after_ok{α:Type}(a:α)(Γ:En)(f:α→Out):aft (.ok a) Γ f=f a:=rfl
@[simp] def dNil:ST:=fun Γ=>.nx Γ
@[simp] def dSeq (a b:ST):ST:=fun Γ=>(a Γ).then b
@[simp] def dSet (i:Nat) (e:EX):ST:=fun Γ=>aft (e Γ) Γ fun x=>aft (putV x) Γ fun p=>.nx (Γ.set i (some (.fz,p)))
@[simp] def dSetO (i:Nat) (e:EX):ST:=fun Γ=>aft (e Γ) Γ fun x=>match x with
 | (.ow d,p)=>.nx (Γ.set i (some (.ow d,p)))
 | _=>.bad
@[simp] def dSetT (is:List Nat) (e:EX):ST:=fun Γ=>aft (e Γ) Γ fun x=>aft (putV x) Γ fun p=>aft (bindP Γ (.fz,p) (.t is)) Γ .nx
@[simp] def dAug (op:PV→PV→Res PV) (i:Nat) (e:EX):ST:=fun Γ=>match Γ.get i with
 | some (.fz,p)=>aft (e Γ) Γ fun x=>aft (op p x.2) Γ fun z=>.nx (Γ.set i (some (.fz,z)))
 | _=>.bad
@[simp] def dIf (t:TX) (a b:ST):ST:=fun Γ=>aft (t Γ) Γ fun c=>if c then a Γ else b Γ
@[simp] def dRet (e:EX):ST:=fun Γ=>aft (e Γ) Γ fun x=>match x with
 | (.bw 0,p)=>.rt .fz p Γ
 | (.bw _,_)=>.bad
 | (t,p)=>.rt t p Γ
@[simp] def dRetV (i:Nat):ST:=fun Γ=>match Γ.get i with
 | some (.bw _,_)=>.bad
 | some (t,p)=>.rt t p Γ
 | none=>.bad
@[simp] def dRetN:ST:=fun Γ=>.rt .fz .non Γ
@[simp] def dRaise (c:Nat):ST:=fun Γ=>.exc c Γ
@[simp] def dBreak:ST:=fun Γ=>.bk Γ
@[simp] def dCont:ST:=fun Γ=>.ct Γ
@[simp] def dEx (e:EX):ST:=fun Γ=>aft (e Γ) Γ fun _=>.nx Γ
@[simp] def dFrz (i:Nat) (rest:ST):ST:=fun Γ=>match Γ.get i with
 | some (.ow _,p)=>rest (Γ.set i (some (.fz,p)))
 | some (.fz,p)=>rest Γ
 | _=>.bad
@[simp] def dForget (is:List Nat) (rest:ST):ST:=fun Γ=>rest (wipeE Γ is)
@[simp] def dApp (i:Nat) (e:EX):ST:=fun Γ=>match Γ.get i with
 | some (.ow 1,.lst l)=>aft (e Γ) Γ fun x=>aft (putV x) Γ fun p=>if l.length < 16777216 then .nx (Γ.set i (some (.ow 1,.lst (l++[p])))) else .bad
 | _=>.bad
@[simp] def dExt (i:Nat) (e:EX):ST:=fun Γ=>match Γ.get i with
 | some (.ow 1,.lst l)=>aft (e Γ) Γ fun x=>match x.2 with
  | .lst m=>if flat1 x.1 && decide (l.length+m.length≤16777216) then .nx (Γ.set i (some (.ow 1,.lst (l++m)))) else .bad
  | .tup m=>if l.length+m.length≤16777216 then .nx (Γ.set i (some (.ow 1,.lst (l++m)))) else .bad
  | _=>.bad
 | _=>.bad
@[simp] def dSetIx (i:Nat) (j e:EX):ST:=fun Γ=>match Γ.get i with
 | some (.ow 1,.lst l)=>aft (e Γ) Γ fun x=>aft (j Γ) Γ fun y=>aft (putV x) Γ fun p=>match y.2 with
  | .int k=>match vIxN l.length k with
   | some n=>.nx (Γ.set i (some (.ow 1,.lst (l.set n p))))
   | none=>.bad
  | _=>.bad
 | _=>.bad
@[simp] def dRev (i:Nat):ST:=fun Γ=>match Γ.get i with
 | some (.ow 1,.lst l)=>.nx (Γ.set i (some (.ow 1,.lst l.reverse)))
 | _=>.bad
def forL(pat:Pat)(ws:List Nat)(body:ST):List TV→ST
 | [],Γ=>.nx Γ
 | x :: xs,Γ=>match bindP Γ x pat with
  | .ok Γ'=>match body Γ' with
   | .nx Γ2=>forL pat ws body xs (wipeE Γ2 ws)
   | .ct Γ2=>forL pat ws body xs (wipeE Γ2 ws)
   | .bk Γ2=>.nx (wipeE Γ2 ws)
   | o=>o
  | _=>.bad
@[simp] def dFor (it:IX) (pat:Pat) (ws:List Nat) (body:ST):ST:=fun Γ=>aft (it Γ) Γ fun xs=>if xs.1 then forL pat ws body xs.2 (wipeE Γ ws) else .bad
def runFn(np ns:Nat)(body:ST):FN:=fun args=>if args.length=np then
  match body (args.map (fun p=>some (.fz,p))++List.replicate (ns - np) none) with
  | .nx _=>.ok (.fz,.non)
  | .rt t p _=>.ok (t,p)
  | .exc c _=>.exc c
  | _=>.bad
 else .bad
end Vm
end
section
set_option linter.all false
namespace Vm
abbrev Tk:=Int ⊕ List Nat
mutual
def toks:PV→List Tk
 | .bl b=>[.inl (if b then 1 else 0)]
 | .int n=>[.inl n]
 | .str l=>[.inr l]
 | .tup l=>toksL l
 | .lst l=>toksL l
 | _=>[]
def toksL:List PV→List Tk
 | []=>[.inl 0]
 | x :: xs=>.inl 1 :: (toks x++toksL xs)
end
def tkLt:Tk→Tk→Bool
 | .inl a,.inl b=>decide (a < b)
 | .inl _,.inr _=>true
 | .inr _,.inl _=>false
 | .inr a,.inr b=>decide (a < b)
def lexT:List Tk→List Tk→Bool
 | [],[]=>false
 | [],_ :: _=>true
 | _ :: _,[]=>false
 | x :: r,y :: t=>tkLt x y || (!tkLt y x && lexT r t)
def ltv(p q:PV):Bool:=lexT (toks p) (toks q)
mutual
def alk:PV→PV→Bool
 | .bl _,.bl _=>true
 | .int _,.int _=>true
 | .str _,.str _=>true
 | .lst xs,.lst ys=>alkL xs ys
 | .tup xs,.tup ys=>alkL xs ys
 | .non,.non=>true
 | _,_=>false
def alkL:List PV→List PV→Bool
 | x :: xs,y :: ys=>alk x y && alkL xs ys
 | [],_=>true
 | _ :: _,[]=>true
end
def ordOk(l:List PV):Bool:=l.all (fun x=>!isNon x && l.all (fun y=>alk x y)) && shpL 50 l
def minP(x:PV)(xs:List PV):PV:=xs.foldl (fun a y=>if ltv y a then y else a) x
def maxP(x:PV)(xs:List PV):PV:=xs.foldl (fun a y=>if ltv a y then y else a) x
@[simp] def itemsV (x:TV):Res (List PV):=match x with
 | (t,.lst l)=>if flat1 t then .ok l else .bad
 | (_,.tup l)=>.ok l
 | _=>.bad
@[simp] def bestV (f:PV→List PV→PV) (x:TV):Res TV:=(itemsV x).bind fun l=>match l with
 | y :: ys=>if ordOk (y :: ys) then .ok (.fz,f y ys) else .bad
 | []=>.bad
@[simp] def eMinD (a:EX):EX:=fun Γ=>(a Γ).bind (bestV minP)
@[simp] def eMaxD (a:EX):EX:=fun Γ=>(a Γ).bind (bestV maxP)
@[simp] def bestDV (f:PV→List PV→PV) (x:TV) (d:PV):Res TV:=(itemsV x).bind fun l=>match l with
 | y :: ys=>if ordOk (y :: ys) then .ok (.fz,f y ys) else .bad
 | []=>if plainP d then .ok (.fz,d) else .bad
@[simp] def eMinDf (a b:EX):EX:=fun Γ=>(a Γ).bind fun x=>(b Γ).bind fun d=>bestDV minP x d.2
@[simp] def eMaxDf (a b:EX):EX:=fun Γ=>(a Γ).bind fun x=>(b Γ).bind fun d=>bestDV maxP x d.2
def srtOk(l:List PV):Bool:=ordOk l && (l.all (fun x=>match x with | .tup (_ :: _)=>true | _=>false) || l.all (fun x=>match x with | .tup _=>false | _=>true))
def sortP(l:List PV):List PV:=l.mergeSort fun a b=>!ltv b a
@[simp] def sortV (x:TV):Res TV:=match x with
 | (t,.lst l)=>if flat1 t && srtOk l && decide (l.length≤16777216) then .ok (.ow 1,.lst (sortP l)) else .bad
 | _=>.bad
@[simp] def eSorted (a:EX):EX:=fun Γ=>(a Γ).bind sortV
@[simp] def eChain (op op':PV→PV→Res PV) (a b c:EX):EX:=fun Γ=>(a Γ).bind fun x=>(b Γ).bind fun y=>(op x.2 y.2).bind fun z=>match z with
 | .bl true=>(c Γ).bind fun w=>(op' y.2 w.2).bind fzv
 | .bl false=>.ok (.fz,.bl false)
 | _=>.bad
@[simp] def opShl:PV→PV→Res PV
 | .int i,.int j=>if 0≤j∧j≤1000∧i.natAbs < 2 ^ 64 then .ok (.int (i * 2 ^ j.toNat)) else .bad
 | _,_=>.bad
@[simp] def revV (o:TV):Res TV:=match o with
 | (t,.lst l)=>if flat1 t then .ok (.ow 1,.lst l.reverse) else .bad
 | (_,.tup l)=>.ok (.fz,.tup l.reverse)
 | _=>.bad
@[simp] def eRevS (a:EX):EX:=fun Γ=>(a Γ).bind revV
def stepN(i j c:Int):Nat:=((j - i+c - 1) / c).toNat
def stepL(i j c:Int):List PV:=(List.range (stepN i j c)).map fun (k:Nat)=>.int (i+(k:Int) * c)
@[simp] def jRange3 (a b c:EX):IX:=fun Γ=>(a Γ).bind fun x=>(b Γ).bind fun y=>(c Γ).bind fun z=>match x.2,y.2,z.2 with
 | .int i,.int j,.int k=>if 0 < k∧k < 1073741824∧0≤i∧i < 1073741824∧0≤j∧j < 1073741824 then .ok (true,(stepL i j k).map fun p=>(.fz,p)) else .bad
 | _,_,_=>.bad
def natS(n:Nat):List Nat:=(Nat.toDigits 10 n).map Char.toNat
@[simp] def strV (x:TV):Res TV:=match x.2 with
 | .int (.ofNat n)=>if n.log2 < 1920 then .ok (.fz,.str (natS n)) else .bad
 | .str s=>.ok (.fz,.str s)
 | _=>.bad
@[simp] def eStr (a:EX):EX:=fun Γ=>(a Γ).bind strV
def figN(l:List Nat):Nat:=l.foldl (fun n c=>n * 10+(c - 48)) 0
def isFig(c:Nat):Bool:=Nat.ble 48 c && Nat.ble c 57
@[simp] def intTV (x:TV):Res TV:=match x.2 with
 | .str s=>if s ≠ []∧s.all isFig∧s.length≤640 then .ok (.fz,.int (figN s)) else .bad
 | x=>intV (.fz,x)
@[simp] def eIntT (a:EX):EX:=fun Γ=>(a Γ).bind intTV
def partS(Y:List Nat):List Nat→List Nat→List (List Nat)
 | [],acc=>[acc.reverse,[],[]]
 | c :: S,acc=>if Y.isPrefixOf (c :: S) then [acc.reverse,Y,(c :: S).drop Y.length] else partS Y S (c :: acc)
@[simp] def partV (s:List Nat) (y:TV):Res TV:=match y.2 with
 | .str (c :: Y)=>if s.length≤16777216 then .ok (.fz,.tup ((partS (c :: Y) s []).map .str)) else .bad
 | _=>.bad
end Vm
end
section
set_option linter.all false
set_option maxHeartbeats 1000000
namespace Vm
@[simp] def stepOut (ws:List Nat):Out→Option En
 | .nx Γ=>some (wipeE Γ ws)
 | .ct Γ=>some (wipeE Γ ws)
 | _=>none
@[simp] def turn (pat:Pat) (ws:List Nat) (body:ST) (Γ:En) (x:TV):Option En:=match bindP Γ x pat with
 | .ok Γ1=>stepOut ws (body Γ1)
 | _=>none
theorem forL_turn{pat:Pat}{ws:List Nat}{body:ST}{Γ Γ':En}{x:TV}{xs:List TV}(h:turn pat ws body Γ x=some Γ'):forL pat ws body (x :: xs) Γ=forL pat ws body xs Γ':=by
 unfold turn at h
 conv=>lhs; unfold forL
 cases e:bindP Γ x pat with
 | ok Γ1 =>
  rw [e] at h
  simp only at h ⊢
  cases e2:body Γ1 with
  | nx Γ2=>rw [e2] at h; simp only [stepOut,Option.some.injEq] at h; rw [← h]
  | ct Γ2=>rw [e2] at h; simp only [stepOut,Option.some.injEq] at h; rw [← h]
  | _=>rw [e2] at h; cases h
 | _=>rw [e] at h; cases h
theorem forL_same{α:Type}{pat:Pat}{ws:List Nat}{body:ST}{Γ:En}(enc:α→TV):∀ (xs:List α),(∀ x∈xs,turn pat ws body Γ (enc x)=some Γ)→forL pat ws body (xs.map enc) Γ = .nx Γ
 | [],_=>rfl
 | x :: xs,h=>by
  show forL pat ws body (enc x :: xs.map enc) Γ=_
  rw [forL_turn (h x (by simp)),forL_same enc xs fun y hy=>h y (by simp [hy])]
@[simp] def lcOne (Γ:En) (pat:Pat) (c:TX) (e:EX) (x:TV):Option (Option PV):=match bindP Γ x pat with
 | .ok Γ1=>match c Γ1 with
  | .ok true=>match e Γ1 with
   | .ok y=>match putV y with
    | .ok p=>some (some p)
    | _=>none
   | _=>none
  | .ok false=>some none
  | _=>none
 | _=>none
theorem map_map{α:Type}(f:α→PV)(xs:List α):(xs.map f).map (fun p=>((.fz,p):TV))=xs.map fun x=>(.fz,f x):=by rw [List.map_map]; rfl
theorem rng0_eq(hi:Int):(rngL 0 hi).map (fun p=>((.fz,p):TV))=(List.range hi.toNat).map fun (k:Nat)=>(.fz,.int (k:Int)):=by unfold rngL; rw [List.map_map,Int.sub_zero]; exact List.map_congr_left fun k _=>by show ((Tg.fz,PV.int (0+(k:Int))):TV)=_; rw [Int.zero_add]
theorem vAt_nat{α:Type}{xs:List α}{i:Nat}{x:α}(h:xs[i]? = some x):vAt xs (i:Int)=some x:=by
 have hi:=(List.getElem?_eq_some_iff.mp h).1
 unfold vAt vIxN
 rw [if_pos (by omega),if_pos (by omega)]
 simpa using h
theorem vAt_int{α:Type}{xs:List α}{i:Int}(h0:0≤i)(h1:i < xs.length):vAt xs i=some (xs[i.toNat]'(by omega)):=by
 unfold vAt vIxN
 rw [if_pos h0,if_pos h1]
 simp [List.getElem?_eq_getElem (show i.toNat < xs.length by omega)]
theorem vAt_map{α β:Type}(f:α→β)(xs:List α)(i:Int):vAt (xs.map f) i=(vAt xs i).map f:=by
 unfold vAt
 rw [List.length_map]
 cases vIxN xs.length i with
 | none=>rfl
 | some j=>show (xs.map f)[j]? = (xs[j]?).map f; rw [List.getElem?_map]
theorem vSix_nat{n d:Nat}{i:Int}(h:0≤i):vSix n d (some i)=min i.toNat n:=by
 show (if i < 0 then _ else _)=_
 rw [if_neg (by omega)]
theorem cut_take{α:Type}{xs:List α}{i:Int}(h:0≤i):cutL xs none (some i)=xs.take i.toNat:=by
 show (xs.drop 0).take (vSix xs.length xs.length (some i) - 0)=_
 rw [vSix_nat h,List.drop_zero,Nat.sub_zero]
 by_cases hl:i.toNat≤xs.length
 ·rw [Nat.min_eq_left hl]
 ·rw [Nat.min_eq_right (by omega),List.take_length,List.take_of_length_le (by omega)]
theorem cut_drop{α:Type}{xs:List α}{i:Int}(h:0≤i):cutL xs (some i) none=xs.drop i.toNat:=by
 show (xs.drop (vSix xs.length 0 (some i))).take (xs.length - vSix xs.length 0 (some i))=_
 rw [vSix_nat h]
 by_cases hl:i.toNat≤xs.length
 ·rw [Nat.min_eq_left hl]; exact List.take_of_length_le (by rw [List.length_drop]; omega)
 ·rw [Nat.min_eq_right (by omega),List.drop_of_length_le (by omega:xs.length≤xs.length),List.drop_of_length_le (by omega)]; simp
theorem cut_map{α β:Type}(f:α→β)(xs:List α)(lo hi:Option Int):cutL (xs.map f) lo hi=(cutL xs lo hi).map f:=by
 unfold cutL
 rw [List.length_map,List.map_take,List.map_drop]
theorem log2_lt_pow{a n:Nat}(h:a < 2 ^ n):a.log2≤n:=by
 by_cases ha:a=0
 ·subst ha; rw [Nat.log2_zero]; exact Nat.zero_le _
 ·exact Nat.le_of_lt ((Nat.log2_lt ha).mpr h)
end Vm
end
section
set_option linter.all false
set_option maxHeartbeats 1000000
namespace Vm
@[simp] def stopOut:Out→Option Out
 | .rt t p Γ=>some (.rt t p Γ)
 | .exc c Γ=>some (.exc c Γ)
 | _=>none
@[simp] def halt (pat:Pat) (body:ST) (Γ:En) (x:TV):Option Out:=match bindP Γ x pat with
 | .ok Γ1=>stopOut (body Γ1)
 | _=>none
theorem rng0_eq'(m:Nat):(rngL 0 (m:Int)).map (fun p=>((.fz,p):TV))=(List.range m).map fun (k:Nat)=>(.fz,.int (k:Int)):=by rw [rng0_eq]; rfl
end Vm
end
section
set_option linter.all false
set_option maxHeartbeats 1000000
set_option maxRecDepth 10000
namespace Vm
def RefG{α β:Type}(f:α→β)(o:Res β):Res α→Prop
 | .ok a=>o = .ok (f a)
 | .exc c=>o = .exc c
 | .bad=>True
section
variable {α β γ δ ι κ σ τ ρ:Type} {f:α→β} {g:γ→δ} {o:Res β} {r:Res α}
theorem RefG.bind{F:β→Res δ}{k:α→Res γ}(h:RefG f o r)(q:∀ a,RefG g (F (f a)) (k a)):RefG g (o.bind F) (r.bind k):=by
 cases r with
 | ok a =>
  have h:o = .ok (f a):=h
  rw [h]; exact q a
 | exc c =>
  have h:o = .exc c:=h
  rw [h]; exact rfl
 | bad=>exact trivial
theorem RefG.self{o:Res β}:RefG id o o:=by cases o <;> first | exact rfl | exact trivial
theorem RefG.ok{a:α}{o:Res β}(h:o = .ok (f a)):RefG f o (.ok a):=h
theorem RefG.eq{a:α}(h:RefG f o r)(e:r = .ok a):o = .ok (f a):=by rw [e] at h; exact h
theorem RefG.bad{o:Res β}:RefG f o .bad:=trivial
@[simp] def Res.map (f:α→β) (r:Res α):Res β:=r.bind fun a=>.ok (f a)
theorem bind_assoc(r:Res α)(f:α→Res β)(g:β→Res γ):(r.bind f).bind g=r.bind fun a=>(f a).bind g:=by cases r <;> rfl
theorem RefG.co{f':γ→β}{c:α→γ}(h:RefG f o r)(e:∀ a,f' (c a)=f a):RefG f' o (r.map c):=by
 cases r with
 | ok a =>
  have h:o = .ok (f a):=h
  rw [h,← e a]; exact rfl
 | exc c=>exact h
 | bad=>exact trivial
end
@[simp] def kI:Int→PV:=.int
@[simp] def kB:Bool→PV:=.bl
@[simp] def kS:List Nat→PV:=.str
@[simp] def kN:Unit→PV:=fun _=>.non
@[simp] def kV:PV→PV:=fun p=>p
@[simp] def kO {α:Type} (k:α→PV):Option α→PV
 | none=>.non
 | some a=>k a
@[simp] def kL {α:Type} (k:α→PV) (l:List α):PV:=.lst (l.map k)
@[simp] def kT {α:Type} (k:α→PV) (l:List α):PV:=.tup (l.map k)
@[simp] def kP1 {α:Type} (a:α→PV) (x:α):PV:=.tup [a x]
@[simp] def kP2 {α β:Type} (a:α→PV) (b:β→PV) (x:α×β):PV:=.tup [a x.1,b x.2]
@[simp] def kP3 {α β γ:Type} (a:α→PV) (b:β→PV) (c:γ→PV) (x:α×β×γ):PV:=.tup [a x.1,b x.2.1,c x.2.2]
@[simp] def kP4 {α β γ δ:Type} (a:α→PV) (b:β→PV) (c:γ→PV) (d:δ→PV) (x:α×β×γ×δ):PV:=.tup [a x.1,b x.2.1,c x.2.2.1,d x.2.2.2]
@[simp] def kP5 {α β γ δ ε:Type} (a:α→PV) (b:β→PV) (c:γ→PV) (d:δ→PV) (e:ε→PV) (x:α×β×γ×δ×ε):PV:=.tup [a x.1,b x.2.1,c x.2.2.1,d x.2.2.2.1,e x.2.2.2.2]
@[simp] def kQ1 {α:Type} (a:α→PV) (x:α):PV:=.lst [a x]
@[simp] def kQ2 {α β:Type} (a:α→PV) (b:β→PV) (x:α×β):PV:=.lst [a x.1,b x.2]
@[simp] def kQ3 {α β γ:Type} (a:α→PV) (b:β→PV) (c:γ→PV) (x:α×β×γ):PV:=.lst [a x.1,b x.2.1,c x.2.2]
@[simp] def kQ4 {α β γ δ:Type} (a:α→PV) (b:β→PV) (c:γ→PV) (d:δ→PV) (x:α×β×γ×δ):PV:=.lst [a x.1,b x.2.1,c x.2.2.1,d x.2.2.2]
abbrev tv{α:Type}(t:Tg)(k:α→PV)(a:α):TV:=(t,k a)
class Enc {α:Type} [DecidableEq α] (k:α→PV) where
 d:Nat
 eq:∀ a b,eqv (k a) (k b)=decide (a=b)
 sh:∀ n,d≤n→∀ a,shp n (k a)=true
class NN {α:Type} (k:α→PV):Prop where
 n:∀ a,k a ≠ .non
theorem eqv_non_l{p:PV}(h:p ≠ .non):eqv .non p=false:=by cases p <;> first | rfl | exact absurd rfl h
theorem eqv_non_r{p:PV}(h:p ≠ .non):eqv p .non=false:=by cases p <;> first | rfl | exact absurd rfl h
theorem isNon_f{p:PV}(h:p ≠ .non):isNon p=false:=by cases p <;> first | rfl | exact absurd rfl h
instance:Enc kI where
 d:=0
 eq:=fun a b=>by simp only [kI,eqv]; rw [Bool.eq_iff_iff]; simp
 sh:=fun n _ a=>by cases n <;> rfl
instance:Enc kB where
 d:=0
 eq:=fun a b=>by cases a <;> cases b <;> rfl
 sh:=fun n _ a=>by cases n <;> rfl
instance:Enc kS where
 d:=0
 eq:=fun a b=>by simp only [kS,eqv]; rw [Bool.eq_iff_iff]; simp
 sh:=fun n _ a=>by cases n <;> rfl
instance:Enc kN where
 d:=0
 eq:=fun a b=>rfl
 sh:=fun n _ a=>by cases n <;> rfl
instance:NN kI:=⟨fun a h=>by cases h⟩
instance:NN kB:=⟨fun a h=>by cases h⟩
instance:NN kS:=⟨fun a h=>by cases h⟩
section
variable {α β γ δ ε:Type} [DecidableEq α] [DecidableEq β] [DecidableEq γ] [DecidableEq δ] [DecidableEq ε] {a:α→PV} {b:β→PV} {c:γ→PV} {d:δ→PV} {e:ε→PV}
instance {k:α→PV}:NN (kL k):=⟨fun a h=>by cases h⟩
instance {k:α→PV}:NN (kT k):=⟨fun a h=>by cases h⟩
instance:NN (kP1 a):=⟨fun a h=>by cases h⟩
instance:NN (kP2 a b):=⟨fun a h=>by cases h⟩
instance:NN (kP3 a b c):=⟨fun a h=>by cases h⟩
instance:NN (kP4 a b c d):=⟨fun a h=>by cases h⟩
instance:NN (kP5 a b c d e):=⟨fun a h=>by cases h⟩
instance:NN (kQ1 a):=⟨fun a h=>by cases h⟩
instance:NN (kQ2 a b):=⟨fun a h=>by cases h⟩
instance:NN (kQ3 a b c):=⟨fun a h=>by cases h⟩
instance [Enc a] [NN a]:Enc (kO a) where
 d:=Enc.d a
 eq:=fun x y=>by
  cases x <;> cases y <;> simp only [kO]
  ·rfl
  ·rw [eqv_non_l (NN.n _)]; simp
  ·rw [eqv_non_r (NN.n _)]; simp
  ·rw [Enc.eq]; simp
 sh:=fun n h x=>by
  cases x
  ·cases n <;> rfl
  ·exact Enc.sh n h _
theorem eqvL_enc[Enc a]:∀ l m:List α,eqvL (l.map a) (m.map a)=decide (l=m)
 | [],[]=>rfl
 | [],_ :: _=>rfl
 | _ :: _,[]=>rfl
 | x :: l,y :: m=>by
  rw [List.map_cons,List.map_cons,eqvL,Enc.eq,eqvL_enc l m,Bool.eq_iff_iff]
  simp
theorem shpL_enc[Enc a](n:Nat)(h:Enc.d a≤n):∀ l:List α,shpL n (l.map a)=true
 | []=>by rw [List.map_nil,shpL]
 | x :: l=>by rw [List.map_cons,shpL,Enc.sh n h,shpL_enc n h l]; rfl
instance [Enc a]:Enc (kL a) where
 d:=Enc.d a+1
 eq:=fun x y=>by simp only [kL,eqv]; exact eqvL_enc x y
 sh:=fun n h x=>by
  cases n with
  | zero=>omega
  | succ n=>simp only [kL,shp]; exact shpL_enc n (by omega) x
instance [Enc a]:Enc (kT a) where
 d:=Enc.d a+1
 eq:=fun x y=>by simp only [kT,eqv]; exact eqvL_enc x y
 sh:=fun n h x=>by
  cases n with
  | zero=>omega
  | succ n=>simp only [kT,shp]; exact shpL_enc n (by omega) x
instance [Enc a]:Enc (kP1 a) where
 d:=Enc.d a+1
 eq:=fun x y=>by simp only [kP1,eqv,eqvL,Enc.eq,Bool.and_true]
 sh:=fun n h x=>by
  cases n with
  | zero=>omega
  | succ n=>simp only [kP1,shp,shpL,Enc.sh (k:=a) n (by omega),Bool.and_true]
instance [Enc a] [Enc b]:Enc (kP2 a b) where
 d:=max (Enc.d a) (Enc.d b)+1
 eq:=fun x y=>by
  simp only [kP2,eqv,eqvL,Enc.eq,Bool.and_true]; rw [Bool.eq_iff_iff]; simp [Prod.ext_iff]
 sh:=fun n h x=>by
  cases n with
  | zero=>omega
  | succ n=>simp only [kP2,shp,shpL,Enc.sh (k:=a) n (by omega),Enc.sh (k:=b) n (by omega),Bool.and_true]
instance [Enc a] [Enc b] [Enc c]:Enc (kP3 a b c) where
 d:=max (Enc.d a) (max (Enc.d b) (Enc.d c))+1
 eq:=fun x y=>by
  simp only [kP3,eqv,eqvL,Enc.eq,Bool.and_true]; rw [Bool.eq_iff_iff]; simp [Prod.ext_iff]
 sh:=fun n h x=>by
  cases n with
  | zero=>omega
  | succ n=>simp only [kP3,shp,shpL,Enc.sh (k:=a) n (by omega),Enc.sh (k:=b) n (by omega),Enc.sh (k:=c) n (by omega),Bool.and_true]
instance [Enc a] [Enc b] [Enc c] [Enc d]:Enc (kP4 a b c d) where
 d:=max (Enc.d a) (max (Enc.d b) (max (Enc.d c) (Enc.d d)))+1
 eq:=fun x y=>by
  simp only [kP4,eqv,eqvL,Enc.eq,Bool.and_true]; rw [Bool.eq_iff_iff]; simp [Prod.ext_iff]
 sh:=fun n h x=>by
  cases n with
  | zero=>omega
  | succ n=>simp only [kP4,shp,shpL,Enc.sh (k:=a) n (by omega),Enc.sh (k:=b) n (by omega),Enc.sh (k:=c) n (by omega),Enc.sh (k:=d) n (by omega),Bool.and_true]
instance [Enc a]:Enc (kQ1 a) where
 d:=Enc.d a+1
 eq:=fun x y=>by simp only [kQ1,eqv,eqvL,Enc.eq,Bool.and_true]
 sh:=fun n h x=>by
  cases n with
  | zero=>omega
  | succ n=>simp only [kQ1,shp,shpL,Enc.sh (k:=a) n (by omega),Bool.and_true]
instance [Enc a] [Enc b]:Enc (kQ2 a b) where
 d:=max (Enc.d a) (Enc.d b)+1
 eq:=fun x y=>by
  simp only [kQ2,eqv,eqvL,Enc.eq,Bool.and_true]; rw [Bool.eq_iff_iff]; simp [Prod.ext_iff]
 sh:=fun n h x=>by
  cases n with
  | zero=>omega
  | succ n=>simp only [kQ2,shp,shpL,Enc.sh (k:=a) n (by omega),Enc.sh (k:=b) n (by omega),Bool.and_true]
end
end Vm
end
section
set_option linter.all false
set_option maxHeartbeats 1000000
set_option maxRecDepth 10000
namespace Vm
def ixR{α:Type}(l:List α)(i:Int):Res α:=match vAt l i with
 | some x=>.ok x
 | none=>.bad
def getO{α:Type}:Option α→Res α
 | some a=>.ok a
 | none=>.bad
def fdivR(i j:Int):Res Int:=if 0 < j∧j.natAbs.log2 < 9000 then .ok (i / j) else .bad
def modR(i j:Int):Res Int:=if 0 < j then .ok (i % j) else .bad
def szR{α:Type}(l:List α):Res (List α):=if l.length≤16777216 then .ok l else .bad
def appR{α:Type}(l:List α)(x:α):Res (List α):=if l.length < 16777216 then .ok (l++[x]) else .bad
def catR{α:Type}(l m:List α):Res (List α):=if l.length+m.length≤16777216 then .ok (l++m) else .bad
def rngI(lo hi:Int):List Int:=(List.range (hi - lo).toNat).map fun (k:Nat)=>lo+(k:Int)
def rngR(hi:Int):Res (List Int):=if rngOk hi then .ok (rngI 0 hi) else .bad
def enumT{α:Type}(l:List α):List (Int×α):=l.mapIdx fun i x=>((i:Int),x)
def joinR(s:List Nat)(ws:List (List Nat)):Res (List Nat):=if (ws.map (·.length)).sum+ws.length * s.length≤16777216 then .ok (joinL s ws) else .bad
def indexR{α:Type}[DecidableEq α](l:List α)(x:α):Res Int:=match firstIx (fun z=>decide (z=x)) l with
 | some k=>.ok (k:Int)
 | none=>.bad
def signIn(x t:List Nat):Res Bool:=match x with
 | [c]=>.ok (t.elem c)
 | _=>.bad
def memB{α:Type}[DecidableEq α](x:α)(l:List α):Bool:=decide (x∈l)
theorem memB_iff{α:Type}[DecidableEq α]{x:α}{l:List α}:memB x l=true ↔ x∈l:=by unfold memB; exact decide_eq_true_iff
def lcR{ι α:Type}(c:ι→Res Bool)(f:ι→Res α):List ι→Res (List α)
 | []=>.ok []
 | x :: xs=>(c x).bind fun b=>if b then (f x).bind fun y=>(lcR c f xs).bind fun r=>.ok (y :: r) else lcR c f xs
def mapR{ι α:Type}(f:ι→Res α):List ι→Res (List α)
 | []=>.ok []
 | x :: xs=>(f x).bind fun y=>(mapR f xs).bind fun r=>.ok (y :: r)
inductive Ctl (σ ρ:Type) where
 | nx (s:σ) | bk (s:σ) | rt (r:ρ)
def forT{σ ρ ι:Type}(F:σ→ι→Res (Ctl σ ρ)):List ι→σ→Res (Ctl σ ρ)
 | [],s=>.ok (.nx s)
 | x :: xs,s=>(F s x).bind fun
  | .nx s'=>forT F xs s'
  | .bk s'=>.ok (.nx s')
  | .rt r=>.ok (.rt r)
def forS{σ ι:Type}(F:σ→ι→Res σ):List ι→σ→Res σ
 | [],s=>.ok s
 | x :: xs,s=>(F s x).bind fun s'=>forS F xs s'
def Ctl.then{σ ρ β:Type}(c:Ctl σ ρ)(ret:ρ→Res β)(k:σ→Res β):Res β:=match c with
 | .nx s=>k s
 | .bk s=>k s
 | .rt r=>ret r
section
variable {Γ:En} {α β γ δ ε ι σ τ ρ κ:Type} {a b c:EX} {A B C:Res α}
theorem rV{e:EX}(t:Tg)(k:α→PV)(x:α)(h:e Γ = .ok (t,k x):=by rfl):RefG (tv t k) (e Γ) (.ok x):=h
variable {t u v:Tg} {ka:α→PV} {kb:β→PV} {kc:γ→PV} {kd:δ→PV}
theorem rAddI{A B:Res Int}(ha:RefG (tv t kI) (a Γ) A)(hb:RefG (tv u kI) (b Γ) B):RefG (tv .fz kI) (eAdd a b Γ) (A.bind fun x=>B.bind fun y=>.ok (x+y)) :=
 ha.bind fun x=>hb.bind fun y=>rfl
theorem rSub{A B:Res Int}(ha:RefG (tv t kI) (a Γ) A)(hb:RefG (tv u kI) (b Γ) B):RefG (tv .fz kI) (eOp2 opSub a b Γ) (A.bind fun x=>B.bind fun y=>.ok (x - y)) :=
 ha.bind fun x=>hb.bind fun y=>rfl
theorem rFdiv{A B:Res Int}(ha:RefG (tv t kI) (a Γ) A)(hb:RefG (tv u kI) (b Γ) B):RefG (tv .fz kI) (eOp2 opFdiv a b Γ) (A.bind fun x=>B.bind fun y=>fdivR x y) :=
 ha.bind fun x=>hb.bind fun y=>by
  unfold fdivR; by_cases h:0 < y∧y.natAbs.log2 < 9000
  ·rw [if_pos h]; simp [opFdiv,h,RefG]
  ·rw [if_neg h]; exact trivial
theorem rFdivC{A:Res Int}{n:Int}(ha:RefG (tv t kI) (a Γ) A)(h:(0 < n∧n.natAbs.log2 < 9000):=by decide):RefG (tv .fz kI) (eOp2 opFdiv a (eC (.int n)) Γ) (A.bind fun x=>.ok (x / n)) :=
 ha.bind fun x=>by show (opFdiv (.int x) (.int n)).bind fzv=_; rw [opFdiv,if_pos h]; rfl
theorem rMod{A B:Res Int}(ha:RefG (tv t kI) (a Γ) A)(hb:RefG (tv u kI) (b Γ) B):RefG (tv .fz kI) (eOp2 opMod a b Γ) (A.bind fun x=>B.bind fun y=>modR x y) :=
 ha.bind fun x=>hb.bind fun y=>by
  unfold modR; by_cases h:0 < y
  ·rw [if_pos h]; simp [opMod,h,RefG]
  ·rw [if_neg h]; exact trivial
theorem rModC{A:Res Int}{n:Int}(ha:RefG (tv t kI) (a Γ) A)(h:0 < n:=by decide):RefG (tv .fz kI) (eOp2 opMod a (eC (.int n)) Γ) (A.bind fun x=>.ok (x % n)) :=
 ha.bind fun x=>by show (opMod (.int x) (.int n)).bind fzv=_; rw [opMod,if_pos h]; rfl
theorem rPowC(m:Int)(n:Nat)(h:(0≤(n:Int)∧(n:Int)≤1000∧m.natAbs < 2 ^ 64):=by decide):RefG (tv .fz kI) (eOp2 opPow (eC (.int m)) (eC (.int n)) Γ) (.ok (m ^ n)):=by
 show (opPow (.int m) (.int n)).bind fzv=_; rw [opPow,if_pos h]; rfl
theorem rNeg{A:Res Int}(ha:RefG (tv t kI) (a Γ) A):RefG (tv .fz kI) (eOp1 opNeg a Γ) (A.bind fun x=>.ok (-x)):=ha.bind fun x=>rfl
theorem rLt{A B:Res Int}(ha:RefG (tv t kI) (a Γ) A)(hb:RefG (tv u kI) (b Γ) B):RefG (tv .fz kB) (eOp2 opLt a b Γ) (A.bind fun x=>B.bind fun y=>.ok (decide (x < y))) :=
 ha.bind fun x=>hb.bind fun y=>rfl
theorem rGt{A B:Res Int}(ha:RefG (tv t kI) (a Γ) A)(hb:RefG (tv u kI) (b Γ) B):RefG (tv .fz kB) (eOp2 opGt a b Γ) (A.bind fun x=>B.bind fun y=>.ok (decide (y < x))) :=
 ha.bind fun x=>hb.bind fun y=>rfl
theorem rGe{A B:Res Int}(ha:RefG (tv t kI) (a Γ) A)(hb:RefG (tv u kI) (b Γ) B):RefG (tv .fz kB) (eOp2 opGe a b Γ) (A.bind fun x=>B.bind fun y=>.ok (decide (y≤x))) :=
 ha.bind fun x=>hb.bind fun y=>rfl
theorem rEq[DecidableEq α][Enc ka](ha:RefG (tv t ka) (a Γ) A)(hb:RefG (tv u ka) (b Γ) B)(hd:Enc.d ka≤60:=by decide):RefG (tv .fz kB) (eOp2 opEq a b Γ) (A.bind fun x=>B.bind fun y=>.ok (decide (x=y))) :=
 ha.bind fun x=>hb.bind fun y=>by simp [opEq,Enc.sh (k:=ka) 60 hd,Enc.eq,RefG,tv]
theorem rNe[DecidableEq α][Enc ka](ha:RefG (tv t ka) (a Γ) A)(hb:RefG (tv u ka) (b Γ) B)(hd:Enc.d ka≤60:=by decide):RefG (tv .fz kB) (eOp2 opNe a b Γ) (A.bind fun x=>B.bind fun y=>.ok (!decide (x=y))) :=
 ha.bind fun x=>hb.bind fun y=>by simp [opNe,Enc.sh (k:=ka) 60 hd,Enc.eq,RefG,tv]
theorem rIsN[NN ka]{A:Res (Option α)}(ha:RefG (tv t (kO ka)) (a Γ) A):RefG (tv .fz kB) (eOp1 opIsN a Γ) (A.bind fun x=>.ok (Option.isNone x)):=ha.bind fun x=>by
 cases x with
 | none=>rfl
 | some x=>simp [opIsN,isNon_f (NN.n (k:=ka) x),RefG,tv,-isNon]
theorem rNotN[NN ka]{A:Res (Option α)}(ha:RefG (tv t (kO ka)) (a Γ) A):RefG (tv .fz kB) (eOp1 opNotN a Γ) (A.bind fun x=>.ok (Option.isSome x)):=ha.bind fun x=>by
 cases x with
 | none=>rfl
 | some x=>simp [opNotN,isNon_f (NN.n (k:=ka) x),RefG,tv,-isNon]
theorem xV{A:Res Bool}(ha:RefG (tv t kB) (a Γ) A):RefG id (xVal a Γ) A:=by
 cases A with
 | ok b =>
  have h:a Γ = .ok (t,.bl b):=ha
  show (a Γ).bind _=_
  rw [h]; rfl
 | exc c =>
  have h:a Γ = .exc c:=ha
  show (a Γ).bind _=_
  rw [h]; rfl
 | bad=>exact trivial
variable {T U:TX} {D E:Res Bool}
theorem xA(ha:RefG id (T Γ) D)(hb:RefG id (U Γ) E):RefG id (xAnd T U Γ) (D.bind fun x=>if x then E else .ok false):=ha.bind fun x=>by cases x <;> first | exact hb | exact rfl
theorem xO(ha:RefG id (T Γ) D)(hb:RefG id (U Γ) E):RefG id (xOr T U Γ) (D.bind fun x=>if x then .ok true else E):=ha.bind fun x=>by cases x <;> first | exact hb | exact rfl
theorem xN(ha:RefG id (T Γ) D):RefG id (xNot T Γ) (D.bind fun x=>.ok (!x)):=ha.bind fun x=>rfl
theorem rAnd{A B:Res Bool}(ha:RefG (tv t kB) (a Γ) A)(hb:RefG (tv .fz kB) (b Γ) B):RefG (tv .fz kB) (eAnd a b Γ) (A.bind fun x=>if x then B else .ok false):=ha.bind fun x=>by cases x <;> first | exact hb | exact rfl
@[simp] def ixT:Tg→Tg:=dn
theorem rIxL{A:Res (List α)}{B:Res Int}(ha:RefG (tv t (kL ka)) (a Γ) A)(hb:RefG (tv u kI) (b Γ) B):RefG (tv (dn t) ka) (eIdx a b Γ) (A.bind fun x=>B.bind fun y=>ixR x y) :=
 ha.bind fun x=>hb.bind fun y=>by
  unfold ixR
  cases h:vAt x y with
  | none=>exact trivial
  | some z=>simp [ixV,vAt_map,h,RefG,tv]
theorem rIxS{A:Res (List Nat)}{B:Res Int}(ha:RefG (tv t kS) (a Γ) A)(hb:RefG (tv u kI) (b Γ) B):RefG (tv .fz kS) (eIdx a b Γ) (A.bind fun x=>B.bind fun y=>(ixR x y).bind fun c=>.ok [c]) :=
 ha.bind fun x=>hb.bind fun y=>by
  unfold ixR
  cases h:vAt x y with
  | none=>exact trivial
  | some z=>simp [ixV,h,RefG,tv]
theorem rIxP{i:Int}{pr:α→β}(ha:RefG (tv t ka) (a Γ) A)(h:∀ x,ixV (t,ka x) (.int i) = .ok (u,kb (pr x)):=by intro _; rfl):RefG (tv u kb) (eIdx a (eC (.int i)) Γ) (A.bind fun x=>.ok (pr x)) :=
 ha.bind fun x=>h x
theorem oN:RefG id (oNone Γ) (.ok none):=rfl
theorem oS{A:Res Int}(ha:RefG (tv t kI) (a Γ) A):RefG id (oSome a Γ) (A.bind fun x=>.ok (some x)):=ha.bind fun x=>rfl
variable {lo hi:OX} {L H:Res (Option Int)}
theorem rSlL{A:Res (List α)}(ha:RefG (tv t (kL ka)) (a Γ) A)(hl:RefG id (lo Γ) L)(hh:RefG id (hi Γ) H)(hf:flat1 t=true:=by rfl):RefG (tv (.ow 1) (kL ka)) (eSlice a lo hi Γ) (A.bind fun x=>L.bind fun l=>H.bind fun h=>.ok (cutL x l h)) :=
 ha.bind fun x=>hl.bind fun l=>hh.bind fun h=>by simp [sliceV,hf,cut_map,RefG,tv,-flat1]
theorem rSlS{A:Res (List Nat)}(ha:RefG (tv t kS) (a Γ) A)(hl:RefG id (lo Γ) L)(hh:RefG id (hi Γ) H):RefG (tv .fz kS) (eSlice a lo hi Γ) (A.bind fun x=>L.bind fun l=>H.bind fun h=>.ok (cutL x l h)) :=
 ha.bind fun x=>hl.bind fun l=>hh.bind fun h=>rfl
theorem rAddS{A B:Res (List Nat)}(ha:RefG (tv t kS) (a Γ) A)(hb:RefG (tv u kS) (b Γ) B):RefG (tv .fz kS) (eAdd a b Γ) (A.bind fun x=>B.bind fun y=>catR x y) :=
 ha.bind fun x=>hb.bind fun y=>by
  unfold catR
  by_cases h:x.length+y.length≤16777216
  ·rw [if_pos h]; simp [addV,h,RefG,tv]
  ·rw [if_neg h]; exact trivial
theorem rAddL{A B:Res (List α)}(ha:RefG (tv t (kL ka)) (a Γ) A)(hb:RefG (tv u (kL ka)) (b Γ) B)(h1:flat1 t=true:=by rfl)(h2:flat1 u=true:=by rfl):RefG (tv (.ow 1) (kL ka)) (eAdd a b Γ) (A.bind fun x=>B.bind fun y=>catR x y) :=
 ha.bind fun x=>hb.bind fun y=>by
  unfold catR
  by_cases h:x.length+y.length≤16777216
  ·rw [if_pos h]; simp [addV,h,h1,h2,RefG,tv,-flat1]
  ·rw [if_neg h]; exact trivial
theorem rLenL{A:Res (List α)}(ha:RefG (tv t (kL ka)) (a Γ) A):RefG (tv .fz kI) (eLen a Γ) (A.bind fun x=>.ok (x.length:Int)):=ha.bind fun x=>by simp [RefG,tv]
theorem rLenS{A:Res (List Nat)}(ha:RefG (tv t kS) (a Γ) A):RefG (tv .fz kI) (eLen a Γ) (A.bind fun x=>.ok (x.length:Int)):=ha.bind fun x=>by simp [RefG,tv]
theorem rTupL{A:Res (List α)}(ha:RefG (tv t (kL ka)) (a Γ) A)(hf:flat1 t=true:=by rfl):RefG (tv .fz (kT ka)) (eTuple a Γ) A:=by
 have:=ha.bind (F:=fun x=>match x with
  | (t,.lst l)=>if flat1 t then .ok (.fz,.tup l) else .bad
  | (_,.tup l)=>.ok (.fz,.tup l)
  | _=>.bad) (g:=tv .fz (kT ka)) (k:=fun l=>.ok l) fun x=>by simp [hf,RefG,tv,-flat1]
 cases A <;> exact this
theorem allBl_map:∀ l:List Bool,allBl (l.map .bl) = .ok (l.all id)
 | []=>rfl
 | b :: l=>by rw [List.map_cons,allBl,allBl_map l]; rfl
theorem rAll{A:Res (List Bool)}(ha:RefG (tv t (kL kB)) (a Γ) A):RefG (tv .fz kB) (eAll a Γ) (A.bind fun x=>.ok (x.all id)):=ha.bind fun x=>by
 have:=allBl_map x
 simp [kB,RefG,tv] at this ⊢
 rw [this]; rfl
theorem rMin2{A B:Res Int}(ha:RefG (tv t kI) (a Γ) A)(hb:RefG (tv u kI) (b Γ) B):RefG (tv .fz kI) (eOp2 opMin2 a b Γ) (A.bind fun x=>B.bind fun y=>.ok (if y < x then y else x)) :=
 ha.bind fun x=>hb.bind fun y=>rfl
theorem any_eqv[DecidableEq α][Enc ka](x:α):∀ l:List α,((l.map ka).any fun z=>eqv z (ka x))=decide (x∈l)
 | []=>by simp
 | y :: l=>by
  rw [List.map_cons,List.any_cons,any_eqv x l,Enc.eq,Bool.eq_iff_iff,Bool.or_eq_true,decide_eq_true_eq,decide_eq_true_eq,decide_eq_true_eq,List.mem_cons]
  exact ⟨fun h=>h.elim (fun e=>.inl e.symm) .inr,fun h=>h.elim (fun e=>.inl e.symm) .inr⟩
theorem inB_L[DecidableEq α][Enc ka](hd:Enc.d ka≤50)(x:α)(l:List α):inB (ka x) (kL ka l) = .ok (decide (x∈l)):=by
 simp only [kL,inB]
 rw [Enc.sh (k:=ka) 50 hd,shpL_enc 50 hd,any_eqv]; rfl
theorem rNotInL[DecidableEq α][Enc ka]{B:Res (List α)}(ha:RefG (tv t ka) (a Γ) A)(hb:RefG (tv u (kL ka)) (b Γ) B)(hd:Enc.d ka≤50:=by decide):RefG (tv .fz kB) (eOp2 opNotIn a b Γ) (A.bind fun x=>B.bind fun y=>.ok (!memB x y)) :=
 ha.bind fun x=>hb.bind fun y=>by
  show (((inB (ka x) (kL ka y)).bind fun b=>.ok (.bl (!b))):Res PV).bind fzv=_
  rw [inB_L hd]; rfl
class Pl (k:α→PV):Prop where
 p:∀ a,plainP (k a)=true
instance:Pl kI:=⟨fun _=>rfl⟩
instance:Pl kB:=⟨fun _=>rfl⟩
instance:Pl kS:=⟨fun _=>rfl⟩
instance [Pl ka]:Pl (kO ka):=⟨fun a=>by cases a with
 | none=>rfl
 | some a=>exact Pl.p (k:=ka) a⟩
theorem inB_S(x y:List Nat)(b:Bool)(h:signIn x y = .ok b):inB (.str x) (.str y) = .ok b:=by
 match x,h with
 | [c],h=>exact h
theorem rInS{A B:Res (List Nat)}(ha:RefG (tv t kS) (a Γ) A)(hb:RefG (tv u kS) (b Γ) B):RefG (tv .fz kB) (eOp2 opIn a b Γ) (A.bind fun x=>B.bind fun y=>signIn x y) :=
 ha.bind fun x=>hb.bind fun y=>by
  cases h:signIn x y with
  | ok r=>show (((inB (.str x) (.str y)).bind fun b=>.ok (.bl b)):Res PV).bind fzv=_; rw [inB_S _ _ _ h]; rfl
  | exc c=>unfold signIn at h; split at h <;> cases h
  | bad=>exact trivial
theorem strsOf_mapS(ws:List (List Nat)):strsOf (ws.map kS)=some ws:=strsOf_map ws
theorem rJoinL{A:Res (List Nat)}{B:Res (List (List Nat))}(ha:RefG (tv t kS) (a Γ) A)(hb:RefG (tv u (kL kS)) (b Γ) B):RefG (tv .fz kS) (eTxt joinV a b Γ) (A.bind fun x=>B.bind fun y=>joinR x y) :=
 ha.bind fun x=>hb.bind fun y=>by
  unfold joinR
  by_cases h:(y.map (·.length)).sum+y.length * x.length≤16777216
  ·rw [if_pos h]
   show joinV x (u,.lst (y.map kS))=_
   simp only [joinV,listOf,strsOf_mapS]
   rw [if_pos h]; rfl
  ·rw [if_neg h]; exact trivial
theorem firstIx_enc[DecidableEq α][Enc ka](x:α):∀ l:List α,firstIx (fun z=>eqv z (ka x)) (l.map ka)=firstIx (fun z=>decide (z=x)) l
 | []=>rfl
 | y :: l=>by rw [List.map_cons,firstIx,firstIx,firstIx_enc x l,Enc.eq]
theorem rIndexS{A B:Res (List Nat)}(ha:RefG (tv t kS) (a Γ) A)(hb:RefG (tv u kS) (b Γ) B):RefG (tv .fz kI) (eTxt indexSV a b Γ) (A.bind fun x=>B.bind fun y=>match y with
  | [c]=>(match firstIx (· == c) x with
   | some k=>.ok (k:Int)
   | none=>.bad)
  | _=>.bad) :=
 ha.bind fun x=>hb.bind fun y=>by
  match y with
  | [c] =>
   show RefG _ (indexSV x (u,.str [c])) _
   simp only [indexSV]
   cases firstIx (· == c) x with
   | none=>exact trivial
   | some k=>exact rfl
  | []=>exact trivial
  | _ :: _ :: _=>exact trivial
end
end Vm
end
section
set_option linter.all false
set_option maxHeartbeats 1000000
set_option maxRecDepth 10000
namespace Vm
section
variable {Γ:En} {α β γ δ ε ι σ τ ρ κ:Type} {a b c e:EX} {as:EXs} {A B C:Res α} {t u v:Tg} {ka:α→PV} {kb:β→PV} {kc:γ→PV} {kd:δ→PV}
theorem argsC{f:α→TV}{g:γ→δ}{F:List TV→Res δ}{K:α→Res γ}(ha:RefG f (a Γ) A)(h:∀ x,RefG g ((as Γ).bind fun xs=>F (f x :: xs)) (K x)):RefG g ((eCons a as Γ).bind F) (A.bind K):=by
 show RefG g (((a Γ).bind fun x=>(as Γ).bind fun xs=>.ok (x :: xs)).bind F) _
 rw [bind_assoc]
 refine ha.bind fun x=>?_
 rw [bind_assoc]
 exact h x
theorem argsN{g:γ→δ}{F:List TV→Res δ}{K:Res γ}(h:RefG g (F []) K):RefG g ((eNil Γ).bind F) K:=h
theorem argsE(g:γ→δ)(x:γ){F:List TV→Res δ}(h:F [] = .ok (g x)):RefG g ((eNil Γ).bind F) (.ok x):=h
theorem rCallB{f:FN}{xs:List TV}{g:γ→TV}{R:Res γ}(ps:List PV)(hf:RefG g (f ps) R)(hp:xs.map (·.2)=ps:=by rfl)(hb:xs.any isBw=false:=by rfl):RefG g ((f (xs.map (·.2))).bind fun r=>if xs.any isBw && !stabR r then .bad else .ok r) R:=by
 rw [hp,hb]
 have:=hf.bind (F:=fun r=>if false && !stabR r then .bad else .ok r) (g:=g) (k:=fun x=>.ok x) fun x=>rfl
 cases R <;> exact this
theorem rCallS{f:FN}{xs:List TV}{g:γ→TV}{R:Res γ}(ps:List PV)(hf:RefG g (f ps) R)(hs:∀ x,stabR (g x)=true)(hp:xs.map (·.2)=ps:=by rfl):RefG g ((f (xs.map (·.2))).bind fun r=>if xs.any isBw && !stabR r then .bad else .ok r) R:=by
 rw [hp]
 have:=hf.bind (F:=fun r=>if xs.any isBw && !stabR r then .bad else .ok r) (g:=g) (k:=fun x=>.ok x) fun x=>by rw [hs,Bool.not_true,Bool.and_false]; rfl
 cases R <;> exact this
class St (k:α→PV):Prop where
 s:∀ a,stab (k a)=true
instance:St kI:=⟨fun _=>rfl⟩
instance:St kB:=⟨fun _=>rfl⟩
instance:St kS:=⟨fun _=>rfl⟩
instance:St kN:=⟨fun _=>rfl⟩
instance [St ka]:St (kO ka):=⟨fun a=>by cases a with
 | none=>rfl
 | some a=>exact St.s (k:=ka) a⟩
theorem stabL_map[St ka]:∀ l:List α,stabL (l.map ka)=true
 | []=>rfl
 | x :: l=>by rw [List.map_cons,stabL,St.s,stabL_map l]; rfl
instance [St ka]:St (kT ka):=⟨fun l=>by simp only [kT,stab]; exact stabL_map l⟩
instance [St ka]:St (kP1 ka):=⟨fun x=>by simp only [kP1,stab,stabL,St.s]; rfl⟩
instance [St ka] [St kb]:St (kP2 ka kb):=⟨fun x=>by simp only [kP2,stab,stabL,St.s]; rfl⟩
instance [St ka] [St kb] [St kc]:St (kP3 ka kb kc):=⟨fun x=>by simp only [kP3,stab,stabL,St.s]; rfl⟩
instance [St ka] [St kb] [St kc] [St kd]:St (kP4 ka kb kc kd):=⟨fun x=>by simp only [kP4,stab,stabL,St.s]; rfl⟩
theorem st_fz[St ka](x:α):stabR (tv .fz ka x)=true:=St.s (k:=ka) x
abbrev itv{α:Type}(fl:Bool)(f:α→TV)(xs:List α):Bool×List TV:=(fl,xs.map f)
@[simp] def noBw:Tg→Bool
 | .bw _=>false
 | _=>true
theorem iSeqL{A:Res (List α)}(ha:RefG (tv t (kL ka)) (a Γ) A)(ht:noBw t=true:=by rfl):RefG (itv true (tv .fz ka)) (jSeq a Γ) A:=by
 have:=ha.bind (F:=fun x=>match x.2 with
  | .lst l=>match x.1 with
   | .bw d=>.ok (false,l.map fun p=>(dn (.bw d),p))
   | _=>.ok (true,l.map fun p=>(.fz,p))
  | .tup l=>.ok (true,l.map fun p=>(.fz,p))
  | .str l=>.ok (true,l.map fun c=>(.fz,.str [c]))
  | _=>.bad) (g:=itv true (tv .fz ka)) (k:=fun l=>.ok l) fun x=>by
   cases t with
   | bw d=>cases ht
   | fz=>simp [RefG,itv,tv]
   | ow d=>simp [RefG,itv,tv]
 cases A <;> exact this
theorem iSeqB{A:Res (List α)}{d:Nat}(ha:RefG (tv (.bw d) (kL ka)) (a Γ) A):RefG (itv false (tv (dn (.bw d)) ka)) (jSeq a Γ) A:=by
 have:=ha.bind (F:=fun x=>match x.2 with
  | .lst l=>match x.1 with
   | .bw d=>.ok (false,l.map fun p=>(dn (.bw d),p))
   | _=>.ok (true,l.map fun p=>(.fz,p))
  | .tup l=>.ok (true,l.map fun p=>(.fz,p))
  | .str l=>.ok (true,l.map fun c=>(.fz,.str [c]))
  | _=>.bad) (g:=itv false (tv (dn (.bw d)) ka)) (k:=fun l=>.ok l) fun x=>by simp [RefG,itv,tv]
 cases A <;> exact this
def signs(l:List Nat):List (List Nat):=l.map fun c=>[c]
theorem iSeqS{A:Res (List Nat)}(ha:RefG (tv t kS) (a Γ) A):RefG (itv true (tv .fz kS)) (jSeq a Γ) (A.bind fun x=>.ok (signs x)):=ha.bind fun x=>by
 show RefG _ (Res.ok (true,x.map fun c=>((Tg.fz,PV.str [c]):TV))) _
 simp [RefG,itv,tv,signs,Function.comp_def]
theorem rngL_I(lo hi:Int):rngL lo hi=(rngI lo hi).map .int:=by unfold rngL rngI; rw [List.map_map]; rfl
theorem iRng{A:Res Int}(ha:RefG (tv t kI) (a Γ) A):RefG (itv true (tv .fz kI)) (jRange a Γ) (A.bind fun n=>rngR n):=ha.bind fun n=>by
 unfold rngR
 by_cases h:rngOk n=true
 ·rw [if_pos h]
  show RefG _ (if rngOk n then _ else _) _
  rw [if_pos h,rngL_I]
  simp [RefG,itv,tv]
 ·rw [if_neg h]; exact trivial
theorem lcGo_R{ki:ι→TV}{pat:Pat}{c:TX}{e:EX}{C:ι→Res Bool}{E:ι→Res α}{f:α→TV}(hp:∀ x,putV (f x) = .ok (f x).2)(hb:∀ x,∃ Γ',bindP Γ (ki x) pat = .ok Γ'∧RefG id (c Γ') (C x)∧RefG f (e Γ') (E x)) :
  ∀ xs:List ι,RefG (fun l:List α=>l.map fun x=>(f x).2) (lcGo Γ pat c e (xs.map ki)) (lcR C E xs)
 | []=>rfl
 | x :: xs=>by
  obtain ⟨Γ',h1,h2,h3⟩:=hb x
  rw [List.map_cons,lcGo,h1,bind_ok,lcR]
  refine h2.bind fun b=>?_
  cases b with
  | false=>exact lcGo_R hp hb xs
  | true =>
   refine h3.bind fun y=>?_
   rw [hp,bind_ok]
   exact (lcGo_R hp hb xs).bind fun r=>rfl
theorem noExc_R{f:α→β}{o:Res β}{r:Res α}(h:RefG f o r):RefG f (noExc o) (noExc r):=by
 cases r with
 | ok x =>
  have h:o = .ok (f x):=h
  rw [h]; exact rfl
 | exc c=>exact trivial
 | bad=>exact trivial
theorem rLC{it:IX}{X:Res (List ι)}{ki:ι→TV}{fl:Bool}{own:List Nat}{pat:Pat}{c:TX}{e:EX}{C:ι→Res Bool}{E:ι→Res α}(hi:RefG (itv fl ki) (it Γ) X)
  (hb:∀ x,∃ Γ',bindP (wipeE Γ own) (ki x) pat = .ok Γ'∧RefG id (c Γ') (C x)∧RefG (tv t ka) (e Γ') (E x))(hp:∀ p,putV (t,p) = .ok p:=by intro _; rfl) :
  RefG (tv (.ow 1) (kL ka)) (eLC own it pat c e Γ) (X.bind fun xs=>(noExc (lcR C E xs)).bind szR):=by
 refine hi.bind fun xs=>?_
 refine (noExc_R (lcGo_R (fun x=>hp _) hb xs)).bind fun l=>?_
 unfold szR
 by_cases h:l.length≤16777216
 ·rw [if_pos h,if_pos (by simpa using h)]; rfl
 ·rw [if_neg h]; exact trivial
theorem lcR_map{C:ι→Res Bool}{E:ι→Res α}(h:∀ x,C x = .ok true):∀ xs,lcR C E xs=mapR E xs
 | []=>rfl
 | x :: xs=>by rw [lcR,mapR,h,bind_ok,if_pos rfl,lcR_map h xs]
theorem rLM{it:IX}{X:Res (List ι)}{ki:ι→TV}{fl:Bool}{own:List Nat}{pat:Pat}{e:EX}{E:ι→Res α}(hi:RefG (itv fl ki) (it Γ) X)
  (hb:∀ x,∃ Γ',bindP (wipeE Γ own) (ki x) pat = .ok Γ'∧RefG (tv t ka) (e Γ') (E x))(hp:∀ p,putV (t,p) = .ok p:=by intro _; rfl) :
  RefG (tv (.ow 1) (kL ka)) (eLC own it pat xYes e Γ) (X.bind fun xs=>(noExc (mapR E xs)).bind szR):=by
 have:=rLC (C:=fun _=>.ok true) (E:=E) (c:=xYes) hi (fun x=>by
  obtain ⟨Γ',h1,h2⟩:=hb x
  exact ⟨Γ',h1,rfl,h2⟩) hp
 have e2:(fun xs=>(noExc (lcR (fun _=>.ok true) E xs)).bind szR)=fun xs=>(noExc (mapR E xs)).bind szR:=funext fun xs=>by rw [lcR_map fun _=>rfl]
 rw [e2] at this
 exact this
def RG(EP:En→Prop)(Post:Out→β→Prop)(o:Out):Res β→Prop
 | .ok x=>Post o x
 | .exc c=>∃ Γ',o = .exc c Γ'∧EP Γ'
 | .bad=>True
def NxP(P:σ→En→Prop):Out→σ→Prop:=fun o s=>∃ Γ',o = .nx Γ'∧P s Γ'
def RtP(f:ρ→TV):Out→ρ→Prop:=fun o x=>(∃ Γ',o = .rt (f x).1 (f x).2 Γ') ∨ ∃ Γ',o = .nx Γ'∧f x=(.fz,.non)
def LpP(ws:List Nat)(st:σ→En)(f:ρ→TV):Out→Ctl σ ρ→Prop:=fun o c=>match c with
 | .nx s=>∃ Γ',(o = .nx Γ' ∨ o = .ct Γ')∧wipeE Γ' ws=st s
 | .bk s=>∃ Γ',o = .bk Γ'∧wipeE Γ' ws=st s
 | .rt x=>∃ Γ',o = .rt (f x).1 (f x).2 Γ'
def LsP(ws:List Nat)(st:σ→En):Out→σ→Prop:=fun o s=>∃ Γ',(o = .nx Γ' ∨ o = .ct Γ')∧wipeE Γ' ws=st s
def CtlP(st:σ→En)(f:ρ→TV):Out→Ctl σ ρ→Prop:=fun o c=>match c with
 | .nx s=>o = .nx (st s)
 | .bk s=>o = .nx (st s)
 | .rt x=>∃ Γ',o = .rt (f x).1 (f x).2 Γ'
variable {EP:En→Prop} {Post:Out→β→Prop} {o:Out} {r:Res β} {d x y rest:ST} {S:Res σ} {u':σ→En} {K:σ→Res β}
abbrev Prim(EP:En→Prop)(d:ST)(Γ:En)(S:Res σ)(u:σ→En):Prop:=RG EP (NxP fun s Γ'=>Γ'=u s) (d Γ) S
theorem gPrim(h:Prim EP d Γ S u')(q:∀ s,RG EP Post (rest (u' s)) (K s)):RG EP Post (dSeq d rest Γ) (S.bind K):=by
 cases S with
 | ok s =>
  obtain ⟨Γ',h1,rfl⟩:=h
  show RG EP Post ((d Γ).then rest) _
  rw [h1]; exact q s
 | exc c =>
  obtain ⟨Γ',h1,h2⟩:=h
  show RG EP Post ((d Γ).then rest) _
  rw [h1]; exact ⟨Γ',rfl,h2⟩
 | bad=>exact trivial
theorem gPrim1(h:Prim EP d Γ S u')(q:∀ s,RG EP Post (.nx (u' s)) (K s)):RG EP Post (d Γ) (S.bind K):=by
 cases S with
 | ok s =>
  obtain ⟨Γ',h1,rfl⟩:=h
  rw [h1]; exact q s
 | exc c=>exact h
 | bad=>exact trivial
theorem gOk{s:β}(h:Post o s):RG EP Post o (.ok s):=h
theorem gNil(h:RG EP Post (rest Γ) r):RG EP Post (dSeq dNil rest Γ) r:=h
theorem gNil1(h:RG EP Post (.nx Γ) r):RG EP Post (dNil Γ) r:=h
theorem gAssoc(h:RG EP Post (dSeq x (dSeq y rest) Γ) r):RG EP Post (dSeq (dSeq x y) rest Γ) r:=by
 have e:(dSeq (dSeq x y) rest) Γ=dSeq x (dSeq y rest) Γ:=by
  show ((x Γ).then y).then rest=(x Γ).then (dSeq y rest)
  cases x Γ <;> rfl
 rw [e]; exact h
variable {T:TX} {D:Res Bool} {R1 R2:Res β} {S1 S2:Res σ}
theorem gIf(ht:RefG id (T Γ) D)(h1:RG EP Post (x Γ) R1)(h2:RG EP Post (y Γ) R2)(hE:EP Γ):RG EP Post (dIf T x y Γ) (D.bind fun c=>if c then R1 else R2):=by
 cases D with
 | ok c =>
  have ht:T Γ = .ok c:=ht
  show RG EP Post (aft (T Γ) Γ _) _
  rw [ht]
  cases c <;> first | exact h1 | exact h2
 | exc c =>
  have ht:T Γ = .exc c:=ht
  show RG EP Post (aft (T Γ) Γ _) _
  rw [ht]
  exact ⟨Γ,rfl,hE⟩
 | bad=>exact trivial
theorem gIfD(ht:RefG id (T Γ) D)(h1:RG EP Post (dSeq x rest Γ) R1)(h2:RG EP Post (dSeq y rest Γ) R2)(hE:EP Γ):RG EP Post (dSeq (dIf T x y) rest Γ) (D.bind fun c=>if c then R1 else R2):=by
 cases D with
 | ok c =>
  have ht:T Γ = .ok c:=ht
  show RG EP Post ((aft (T Γ) Γ _).then rest) _
  rw [ht]
  cases c <;> first | exact h1 | exact h2
 | exc c =>
  have ht:T Γ = .exc c:=ht
  show RG EP Post ((aft (T Γ) Γ _).then rest) _
  rw [ht]
  exact ⟨Γ,rfl,hE⟩
 | bad=>exact trivial
@[simp] def retT:Tg→Tg
 | .bw 0=>.fz
 | t=>t
@[simp] def retOk:Tg→Bool
 | .bw (_+1)=>false
 | _=>true
theorem ret_is(t:Tg)(p:PV)(Γ:En)(h:retOk t=true):(match ((t,p):TV) with
 | (.bw 0,p)=>Out.rt .fz p Γ
 | (.bw _,_)=>.bad
 | (t,p)=>.rt t p Γ) = .rt (retT t) p Γ:=by
 match t,h with
 | .fz,_=>rfl
 | .ow _,_=>rfl
 | .bw 0,_=>rfl
theorem gRet{E:Res α}{K:α→Res β}(h:RefG (tv t ka) (e Γ) E)(q:∀ x,RG EP Post (.rt (retT t) (ka x) Γ) (K x))(hE:EP Γ)(ht:retOk t=true:=by rfl):RG EP Post (dRet e Γ) (E.bind K):=by
 cases E with
 | ok x =>
  have h:e Γ = .ok (t,ka x):=h
  show RG EP Post (aft (e Γ) Γ _) _
  rw [h]
  show RG EP Post (match ((t,ka x):TV) with
   | (.bw 0,p)=>Out.rt .fz p Γ
   | (.bw _,_)=>.bad
   | (t,p)=>.rt t p Γ) _
  rw [ret_is _ _ _ ht]
  exact q x
 | exc c =>
  have h:e Γ = .exc c:=h
  show RG EP Post (aft (e Γ) Γ _) _
  rw [h]; exact ⟨Γ,rfl,hE⟩
 | bad=>exact trivial
theorem gRetS{E:Res α}{K:α→Res β}(h:RefG (tv t ka) (e Γ) E)(q:∀ x,RG EP Post (.rt (retT t) (ka x) Γ) (K x))(hE:EP Γ)(ht:retOk t=true:=by rfl):RG EP Post (dSeq (dRet e) rest Γ) (E.bind K):=by
 have:=gRet (K:=K) h q hE ht
 cases E with
 | ok x =>
  have h:e Γ = .ok (t,ka x):=h
  show RG EP Post ((aft (e Γ) Γ _).then rest) _
  rw [h]
  show RG EP Post (Out.then (match ((t,ka x):TV) with
   | (.bw 0,p)=>Out.rt .fz p Γ
   | (.bw _,_)=>.bad
   | (t,p)=>.rt t p Γ) rest) _
  rw [ret_is _ _ _ ht]
  exact q x
 | exc c =>
  have h:e Γ = .exc c:=h
  show RG EP Post ((aft (e Γ) Γ _).then rest) _
  rw [h]; exact ⟨Γ,rfl,hE⟩
 | bad=>exact trivial
theorem gRetV(i:Nat){p:PV}(hg:dRetV i Γ = .rt t p Γ)(q:RG EP Post (.rt t p Γ) r):RG EP Post (dRetV i Γ) r:=by rw [hg]; exact q
theorem gRaiseS(c:Nat)(hE:EP Γ):RG EP Post (dSeq (dRaise c) rest Γ) (.exc c):=⟨Γ,rfl,hE⟩
theorem prim_of{d:ST}{F:TV→Out}{f:α→TV}{E:Res α}(h:RefG f (e Γ) E)(hE:EP Γ){S:α→Res σ}(hd:d Γ=aft (e Γ) Γ F)(q:∀ x,RG EP (NxP fun s Γ'=>Γ'=u' s) (F (f x)) (S x)):Prim EP d Γ (E.bind S) u':=by
 show RG EP _ (d Γ) _
 rw [hd]
 cases E with
 | ok x =>
  have h:e Γ = .ok (f x):=h
  rw [h]; exact q x
 | exc c =>
  have h:e Γ = .exc c:=h
  rw [h]; exact ⟨Γ,rfl,hE⟩
 | bad=>exact trivial
theorem bind_id(E:Res α):(E.bind fun x=>.ok x)=E:=by cases E <;> rfl
theorem pSet(i:Nat){E:Res α}(h:RefG (tv t ka) (e Γ) E)(hE:EP Γ)(hp:∀ p,putV (t,p) = .ok p:=by intro _; rfl):Prim EP (dSet i e) Γ E (fun x=>Γ.set i (some (.fz,ka x))):=by
 have:=prim_of (EP:=EP) (d:=dSet i e) (u':=fun x=>Γ.set i (some (.fz,ka x))) (S:=fun x=>.ok x) h hE rfl fun x=>by
  show RG EP _ (aft (putV (t,ka x)) Γ _) _
  rw [hp]; exact ⟨_,rfl,rfl⟩
 rw [bind_id] at this
 exact this
theorem pSetO(i:Nat){d:Nat}{E:Res α}(h:RefG (tv (.ow d) ka) (e Γ) E)(hE:EP Γ):Prim EP (dSetO i e) Γ E (fun x=>Γ.set i (some (.ow d,ka x))):=by
 have:=prim_of (EP:=EP) (d:=dSetO i e) (u':=fun x=>Γ.set i (some (.ow d,ka x))) (S:=fun x=>.ok x) h hE rfl fun x=>⟨_,rfl,rfl⟩
 rw [bind_id] at this
 exact this
theorem pEx{E:Res α}{f:α→TV}(h:RefG f (e Γ) E)(hE:EP Γ):Prim EP (dEx e) Γ (E.bind fun _=>.ok ()) (fun _=>Γ) :=
 prim_of (EP:=EP) (d:=dEx e) h hE rfl fun x=>⟨_,rfl,rfl⟩
theorem pApp(i:Nat){E:Res α}{l:List α}(h:RefG (tv t ka) (e Γ) E)(hE:EP Γ)(hg:Γ.get i=some (.ow 1,kL ka l))(hp:∀ p,putV (t,p) = .ok p:=by intro _; rfl):Prim EP (dApp i e) Γ (E.bind fun x=>appR l x) (fun l=>Γ.set i (some (.ow 1,kL ka l))):=by
 refine prim_of (EP:=EP) (d:=dApp i e) (F:=fun x=>aft (putV x) Γ fun p=>if (l.map ka).length < 16777216 then .nx (Γ.set i (some (.ow 1,.lst (l.map ka++[p])))) else .bad) h hE ?_ fun x=>?_
 ·show (match Γ.get i with
   | some (.ow 1,.lst l)=>aft (e Γ) Γ fun x=>aft (putV x) Γ fun p=>if l.length < 16777216 then .nx (Γ.set i (some (.ow 1,.lst (l++[p])))) else .bad
   | _=>.bad)=_
  rw [hg]; rfl
 ·show RG EP _ (aft (putV (t,ka x)) Γ _) _
  rw [hp]
  show RG EP _ (if (l.map ka).length < 16777216 then _ else _) _
  unfold appR
  by_cases hz:l.length < 16777216
  ·rw [if_pos hz,if_pos (by simpa using hz)]; exact ⟨_,rfl,by simp⟩
  ·rw [if_neg hz]; exact trivial
theorem forL_T{ki:ι→TV}{pat:Pat}{ws:List Nat}{body:ST}{st:σ→En}{f:ρ→TV}{F:σ→ι→Res (Ctl σ ρ)}(hb:∀ s x,∃ Γ',bindP (st s) (ki x) pat = .ok Γ'∧RG EP (LpP ws st f) (body Γ') (F s x)) :
  ∀ (xs:List ι) (s:σ),RG EP (CtlP st f) (forL pat ws body (xs.map ki) (st s)) (forT F xs s)
 | [],s=>rfl
 | x :: xs,s=>by
  obtain ⟨Γ',h1,h2⟩:=hb s x
  rw [List.map_cons,forL,h1,forT]
  show RG EP _ (match body Γ' with
   | .nx Γ2=>forL pat ws body (xs.map ki) (wipeE Γ2 ws)
   | .ct Γ2=>forL pat ws body (xs.map ki) (wipeE Γ2 ws)
   | .bk Γ2=>.nx (wipeE Γ2 ws)
   | o=>o) _
  cases hF:F s x with
  | ok c =>
   rw [hF] at h2
   cases c with
   | nx s' =>
    obtain ⟨Γ2,h3,h4⟩:=h2
    rcases h3 with h3 | h3 <;> (rw [h3]; simp only [h4]; exact forL_T hb xs s')
   | bk s' =>
    obtain ⟨Γ2,h3,h4⟩:=h2
    rw [h3]; simp only [h4]; exact rfl
   | rt y =>
    obtain ⟨Γ2,h2⟩:=(h2:∃ Γ2,body Γ' = .rt (f y).1 (f y).2 Γ2)
    rw [h2]; exact ⟨_,rfl⟩
  | exc c =>
   rw [hF] at h2
   obtain ⟨Γ2,h3,h4⟩:=h2
   rw [h3]; exact ⟨Γ2,rfl,h4⟩
  | bad=>exact trivial
theorem gForT{it:IX}{X:Res (List ι)}{ki:ι→TV}{pat:Pat}{ws:List Nat}{body:ST}{f:ρ→TV}{F:σ→ι→Res (Ctl σ ρ)}(st:σ→En)(s0:σ)(hi:RefG (itv true ki) (it Γ) X)(h0:wipeE Γ ws=st s0)(hb:∀ s x,∃ Γ',bindP (st s) (ki x) pat = .ok Γ'∧RG EP (LpP ws st f) (body Γ') (F s x))(hE:EP Γ) :
  RG EP (CtlP st f) (dFor it pat ws body Γ) (X.bind fun xs=>forT F xs s0):=by
 cases X with
 | ok xs =>
  have hi:it Γ = .ok (true,xs.map ki):=hi
  show RG EP _ (aft (it Γ) Γ _) _
  rw [hi]
  show RG EP _ (forL pat ws body (xs.map ki) (wipeE Γ ws)) _
  rw [h0]
  exact forL_T hb xs s0
 | exc c =>
  have hi:it Γ = .exc c:=hi
  show RG EP _ (aft (it Γ) Γ _) _
  rw [hi]; exact ⟨Γ,rfl,hE⟩
 | bad=>exact trivial
theorem forL_S{ki:ι→TV}{pat:Pat}{ws:List Nat}{body:ST}{st:σ→En}{F:σ→ι→Res σ}(hb:∀ s x,∃ Γ',bindP (st s) (ki x) pat = .ok Γ'∧RG EP (LsP ws st) (body Γ') (F s x)) :
  ∀ (xs:List ι) (s:σ),RG EP (NxP fun s Γ'=>Γ'=st s) (forL pat ws body (xs.map ki) (st s)) (forS F xs s)
 | [],s=>⟨_,rfl,rfl⟩
 | x :: xs,s=>by
  obtain ⟨Γ',h1,h2⟩:=hb s x
  rw [List.map_cons,forL,h1,forS]
  show RG EP _ (match body Γ' with
   | .nx Γ2=>forL pat ws body (xs.map ki) (wipeE Γ2 ws)
   | .ct Γ2=>forL pat ws body (xs.map ki) (wipeE Γ2 ws)
   | .bk Γ2=>.nx (wipeE Γ2 ws)
   | o=>o) _
  cases hF:F s x with
  | ok s' =>
   rw [hF] at h2
   obtain ⟨Γ2,h3,h4⟩:=h2
   rcases h3 with h3 | h3 <;> (rw [h3]; simp only [h4]; exact forL_S hb xs s')
  | exc c =>
   rw [hF] at h2
   obtain ⟨Γ2,h3,h4⟩:=h2
   rw [h3]; exact ⟨Γ2,rfl,h4⟩
  | bad=>exact trivial
theorem pFor{it:IX}{X:Res (List ι)}{ki:ι→TV}{pat:Pat}{ws:List Nat}{body:ST}{F:σ→ι→Res σ}(st:σ→En)(s0:σ)(hi:RefG (itv true ki) (it Γ) X)(h0:wipeE Γ ws=st s0)(hb:∀ s x,∃ Γ',bindP (st s) (ki x) pat = .ok Γ'∧RG EP (LsP ws st) (body Γ') (F s x))(hE:EP Γ) :
  Prim EP (dFor it pat ws body) Γ (X.bind fun xs=>forS F xs s0) st:=by
 cases X with
 | ok xs =>
  have hi:it Γ = .ok (true,xs.map ki):=hi
  show RG EP _ (aft (it Γ) Γ _) _
  rw [hi]
  show RG EP _ (forL pat ws body (xs.map ki) (wipeE Γ ws)) _
  rw [h0]
  exact forL_S hb xs s0
 | exc c =>
  have hi:it Γ = .exc c:=hi
  show RG EP _ (aft (it Γ) Γ _) _
  rw [hi]; exact ⟨Γ,rfl,hE⟩
 | bad=>exact trivial
theorem gCtl{st:σ→En}{f:ρ→TV}{R:Res (Ctl σ ρ)}{ret:ρ→Res β}(h:RG EP (CtlP st f) (d Γ) R)(q:∀ s,RG EP Post (rest (st s)) (K s))(hr:∀ x Γ',RG EP Post (.rt (f x).1 (f x).2 Γ') (ret x)):RG EP Post (dSeq d rest Γ) (R.bind fun c=>c.then ret K):=by
 show RG EP Post ((d Γ).then rest) _
 cases R with
 | ok c =>
  cases c with
  | nx s =>
   have h:d Γ = .nx (st s):=h
   rw [h]; exact q s
  | bk s =>
   have h:d Γ = .nx (st s):=h
   rw [h]; exact q s
  | rt x =>
   obtain ⟨Γ2,h⟩:=(h:∃ Γ2,d Γ = .rt (f x).1 (f x).2 Γ2)
   rw [h]; exact hr x Γ2
 | exc c =>
  obtain ⟨Γ2,h3,h4⟩:=h
  rw [h3]; exact ⟨Γ2,rfl,h4⟩
 | bad=>exact trivial
theorem tFn{np ns:Nat}{body:ST}{args:List PV}{f:ρ→TV}{R:Res ρ}(h:RG (fun _=>True) (RtP f) (body (args.map (fun p=>some (.fz,p))++List.replicate (ns - np) none)) R)(hl:args.length=np:=by rfl):RefG f (runFn np ns body args) R:=by
 unfold runFn
 rw [if_pos hl]
 cases R with
 | ok x =>
  rcases h with ⟨Γ',h⟩ | ⟨Γ',h1,h2⟩
  ·rw [h]; exact rfl
  ·rw [h1]; show _=_; rw [h2]
 | exc c =>
  obtain ⟨Γ',h1,_⟩:=h
  rw [h1]; exact rfl
 | bad=>exact trivial
end
end Vm
end
section
set_option linter.all false
set_option maxHeartbeats 1000000
set_option maxRecDepth 10000
namespace Vm
section
variable {Γ:En} {α β γ δ ι σ ρ κ:Type} {a b c e:EX} {ka:α→PV} {kb:β→PV}
def decI:TV→Res Int
 | (.fz,.int i)=>.ok i
 | _=>.bad
def decS:TV→Res (List Nat)
 | (.fz,.str i)=>.ok i
 | _=>.bad
theorem RefG.dec{o:Res TV}{r:Res TV}{f:α→TV}{D:TV→Res α}(h:RefG id o r)(hd:∀ x y,D x = .ok y→x=f y)(hx:∀ x c,D x ≠ .exc c):RefG f o (r.bind D):=by
 cases r with
 | ok x =>
  have h:o = .ok x:=h
  show RefG f o (D x)
  cases hD:D x with
  | ok y=>rw [h,hd x y hD]; exact rfl
  | exc c=>exact absurd hD (hx x c)
  | bad=>exact trivial
 | exc c=>exact h
 | bad=>exact trivial
theorem rDecI{A:Res TV}(h:RefG id (a Γ) A):RefG (tv .fz kI) (a Γ) (A.bind decI):=h.dec (by
 rintro ⟨t,p⟩ y h
 cases t <;> cases p <;> cases h
 rfl) (by
 rintro ⟨t,p⟩ c h
 cases t <;> cases p <;> cases h)
theorem rDecS{A:Res TV}(h:RefG id (a Γ) A):RefG (tv .fz kS) (a Γ) (A.bind decS):=h.dec (by
 rintro ⟨t,p⟩ y h
 cases t <;> cases p <;> cases h
 rfl) (by
 rintro ⟨t,p⟩ c h
 cases t <;> cases p <;> cases h)
def tvB(x:TV):Res Bool:=match x.2 with
 | .bl b=>.ok b
 | _=>.bad
def indexSR(x y:List Nat):Res Int:=match y with
 | [c]=>(match firstIx (· == c) x with
  | some k=>.ok (k:Int)
  | none=>.bad)
 | _=>.bad
variable {EP:En→Prop} {Post:Out→β→Prop} {d rest:ST} {S:Res σ} {K:σ→Res β}
end
end Vm
end
section
set_option linter.all false
set_option maxHeartbeats 1000000
set_option maxRecDepth 10000
namespace Vm
theorem tkLt_irr(x:Tk):tkLt x x=false:=by cases x <;> simp [tkLt]
theorem lexT_app:∀ (l a b:List Tk),lexT (l++a) (l++b)=lexT a b
 | [],_,_=>rfl
 | x :: l,a,b=>by rw [List.cons_append,List.cons_append,lexT,tkLt_irr,lexT_app l a b]; simp
class Ordk {α:Type} [DecidableEq α] (k:α→PV) where
 lt:α→α→Bool
 d:Nat
 tok:∀ a b l m,lexT (toks (k a)++l) (toks (k b)++m)=(lt a b || (decide (a=b) && lexT l m))
 irr:∀ a,lt a a=false
 al:∀ a b,alk (k a) (k b)=true
 sh:∀ n,d≤n→∀ a,shp n (k a)=true
 nn:∀ a,isNon (k a)=false
instance:Ordk kI where
 lt:=fun a b=>decide (a < b)
 d:=0
 tok:=fun a b l m=>by
  simp only [kI,toks,List.cons_append,List.nil_append,lexT,tkLt]
  rw [Bool.eq_iff_iff]
  by_cases h:a < b
  ·simp [h]
  ·by_cases e:a=b
   ·simp [e]
   ·have:b < a:=by omega
    simp [h,e,this]
 irr:=fun a=>by simp
 al:=fun _ _=>rfl
 sh:=fun n _ a=>by cases n <;> rfl
 nn:=fun _=>rfl
instance:Ordk kS where
 lt:=fun a b=>decide (a < b)
 d:=0
 tok:=fun a b l m=>by
  simp only [kS,toks,List.cons_append,List.nil_append,lexT,tkLt]
  by_cases h:a < b
  ·simp [h]
  ·by_cases e:a=b
   ·simp [e,List.lt_irrefl]
   ·have:b < a:=by
     rcases List.le_iff_lt_or_eq.mp (List.not_lt.mp h) with z | z
     ·exact z
     ·exact absurd z.symm e
    simp [h,e,this]
 irr:=fun a=>by simp [List.lt_irrefl]
 al:=fun _ _=>rfl
 sh:=fun n _ a=>by cases n <;> rfl
 nn:=fun _=>rfl
section
variable {α β γ δ:Type} [DecidableEq α] [DecidableEq β] {a:α→PV} {b:β→PV}
instance [Ordk a] [Ordk b]:Ordk (kP2 a b) where
 lt:=fun x y=>Ordk.lt a x.1 y.1 || (decide (x.1=y.1) && Ordk.lt b x.2 y.2)
 d:=max (Ordk.d a) (Ordk.d b)+1
 tok:=fun x y l m=>by
  simp only [kP2,toks,toksL,List.cons_append,List.append_assoc,List.nil_append]
  have h1:lexT (Sum.inl 1 :: (toks (a x.1)++(Sum.inl 1 :: (toks (b x.2)++(Sum.inl 0 :: l))))) (Sum.inl 1 :: (toks (a y.1)++(Sum.inl 1 :: (toks (b y.2)++(Sum.inl 0 :: m)))))=lexT (toks (a x.1)++(Sum.inl 1 :: (toks (b x.2)++(Sum.inl 0 :: l)))) (toks (a y.1)++(Sum.inl 1 :: (toks (b y.2)++(Sum.inl 0 :: m)))):=lexT_app [Sum.inl 1] _ _
  rw [h1,Ordk.tok]
  have h2:lexT (Sum.inl 1 :: (toks (b x.2)++(Sum.inl 0 :: l))) (Sum.inl 1 :: (toks (b y.2)++(Sum.inl 0 :: m)))=lexT (toks (b x.2)++(Sum.inl 0 :: l)) (toks (b y.2)++(Sum.inl 0 :: m)):=lexT_app [Sum.inl 1] _ _
  rw [h2,Ordk.tok]
  have h3:lexT (Sum.inl 0 :: l) (Sum.inl 0 :: m)=lexT l m:=lexT_app [Sum.inl 0] _ _
  rw [h3]
  have e:decide (x=y)=(decide (x.1=y.1) && decide (x.2=y.2)):=by rw [Bool.eq_iff_iff]; simp [Prod.ext_iff]
  rw [e]
  cases Ordk.lt a x.1 y.1 <;> cases decide (x.1=y.1) <;> cases Ordk.lt b x.2 y.2 <;> cases decide (x.2=y.2) <;> simp
 irr:=fun x=>by simp [Ordk.irr]
 al:=fun x y=>by simp only [kP2,alk,alkL,Ordk.al,Bool.and_self]
 sh:=fun n h x=>by
  cases n with
  | zero=>omega
  | succ n=>simp only [kP2,shp,shpL,Ordk.sh (k:=a) n (by omega),Ordk.sh (k:=b) n (by omega),Bool.and_true]
 nn:=fun _=>rfl
def ltL(lt:α→α→Bool):List α→List α→Bool
 | [],[]=>false
 | [],_ :: _=>true
 | _ :: _,[]=>false
 | x :: xs,y :: ys=>lt x y || (decide (x=y) && ltL lt xs ys)
theorem ltL_irr{lt:α→α→Bool}(h:∀ a,lt a a=false):∀ l,ltL lt l l=false
 | []=>rfl
 | x :: l=>by rw [ltL,h,ltL_irr h l]; simp
theorem tokL[Ordk a]:∀ (x y:List α) (l m:List Tk),lexT (toksL (x.map a)++l) (toksL (y.map a)++m)=(ltL (Ordk.lt a) x y || (decide (x=y) && lexT l m))
 | [],[],l,m=>by
  have:lexT (Sum.inl 0 :: l) (Sum.inl 0 :: m)=lexT l m:=lexT_app [Sum.inl 0] _ _
  simp [toksL,ltL,this]
 | [],y :: ys,l,m=>by simp [toksL,ltL,lexT,tkLt]
 | x :: xs,[],l,m=>by simp [toksL,ltL,lexT,tkLt]
 | x :: xs,y :: ys,l,m=>by
  simp only [List.map_cons,toksL,List.cons_append,List.append_assoc]
  have h1:lexT (Sum.inl 1 :: (toks (a x)++(toksL (xs.map a)++l))) (Sum.inl 1 :: (toks (a y)++(toksL (ys.map a)++m)))=lexT (toks (a x)++(toksL (xs.map a)++l)) (toks (a y)++(toksL (ys.map a)++m)):=lexT_app [Sum.inl 1] _ _
  rw [h1,Ordk.tok,tokL xs ys l m,ltL]
  have e:decide (x :: xs=y :: ys)=(decide (x=y) && decide (xs=ys)):=by rw [Bool.eq_iff_iff]; simp
  rw [e]
  cases Ordk.lt a x y <;> cases decide (x=y) <;> cases ltL (Ordk.lt a) xs ys <;> cases decide (xs=ys) <;> simp
theorem alkL_map[Ordk a]:∀ x y:List α,alkL (x.map a) (y.map a)=true
 | [],[]=>rfl
 | [],_ :: _=>rfl
 | _ :: _,[]=>rfl
 | x :: xs,y :: ys=>by rw [List.map_cons,List.map_cons,alkL,Ordk.al,alkL_map xs ys]; rfl
theorem shpL_ord[Ordk a](n:Nat)(h:Ordk.d a≤n):∀ l:List α,shpL n (l.map a)=true
 | []=>by rw [List.map_nil,shpL]
 | x :: l=>by rw [List.map_cons,shpL,Ordk.sh n h,shpL_ord n h l]; rfl
instance [Ordk a]:Ordk (kT a) where
 lt:=ltL (Ordk.lt a)
 d:=Ordk.d a+1
 tok:=fun x y l m=>by simp only [kT,toks]; exact tokL x y l m
 irr:=ltL_irr Ordk.irr
 al:=fun x y=>by simp only [kT,alk]; exact alkL_map x y
 sh:=fun n h x=>by
  cases n with
  | zero=>omega
  | succ n=>simp only [kT,shp]; exact shpL_ord n (by omega) x
 nn:=fun _=>rfl
end
section
variable {Γ:En} {α β γ δ ε ι σ τ ρ κ:Type} {a b c e:EX} {as:EXs} {A:Res α} {t u v:Tg} {ka:α→PV} {kb:β→PV} {kc:γ→PV} {kd:δ→PV}
class Srk (k:α→PV):Prop where
 s:(∀ a,∃ x r,k a = .tup (x :: r)) ∨ ∀ a x,k a ≠ .tup x
instance:Srk kI:=⟨.inr fun a x h=>by cases h⟩
instance:Srk kS:=⟨.inr fun a x h=>by cases h⟩
instance:Srk (kP2 ka kb):=⟨.inl fun a=>⟨_,_,rfl⟩⟩
theorem rChain{op op':PV→PV→Res PV}{f g:Int→Int→Bool}{A B C:Res Int}(h1:∀ x y,op (.int x) (.int y) = .ok (.bl (f x y)))(h2:∀ x y,op' (.int x) (.int y) = .ok (.bl (g x y)))(ha:RefG (tv t kI) (a Γ) A)(hb:RefG (tv u kI) (b Γ) B)(hc:RefG (tv v kI) (c Γ) C) :
  RefG (tv .fz kB) (eChain op op' a b c Γ) (A.bind fun x=>B.bind fun y=>if f x y then C.bind fun z=>.ok (g y z) else .ok false) :=
 ha.bind fun x=>hb.bind fun y=>by
  show RefG _ ((op (.int x) (.int y)).bind _) _
  rw [h1,bind_ok]
  cases f x y with
  | false=>exact rfl
  | true =>
   refine hc.bind fun z=>?_
   show RefG _ ((op' (.int y) (.int z)).bind fzv) _
   rw [h2]; exact rfl
theorem opLe_i(x y:Int):opLe (.int x) (.int y) = .ok (.bl (decide (x≤y))):=rfl
def stepI(i j c:Int):List Int:=(List.range (stepN i j c)).map fun (k:Nat)=>i+(k:Int) * c
def rng3R(i j c:Int):Res (List Int):=if 0 < c∧c < 1073741824∧0≤i∧i < 1073741824∧0≤j∧j < 1073741824 then .ok (stepI i j c) else .bad
end
def asB:Res TV→Res Bool
 | .ok (.fz,.bl b)=>.ok b
 | .exc c=>.exc c
 | _=>.bad
theorem RefG.asB{o:Res TV}:RefG (tv .fz kB) o (asB o):=by
 unfold Vm.asB
 split
 ·exact rfl
 ·exact rfl
 ·exact trivial
section
variable {Γ:En} {a b:EX} {E E2:Res TV}
theorem xVD(ha:RefG id (a Γ) E):RefG id (xVal a Γ) (E.bind fun x=>tvB x):=ha.bind fun _=>RefG.self
@[simp] def isiD (s:String) (x:TV):Res TV:=if isExo x.2 then .bad else .ok (tv .fz kB (kindIs s x.2))
theorem rIxD(ha:RefG id (a Γ) E)(hb:RefG id (b Γ) E2):RefG id (eIdx a b Γ) (E.bind fun x=>E2.bind fun y=>ixV x y.2):=ha.bind fun _=>hb.bind fun _=>RefG.self
theorem rOp2D{op:PV→PV→Res PV}(ha:RefG id (a Γ) E)(hb:RefG id (b Γ) E2):RefG id (eOp2 op a b Γ) (E.bind fun x=>E2.bind fun y=>(op x.2 y.2).bind fzv):=ha.bind fun _=>hb.bind fun _=>RefG.self
theorem rOp1D{op:PV→Res PV}(ha:RefG id (a Γ) E):RefG id (eOp1 op a Γ) (E.bind fun x=>(op x.2).bind fzv):=ha.bind fun _=>RefG.self
end
end Vm
end
section
set_option linter.all false
set_option maxHeartbeats 1000000
namespace Vm
def repT(n:Nat)(k:Int):Bool:=decide (k≤1000) && decide (-1000≤k) && decide (n≤1000)
@[simp] def mulV2 (x y:TV):Res TV:=match x.2,y.2 with
 | .lst a,.int k=>if flat1 x.1 && repOk a.length k then .ok (.ow 1,.lst (List.replicate k.toNat a).flatten) else .bad
 | .tup a,.int k=>if repT a.length k then .ok (.fz,.tup (List.replicate k.toNat a).flatten) else .bad
 | p,q=>(opMul p q).bind fzv
@[simp] def eMul2 (a b:EX):EX:=fun Γ=>(a Γ).bind fun x=>(b Γ).bind fun y=>mulV2 x y
end Vm
end
section
set_option linter.all false
set_option maxHeartbeats 1000000
set_option maxRecDepth 10000
namespace Vm
section
variable {Γ:En} {α:Type} {a b:EX} {t u:Tg} {ka:α→PV}
end
end Vm
end
section
set_option linter.all false
set_option maxHeartbeats 1000000
namespace Vm
@[simp] def opShr:PV→PV→Res PV
 | .int i,.int j=>if 0≤j∧j≤1000 then .ok (.int (i / 2 ^ j.toNat)) else .bad
 | _,_=>.bad
@[simp] def opBit:PV→PV→Res PV
 | .int i,.int j=>if 0≤i∧0≤j then .ok (.int ((i.toNat &&& j.toNat:Nat):Int)) else .bad
 | _,_=>.bad
end Vm
end
section
set_option linter.all false
set_option maxHeartbeats 1000000
namespace Vm
def takesC(cs:List (Nat×Bool))(c:Nat):Option Bool:=(cs.find? fun x=>x.1 == c).map (·.2)
@[simp] def dTry1 (cs:List (Nat×Bool)) (b h:ST):ST:=fun Γ=>match b Γ with
 | .exc c Γ'=>match takesC cs c with
  | some true=>match h Γ' with
   | .exc _ _=>.bad
   | o=>o
  | some false=>.exc c Γ'
  | none=>.bad
 | o=>o
end Vm
end
section
set_option linter.all false
set_option maxHeartbeats 1000000
set_option maxRecDepth 10000
namespace Vm
section
variable {Γ:En} {a b:EX} {t u:Tg}
end
end Vm
end
section
set_option linter.all false
set_option maxHeartbeats 1000000
set_option maxRecDepth 10000
namespace Vm
def tryR{σ:Type}(cs:List (Nat×Bool))(R H:Res σ):Res σ:=match R with
 | .exc c=>match takesC cs c with
  | some true=>match H with
   | .exc _=>.bad
   | r=>r
  | some false=>.exc c
  | none=>.bad
 | r=>r
theorem gTry{σ:Type}{EP:En→Prop}{Γ:En}{b h:ST}{P:σ→En→Prop}{R H:Res σ}{cs:List (Nat×Bool)}(hb:RG (fun Γ'=>Γ'=Γ) (NxP P) (b Γ) R)(hh:RG (fun _=>True) (NxP P) (h Γ) H)(hE:EP Γ):RG EP (NxP P) (dTry1 cs b h Γ) (tryR cs R H):=by
 cases R with
 | ok s =>
  obtain ⟨Γ',e,p⟩:=hb
  show NxP P (dTry1 cs b h Γ) s
  unfold dTry1
  rw [e]
  exact ⟨Γ',rfl,p⟩
 | exc c =>
  obtain ⟨Γ',e,e2⟩:=hb
  subst e2
  unfold dTry1 tryR
  simp only [e]
  cases takesC cs c with
  | none=>exact trivial
  | some t =>
   cases t with
   | false=>exact ⟨_,rfl,hE⟩
   | true =>
    cases H with
    | ok s =>
     obtain ⟨Γ2,e2,p2⟩:=hh
     simp only [e2]
     exact ⟨Γ2,rfl,p2⟩
    | exc c2=>exact trivial
    | bad=>exact trivial
 | bad=>exact trivial
end Vm
end
section
set_option linter.all false
set_option maxHeartbeats 1000000
set_option maxRecDepth 10000
namespace Vm
@[simp] theorem bind_ite {α β:Type} (c:Bool) (x y:Res α) (f:α→Res β):(if c then x else y).bind f=if c then x.bind f else y.bind f:=by cases c <;> rfl
@[simp] theorem then_nx' {σ ρ β:Type} (s:σ) (r:ρ→Res β) (k:σ→Res β):(Ctl.nx s).then r k=k s:=rfl
@[simp] theorem then_bk' {σ ρ β:Type} (s:σ) (r:ρ→Res β) (k:σ→Res β):(Ctl.bk s).then r k=k s:=rfl
@[simp] theorem then_rt' {σ ρ β:Type} (x:ρ) (r:ρ→Res β) (k:σ→Res β):(Ctl.rt x:Ctl σ ρ).then r k=r x:=rfl
@[simp] theorem noExc_ok {α:Type} (a:α):noExc (Res.ok a) = .ok a:=rfl
@[simp] theorem signs_length (l:List Nat):(signs l).length=l.length:=by simp [signs]
def gt{α:Type}[Inhabited α](l:List α)(i:Int):α:=l.getD i.toNat default
theorem gt_mem{α:Type}[Inhabited α]{l:List α}{i:Int}(h1:i.toNat < l.length):gt l i∈l:=by
 unfold gt; rw [List.getD,List.getElem?_eq_getElem h1]; exact List.getElem_mem h1
theorem ixR_gt{α:Type}[Inhabited α]{l:List α}{i:Int}(h0:0≤i)(h1:i < l.length):ixR l i = .ok (gt l i):=by
 unfold ixR
 rw [vAt_int h0 h1]
 have:i.toNat < l.length:=by omega
 simp [gt,List.getD,this]
theorem ixR_last{α:Type}[Inhabited α]{l:List α}(h:l ≠ []):ixR l (-1) = .ok (l.getLast h):=by
 unfold ixR vAt vIxN
 have:0 < l.length:=List.length_pos_iff.mpr h
 rw [if_neg (by omega),if_pos (by omega)]
 have e:((-1:Int)+(l.length:Int)).toNat=l.length - 1:=by omega
 rw [e,Option.bind_some,← List.getLast?_eq_getElem?,List.getLast?_eq_some_getLast h]
def rngN(n:Nat):List Int:=(List.range n).map fun (k:Nat)=>(k:Int)
@[simp] theorem rngN_length (n:Nat):(rngN n).length=n:=by simp [rngN]
theorem rngI0(n:Int):rngI 0 n=rngN n.toNat:=by unfold rngI rngN; rw [Int.sub_zero]; exact List.map_congr_left fun k _=>by omega
theorem mem_rngN{n:Nat}{x:Int}:x∈rngN n ↔ 0≤x∧x < n:=by
 unfold rngN
 rw [List.mem_map]
 constructor
 ·rintro ⟨k,hk,rfl⟩
  have:k < n:=by simpa using hk
  omega
 ·rintro ⟨a,b⟩
  exact ⟨x.toNat,by simp; omega,by omega⟩
theorem rngR_nat{n:Nat}(h:n≤1000000000):rngR (n:Int) = .ok (rngN n):=by
 unfold rngR
 rw [if_pos (rngOk_of (by omega) (by omega)),rngI0]; rfl
theorem rngR_int{n:Int}(h0:0≤n)(h:n≤1000000000):rngR n = .ok (rngN n.toNat):=by
 unfold rngR
 rw [if_pos (rngOk_of (by omega) (by omega)),rngI0]
@[simp] theorem rngI_length (lo hi:Int):(rngI lo hi).length=(hi - lo).toNat:=by simp [rngI]
theorem appR_ok{α:Type}{l:List α}{x:α}(h:l.length < 16777216):appR l x = .ok (l++[x]):=if_pos h
theorem catR_ok{α:Type}{l m:List α}(h:l.length+m.length≤16777216):catR l m = .ok (l++m):=if_pos h
theorem szR_ok{α:Type}{l:List α}(h:l.length≤16777216):szR l = .ok l:=if_pos h
theorem modR_ok{i j:Int}(h:0 < j):modR i j = .ok (i % j):=if_pos h
theorem fdivR_ok{i j:Int}(h:0 < j)(h2:j < 2 ^ 200):fdivR i j = .ok (i / j):=by
 unfold fdivR
 rw [if_pos]
 have:=log2_lt_pow (a:=j.natAbs) (n:=200) (by omega)
 exact ⟨h,by omega⟩
@[simp] theorem getO_s {α:Type} (a:α):getO (some a) = .ok a:=rfl
theorem mapR_ok{ι α:Type}{f:ι→Res α}{g:ι→α}:∀ {l:List ι},(∀ x∈l,f x = .ok (g x))→mapR f l = .ok (l.map g)
 | [],_=>rfl
 | x :: l,h=>by rw [mapR,h x (by simp),bind_ok,mapR_ok fun y hy=>h y (by simp [hy])]; rfl
theorem mapR_sz{ι α:Type}{f:ι→Res α}(g:ι→α){l:List ι}(h:∀ x∈l,f x = .ok (g x))(hz:l.length≤16777216):(noExc (mapR f l)).bind szR = .ok (l.map g):=by
 rw [mapR_ok h]; exact szR_ok (by simpa using hz)
theorem mapR_ex{ι α:Type}{f:ι→Res α}(G:ι→α→Prop):∀ {l:List ι},(∀ x∈l,∃ y,f x = .ok y∧G x y)→∃ ys,mapR f l = .ok ys∧ys.length=l.length∧∀ (i:Nat) (x:ι),l[i]? = some x→∃ y,ys[i]? = some y∧G x y
 | [],_=>⟨[],rfl,rfl,fun i x h=>by simp at h⟩
 | x :: l,h=>by
  obtain ⟨y,h1,h2⟩:=h x (by simp)
  obtain ⟨ys,h3,h4,h5⟩:=mapR_ex G (l:=l) fun z hz=>h z (by simp [hz])
  refine ⟨y :: ys,by rw [mapR,h1,bind_ok,h3]; rfl,by simp [h4],fun i z hz=>?_⟩
  cases i with
  | zero=>simp at hz; subst hz; exact ⟨y,rfl,h2⟩
  | succ i=>exact h5 i z (by simpa using hz)
theorem mapR_all{ι α:Type}{f:ι→Res α}(G:α→Prop){l:List ι}(h:∀ x∈l,∃ y,f x = .ok y∧G y)(hz:l.length≤16777216):∃ ys,(noExc (mapR f l)).bind szR = .ok ys∧ys.length=l.length∧∀ y∈ys,G y:=by
 obtain ⟨ys,h1,h2,h3⟩:=mapR_ex (fun _ y=>G y) h
 refine ⟨ys,by rw [h1]; exact szR_ok (by omega),h2,fun y hy=>?_⟩
 obtain ⟨i,hi⟩:=List.getElem?_of_mem hy
 have hlt:i < l.length:=by rw [← h2]; exact (List.getElem?_eq_some_iff.mp hi).1
 obtain ⟨z,h4,h5⟩:=h3 i _ (List.getElem?_eq_getElem hlt)
 rw [hi] at h4; cases h4; exact h5
theorem forS_inv{σ ι:Type}{F:σ→ι→Res σ}(I:Nat→σ→Prop)(l:List ι)(s:σ)(h0:I 0 s)(hs:∀ i x s,l[i]? = some x→I i s→∃ s',F s x = .ok s'∧I (i+1) s'):∃ s',forS F l s = .ok s'∧I l.length s':=by
 have go:∀ (m:List ι) (k:Nat) (s:σ),I k s→(∀ j,m[j]? = l[k+j]?)→∃ s',forS F m s = .ok s'∧I (k+m.length) s':=by
  intro m
  induction m with
  | nil=>intro k s hi _; exact ⟨s,rfl,hi⟩
  | cons y m ih =>
   intro k s hi hm
   obtain ⟨s',h1,h2⟩:=hs k y s (by have:=hm 0; simpa using this.symm) hi
   obtain ⟨s2,h3,h4⟩:=ih (k+1) s' h2 fun j=>by have:=hm (j+1); rw [List.getElem?_cons_succ] at this; rw [this]; congr 1; omega
   refine ⟨s2,by rw [forS,h1]; exact h3,?_⟩
   rw [List.length_cons,show k+(m.length+1)=k+1+m.length by omega]
   exact h4
 obtain ⟨s',h1,h2⟩:=go l 0 s h0 fun j=>by rw [Nat.zero_add]
 exact ⟨s',h1,by rw [Nat.zero_add] at h2; exact h2⟩
theorem forT_inv{σ ρ ι:Type}{F:σ→ι→Res (Ctl σ ρ)}(I:Nat→σ→Prop)(l:List ι)(s:σ)(h0:I 0 s)(hs:∀ i x s,l[i]? = some x→I i s→∃ s',F s x = .ok (.nx s')∧I (i+1) s'):∃ s',forT F l s = .ok (.nx s')∧I l.length s':=by
 have go:∀ (m:List ι) (k:Nat) (s:σ),I k s→(∀ j,m[j]? = l[k+j]?)→∃ s',forT F m s = .ok (.nx s')∧I (k+m.length) s':=by
  intro m
  induction m with
  | nil=>intro k s hi _; exact ⟨s,rfl,hi⟩
  | cons y m ih =>
   intro k s hi hm
   obtain ⟨s',h1,h2⟩:=hs k y s (by have:=hm 0; simpa using this.symm) hi
   obtain ⟨s2,h3,h4⟩:=ih (k+1) s' h2 fun j=>by have:=hm (j+1); rw [List.getElem?_cons_succ] at this; rw [this]; congr 1; omega
   refine ⟨s2,by rw [forT,h1]; exact h3,?_⟩
   rw [List.length_cons,show k+(m.length+1)=k+1+m.length by omega]
   exact h4
 obtain ⟨s',h1,h2⟩:=go l 0 s h0 fun j=>by rw [Nat.zero_add]
 exact ⟨s',h1,by rw [Nat.zero_add] at h2; exact h2⟩
theorem forT_all{ρ ι:Type}{F:Unit→ι→Res (Ctl Unit ρ)}:∀ {l:List ι},(∀ x∈l,F () x = .ok (.nx ()))→forT F l () = .ok (.nx ())
 | [],_=>rfl
 | x :: l,h=>by rw [forT,h x (by simp),bind_ok]; exact forT_all fun y hy=>h y (by simp [hy])
@[simp] theorem enumT_length {α:Type} (l:List α):(enumT l).length=l.length:=by simp [enumT]
end Vm
end
section
set_option Elab.async false
set_option linter.all false
set_option maxRecDepth 100000
set_option maxHeartbeats 1000000
namespace L2
open PySem PySem.Spec PyProof.Rows
theorem okD {P:Program} {w:World} {H:Hp} {h:Heap} {a:Addr} {its:List Value} {xs:List V} (hz:xs.length≤sizeLine) (r:Vals xs its) (e:h.get? a=some { cls:=.type "tuple",data:=.seq its.toArray }) :
  ObjOk P w H h a (.frz { cls:=.type "tuple",data:=.seq its.toArray } (.tup xs)):=⟨e,hz,its,r,_,e,rfl,_,rfl⟩
def NewT(xs:List V)(H:Hp)(Q:VK):Prop:=∀ (p:Addr) (o:Obj),H p=none→o.dict=none→Q (.ref p) (upd H p (.frz o (.tup xs)))
section
variable {X:Cx}
theorem newD{pins:List (Addr×Obj)}{σ:St}{H:Hp}{s:Shared}{Q:VK}{xs:List V}{its:List Value}(t':Nat)(I:Inv X pins σ H s)(hz:xs.length≤sizeLine)(r:Vals xs its)(q:NewT xs H Q) :
  EP X pins σ Q (.ref s.heap.objs.size) { s with heap:=s.heap.push { cls:=.type "tuple",data:=.seq its.toArray },toks:=t' } :=
 ⟨.ref s.heap.objs.size,upd H s.heap.objs.size (.frz { cls:=.type "tuple",data:=.seq its.toArray } (.tup xs)),I.laid (t':=t') (fun b u e=>Heap.get?_push_of_some _ e) (Nat.le_refl _) (okD hz r (Heap.get?_push_size _ rfl)),rfl,q _ _ (I.hok.fresh (Nat.le_refl _)) rfl⟩
def tTupD(t:TA):TE:=fun σ H Q=>t σ H fun xs H1=>xs.length≤sizeLine∧NewT xs H1 Q
theorem pe_tupD{es:List Expr}{t:TA}{pos:Pos}{x1}(h:PA X es t):PE X (.Tuple es x1 pos) (tTupD t):=by
 refine ⟨fun pins s σ H Q I hq=>?_⟩
 refine wpAny_Tuple_spliced (thn (h.run pos pins s σ H _ I hq) fun us s1 ⟨xs,H1,I1,r,z,q⟩=>⟨by rw [← r.length]; exact z,?_⟩)
 exact newD s1.toks I1 z r q
theorem call_tupleD:CallR X (.type "tuple") (fun xs H Q=>∃ p ys,xs=[.ref p]∧((SqL X.K H p ys∧NewT ys H Q) ∨ (SqT X.K H p ys∧Q (.ref p) H))):=by
 intro pins s σ H xs us Q I r h
 obtain ⟨p,ys,rfl,h⟩:=h
 obtain ⟨u,rfl,rx⟩:=vals1 r
 cases rx
 rcases h with ⟨hq,q⟩ | ⟨hq,q⟩
 ·obtain ⟨its,r',pl,hz⟩:=I.list hq
  have hlen:=r'.length
  refine call_tuple_list pl.isList (fun h' kp=>?_) (by simp only [List.size_toArray] <;> omega)
  have I1:Inv X pins σ H { s with heap:=h' }:=I.kept (t':=s.toks) kp
  have I2:Inv X pins σ (upd H h'.objs.size (.frz { cls:=.type "tuple",data:=.seq its.toArray } (.tup ys))) { s with heap:=h'.push { cls:=.type "tuple",data:=.seq its.toArray } } :=
   I1.laid (t':=s.toks) (fun b o e=>Heap.get?_push_of_some _ e) (Nat.le_refl _) (okD hz r' (Heap.get?_push_size _ rfl))
  exact ⟨.ref h'.objs.size,_,I2,rfl,q _ _ (I1.hok.fresh (Nat.le_refl _)) rfl⟩
 ·obtain ⟨its,r',pl,hz⟩:=I.tuple hq
  exact call_tuple_same pl ⟨.ref p,H,I,rfl,q⟩
def rSlD(K:PySem.W.Frag):V→Option Int→Option Int→Hp→VK→Prop:=fun x lo hi H Q=>∃ a xs,x = .ref a∧SqT K H a xs ∧
 (HT.sIx xs.length 0 lo=0∧HT.sIx xs.length xs.length hi=xs.length→Q (.ref a) H)∧(¬ (HT.sIx xs.length 0 lo=0∧HT.sIx xs.length xs.length hi=xs.length)→NewT (cutV xs lo hi) H Q)
theorem sl_tupD:SlR X (rSlD X.K):=by
 intro pins s σ H x v vl vu lo hi sl Q I rx hs pl pu h
 obtain ⟨a,xs,rfl,hx,q1,q2⟩:=h
 cases rx
 obtain ⟨its,r,ht,hz⟩:=I.tuple hx
 have hlen:its.toArray.size=xs.length:=by rw [List.size_toArray]; exact r.length.symm
 refine ⟨"tuple",_,PyProof.Rows.slot_tuple_getitem.lookup,ht.typeIs,?_⟩
 by_cases hw:HT.sIx xs.length 0 lo=0∧HT.sIx xs.length xs.length hi=xs.length
 ·exact getItem_tuple_whole ht hs pl pu (by rw [hlen]; exact hw) ⟨.ref a,H,I,rfl,q1 hw⟩
 ·refine HT.getItem_tuple_cut ht hs pl pu (by rw [hlen]; exact hw) ?_ (by rw [hlen]; exact hz)
  rw [hlen]
  exact newD s.toks I (Nat.le_trans (cutV_length xs lo hi) hz) ((r.drop (HT.sIx xs.length 0 lo)).take (HT.sIx xs.length xs.length hi - HT.sIx xs.length 0 lo)) (q2 hw)
def rCatD(K:PySem.W.Frag):R2:=fun x y H Q=>∃ a b xs ys,x = .ref a∧y = .ref b∧SqT K H a xs∧SqT K H b ys∧xs.length+ys.length≤sizeLine ∧
 (xs=[]→Q (.ref b) H)∧(xs ≠ []→ys=[]→Q (.ref a) H)∧(xs ≠ []→ys ≠ []→NewT (xs++ys) H Q)
theorem op_catD:OpR X (binaryOp .Add) (rCatD X.K):=by
 intro pins s σ H x y v u Q I rx ry h
 obtain ⟨a,b,xs,ys,rfl,rfl,ha,hb,hz,q0,q1,q2⟩:=h
 cases rx
 cases ry
 obtain ⟨its,r1,p1,_⟩:=I.tuple ha
 obtain ⟨its2,r2,p2,_⟩:=I.tuple hb
 by_cases hx:xs=[]
 ·subst hx
  cases r1
  exact cat_tup0 p1 p2 ⟨.ref b,H,I,rfl,q0 rfl⟩
 ·refine HT.cat_tup p1 p2 (fun z=>hx (r1.nil_iff.mp z)) (fun z=>⟨.ref a,H,I,rfl,q1 hx (r2.nil_iff.mp z)⟩) (fun z=>?_) (by rw [← r1.length,← r2.length]; exact hz)
  exact newD s.toks I (by rw [List.length_append]; exact hz) (r1.append r2) (q2 hx (fun w=>z (r2.nil_iff.mpr w)))
end
theorem tyD_is{X:Cx}{pins:List (Addr×Obj)}{σ:St}{H:Hp}{s:Shared}{a:Addr}{o:Obj}{xs:List V}(I:Inv X pins σ H s)(h:H a=some (.frz o (.tup xs)))(hd:o.dict=none) :
  s.TypeIs (.ref a) "tuple"∧∀ b,Value.ref a = .ref b→∃ ob,s.heap.get? b=some ob∧ob.dict=none:=by
 obtain ⟨e,_,its,_,o',e',hc,_⟩:=I.hok a _ h
 exact ⟨⟨o',e',hc⟩,fun b q=>by cases q; exact ⟨o,e,hd⟩⟩
end L2
end
section
set_option Elab.async false
set_option linter.all false
set_option maxRecDepth 100000
set_option maxHeartbeats 1000000
namespace Vl
open PySem L2 Vm PyProof.Rows
abbrev tq(t:Obj×List V):HO:=.frz t.1 (.tup t.2)
def TupAt(F:Hp)(a:Addr)(vs:List V):Prop:=∃ o:Obj,o.dict=none∧F a=some (tq (o,vs))
theorem TupAt.up{F G:Hp}{a:Addr}{vs:List V}(h:TupAt F a vs)(g:∀ a xs,F a=some (tq xs)→G a=some (tq xs)):TupAt G a vs:=let ⟨o,d,e⟩:=h; ⟨o,d,g _ _ e⟩
theorem TupAt.mono{F G:Hp}{a:Addr}{vs:List V}(g:Same F G)(h:TupAt F a vs):TupAt G a vs:=h.up fun _ _=>g _ _
theorem TupAt.sq{K:PySem.W.Frag}{F:Hp}{a:Addr}{vs:List V}(h:TupAt F a vs):SqT K F a vs:=let ⟨o,_,e⟩:=h; .inl (.inr ⟨o,e⟩)
theorem TupAt.new{F:Hp}{a:Addr}{vs:List V}{o:Obj}(d:o.dict=none):TupAt (upd F a (tq (o,vs))) a vs:=⟨o,d,upd_same⟩
theorem same_new{H:Hp}{p:Addr}{o:HO}(h:H p=none):Same H (upd H p o):=fun b x e=>by
 rw [upd_ne (ne_of_none e h)]; exact e
structure KK where
 fr:PySem.W.Frag
 P:Program
 w:World
 mg:Str→Option Value
instance:Coe KK PySem.W.Frag:=⟨KK.fr⟩
def noBoolV:Value→Bool
 | .bool _=>false
 | _=>true
def plIs(k:Leaf)(v:Value):Bool:=Leaf.isOf k v && noBoolV v
theorem plIs_leaf{k:Leaf}{v:Value}(h:plIs k v=true):Leaf.isOf k v=true:=by unfold plIs at h; rw [Bool.and_eq_true] at h; exact h.1
def plK(prog:Program)(w:World):KeyKind prog w Leaf where
 is:=plIs
 hash:=fun k=>k.key.hash w
 inj:=fun v a b ha hb=>(leafKind prog w).inj v a b (plIs_leaf ha) (plIs_leaf hb)
 byValue:=fun k v h=>(leafKind prog w).byValue k v (plIs_leaf h)
 pyHash:=fun hv h=>(leafKind prog w).pyHash (plIs_leaf hv) h
 eqBool:=fun hu hv h=>(leafKind prog w).eqBool (plIs_leaf hu) (plIs_leaf hv) h
 «strs»:=fun k x t v h=>by
  have e:=(leafKind prog w).strs k x t v (plIs_leaf h)
  have e:Leaf.isOf k v=v.isStr x:=e
  unfold plIs
  rw [e]
  cases v <;> first | rfl | exact Bool.and_true _
mutual
def keyG:PV→Bool
 | .non=>true
 | .int _=>true
 | .str l=>strG l
 | .tup l=>keyGL l
 | _=>false
def keyGL:List PV→Bool
 | []=>true
 | p :: ps=>keyG p && keyGL ps
end
mutual
def nkOf:PV→NestedKey
 | .int i=>.num i
 | .str l=>.text ⟨l.toArray⟩
 | .tup l=>.tup (nkOfL l)
 | _=>.none
def nkOfL:List PV→List NestedKey
 | []=>[]
 | p :: ps=>nkOf p :: nkOfL ps
end
mutual
def KeyV (F:Hp):NestedKey→V→Prop
 | .none,v=>v = .non
 | .num i,v=>v = .int i
 | .text x,v=>v = .str x
 | .tup l,v=>∃ a vs,v = .ref a∧TupAt F a vs∧KeyVs F l vs
def KeyVs (F:Hp):List NestedKey→List V→Prop
 | [],vs=>vs=[]
 | p :: ps,vs=>∃ v r,vs=v :: r∧KeyV F p v∧KeyVs F ps r
end
mutual
theorem KeyV.tups {F G:Hp} (g:∀ a xs,F a=some (tq xs)→G a=some (tq xs)):∀ (p:NestedKey) (v:V),KeyV F p v→KeyV G p v
 | .none,v,h=>h
 | .num _,v,h=>h
 | .text _,v,h=>h
 | .tup l,v,h=>by
  unfold KeyV at h ⊢
  obtain ⟨a,vs,h1,h2,h3⟩:=h
  exact ⟨a,vs,h1,h2.up g,KeyVs.tups g l vs h3⟩
theorem KeyVs.tups {F G:Hp} (g:∀ a xs,F a=some (tq xs)→G a=some (tq xs)):∀ (p:List NestedKey) (v:List V),KeyVs F p v→KeyVs G p v
 | [],v,h=>h
 | p :: ps,v,h=>by
  unfold KeyVs at h ⊢
  obtain ⟨u,r,h1,h2,h3⟩:=h
  exact ⟨u,r,h1,KeyV.tups g p u h2,KeyVs.tups g ps r h3⟩
end
def dHO(a:Addr)(o:Obj):HO:=.ext fun h=>h.get? a=some o
def LeafK(K:KK)(o:Obj)(nks:List NestedKey)(vs:List V):Prop:=∃ (kvs:List (Leaf×V)) (rs:List (Leaf×Value)) (es:Array DictEntry) (ep:Nat),o.ExactDict∧o.data = .dict es ep∧nks=kvs.map (fun p=>p.1.key)∧vs=kvs.map (·.2) ∧
 L2.KV kvs rs∧KeysOf (plK K.P K.w) es∧Pairs (plK K.P K.w) es.toList rs∧(rs.map (·.1)).Nodup∧kvs.length≤sizeLine
abbrev KN(F:Hp):List (NestedKey×V)→List (NestedKey×Addr×Value)→Prop:=Paired fun p q=>p.1=q.1∧KeyV F p.1 (.ref q.2.1)∧p.1.depth≤8∧RelV p.2 q.2.2
def TupK(K:KK)(F:Hp)(o:Obj)(nks:List NestedKey)(vs:List V):Prop:=∃ (kvs:List (NestedKey×V)) (xs:List (NestedKey×Addr×Value)) (es:Array DictEntry) (ep:Nat),o.ExactDict∧o.data = .dict es ep∧nks=kvs.map (·.1)∧vs=kvs.map (·.2) ∧
 KN F kvs xs∧es.toList=xs.map (entryOfKey (nestedKind K.P K.w))∧(xs.map (·.1)).Nodup∧kvs.length≤sizeLine
def DicK(K:KK)(F:Hp)(o:Obj)(nks:List NestedKey)(vs:List V):Prop:=LeafK K o nks vs ∨ TupK K F o nks vs
theorem DicK.tups{K:KK}{F G:Hp}{o:Obj}{nks:List NestedKey}{vs:List V}(g:∀ a xs,F a=some (tq xs)→G a=some (tq xs))(h:DicK K F o nks vs):DicK K G o nks vs:=by
 rcases h with h | ⟨kvs,xs,es,ep,h1,h2,h3,h4,h5,h6⟩
 ·exact .inl h
 ·exact .inr ⟨kvs,xs,es,ep,h1,h2,h3,h4,Paired.mapP h5 fun p q z=>⟨z.1,KeyV.tups g _ _ z.2.1,z.2.2⟩,h6⟩
theorem DicK.len{K:KK}{F:Hp}{o:Obj}{nks:List NestedKey}{vs:List V}(h:DicK K F o nks vs):nks.length=vs.length:=by
 rcases h with ⟨kvs,_,_,_,_,_,rfl,rfl,_⟩ | ⟨kvs,_,_,_,_,_,rfl,rfl,_⟩ <;> simp
def xName:Nat→Str
 | 0=>"VellumError"
 | 1=>"NoRow"
 | 2=>"NoPrices"
 | 3=>"NoSlips"
 | 4=>"NoNotes"
 | 5=>"NoLine"
 | 6=>"NoName"
 | 7=>"TwiceNamed"
 | _=>"TooMany"
def KK.xc(K:KK)(c:Nat):Value:=(K.mg (xName c)).getD .none
def fldN:List Str:=["rows_kept","days_kept","prices_now","fresh_now"]
def fldZ(vs:List V):List (Str×V):=fldN.zip vs
def excHO(oe:Obj):HO:=.frz oe (.ext fun _=>True)
def ExcO(K:KK)(c:Nat)(oe:Obj):Prop:=oe.cls=K.xc c∧oe.dict=none∧∃ vs,oe.data = .fields vs
mutual
def Rep (K:KK) (F:Hp):PV→V→Prop
 | .non,v=>v = .non
 | .bl b,v=>v = .bl b
 | .int i,v=>v = .int i
 | .str l,v=>v = .str ⟨l.toArray⟩∧strG l=true
 | .tup l,v=>∃ a vs,v = .ref a∧TupAt F a vs∧RepL K F l vs
 | .lst l,v=>∃ a vs,v = .ref a∧SqL K F a vs∧RepL K F l vs
 | .dic ks l,v=>∃ a o vs,v = .ref a∧F a=some (dHO a o)∧(a == sysModules)=false∧DicK K F o (ks.map nkOf) vs∧ks.all keyG=true∧RepL K F l vs
 | .exo 0 l,v=>∃ a Ch dx vs,v = .ref a∧F a=some (.ins Ch dx (fldZ vs))∧K.mg "House" = some (.ref Ch)∧l.length≤4∧RepL K F l vs
 | .exo 1 l,v=>∃ s a,l=[.str s]∧v = .ref a∧K.mg ⟨s.toArray⟩=some (.ref a)
 | .exo (c+2) _,v=>∃ a oe,v = .ref a∧F a=some (excHO oe)∧ExcO K c oe
def RepL (K:KK) (F:Hp):List PV→List V→Prop
 | [],vs=>vs=[]
 | p :: ps,vs=>∃ v r,vs=v :: r∧Rep K F p v∧RepL K F ps r
end
section
variable {K:KK} {F F' H H':Hp}
mutual
theorem Rep.mono (e:Same F F'):∀ (p:PV) (v:V),Rep K F p v→Rep K F' p v
 | .non,v,h=>h
 | .bl b,v,h=>h
 | .int i,v,h=>h
 | .str l,v,h=>h
 | .tup l,v,h=>by
  unfold Rep at h ⊢
  obtain ⟨a,vs,h1,h2,h3⟩:=h
  exact ⟨a,vs,h1,h2.mono e,RepL.mono e l vs h3⟩
 | .lst l,v,h=>by
  unfold Rep at h ⊢
  obtain ⟨a,vs,h1,h2,h3⟩:=h
  exact ⟨a,vs,h1,e.seq h2,RepL.mono e l vs h3⟩
 | .dic _ l,v,h=>by
  unfold Rep at h ⊢
  obtain ⟨a,o,vs,h1,h2,h3,h4,h5,h6⟩:=h
  exact ⟨a,o,vs,h1,e _ _ h2,h3,h4.tups fun _ _=>e _ _,h5,RepL.mono e l vs h6⟩
 | .exo 0 l,v,h=>by
  unfold Rep at h ⊢
  obtain ⟨a,Ch,dx,vs,h1,h2,h3,h4,h5⟩:=h
  exact ⟨a,Ch,dx,vs,h1,e _ _ h2,h3,h4,RepL.mono e l vs h5⟩
 | .exo 1 _,v,h=>by
  unfold Rep at h ⊢
  exact h
 | .exo (c+2) _,v,h=>by
  unfold Rep at h ⊢
  obtain ⟨a,oe,h1,h2,h3⟩:=h
  exact ⟨a,oe,h1,e _ _ h2,h3⟩
theorem RepL.mono (e:Same F F'):∀ (ps:List PV) (vs:List V),RepL K F ps vs→RepL K F' ps vs
 | [],vs,h=>h
 | p :: ps,vs,h=>by
  unfold RepL at h ⊢
  obtain ⟨v,r,h1,h2,h3⟩:=h
  exact ⟨v,r,h1,Rep.mono e p v h2,RepL.mono e ps r h3⟩
end
theorem RepL.len:∀ {ps:List PV} {vs:List V},RepL K F ps vs→vs.length=ps.length
 | [],vs,h=>by unfold RepL at h; rw [h]; rfl
 | p :: ps,vs,h=>by
  unfold RepL at h
  obtain ⟨v,r,rfl,_,h3⟩:=h
  simp [RepL.len h3]
theorem RepL.get:∀ {ps:List PV} {vs:List V} {i:Nat} {p:PV},RepL K F ps vs→ps[i]? = some p→∃ v,vs[i]? = some v∧Rep K F p v
 | [],vs,i,p,h,e=>by simp at e
 | q :: ps,vs,0,p,h,e=>by
  unfold RepL at h
  obtain ⟨v,r,rfl,h2,_⟩:=h
  simp at e; subst e
  exact ⟨v,rfl,h2⟩
 | q :: ps,vs,i+1,p,h,e=>by
  unfold RepL at h
  obtain ⟨v,r,rfl,_,h3⟩:=h
  simp at e
  obtain ⟨u,h4,h5⟩:=RepL.get h3 e
  exact ⟨u,by simpa using h4,h5⟩
theorem RepL.getV:∀ {ps:List PV} {vs:List V} {i:Nat} {v:V},RepL K F ps vs→vs[i]? = some v→∃ p,ps[i]? = some p∧Rep K F p v
 | [],vs,i,p,h,e=>by unfold RepL at h; subst h; simp at e
 | q :: ps,vs,0,p,h,e=>by
  unfold RepL at h
  obtain ⟨v,r,rfl,h2,_⟩:=h
  simp at e; subst e
  exact ⟨q,rfl,h2⟩
 | q :: ps,vs,i+1,p,h,e=>by
  unfold RepL at h
  obtain ⟨v,r,rfl,_,h3⟩:=h
  simp at e
  obtain ⟨u,h4,h5⟩:=RepL.getV h3 e
  exact ⟨u,by simpa using h4,h5⟩
theorem RepL.append:∀ {ps qs:List PV} {vs us:List V},RepL K F ps vs→RepL K F qs us→RepL K F (ps++qs) (vs++us)
 | [],qs,vs,us,h,g=>by unfold RepL at h; subst h; exact g
 | p :: ps,qs,vs,us,h,g=>by
  unfold RepL at h
  obtain ⟨v,r,rfl,h2,h3⟩:=h
  show RepL K F (p :: (ps++qs)) (v :: (r++us))
  unfold RepL
  exact ⟨v,r++us,rfl,h2,RepL.append h3 g⟩
theorem RepL.nil:RepL K F [] []:=by unfold RepL; rfl
theorem RepL.cons{p:PV}{ps:List PV}{v:V}{vs:List V}(h:Rep K F p v)(g:RepL K F ps vs):RepL K F (p :: ps) (v :: vs):=by
 unfold RepL; exact ⟨v,vs,rfl,h,g⟩
theorem RepL.drop:∀ {ps:List PV} {vs:List V} (n:Nat),RepL K F ps vs→RepL K F (ps.drop n) (vs.drop n)
 | _,_,0,h=>h
 | [],vs,n+1,h=>by unfold RepL at h; subst h; exact RepL.nil
 | p :: ps,vs,n+1,h=>by
  unfold RepL at h
  obtain ⟨v,r,rfl,_,h3⟩:=h
  exact RepL.drop n h3
theorem RepL.take:∀ {ps:List PV} {vs:List V} (n:Nat),RepL K F ps vs→RepL K F (ps.take n) (vs.take n)
 | _,_,0,h=>RepL.nil
 | [],vs,n+1,h=>by unfold RepL at h; subst h; exact RepL.nil
 | p :: ps,vs,n+1,h=>by
  unfold RepL at h
  obtain ⟨v,r,rfl,h2,h3⟩:=h
  exact RepL.cons h2 (RepL.take n h3)
theorem RepL.set{q:PV}{u:V}(g:Rep K F q u):∀ {ps:List PV} {vs:List V} (n:Nat),RepL K F ps vs→RepL K F (ps.set n q) (vs.set n u)
 | [],vs,n,h=>by unfold RepL at h; subst h; exact RepL.nil
 | p :: ps,vs,0,h=>by
  unfold RepL at h
  obtain ⟨v,r,rfl,h2,h3⟩:=h
  exact RepL.cons g h3
 | p :: ps,vs,n+1,h=>by
  unfold RepL at h
  obtain ⟨v,r,rfl,h2,h3⟩:=h
  exact RepL.cons h2 (RepL.set g n h3)
theorem RepL.reverse:∀ {ps:List PV} {vs:List V},RepL K F ps vs→RepL K F ps.reverse vs.reverse
 | [],vs,h=>by unfold RepL at h; subst h; exact RepL.nil
 | p :: ps,vs,h=>by
  unfold RepL at h
  obtain ⟨v,r,rfl,h2,h3⟩:=h
  rw [List.reverse_cons,List.reverse_cons]
  exact RepL.append (RepL.reverse h3) (RepL.cons h2 RepL.nil)
def toV:PV→V
 | .bl b=>.bl b
 | .int i=>.int i
 | .str l=>.str ⟨l.toArray⟩
 | _=>.non
theorem rep_int{i:Int}:Rep K F (.int i) (.int i):=by unfold Rep; rfl
theorem rep_bl{b:Bool}:Rep K F (.bl b) (.bl b):=by unfold Rep; rfl
theorem rep_non:Rep K F .non .non:=by unfold Rep; rfl
theorem rep_str{l:List Nat}(h:strG l=true):Rep K F (.str l) (.str ⟨l.toArray⟩):=by unfold Rep; exact ⟨rfl,h⟩
def OwnL(Q:List Addr→PV→V→Prop):List (List Addr)→List PV→List V→Prop
 | [],[],[]=>True
 | f :: fs,p :: ps,v :: vs=>Q f p v∧OwnL Q fs ps vs
 | _,_,_=>False
def Hold(K:KK)(F:Hp)(ho:Option HO)(a:Addr)(p:PV)(l:List PV)(vs:List V):Prop :=
 (p = .lst l∧ho=some (.lst vs)) ∨ (∃ ks o,p = .dic ks l∧ho=some (dHO a o)∧(a == sysModules)=false∧DicK K F o (ks.map nkOf) vs∧ks.all keyG=true) ∨
 ∃ Ch dx,p = .exo 0 l∧ho=some (.ins Ch dx (fldZ vs))∧K.mg "House" = some (.ref Ch)∧l.length≤4
theorem Hold.tups{K:KK}{F G:Hp}{ho:Option HO}{a:Addr}{p:PV}{l:List PV}{vs:List V}(g:∀ a xs,F a=some (tq xs)→G a=some (tq xs))(h:Hold K F ho a p l vs):Hold K G ho a p l vs:=by
 rcases h with h | ⟨ks,o,h1,h2,h3,h4,h5⟩ | h
 ·exact .inl h
 ·exact .inr (.inl ⟨ks,o,h1,h2,h3,h4.tups g,h5⟩)
 ·exact .inr (.inr h)
theorem Hold.there{K:KK}{F:Hp}{ho:Option HO}{a:Addr}{p:PV}{l:List PV}{vs:List V}(h:Hold K F ho a p l vs):∃ o,ho=some o∧∀ xs,o ≠ tq xs:=by
 rcases h with ⟨_,h⟩ | ⟨_,_,_,h,_⟩ | ⟨_,_,_,h,_⟩
 ·exact ⟨_,h,fun _ z=>by cases z⟩
 ·exact ⟨_,h,fun _ z=>by cases z⟩
 ·exact ⟨_,h,fun _ z=>by cases z⟩
def Own(K:KK)(F H:Hp):Nat→List Addr→PV→V→Prop
 | 0,fp,p,v=>fp=[]∧Rep K F p v
 | d+1,fp,p,v=>(∃ l a vs fps,v = .ref a∧Hold K F (H a) a p l vs∧fp=a :: fps.flatten∧OwnL (Own K F H d) fps l vs) ∨ (fp=[]∧boxed p=false∧Rep K F p v)
theorem Own.lst{K:KK}{F H:Hp}{d:Nat}{fp:List Addr}{l:List PV}{v:V}(h:Own K F H (d+1) fp (.lst l) v):∃ l' a vs fps,PV.lst l = .lst l'∧v = .ref a∧H a=some (.lst vs)∧fp=a :: fps.flatten∧OwnL (Own K F H d) fps l' vs:=by
 rcases h with ⟨l',a,vs,fps,h1,h2,h3,h4⟩ | ⟨_,h,_⟩
 ·rcases h2 with ⟨e,h2⟩ | ⟨_,_,e,_⟩ | ⟨_,_,e,_⟩
  ·exact ⟨l',a,vs,fps,e,h1,h2,h3,h4⟩
  ·cases e
  ·cases e
 ·cases h
theorem Own.mkL{K:KK}{F H:Hp}{d:Nat}{fp:List Addr}{p:PV}{v:V}(h:∃ l' a vs fps,p = .lst l'∧v = .ref a∧H a=some (.lst vs)∧fp=a :: fps.flatten∧OwnL (Own K F H d) fps l' vs):Own K F H (d+1) fp p v:=by
 obtain ⟨l',a,vs,fps,e,h1,h2,h3,h4⟩:=h
 exact .inl ⟨l',a,vs,fps,h1,.inl ⟨e,h2⟩,h3,h4⟩
theorem Own.unbox{K:KK}{F H:Hp}{p:PV}(hp:boxed p=false):∀ {d:Nat} {fp:List Addr} {v:V},Own K F H d fp p v→fp=[]∧Rep K F p v
 | 0,fp,v,h=>h
 | d+1,fp,v,h=>by
  rcases h with ⟨_,_,_,_,_,⟨e,_⟩ | ⟨_,_,e,_⟩ | ⟨_,_,e,_⟩,_⟩ | ⟨h1,_,h2⟩
  ·rw [e] at hp; cases hp
  ·rw [e] at hp; cases hp
  ·rw [e] at hp; cases hp
  ·exact ⟨h1,h2⟩
theorem OwnL.imp{Q R:List Addr→PV→V→Prop}:∀ {fs:List (List Addr)} {ps:List PV} {vs:List V},OwnL Q fs ps vs→(∀ f∈fs,∀ p v,Q f p v→R f p v)→OwnL R fs ps vs
 | [],[],[],h,_=>trivial
 | f :: fs,p :: ps,v :: vs,h,g=>⟨g f (by simp) p v h.1,OwnL.imp h.2 fun f hf=>g f (by simp [hf])⟩
 | [],[],_ :: _,h,_=>h.elim
 | [],_ :: _,_,h,_=>h.elim
 | _ :: _,[],_,h,_=>h.elim
 | _ :: _,_ :: _,[],h,_=>h.elim
theorem Own.mono(e:Same F F'):∀ (d:Nat) {fp:List Addr} {p:PV} {v:V},Own K F H d fp p v→(∀ a∈fp,H' a=H a)→Own K F' H' d fp p v
 | 0,fp,p,v,h,_=>⟨h.1,Rep.mono e p v h.2⟩
 | d+1,fp,p,v,h,g=>by
  rcases h with ⟨l,a,vs,fps,h1,h2,h3,h4⟩ | ⟨h1,h2,h3⟩
  rotate_left
  ·exact .inr ⟨h1,h2,Rep.mono e _ _ h3⟩
  refine .inl ⟨l,a,vs,fps,h1,by rw [g a (by simp [h3])]; exact h2.tups fun _ _=>e _ _,h3,h4.imp fun f hf p v q=>Own.mono e d q fun b hb=>g b ?_⟩
  rw [h3]
  exact List.mem_cons_of_mem _ (List.mem_flatten.mpr ⟨f,hf,hb⟩)
theorem Own.there:∀ (d:Nat) {fp:List Addr} {p:PV} {v:V},Own K F H d fp p v→∀ a∈fp,∃ o,H a=some o∧∀ xs,o ≠ tq xs
 | 0,fp,p,v,h,a,ha=>by rw [h.1] at ha; simp at ha
 | d+1,fp,p,v,h,b,hb=>by
  rcases h with ⟨l,a,vs,fps,h1,h2,h3,h4⟩ | ⟨h1,_⟩
  rotate_left
  ·rw [h1] at hb; simp at hb
  rw [h3] at hb
  rcases List.mem_cons.mp hb with rfl | hb
  ·exact h2.there
  ·obtain ⟨f,hf,hb⟩:=List.mem_flatten.mp hb
   clear h3 h2
   have:∀ {fs:List (List Addr)} {ps:List PV} {vs:List V},OwnL (Own K F H d) fs ps vs→f∈fs→∃ o,H b=some o∧∀ xs,o ≠ tq xs:=by
    intro fs
    induction fs with
    | nil=>intro ps vs _ hm; simp at hm
    | cons g gs ih =>
     intro ps vs ho hm
     cases ps with
     | nil=>exact ho.elim
     | cons p ps =>
      cases vs with
      | nil=>exact ho.elim
      | cons v vs =>
       rcases List.mem_cons.mp hm with e | hm
       ·subst e; exact Own.there d ho.1 b hb
       ·exact ih ho.2 hm
   exact this h4 hf
theorem Own.same(hf:Same F F')(hh:Same H H'){d:Nat}{fp:List Addr}{p:PV}{v:V}(h:Own K F H d fp p v):Own K F' H' d fp p v :=
 Own.mono hf d h fun a ha=>by
  obtain ⟨o,e,_⟩:=Own.there d h a ha
  rw [e]; exact hh _ _ e
theorem Own.rep(hf:Same F H):∀ (d:Nat) {fp:List Addr} {p:PV} {v:V},Own K F H d fp p v→Rep K H p v
 | 0,fp,p,v,h=>Rep.mono hf p v h.2
 | d+1,fp,p,v,h=>by
  rcases h with ⟨l,a,vs,fps,rfl,h2,h3,h4⟩ | ⟨_,_,h3⟩
  rotate_left
  ·exact Rep.mono hf _ _ h3
  have rl:RepL K H l vs:=by
   clear h3 h2
   have:∀ {fs:List (List Addr)} {ps:List PV} {vs:List V},OwnL (Own K F H d) fs ps vs→RepL K H ps vs:=by
    intro fs
    induction fs with
    | nil =>
     intro ps vs ho
     cases ps with
     | nil=>cases vs with
      | nil=>exact RepL.nil
      | cons v vs=>exact ho.elim
     | cons p ps=>exact ho.elim
    | cons g gs ih =>
     intro ps vs ho
     cases ps with
     | nil=>exact ho.elim
     | cons p ps =>
      cases vs with
      | nil=>exact ho.elim
      | cons v vs=>exact RepL.cons (Own.rep hf d ho.1) (ih ho.2)
   exact this h4
  rcases h2 with ⟨rfl,h2⟩ | ⟨ks,o,rfl,h2,h5,h6,h7⟩ | ⟨Ch,dx,rfl,h2,h5,h6⟩
  ·unfold Rep
   exact ⟨a,vs,rfl,SqL.of h2,rl⟩
  ·unfold Rep
   exact ⟨a,o,vs,rfl,h2,h5,h6.tups fun _ _=>hf _ _,h7,rl⟩
  ·unfold Rep
   exact ⟨a,Ch,dx,vs,rfl,h2,h5,h6,rl⟩
def frzF(F H:Hp)(fp:List Addr):Hp:=fun a=>if a∈fp then H a else F a
theorem frzF_same(h:∀ a∈fp,F a=none):Same F (frzF F H fp):=fun a o e=>by
 unfold frzF
 rw [if_neg fun ha=>by rw [h a ha] at e; cases e]
 exact e
theorem frzF_in(h:Same F H):Same (frzF F H fp) H:=fun a o e=>by
 unfold frzF at e
 by_cases ha:a∈fp
 ·rw [if_pos ha] at e; exact e
 ·rw [if_neg ha] at e; exact h _ _ e
theorem Own.frz(hs:Same F H){d:Nat}{fp fp':List Addr}{p:PV}{v:V}(h:Own K F H d fp p v)(hn:∀ a∈fp',F a=none)(hsub:∀ a∈fp,a∈fp'):Rep K (frzF F H fp') p v:=by
 have h1:Own K (frzF F H fp') (frzF F H fp') d fp p v:=Own.mono (frzF_same hn) d h fun a ha=>by unfold frzF; rw [if_pos (hsub a ha)]
 exact Own.rep (Same.refl _) d h1
end
def Tups(F H:Hp):Prop:=∀ a xs,H a=some (tq xs)→F a=some (tq xs)
structure Ext (F H F' H':Hp):Prop where
 ff:Same F F'
 hh:Same H H'
 fh:Same F' H'
 tp:Tups F' H'
 nw:∀ a,F' a ≠ none→F a ≠ none ∨ H a=none
section
variable {K:KK} {F H F1 H1 F2 H2:Hp}
theorem Ext.refl(h:Same F H)(t:Tups F H):Ext F H F H:=⟨Same.refl _,Same.refl _,h,t,fun _ q=>.inl q⟩
theorem Ext.trans(a:Ext F H F1 H1)(b:Ext F1 H1 F2 H2):Ext F H F2 H2 :=
 ⟨a.ff.trans b.ff,a.hh.trans b.hh,b.fh,b.tp,fun x q=>by
  rcases b.nw x q with q | q
  ·exact a.nw x q
  ·exact .inr (a.hh.free q)⟩
theorem tups_new{p:Addr}{o:HO}(t:Tups F H)(ho:∀ xs,o ≠ tq xs)(hf:F p=none):Tups F (upd H p o):=fun a xs e=>by
 by_cases ha:a=p
 ·subst ha; rw [upd_same] at e; cases e; exact (ho _ rfl).elim
 ·rw [upd_ne ha] at e; exact t a xs e
theorem Ext.tup(h:Same F H)(t:Tups F H){p:Addr}{o:Obj}{vs:List V}(hp:H p=none):Ext F H (upd F p (tq (o,vs))) (upd H p (tq (o,vs))):=by
 have fp:F p=none:=h.free hp
 refine ⟨same_new fp,same_new hp,fun a o e=>?_,fun a xs e=>?_,fun a q=>?_⟩
 ·by_cases ha:a=p
  ·subst ha; rw [upd_same] at e ⊢; exact e
  ·rw [upd_ne ha] at e ⊢; exact h _ _ e
 ·by_cases ha:a=p
  ·subst ha; rw [upd_same] at e ⊢; exact e
  ·rw [upd_ne ha] at e ⊢; exact t _ _ e
 ·by_cases ha:a=p
  ·subst ha; exact .inr hp
  ·rw [upd_ne ha] at q; exact .inl q
theorem Ext.lst(h:Same F H)(t:Tups F H){p:Addr}{vs:List V}(hp:H p=none):Ext F H F (upd H p (.lst vs)) :=
 ⟨Same.refl _,same_new hp,h.trans (same_new hp),tups_new t (fun _ e=>by cases e) (h.free hp),fun _ q=>.inl q⟩
theorem Ext.frz(e:Ext F H F1 H1){fp:List Addr}(hn:∀ a∈fp,F1 a=none∧H a=none):Ext F H (frzF F1 H1 fp) H1:=by
 refine ⟨e.ff.trans (frzF_same fun a ha=>(hn a ha).1),e.hh,frzF_in e.fh,fun a xs q=>?_,fun a q=>?_⟩
 ·exact frzF_same (fun a ha=>(hn a ha).1) _ _ (e.tp a xs q)
 ·by_cases ha:a∈fp
  ·exact .inr (hn a ha).2
  ·unfold frzF at q; rw [if_neg ha] at q; exact e.nw a q
def RVf(K:KK)(F H Hs:Hp):TV→V→List Addr→Prop
 | (.fz,p),v,_=>Rep K F p v
 | (.bw d,p),v,_=>∃ fp,Own K F H d fp p v
 | (.ow d,p),v,fp=>Own K F H d fp p v∧fp.Nodup∧∀ a∈fp,F a=none∧Hs a=none
def RV(K:KK)(F H Hs:Hp)(x:TV)(v:V):Prop:=∃ fp,RVf K F H Hs x v fp
theorem RVf.ext{Hs:Hp}(e:Ext F H F1 H1):∀ {x:TV} {v:V} {fp:List Addr},RVf K F H Hs x v fp→RVf K F1 H1 Hs x v fp
 | (.fz,p),v,_,h=>Rep.mono e.ff p v h
 | (.bw d,p),v,_,⟨fp,h⟩=>⟨fp,h.same e.ff e.hh⟩
 | (.ow d,p),v,fp,⟨h1,h2,h3⟩=>by
  refine ⟨h1.same e.ff e.hh,h2,fun a ha=>⟨?_,(h3 a ha).2⟩⟩
  cases q:F1 a with
  | none=>rfl
  | some o =>
   rcases e.nw a (by rw [q]; simp) with z | z
   ·exact (z (h3 a ha).1).elim
   ·obtain ⟨vs,z',_⟩:=h1.there d a ha
    rw [z] at z'
    cases z'
theorem RV.ext{Hs:Hp}(e:Ext F H F1 H1){x:TV}{v:V}(h:RV K F H Hs x v):RV K F1 H1 Hs x v:=let ⟨fp,h⟩:=h; ⟨fp,h.ext e⟩
theorem RVf.start{Hs Hs':Hp}(e:Same Hs Hs'):∀ {x:TV} {v:V} {fp:List Addr},RVf K F H Hs' x v fp→RVf K F H Hs x v fp
 | (.fz,p),v,_,h=>h
 | (.bw d,p),v,_,h=>h
 | (.ow d,p),v,fp,⟨h1,h2,h3⟩=>⟨h1,h2,fun a ha=>⟨(h3 a ha).1,e.free (h3 a ha).2⟩⟩
theorem RV.start{Hs Hs':Hp}(e:Same Hs Hs'){x:TV}{v:V}(h:RV K F H Hs' x v):RV K F H Hs x v:=let ⟨fp,h⟩:=h; ⟨fp,h.start e⟩
theorem RV.rep{Hs:Hp}(hf:Same F H):∀ {x:TV} {v:V},RV K F H Hs x v→Rep K H x.2 v
 | (.fz,p),v,⟨_,h⟩=>Rep.mono hf p v h
 | (.bw d,p),v,⟨_,fp,h⟩=>h.rep hf
 | (.ow d,p),v,⟨fp,h,_⟩=>h.rep hf
theorem RV.fz{Hs:Hp}{p:PV}{v:V}(h:Rep K F p v):RV K F H Hs (.fz,p) v:=⟨[],h⟩
theorem RVf.put{Hs:Hp}(e:Ext F1 Hs F H){x:TV}{v:V}{fp:List Addr}{p:PV}(h:RVf K F H Hs x v fp)(hp:putV x = .ok p):∃ F',Ext F1 Hs F' H∧Same F F'∧Rep K F' p v∧∀ a,F' a ≠ none→F a ≠ none ∨ a∈fp:=by
 obtain ⟨t,q⟩:=x
 cases t with
 | fz=>cases hp; exact ⟨F,e,Same.refl _,h,fun _ z=>.inl z⟩
 | bw d =>
  cases d with
  | zero=>cases hp; obtain ⟨fp,h⟩:=h; exact ⟨F,e,Same.refl _,h.2,fun _ z=>.inl z⟩
  | succ d=>cases hp
 | ow d =>
  cases hp
  obtain ⟨h1,h2,h3⟩:=h
  refine ⟨frzF F H fp,e.frz h3,frzF_same fun a ha=>(h3 a ha).1,h1.frz e.fh (fun a ha=>(h3 a ha).1) fun a ha=>ha,fun a z=>?_⟩
  by_cases ha:a∈fp
  ·exact .inr ha
  ·unfold frzF at z; rw [if_neg ha] at z; exact .inl z
theorem RV.put{Hs:Hp}(e:Ext F1 Hs F H){x:TV}{v:V}{p:PV}(h:RV K F H Hs x v)(hp:putV x = .ok p):∃ F',Ext F1 Hs F' H∧Rep K F' p v :=
 let ⟨_,h⟩:=h
 let ⟨F',h1,_,h2,_⟩:=h.put e hp
 ⟨F',h1,h2⟩
def RVs(K:KK)(F H Hs:Hp):List TV→List V→List Addr→Prop
 | [],vs,fp=>vs=[]∧fp=[]
 | x :: xs,vs,fp=>∃ v r f g,vs=v :: r∧fp=f++g∧RVf K F H Hs x v f∧RVs K F H Hs xs r g∧(∀ a∈f,a ∉ g)∧∀ a∈f,Hs a=none∧H a ≠ none
theorem RVs.ext{Hs:Hp}(e:Ext F H F1 H1):∀ {xs:List TV} {vs:List V} {fp:List Addr},RVs K F H Hs xs vs fp→RVs K F1 H1 Hs xs vs fp
 | [],_,_,h=>h
 | x :: xs,vs,fp,h=>by
  obtain ⟨v,r,f,g,h1,h2,h3,h4,h5,h6⟩:=h
  exact ⟨v,r,f,g,h1,h2,h3.ext e,RVs.ext e h4,h5,fun a ha=>⟨(h6 a ha).1,fun z=>(h6 a ha).2 (e.hh.free z)⟩⟩
theorem RVs.reps{Hs:Hp}(hf:Same F H):∀ {xs:List TV} {vs:List V} {fp:List Addr},RVs K F H Hs xs vs fp→RepL K H (xs.map (·.2)) vs
 | [],_,_,h=>by unfold RVs at h; rw [h.1]; exact RepL.nil
 | x :: xs,vs,fp,h=>by
  obtain ⟨v,r,f,g,h1,h2,h3,h4,h5,h6⟩:=h
  subst h1
  exact RepL.cons (RV.rep hf ⟨f,h3⟩) (RVs.reps hf h4)
theorem RVs.put{Hs:Hp}:∀ {xs:List TV} {vs:List V} {fp:List Addr} {ps:List PV} {F:Hp},Ext F1 Hs F H→RVs K F H Hs xs vs fp→putVs xs = .ok ps→∃ F',Ext F1 Hs F' H∧Same F F'∧RepL K F' ps vs∧∀ a,F' a ≠ none→F a ≠ none ∨ a∈fp
 | [],vs,fp,ps,F,e,h,hp=>by
  cases hp
  unfold RVs at h
  rw [h.1]
  exact ⟨F,e,Same.refl _,RepL.nil,fun _ z=>.inl z⟩
 | x :: xs,vs,fp,ps,F,e,h,hp=>by
  obtain ⟨v,r,f,g,h1,h2,h3,h4,h5,h6⟩:=h
  subst h1 h2
  unfold putVs at hp
  cases q:putV x with
  | ok p =>
   rw [q,bind_ok] at hp
   cases q2:putVs xs with
   | ok qs =>
    rw [q2,bind_ok] at hp
    cases hp
    obtain ⟨Fa,e1,s1,r1,n1⟩:=h3.put e q
    have h4':RVs K Fa H Hs xs r g:=by
     have go:∀ {xs:List TV} {vs:List V} {g:List Addr},RVs K F H Hs xs vs g→(∀ a∈f,a ∉ g)→RVs K Fa H Hs xs vs g:=by
      intro xs
      induction xs with
      | nil=>intro vs g h _; exact h
      | cons y ys ih =>
       intro vs g h hd
       obtain ⟨v,r,f',g',h1,h2,h3',h4',h5',h6'⟩:=h
       subst h2
       refine ⟨v,r,f',g',h1,rfl,?_,ih h4' fun a ha hm=>hd a ha (List.mem_append_right _ hm),h5',h6'⟩
       obtain ⟨t,pp⟩:=y
       cases t with
       | fz=>exact Rep.mono s1 _ _ h3'
       | bw d=>obtain ⟨fp',z⟩:=h3'; exact ⟨fp',z.same s1 (Same.refl _)⟩
       | ow d =>
        obtain ⟨z1,z2,z3⟩:=h3'
        refine ⟨z1.same s1 (Same.refl _),z2,fun a ha=>⟨?_,(z3 a ha).2⟩⟩
        cases qa:Fa a with
        | none=>rfl
        | some o =>
         rcases n1 a (by rw [qa]; simp) with z | z
         ·exact (z (z3 a ha).1).elim
         ·exact (hd a z (List.mem_append_left _ ha)).elim
     exact go h4 h5
    obtain ⟨Fb,e2,s2,r2,n2⟩:=RVs.put e1 h4' q2
    refine ⟨Fb,e2,s1.trans s2,RepL.cons (Rep.mono s2 _ _ r1) r2,fun a z=>?_⟩
    rcases n2 a z with z | z
    ·rcases n1 a z with z | z
     ·exact .inl z
     ·exact .inr (List.mem_append_left _ z)
    ·exact .inr (List.mem_append_right _ z)
   | exc c=>rw [q2] at hp; cases hp
   | bad=>rw [q2] at hp; cases hp
  | exc c=>rw [q] at hp; cases hp
  | bad=>rw [q] at hp; cases hp
theorem RVs.news{Hs:Hp}:∀ {xs:List TV} {vs:List V} {fp:List Addr},RVs K F H Hs xs vs fp→∀ a∈fp,Hs a=none∧H a ≠ none
 | [],_,_,h,a,ha=>by unfold RVs at h; rw [h.2] at ha; simp at ha
 | x :: xs,vs,fp,h,a,ha=>by
  obtain ⟨v,r,f,g,h1,h2,h3,h4,h5,h6⟩:=h
  subst h2
  rcases List.mem_append.mp ha with ha | ha
  ·exact h6 a ha
  ·exact RVs.news h4 a ha
theorem RVs.start{Hs Hs':Hp}(e:Same Hs Hs'):∀ {xs:List TV} {vs:List V} {fp:List Addr},RVs K F H Hs' xs vs fp→RVs K F H Hs xs vs fp
 | [],_,_,h=>h
 | x :: xs,vs,fp,h=>by
  obtain ⟨v,r,f,g,h1,h2,h3,h4,h5,h6⟩:=h
  exact ⟨v,r,f,g,h1,h2,h3.start e,RVs.start e h4,h5,fun a ha=>⟨e.free (h6 a ha).1,(h6 a ha).2⟩⟩
theorem RV.norm{Hs:Hp}:∀ {x:TV} {v:V},RV K F H Hs x v→∃ fp,RVf K F H Hs x v fp∧∀ a∈fp,Hs a=none∧H a ≠ none
 | (.fz,p),v,⟨_,h⟩=>⟨[],h,fun _ z=>by simp at z⟩
 | (.bw d,p),v,⟨_,h⟩=>⟨[],h,fun _ z=>by simp at z⟩
 | (.ow d,p),v,⟨fp,h⟩=>⟨fp,h,fun a ha=>⟨(h.2.2 a ha).2,by obtain ⟨vs,z,_⟩:=h.1.there d a ha; rw [z]; simp⟩⟩
end
end Vl
end
section
set_option Elab.async false
set_option linter.all false
set_option maxRecDepth 100000
set_option maxHeartbeats 1000000
namespace Vl
open PySem L2 Vm PyProof.Rows
structure Cn where
 K:KK
 base:Heap
abbrev Cn.mg(C:Cn):Str→Option Value:=C.K.mg
abbrev Cn.P(C:Cn):Program:=C.K.P
abbrev Cn.w(C:Cn):World:=C.K.w
def kkX(X:Cx):KK:=⟨X.K,X.prog,X.w,X.mg⟩
def cnOf(X:Cx):Cn:=⟨kkX X,X.base⟩
def Cn.xc(C:Cn)(c:Nat):Value:=(C.mg (xName c)).getD .none
structure RmH (k:Nat) (A:Around):Prop where
 dp:A.depth+3 * k+5 < recursionLimit
 un:A.units+16 * k+200 < cLine
theorem RmH.mono{j k:Nat}{A:Around}(r:RmH k A)(h:j≤k):RmH j A:=⟨by have:=r.dp; omega,by have:=r.un; omega⟩
structure Sta (C:Cn) (cm:Bool) (k:Nat) (N:List Str) (sc:Scope) (X:Cx):Prop where
 cn:cnOf X=C
 n:X.N=N
 s:X.env.scope=sc
 nd:N.Nodup
 c:cm=true→X.calm=true
 r:cm=true→Room k X.A
 u:X.A.units+100 < cLine
 rh:RmH k X.A
structure Good (K:KK) (F0 H0:Hp) (Γ:En) (σ:L2.St) (F H:Hp):Prop where
 ext:Ext F0 H0 F H
 len:Γ.length=σ.length
 slots:∃ fp:Nat→List Addr,(∀ i x,Γ.get i=some x→∃ v,σ[i]? = some (some v)∧RVf K F H H0 x v (fp i))∧∀ i j a,i ≠ j→a∈fp i→a ∉ fp j
def NoBw(Γ:En):Prop:=∀ i d p,Γ.get i ≠ some (.bw d,p)
section
variable {K:KK} {F0 H0 F H F1 H1:Hp} {Γ:En} {σ:L2.St}
theorem Good.next(g:Good K F0 H0 Γ σ F H)(e:Ext F H F1 H1):Good K F0 H0 Γ σ F1 H1:=by
 refine ⟨g.ext.trans e,g.len,?_⟩
 obtain ⟨fp,h1,h2⟩:=g.slots
 refine ⟨fp,fun i x hx=>?_,h2⟩
 obtain ⟨v,h3,h4⟩:=h1 i x hx
 exact ⟨v,h3,h4.ext e⟩
theorem Good.here(g:Good K F0 H0 Γ σ F H):Ext F H F H:=Ext.refl g.ext.fh g.ext.tp
def EOk(C:Cn)(W:WX)(σ:L2.St)(F H:Hp)(Q:VK):Res TV→Prop
 | .ok x=>∀ v F' H',Ext F H F' H'→RV C.K F' H' H x v→Q v H'
 | .exc c=>∀ F' H',Ext F H F' H'→W (C.xc c) none σ H'
 | .bad=>False
def TOk(C:Cn)(W:WX)(σ:L2.St)(F H:Hp)(Q:Bool→Hp→Prop):Res Bool→Prop
 | .ok b=>∀ F' H',Ext F H F' H'→Q b H'
 | .exc c=>∀ F' H',Ext F H F' H'→W (C.xc c) none σ H'
 | .bad=>False
def AOk(C:Cn)(W:WX)(σ:L2.St)(F H:Hp)(Q:List V→Hp→Prop):Res (List TV)→Prop
 | .ok xs=>∀ vs fp F' H',Ext F H F' H'→RVs C.K F' H' H xs vs fp→Q vs H'
 | .exc c=>∀ F' H',Ext F H F' H'→W (C.xc c) none σ H'
 | .bad=>False
variable {C:Cn} {W:WX} {Q:VK}
theorem EOk.next{r:Res TV}(h:EOk C W σ F H Q r)(e:Ext F H F1 H1):EOk C W σ F1 H1 Q r:=by
 cases r with
 | ok x=>exact fun v F' H' e' rv=>h v F' H' (e.trans e') (rv.start e.hh)
 | exc c=>exact fun F' H' e'=>h F' H' (e.trans e')
 | bad=>exact h
theorem TOk.next{Q:Bool→Hp→Prop}{r:Res Bool}(h:TOk C W σ F H Q r)(e:Ext F H F1 H1):TOk C W σ F1 H1 Q r:=by
 cases r with
 | ok x=>exact fun F' H' e'=>h F' H' (e.trans e')
 | exc c=>exact fun F' H' e'=>h F' H' (e.trans e')
 | bad=>exact h
theorem EOk.bind{f:TV→Res TV}{Q1:VK}{r:Res TV}(h:EOk C W σ F H Q (r.bind f))
  (q:∀ x v F1 H1,r = .ok x→Ext F H F1 H1→RV C.K F1 H1 H x v→EOk C W σ F H Q (f x)→Q1 v H1):EOk C W σ F H Q1 r:=by
 cases r with
 | ok x=>exact fun v F' H' e rv=>q x v F' H' rfl e rv h
 | exc c=>exact h
 | bad=>exact h
theorem EOk.bindT{f:TV→Res Bool}{Q:Bool→Hp→Prop}{Q1:VK}{r:Res TV}(h:TOk C W σ F H Q (r.bind f))
  (q:∀ x v F1 H1,r = .ok x→Ext F H F1 H1→RV C.K F1 H1 H x v→TOk C W σ F H Q (f x)→Q1 v H1):EOk C W σ F H Q1 r:=by
 cases r with
 | ok x=>exact fun v F' H' e rv=>q x v F' H' rfl e rv h
 | exc c=>exact h
 | bad=>exact h
theorem TOk.bind{f:Bool→Res TV}{Q1:Bool→Hp→Prop}{r:Res Bool}(h:EOk C W σ F H Q (r.bind f))
  (q:∀ x F1 H1,r = .ok x→Ext F H F1 H1→EOk C W σ F H Q (f x)→Q1 x H1):TOk C W σ F H Q1 r:=by
 cases r with
 | ok x=>exact fun F' H' e=>q x F' H' rfl e h
 | exc c=>exact h
 | bad=>exact h
theorem TOk.bindT{f:Bool→Res Bool}{Q Q1:Bool→Hp→Prop}{r:Res Bool}(h:TOk C W σ F H Q (r.bind f))
  (q:∀ x F1 H1,r = .ok x→Ext F H F1 H1→TOk C W σ F H Q (f x)→Q1 x H1):TOk C W σ F H Q1 r:=by
 cases r with
 | ok x=>exact fun F' H' e=>q x F' H' rfl e h
 | exc c=>exact h
 | bad=>exact h
theorem AOk.bind{f:List TV→Res TV}{Q1:List V→Hp→Prop}{r:Res (List TV)}(h:EOk C W σ F H Q (r.bind f))
  (q:∀ xs vs fp F1 H1,r = .ok xs→Ext F H F1 H1→RVs C.K F1 H1 H xs vs fp→EOk C W σ F H Q (f xs)→Q1 vs H1):AOk C W σ F H Q1 r:=by
 cases r with
 | ok x=>exact fun v fp F' H' e rv=>q x v fp F' H' rfl e rv h
 | exc c=>exact h
 | bad=>exact h
end
section
variable (C:Cn) (cm:Bool) (k:Nat) (N:List Str) (sc:Scope)
def DE(e:Expr)(E:EX):Prop:=∃ tb:WX→TE,(∀ X,Sta C cm k N sc X→∀ W,Takes X W→PE X e (tb W)) ∧
 ∀ W σ Γ F0 H0 F H Q,Good C.K F0 H0 Γ σ F H→EOk C W σ F H Q (E Γ)→tb W σ H Q
def DT(e:Expr)(E:TX):Prop:=∃ tb:WX→TT,(∀ X,Sta C cm k N sc X→∀ W,Takes X W→PT X e (tb W)) ∧
 ∀ W σ Γ F0 H0 F H Q,Good C.K F0 H0 Γ σ F H→TOk C W σ F H Q (E Γ)→tb W σ H Q
def DW(e:Expr)(E:TX):Prop:=∃ tb:WX→TT,(∀ X,Sta C cm k N sc X→∀ W,Takes X W→PW X e (tb W)) ∧
 ∀ W σ Γ F0 H0 F H Q,Good C.K F0 H0 Γ σ F H→TOk C W σ F H Q (E Γ)→tb W σ H Q
def DA(es:List Expr)(E:EXs):Prop:=∃ tb:WX→TA,(∀ X,Sta C cm k N sc X→∀ W,Takes X W→PA X es (tb W)) ∧
 ∀ W σ Γ F0 H0 F H Q,Good C.K F0 H0 Γ σ F H→AOk C W σ F H Q (E Γ)→tb W σ H Q
end
section
variable {C:Cn} {cm:Bool} {k:Nat} {N:List Str} {sc:Scope} {a b c:Expr} {A B:EX} {pos:Pos}
theorem de_var (i:Nat) {x:Str} (hN:N[i]? = some x:=by rfl) (hv:Vis sc x:=by first | exact Or.inl rfl | exact Or.inr (Or.inl rfl) | exact Or.inr (Or.inr rfl)) (hd:(x == ("__debug__":Str))=false:=by decide)
  (hcd:(x == ("__classdict__":Str))=false:=by decide):DE C cm k N sc (.Name x pos) (eVar i):=by
 refine ⟨fun _=>tVar i,fun X S W _=>pe_var (by rw [S.n]; exact hN) (by rw [S.s]; exact hv) hd hcd,fun W σ Γ F0 H0 F H Q g h=>?_⟩
 obtain ⟨fp,h1,_⟩:=g.slots
 unfold eVar at h
 cases e:Γ.get i with
 | none=>rw [e] at h; exact h.elim
 | some x =>
  obtain ⟨t,p⟩:=x
  obtain ⟨v,h3,h4⟩:=h1 i _ e
  refine ⟨v,h3,?_⟩
  rw [e] at h
  cases t with
  | fz=>exact h v F H g.here ⟨[],h4⟩
  | bw d=>exact h v F H g.here ⟨[],h4⟩
  | ow d=>exact h v F H g.here ⟨[],_,h4.1⟩
theorem de_int{i:Int}{j}:DE C cm k N sc (.Constant (.int i) j pos) (eC (.int i)):=⟨fun _=>tC (.int i),fun _ _ _ _=>pe_int,fun W σ Γ F0 H0 F H Q g h=>h _ F H g.here (.fz rep_int)⟩
theorem de_bl{i:Bool}{j}:DE C cm k N sc (.Constant (.bool i) j pos) (eC (.bl i)):=⟨fun _=>tC (.bl i),fun _ _ _ _=>pe_bl,fun W σ Γ F0 H0 F H Q g h=>h _ F H g.here (.fz rep_bl)⟩
theorem de_non{j}:DE C cm k N sc (.Constant .none j pos) (eC .non):=⟨fun _=>tC .non,fun _ _ _ _=>pe_non,fun W σ Γ F0 H0 F H Q g h=>h _ F H g.here (.fz rep_non)⟩
theorem de_str{x:Str}{j}(l:List Nat)(hx:x=⟨l.toArray⟩:=by rfl)(hl:strG l=true:=by rfl):DE C cm k N sc (.Constant (.str x) j pos) (eC (.str l)):=⟨fun _=>tC (.str x),fun _ _ _ _=>pe_str,fun W σ Γ F0 H0 F H Q g h=>h _ F H g.here (.fz (by rw [hx]; exact rep_str hl))⟩
def Glb(C:Cn)(x:Str)(p:PV):Prop:=∃ u,C.mg x=some u∧RelV (toV p) u∧∀ F,Rep C.K F p (toV p)
theorem de_glb {x:Str} {p:PV} (G:Glb C x p) (hg:sc.names.lookup x=some .globalImplicit:=by rfl) (hd:(x == ("__debug__":Str))=false:=by decide):DE C cm k N sc (.Name x pos) (eC p):=by
 obtain ⟨u,h1,h2,h3⟩:=G
 refine ⟨fun _=>tC (toV p),fun X S _ _=>pe_glob (u:=u) (show X.env.scope.names.lookup x=_ by rw [S.s]; exact hg) (by have:=S.cn; subst this; exact h1) h2 hd,fun W σ Γ F0 H0 F H Q g h=>h _ F H g.here (.fz (h3 F))⟩
theorem EOk.fzv{W:WX}{σ:L2.St}{F H F1 H1:Hp}{Q:VK}{r:Res PV}(h:EOk C W σ F H Q (r.bind Vm.fzv))(e:Ext F H F1 H1):∀ p v,r = .ok p→Rep C.K F1 p v→Q v H1:=fun p v hr rp=>by
 subst hr
 exact h v F1 H1 e (.fz rp)
def Op2(C:Cn)(r:R2)(op:PV→PV→Res PV):Prop:=∀ p q v u H Q,Rep C.K H p v→Rep C.K H q u→match op p q with
 | .ok z=>((∀ F,Rep C.K F z (toV z))→Q (toV z) H)→r v u H Q
 | .exc _=>False
 | .bad=>True
theorem de_op2{op:Operator}{r:R2}{f:PV→PV→Res PV}(ho:∀ X,Sta C cm k N sc X→OpR X (binaryOp op) r)(ho2:Op2 C r f)(ha:DE C cm k N sc a A)(hb:DE C cm k N sc b B):DE C cm k N sc (.BinOp a op b pos) (eOp2 f A B):=by
 obtain ⟨ta,pa,qa⟩:=ha
 obtain ⟨tb,pb,qb⟩:=hb
 refine ⟨fun W=>tOp r (ta W) (tb W),fun X S W T=>pe_op (ho X S) (pa X S W T) (pb X S W T),fun W σ Γ F0 H0 F H Q g h=>?_⟩
 refine qa W σ Γ F0 H0 F H _ g (EOk.bind h fun x v F1 H1 ex e1 r1 h1=>?_)
 refine qb W σ Γ F0 H0 F1 H1 _ (g.next e1) (EOk.bind (h1.next e1) fun y u F2 H2 ey e2 r2 h2=>?_)
 have q:=ho2 x.2 y.2 v u H2 Q ((r1.ext e2).rep e2.fh) (r2.rep e2.fh)
 cases e:f x.2 y.2 with
 | ok z =>
  rw [e] at q h2
  exact q fun rz=>(h2.next e2).fzv (Ext.refl e2.fh e2.tp) z (toV z) rfl (rz _)
 | exc c=>rw [e] at q; exact q.elim
 | bad=>rw [e] at h2; exact h2.elim
end
end Vl
end
section
set_option Elab.async false
set_option linter.all false
set_option maxRecDepth 100000
set_option maxHeartbeats 1000000
namespace Vl
open PySem L2 Vm PyProof.Rows
mutual
def dat:PV→PyData
 | .non=>.none
 | .bl b=>.bool b
 | .int i=>.int i
 | .str l=>.str ⟨l.toArray⟩
 | .tup l=>.tuple (datL l)
 | .lst l=>.list (datL l)
 | .dic _ _=>.none
 | .exo _ _=>.none
def datL:List PV→List PyData
 | []=>[]
 | x :: xs=>dat x :: datL xs
end
theorem datL_map:∀ l:List PV,datL l=l.map dat
 | []=>rfl
 | x :: xs=>by rw [datL,datL_map xs]; rfl
section
variable {K:KK} {H:Hp}
mutual
theorem rep_dp:∀ (n:Nat) (p:PV) (v:V),shp n p=true→Rep K H p v→Dp K H v (dat p)∧(dat p).canLay0=true∧(dat p).depth≤n
 | n,.non,v,_,h=>by unfold Rep at h; subst h; exact ⟨.non,rfl,Nat.zero_le _⟩
 | n,.bl b,v,_,h=>by unfold Rep at h; subst h; exact ⟨.bl b,rfl,Nat.zero_le _⟩
 | n,.int i,v,_,h=>by unfold Rep at h; subst h; exact ⟨.int i,rfl,Nat.zero_le _⟩
 | n,.str l,v,_,h=>by
  unfold Rep at h
  obtain ⟨rfl,h2⟩:=h
  refine ⟨.str _,?_,Nat.zero_le _⟩
  unfold strG at h2
  simp only [Bool.and_eq_true] at h2
  show PyData.strOk ⟨l.toArray⟩=true
  unfold PyData.strOk
  simp only [List.all_toArray]
  exact h2.2
 | 0,.tup l,v,s,_=>by unfold shp at s; cases s
 | 0,.lst l,v,s,_=>by unfold shp at s; cases s
 | n+1,.tup l,v,s,h=>by
  unfold shp at s
  unfold Rep at h
  obtain ⟨a,vs,rfl,h2,h3⟩:=h
  obtain ⟨d1,d2,d3⟩:=rep_dpL n l vs s h3
  exact ⟨.tup ((TupAt.sq h2)) d1,by unfold dat PyData.canLay0; exact d2,by unfold dat PyData.depth; omega⟩
 | n+1,.lst l,v,s,h=>by
  unfold shp at s
  unfold Rep at h
  obtain ⟨a,vs,rfl,h2,h3⟩:=h
  obtain ⟨d1,d2,d3⟩:=rep_dpL n l vs s h3
  exact ⟨.lst h2 d1,by unfold dat PyData.canLay0; exact d2,by unfold dat PyData.depth; omega⟩
 | n,.dic _ _,v,s,_=>by unfold shp at s; cases s
 | n,.exo _ _,v,s,_=>by unfold shp at s; cases s
theorem rep_dpL:∀ (n:Nat) (l:List PV) (vs:List V),shpL n l=true→RepL K H l vs→DpAll K H vs (datL l)∧PyData.canLayAll0 (datL l)=true∧PyData.depthAll (datL l)≤n
 | n,[],vs,_,h=>by unfold RepL at h; subst h; exact ⟨.nil,rfl,Nat.zero_le _⟩
 | n,x :: xs,vs,s,h=>by
  unfold shpL at s
  rw [Bool.and_eq_true] at s
  unfold RepL at h
  obtain ⟨v,r,rfl,h2,h3⟩:=h
  obtain ⟨a1,a2,a3⟩:=rep_dp n x v s.1 h2
  obtain ⟨b1,b2,b3⟩:=rep_dpL n xs r s.2 h3
  refine ⟨.cons a1 b1,by unfold datL PyData.canLayAll0; rw [a2,b2]; rfl,by unfold datL PyData.depthAll; omega⟩
end
end
mutual
theorem eqv_dat:∀ (n m:Nat) (p q:PV),shp n p=true→shp m q=true→PyData.eqv (dat p) (dat q)=eqv p q
 | n,m,.non,q,_,h=>by cases q <;> first | rfl | (simp [shp] at h)
 | n,m,.bl b,q,_,h=>by cases q <;> first | rfl | (simp [shp] at h)
 | n,m,.int b,q,_,h=>by cases q <;> first | rfl | (simp [shp] at h)
 | n,m,.str b,q,_,h=>by
  cases q with
  | str c =>
   show ((⟨b.toArray⟩:Str) == ⟨c.toArray⟩)=(b == c)
   by_cases e:b=c
   ·subst e; simp
   ·have e2:(⟨b.toArray⟩:Str) ≠ ⟨c.toArray⟩:=fun z=>e (by injection z with z1; simpa using congrArg Array.toList z1)
    rw [beq_eq_false_iff_ne.mpr e,beq_eq_false_iff_ne.mpr e2]
  | dic _=>simp [shp] at h
  | exo _ _=>simp [shp] at h
  | _=>rfl
 | n,m,.tup l,q,s,h=>by
  cases n with
  | zero=>simp [shp] at s
  | succ n =>
   cases q with
   | tup k =>
    cases m with
    | zero=>simp [shp] at h
    | succ m =>
     unfold shp at s h
     show PyData.eqvAll (datL l) (datL k)=eqvL l k
     exact eqv_datL n m l k s h
   | dic _=>simp [shp] at h
   | exo _ _=>simp [shp] at h
   | _=>rfl
 | n,m,.lst l,q,s,h=>by
  cases n with
  | zero=>simp [shp] at s
  | succ n =>
   cases q with
   | lst k =>
    cases m with
    | zero=>simp [shp] at h
    | succ m =>
     unfold shp at s h
     show PyData.eqvAll (datL l) (datL k)=eqvL l k
     exact eqv_datL n m l k s h
   | dic _=>simp [shp] at h
   | exo _ _=>simp [shp] at h
   | _=>rfl
 | n,m,.dic _ _,q,s,_=>by simp [shp] at s
 | n,m,.exo _ _,q,s,_=>by simp [shp] at s
theorem eqv_datL:∀ (n m:Nat) (p q:List PV),shpL n p=true→shpL m q=true→PyData.eqvAll (datL p) (datL q)=eqvL p q
 | _,_,[],[],_,_=>rfl
 | _,_,[],_ :: _,_,_=>rfl
 | _,_,_ :: _,[],_,_=>rfl
 | n,m,x :: xs,y :: ys,s,h=>by
  unfold shpL at s h
  rw [Bool.and_eq_true] at s h
  show (PyData.eqv (dat x) (dat y) && PyData.eqvAll (datL xs) (datL ys))=(eqv x y && eqvL xs ys)
  rw [eqv_dat n m x y s.1 h.1,eqv_datL n m xs ys s.2 h.2]
end
theorem shaped_dat{K:KK}{H:Hp}{n:Nat}{p:PV}{v:V}(hn:n≤64)(s:shp n p=true)(h:Rep K H p v):SeqAt.shaped (dat p)=true:=by
 obtain ⟨_,h2,h3⟩:=rep_dp n p v s h
 unfold SeqAt.shaped
 rw [h2,decide_eq_true (by omega)]
 rfl
section
variable {C:Cn} {cm:Bool} {k:Nat} {N:List Str} {sc:Scope} {a b c:Expr} {A B:EX} {pos:Pos} {X:Cx}
theorem Sta.K(S:Sta C cm k N sc X):X.K=C.K:=by have:=S.cn; subst this; rfl
theorem Sta.KK(S:Sta C cm k N sc X):kkX X=C.K:=by have:=S.cn; subst this; rfl
theorem op2_int{g:Int→Int→Int}{Cd:Int→Int→Prop}{f:PV→PV→Res PV}(h1:∀ p q z,f p q = .ok z→∃ i j,p = .int i∧q = .int j∧Cd i j∧z = .int (g i j))(h2:∀ p q c,f p q ≠ .exc c):Op2 C (rI Cd fun i j=>.int (g i j)) f:=by
 intro p q v u H Q rp rq
 cases e:f p q with
 | ok z =>
  obtain ⟨i,j,rfl,rfl,hc,rfl⟩:=h1 p q z e
  unfold Rep at rp rq
  subst rp rq
  exact fun hq=>⟨i,j,rfl,rfl,hc,hq fun F=>rep_int⟩
 | exc c=>exact h2 p q c e
 | bad=>trivial
theorem op2_cmp{g:Int→Int→Bool}{f:PV→PV→Res PV}(h1:∀ p q z,f p q = .ok z→∃ i j,p = .int i∧q = .int j∧z = .bl (g i j))(h2:∀ p q c,f p q ≠ .exc c):Op2 C (rI0 fun i j=>.bl (g i j)) f:=by
 intro p q v u H Q rp rq
 cases e:f p q with
 | ok z =>
  obtain ⟨i,j,rfl,rfl,rfl⟩:=h1 p q z e
  unfold Rep at rp rq
  subst rp rq
  exact fun hq=>⟨i,j,rfl,rfl,hq fun F=>rep_bl⟩
 | exc c=>exact h2 p q c e
 | bad=>trivial
theorem op2_sub:Op2 C (rI (fun _ _=>True) fun i j=>.int (i - j)) opSub:=op2_int (g:=fun i j=>i - j) (by intro p q z h; cases p <;> cases q <;> simp_all [opSub]) (by intro p q c h; cases p <;> cases q <;> simp_all [opSub])
theorem op2_mod:Op2 C (rI (fun _ j=>0 < j) fun i j=>.int (i % j)) opMod:=op2_int (g:=fun i j=>i % j) (by intro p q z h; cases p <;> cases q <;> simp_all [opMod]; split at h <;> simp_all) (by intro p q c h; cases p <;> cases q <;> simp_all [opMod]; split at h <;> simp_all)
theorem op2_fdiv:Op2 C (rI CDivW fun i j=>.int (i / j)) opFdiv:=op2_int (g:=fun i j=>i / j) (by intro p q z h; cases p <;> cases q <;> simp_all [opFdiv]; split at h <;> simp_all [CDivW]) (by intro p q c h; cases p <;> cases q <;> simp_all [opFdiv]; split at h <;> simp_all)
theorem op2_pow:Op2 C (rI CPow fun i j=>.int (i ^ j.toNat)) opPow:=op2_int (g:=fun i j=>i ^ j.toNat) (by
  intro p q z h
  cases p <;> cases q <;> simp_all [opPow]
  split at h <;> simp_all [CPow]
  omega) (by intro p q c h; cases p <;> cases q <;> simp_all [opPow]; split at h <;> simp_all)
theorem op2_lt:Op2 C (rI0 fun i j=>.bl (decide (i < j))) opLt:=op2_cmp (g:=fun i j=>decide (i < j)) (by intro p q z h; cases p <;> cases q <;> simp_all [opLt]) (by intro p q c h; cases p <;> cases q <;> simp_all [opLt])
theorem op2_le:Op2 C (rI0 fun i j=>.bl (decide (i≤j))) opLe:=op2_cmp (g:=fun i j=>decide (i≤j)) (by intro p q z h; cases p <;> cases q <;> simp_all [opLe]) (by intro p q c h; cases p <;> cases q <;> simp_all [opLe])
theorem op2_gt:Op2 C (rI0 fun i j=>.bl (decide (j < i))) opGt:=op2_cmp (g:=fun i j=>decide (j < i)) (by intro p q z h; cases p <;> cases q <;> simp_all [opGt]) (by intro p q c h; cases p <;> cases q <;> simp_all [opGt])
theorem op2_ge:Op2 C (rI0 fun i j=>.bl (decide (j≤i))) opGe:=op2_cmp (g:=fun i j=>decide (j≤i)) (by intro p q z h; cases p <;> cases q <;> simp_all [opGe]) (by intro p q c h; cases p <;> cases q <;> simp_all [opGe])
theorem op2_eq:Op2 C (rEqD C.K) opEq:=by
 intro p q v u H Q rp rq
 unfold opEq
 by_cases h:(shp 60 p && shp 60 q)=true
 ·rw [if_pos h]
  rw [Bool.and_eq_true] at h
  intro hq
  have d:=(rep_dp 60 p v h.1 rp).1
  have d':=(rep_dp 60 q u h.2 rq).1
  refine ⟨dat p,dat q,d,d',shaped_dat (by omega) h.1 rp,shaped_dat (by omega) h.2 rq,?_⟩
  rw [eqv_dat 60 60 p q h.1 h.2]
  exact hq fun F=>rep_bl
 ·rw [if_neg h]; trivial
theorem op2_ne:Op2 C (rNeD C.K) opNe:=by
 intro p q v u H Q rp rq
 unfold opNe
 by_cases h:(shp 60 p && shp 60 q)=true
 ·rw [if_pos h]
  rw [Bool.and_eq_true] at h
  intro hq
  have d:=(rep_dp 60 p v h.1 rp).1
  have d':=(rep_dp 60 q u h.2 rq).1
  refine ⟨dat p,dat q,d,d',shaped_dat (by omega) h.1 rp,shaped_dat (by omega) h.2 rq,?_⟩
  rw [eqv_dat 60 60 p q h.1 h.2]
  exact hq fun F=>rep_bl
 ·rw [if_neg h]; trivial
theorem de_sub(ha:DE C cm k N sc a A)(hb:DE C cm k N sc b B):DE C cm k N sc (.BinOp a .Sub b pos) (eOp2 opSub A B) :=
 de_op2 (r:=rI (fun _ _=>True) fun i j=>.int (i - j)) (fun X S=>opI fun _ _ _ _ _ _ _ _ q=>sub_int q) op2_sub ha hb
theorem de_mod(ha:DE C cm k N sc a A)(hb:DE C cm k N sc b B):DE C cm k N sc (.BinOp a .Mod b pos) (eOp2 opMod A B) :=
 de_op2 (r:=rI (fun _ j=>0 < j) fun i j=>.int (i % j)) (fun X S=>op_mod) op2_mod ha hb
theorem de_fdiv(ha:DE C cm k N sc a A)(hb:DE C cm k N sc b B):DE C cm k N sc (.BinOp a .FloorDiv b pos) (eOp2 opFdiv A B) :=
 de_op2 (r:=rI CDivW fun i j=>.int (i / j)) (fun X S=>op_fdivW) op2_fdiv ha hb
theorem de_pow(ha:DE C cm k N sc a A)(hb:DE C cm k N sc b B):DE C cm k N sc (.BinOp a .Pow b pos) (eOp2 opPow A B) :=
 de_op2 (r:=rI CPow fun i j=>.int (i ^ j.toNat)) (fun X S=>op_pow) op2_pow ha hb
def DCm(C:Cn)(cm:Bool)(k:Nat)(N:List Str)(sc:Scope)(op:CmpOp)(a b:Expr)(E:EX):Prop:=∃ tb:WX→TE,(∀ X,Sta C cm k N sc X→∀ W,Takes X W→PC X op a b (tb W)) ∧
 ∀ W σ Γ F0 H0 F H Q,Good C.K F0 H0 Γ σ F H→EOk C W σ F H Q (E Γ)→tb W σ H Q
theorem pc_of{op:CmpOp}{r:R2}{ta tb:TE}(ho:OpR X (compareOp op) r)(ha:PE X a ta)(hb:PE X b tb):PC X op a b (tOp r ta tb) :=
 ⟨fun pins s σ H Q I h=>binT ha hb I h fun v u s2 x y H2 I2 rx ry q=>ho pins s2 σ H2 x y v u Q I2 rx ry q⟩
theorem dc_op{op:CmpOp}{r:R2}{f:PV→PV→Res PV}(ho:∀ X,Sta C cm k N sc X→OpR X (compareOp op) r)(ho2:Op2 C r f)(ha:DE C cm k N sc a A)(hb:DE C cm k N sc b B):DCm C cm k N sc op a b (eOp2 f A B):=by
 obtain ⟨ta,pa,qa⟩:=ha
 obtain ⟨tb,pb,qb⟩:=hb
 refine ⟨fun W=>tOp r (ta W) (tb W),fun X S W T=>pc_of (ho X S) (pa X S W T) (pb X S W T),fun W σ Γ F0 H0 F H Q g h=>?_⟩
 refine qa W σ Γ F0 H0 F H _ g (EOk.bind h fun x v F1 H1 ex e1 r1 h1=>?_)
 refine qb W σ Γ F0 H0 F1 H1 _ (g.next e1) (EOk.bind (h1.next e1) fun y u F2 H2 ey e2 r2 h2=>?_)
 have q:=ho2 x.2 y.2 v u H2 Q ((r1.ext e2).rep e2.fh) (r2.rep e2.fh)
 cases e:f x.2 y.2 with
 | ok z =>
  rw [e] at q h2
  exact q fun rz=>(h2.next e2).fzv (Ext.refl e2.fh e2.tp) z (toV z) rfl (rz _)
 | exc c=>rw [e] at q; exact q.elim
 | bad=>rw [e] at h2; exact h2.elim
theorem de_c{op:CmpOp}{E:EX}(h:DCm C cm k N sc op a b E)(hm:behindInMarks op b=false:=by rfl):DE C cm k N sc (.Compare a [op] [b] pos) E:=by
 obtain ⟨tb,pb,qb⟩:=h
 exact ⟨tb,fun X S W T=>pe_cmp (pb X S W T) hm,qb⟩
theorem dc_lt(ha:DE C cm k N sc a A)(hb:DE C cm k N sc b B):DCm C cm k N sc .Lt a b (eOp2 opLt A B):=dc_op (r:=rI0 fun i j=>.bl (decide (i < j))) (fun X S=>op_lt) op2_lt ha hb
theorem dc_gt(ha:DE C cm k N sc a A)(hb:DE C cm k N sc b B):DCm C cm k N sc .Gt a b (eOp2 opGt A B):=dc_op (r:=rI0 fun i j=>.bl (decide (j < i))) (fun X S=>op_gt) op2_gt ha hb
theorem dc_ge(ha:DE C cm k N sc a A)(hb:DE C cm k N sc b B):DCm C cm k N sc .GtE a b (eOp2 opGe A B):=dc_op (r:=rI0 fun i j=>.bl (decide (j≤i))) (fun X S=>op_ge) op2_ge ha hb
theorem dc_eq(ha:DE C cm k N sc a A)(hb:DE C cm k N sc b B):DCm C cm k N sc .Eq a b (eOp2 opEq A B):=dc_op (r:=rEqD C.K) (fun X S=>by rw [← S.K]; exact op_eqD (by have:=S.u; omega)) op2_eq ha hb
theorem dc_ne(ha:DE C cm k N sc a A)(hb:DE C cm k N sc b B):DCm C cm k N sc .NotEq a b (eOp2 opNe A B):=dc_op (r:=rNeD C.K) (fun X S=>by rw [← S.K]; exact op_neD (by have:=S.u; omega)) op2_ne ha hb
end
end Vl
end
section
set_option Elab.async false
set_option linter.all false
set_option maxRecDepth 100000
set_option maxHeartbeats 1000000
namespace Vl
open PySem L2 Vm PyProof.Rows
section
variable {C:Cn} {cm:Bool} {k:Nat} {N:List Str} {sc:Scope} {a b c:Expr} {A B:EX} {T U:TX} {pos:Pos} {X:Cx}
end
section
variable {C:Cn} {cm:Bool} {k:Nat} {N:List Str} {sc:Scope} {a b c:Expr} {A B:EX} {T U:TX} {pos:Pos} {X:Cx}
theorem de_un1{f:PV→Res PV}{e:Expr}(tm:TE→TE)(r:V→Hp→VK→Prop)(hp:∀ X,Sta C cm k N sc X→∀ t,PE X a t→PE X e (tm t))(ht:∀ t,tm t=fun σ H Q=>t σ H fun v H1=>r v H1 Q)
  (hr:∀ p v H Q,Rep C.K H p v→match f p with
   | .ok z=>((∀ F,Rep C.K F z (toV z))→Q (toV z) H)→r v H Q
   | .exc _=>False
   | .bad=>True)(ha:DE C cm k N sc a A):DE C cm k N sc e (eOp1 f A):=by
 obtain ⟨ta,pa,qa⟩:=ha
 refine ⟨fun W=>tm (ta W),fun X S W T=>hp X S _ (pa X S W T),fun W σ Γ F0 H0 F H Q g h=>?_⟩
 show tm (ta W) σ H Q
 rw [ht]
 refine qa W σ Γ F0 H0 F H _ g (EOk.bind h fun x v F1 H1 ex e1 r1 h1=>?_)
 have q:=hr x.2 v H1 Q (r1.rep e1.fh)
 cases e:f x.2 with
 | ok z =>
  rw [e] at h1 q
  exact q fun rz=>(h1.next e1).fzv (Ext.refl e1.fh e1.tp) z (toV z) rfl (rz _)
 | exc c=>rw [e] at q; exact q.elim
 | bad=>rw [e] at h1; exact h1.elim
theorem de_neg(ha:DE C cm k N sc a A):DE C cm k N sc (.UnaryOp .USub a pos) (eOp1 opNeg A) :=
 de_un1 (fun t=>tUn (rU fun i=>.int (-i)) t) (fun v H Q=>rU (fun i=>.int (-i)) v H Q) (fun X S t h=>pe_un un_neg h) (fun _=>rfl) (fun p v H Q h=>by
  cases p <;> simp only [opNeg] <;> (try trivial)
  unfold Rep at h
  subst h
  exact fun q=>⟨_,rfl,q fun F=>rep_int⟩) ha
theorem rep_isNon{K:KK}{H:Hp}{p:PV}{v:V}(h:Rep K H p v):decide (v = .non)=isNon p:=by
 cases p <;> unfold Rep at h
 case non=>subst h; rfl
 case bl=>subst h; rfl
 case int=>subst h; rfl
 case str=>obtain ⟨rfl,_⟩:=h; rfl
 case tup=>obtain ⟨_,_,rfl,_⟩:=h; rfl
 case lst=>obtain ⟨_,_,rfl,_⟩:=h; rfl
 case dic=>obtain ⟨_,_,_,rfl,_⟩:=h; rfl
 case exo c l =>
  cases c with
  | zero=>obtain ⟨_,_,_,_,rfl,_⟩:=h; rfl
  | succ c =>
   cases c with
   | zero=>obtain ⟨_,_,_,rfl,_⟩:=h; rfl
   | succ c=>obtain ⟨_,_,rfl,_⟩:=h; rfl
theorem dc_isN{j pos'}(ha:DE C cm k N sc a A):DCm C cm k N sc .Is a (.Constant .none j pos') (eOp1 opIsN A):=by
 obtain ⟨ta,pa,qa⟩:=ha
 refine ⟨fun W=>tIsN (ta W),fun X S W T=>pc_isN (pa X S W T),fun W σ Γ F0 H0 F H Q g h=>?_⟩
 refine qa W σ Γ F0 H0 F H _ g (EOk.bind h fun x v F1 H1 ex e1 r1 h1=>?_)
 show Q (.bl (decide (v = .non))) H1
 rw [rep_isNon (r1.rep e1.fh)]
 exact h1 _ F1 H1 e1 (.fz rep_bl)
theorem dc_notN{j pos'}(ha:DE C cm k N sc a A):DCm C cm k N sc .IsNot a (.Constant .none j pos') (eOp1 opNotN A):=by
 obtain ⟨ta,pa,qa⟩:=ha
 refine ⟨fun W=>tNotN (ta W),fun X S W T=>pc_notN (pa X S W T),fun W σ Γ F0 H0 F H Q g h=>?_⟩
 refine qa W σ Γ F0 H0 F H _ g (EOk.bind h fun x v F1 H1 ex e1 r1 h1=>?_)
 show Q (.bl (!decide (v = .non))) H1
 rw [rep_isNon (r1.rep e1.fh)]
 exact h1 _ F1 H1 e1 (.fz rep_bl)
theorem de_not(ha:DE C cm k N sc a A):DE C cm k N sc (.UnaryOp .Not a pos) (eOp1 opNot A) :=
 de_un1 (fun t=>tNotV t) (fun v H Q=>∃ c,v = .bl c∧Q (.bl (!c)) H) (fun X S t h=>pe_not h) (fun _=>rfl) (fun p v H Q h=>by
  cases p <;> simp only [opNot] <;> (try trivial)
  unfold Rep at h
  subst h
  exact fun q=>⟨_,rfl,q fun F=>rep_bl⟩) ha
theorem dt_val{e:Expr}(h:DE C cm k N sc e A)(he:∀ (env:PySem.Env) (whole:Sem Value),isTrue e env whole=(do let v ← whole; standAt e.pos; holding [v] (truthy v)):=by intro _ _; rfl):DT C cm k N sc e (xVal A):=by
 obtain ⟨ta,pa,qa⟩:=h
 refine ⟨fun W=>tB (ta W),fun X S W T=>pt_val (pa X S W T) (he _),fun W σ Γ F0 H0 F H Q g h=>?_⟩
 refine qa W σ Γ F0 H0 F H _ g (EOk.bindT h fun x v F1 H1 ex e1 r1 h1=>?_)
 have r:=r1.rep e1.fh
 obtain ⟨t,p⟩:=x
 cases p with
 | bl b=>unfold Rep at r; exact ⟨b,r,h1 F1 H1 e1⟩
 | _=>exact h1.elim
theorem dt_c{op:CmpOp}{E:EX}(h:DCm C cm k N sc op a b E)(hm:behindInMarks op b=false:=by rfl):DT C cm k N sc (.Compare a [op] [b] pos) (xVal E):=by
 obtain ⟨tb,pb,qb⟩:=h
 refine ⟨fun W=>tB (tb W),fun X S W T=>pt_cmp (pb X S W T) hm,fun W σ Γ F0 H0 F H Q g h=>?_⟩
 refine qb W σ Γ F0 H0 F H _ g (EOk.bindT h fun x v F1 H1 ex e1 r1 h1=>?_)
 have r:=r1.rep e1.fh
 obtain ⟨t,p⟩:=x
 cases p with
 | bl b=>unfold Rep at r; exact ⟨b,r,h1 F1 H1 e1⟩
 | _=>exact h1.elim
theorem dt_not(h:DT C cm k N sc a T):DT C cm k N sc (.UnaryOp .Not a pos) (xNot T):=by
 obtain ⟨ta,pa,qa⟩:=h
 refine ⟨fun W=>tNot (ta W),fun X S W T=>pt_not (pa X S W T),fun W σ Γ F0 H0 F H Q g h=>?_⟩
 exact qa W σ Γ F0 H0 F H _ g (TOk.bindT h fun b F1 H1 eb e1 h1=>h1 F1 H1 e1)
theorem dt_chain{e:Expr}(h:DW C cm k N sc e T):DT C cm k N sc e T:=by
 obtain ⟨ta,pa,qa⟩:=h
 exact ⟨ta,fun X S W T=>(pa X S W T).pt,qa⟩
theorem dw_and1(h:DT C cm k N sc a T):DW C cm k N sc (.BoolOp .And [a] pos) T:=by
 obtain ⟨ta,pa,qa⟩:=h
 exact ⟨ta,fun X S W T=>pw_and1 (pa X S W T),qa⟩
theorem dw_or1(h:DT C cm k N sc a T):DW C cm k N sc (.BoolOp .Or [a] pos) T:=by
 obtain ⟨ta,pa,qa⟩:=h
 exact ⟨ta,fun X S W T=>pw_or1 (pa X S W T),qa⟩
theorem dw_and{rest:List Expr}(ha:DT C cm k N sc a T)(hb:DW C cm k N sc (.BoolOp .And (b :: rest) pos) U):DW C cm k N sc (.BoolOp .And (a :: b :: rest) pos) (xAnd T U):=by
 obtain ⟨ta,pa,qa⟩:=ha
 obtain ⟨tb,pb,qb⟩:=hb
 refine ⟨fun W=>tAnd (ta W) (tb W),fun X S W T=>pw_and (pa X S W T) (pb X S W T),fun W σ Γ F0 H0 F H Q g h=>?_⟩
 refine qa W σ Γ F0 H0 F H _ g (TOk.bindT h fun c F1 H1 eb e1 h1=>?_)
 cases c with
 | true=>exact iteT (qb W σ Γ F0 H0 F1 H1 Q (g.next e1) (h1.next e1))
 | false=>exact iteF (h1 F1 H1 e1)
theorem dw_or{rest:List Expr}(ha:DT C cm k N sc a T)(hb:DW C cm k N sc (.BoolOp .Or (b :: rest) pos) U):DW C cm k N sc (.BoolOp .Or (a :: b :: rest) pos) (xOr T U):=by
 obtain ⟨ta,pa,qa⟩:=ha
 obtain ⟨tb,pb,qb⟩:=hb
 refine ⟨fun W=>tOr (ta W) (tb W),fun X S W T=>pw_or (pa X S W T) (pb X S W T),fun W σ Γ F0 H0 F H Q g h=>?_⟩
 refine qa W σ Γ F0 H0 F H _ g (TOk.bindT h fun c F1 H1 eb e1 h1=>?_)
 cases c with
 | true=>exact iteT (h1 F1 H1 e1)
 | false=>exact iteF (qb W σ Γ F0 H0 F1 H1 Q (g.next e1) (h1.next e1))
theorem de_one{op}(h:DE C cm k N sc a A):DE C cm k N sc (.BoolOp op [a] pos) A:=by
 obtain ⟨ta,pa,qa⟩:=h
 exact ⟨ta,fun X S W T=>pe_one (pa X S W T),qa⟩
theorem de_and{rest:List Expr}(ha:DE C cm k N sc a A)(hb:DE C cm k N sc (.BoolOp .And (b :: rest) pos) B):DE C cm k N sc (.BoolOp .And (a :: b :: rest) pos) (eAnd A B):=by
 obtain ⟨ta,pa,qa⟩:=ha
 obtain ⟨tb,pb,qb⟩:=hb
 refine ⟨fun W=>tAndV (ta W) (tb W),fun X S W T=>pe_and (pa X S W T) (pb X S W T),fun W σ Γ F0 H0 F H Q g h=>?_⟩
 refine qa W σ Γ F0 H0 F H _ g (EOk.bind h fun x v F1 H1 ex e1 r1 h1=>?_)
 have r:=r1.rep e1.fh
 obtain ⟨t,p⟩:=x
 cases p with
 | bl c =>
  unfold Rep at r
  refine ⟨c,r,?_⟩
  cases c with
  | true=>exact iteT (qb W σ Γ F0 H0 F1 H1 Q (g.next e1) (h1.next e1))
  | false=>exact iteF (h1 _ F1 H1 e1 (.fz rep_bl))
 | _=>exact h1.elim
end
end Vl
end
section
set_option Elab.async false
set_option linter.all false
set_option maxRecDepth 100000
set_option maxHeartbeats 1000000
namespace Vl
open PySem L2 Vm PyProof.Rows
section
variable {C:Cn} {cm:Bool} {k:Nat} {N:List Str} {sc:Scope} {a b c e:Expr} {es:List Expr} {A B:EX} {As:EXs} {T U:TX} {pos:Pos} {X:Cx}
theorem AOk.next{W:WX}{σ:L2.St}{F H F1 H1:Hp}{Q:List V→Hp→Prop}{r:Res (List TV)}(h:AOk C W σ F H Q r)(e:Ext F H F1 H1):AOk C W σ F1 H1 Q r:=by
 cases r with
 | ok x=>exact fun v fp F' H' e' rv=>h v fp F' H' (e.trans e') (rv.start e.hh)
 | exc c=>exact fun F' H' e'=>h F' H' (e.trans e')
 | bad=>exact h
theorem da_nil:DA C cm k N sc [] eNil:=⟨fun _=>tNil,fun _ _ _ _=>pa_nil,fun W σ Γ F0 H0 F H Q g h=>h [] [] F H g.here ⟨rfl,rfl⟩⟩
theorem da_cons(ha:DE C cm k N sc e A)(hs:DA C cm k N sc es As)(hst:∀ env:PySem.Env,starEach (e :: es) env=(false,eval e env) :: starEach es env:=by intro _; rfl):DA C cm k N sc (e :: es) (eCons A As):=by
 obtain ⟨ta,pa,qa⟩:=ha
 obtain ⟨tb,pb,qb⟩:=hs
 refine ⟨fun W=>tCons (ta W) (tb W),fun X S W T=>pa_cons (pa X S W T) (pb X S W T) (hst _),fun W σ Γ F0 H0 F H Q g h=>?_⟩
 refine qa W σ Γ F0 H0 F H _ g ?_
 unfold eCons at h
 cases ex:A Γ with
 | exc c=>rw [ex] at h; exact h
 | bad=>rw [ex] at h; exact h
 | ok x =>
  rw [ex,bind_ok] at h
  intro v F1 H1 e1 r1
  refine qb W σ Γ F0 H0 F1 H1 _ (g.next e1) ?_
  cases exs:As Γ with
  | exc c=>rw [exs] at h; exact fun F' H' e'=>h F' H' (e1.trans e')
  | bad=>rw [exs] at h; exact h
  | ok xs =>
   rw [exs,bind_ok] at h
   intro vs fp F2 H2 e2 r2
   obtain ⟨f,rf,hf⟩:=r1.norm
   refine h (v :: vs) (f++fp) F2 H2 (e1.trans e2) ⟨v,vs,f,fp,rfl,rfl,rf.ext e2,r2.start e1.hh,fun a ha hm=>(hf a ha).2 (r2.news a hm).1,fun a ha=>⟨(hf a ha).1,fun z=>(hf a ha).2 (e2.hh.free z)⟩⟩
theorem put_noexc:∀ {x:TV} {c:Nat},putV x ≠ .exc c
 | (.fz,_),_=>fun h=>by cases h
 | (.ow _,_),_=>fun h=>by cases h
 | (.bw 0,_),_=>fun h=>by cases h
 | (.bw (_+1),_),_=>fun h=>by cases h
theorem putVs_noexc:∀ {xs:List TV} {c:Nat},putVs xs = .exc c→False
 | [],_,h=>by cases h
 | x :: xs,c,h=>by
  unfold putVs at h
  cases q:putV x with
  | ok p =>
   rw [q,bind_ok] at h
   cases q2:putVs xs with
   | ok ps=>rw [q2] at h; cases h
   | exc c=>exact putVs_noexc q2
   | bad=>rw [q2] at h; cases h
  | exc c=>exact put_noexc q
  | bad=>rw [q] at h; cases h
theorem ownl_flat{K:KK}{F H:Hp}:∀ {ps:List PV} {vs:List V},RepL K F ps vs→OwnL (Own K F H 0) (ps.map fun _=>[]) ps vs
 | [],vs,h=>by unfold RepL at h; subst h; trivial
 | p :: ps,vs,h=>by
  unfold RepL at h
  obtain ⟨v,r,rfl,h2,h3⟩:=h
  exact ⟨⟨rfl,h2⟩,ownl_flat h3⟩
theorem flat_nil{α β:Type}:∀ l:List α,(l.map fun _=>([]:List β)).flatten=[]
 | []=>rfl
 | x :: xs=>by rw [List.map_cons,List.flatten_cons,flat_nil xs]; rfl
theorem own_new{K:KK}{F H:Hp}{p:Addr}{ps:List PV}{vs:List V}(h:RepL K F ps vs)(e:H p=some (.lst vs)):Own K F H 1 [p] (.lst ps) (.ref p) :=
 Own.mkL ⟨ps,p,vs,ps.map fun _=>[],rfl,rfl,e,by rw [flat_nil],ownl_flat h⟩
theorem rv_new{K:KK}{F H Hs:Hp}{p:Addr}{ps:List PV}{vs:List V}(h:RepL K F ps vs)(e:H p=some (.lst vs))(hf:F p=none)(hs:Hs p=none):RV K F H Hs (.ow 1,.lst ps) (.ref p) :=
 ⟨[p],own_new h e,by simp,fun a ha=>by simp at ha; subst ha; exact ⟨hf,hs⟩⟩
theorem szL_eq:16777216=sizeLine:=sizeLine_eq.symm
theorem de_tup(hs:DA C cm k N sc es As){x1}:DE C cm k N sc (.Tuple es x1 pos) (eTup As):=by
 obtain ⟨tb,pb,qb⟩:=hs
 refine ⟨fun W=>tTupD (tb W),fun X S W T=>pe_tupD (pb X S W T),fun W σ Γ F0 H0 F H Q g h=>?_⟩
 refine qb W σ Γ F0 H0 F H _ g (AOk.bind h fun xs vs fp F1 H1 ex e1 r1 h1=>?_)
 cases hp:putVs xs with
 | ok ps =>
  rw [hp,bind_ok] at h1
  obtain ⟨F2,e2,s2,r2,_⟩:=RVs.put e1 r1 hp
  by_cases hz:ps.length≤16777216
  ·rw [if_pos hz] at h1
   refine ⟨by rw [r2.len,← szL_eq]; exact hz,fun p o hp hd=>?_⟩
   refine h1 (.ref p) (upd F2 p (tq (o,vs))) _ (e2.trans (Ext.tup e2.fh e2.tp hp)) (.fz ?_)
   unfold Rep
   exact ⟨p,vs,rfl,.new hd,r2.mono (same_new (e2.fh.free hp)) _ _⟩
  ·rw [if_neg hz] at h1; exact h1.elim
 | exc c=>exact (putVs_noexc hp).elim
 | bad=>rw [hp] at h1; exact h1.elim
theorem de_lst(hs:DA C cm k N sc es As):DE C cm k N sc (.List es pos) (eLst As):=by
 obtain ⟨tb,pb,qb⟩:=hs
 refine ⟨fun W=>tLst (tb W),fun X S W T=>pe_lst (pb X S W T),fun W σ Γ F0 H0 F H Q g h=>?_⟩
 refine qb W σ Γ F0 H0 F H _ g (AOk.bind h fun xs vs fp F1 H1 ex e1 r1 h1=>?_)
 cases hp:putVs xs with
 | ok ps =>
  rw [hp,bind_ok] at h1
  obtain ⟨F2,e2,s2,r2,_⟩:=RVs.put e1 r1 hp
  by_cases hz:ps.length≤16777216
  ·rw [if_pos hz] at h1
   refine ⟨by rw [r2.len,← szL_eq]; exact hz,fun p hp=>?_⟩
   exact h1 (.ref p) F2 _ (e2.trans (Ext.lst e2.fh e2.tp hp)) (rv_new r2 upd_same (e2.fh.free hp) (e1.hh.free hp))
  ·rw [if_neg hz] at h1; exact h1.elim
 | exc c=>exact (putVs_noexc hp).elim
 | bad=>rw [hp] at h1; exact h1.elim
end
end Vl
end
section
set_option Elab.async false
set_option linter.all false
set_option maxRecDepth 100000
set_option maxHeartbeats 1000000
namespace Vl
open PySem L2 Vm PyProof.Rows
section
variable {C:Cn} {cm:Bool} {k:Nat} {N:List Str} {sc:Scope} {a b c e:Expr} {es:List Expr} {A B:EX} {As:EXs} {T U:TX} {pos:Pos} {X:Cx}
theorem plain_rep{K:KK}{H:Hp}:∀ {p:PV} {v:V},plainP p=true→Rep K H p v→v=toV p∧flatV v=true
 | .non,v,_,h=>by unfold Rep at h; subst h; exact ⟨rfl,rfl⟩
 | .bl _,v,_,h=>by unfold Rep at h; subst h; exact ⟨rfl,rfl⟩
 | .int _,v,_,h=>by unfold Rep at h; subst h; exact ⟨rfl,rfl⟩
 | .str _,v,_,h=>by unfold Rep at h; obtain ⟨rfl,_⟩:=h; exact ⟨rfl,rfl⟩
 | .tup _,v,h,_=>by simp [plainP] at h
 | .lst _,v,h,_=>by simp [plainP] at h
 | .dic _ _,v,h,_=>by simp [plainP] at h
 | .exo _ _,v,h,_=>by simp [plainP] at h
theorem eqV_toV:∀ {p q:PV},plainP p=true→plainP q=true→eqV (toV p) (toV q)=eqv p q:=by
 intro p q hp hq
 cases p <;> cases q <;> simp [plainP] at hp hq <;> (try rfl)
 rename_i b c
 show ((⟨b.toArray⟩:Str) == ⟨c.toArray⟩)=(b == c)
 by_cases e:b=c
 ·subst e; simp
 ·have e2:(⟨b.toArray⟩:Str) ≠ ⟨c.toArray⟩:=fun z=>e (by injection z with z1; simpa using congrArg Array.toList z1)
  rw [beq_eq_false_iff_ne.mpr e,beq_eq_false_iff_ne.mpr e2]
theorem inV_rep{K:KK}{H:Hp}{p:PV}{v:V}(hp:plainP p=true)(h:Rep K H p v):∀ {l:List PV} {vs:List V},l.all plainP=true→RepL K H l vs→vs.all flatV=true∧inV v vs=l.any fun z=>eqv z p
 | [],vs,_,g=>by unfold RepL at g; subst g; exact ⟨rfl,rfl⟩
 | q :: l,vs,hl,g=>by
  rw [List.all_cons,Bool.and_eq_true] at hl
  unfold RepL at g
  obtain ⟨u,r,rfl,g1,g2⟩:=g
  obtain ⟨i1,i2⟩:=inV_rep hp h hl.2 g2
  obtain ⟨e1,e2⟩:=plain_rep hl.1 g1
  obtain ⟨e3,_⟩:=plain_rep hp h
  refine ⟨by rw [List.all_cons,e2,i1]; rfl,?_⟩
  show (eqV u v || inV v r)=_
  rw [i2,e1,e3,eqV_toV hl.1 hp]
  rfl
def rInP(K:KK)(neg:Bool):R2:=fun x y H Q=>∃ p q b,Rep K H p x∧Rep K H q y∧inB p q = .ok b∧Q (.bl (if neg then !b else b)) H
theorem op_inP(hu:X.A.units+65 < cLine)(neg:Bool):OpR X (compareOp (if neg then .NotIn else .In)) (rInP (kkX X) neg):=by
 intro pins s σ H x y v u Q I rx ry h
 obtain ⟨p,q,b,rp,rq,hb,hq⟩:=h
 unfold inB at hb
 cases q with
 | str t =>
  cases p with
  | str l =>
   match l,hb,rp with
   | [c],hb,rp =>
    unfold Rep at rp rq
    obtain ⟨rfl,_⟩:=rp
    obtain ⟨rfl,_⟩:=rq
    cases hb
    have e:decide (c∈(⟨t.toArray⟩:Str).cps.toList)=t.elem c:=by simp
    cases neg with
    | false=>exact op_in_sign pins s σ H _ _ v u Q I rx ry ⟨c,_,rfl,rfl,by rw [e]; exact hq⟩
    | true=>exact op_notIn_sign pins s σ H _ _ v u Q I rx ry ⟨c,_,rfl,rfl,by rw [e]; exact hq⟩
   | [],hb,_=>cases hb
   | _ :: _ :: _,hb,_=>cases hb
  | _=>cases hb
 | lst l =>
  by_cases hs:(shp 50 p && shpL 50 l)=true
  ·simp only at hb
   rw [if_pos hs] at hb
   cases hb
   rw [Bool.and_eq_true] at hs
   have d1:=rep_dp 50 p x hs.1 rp
   have hl:shp 51 (.lst l)=true:=by unfold shp; exact hs.2
   have d2:=rep_dp 51 (.lst l) y hl rq
   have e:((datL l).any fun z=>PyData.eqv z (dat p))=l.any fun z=>eqv z p:=by
    rw [datL_map,List.any_map]
    have:∀ {l:List PV},shpL 50 l=true→(l.any ((fun z=>PyData.eqv z (dat p)) ∘ dat))=l.any fun z=>eqv z p:=by
     intro l
     induction l with
     | nil=>intro _; rfl
     | cons z l ih =>
      intro h
      unfold shpL at h
      rw [Bool.and_eq_true] at h
      rw [List.any_cons,List.any_cons,ih h.2]
      show (PyData.eqv (dat z) (dat p) || _)=_
      rw [eqv_dat 50 50 z p h.1 hs.1]
    exact this hs.2
   cases neg with
   | false=>exact op_inD hu pins s σ H _ _ v u Q I rx ry ⟨dat p,datL l,d1.1,d2.1,shaped_dat (by omega) hs.1 rp,shaped_dat (by omega) hl rq,by rw [e]; exact hq⟩
   | true=>exact op_notInD hu pins s σ H _ _ v u Q I rx ry ⟨dat p,datL l,d1.1,d2.1,shaped_dat (by omega) hs.1 rp,shaped_dat (by omega) hl rq,by rw [e]; exact hq⟩
  ·simp only at hb
   rw [if_neg hs] at hb; cases hb
 | tup l =>
  by_cases hs:(plainP p && l.all plainP)=true
  ·simp only at hb
   rw [if_pos hs] at hb
   cases hb
   rw [Bool.and_eq_true] at hs
   unfold Rep at rq
   obtain ⟨ad,vs,rfl,h2,h3⟩:=rq
   obtain ⟨i1,i2⟩:=inV_rep hs.1 rp hs.2 h3
   have i3:=(plain_rep hs.1 rp).2
   cases neg with
   | false=>exact op_in_seq pins s σ H _ _ v u Q I rx ry ⟨ad,vs,rfl,.inr ((TupAt.sq h2)),i3,i1,by rw [i2]; exact hq⟩
   | true=>exact op_notIn_seq pins s σ H _ _ v u Q I rx ry ⟨ad,vs,rfl,.inr ((TupAt.sq h2)),i3,i1,by rw [i2]; exact hq⟩
  ·simp only at hb
   rw [if_neg hs] at hb; cases hb
 | _=>cases hb
theorem inB_noexc{p q:PV}{c:Nat}:inB p q ≠ .exc c:=by
 intro h
 unfold inB at h
 split at h
 ·split at h <;> cases h
 ·split at h <;> cases h
 ·split at h <;> cases h
 ·cases h
theorem op2_in:Op2 C (rInP C.K false) opIn:=by
 intro p q v u H Q rp rq
 unfold opIn
 cases e:inB p q with
 | ok b=>exact fun hq=>⟨p,q,b,rp,rq,e,hq fun F=>rep_bl⟩
 | exc c=>exact (inB_noexc e).elim
 | bad=>trivial
theorem op2_notIn:Op2 C (rInP C.K true) opNotIn:=by
 intro p q v u H Q rp rq
 unfold opNotIn
 cases e:inB p q with
 | ok b=>exact fun hq=>⟨p,q,b,rp,rq,e,hq fun F=>rep_bl⟩
 | exc c=>exact (inB_noexc e).elim
 | bad=>trivial
theorem Sta.u'(S:Sta C cm k N sc X):X.A.units+65 < cLine:=by have:=S.u; omega
theorem dc_in(ha:DE C cm k N sc a A)(hb:DE C cm k N sc b B):DCm C cm k N sc .In a b (eOp2 opIn A B):=dc_op (r:=rInP C.K false) (fun X S=>by rw [← S.KK]; exact op_inP S.u' false) op2_in ha hb
theorem dc_notIn(ha:DE C cm k N sc a A)(hb:DE C cm k N sc b B):DCm C cm k N sc .NotIn a b (eOp2 opNotIn A B):=dc_op (r:=rInP C.K true) (fun X S=>by rw [← S.KK]; exact op_inP S.u' true) op2_notIn ha hb
theorem vAt_rep{K:KK}{H:Hp}{l:List PV}{vs:List V}{i:Int}{p:PV}(h:RepL K H l vs)(e:vAt l i=some p):∃ v,L2.atI vs i=some v∧Rep K H p v∧∃ j:Nat,vIxN l.length i=some j∧l[j]? = some p∧vs[j]? = some v:=by
 unfold vAt at e
 cases hj:vIxN l.length i with
 | none=>rw [hj] at e; cases e
 | some j =>
  rw [hj] at e
  obtain ⟨v,h1,h2⟩:=h.get (show l[j]? = some p from e)
  refine ⟨v,?_,h2,j,rfl,e,h1⟩
  show ((vIxN vs.length i).bind fun j=>vs[j]?)=some v
  rw [h.len,hj]
  exact h1
theorem own_part{K:KK}{F H:Hp}{d:Nat}:∀ {fs:List (List Addr)} {ps:List PV} {vs:List V} {j:Nat} {p:PV} {v:V},OwnL (Own K F H d) fs ps vs→ps[j]? = some p→vs[j]? = some v→∃ f,Own K F H d f p v
 | [],[],[],j,p,v,_,h,_=>by simp at h
 | f :: fs,q :: ps,u :: vs,0,p,v,h,h1,h2=>by
  simp at h1 h2
  subst h1 h2
  exact ⟨f,h.1⟩
 | f :: fs,q :: ps,u :: vs,j+1,p,v,h,h1,h2=>own_part (j:=j) h.2 (by simpa using h1) (by simpa using h2)
 | [],[],_ :: _,_,_,_,h,_,_=>h.elim
 | [],_ :: _,_,_,_,_,h,_,_=>h.elim
 | _ :: _,[],_,_,_,_,h,_,_=>h.elim
 | _ :: _,_ :: _,[],_,_,_,h,_,_=>h.elim
theorem ownl_rep{K:KK}{F H:Hp}(hf:Same F H){d:Nat}:∀ {fs:List (List Addr)} {ps:List PV} {vs:List V},OwnL (Own K F H d) fs ps vs→RepL K H ps vs
 | [],[],[],_=>RepL.nil
 | f :: fs,q :: ps,u :: vs,h=>RepL.cons (Own.rep hf d h.1) (ownl_rep hf h.2)
 | [],[],_ :: _,h=>h.elim
 | [],_ :: _,_,h=>h.elim
 | _ :: _,[],_,h=>h.elim
 | _ :: _,_ :: _,[],h=>h.elim
theorem rv_part{K:KK}{F H Hs:Hp}{t:Tg}{l:List PV}{v:V}(hf:Same F H)(h:RV K F H Hs (t,.lst l) v):∃ a vs,v = .ref a∧SqL K H a vs∧RepL K H l vs∧∀ (j:Nat) p u,l[j]? = some p→vs[j]? = some u→∀ Hs',RV K F H Hs' (dn t,p) u:=by
 have own:∀ {d:Nat} {fp:List Addr},Own K F H d fp (.lst l) v→∃ a vs,v = .ref a∧SqL K H a vs∧RepL K H l vs∧∀ (j:Nat) p u,l[j]? = some p→vs[j]? = some u→∀ Hs',RV K F H Hs' (dn (.bw d),p) u:=by
  intro d fp h
  cases d with
  | zero =>
   have r:=h.2
   unfold Rep at r
   obtain ⟨a,vs,rfl,h2,h3⟩:=r
   refine ⟨a,vs,rfl,hf.seq h2,h3.mono hf _ _,fun j p u e1 e2 Hs'=>.fz ?_⟩
   obtain ⟨u',e3,r⟩:=h3.get e1
   rw [e2] at e3; cases e3
   exact r
  | succ d =>
   have rr:=Own.rep hf (d+1) h
   obtain ⟨l',a,vs,fps,e0,rfl,h3,h4,h5⟩:=h.lst
   cases e0
   unfold Rep at rr
   obtain ⟨a',vs',e1,h6,h7⟩:=rr
   cases e1
   have ev:RepL K H l vs:=ownl_rep hf h5
   refine ⟨a,vs,rfl,SqL.of h3,ev,fun j p u e1 e2 Hs'=>?_⟩
   obtain ⟨f,o⟩:=own_part h5 e1 e2
   cases d with
   | zero=>exact .fz o.2
   | succ d=>exact ⟨[],f,o⟩
 cases t with
 | fz =>
  obtain ⟨_,r⟩:=h
  have r:Rep K F (.lst l) v:=r
  unfold Rep at r
  obtain ⟨a,vs,rfl,h2,h3⟩:=r
  refine ⟨a,vs,rfl,hf.seq h2,h3.mono hf _ _,fun j p u e1 e2 Hs'=>.fz ?_⟩
  obtain ⟨u',e3,r⟩:=h3.get e1
  rw [e2] at e3; cases e3
  exact r
 | bw d =>
  obtain ⟨_,fp,h⟩:=h
  exact own h
 | ow d =>
  obtain ⟨fp,h,_⟩:=h
  obtain ⟨a,vs,h1,h2,h3,h4⟩:=own h
  refine ⟨a,vs,h1,h2,h3,?_⟩
  cases d with
  | zero=>exact h4
  | succ d=>cases d with
   | zero=>exact h4
   | succ d=>exact h4
theorem de_idx(ha:DE C cm k N sc a A)(hb:DE C cm k N sc b B)(hs:PlainIx b:=by exact fun _ _=>rfl):DE C cm k N sc (.Subscript a b pos) (eIdx A B):=by
 obtain ⟨ta,pa,qa⟩:=ha
 obtain ⟨tb,pb,qb⟩:=hb
 refine ⟨fun W=>tOp (rIx C.K) (ta W) (tb W),fun X S W T=>by rw [← S.K]; exact pe_ix ix_seq (pa X S W T) (pb X S W T) hs,fun W σ Γ F0 H0 F H Q g h=>?_⟩
 refine qa W σ Γ F0 H0 F H _ g (EOk.bind h fun x v F1 H1 ex e1 r1 h1=>?_)
 refine qb W σ Γ F0 H0 F1 H1 _ (g.next e1) (EOk.bind (h1.next e1) fun y u F2 H2 ey e2 r2 h2=>?_)
 have h3:=h2.next e2
 have ry:=r2.rep e2.fh
 have rx:=r1.ext e2
 obtain ⟨t,p⟩:=x
 obtain ⟨t',q⟩:=y
 have fin:Ext F2 H2 F2 H2:=Ext.refl e2.fh e2.tp
 cases q with
 | int i =>
  unfold Rep at ry
  subst ry
  cases p with
  | lst l =>
   obtain ⟨ad,vs,rfl,s2,r3,part⟩:=rv_part e2.fh rx
   show rIx C.K (.ref ad) (.int i) H2 Q
   cases ei:vAt l i with
   | none =>
    have:EOk C W σ F2 H2 Q (match vAt l i with | some x=>.ok (dn t,x) | none=>.bad):=h3
    rw [ei] at this; exact this.elim
   | some z =>
    have h4:EOk C W σ F2 H2 Q (match vAt l i with | some x=>.ok (dn t,x) | none=>.bad):=h3
    rw [ei] at h4
    obtain ⟨w,e4,r4,j,e5,e6,e7⟩:=vAt_rep r3 ei
    exact .inl ⟨ad,vs,i,w,rfl,rfl,s2,e4,h4 w F2 H2 fin (part j z w e6 e7 _)⟩
  | tup l =>
   have rr:=rx.rep e2.fh
   have rF:Rep C.K F2 (.tup l) v:=by
    cases t with
    | fz=>obtain ⟨_,z⟩:=rx; exact z
    | bw d=>obtain ⟨_,fp,z⟩:=rx; cases d with
     | zero=>exact z.2
     | succ d=>exact (z.unbox rfl).2
    | ow d=>obtain ⟨fp,z,_⟩:=rx; cases d with
     | zero=>exact z.2
     | succ d=>exact (z.unbox rfl).2
   unfold Rep at rF
   obtain ⟨ad,vs,rfl,s2,r3⟩:=rF
   cases ei:vAt l i with
   | none =>
    have:EOk C W σ F2 H2 Q (match vAt l i with | some x=>.ok (.fz,x) | none=>.bad):=h3
    rw [ei] at this; exact this.elim
   | some z =>
    have h4:EOk C W σ F2 H2 Q (match vAt l i with | some x=>.ok (.fz,x) | none=>.bad):=h3
    rw [ei] at h4
    obtain ⟨w,e4,r4,_⟩:=vAt_rep r3 ei
    exact .inr (.inl ⟨ad,vs,i,w,rfl,rfl,(TupAt.sq (TupAt.mono e2.fh s2)),e4,h4 w F2 H2 fin (.fz r4)⟩)
  | str l =>
   have rr:=rx.rep e2.fh
   unfold Rep at rr
   obtain ⟨rfl,hg⟩:=rr
   cases ei:vAt l i with
   | none =>
    have:EOk C W σ F2 H2 Q (match vAt l i with | some x=>.ok (.fz,.str [x]) | none=>.bad):=h3
    rw [ei] at this; exact this.elim
   | some z =>
    have h4:EOk C W σ F2 H2 Q (match vAt l i with | some x=>.ok (.fz,.str [x]) | none=>.bad):=h3
    rw [ei] at h4
    unfold strG at hg
    rw [Bool.and_eq_true] at hg
    have hz:l.length≤16777216:=of_decide_eq_true hg.1
    have hm:z∈l:=by
     unfold vAt at ei
     cases hj:vIxN l.length i with
     | none=>rw [hj] at ei; cases ei
     | some j=>rw [hj] at ei; exact List.mem_of_getElem? (show l[j]? = some z from ei)
    have hz2:=List.all_eq_true.mp hg.2 z hm
    refine .inr (.inr ⟨⟨l.toArray⟩,i,z,rfl,rfl,by rw [← szL_eq]; simpa [Str.length] using hz,ei,h4 _ F2 H2 fin (.fz ?_)⟩)
    refine rep_str ?_
    show (decide (1≤16777216) && (decide (z < 1114112) && true))=true
    rw [hz2]
    rfl
  | _=>exact h3.elim
 | _=>cases p <;> exact h3.elim
end
end Vl
end
section
set_option Elab.async false
set_option linter.all false
set_option maxRecDepth 100000
set_option maxHeartbeats 1000000
namespace Vl
open PySem L2 Vm PyProof.Rows
section
variable {C:Cn} {cm:Bool} {k:Nat} {N:List Str} {sc:Scope} {a b c e:Expr} {es:List Expr} {A B:EX} {As:EXs} {T U:TX} {pos:Pos} {X:Cx}
theorem rv_flat{K:KK}{F H Hs:Hp}{t:Tg}{l:List PV}{v:V}(hf:Same F H)(h:RV K F H Hs (t,.lst l) v)(f1:flat1 t=true):∃ a vs,v = .ref a∧SqL K H a vs∧RepL K F l vs:=by
 have flat:∀ {fs:List (List Addr)} {ps:List PV} {vs:List V},OwnL (Own K F H 0) fs ps vs→RepL K F ps vs:=by
  intro fs
  induction fs with
  | nil=>intro ps vs h; cases ps with
   | nil=>cases vs with
    | nil=>exact RepL.nil
    | cons v vs=>exact h.elim
   | cons p ps=>exact h.elim
  | cons f fs ih=>intro ps vs h; cases ps with
   | nil=>exact h.elim
   | cons p ps=>cases vs with
    | nil=>exact h.elim
    | cons v vs=>exact RepL.cons h.1.2 (ih h.2)
 have zero:∀ {fp:List Addr},Own K F H 0 fp (.lst l) v→∃ a vs,v = .ref a∧SqL K H a vs∧RepL K F l vs:=fun z=>by
  have r:=z.2
  unfold Rep at r
  obtain ⟨a,vs,rfl,h2,h3⟩:=r
  exact ⟨a,vs,rfl,hf.seq h2,h3⟩
 have one:∀ {fp:List Addr},Own K F H 1 fp (.lst l) v→∃ a vs,v = .ref a∧SqL K H a vs∧RepL K F l vs:=fun z=>by
  obtain ⟨l',a,vs,fps,e0,rfl,h3,h4,h5⟩:=z.lst
  cases e0
  exact ⟨a,vs,rfl,SqL.of h3,flat h5⟩
 cases t with
 | fz =>
  obtain ⟨_,r⟩:=h
  exact zero ⟨rfl,r⟩
 | bw d =>
  obtain ⟨_,fp,h⟩:=h
  match d,f1,h with
  | 0,_,h=>exact zero h
  | 1,_,h=>exact one h
  | d+2,f1,_=>cases f1
 | ow d =>
  obtain ⟨fp,h,_⟩:=h
  match d,f1,h with
  | 0,_,h=>exact zero h
  | 1,_,h=>exact one h
  | d+2,f1,_=>cases f1
theorem rv_tup{K:KK}{F H Hs:Hp}{t:Tg}{l:List PV}{v:V}(h:RV K F H Hs (t,.tup l) v):∃ a vs,v = .ref a∧TupAt F a vs∧RepL K F l vs:=by
 have rF:Rep K F (.tup l) v:=by
  cases t with
  | fz=>obtain ⟨_,z⟩:=h; exact z
  | bw d=>obtain ⟨_,fp,z⟩:=h; cases d with
   | zero=>exact z.2
   | succ d=>exact (z.unbox rfl).2
  | ow d=>obtain ⟨fp,z,_⟩:=h; cases d with
   | zero=>exact z.2
   | succ d=>exact (z.unbox rfl).2
 unfold Rep at rF
 exact rF
theorem vSix_eq(n d:Nat)(o:Option Int):HT.sIx n d o=vSix n d o:=by cases o <;> rfl
theorem cutV_rep{K:KK}{F:Hp}{l:List PV}{vs:List V}(h:RepL K F l vs)(lo hi:Option Int):RepL K F (cutL l lo hi) (cutV vs lo hi):=by
 unfold cutL cutV
 rw [h.len,vSix_eq,vSix_eq]
 exact (h.drop _).take _
def DO(C:Cn)(cm:Bool)(k:Nat)(N:List Str)(sc:Scope)(e:Option Expr)(E:OX):Prop:=∃ tb:WX→TO,(∀ X,Sta C cm k N sc X→∀ W,Takes X W→PO X e (tb W)) ∧
 ∀ W σ Γ F0 H0 F H (Q:Option Int→Hp→Prop),Good C.K F0 H0 Γ σ F H→(match E Γ with
  | .ok o=>∀ F' H',Ext F H F' H'→Q o H'
  | .exc c=>∀ F' H',Ext F H F' H'→W (C.xc c) none σ H'
  | .bad=>False)→tb W σ H Q
theorem do_none:DO C cm k N sc none oNone:=⟨fun _=>tNoPart,fun _ _ _ _=>po_none,fun W σ Γ F0 H0 F H Q g h=>h F H g.here⟩
theorem do_some(ha:DE C cm k N sc a A):DO C cm k N sc (some a) (oSome A):=by
 obtain ⟨ta,pa,qa⟩:=ha
 refine ⟨fun W=>tPart (ta W),fun X S W T=>po_some (pa X S W T),fun W σ Γ F0 H0 F H Q g h=>?_⟩
 refine qa W σ Γ F0 H0 F H _ g ?_
 unfold oSome at h
 cases e:A Γ with
 | exc c=>rw [e] at h; exact h
 | bad=>rw [e] at h; exact h
 | ok x =>
  rw [e,bind_ok] at h
  intro v F1 H1 e1 r1
  have r:=r1.rep e1.fh
  obtain ⟨t,p⟩:=x
  cases p with
  | int i=>unfold Rep at r; exact ⟨i,r,h F1 H1 e1⟩
  | _=>exact h.elim
theorem strG_cut{l:List Nat}(h:strG l=true)(lo hi:Option Int):strG (cutL l lo hi)=true:=by
 unfold strG at h ⊢
 rw [Bool.and_eq_true] at h ⊢
 have h1:l.length≤16777216:=of_decide_eq_true h.1
 refine ⟨decide_eq_true ?_,List.all_eq_true.mpr fun x hx=>List.all_eq_true.mp h.2 x ?_⟩
 ·unfold cutL
  rw [List.length_take,List.length_drop]
  omega
 ·unfold cutL at hx
  exact List.mem_of_mem_drop (List.mem_of_mem_take hx)
theorem de_slice{lo hi:Option Expr}{Lo Hi:OX}{p2:Pos}(ha:DE C cm k N sc a A)(hl:DO C cm k N sc lo Lo)(hh:DO C cm k N sc hi Hi):DE C cm k N sc (.Subscript a (.Slice lo hi none p2) pos) (eSlice A Lo Hi):=by
 obtain ⟨ta,pa,qa⟩:=ha
 obtain ⟨tl,pl,ql⟩:=hl
 obtain ⟨th,ph,qh⟩:=hh
 refine ⟨fun W=>tSl (fun x lo hi H Q=>rSlL C.K x lo hi H Q ∨ rSlD C.K x lo hi H Q ∨ rSlS x lo hi H Q) (ta W) (tl W) (th W),fun X S W T=>by rw [← S.K]; exact pe_slice (sl_list.or (sl_tupD.or sl_str)) (pa X S W T) (pl X S W T) (ph X S W T),fun W σ Γ F0 H0 F H Q g h=>?_⟩
 unfold eSlice at h
 refine qa W σ Γ F0 H0 F H _ g (EOk.bind h fun x v F1 H1 ex e1 r1 h1=>?_)
 have h1:=h1.next e1
 refine ql W σ Γ F0 H0 F1 H1 _ (g.next e1) ?_
 cases el:Lo Γ with
 | exc c=>rw [el] at h1; exact h1
 | bad=>rw [el] at h1; exact h1
 | ok ol =>
  rw [el,bind_ok] at h1
  intro F2 H2 e2
  have h2:=h1.next e2
  refine qh W σ Γ F0 H0 F2 H2 _ ((g.next e1).next e2) ?_
  cases eh:Hi Γ with
  | exc c=>rw [eh] at h2; exact h2
  | bad=>rw [eh] at h2; exact h2
  | ok oh =>
   rw [eh,bind_ok] at h2
   intro F3 H3 e3
   have h3:=h2.next e3
   have rx:=(r1.ext e2).ext e3
   obtain ⟨t,p⟩:=x
   have fin:Ext F3 H3 F3 H3:=Ext.refl e3.fh e3.tp
   cases p with
   | lst l =>
    by_cases hf:flat1 t=true
    ·have h4:EOk C W σ F3 H3 Q (if flat1 t then .ok (.ow 1,.lst (cutL l ol oh)) else .bad):=h3
     rw [if_pos hf] at h4
     obtain ⟨ad,vs,rfl,s2,r3⟩:=rv_flat e3.fh rx hf
     refine .inl ⟨ad,vs,rfl,s2,fun p hp=>?_⟩
     exact h4 _ F3 _ (Ext.lst e3.fh e3.tp hp) (rv_new (cutV_rep r3 ol oh) upd_same (e3.fh.free hp) hp)
    ·have h4:EOk C W σ F3 H3 Q (if flat1 t then .ok (.ow 1,.lst (cutL l ol oh)) else .bad):=h3
     rw [if_neg hf] at h4
     exact h4.elim
   | tup l =>
    obtain ⟨ad,vs,rfl,s2,r3⟩:=rv_tup rx
    have h4:EOk C W σ F3 H3 Q (.ok (.fz,.tup (cutL l ol oh))):=h3
    refine .inr (.inl ⟨ad,vs,rfl,(TupAt.sq (TupAt.mono e3.fh s2)),fun hw=>?_,fun _ p o hp hd=>?_⟩)
    ·refine h4 _ F3 H3 fin (.fz ?_)
     have:cutL l ol oh=l:=by
      unfold cutL
      rw [r3.len,vSix_eq,vSix_eq] at hw
      rw [hw.1,hw.2,List.drop_zero,Nat.sub_zero,List.take_length]
     rw [this]
     unfold Rep
     exact ⟨ad,vs,rfl,s2,r3⟩
    ·refine h4 _ (upd F3 p (tq (o,cutV vs ol oh))) _ (Ext.tup e3.fh e3.tp hp) (.fz ?_)
     unfold Rep
     exact ⟨p,_,rfl,.new hd,(cutV_rep r3 ol oh).mono (same_new (e3.fh.free hp)) _ _⟩
   | str l =>
    have rr:=rx.rep e3.fh
    unfold Rep at rr
    obtain ⟨rfl,hg⟩:=rr
    have h4:EOk C W σ F3 H3 Q (.ok (.fz,.str (cutL l ol oh))):=h3
    refine .inr (.inr ⟨_,rfl,?_,?_⟩)
    ·unfold strG at hg
     rw [Bool.and_eq_true] at hg
     have hz:l.length≤16777216:=of_decide_eq_true hg.1
     rw [← szL_eq]; simpa [Str.length] using hz
    ·have e5:cutS ⟨l.toArray⟩ ol oh=⟨(cutL l ol oh).toArray⟩:=by
      unfold cutS cutL
      simp only [Str.length,List.size_toArray,vSix_eq]
     rw [e5]
     exact h4 _ F3 H3 fin (.fz (rep_str (strG_cut hg ol oh)))
   | _=>exact h3.elim
def rCatL(K:PySem.W.Frag):R2:=fun x y H Q=>∃ l b xs zs,x = .ref l∧y = .ref b∧SqL K H l xs∧SqL K H b zs∧xs.length+zs.length≤sizeLine∧∀ p,H p=none→Q (.ref p) (upd H p (.lst (xs++zs)))
theorem op_catL:OpR X (binaryOp .Add) (rCatL X.K):=by
 intro pins s σ H x y v u Q I rx ry h
 obtain ⟨l,b,xs,zs,rfl,rfl,hH,hB,hz,q⟩:=h
 cases rx
 cases ry
 obtain ⟨its,r,⟨⟨cls,dd,data,sl⟩,n,ho,hc,hd1,hd⟩,hl⟩:=I.list hH
 obtain ⟨its2,r2,⟨⟨cls2,dd2,data2,sl2⟩,n2,ho2,hc2,hd12,hd2⟩,hl2⟩:=I.list hB
 simp only at hc hd hc2 hd2
 subst hc hd hc2 hd2
 have e1:=r.length
 have e2:=r2.length
 have e:its.toArray++its2.toArray=(its++its2).toArray:=by simp
 refine concat_meets ⟨_,ho,rfl⟩ ⟨_,ho2,rfl⟩ noFill_list_add seq_list_add PySem.F.slot_list_add PySem.F.entry_list_add (PySem.F.args_list_add_2 _ _) (list_addW l b its.toArray its2.toArray n n2 dd dd2 sl sl2 (by simpa using (by omega:its.length+its2.length≤sizeLine))) ⟨ho,ho2,?_⟩
 rw [e]
 exact ⟨.ref _,_,I.lnew (t':=s.toks) (r.append r2) (by rw [List.length_append]; omega),rfl,q _ I.fresh⟩
def rAddV(K:PySem.W.Frag):R2:=fun x y H Q=>rCatL K x y H Q ∨ rCatD K x y H Q ∨ (fun x y H Q=>∃ i j,x = .str i∧y = .str j∧i.length+j.length≤sizeLine∧Q (.str (i++j)) H) x y H Q ∨ rI0 (fun i j=>.int (i+j)) x y H Q
theorem op_addV:OpR X (binaryOp .Add) (rAddV X.K):=op_catL.or (op_catD.or (op_add_str.or op_add))
theorem strG_app{a b:List Nat}(h:strG a=true)(g:strG b=true)(hz:a.length+b.length≤16777216):strG (a++b)=true:=by
 unfold strG at h g ⊢
 rw [Bool.and_eq_true] at h g ⊢
 refine ⟨decide_eq_true (by rw [List.length_append]; exact hz),?_⟩
 rw [List.all_append,h.2,g.2]
 rfl
theorem de_add(ha:DE C cm k N sc a A)(hb:DE C cm k N sc b B):DE C cm k N sc (.BinOp a .Add b pos) (eAdd A B):=by
 obtain ⟨ta,pa,qa⟩:=ha
 obtain ⟨tb,pb,qb⟩:=hb
 refine ⟨fun W=>tOp (rAddV C.K) (ta W) (tb W),fun X S W T=>by rw [← S.K]; exact pe_op op_addV (pa X S W T) (pb X S W T),fun W σ Γ F0 H0 F H Q g h=>?_⟩
 refine qa W σ Γ F0 H0 F H _ g (EOk.bind h fun x v F1 H1 ex e1 r1 h1=>?_)
 refine qb W σ Γ F0 H0 F1 H1 _ (g.next e1) (EOk.bind (h1.next e1) fun y u F2 H2 ey e2 r2 h2=>?_)
 have h3:=h2.next e2
 have rx:=r1.ext e2
 have ex':=rx.rep e2.fh
 have ey':=r2.rep e2.fh
 obtain ⟨t,p⟩:=x
 obtain ⟨t',q⟩:=y
 have fin:Ext F2 H2 F2 H2:=Ext.refl e2.fh e2.tp
 cases p with
 | lst l =>
  cases q with
  | lst m =>
   have h4:EOk C W σ F2 H2 Q (if flat1 t && flat1 t' && decide (l.length+m.length≤16777216) then .ok (.ow 1,.lst (l++m)) else .bad):=h3
   by_cases hf:(flat1 t && flat1 t' && decide (l.length+m.length≤16777216))=true
   ·rw [if_pos hf] at h4
    rw [Bool.and_eq_true,Bool.and_eq_true] at hf
    have hz:l.length+m.length≤16777216:=of_decide_eq_true hf.2
    obtain ⟨ad,vs,rfl,s2,r3⟩:=rv_flat e2.fh rx hf.1.1
    obtain ⟨bd,us,rfl,s4,r5⟩:=rv_flat e2.fh r2 hf.1.2
    refine .inl ⟨ad,bd,vs,us,rfl,rfl,s2,s4,by rw [r3.len,r5.len,← szL_eq]; exact hz,fun p hp=>?_⟩
    exact h4 _ F2 _ (Ext.lst e2.fh e2.tp hp) (rv_new (r3.append r5) upd_same (e2.fh.free hp) hp)
   ·rw [if_neg hf] at h4; exact h4.elim
  | _=>exact h3.elim
 | tup l =>
  cases q with
  | tup m =>
   have h4:EOk C W σ F2 H2 Q (if l.length+m.length≤16777216 then .ok (.fz,.tup (l++m)) else .bad):=h3
   by_cases hz:l.length+m.length≤16777216
   ·rw [if_pos hz] at h4
    obtain ⟨ad,vs,rfl,s2,r3⟩:=rv_tup rx
    obtain ⟨bd,us,rfl,s4,r5⟩:=rv_tup r2
    refine .inr (.inl ⟨ad,bd,vs,us,rfl,rfl,(TupAt.sq (TupAt.mono e2.fh s2)),(TupAt.sq (TupAt.mono e2.fh s4)),by rw [r3.len,r5.len,← szL_eq]; exact hz,fun z=>?_,fun _ z=>?_,fun _ _ p o hp hd=>?_⟩)
    ·subst z
     have hl:l=[]:=List.eq_nil_of_length_eq_zero (by have:=r3.len; simpa using this.symm)
     subst hl
     refine h4 _ F2 H2 fin (.fz ?_)
     unfold Rep
     exact ⟨bd,us,rfl,s4,r5⟩
    ·subst z
     have hm:m=[]:=List.eq_nil_of_length_eq_zero (by have:=r5.len; simpa using this.symm)
     subst hm
     rw [List.append_nil] at h4
     refine h4 _ F2 H2 fin (.fz ?_)
     unfold Rep
     exact ⟨ad,vs,rfl,s2,r3⟩
    ·refine h4 _ (upd F2 p (tq (o,vs++us))) _ (Ext.tup e2.fh e2.tp hp) (.fz ?_)
     unfold Rep
     exact ⟨p,_,rfl,.new hd,(r3.append r5).mono (same_new (e2.fh.free hp)) _ _⟩
   ·rw [if_neg hz] at h4; exact h4.elim
  | _=>exact h3.elim
 | str l =>
  cases q with
  | str m =>
   unfold Rep at ex' ey'
   obtain ⟨rfl,hg⟩:=ex'
   obtain ⟨rfl,hg2⟩:=ey'
   have h4:EOk C W σ F2 H2 Q ((if l.length+m.length≤16777216 then .ok (.str (l++m)) else .bad:Res PV).bind fzv):=h3
   by_cases hz:l.length+m.length≤16777216
   ·rw [if_pos hz,bind_ok] at h4
    refine .inr (.inr (.inl ⟨_,_,rfl,rfl,by rw [← szL_eq]; simpa [Str.length] using hz,?_⟩))
    have e5:(⟨l.toArray⟩:Str)++(⟨m.toArray⟩:Str)=⟨(l++m).toArray⟩:=by
     show (⟨l.toArray++m.toArray⟩:Str)=_
     simp
    rw [e5]
    exact h4 _ F2 H2 fin (.fz (rep_str (strG_app hg hg2 hz)))
   ·rw [if_neg hz] at h4; exact h4.elim
  | _=>exact h3.elim
 | int i =>
  cases q with
  | int j =>
   unfold Rep at ex' ey'
   subst ex' ey'
   exact .inr (.inr (.inr ⟨i,j,rfl,rfl,h3 _ F2 H2 fin (.fz rep_int)⟩))
  | _=>exact h3.elim
 | _=>exact h3.elim
theorem own_one{K:KK}{F H:Hp}{fp:List Addr}{l:List PV}{v:V}(h:Own K F H 1 fp (.lst l) v):∃ a vs,v = .ref a∧H a=some (.lst vs)∧RepL K F l vs:=by
 obtain ⟨l',a,vs,fps,e0,rfl,h3,h4,h5⟩:=h.lst
 cases e0
 refine ⟨a,vs,rfl,h3,?_⟩
 clear h3 h4 h
 induction fps generalizing l vs with
 | nil=>cases l with
  | nil=>cases vs with
   | nil=>exact RepL.nil
   | cons v vs=>exact h5.elim
  | cons p ps=>exact h5.elim
 | cons f fs ih=>cases l with
  | nil=>exact h5.elim
  | cons p ps=>cases vs with
   | nil=>exact h5.elim
   | cons v vs=>exact RepL.cons h5.1.2 (ih _ h5.2)
end
end Vl
end
section
set_option Elab.async false
set_option linter.all false
set_option maxRecDepth 100000
set_option maxHeartbeats 1000000
namespace Vl
open PySem L2 Vm PyProof.Rows
section
variable {C:Cn} {cm:Bool} {k:Nat} {N:List Str} {sc:Scope} {a b c e:Expr} {es:List Expr} {A B:EX} {As:EXs} {T U:TX} {pos p:Pos} {X:Cx} {x:Str} {bid:String}
theorem Sta.mg(S:Sta C cm k N sc X):X.mg=C.mg:=by have:=S.cn; subst this; rfl
theorem Sta.gl(S:Sta C cm k N sc X)(h:sc.names.lookup x=some .globalImplicit):Gl X x:=by
 show X.env.scope.names.lookup x=_
 rw [S.s]; exact h
theorem de_b1 {f:TV→Res TV} {r:List V→Hp→VK→Prop} (hc:∀ X,Sta C cm k N sc X→CallR X (.builtin bid) r)
  (hr:∀ W σ x v F H Hs Q,Same F H→Tups F H→RV C.K F H Hs x v→EOk C W σ F H Q (f x)→r [v] H Q) (mx:C.mg x=none) (hv:bootBuiltins x=some (.builtin bid)) (hn:x ≠ "__name__") (hdb:(x == ("__debug__":Str))=false)
  (ha:DE C cm k N sc a A) (hg:sc.names.lookup x=some .globalImplicit)
  (hst:∀ env:PySem.Env,starEach [a] env=(false,eval a env) :: starEach [] env):DE C cm k N sc (.Call (.Name x p) [a] [] pos) (fun Γ=>(A Γ).bind f):=by
 obtain ⟨ta,pa,qa⟩:=ha
 refine ⟨fun W=>tCB r (tCons (ta W) tNil),fun X S W T=>pe_callB (hc X S) (S.gl hg) (by rw [S.mg]; exact mx) hv (pa_cons (pa X S W T) pa_nil (hst _)) hn hdb (hst _) rfl,fun W σ Γ F0 H0 F H Q g h=>?_⟩
 refine qa W σ Γ F0 H0 F H _ g (EOk.bind h fun x v F1 H1 ex e1 r1 h1=>?_)
 exact hr W σ x v F1 H1 H Q e1.fh e1.tp r1 (h1.next e1)
theorem de_t1 {f:TV→Res TV} {r:List V→Hp→VK→Prop} (hc:∀ X,Sta C cm k N sc X→CallR X (.type bid) r)
  (hr:∀ W σ x v F H Hs Q,Same F H→Tups F H→RV C.K F H Hs x v→EOk C W σ F H Q (f x)→r [v] H Q) (mx:C.mg x=none) (hv:bootBuiltins x=some (.type bid)) (hn:x ≠ "__name__") (hdb:(x == ("__debug__":Str))=false)
  (ha:DE C cm k N sc a A) (hg:sc.names.lookup x=some .globalImplicit)
  (hst:∀ env:PySem.Env,starEach [a] env=(false,eval a env) :: starEach [] env):DE C cm k N sc (.Call (.Name x p) [a] [] pos) (fun Γ=>(A Γ).bind f):=by
 obtain ⟨ta,pa,qa⟩:=ha
 refine ⟨fun W=>tCB r (tCons (ta W) tNil),fun X S W T=>pe_callTy (hc X S) (S.gl hg) (by rw [S.mg]; exact mx) hv (pa_cons (pa X S W T) pa_nil (hst _)) hn hdb (hst _) rfl,fun W σ Γ F0 H0 F H Q g h=>?_⟩
 refine qa W σ Γ F0 H0 F H _ g (EOk.bind h fun x v F1 H1 ex e1 r1 h1=>?_)
 exact hr W σ x v F1 H1 H Q e1.fh e1.tp r1 (h1.next e1)
theorem rep_lst{K:KK}{H:Hp}{l:List PV}{v:V}(h:Rep K H (.lst l) v):∃ a vs,v = .ref a∧SqL K H a vs∧RepL K H l vs:=by
 unfold Rep at h; exact h
theorem rep_tup{K:KK}{H:Hp}{l:List PV}{v:V}(h:Rep K H (.tup l) v):∃ a vs,v = .ref a∧TupAt H a vs∧RepL K H l vs:=by
 unfold Rep at h; exact h
theorem strG_len{l:List Nat}(h:strG l=true):(⟨l.toArray⟩:Str).length≤sizeLine:=by
 unfold strG at h
 rw [Bool.and_eq_true] at h
 have hz:l.length≤16777216:=of_decide_eq_true h.1
 rw [← szL_eq]; simpa [Str.length] using hz
theorem de_len (ha:DE C cm k N sc a A) (mx:C.mg "len" = none) (hg:sc.names.lookup ("len":Str)=some .globalImplicit:=by rfl)
  (hst:∀ env:PySem.Env,starEach [a] env=(false,eval a env) :: starEach [] env:=by intro _; rfl):DE C cm k N sc (.Call (.Name "len" p) [a] [] pos) (eLen A) :=
 de_b1 (r:=fun xs H Q=>∃ x n,xs=[x]∧LenV C.K x H n∧Q (.int n) H) (fun X S=>by rw [← S.K]; exact call_len) (fun W σ x v F H Hs Q hf ht rv h=>by
  have r:=rv.rep hf
  obtain ⟨t,q⟩:=x
  have fin:Ext F H F H:=Ext.refl hf ht
  cases q with
  | lst l =>
   obtain ⟨ad,vs,rfl,s2,r3⟩:=rep_lst r
   refine ⟨_,l.length,rfl,?_,h _ F H fin (.fz rep_int)⟩
   exact .inl ⟨vs,s2,r3.len.symm⟩
  | tup l =>
   obtain ⟨ad,vs,rfl,s2,r3⟩:=rep_tup r
   refine ⟨_,l.length,rfl,?_,h _ F H fin (.fz rep_int)⟩
   exact .inr ⟨vs,(TupAt.sq s2),r3.len.symm⟩
  | str l =>
   unfold Rep at r
   obtain ⟨rfl,hg⟩:=r
   refine ⟨_,l.length,rfl,⟨strG_len hg,by simp [Str.length]⟩,h _ F H fin (.fz rep_int)⟩
  | dic ks l=>exact h.elim
  | _=>exact h.elim) mx PySem.boot_len (by decide) (by decide) ha hg hst
theorem de_tuple (ha:DE C cm k N sc a A) (mx:C.mg "tuple" = none) (hg:sc.names.lookup ("tuple":Str)=some .globalImplicit:=by rfl)
  (hst:∀ env:PySem.Env,starEach [a] env=(false,eval a env) :: starEach [] env:=by intro _; rfl):DE C cm k N sc (.Call (.Name "tuple" p) [a] [] pos) (eTuple A) :=
 de_t1 (r:=fun xs H Q=>∃ p ys,xs=[.ref p]∧((SqL C.K H p ys∧NewT ys H Q) ∨ (SqT C.K H p ys∧Q (.ref p) H))) (fun X S=>by rw [← S.K]; exact call_tupleD) (fun W σ x v F H Hs Q hf ht rv h=>by
  obtain ⟨t,q⟩:=x
  have fin:Ext F H F H:=Ext.refl hf ht
  cases q with
  | lst l =>
   have h:EOk C W σ F H Q (if flat1 t then .ok (.fz,.tup l) else .bad):=h
   by_cases f1:flat1 t=true
   ·rw [if_pos f1] at h
    obtain ⟨ad,vs,rfl,s2,r3⟩:=rv_flat hf rv f1
    refine ⟨ad,vs,rfl,.inl ⟨s2,fun p o hp hd=>?_⟩⟩
    refine h _ (upd F p (tq (o,vs))) _ (Ext.tup hf ht hp) (.fz ?_)
    unfold Rep
    exact ⟨p,_,rfl,.new hd,r3.mono (same_new (hf.free hp)) _ _⟩
   ·rw [if_neg f1] at h; exact h.elim
  | tup l =>
   obtain ⟨ad,vs,rfl,s2,r3⟩:=rv_tup rv
   refine ⟨ad,vs,rfl,.inr ⟨(TupAt.sq (TupAt.mono hf s2)),h _ F H fin (.fz ?_)⟩⟩
   unfold Rep
   exact ⟨ad,vs,rfl,s2,r3⟩
  | _=>exact h.elim) mx (by decide +kernel) (by decide) (by decide) ha hg hst
theorem rep_bools{K:KK}{H:Hp}:∀ {l:List PV} {vs:List V} {b:Bool},RepL K H l vs→allBl l = .ok b→∃ bs:List Bool,vs=bs.map V.bl∧bs.all id=b
 | [],vs,b,h,e=>by unfold RepL at h; subst h; cases e; exact ⟨[],rfl,rfl⟩
 | p :: l,vs,b,h,e=>by
  unfold RepL at h
  obtain ⟨v,r,rfl,h2,h3⟩:=h
  cases p with
  | bl c =>
   unfold allBl at e
   cases e2:allBl l with
   | ok d =>
    rw [e2,bind_ok] at e
    cases e
    obtain ⟨bs,rfl,h4⟩:=rep_bools h3 e2
    unfold Rep at h2
    subst h2
    exact ⟨c :: bs,rfl,by rw [List.all_cons,h4]; rfl⟩
   | exc c=>rw [e2] at e; cases e
   | bad=>rw [e2] at e; cases e
  | _=>cases e
theorem allB_noexc:∀ {l:List PV} {c:Nat},allBl l ≠ .exc c
 | [],c,h=>by cases h
 | p :: l,c,h=>by
  cases p with
  | bl i =>
   unfold allBl at h
   cases e:allBl l with
   | ok d=>rw [e] at h; cases h
   | exc c=>exact allB_noexc e
   | bad=>rw [e] at h; cases h
  | _=>cases h
theorem de_all (ha:DE C true k N sc a A) (mx:C.mg "all" = none) (hg:sc.names.lookup ("all":Str)=some .globalImplicit:=by rfl)
  (hst:∀ env:PySem.Env,starEach [a] env=(false,eval a env) :: starEach [] env:=by intro _; rfl):DE C true k N sc (.Call (.Name "all" p) [a] [] pos) (eAll A) :=
 de_b1 (r:=rAll C.K) (fun X S=>by rw [← S.K]; exact cr_all (S.c rfl)) (fun W σ x v F H Hs Q hf ht rv h=>by
  have r:=rv.rep hf
  obtain ⟨t,q⟩:=x
  cases q with
  | lst l =>
   obtain ⟨ad,vs,rfl,s2,r3⟩:=rep_lst r
   cases e:allBl l with
   | ok b =>
    have h:EOk C W σ F H Q ((allBl l).bind fun b=>.ok (.fz,.bl b)):=h
    rw [e] at h
    obtain ⟨bs,rfl,rfl⟩:=rep_bools r3 e
    exact ⟨ad,bs,rfl,s2,h _ F H (Ext.refl hf ht) (.fz rep_bl)⟩
   | exc c=>exact (allB_noexc e).elim
   | bad =>
    have h:EOk C W σ F H Q ((allBl l).bind fun b=>.ok (.fz,.bl b)):=h
    rw [e] at h; exact h.elim
  | _=>exact h.elim) mx (by decide +kernel) (by decide) (by decide) ha hg hst
def kT(u t:String):Bool:=u == t || (u == "bool" && t == "int")
theorem kit_tab:∀ u∈["NoneType","bool","int","str","tuple","list","dict"],∀ t∈["tuple","list","str","int","bool"],kitB u t=some (kT u t):=by decide +kernel
theorem kit_at {u t:String} (hu:u∈["NoneType","bool","int","str","tuple","list","dict"]) (ht:t = "tuple" ∨ t = "list" ∨ t = "str" ∨ t = "int" ∨ t = "bool") {b:Bool} (hb:kT u t=b):kitB u t=some b:=by
 rw [← hb]
 exact kit_tab u hu t (by rcases ht with rfl | rfl | rfl | rfl | rfl <;> simp)
def rIsiD(K:PySem.W.Frag):List V→Hp→VK→Prop:=fun xs H Q=>rIsi K xs H Q ∨ (∃ a o t b,xs=[.ref a,.ty t]∧H a=some (dHO a o)∧o.ExactDict∧kitB "dict" t=some b∧Q (.bl b) H) ∨ ∃ a vs t b,xs=[.ref a,.ty t]∧TupAt H a vs∧kitB "tuple" t=some b∧Q (.bl b) H
theorem call_isiD:CallR X (.builtin "isinstance") (rIsiD X.K):=by
 intro pins s σ H xs us Q I r h
 rcases h with h | ⟨a,o,t,b,rfl,h1,h2,h3,q⟩ | ⟨a,vs,t,b,rfl,⟨o,_,h1⟩,h3,q⟩
 ·exact call_isi pins s σ H xs us Q I r h
 ·obtain ⟨u1,u2,rfl,r1,r2⟩:=vals2 r
  cases (show u1=Value.ref a from r1)
  cases (show u2=Value.type t from r2)
  obtain ⟨hg,_⟩:=(show ObjOk X.prog X.w H s.heap a (dHO a o) from I.hok a _ h1)
  exact PySem.W.kia_one PySem.W.kitx_dict I.kIn ⟨o,hg,h2.1⟩ (kit_ty h3) (fun z=>nomatch z) fun tk=>⟨.bl b,H,I.tok tk,rfl,q⟩
 ·obtain ⟨u1,u2,rfl,r1,r2⟩:=vals2 r
  cases (show u1=Value.ref a from r1)
  cases (show u2=Value.type t from r2)
  obtain ⟨hg,_,_,_,o',hg',hc,_⟩:=(show ObjOk X.prog X.w H s.heap a (tq (o,vs)) from I.hok a _ h1)
  exact PySem.W.kia_one PySem.W.kitx_tuple I.kIn ⟨o',hg',hc⟩ (kit_ty h3) (fun z=>nomatch z) fun tk=>⟨.bl b,H,I.tok tk,rfl,q⟩
theorem de_isI (ha:DE C cm k N sc a A) (t:String) {p2:Pos} (mx:C.mg "isinstance" = none) (mt:C.mg (Str.ofString t)=none) (ht:(t = "tuple" ∨ t = "list" ∨ t = "str" ∨ t = "int" ∨ t = "bool"):=by decide) (hg:sc.names.lookup ("isinstance":Str)=some .globalImplicit:=by rfl) (hg2:sc.names.lookup (Str.ofString t)=some .globalImplicit:=by rfl)
  (hst:∀ env:PySem.Env,starEach [a,.Name (Str.ofString t) p2] env=(false,eval a env) :: starEach [.Name (Str.ofString t) p2] env:=by intro _; rfl):DE C cm k N sc (.Call (.Name "isinstance" p) [a,.Name (Str.ofString t) p2] [] pos) (eIsI A t):=by
 obtain ⟨ta,pa,qa⟩:=ha
 have hv:bootBuiltins (Str.ofString t)=some (.type t)∧Str.ofString t ≠ "__name__"∧(Str.ofString t == ("__debug__":Str))=false:=by
  rcases ht with rfl | rfl | rfl | rfl | rfl <;> exact ⟨by decide +kernel,by decide,by decide⟩
 refine ⟨fun W=>tCB (rIsiD C.K) (tCons (ta W) (tCons (tC (.ty t)) tNil)),fun X S W T=>by rw [← S.K]; exact pe_callB call_isiD (S.gl hg) (by rw [S.mg]; exact mx) (by decide +kernel) (pa_cons (pa X S W T) (pa_cons (pe_bltn (S.gl hg2) (by rw [S.mg]; exact mt) hv.1 rfl hv.2.1 hv.2.2) pa_nil) (hst _)) (by decide) (by decide) (hst _) rfl,fun W σ Γ F0 H0 F H Q g h=>?_⟩
 refine qa W σ Γ F0 H0 F H _ g (EOk.bind h fun x v F1 H1 ex e1 r1 h1=>?_)
 have r:=r1.rep e1.fh
 have h2:=h1.next e1
 have h2:EOk C W σ F1 H1 Q ((if isExo x.2=true then .bad else Res.ok (.bl (kindIs t x.2)):Res PV).bind fzv):=h2
 by_cases hex:isExo x.2=true
 ·rw [if_pos hex] at h2; exact h2.elim
 rw [if_neg hex] at h2
 have fin:=h2 _ F1 H1 (Ext.refl e1.fh e1.tp) (.fz rep_bl)
 have go:∀ u:String,TyX C.K H1 v (.type u)→kitB u t=some (kindIs t x.2)→rIsiD C.K [v,.ty t] H1 Q:=fun u h3 h4 =>
  .inl ⟨v,.ty t,.type u,.type t,_,rfl,.ty t,h3,kit_ty h4,fin⟩
 obtain ⟨tg,q⟩:=x
 cases q with
 | non=>unfold Rep at r; subst r; exact go "NoneType" (.base .non) (kit_at (by simp) ht (by rcases ht with rfl | rfl | rfl | rfl | rfl <;> rfl))
 | bl b=>unfold Rep at r; subst r; exact go "bool" (.base (.bl b)) (kit_at (by simp) ht (by rcases ht with rfl | rfl | rfl | rfl | rfl <;> rfl))
 | int i=>unfold Rep at r; subst r; exact go "int" (.base (.int i)) (kit_at (by simp) ht (by rcases ht with rfl | rfl | rfl | rfl | rfl <;> rfl))
 | str l=>unfold Rep at r; obtain ⟨rfl,_⟩:=r; exact go "str" (.base (.str _)) (kit_at (by simp) ht (by rcases ht with rfl | rfl | rfl | rfl | rfl <;> rfl))
 | tup l=>obtain ⟨ad,vs,rfl,s2,r3⟩:=rep_tup r; exact .inr (.inr ⟨ad,vs,t,_,rfl,s2,kit_at (u:="tuple") (by simp) ht (by rcases ht with rfl | rfl | rfl | rfl | rfl <;> rfl),fin⟩)
 | lst l =>
  obtain ⟨ad,vs,rfl,s2,r3⟩:=rep_lst r
  have ty:TyX C.K H1 (.ref ad) (.type "list"):=by
   rcases s2 with (z | ⟨o,z⟩) | ⟨o,its,n,z,z2,_⟩
   ·exact .base (.lst z)
   ·exact .base (.frz z)
   ·exact .kList z z2
  exact go "list" ty (kit_at (by simp) ht (by rcases ht with rfl | rfl | rfl | rfl | rfl <;> rfl))
 | dic ks l =>
  unfold Rep at r
  obtain ⟨ad,o,vs,rfl,s2,_,dk,_⟩:=r
  have hx:o.ExactDict:=by
   rcases dk with ⟨_,_,_,_,z,_⟩ | ⟨_,_,_,_,z,_⟩ <;> exact z
  exact .inr (.inl ⟨ad,o,t,_,rfl,s2,hx,kit_at (u:="dict") (by simp) ht (by rcases ht with rfl | rfl | rfl | rfl | rfl <;> rfl),fin⟩)
 | exo c l=>exact (hex rfl).elim
end
end Vl
end
section
set_option Elab.async false
set_option linter.all false
set_option maxRecDepth 100000
set_option maxHeartbeats 1000000
namespace Vl
open PySem L2 Vm PyProof.Rows
def spOf(C:Cn)(n:Nat)(f:FN):Sp:=fun vs H Q E=>∃ F ps,vs.length=n∧Same F H∧Tups F H∧RepL C.K F ps vs∧match f ps with
 | .ok x=>∀ v F' H',Ext F H F' H'→RV C.K F' H' H x v→Q v H'
 | .exc c=>∀ F' H',Ext F H F' H'→E (C.xc c) none H'
 | .bad=>False
structure Cal (C:Cn) (x:Str) (n k:Nat) (f:FN):Prop where
 ex:∃ ad fd ps,ps.length=n∧FnOk C.P C.w C.K C.mg C.base (L2.CX C.P C.w) k ad fd ps (spOf C n f)∧PySem.W.keepIn C.K (.ref ad)=true∧Binds C.K fd ps []∧C.mg x=some (.ref ad)
section
variable {C:Cn} {cm:Bool} {k:Nat} {N:List Str} {sc:Scope} {a b c e:Expr} {es:List Expr} {A B:EX} {As:EXs} {T U:TX} {pos p:Pos} {X:Cx} {x:Str}
theorem RV.ofFz{K:KK}{F H Hs:Hp}{p:PV}{v:V}:RV K F H Hs (.fz,p) v→Rep K F p v:=fun ⟨_,h⟩=>h
mutual
theorem stab_rep {K:KK} {F G:Hp} (g:∀ a xs,F a=some (tq xs)→G a=some (tq xs)):∀ (p:PV) (v:V),stab p=true→Rep K F p v→Rep K G p v
 | .non,v,_,h=>h
 | .bl _,v,_,h=>h
 | .int _,v,_,h=>h
 | .str _,v,_,h=>h
 | .tup l,v,s,h=>by
  unfold stab at s
  unfold Rep at h ⊢
  obtain ⟨a,vs,h1,h2,h3⟩:=h
  exact ⟨a,vs,h1,h2.up g,stab_repL g l vs s h3⟩
 | .lst _,v,s,_=>by simp [stab] at s
 | .dic _ _,v,s,_=>by simp [stab] at s
 | .exo _ _,v,s,_=>by simp [stab] at s
theorem stab_repL {K:KK} {F G:Hp} (g:∀ a xs,F a=some (tq xs)→G a=some (tq xs)):∀ (l:List PV) (vs:List V),stabL l=true→RepL K F l vs→RepL K G l vs
 | [],vs,_,h=>h
 | p :: l,vs,s,h=>by
  unfold stabL at s
  rw [Bool.and_eq_true] at s
  unfold RepL at h ⊢
  obtain ⟨v,r,h1,h2,h3⟩:=h
  exact ⟨v,r,h1,stab_rep g p v s.1 h2,stab_repL g l r s.2 h3⟩
end
theorem stab_own{K:KK}{F G H:Hp}(g:∀ a xs,F a=some (tq xs)→G a=some (tq xs)):∀ (d:Nat) {fp:List Addr} {p:PV} {v:V},stabO d p=true→Own K F H d fp p v→Own K G H d fp p v
 | 0,fp,p,v,s,h=>⟨h.1,stab_rep g p v (by unfold stabO at s; exact s) h.2⟩
 | d+1,fp,p,v,s,h=>by
  rcases h with ⟨l,a,vs,fps,h2,h3,h4,h5⟩ | ⟨h1,h2,h3⟩
  rotate_left
  ·refine .inr ⟨h1,h2,stab_rep g p v ?_ h3⟩
   cases p with
   | lst l=>cases h2
   | dic ks l=>cases h2
   | exo c l=>cases c with
    | zero=>cases h2
    | succ c=>simpa [stabO] using s
   | _=>simpa [stabO] using s
  refine .inl ⟨l,a,vs,fps,h2,h3.tups g,h4,?_⟩
  have s:l.all (stabO d)=true:=by
   rcases h3 with ⟨rfl,_⟩ | ⟨ks,o,rfl,_⟩ | ⟨_,_,rfl,_⟩
   ·unfold stabO at s; exact s
   ·unfold stabO at s; exact s
   ·unfold stabO at s; exact s
  clear h4 h3
  have go:∀ {fs:List (List Addr)} {ps:List PV} {vs:List V},ps.all (stabO d)=true→OwnL (Own K F H d) fs ps vs→OwnL (Own K G H d) fs ps vs:=by
   intro fs
   induction fs with
   | nil=>intro ps vs _ h; cases ps with
    | nil=>cases vs with
     | nil=>trivial
     | cons v vs=>exact h.elim
    | cons p ps=>exact h.elim
   | cons f fs ih=>intro ps vs hs h; cases ps with
    | nil=>exact h.elim
    | cons p ps=>cases vs with
     | nil=>exact h.elim
     | cons v vs =>
      rw [List.all_cons,Bool.and_eq_true] at hs
      exact ⟨stab_own g d hs.1 h.1,ih hs.2 h.2⟩
  exact go s h5
theorem putVs_of:∀ {xs:List TV},xs.any isBw=false→putVs xs = .ok (xs.map (·.2))
 | [],_=>rfl
 | x :: xs,h=>by
  rw [List.any_cons,Bool.or_eq_false_iff] at h
  unfold putVs
  have e:putV x = .ok x.2:=by
   obtain ⟨t,p⟩:=x
   match t,h.1 with
   | .fz,_=>rfl
   | .ow d,_=>rfl
   | .bw 0,_=>rfl
   | .bw (d+1),h=>cases h
  rw [e,bind_ok,putVs_of h.2]
  rfl
open Classical in
noncomputable def tupF(F H:Hp):Hp:=fun a=>if ∃ xs,H a=some (tq xs) then H a else F a
theorem tupF_tup{F H:Hp}{a:Addr}{xs}(h:H a=some (tq xs)):tupF F H a=some (tq xs):=by unfold tupF; rw [if_pos ⟨xs,h⟩]; exact h
theorem tupF_cases{F H:Hp}(a:Addr):(∃ xs,H a=some (tq xs)) ∨ tupF F H a=F a:=by
 by_cases h:∃ xs,H a=some (tq xs)
 ·exact .inl h
 ·unfold tupF; rw [if_neg h]; exact .inr rfl
theorem Ext.tupF{F1 H1 H':Hp}(hf:Same F1 H1)(ht:Tups F1 H1)(hh:Same H1 H'):Ext F1 H1 (tupF F1 H') H':=by
 refine ⟨fun a o e=>?_,hh,fun a o e=>?_,fun a xs e=>tupF_tup e,fun a q=>?_⟩
 ·rcases tupF_cases (F:=F1) (H:=H') a with ⟨xs,z⟩ | z
  ·rw [tupF_tup z]
   rw [hh _ _ (hf _ _ e)] at z
   exact z.symm
  ·rw [z]; exact e
 ·rcases tupF_cases (F:=F1) (H:=H') a with ⟨xs,z⟩ | z
  ·rw [tupF_tup z] at e; rw [← e]; exact z
  ·rw [z] at e; exact hh _ _ (hf _ _ e)
 ·rcases tupF_cases (F:=F1) (H:=H') a with ⟨xs,z⟩ | z
  ·cases e:H1 a with
   | none=>exact .inr rfl
   | some o =>
    have:=hh _ _ e
    rw [z] at this
    cases this
    exact .inl (by rw [ht _ _ e]; simp)
  ·rw [z] at q; exact .inl q
def AL(n:Nat)(As:EXs):Prop:=∀ Γ xs,As Γ = .ok xs→xs.length=n
theorem al_nil:AL 0 eNil:=fun Γ xs h=>by cases h; rfl
theorem al_cons{n:Nat}(h:AL n As):AL (n+1) (eCons A As):=fun Γ xs e=>by
 unfold eCons at e
 cases e1:A Γ with
 | ok x =>
  rw [e1,bind_ok] at e
  cases e2:As Γ with
  | ok ys=>rw [e2,bind_ok] at e; cases e; rw [List.length_cons,h Γ ys e2]
  | exc c=>rw [e2] at e; cases e
  | bad=>rw [e2] at e; cases e
 | exc c=>rw [e1] at e; cases e
 | bad=>rw [e1] at e; cases e
theorem de_call {f:FN} {n j:Nat} (G:Cal C x n j f) (ha:DA C true k N sc (e :: es) As) (hj:j≤k:=by decide) (hg:sc.names.lookup x=some .globalImplicit:=by rfl) (hdb:(x == ("__debug__":Str))=false:=by decide)
  (he:∀ env:PySem.Env,starEach (e :: es) env=(false,eval e env) :: starEach es env:=by intro _; rfl) (hpl:∀ env:PySem.Env,(backTo pos (starEach es env)).any (·.1)=false:=by intro _; rfl) (hlen:(e :: es).length=n:=by rfl) (hAs:AL n As) :
  DE C true k N sc (.Call (.Name x p) (e :: es) [] pos) (eCall f As):=by
 obtain ⟨ta,pa,qa⟩:=ha
 obtain ⟨ad,fd,ps,hps,F,kp,bn,hm⟩:=G.ex
 refine ⟨fun W=>tCallS (spOf C n f) (WE W) (ta W),fun X S W T=>?_,fun W σ Γ F0 H0 F H Q g h=>?_⟩
 ·have cn:=S.cn
  subst cn
  exact pe_callS F ((S.r rfl).mono hj) (S.gl hg) hm kp bn (fun σ=>passAt T σ) (pa X S W T) hdb (he _) (hpl _)
 ·refine qa W σ Γ F0 H0 F H _ g (AOk.bind h fun xs vs fp F1 H1 ex e1 r1 h1=>?_)
  have hl:vs.length=n:=by
   rw [(RVs.reps e1.fh r1).len,List.length_map]; exact hAs Γ xs ex
  by_cases hb:xs.any isBw=true
  ·refine ⟨H1,xs.map (·.2),hl,Same.refl _,fun _ _ z=>z,RVs.reps e1.fh r1,?_⟩
   cases ef:f (xs.map (·.2)) with
   | bad=>rw [ef] at h1; exact h1.elim
   | exc c =>
    rw [ef] at h1
    exact fun F' H' e'=>h1 (tupF F1 H') H' (e1.trans (Ext.tupF e1.fh e1.tp e'.hh))
   | ok x =>
    rw [ef,bind_ok,hb] at h1
    by_cases hs:stabR x=true
    ·rw [hs] at h1
     intro v F' H' e' rv
     have e2:=Ext.tupF e1.fh e1.tp e'.hh
     refine h1 v (tupF F1 H') H' (e1.trans e2) ?_
     have gt:∀ a xs,F' a=some (tq xs)→tupF F1 H' a=some (tq xs):=fun a xs z=>tupF_tup (e'.fh _ _ z)
     obtain ⟨t,p⟩:=x
     obtain ⟨fp',rv⟩:=rv
     cases t with
     | fz=>exact .fz (stab_rep gt p v hs rv)
     | bw d=>cases hs
     | ow d =>
      obtain ⟨z1,z2,z3⟩:=rv
      refine ⟨fp',stab_own gt d hs z1,z2,fun a ha=>⟨?_,e1.hh.free (z3 a ha).2⟩⟩
      obtain ⟨ws,z4,z5⟩:=z1.there d a ha
      rcases tupF_cases (F:=F1) (H:=H') a with ⟨_,z⟩ | z
      ·rw [z4] at z; cases z; exact (z5 _ rfl).elim
      ·rw [z]; exact e1.fh.free (z3 a ha).2
    ·have:stabR x=false:=by cases q:stabR x <;> simp_all
     rw [this] at h1; exact h1.elim
  ·have hb':xs.any isBw=false:=by cases q:xs.any isBw <;> simp_all
   obtain ⟨F2,e2,s2,r2,_⟩:=RVs.put e1 r1 (putVs_of hb')
   refine ⟨F2,xs.map (·.2),hl,e2.fh,e2.tp,r2,?_⟩
   cases ef:f (xs.map (·.2)) with
   | bad=>rw [ef] at h1; exact h1.elim
   | exc c =>
    rw [ef] at h1
    exact fun F' H' e'=>h1 F' H' (e2.trans e')
   | ok x =>
    rw [ef,bind_ok,hb'] at h1
    exact fun v F' H' e' rv=>h1 v F' H' (e2.trans e') (rv.start e1.hh)
end
end Vl
end
section
set_option Elab.async false
set_option linter.all false
set_option maxRecDepth 100000
set_option maxHeartbeats 1000000
namespace Vl
open PySem L2 Vm PyProof.Rows
section
variable {K:KK} {F0 H0 F H F1 H1:Hp} {Γ:En} {σ:L2.St}
theorem get_set{Γ:En}{i j:Nat}{s:Sl}:En.get (Γ.set i s) j=if j=i∧i < Γ.length then s else Γ.get j:=by
 unfold En.get
 by_cases h:j=i
 ·subst h
  by_cases hl:j < Γ.length
  ·rw [if_pos ⟨rfl,hl⟩]; simp [List.getD,hl]
  ·rw [if_neg (fun z=>hl z.2)]
   have e:Γ.set j s=Γ:=List.set_eq_of_length_le (by omega)
   rw [e]
 ·rw [if_neg (fun z=>h z.1)]
  simp [List.getD,List.getElem?_set_ne (Ne.symm h)]
theorem Good.set(g:Good K F0 H0 Γ σ F H)(i:Nat){x:TV}{v:V}{f:List Addr}(h:RVf K F H H0 x v f)(hd:∀ (fp:Nat→List Addr),(∀ j x,Γ.get j=some x→∃ v,σ[j]? = some (some v)∧RVf K F H H0 x v (fp j))→(∀ i j a,i ≠ j→a∈fp i→a ∉ fp j)→∃ fp':Nat→List Addr,(∀ j x,Γ.get j=some x→j ≠ i→∃ v,σ[j]? = some (some v)∧RVf K F H H0 x v (fp' j))∧(∀ i' j a,i' ≠ j→a∈fp' i'→a ∉ fp' j)∧fp' i=f) :
  Good K F0 H0 (Γ.set i (some x)) (σ.set i (some v)) F H:=by
 refine ⟨g.ext,by rw [List.length_set,List.length_set]; exact g.len,?_⟩
 obtain ⟨fp,h1,h2⟩:=g.slots
 obtain ⟨fp',h3,h4,h5⟩:=hd fp h1 h2
 by_cases hl:i < Γ.length
 ·refine ⟨fp',fun j y hy=>?_,h4⟩
  rw [get_set] at hy
  by_cases hj:j=i
  ·subst hj
   rw [if_pos ⟨rfl,hl⟩] at hy
   cases hy
   exact ⟨v,by rw [List.getElem?_set_self (by rw [← g.len]; exact hl)],by rw [h5]; exact h⟩
  ·rw [if_neg (fun z=>hj z.1)] at hy
   obtain ⟨u,h6,h7⟩:=h3 j y hy hj
   exact ⟨u,by rw [List.getElem?_set_ne (Ne.symm hj)]; exact h6,h7⟩
 ·refine ⟨fp,?_,h2⟩
  rw [List.set_eq_of_length_le (by omega),List.set_eq_of_length_le (by have:=g.len; omega)]
  exact h1
theorem Good.setF(g:Good K F0 H0 Γ σ F H)(i:Nat){x:TV}{v:V}(h:RVf K F H H0 x v []):Good K F0 H0 (Γ.set i (some x)) (σ.set i (some v)) F H :=
 g.set i h fun fp h1 h2=>⟨fun j=>if j=i then [] else fp j,fun j x hx hj=>by
  obtain ⟨v,h3,h4⟩:=h1 j x hx
  exact ⟨v,h3,by simp only; rw [if_neg hj]; exact h4⟩,fun i' j a hij ha=>by
  simp only at ha ⊢
  split at ha
  ·simp at ha
  ·split
   ·simp
   ·exact h2 i' j a hij ha,by simp⟩
theorem wipe_get{Γ:En}:∀ {vs:List Nat} {j:Nat} {x:TV},(wipeE Γ vs).get j=some x→Γ.get j=some x∧j ∉ vs
 | [],j,x,h=>⟨h,by simp⟩
 | v :: vs,j,x,h=>by
  unfold wipeE at h
  rw [get_set] at h
  split at h
  ·cases h
  ·rename_i hn
   obtain ⟨h1,h2⟩:=wipe_get h
   refine ⟨h1,?_⟩
   simp only [List.mem_cons,not_or]
   refine ⟨fun e=>?_,h2⟩
   subst e
   by_cases hl:j < (wipeE Γ vs).length
   ·exact hn ⟨rfl,hl⟩
   ·have:(wipeE Γ vs).get j=none:=by unfold En.get; simp [List.getD,List.getElem?_eq_none (by omega:(wipeE Γ vs).length≤j)]
    rw [this] at h; cases h
theorem wipeE_length(Γ:En):∀ vs:List Nat,(wipeE Γ vs).length=Γ.length
 | []=>rfl
 | v :: vs=>by unfold wipeE; rw [List.length_set,wipeE_length Γ vs]
theorem wipe_keep{σ:L2.St}{j:Nat}:∀ {vs:List Nat},j ∉ vs→(wipe σ vs)[j]? = σ[j]?
 | [],_=>rfl
 | v :: vs,h=>by
  simp only [List.mem_cons,not_or] at h
  unfold wipe
  rw [List.getElem?_set_ne (Ne.symm h.1)]
  exact wipe_keep h.2
theorem Good.wipe(g:Good K F0 H0 Γ σ F H)(vs:List Nat):Good K F0 H0 (wipeE Γ vs) (wipe σ vs) F H:=by
 refine ⟨g.ext,by rw [wipeE_length,wipe_length]; exact g.len,?_⟩
 obtain ⟨fp,h1,h2⟩:=g.slots
 refine ⟨fp,fun j x hx=>?_,h2⟩
 obtain ⟨h3,h4⟩:=wipe_get hx
 obtain ⟨v,h5,h6⟩:=h1 j x h3
 exact ⟨v,by rw [wipe_keep h4]; exact h5,h6⟩
theorem Good.forget(g:Good K F0 H0 Γ σ F H)(vs:List Nat):Good K F0 H0 (wipeE Γ vs) σ F H:=by
 refine ⟨g.ext,by rw [wipeE_length]; exact g.len,?_⟩
 obtain ⟨fp,h1,h2⟩:=g.slots
 refine ⟨fp,fun j x hx=>?_,h2⟩
 obtain ⟨h3,_⟩:=wipe_get hx
 exact h1 j x h3
theorem wipe_set_in{σ:L2.St}{i:Nat}{v:Option V}:∀ {vs:List Nat},i∈vs→L2.wipe (σ.set i v) vs=L2.wipe σ vs
 | w :: vs,h=>by
  unfold L2.wipe
  by_cases hw:i∈vs
  ·rw [wipe_set_in hw]
  ·have e:w=i:=by simpa [hw,eq_comm] using h
   subst e
   have:∀ {us:List Nat},w ∉ us→L2.wipe (σ.set w v) us=(L2.wipe σ us).set w v:=by
    intro us
    induction us with
    | nil=>intro _; rfl
    | cons u us ih =>
     intro hu
     simp only [List.mem_cons,not_or] at hu
     unfold L2.wipe
     rw [ih hu.2,List.set_comm _ _ (Ne.symm hu.1:¬ _)]
   rw [this hw,List.set_set]
end
def FnReq(so:Scope)(X:Cx):Prop:=∀ x,so.names.lookup x=some .cell→X.fn x=true
section
variable {C:Cn} {cm:Bool} {k:Nat} {N:List Str} {sc so:Scope} {a b c e:Expr} {es:List Expr} {A B:EX} {As:EXs} {T U:TX} {pos p:Pos} {X:Cx} {x:Str}
def DG(C:Cn)(cm:Bool)(k:Nat)(N:List Str)(sc so:Scope)(tg:Expr)(pat:Pat):Prop:=∃ t:TG,(∀ X,Sta C cm k N sc X→FnReq so X→PG X tg t) ∧
 ∀ Γ σ F0 H0 F H x v Hs Q,Good C.K F0 H0 Γ σ F H→RV C.K F H Hs x v→(match bindP Γ x pat with
  | .ok Γ'=>∀ σ',Good C.K F0 H0 Γ' σ' F H→(∀ ws:List Nat,(∀ i∈pat.slots,i∈ws)→wipe σ' ws=wipe σ ws)→Q σ' H
  | _=>False)→t v σ H Q
theorem dg_v(i:Nat){x:Str}(hi:N[i]? = some x:=by rfl)(hx:Loc sc x:=by first | exact Or.inl rfl | exact Or.inr rfl)(hf:so.names.lookup x=some .cell ∨ sc.names.lookup x=some .local:=by first | exact Or.inr rfl | exact Or.inl rfl):DG C cm k N sc so (.Name x pos) (.v i):=by
 refine ⟨gName i,fun X S R=>pg_name (by rw [S.n]; exact S.nd) (by rw [S.n]; exact hi) (by rw [S.s]; exact hx) (by
  rcases hf with hf | hf
  ·exact .inl (R _ hf)
  ·exact .inr (by rw [S.s]; exact hf)),fun Γ σ F0 H0 F H x v Hs Q g r h=>?_⟩
 have w:∀ ws:List Nat,(∀ i'∈(Pat.v i).slots,i'∈ws)→wipe (σ.set i (some v)) ws=wipe σ ws:=fun ws hw=>wipe_set_in (hw i (by simp [Pat.slots]))
 obtain ⟨t,q⟩:=x
 obtain ⟨fp,r⟩:=r
 cases t with
 | fz=>exact h _ (g.setF i (x:=(.fz,q)) r) w
 | bw d =>
  cases d with
  | zero=>exact h _ (g.setF i (x:=(.fz,q)) (by obtain ⟨_,z⟩:=r; exact z.2)) w
  | succ d=>exact h _ (g.setF i (x:=(.bw (d+1),q)) r) w
 | ow d=>exact h _ (g.setF i (x:=(.bw d,q)) ⟨fp,r.1⟩) w
def ItOk(K:KK)(J:It)(fl:Bool)(items:List TV)(F1 H1:Hp):Prop:=(fl=true→∀ x∈items,∃ p,x=(.fz,p)) ∧
 ∀ i F H,Same F1 F→Same F H→Tups F H→(fl=false→Same H1 H)→(i < items.length→J.go i H)∧(i=items.length→J.stop i H)∧∀ x H',i < items.length→J.yld i H x H'→∃ it,items[i]? = some it∧∃ F',Ext F H F' H'∧∀ Hs,RV K F' H' Hs it x
def DI(C:Cn)(cm:Bool)(k:Nat)(N:List Str)(sc:Scope)(tg e:Expr)(E:IX):Prop:=∃ tb:WX→TI,(∀ X,Sta C cm k N sc X→∀ W,Takes X W→PI X tg e (tb W)) ∧
 ∀ W σ Γ F0 H0 F H (R:It→Hp→Prop),Good C.K F0 H0 Γ σ F H→(match E Γ with
  | .ok y=>∀ J F' H',Ext F H F' H'→ItOk C.K J y.1 y.2 F' H'→R J H'
  | .exc c=>∀ F' H',Ext F H F' H'→W (C.xc c) none σ H'
  | .bad=>False)→tb W σ H R
theorem itok_list{K:KK}{F H:Hp}{a:Addr}{l:List PV}{vs:List V}(s:SqL K F a vs)(r:RepL K F l vs):ItOk K (Itl K a) true (l.map fun p=>(.fz,p)) F H :=
 ⟨fun _ x hx=>by
  obtain ⟨p,_,rfl⟩:=List.mem_map.mp hx
  exact ⟨p,rfl⟩,fun i F1 H1 h e1 t1 _=>by
  have sq:SqL K H1 a vs:=e1.seq (h.seq s)
  refine ⟨fun hi=>?_,fun hi=>⟨vs,sq,by rw [r.len,hi,List.length_map]; exact Nat.le_refl _⟩,fun x H' hlt y=>?_⟩
  ·have hi':i < vs.length:=by rw [r.len]; simpa using hi
   exact ⟨vs,vs[i],sq,List.getElem?_eq_getElem hi'⟩
  ·obtain ⟨rfl,y⟩:=y
   obtain ⟨p,h2,h3⟩:=r.getV (y vs sq)
   exact ⟨(.fz,p),by rw [List.getElem?_map,h2]; rfl,F1,Ext.refl e1 t1,fun Hs=>.fz (h3.mono h _ _)⟩⟩
theorem itok_tup{K:KK}{F H:Hp}{a:Addr}{l:List PV}{vs:List V}(s:TupAt F a vs)(r:RepL K F l vs):ItOk K (Itt K a) true (l.map fun p=>(.fz,p)) F H :=
 ⟨fun _ x hx=>by
  obtain ⟨p,_,rfl⟩:=List.mem_map.mp hx
  exact ⟨p,rfl⟩,fun i F1 H1 h e1 t1 _=>by
  have sq:SqT K H1 a vs:=((s.mono h).mono e1).sq
  refine ⟨fun hi=>?_,fun hi=>⟨vs,sq,by rw [r.len,hi,List.length_map]; exact Nat.le_refl _⟩,fun x H' hlt y=>?_⟩
  ·have hi':i < vs.length:=by rw [r.len]; simpa using hi
   exact ⟨vs,vs[i],sq,List.getElem?_eq_getElem hi'⟩
  ·obtain ⟨rfl,y⟩:=y
   obtain ⟨p,h2,h3⟩:=r.getV (y vs sq)
   exact ⟨(.fz,p),by rw [List.getElem?_map,h2]; rfl,F1,Ext.refl e1 t1,fun Hs=>.fz (h3.mono h _ _)⟩⟩
theorem ItOk.weak{K:KK}{F H:Hp}{J:It}{items:List TV}(h:ItOk K J true items F H):ItOk K J false items F H :=
 ⟨fun z=>(by cases z),fun i F1 H1 a b c _=>h.2 i F1 H1 a b c fun z=>by cases z⟩
theorem itok_bw{K:KK}{F H:Hp}{d:Nat}{fp:List Addr}{l:List PV}{v:V}(hf:Same F H)(o:Own K F H d fp (.lst l) v):∃ a,v = .ref a∧(∃ vs,SqL K H a vs)∧ItOk K (Itl K a) false (l.map fun p=>(dn (.bw d),p)) F H:=by
 cases d with
 | zero =>
  have r:=o.2
  unfold Rep at r
  obtain ⟨a,vs,rfl,s,r⟩:=r
  exact ⟨a,rfl,⟨vs,hf.seq s⟩,(itok_list s r).weak⟩
 | succ d =>
  have o':=o
  obtain ⟨l',a,vs,fps,e0,rfl,h3,h4,h5⟩:=o'.lst
  cases e0
  have rr:=ownl_rep hf h5
  refine ⟨a,rfl,⟨vs,SqL.of h3⟩,fun z=>(by cases z),fun i F1 H1 hF e1 t1 hH=>?_⟩
  have hH:=hH rfl
  have sq1:SqL K H1 a vs:=SqL.of (hH _ _ h3)
  refine ⟨fun hi=>?_,fun hi=>⟨vs,sq1,by rw [rr.len,hi,List.length_map]; exact Nat.le_refl _⟩,fun x H' hlt y=>?_⟩
  ·have hi':i < vs.length:=by rw [rr.len]; simpa using hi
   exact ⟨vs,vs[i],sq1,List.getElem?_eq_getElem hi'⟩
  ·obtain ⟨rfl,y⟩:=y
   have ex:=y vs sq1
   obtain ⟨p,h6,h7⟩:=rr.getV ex
   obtain ⟨f,op⟩:=own_part h5 h6 ex
   refine ⟨(dn (.bw (d+1)),p),by rw [List.getElem?_map,h6]; rfl,F1,Ext.refl e1 t1,fun Hs=>?_⟩
   have op':=op.same hF hH
   cases d with
   | zero=>exact .fz op'.2
   | succ d=>exact ⟨[],f,op'⟩
end
end Vl
end
section
set_option Elab.async false
set_option linter.all false
set_option maxRecDepth 100000
set_option maxHeartbeats 1000000
namespace Vl
open PySem L2 Vm PyProof.Rows
section
variable {C:Cn} {cm:Bool} {k:Nat} {N:List Str} {sc so:Scope} {a b c e tg:Expr} {es:List Expr} {A B:EX} {As:EXs} {T U:TX} {pos p:Pos} {X:Cx} {x:Str}
theorem EOk.bindI{W:WX}{σ:L2.St}{F H:Hp}{R:It→Hp→Prop}{f:TV→Res (Bool×List TV)}{Q1:VK}{r:Res TV}(h:match r.bind f with
  | .ok y=>∀ J F' H',Ext F H F' H'→ItOk C.K J y.1 y.2 F' H'→R J H'
  | .exc c=>∀ F' H',Ext F H F' H'→W (C.xc c) none σ H'
  | .bad=>False)
  (q:∀ x v F1 H1,r = .ok x→Ext F H F1 H1→RV C.K F1 H1 H x v→(match f x with
  | .ok y=>∀ J F' H',Ext F H F' H'→ItOk C.K J y.1 y.2 F' H'→R J H'
  | .exc c=>∀ F' H',Ext F H F' H'→W (C.xc c) none σ H'
  | .bad=>False)→Q1 v H1):EOk C W σ F H Q1 r:=by
 cases r with
 | ok x=>exact fun v F' H' e rv=>q x v F' H' rfl e rv h
 | exc c=>exact h
 | bad=>exact h
theorem itok_str{K:KK}{F H:Hp}{l:List Nat}(hg:strG l=true):ItOk K (Its ⟨l.toArray⟩) true (l.map fun c=>(.fz,.str [c])) F H:=by
 refine ⟨fun _ x hx=>?_,fun i F1 H1 _ e1 t1 _=>⟨fun h=>by simpa [Its] using h,fun h=>by rw [h]; simp [Its],fun x H' hlt y=>?_⟩⟩
 ·obtain ⟨p,_,rfl⟩:=List.mem_map.mp hx
  exact ⟨_,rfl⟩
 ·obtain ⟨rfl,c,hc,rfl⟩:=y
  have hc:l[i]? = some c:=by simpa using hc
  refine ⟨(.fz,.str [c]),by rw [List.getElem?_map,hc]; rfl,F1,Ext.refl e1 t1,fun Hs=>.fz (rep_str ?_)⟩
  unfold strG at hg
  rw [Bool.and_eq_true] at hg
  have h2:=List.all_eq_true.mp hg.2 c (List.mem_of_getElem? hc)
  show (decide (1≤16777216) && (decide (c < 1114112) && true))=true
  rw [h2]
  rfl
theorem di_seq(ha:DE C cm k N sc a A):DI C cm k N sc tg a (jSeq A):=by
 obtain ⟨ta,pa,qa⟩:=ha
 refine ⟨fun W=>fun σ H R=>ta W σ H fun x H1=>(∃ z,x = .str z∧R (Its z) H1) ∨ ∃ a,x = .ref a∧((∃ xs,SqL C.K H1 a xs)∧R (Itl C.K a) H1 ∨ (∃ xs,SqT C.K H1 a xs)∧R (Itt C.K a) H1),fun X S W T=>?_,fun W σ Γ F0 H0 F H R g h=>?_⟩
 ·rw [← S.K]
  refine ⟨fun pins s σ H R I h=>?_⟩
  refine thn ((pa X S W T).run pins s σ H _ I h) fun v s1 ⟨x,H1,I1,r1,q1⟩=>?_
  rcases q1 with ⟨x,ez,q⟩ | ⟨a,e,q1⟩
  ·subst ez
   obtain ⟨t,rfl⟩:=r1
   cases ha:x.cps.all (· < 128)
   ·exact wpAny_pyIter_wide ha (pi_one (tk:=s1.toks) I1 _ (turn_str _ x t "str_iterator" (.inr rfl)) ⟨_,Heap.get?_push_size _ rfl,rfl,rfl⟩ q)
   ·exact wpAny_pyIter_ascii ha (pi_one (tk:=s1.toks) I1 _ (turn_str _ x t "str_ascii_iterator" (.inl rfl)) ⟨_,Heap.get?_push_size _ rfl,rfl,rfl⟩ q)
  ·subst e
   cases r1
   rcases q1 with ⟨⟨xs,hq⟩,q⟩ | ⟨⟨xs,hq⟩,q⟩
   ·obtain ⟨its,rv,p,hz⟩:=I1.list hq
    refine wpAny_pyIter_list p.isList ?_
    refine ⟨s1.heap.objs.size,[s1.heap.objs.size],_,_,H1,rfl,I1.kept (t':=s1.toks) fun b o e=>Heap.get?_push_of_some _ e,turn_list a _,⟨_,Heap.get?_push_size _ rfl,rfl,rfl⟩,fun b hb=>?_,q⟩
    have e:b=s1.heap.objs.size:=by simpa using hb
    subst e
    exact I1.fpOk (Nat.le_refl _) (I1.hok.fresh (Nat.le_refl _))
   ·obtain ⟨its,rv,p,hz⟩:=I1.tuple hq
    refine wpAny_pyIter_tuple (show s1.heap.IsTuple a its.toArray from p) ?_
    refine ⟨s1.heap.objs.size,[s1.heap.objs.size],_,_,H1,rfl,I1.kept (t':=s1.toks) fun b o e=>Heap.get?_push_of_some _ e,turn_tuple a _,⟨_,Heap.get?_push_size _ rfl,rfl,rfl⟩,fun b hb=>?_,q⟩
    have e:b=s1.heap.objs.size:=by simpa using hb
    subst e
    exact I1.fpOk (Nat.le_refl _) (I1.hok.fresh (Nat.le_refl _))
 ·refine qa W σ Γ F0 H0 F H _ g (EOk.bindI h fun x v F1 H1 ex e1 r1 h1=>?_)
  obtain ⟨t,q⟩:=x
  cases q with
  | lst l =>
   cases t with
   | fz =>
    have r:=r1.ofFz
    unfold Rep at r
    obtain ⟨ad,vs,rfl,s2,r3⟩:=r
    exact .inr ⟨ad,rfl,.inl ⟨⟨vs,e1.fh.seq s2⟩,h1 _ F1 H1 e1 (itok_list s2 r3)⟩⟩
   | bw d =>
    obtain ⟨_,fp,o⟩:=r1
    obtain ⟨ad,rfl,sq,it⟩:=itok_bw e1.fh o
    exact .inr ⟨ad,rfl,.inl ⟨sq,h1 _ F1 H1 e1 it⟩⟩
   | ow d =>
    obtain ⟨fp,o⟩:=r1
    obtain ⟨F2,e2,s2,r2,_⟩:=RVf.put (x:=(.ow d,.lst l)) e1 o rfl
    unfold Rep at r2
    obtain ⟨ad,vs,rfl,s3,r3⟩:=r2
    exact .inr ⟨ad,rfl,.inl ⟨⟨vs,e2.fh.seq s3⟩,h1 _ F2 H1 e2 (itok_list s3 r3)⟩⟩
  | tup l =>
   obtain ⟨ad,vs,rfl,s2,r3⟩:=rv_tup r1
   exact .inr ⟨ad,rfl,.inr ⟨⟨vs,(TupAt.sq (TupAt.mono e1.fh s2))⟩,h1 _ F1 H1 e1 (itok_tup s2 r3)⟩⟩
  | str l =>
   have r:=r1.rep e1.fh
   unfold Rep at r
   obtain ⟨rfl,hg⟩:=r
   exact .inl ⟨_,rfl,h1 _ F1 H1 e1 (itok_str hg)⟩
  | _=>exact h1.elim
theorem itok_range{K:KK}{F H:Hp}(lo hi:Int):ItOk K (Itr lo (hi - lo).toNat) true ((rngL lo hi).map fun p=>(.fz,p)) F H:=by
 have hl:((rngL lo hi).map fun p=>((.fz,p):TV)).length=(hi - lo).toNat:=by simp [rngL]
 refine ⟨fun _ x hx=>?_,fun i F1 H1 _ e1 t1 _=>⟨fun h=>by rw [hl] at h; exact h,fun h=>by rw [hl] at h; rw [h]; exact Nat.le_refl _,fun x H' hlt y=>?_⟩⟩
 ·obtain ⟨p,_,rfl⟩:=List.mem_map.mp hx
  exact ⟨p,rfl⟩
 ·obtain ⟨rfl,rfl⟩:=y
  rw [hl] at hlt
  refine ⟨(.fz,.int (lo+i)),?_,F1,Ext.refl e1 t1,fun Hs=>.fz rep_int⟩
  simp [rngL,hlt]
theorem di_range (ha:DE C cm k N sc a A) (mx:C.mg "range" = none) (hg:sc.names.lookup ("range":Str)=some .globalImplicit:=by rfl)
  (hst:∀ env:PySem.Env,starEach [a] env=[(false,eval a env)]:=by intro _; rfl):DI C cm k N sc tg (.Call (.Name "range" p) [a] [] pos) (jRange A):=by
 obtain ⟨ta,pa,qa⟩:=ha
 refine ⟨fun W=>iRng1 (tCons (ta W) tNil),fun X S W T=>pi_range1 (S.gl hg) (by rw [S.mg]; exact mx) (pa_cons (pa X S W T) pa_nil (hst _)) (hst _),fun W σ Γ F0 H0 F H R g h=>?_⟩
 refine qa W σ Γ F0 H0 F H _ g (EOk.bindI h fun x v F1 H1 ex e1 r1 h1=>?_)
 have r:=r1.rep e1.fh
 obtain ⟨t,q⟩:=x
 cases q with
 | int n =>
  unfold Rep at r
  subst r
  by_cases hn:rngOk n=true
  ·have h2:(match (if rngOk n then (.ok (true,(rngL 0 n).map fun p=>(.fz,p)):Res (Bool×List TV)) else .bad) with
    | .ok y=>∀ J F' H',Ext F H F' H'→ItOk C.K J y.1 y.2 F' H'→R J H'
    | .exc c=>∀ F' H',Ext F H F' H'→W (C.xc c) none σ H'
    | .bad=>False):=h1
   rw [if_pos hn] at h2
   have hn2:=rngOk_iff.mp hn
   refine ⟨n,rfl,hn2.1,hn2.2,?_⟩
   have:=h2 (Itr 0 (n - 0).toNat) F1 H1 e1 (itok_range 0 n)
   simpa using this
  ·have h2:(match (if rngOk n then (.ok (true,(rngL 0 n).map fun p=>(.fz,p)):Res (Bool×List TV)) else .bad) with
    | .ok y=>∀ J F' H',Ext F H F' H'→ItOk C.K J y.1 y.2 F' H'→R J H'
    | .exc c=>∀ F' H',Ext F H F' H'→W (C.xc c) none σ H'
    | .bad=>False):=h1
   rw [if_neg hn] at h2
   exact h2.elim
 | _=>exact h1.elim
def DF(C:Cn)(cm:Bool)(k:Nat)(N:List Str)(sc:Scope)(ifs:List Expr)(E:TX):Prop:=∃ tb:WX→TT,(∀ X,Sta C cm k N sc X→∀ W,Takes X W→PTs X ifs (tb W)) ∧
 ∀ W σ Γ F0 H0 F H Q,Good C.K F0 H0 Γ σ F H→TOk C W σ F H Q (E Γ)→tb W σ H Q
theorem df_nil:DF C cm k N sc [] xYes:=⟨fun _=>L2.tYes,fun _ _ _ _=>pts_nil,fun W σ Γ F0 H0 F H Q g h=>h F H g.here⟩
theorem wipe_idem{σ:L2.St}:∀ {us:List Nat} (vs:List Nat),(∀ u∈us,u∈vs)→wipe (wipe σ us) vs=wipe σ vs
 | [],vs,_=>rfl
 | u :: us,vs,h=>by
  show wipe ((wipe σ us).set u none) vs=_
  rw [wipe_set_in (h u (by simp)),wipe_idem vs fun w hw=>h w (by simp [hw])]
theorem sta_blk(S:Sta C cm k N sc X){s:Shared}{H:Hp}{scope:Scope}{Ca:Addr}{cl:List (Str×Addr)}{fp:List Addr}:Sta C cm k N (relS scope sc) (X.blk s H scope (compEnvC scope cl Ca X.env) fp):=by
 have hs:=S.s
 subst hs
 exact ⟨S.cn,S.n,rfl,S.nd,S.c,S.r,S.u,S.rh⟩
theorem req_blk{s:Shared}{H:Hp}{scope:Scope}{env:PySem.Env}{fp:List Addr}:FnReq scope (X.blk s H scope env fp):=fun x h=>by
 show (scope.names.lookup x == some .cell)=true
 rw [h]; rfl
theorem lcGo_cons{Γ:En}{pat:Pat}{c:TX}{e:EX}{x:TV}{xs:List TV}{ps:List PV}(h:lcGo Γ pat c e (x :: xs) = .ok ps):∃ Γ' b,bindP Γ x pat = .ok Γ'∧c Γ' = .ok b ∧
  (b=true→∃ y p r,e Γ' = .ok y∧putV y = .ok p∧lcGo Γ pat c e xs = .ok r∧ps=p :: r)∧(b=false→lcGo Γ pat c e xs = .ok ps):=by
 unfold lcGo at h
 cases h1:bindP Γ x pat with
 | ok Γ' =>
  rw [h1,bind_ok] at h
  cases h2:c Γ' with
  | ok b =>
   rw [h2,bind_ok] at h
   refine ⟨Γ',b,rfl,h2,fun hb=>?_,fun hb=>?_⟩
   ·rw [if_pos hb] at h
    cases h3:e Γ' with
    | ok y =>
     rw [h3,bind_ok] at h
     cases h4:putV y with
     | ok p =>
      rw [h4,bind_ok] at h
      cases h5:lcGo Γ pat c e xs with
      | ok r=>rw [h5,bind_ok] at h; cases h; exact ⟨y,p,r,rfl,h4,rfl,rfl⟩
      | exc _=>rw [h5] at h; cases h
      | bad=>rw [h5] at h; cases h
     | exc _=>rw [h4] at h; cases h
     | bad=>rw [h4] at h; cases h
    | exc _=>rw [h3] at h; cases h
    | bad=>rw [h3] at h; cases h
   ·rw [hb] at h
    exact h
  | exc _=>rw [h2] at h; cases h
  | bad=>rw [h2] at h; cases h
 | exc _=>rw [h1] at h; cases h
 | bad=>rw [h1] at h; cases h
variable {elt iter:Expr} {ifs:List Expr} {scope:Scope} {own:List (Str×Nat)} {I:IX} {pat:Pat}
theorem lc_reads{wi:TI}{g:TG}{tt:TT}{te:TE}{ow:List Nat}{W:WX}{σ:L2.St}{Γ:En}{F0 H0 F H:Hp}{Q:VK}(gd:Good C.K F0 H0 Γ σ F H)
  (qi:∀ (R:It→Hp→Prop),(match I Γ with
   | .ok y=>∀ J F' H',Ext F H F' H'→ItOk C.K J y.1 y.2 F' H'→R J H'
   | .exc c=>∀ F' H',Ext F H F' H'→W (C.xc c) none σ H'
   | .bad=>False)→wi σ H R)
  (qg:∀ Γ σ F0 H0 F H x v Hs Q,Good C.K F0 H0 Γ σ F H→RV C.K F H Hs x v→(match bindP Γ x pat with
   | .ok Γ'=>∀ σ',Good C.K F0 H0 Γ' σ' F H→(∀ ws:List Nat,(∀ i∈pat.slots,i∈ws)→wipe σ' ws=wipe σ ws)→Q σ' H
   | _=>False)→g v σ H Q)
  (qt:∀ σ Γ F0 H0 F H Q,Good C.K F0 H0 Γ σ F H→TOk C (fun _ _ _ _=>False) σ F H Q (T Γ)→tt σ H Q)
  (qe:∀ σ Γ F0 H0 F H Q,Good C.K F0 H0 Γ σ F H→EOk C (fun _ _ _ _=>False) σ F H Q (A Γ)→te σ H Q)
  (hsl:∀ i∈pat.slots,i∈ow)(h:EOk C W σ F H Q (eLC ow I pat T A Γ)):tLc wi g tt te ow σ H Q:=by
 refine qi _ ?_
 unfold eLC at h
 cases ei:I Γ with
 | exc c=>rw [ei] at h; exact h
 | bad=>rw [ei] at h; exact h
 | ok y =>
  rw [ei,bind_ok] at h
  intro J F1 H1 e1 it D hD
  cases el:lcGo (wipeE Γ ow) pat T A y.2 with
  | exc c=>rw [el] at h; exact h.elim
  | bad=>rw [el] at h; exact h.elim
  | ok ps =>
   rw [el] at h
   simp only [noExc,bind_ok] at h
   by_cases hz:ps.length≤16777216
   ·rw [if_pos hz] at h
    refine ⟨fun i m H'=>m=y.2.length - i∧i≤y.2.length∧∃ F' acc vs rest,Ext F1 H1 F' H'∧F' D=none∧H' D=some (.lst vs)∧RepL C.K F' acc vs∧lcGo (wipeE Γ ow) pat T A (y.2.drop i) = .ok rest∧acc++rest=ps,?_,?_⟩
    ·exact ⟨_,rfl,Nat.zero_le _,F1,[],[],ps,Ext.lst e1.fh e1.tp hD,e1.fh.free hD,upd_same,RepL.nil,el,rfl⟩
    ·rintro i m H' ⟨rfl,hi,F',acc,vs,rest,e2,fD,hD',ra,hr,happ⟩
     obtain ⟨i1,i2,i3⟩:=it.2 i F' H' e2.ff e2.fh e2.tp (fun _=>e2.hh)
     by_cases hlt:i < y.2.length
     ·refine .inr ⟨i1 hlt,fun H''=>∃ F'' acc vs rest,Ext F1 H1 F'' H''∧F'' D=none∧H'' D=some (.lst vs)∧RepL C.K F'' acc vs∧lcGo (wipeE Γ ow) pat T A (y.2.drop (i+1)) = .ok rest∧acc++rest=ps,fun H'' hN=>⟨y.2.length - (i+1),by omega,rfl,hlt,hN⟩,fun x H2 hy=>?_⟩
      obtain ⟨itm,hit,F2,e3,rx⟩:=i3 x H2 hlt hy
      have hd:y.2.drop i=itm :: y.2.drop (i+1):=by
       rw [List.drop_eq_getElem_cons hlt]
       rw [List.getElem?_eq_getElem hlt] at hit
       cases hit
       rfl
      rw [hd] at hr
      obtain ⟨Γ',b,h1,h2,h3,h4⟩:=lcGo_cons hr
      have eall:=e1.trans (e2.trans e3)
      have g2:=(gd.next eall).wipe ow
      refine qg _ _ F0 H0 F2 H2 itm x H2 _ g2 (rx H2) ?_
      rw [h1]
      intro σ2 g3 w3
      refine ⟨by rw [w3 ow hsl]; exact wipe_idem ow fun _ z=>z,?_⟩
      refine qt σ2 Γ' F0 H0 F2 H2 _ g3 ?_
      rw [h2]
      intro F3 H3 e4
      have keepD:∀ {Fx Hx:Hp},Ext F' H' Fx Hx→Fx D=none∧Hx D=some (.lst vs):=fun {Fx Hx} ee=>by
       refine ⟨?_,ee.hh _ _ hD'⟩
       cases q:Fx D with
       | none=>rfl
       | some o =>
        rcases ee.nw D (by rw [q]; simp) with z | z
        ·exact (z fD).elim
        ·rw [hD'] at z; cases z
      cases b with
      | true =>
       rw [if_pos rfl]
       obtain ⟨yy,p,r,h5,h6,h7,h8⟩:=h3 rfl
       refine qe σ2 Γ' F0 H0 F3 H3 _ (g3.next e4) ?_
       rw [h5]
       intro v F4 H4 e5 rv
       obtain ⟨F5,e6,rp⟩:=rv.put e5 h6
       have ef:=e3.trans (e4.trans e6)
       obtain ⟨k1,k2⟩:=keepD ef
       subst h8
       refine ⟨vs,k2,?_,F5,acc++[p],vs++[v],r,?_,k1,upd_same,(ra.mono ef.ff _ _).append (RepL.cons rp RepL.nil),h7,by rw [← happ]; simp⟩
       ·have:=congrArg List.length happ
        rw [List.length_append,List.length_cons] at this
        rw [ra.len,← szL_eq]
        omega
       ·have eu:=e2.trans ef
        refine ⟨eu.ff,fun a o z=>?_,fun a o z=>?_,tups_new eu.tp (fun _ z=>by cases z) k1,eu.nw⟩
        ·rw [upd_ne (ne_of_none z hD)]; exact eu.hh _ _ z
        ·rw [upd_ne (ne_of_none z k1)]; exact eu.fh _ _ z
      | false =>
       rw [if_neg Bool.false_ne_true]
       have ef:=e3.trans e4
       obtain ⟨k1,k2⟩:=keepD ef
       exact ⟨F3,acc,vs,rest,e2.trans ef,k1,k2,ra.mono ef.ff _ _,h4 rfl,happ⟩
     ·have ein:i=y.2.length:=by omega
      refine .inl ⟨i2 (by omega),?_⟩
      rw [List.drop_eq_nil_of_le (by omega)] at hr
      cases hr
      rw [List.append_nil] at happ
      subst happ
      exact h _ F' H' (e1.trans e2) (rv_new ra hD' fD (e1.hh.free hD))
   ·rw [if_neg hz] at h; exact h.elim
theorem takesF{X:Cx}:Takes X (fun _ _ _ _=>False):=takes0
theorem de_lc{pos:Pos}(hi:DI C true k N sc tg iter I)(ok:blkC N sc scope own=true)(hg:DG C true k N (relS scope sc) scope tg pat)(ht:DF C true k N (relS scope sc) ifs T)(he:DE C true k N (relS scope sc) elt A)
  (hs:∀ (env:PySem.Env) x,foldedSetIterable iter env x=pure x:=by intro _ _; rfl)(hsl:∀ i∈pat.slots,i∈own.map (·.2):=by decide):DE C true k N sc (.ListComp elt [⟨tg,iter,ifs,0⟩] scope pos) (eLC (own.map (·.2)) I pat T A):=by
 obtain ⟨ti,pi,qi⟩:=hi
 obtain ⟨g,pg,qg⟩:=hg
 obtain ⟨tt,pt,qt⟩:=ht
 obtain ⟨te,pe,qe⟩:=he
 refine ⟨fun W=>tLc (ti W) g (tt fun _ _ _ _=>False) (te fun _ _ _ _=>False) (own.map (·.2)),fun X S W Tk=>?_,fun W σ Γ F0 H0 F H Q gd h=>?_⟩
 ·exact pe_lc (S.c rfl) (by rw [S.n]; exact S.nd) (pi X S W Tk) (blkOk_by (by rw [S.n,S.s]; exact ok)) (fun s H Ca cl fp=>pg _ (sta_blk S) req_blk) (fun s H Ca cl fp=>pt _ (sta_blk S) _ takesF) (fun s H Ca cl fp=>pe _ (sta_blk S) _ takesF) (hs _)
 ·exact lc_reads gd (fun R=>qi W σ Γ F0 H0 F H R gd) qg (qt _) (qe _) hsl h
end
end Vl
end
section
set_option Elab.async false
set_option linter.all false
set_option maxRecDepth 100000
set_option maxHeartbeats 1000000
namespace Vl
open PySem L2 Vm PyProof.Rows
structure GoodS (K:KK) (F0 H0:Hp) (Γ:En) (σ:L2.St) (F H:Hp):Prop extends Good K F0 H0 Γ σ F H where
 nb:NoBw Γ
structure StaS (C:Cn) (cm:Bool) (k:Nat) (N:List Str) (sc:Scope) (X:Cx):Prop extends Sta C cm k N sc X where
 po:PassesOwn (model X.prog X.w) X.A X.env X.xe
 rq:FnReq sc X
 sk:X.stack=X.env :: X.outer
 fr:X.env.frame=some X.env.locals
def OutOk(C:Cn)(W:WX)(F0 H0:Hp)(D:Ends):Out→Prop
 | .nx Γ=>∀ σ F H,GoodS C.K F0 H0 Γ σ F H→D.nx σ H
 | .rt t p _=>∀ v F H,Ext F0 H0 F H→RV C.K F H H0 (t,p) v→D.rt v H
 | .bk Γ=>∀ σ F H,GoodS C.K F0 H0 Γ σ F H→D.bk σ H
 | .ct Γ=>∀ σ F H,GoodS C.K F0 H0 Γ σ F H→D.ct σ H
 | .exc c Γ=>∀ σ F H,GoodS C.K F0 H0 Γ σ F H→W (C.xc c) none σ H
 | .bad=>False
def DS(C:Cn)(cm:Bool)(k:Nat)(N:List Str)(sc:Scope)(st:Stmt)(d:ST):Prop:=∃ tb:WX→TS,(∀ X,StaS C cm k N sc X→∀ W,Takes X W→PS X st (tb W)) ∧
 ∀ W D σ Γ F0 H0 F H,GoodS C.K F0 H0 Γ σ F H→OutOk C W F0 H0 D (d Γ)→tb W D σ H
def DSs(C:Cn)(cm:Bool)(k:Nat)(N:List Str)(sc:Scope)(st:List Stmt)(d:ST):Prop:=∃ tb:WX→TS,(∀ X,StaS C cm k N sc X→∀ W,Takes X W→PSs X st (tb W)) ∧
 ∀ W D σ Γ F0 H0 F H,GoodS C.K F0 H0 Γ σ F H→OutOk C W F0 H0 D (d Γ)→tb W D σ H
section
variable {C:Cn} {cm:Bool} {k:Nat} {N:List Str} {sc so:Scope} {a b c e tg:Expr} {es:List Expr} {A B:EX} {As:EXs} {T U:TX} {pos p:Pos} {X:Cx} {x:Str} {st:Stmt} {sts:List Stmt} {d d':ST}
variable {F0 H0 F H F1 H1:Hp} {Γ:En} {σ:L2.St} {W:WX} {D:Ends}
theorem GoodS.next(g:GoodS C.K F0 H0 Γ σ F H)(e:Ext F H F1 H1):GoodS C.K F0 H0 Γ σ F1 H1:=⟨g.toGood.next e,g.nb⟩
theorem OutOk.bind{f:TV→Out}{Q1:VK}{r:Res TV}(g:GoodS C.K F0 H0 Γ σ F H)(h:OutOk C W F0 H0 D (aft r Γ f))
  (q:∀ x v F1 H1,r = .ok x→Ext F H F1 H1→RV C.K F1 H1 H x v→OutOk C W F0 H0 D (f x)→Q1 v H1):EOk C W σ F H Q1 r:=by
 cases r with
 | ok x=>exact fun v F' H' e rv=>q x v F' H' rfl e rv h
 | exc c=>exact fun F' H' e=>h σ F' H' (g.next e)
 | bad=>exact h
theorem OutOk.bindT{f:Bool→Out}{Q1:Bool→Hp→Prop}{r:Res Bool}(g:GoodS C.K F0 H0 Γ σ F H)(h:OutOk C W F0 H0 D (aft r Γ f))
  (q:∀ x F1 H1,r = .ok x→Ext F H F1 H1→OutOk C W F0 H0 D (f x)→Q1 x H1):TOk C W σ F H Q1 r:=by
 cases r with
 | ok x=>exact fun F' H' e=>q x F' H' rfl e h
 | exc c=>exact fun F' H' e=>h σ F' H' (g.next e)
 | bad=>exact h
theorem ds_nil:DSs C cm k N sc [] dNil:=⟨fun _=>tNext,fun _ _ _ _=>pss_nil,fun W D σ Γ F0 H0 F H g h=>h σ F H g⟩
theorem ds_one(h:DS C cm k N sc st d):DSs C cm k N sc [st] d:=by
 obtain ⟨tb,pb,qb⟩:=h
 exact ⟨tb,fun X S W T=>pss_one (pb X S W T),qb⟩
theorem ds_cons(h1:DS C cm k N sc st d)(h2:DSs C cm k N sc sts d'):DSs C cm k N sc (st :: sts) (dSeq d d'):=by
 obtain ⟨ta,pa,qa⟩:=h1
 obtain ⟨tb,pb,qb⟩:=h2
 refine ⟨fun W=>tSeq (ta W) (tb W),fun X S W T=>pss_cons (pa X S W T) (pb X S W T),fun W D σ Γ F0 H0 F H g h=>?_⟩
 refine qa W _ σ Γ F0 H0 F H g ?_
 unfold dSeq at h
 cases e:d Γ with
 | nx Γ'=>rw [e] at h; exact fun σ' F' H' g'=>qb W D σ' Γ' F0 H0 F' H' g' h
 | rt t p Γr=>rw [e] at h; exact h
 | bk Γ'=>rw [e] at h; exact h
 | ct Γ'=>rw [e] at h; exact h
 | exc c Γ'=>rw [e] at h; exact h
 | bad=>rw [e] at h; exact h
theorem GoodS.forget(g:GoodS C.K F0 H0 Γ σ F H)(vs:List Nat):GoodS C.K F0 H0 (wipeE Γ vs) σ F H :=
 ⟨g.toGood.forget vs,fun i d p h=>g.nb i d p (wipe_get h).1⟩
theorem nb_set{i:Nat}{x:TV}(h:NoBw Γ)(hx:∀ d p,x ≠ (.bw d,p)):NoBw (Γ.set i (some x)):=fun j d p hj=>by
 rw [get_set] at hj
 split at hj
 ·cases hj; exact hx d p rfl
 ·exact h j d p hj
theorem GoodS.setF(g:GoodS C.K F0 H0 Γ σ F H)(i:Nat){p:PV}{v:V}(h:Rep C.K F p v):GoodS C.K F0 H0 (Γ.set i (some (.fz,p))) (σ.set i (some v)) F H :=
 ⟨g.toGood.setF i (x:=(.fz,p)) h,nb_set g.nb fun d p h=>by cases h⟩
theorem GoodS.setO(g:GoodS C.K F0 H0 Γ σ F H)(i:Nat){d:Nat}{p:PV}{v:V}(e:Ext F H F1 H1)(h:RV C.K F1 H1 H (.ow d,p) v):GoodS C.K F0 H0 (Γ.set i (some (.ow d,p))) (σ.set i (some v)) F1 H1:=by
 obtain ⟨f,o,nd,fr⟩:=h
 refine ⟨(g.toGood.next e).set i (f:=f) ⟨o,nd,fun a ha=>⟨(fr a ha).1,g.ext.hh.free (fr a ha).2⟩⟩ fun fp h1 h2=>?_,nb_set g.nb fun d p h=>by cases h⟩
 obtain ⟨fq,k1,k2⟩:=g.slots
 refine ⟨fun j=>if j=i then f else match Γ.get j with
  | some (.ow _,_)=>fq j
  | _=>[],fun j y hy hj=>?_,fun i' j a hij ha hb=>?_,if_pos rfl⟩
 ·obtain ⟨v',h3,h4⟩:=k1 j y hy
  refine ⟨v',h3,?_⟩
  simp only
  rw [if_neg hj,hy]
  obtain ⟨t,q⟩:=y
  cases t with
  | fz=>exact h4.ext e
  | bw d=>exact h4.ext e
  | ow d=>exact h4.ext e
 ·have old:∀ j',a∈(match Γ.get j' with | some (.ow _,_)=>fq j' | _=>[])→a∈fq j'∧H a ≠ none:=fun j' hm=>by
   cases q:Γ.get j' with
   | none=>rw [q] at hm; simp at hm
   | some y =>
    obtain ⟨t,pp⟩:=y
    rw [q] at hm
    cases t with
    | fz=>simp at hm
    | bw _=>simp at hm
    | ow dd =>
     obtain ⟨v',_,h4⟩:=k1 j' _ q
     refine ⟨hm,?_⟩
     obtain ⟨ws,z,_⟩:=h4.1.there dd a hm
     rw [z]; simp
  simp only at ha hb
  by_cases h1':i'=i
  ·rw [if_pos h1'] at ha
   rw [if_neg (fun z=>hij (h1'.trans z.symm))] at hb
   exact (old j hb).2 (fr a ha).2
  ·rw [if_neg h1'] at ha
   by_cases h2':j=i
   ·rw [if_pos h2'] at hb
    exact (old i' ha).2 (fr a hb).2
   ·rw [if_neg h2'] at hb
    exact k2 i' j a hij (old i' ha).1 (old j hb).1
theorem ds_set(i:Nat){x:Str}{pos':Pos}(he:DE C cm k N sc e A)(hi:N[i]? = some x:=by rfl)(hx:Loc sc x:=by first | exact Or.inl rfl | exact Or.inr rfl)
  (hs:∀ env:PySem.Env,env.scope=sc→swapsWith e (some (.Name x pos')) pos.line env=pure false:=by intro env _; rfl):DS C cm k N sc (.Assign [.Name x pos'] e pos) (dSet i A):=by
 obtain ⟨ta,pa,qa⟩:=he
 refine ⟨fun W=>tAsg (ta W) (gName i),fun X S W T=>ps_set (by rw [S.n]; exact S.nd) (by rw [S.n]; exact hi) (by rw [S.s]; exact hx) (pa X S.toSta W T) (hs _ S.s) (by
  rcases hx with hx | hx
  ·exact .inr (by rw [S.s]; exact hx)
  ·exact .inl (S.rq _ hx)),fun W D σ Γ F0 H0 F H g h=>?_⟩
 refine qa W σ Γ F0 H0 F H _ g.toGood (OutOk.bind g h fun x v F1 H1 ex e1 r1 h1=>?_)
 cases hp:putV x with
 | ok p =>
  rw [hp,after_ok] at h1
  obtain ⟨F2,e2,r2⟩:=r1.put e1 hp
  exact h1 _ F2 H1 ((g.next e2).setF i r2)
 | exc c=>exact (put_noexc hp).elim
 | bad=>rw [hp] at h1; exact h1.elim
theorem ds_setO(i:Nat){x:Str}{pos':Pos}(he:DE C cm k N sc e A)(hi:N[i]? = some x:=by rfl)(hx:Loc sc x:=by first | exact Or.inl rfl | exact Or.inr rfl)
  (hs:∀ env:PySem.Env,env.scope=sc→swapsWith e (some (.Name x pos')) pos.line env=pure false:=by intro env _; rfl):DS C cm k N sc (.Assign [.Name x pos'] e pos) (dSetO i A):=by
 obtain ⟨ta,pa,qa⟩:=he
 refine ⟨fun W=>tAsg (ta W) (gName i),fun X S W T=>ps_set (by rw [S.n]; exact S.nd) (by rw [S.n]; exact hi) (by rw [S.s]; exact hx) (pa X S.toSta W T) (hs _ S.s) (by
  rcases hx with hx | hx
  ·exact .inr (by rw [S.s]; exact hx)
  ·exact .inl (S.rq _ hx)),fun W D σ Γ F0 H0 F H g h=>?_⟩
 refine qa W σ Γ F0 H0 F H _ g.toGood (OutOk.bind g h fun x v F1 H1 ex e1 r1 h1=>?_)
 obtain ⟨t,q⟩:=x
 cases t with
 | ow d=>exact h1 _ F1 H1 (g.setO i e1 r1)
 | _=>exact h1.elim
theorem ds_setLC(i:Nat){x:Str}{py:Pos}{elt iter:Expr}{ifs:List Expr}{scope:Scope}{own:List (Str×Nat)}{lpos:Pos}{I:IX}{pat:Pat}(ow:Bool)(hi:DI C true k N sc tg iter I)(ok:blkC N sc scope own=true)(hg:DG C true k N (relS scope sc) scope tg pat)(ht:DF C true k N (relS scope sc) ifs T)(he:DE C true k N (relS scope sc) elt A)
  (hN:N[i]? = some x:=by rfl)(hyl:sc.names.lookup x=some .local:=by rfl)(hk:sc.kind = .function:=by rfl)(hl:(py.line == lpos.line)=true:=by rfl)(ha:(scope.names.any fun (n,k)=>n == x && (k == .local || k == .cell))=false:=by decide +kernel)
  (hs:∀ (env:PySem.Env) x,foldedSetIterable iter env x=pure x:=by intro _ _; rfl)(hsl:∀ i∈pat.slots,i∈own.map (·.2):=by decide):DS C true k N sc (.Assign [.Name x py] (.ListComp elt [⟨tg,iter,ifs,0⟩] scope lpos) pos) ((if ow then dSetO else dSet) i (eLC (own.map (·.2)) I pat T A)):=by
 obtain ⟨ti,pi,qi⟩:=hi
 obtain ⟨g,pg,qg⟩:=hg
 obtain ⟨tt,pt,qt⟩:=ht
 obtain ⟨te,pe,qe⟩:=he
 refine ⟨fun W=>tAsg (tLc (ti W) g (tt fun _ _ _ _=>False) (te fun _ _ _ _=>False) (own.map (·.2))) (gName i),fun X S W Tk=>?_,fun W D σ Γ F0 H0 F H gd h=>?_⟩
 ·exact ps_setLc (S.c rfl) (by rw [S.n]; exact S.nd) (by rw [S.n]; exact hN) (by rw [S.s]; exact hyl) (sw_true (by rw [S.s]; exact hk) (by rw [S.s]; exact hyl) hl ha) (pi X S.toSta W Tk) (blkOk_by (by rw [S.n,S.s]; exact ok)) (fun s H Ca cl fp=>pg _ (sta_blk S.toSta) req_blk) (fun s H Ca cl fp=>pt _ (sta_blk S.toSta) _ takesF) (fun s H Ca cl fp=>pe _ (sta_blk S.toSta) _ takesF) (hs _)
 ·show tLc _ _ _ _ _ σ H _
  cases ow with
  | true =>
   refine lc_reads gd.toGood (fun R=>qi W σ Γ F0 H0 F H R gd.toGood) qg (qt _) (qe _) hsl (OutOk.bind gd h fun x v F1 H1 ex e1 r1 h1=>?_)
   obtain ⟨t,q⟩:=x
   cases t with
   | ow d=>exact h1 _ F1 H1 (gd.setO i e1 r1)
   | _=>exact h1.elim
  | false =>
   refine lc_reads gd.toGood (fun R=>qi W σ Γ F0 H0 F H R gd.toGood) qg (qt _) (qe _) hsl (OutOk.bind gd h fun x v F1 H1 ex e1 r1 h1=>?_)
   cases hp:putV x with
   | ok p =>
    rw [hp,after_ok] at h1
    obtain ⟨F2,e2,r2⟩:=r1.put e1 hp
    exact h1 _ F2 H1 ((gd.next e2).setF i r2)
   | exc c=>exact (put_noexc hp).elim
   | bad=>rw [hp] at h1; exact h1.elim
theorem setAll_nb:∀ {is:List Nat} {ps:List PV} {Γ Γ':En},setAll Γ is ps=some Γ'→NoBw Γ→NoBw Γ'
 | [],[],_,_,h,n=>by cases h; exact n
 | i :: is,p :: ps,Γ,Γ',h,n=>setAll_nb (is:=is) (ps:=ps) h (nb_set n fun d p h=>by cases h)
 | [],_ :: _,_,_,h,_=>by cases h
 | _ :: _,[],_,_,h,_=>by cases h
theorem ds_if{s1 s2:List Stmt}{d1 d2:ST}(ht:DT C cm k N sc c T)(h1:DSs C cm k N sc s1 d1)(h2:DSs C cm k N sc s2 d2):DS C cm k N sc (.If c s1 s2 pos) (dIf T d1 d2):=by
 obtain ⟨tc,pc,qc⟩:=ht
 obtain ⟨ta,pa,qa⟩:=h1
 obtain ⟨tb,pb,qb⟩:=h2
 refine ⟨fun W=>tIfS (tc W) (ta W) (tb W),fun X S W T=>ps_if (pc X S.toSta W T) (pa X S W T) (pb X S W T),fun W D σ Γ F0 H0 F H g h=>?_⟩
 refine qc W σ Γ F0 H0 F H _ g.toGood (OutOk.bindT g h fun b F1 H1 eb e1 h1=>?_)
 cases b with
 | true=>exact iteT (qa W D σ Γ F0 H0 F1 H1 (g.next e1) h1)
 | false=>exact iteF (qb W D σ Γ F0 H0 F1 H1 (g.next e1) h1)
theorem ds_ret(he:DE C cm k N sc e A):DS C cm k N sc (.Return (some e) pos) (dRet A):=by
 obtain ⟨ta,pa,qa⟩:=he
 refine ⟨fun W=>tRet (ta W),fun X S W T=>ps_ret (pa X S.toSta W T),fun W D σ Γ F0 H0 F H g h=>?_⟩
 refine qa W σ Γ F0 H0 F H _ g.toGood (OutOk.bind g h fun x v F1 H1 ex e1 r1 h1=>?_)
 obtain ⟨t,q⟩:=x
 have ee:=g.ext.trans e1
 have rs:=r1.start g.ext.hh
 cases t with
 | fz=>exact h1 v F1 H1 ee rs
 | ow d=>exact h1 v F1 H1 ee rs
 | bw d =>
  cases d with
  | zero=>obtain ⟨_,fp,z⟩:=rs; exact h1 v F1 H1 ee (.fz z.2)
  | succ d=>exact h1.elim
theorem ds_retV (i:Nat) {x:Str} (hN:N[i]? = some x:=by rfl) (hv:Vis sc x:=by first | exact Or.inl rfl | exact Or.inr (Or.inl rfl) | exact Or.inr (Or.inr rfl)) (hd:(x == ("__debug__":Str))=false:=by decide)
  (hcd:(x == ("__classdict__":Str))=false:=by decide):DS C cm k N sc (.Return (some (.Name x p)) pos) (dRetV i):=by
 refine ⟨fun W=>tRet (tVar i),fun X S W T=>ps_ret (pe_var (by rw [S.n]; exact hN) (by rw [S.s]; exact hv) hd hcd),fun W D σ Γ F0 H0 F H g h=>?_⟩
 obtain ⟨fp,h1,_⟩:=g.slots
 unfold dRetV at h
 cases e:Γ.get i with
 | none=>rw [e] at h; exact h.elim
 | some y =>
  obtain ⟨t,q⟩:=y
  obtain ⟨v,h3,h4⟩:=h1 i _ e
  rw [e] at h
  refine ⟨v,h3,?_⟩
  cases t with
  | fz=>exact h v F H g.ext ⟨[],h4⟩
  | ow d=>exact h v F H g.ext ⟨_,h4⟩
  | bw d=>exact h.elim
theorem ds_ex(he:DE C cm k N sc e A)(hs:∀ env:PySem.Env,swapsWith e none pos.line env=pure false:=by intro _; rfl):DS C cm k N sc (.Expr e pos) (dEx A):=by
 obtain ⟨ta,pa,qa⟩:=he
 refine ⟨fun W=>tDrop (ta W),fun X S W T=>ps_expr (pa X S.toSta W T) (hs _),fun W D σ Γ F0 H0 F H g h=>?_⟩
 exact qa W σ Γ F0 H0 F H _ g.toGood (OutOk.bind g h fun x v F1 H1 ex e1 r1 h1=>h1 σ F1 H1 (g.next e1))
end
end Vl
end
section
set_option Elab.async false
set_option linter.all false
set_option maxRecDepth 100000
set_option maxHeartbeats 1000000
namespace Vl
open PySem L2 Vm PyProof.Rows
section
variable {C:Cn} {cm:Bool} {k:Nat} {N:List Str} {sc so:Scope} {a b c e tg:Expr} {es:List Expr} {A B:EX} {As:EXs} {T U:TX} {pos p:Pos} {X:Cx} {x:Str} {st:Stmt} {sts:List Stmt} {d d':ST}
variable {F0 H0 F H F1 H1:Hp} {Γ:En} {σ:L2.St} {W:WX} {D:Ends}
theorem bindP_nb{x:TV}{pat:Pat}{Γ':En}(hx:∃ p,x=(.fz,p))(h:bindP Γ x pat = .ok Γ')(n:NoBw Γ):NoBw Γ':=by
 obtain ⟨p,rfl⟩:=hx
 cases pat with
 | v i=>cases h; exact nb_set n fun d p h=>by cases h
 | t is =>
  unfold bindP at h
  cases q0:seqP (.fz,p) with
  | none=>simp only [q0] at h; cases h
  | some ps =>
   simp only [q0] at h
   cases q:setAll Γ is ps with
   | none=>rw [q] at h; cases h
   | some Γ2=>rw [q] at h; cases h; exact setAll_nb q n
theorem bindP_noexc{x:TV}{pat:Pat}{c:Nat}:bindP Γ x pat ≠ .exc c:=by
 intro h
 cases pat with
 | v i =>
  obtain ⟨t,p⟩:=x
  cases t with
  | fz=>cases h
  | ow d=>cases h
  | bw d=>cases d <;> cases h
 | t is =>
  unfold bindP at h
  cases q0:seqP x with
  | none=>simp only [q0] at h; cases h
  | some ps =>
   simp only [q0] at h
   cases q:setAll Γ is ps with
   | none=>rw [q] at h; cases h
   | some Γ2=>rw [q] at h; cases h
theorem GoodS.rebase(g:GoodS C.K F0 H0 Γ σ F H):GoodS C.K F H0 Γ σ F H :=
 ⟨⟨⟨Same.refl _,g.ext.hh,g.ext.fh,g.ext.tp,fun a q=>.inl q⟩,g.len,g.slots⟩,g.nb⟩
theorem Ext.back{Fx Hx Fy Hy:Hp}(e:Ext F0 H0 Fx Hx)(e2:Ext Fx H0 Fy Hy):Ext F0 H0 Fy Hy :=
 ⟨e.ff.trans e2.ff,e2.hh,e2.fh,e2.tp,fun a q=>by
  rcases e2.nw a q with q | q
  ·exact e.nw a q
  ·exact .inr q⟩
theorem GoodS.back{Fx Hx Fy Hy:Hp}{Γ':En}{σ':L2.St}(e:Ext F0 H0 Fx Hx)(g:GoodS C.K Fx H0 Γ' σ' Fy Hy):GoodS C.K F0 H0 Γ' σ' Fy Hy :=
 ⟨⟨Ext.back e g.ext,g.len,g.slots⟩,g.nb⟩
theorem ds_for{iter:Expr}{body:List Stmt}{I:IX}{pat:Pat}(ws:List Nat)(hi:DI C true k N sc tg iter I)(hg:DG C true k N sc sc tg pat)(hb:DSs C true k N sc body d)
  (hs:∀ (env:PySem.Env) x,foldedSetIterable iter env x=pure x:=by intro _ _; rfl):DS C true k N sc (.For tg iter body [] pos) (dFor I pat ws d):=by
 obtain ⟨ti,pi,qi⟩:=hi
 obtain ⟨t,pt,qt⟩:=hg
 obtain ⟨tb,pb,qb⟩:=hb
 refine ⟨fun W=>tFor (ti W) t (tb W),fun X S W T=>ps_for S.po (S.c rfl) (pi X S.toSta W T) (pt X S.toSta S.rq) (pb X S W T) (hs _),fun W D σ Γ F0 H0 F H g h=>?_⟩
 refine qi W σ Γ F0 H0 F H _ g.toGood ?_
 unfold dFor at h
 cases ei:I Γ with
 | exc c=>rw [ei] at h; exact fun F' H' e=>h σ F' H' (g.next e)
 | bad=>rw [ei] at h; exact h
 | ok y =>
  rw [ei,after_ok] at h
  intro J F1 H1 e1 it
  cases hy:y.1 with
  | false=>rw [hy] at h; exact h.elim
  | true =>
   rw [hy,if_pos rfl] at h
   rw [hy] at it
   have g1:=(g.next e1).forget ws
   refine ⟨fun i m σ' H'=>m=y.2.length - i∧i≤y.2.length∧∃ Γ' F',GoodS C.K F0 H0 Γ' σ' F' H'∧Same F1 F'∧OutOk C W F0 H0 D (forL pat ws d (y.2.drop i) Γ'),⟨_,rfl,Nat.zero_le _,wipeE Γ ws,F1,g1,Same.refl _,h⟩,?_⟩
   rintro i m σ' H' ⟨rfl,hi,Γ',F',g',sf,ho⟩
   obtain ⟨i1,i2,i3⟩:=it.2 i F' H' sf g'.ext.fh g'.ext.tp fun z=>by cases z
   by_cases hlt:i < y.2.length
   ·refine .inr ⟨i1 hlt,fun σ2 H2=>∃ Γ2 F2,GoodS C.K F0 H0 Γ2 σ2 F2 H2∧Same F1 F2∧OutOk C W F0 H0 D (forL pat ws d (y.2.drop (i+1)) Γ2),fun σ2 H2 hN=>⟨y.2.length - (i+1),by omega,rfl,hlt,hN⟩,fun xv H2 hyl=>?_⟩
    obtain ⟨itm,hit,F2,e3,rx⟩:=i3 xv H2 hlt hyl
    have hd:y.2.drop i=itm :: y.2.drop (i+1):=by
     rw [List.drop_eq_getElem_cons hlt]
     rw [List.getElem?_eq_getElem hlt] at hit
     cases hit
     rfl
    have hfz:=it.1 rfl itm (List.mem_of_getElem? hit)
    rw [hd] at ho
    unfold forL at ho
    have g2:=g'.next e3
    refine qt Γ' σ' F0 H0 F2 H2 itm xv H2 _ g2.toGood (rx H2) ?_
    cases hbp:bindP Γ' itm pat with
    | exc c=>exact (bindP_noexc hbp).elim
    | bad=>rw [hbp] at ho; exact ho.elim
    | ok Γ3 =>
     rw [hbp] at ho
     simp only at ho
     intro σ3 g3 _
     have gs3:GoodS C.K F0 H0 Γ3 σ3 F2 H2:=⟨g3,bindP_nb hfz hbp g2.nb⟩
     refine qb W _ σ3 Γ3 F2 H0 F2 H2 gs3.rebase ?_
     have e2:Ext F0 H0 F2 H2:=gs3.ext
     have sf2:Same F1 F2:=sf.trans e3.ff
     cases eo:d Γ3 with
     | nx Γ4=>rw [eo] at ho; exact fun σ4 F4 H4 g4=>⟨wipeE Γ4 ws,F4,(g4.back e2).forget ws,sf2.trans g4.ext.ff,ho⟩
     | ct Γ4=>rw [eo] at ho; exact fun σ4 F4 H4 g4=>⟨wipeE Γ4 ws,F4,(g4.back e2).forget ws,sf2.trans g4.ext.ff,ho⟩
     | bk Γ4=>rw [eo] at ho; exact fun σ4 F4 H4 g4=>ho σ4 F4 H4 ((g4.back e2).forget ws)
     | rt t p Γr=>rw [eo] at ho; exact fun v F4 H4 e4 r4=>ho v F4 H4 (Ext.back e2 e4) r4
     | exc c Γ4=>rw [eo] at ho; exact fun σ4 F4 H4 g4=>ho σ4 F4 H4 (g4.back e2)
     | bad=>rw [eo] at ho; exact ho.elim
   ·have ein:i=y.2.length:=by omega
    rw [List.drop_eq_nil_of_le (by omega)] at ho
    exact .inl ⟨i2 (by omega),ho σ' F' H' g'⟩
theorem good_mod{i:Nat}{l:List PV}(g:GoodS C.K F0 H0 Γ σ F H)(e:Γ.get i=some (.ow 1,.lst l)):∃ ad vs,σ[i]? = some (some (.ref ad))∧H ad=some (.lst vs)∧RepL C.K F l vs∧F ad=none∧H0 ad=none ∧
  ∀ {F2 H2 l2 vs2},Ext F H F2 H2→RepL C.K F2 l2 vs2→GoodS C.K F0 H0 (Γ.set i (some (.ow 1,.lst l2))) σ F2 (upd H2 ad (.lst vs2))∧H2 ad=some (.lst vs):=by
 obtain ⟨fp,h1,h2⟩:=g.slots
 obtain ⟨v,hv,o,nd,fr⟩:=h1 i _ e
 have hi:i < Γ.length:=by
  cases Nat.lt_or_ge i Γ.length with
  | inl h=>exact h
  | inr h =>
   have:Γ.get i=none:=by unfold En.get; simp [List.getD,List.getElem?_eq_none h]
   rw [this] at e; cases e
 have o':=o
 obtain ⟨l',ad,vs,fps,e0,rfl,h3,h4,h5⟩:=o'.lst
 cases e0
 have hm:ad∈fp i:=by rw [h4]; simp
 obtain ⟨f1,f2⟩:=fr ad hm
 have r1:RepL C.K F l vs:=by
  obtain ⟨ad',vs',e6,e7,e8⟩:=own_one o
  cases e6
  rw [h3] at e7
  cases e7
  exact e8
 refine ⟨ad,vs,hv,h3,r1,f1,f2,fun {F2 H2 l2 vs2} e2 r2=>⟨⟨⟨?_,by rw [List.length_set]; exact g.len,fun j=>if j=i then [ad] else fp j,fun j y hy=>?_,fun i' j a hij ha hb=>?_⟩,nb_set g.nb fun d p h=>by cases h⟩,e2.hh _ _ h3⟩⟩
 ·have f2n:F2 ad=none:=by
   cases q:F2 ad with
   | none=>rfl
   | some o =>
    rcases e2.nw ad (by rw [q]; simp) with z | z
    ·exact (z f1).elim
    ·rw [h3] at z; cases z
  have ee:=g.ext.trans e2
  refine ⟨ee.ff,fun a o z=>?_,fun a o z=>?_,tups_new ee.tp (fun _ z=>by cases z) f2n,ee.nw⟩
  ·rw [upd_ne (ne_of_none z f2)]; exact ee.hh _ _ z
  ·rw [upd_ne (ne_of_none z f2n)]; exact ee.fh _ _ z
 ·rw [get_set] at hy
  by_cases hj:j=i
  ·subst hj
   rw [if_pos ⟨rfl,hi⟩] at hy
   cases hy
   refine ⟨_,hv,?_⟩
   simp only [if_pos]
   have f2n:F2 ad=none:=by
    cases q:F2 ad with
    | none=>rfl
    | some o =>
     rcases e2.nw ad (by rw [q]; simp) with z | z
     ·exact (z f1).elim
     ·rw [h3] at z; cases z
   exact ⟨own_new r2 upd_same,by simp,fun a ha=>by simp at ha; subst ha; exact ⟨f2n,f2⟩⟩
  ·rw [if_neg fun z=>hj z.1] at hy
   obtain ⟨u,h6,h7⟩:=h1 j y hy
   refine ⟨u,h6,?_⟩
   simp only
   rw [if_neg hj]
   have h8:=h7.ext e2
   obtain ⟨t,q⟩:=y
   cases t with
   | fz=>exact h8
   | bw d=>exact (g.nb j d q hy).elim
   | ow d =>
    obtain ⟨z1,z2,z3⟩:=h8
    exact ⟨Own.mono (Same.refl _) d z1 fun a ha=>upd_ne fun z=>by subst z; exact h2 i j a (Ne.symm hj) hm ha,z2,z3⟩
 ·simp only at ha hb
  by_cases h1':i'=i
  ·rw [if_pos h1'] at ha
   rw [if_neg (fun z=>hij (h1'.trans z.symm))] at hb
   simp at ha
   subst ha
   exact h2 i j a (fun z=>hij (h1'.trans z)) hm hb
  ·rw [if_neg h1'] at ha
   by_cases h2':j=i
   ·rw [if_pos h2'] at hb
    simp at hb
    subst hb
    exact h2 i' i a h1' ha hm
   ·rw [if_neg h2'] at hb
    exact h2 i' j a hij ha hb
theorem ds_app (i:Nat) {x:Str} {apos cpos p1:Pos} (he:DE C cm k N sc e A) (hN:N[i]? = some x:=by rfl) (hv:Vis sc x:=by first | exact Or.inl rfl | exact Or.inr (Or.inl rfl) | exact Or.inr (Or.inr rfl)) (hd:(x == ("__debug__":Str))=false:=by decide)
  (hcd:(x == ("__classdict__":Str))=false:=by decide) (hbase:∀ env:PySem.Env,attributeBase (.Name x p1) "append" env (eval (.Name x p1) env)=eval (.Name x p1) env:=by intro _; rfl)
  (hfew:∀ env:PySem.Env,((backTo cpos (starEach [e] env)).all (fun x=>!x.1) && (backToKw cpos (keywordEach [] env)).all (fun x=>x.1.isSome)
   && decide (([e]).length+([]:List Keyword).length+(if ([]:List Keyword).isEmpty then 0 else 1) < 30))=true:=by intro _; rfl)
  (hline:(apos.endLine == cpos.line)=true:=by rfl) (hst:∀ env:PySem.Env,starEach [e] env=(false,eval e env) :: starEach [] env:=by intro _; rfl) (hs:∀ env:PySem.Env,swapsWith (.Call (.Attribute (.Name x p1) "append" apos) [e] [] cpos) none pos.line env=pure false:=by intro _; rfl) :
  DS C cm k N sc (.Expr (.Call (.Attribute (.Name x p1) "append" apos) [e] [] cpos) pos) (dApp i A):=by
 obtain ⟨ta,pa,qa⟩:=he
 refine ⟨fun W=>tDrop (tBM C.K "list" rAppend (tVar i) (tCons (ta W) tNil)),fun X S W T=>by rw [← S.K]; exact ps_expr (pe_bm PySem.F.plainAttrs_list PySem.F.slot_list_append PySem.F.type_list_append mt_append (pe_var (by rw [S.n]; exact hN) (by rw [S.s]; exact hv) hd hcd) (pa_cons (pa X S.toSta W T) pa_nil (hst _)) (hbase _) (hfew _) hline (hst _) rfl) (hs _),fun W D σ Γ F0 H0 F H g h=>?_⟩
 unfold dApp at h
 split at h
 ·rename_i l eg
  obtain ⟨ad,vs,hv',hH,rl,f1,f2,go⟩:=good_mod g eg
  refine ⟨.ref ad,hv',.inl ⟨rfl,vs,SqL.of hH⟩,qa W σ Γ F0 H0 F H _ g.toGood (OutOk.bind g h fun x v F1 H1 ex e1 rv h=>?_)⟩
  cases hp:putV x with
  | exc c=>exact (put_noexc hp).elim
  | bad=>rw [hp] at h; exact h.elim
  | ok p =>
   rw [hp,after_ok] at h
   by_cases hz:l.length < 16777216
   ·rw [if_pos hz] at h
    obtain ⟨F2,e2,r2⟩:=rv.put e1 hp
    obtain ⟨gg,hH2⟩:=go e2 ((rl.mono e2.ff _ _).append (RepL.cons r2 RepL.nil))
    exact ⟨ad,vs,v,rfl,rfl,hH2,by rw [rl.len,← szL_eq]; exact hz,h σ _ _ gg⟩
   ·rw [if_neg hz] at h; exact h.elim
 ·exact h.elim
theorem get_args{n:Nat}{ps:List PV}{i:Nat}{x:TV}(h:En.get (ps.map (fun p=>some (.fz,p))++List.replicate n none) i=some x):∃ p,ps[i]? = some p∧x=(.fz,p):=by
 unfold En.get at h
 rw [List.getD,List.getElem?_append] at h
 split at h
 ·rename_i hl
  rw [List.getElem?_map] at h
  cases q:ps[i]? with
  | none=>rw [q] at h; cases h
  | some p=>rw [q] at h; exact ⟨p,rfl,by cases h; rfl⟩
 ·rename_i hl
  rw [List.getElem?_replicate] at h
  split at h <;> cases h
theorem fn_okF{x:Str}{ad:Addr}{fd:FuncData}{ps:List Str}{n ns j:Nat}{d:ST}(F:Fun C.K x x st ad fd)(S:FnScope N ps (defScope st))(hp:ps.length=n)(hN:N.length=ns)(hm:C.mg x=some (.ref ad))(hb:Binds C.K fd ps [])
  (body:DSs C true j N (defScope st) (defBody st) d):FnOk C.P C.w C.K C.mg C.base (L2.CX C.P C.w) (j+1) ad fd ps (spOf C n (runFn n ns d)):=by
 obtain ⟨tb,pb,qb⟩:=body
 have hnn:n≤ns:=by
  have:=congrArg List.length S.pre
  rw [List.length_take] at this
  omega
 refine F.okX S (fun vs H Q E h=>?_) (fun cdv A outer s H vs Q E hr h=>?_)
 ·obtain ⟨_,_,h1,_⟩:=h
  rw [h1,hp]
 ·obtain ⟨F0,qs,h1,h2,h3,h4,h5⟩:=h
  refine ⟨tb fun cls d _ H=>E cls d H,pb _ ⟨⟨rfl,rfl,rfl,S.nd,fun _=>rfl,fun _=>hr,?_,⟨hr.dp,hr.un⟩⟩,passes_of rfl,fun _ _=>rfl,rfl,rfl⟩ _ (takes_of rfl rfl rfl rfl),?_⟩
  ·have h0:=hr.un
   have h1:(cxOf (L2.CX C.P C.w) C.P C.w C.K C.mg C.base N x (defScope st) ad cdv A outer s H E).A.units+100 < cLine:=by
    show (A.deeper _).units+100 < cLine
    omega
   exact h1
  ·refine qb _ _ _ (qs.map (fun p=>some (.fz,p))++List.replicate (ns - n) none) F0 H F0 H ⟨⟨Ext.refl h2 h3,?_,fun _=>[],fun i y hy=>?_,fun _ _ _ _ h=>by simp at h⟩,fun i d p hy=>?_⟩ ?_
   ·have:=h4.len
    simp [L2.start,hN]
    omega
   ·obtain ⟨p,hp,rfl⟩:=get_args hy
    obtain ⟨v,hv,r⟩:=h4.get hp
    refine ⟨v,?_,r⟩
    unfold L2.start
    rw [List.getElem?_append_left (by rw [List.length_map]; exact (List.getElem?_eq_some_iff.mp hv).1),List.getElem?_map,hv]
    rfl
   ·obtain ⟨p',hp,e⟩:=get_args hy
    cases e
   ·have hl:qs.length=n:=by rw [← h4.len]; exact h1
    unfold runFn at h5
    rw [if_pos hl] at h5
    cases eo:d (qs.map (fun p=>some (.fz,p))++List.replicate (ns - n) none) with
    | nx Γ=>rw [eo] at h5; exact fun σ' F' H' g'=>h5 _ F' H' g'.ext (.fz rep_non)
    | rt t p Γr=>rw [eo] at h5; exact fun v F' H' e r=>h5 v F' H' e r
    | bk Γ=>rw [eo] at h5; exact h5.elim
    | ct Γ=>rw [eo] at h5; exact h5.elim
    | exc c Γ=>rw [eo] at h5; exact fun σ' F' H' g'=>h5 F' H' g'.ext
    | bad=>rw [eo] at h5; exact h5.elim
theorem fn_ok{x:Str}{ad:Addr}{fd:FuncData}{ps:List Str}{n ns j:Nat}{d:ST}(F:Fun C.K x x st ad fd)(S:FnScope N ps (defScope st))(hp:ps.length=n)(hN:N.length=ns)(hm:C.mg x=some (.ref ad))(hb:Binds C.K fd ps [])
  (body:DSs C true j N (defScope st) (defBody st) d):Cal C x n (j+1) (runFn n ns d):=⟨ad,fd,ps,hp,fn_okF F S hp hN hm hb body,F.kp,hb,hm⟩
theorem cal_bad{x:Str}{ad:Addr}{fd:FuncData}{ps:List Str}{n j:Nat}(F:Fun C.K x x st ad fd)(S:FnScope N ps (defScope st))(hp:ps.length=n)(hm:C.mg x=some (.ref ad))(hb:Binds C.K fd ps []):Cal C x n j (fun _=>.bad) :=
 ⟨ad,fd,ps,hp,⟨fun vs H Q E h=>by obtain ⟨_,_,_,_,_,_,h⟩:=h; exact h.elim,fun A outer s H args us vs Q E _ _ _ _ h=>by obtain ⟨_,_,_,_,_,_,h⟩:=h; exact h.elim⟩,F.kp,hb,hm⟩
end
end Vl
end
section
set_option Elab.async false
set_option linter.all false
set_option maxRecDepth 100000
set_option maxHeartbeats 1000000
namespace Vl
open PySem L2 Vm PyProof.Rows
def spLaw(K:PySem.W.Frag):Sp:=fun vs H Q _=>∃ (a:Addr) (ns:List Int),vs=[.ref a]∧SqL K H a (ns.map V.int)∧ns.length≤63∧(∀ z∈ns,Builtin.Int.intBits z≤1048576)∧Only H∧∀ H',Q (.bl true) H'
theorem repL_ints{K:KK}{F:Hp}:∀ ns:List Int,RepL K F (ns.map PV.int) (ns.map V.int)
 | []=>RepL.nil
 | n :: ns=>RepL.cons rep_int (repL_ints ns)
theorem law_end {C:Cn} {k:Nat} {ad:Addr} {fd:FuncData} {f:FN} (h:FnOk C.P C.w C.K C.mg C.base (L2.CX C.P C.w) k ad fd ["script"] (spOf C 1 f))
  (s2:∀ ns:List Int,ns.length≤63→(∀ z∈ns,z.natAbs.log2≤1048576)→f [.lst (ns.map .int)] = .ok (.fz,.bl true)):FnOk C.P C.w C.K C.mg C.base (L2.CX C.P C.w) k ad fd ["script"] (spLaw C.K) :=
 h.imp fun vs H Q E q=>by
  obtain ⟨a,ns,rfl,hS,hl,hb,ho,hq⟩:=q
  refine ⟨H,[.lst (ns.map .int)],rfl,Same.refl _,fun _ _ z=>z,RepL.cons ?_ RepL.nil,?_⟩
  ·unfold Rep
   exact ⟨a,_,rfl,hS,repL_ints ns⟩
  ·rw [s2 ns hl fun z hz=>?_]
   ·intro v F' H' _ r
    have r:=r.ofFz
    unfold Rep at r
    subst r
    exact hq H'
   ·have:=hb z hz
    unfold Builtin.Int.intBits at this
    split at this
    ·rename_i e
     have:z=0:=by simpa using e
     subst this
     decide
    ·omega
theorem cx_no{P:Program}{w:World}{H:Hp}{s:Shared}{e:Value}{s':Shared}(h:L2.CX P w [] H s (fun _ _ _=>False) e s'):False:=by
 obtain ⟨_,_,_,_,_,_,_,_,_,_,_,_,h⟩:=h
 exact h
end Vl
end
section
set_option Elab.async false
set_option linter.all false
set_option maxRecDepth 100000
set_option maxHeartbeats 1000000
namespace Vl
open PySem PySem.Spec L2 Vm PyProof.Rows
inductive Src where | l (a:Addr) | t (a:Addr) | s (x:Str) (k:Tok)
def Src.it(h:Heap)(it:Addr)(i:Nat):Src→Prop
 | .l a=>h.IsListIter it a i
 | .t a=>h.IsTupleIter it a i
 | .s x k=>h.IsStrIter it (strIterType x) x k i
def Src.has(K:PySem.W.Frag)(H:Hp)(vs:List V):Src→Prop
 | .l a=>SqL K H a vs
 | .t a=>SqT K H a vs
 | .s x _=>vs=x.cps.toList.map fun c=>V.str ⟨#[c]⟩
def Src.val:Src→Value
 | .l a=>.ref a
 | .t a=>.ref a
 | .s x k=>.str x k
def Src.ob:Src→Obj
 | .l a=>{ cls:=.type "list_iterator",data:=.fields #[.ref a,.int 0 0] }
 | .t a=>{ cls:=.type "tuple_iterator",data:=.fields #[.ref a,.int 0 0] }
 | .s x k=>{ cls:=.type (strIterType x),data:=.fields #[.str x k,.int 0 0] }
def Src.off(b:Addr):Src→Prop
 | .l a=>a ≠ b
 | .t a=>a ≠ b
 | .s _ _=>True
structure ZOff (z TI TO i1 i2:Addr) (S U:Src):Prop where
 nd:[z,TI,TO,i1,i2].Nodup
 o1:∀ b∈[z,TI,TO,i1,i2],S.off b
 o2:∀ b∈[z,TI,TO,i1,i2],U.off b
theorem ZOff.sep{z TI TO i1 i2:Addr}{S U:Src}(D:ZOff z TI TO i1 i2 S U){fp1 fp2:List Addr}(m1:i1∈fp1)(m2:i2∈fp2)(n1:∀ c,c ≠ i1→S.off c→c ∉ fp1)(n2:∀ c,c ≠ i2→U.off c→c ∉ fp2):ZipSep2 z TI TO i1 i2 fp1 fp2:=by
 have nd:=D.nd
 simp only [List.nodup_cons,List.mem_cons,List.not_mem_nil,not_or,or_false,not_false_eq_true,List.nodup_nil,and_true] at nd
 obtain ⟨⟨a1,a2,a3,a4⟩,⟨b1,b2,b3⟩,⟨c1,c2⟩,d1⟩:=nd
 exact ⟨Ne.symm a1,Ne.symm a2,b1,b2,m1,n1 z a3 (D.o1 z (by simp)),n1 TO c1 (D.o1 TO (by simp)),b3,m2,n2 z a4 (D.o2 z (by simp)),n2 TO c2 (D.o2 TO (by simp)),n2 i1 d1 (D.o2 i1 (by simp)),n1 i2 (Ne.symm d1) (D.o1 i2 (by simp))⟩
end Vl
end
section
set_option Elab.async false
set_option linter.all false
set_option maxRecDepth 100000
set_option maxHeartbeats 1000000
namespace Vl
open PySem L2 Vm PyProof.Rows
def SeqOk(K:KK)(S:Src)(fl:Bool)(l:List PV)(F1 H1:Hp):Prop:=∀ F H,Same F1 F→Same F H→(fl=false→Same H1 H)→∃ vs,S.has K H vs∧RepL K F l vs
theorem SeqOk.weak{K:KK}{S:Src}{fl:Bool}{l:List PV}{F H F' H':Hp}(h:SeqOk K S fl l F H)(e:Ext F H F' H'):SeqOk K S fl l F' H':=fun Fx Hx a b c=>h Fx Hx (e.ff.trans a) b fun z=>e.hh.trans (c z)
theorem SeqOk.false{K:KK}{S:Src}{fl:Bool}{l:List PV}{F H:Hp}(h:SeqOk K S fl l F H):SeqOk K S false l F H:=fun Fx Hx a b c=>h Fx Hx a b fun _=>c rfl
section
variable {C:Cn} {cm:Bool} {k:Nat} {N:List Str} {sc so:Scope} {a b c e tg:Expr} {es:List Expr} {A B:EX} {As:EXs} {T U:TX} {pos p tpos:Pos} {X:Cx} {x:Str} {elts:List Expr} {kk:Nat}
end
end Vl
end
section
set_option Elab.async false
set_option linter.all false
set_option maxRecDepth 100000
set_option maxHeartbeats 1000000
namespace Vl
open PySem L2 Vm PyProof.Rows
section
open PySem.Builtin PySem.Builtin.Str PySem.StrLaws
def occA(L Y:List Nat):Nat→Nat→Nat→Nat→List Nat
 | _,0,_,_=>[]
 | lim,k+1,i,free=>if (0 < lim∧free≤i)∧Y.isPrefixOf (L.drop i)=true then i :: occA L Y (lim - 1) k (i+1) (i+Y.length) else occA L Y lim k (i+1) free
theorem pre_iff{Y S:List Nat}:Y.isPrefixOf S=true ↔ S.take Y.length=Y:=by
 rw [List.isPrefixOf_iff_prefix,List.prefix_iff_eq_take]
 exact ⟨fun h=>h.symm,fun h=>h.symm⟩
theorem at_iff{x y:Str}{i:Nat}(h:i≤x.length):(i+y.length≤x.length∧subAt x y i=true) ↔ y.cps.toList.isPrefixOf (x.cps.toList.drop i)=true:=by
 rw [pre_iff,subAt_eq,beq_iff_eq]
 have e:y.cps.toList.length=y.length:=by simp [Str.length]
 rw [e]
 refine ⟨fun h=>h.2,fun g=>⟨?_,g⟩⟩
 have:=congrArg List.length g
 rw [List.length_take,List.length_drop,e] at this
 have e2:x.cps.toList.length=x.length:=by simp [Str.length]
 omega
theorem occ_run(x y:Str)(limit:Nat):∀ (k i:Nat) (st:Array Nat×Nat),i+k≤x.length+1 →
  (forIn (List.range' i k) st (occBody x y x.length limit)).run.fst.toList=st.fst.toList++occA x.cps.toList y.cps.toList (limit - st.fst.size) k i st.snd
 | 0,i,st,_=>by simp [occA]
 | k+1,i,st,h=>by
  rw [List.range'_succ,List.forIn_cons]
  have hi:=at_iff (x:=x) (y:=y) (i:=i) (by omega)
  unfold occBody occA
  by_cases c:(st.fst.size < limit∧st.snd≤i)∧y.cps.toList.isPrefixOf (x.cps.toList.drop i)=true
  ·have c2:=hi.mpr c.2
   rw [if_pos ⟨⟨c.1,c2.1⟩,c2.2⟩,if_pos ⟨⟨by omega,c.1.2⟩,c.2⟩]
   have ih:=occ_run x y limit k (i+1) (st.fst.push i,i+y.length) (by omega)
   have e:y.cps.toList.length=y.length:=by simp [Str.length]
   rw [e]
   refine Eq.trans ih ?_
   rw [Array.size_push,Array.toList_push,List.append_assoc,Nat.sub_add_eq]
   rfl
  ·have c2:¬ (((st.fst.size < limit∧st.snd≤i)∧i+y.length≤x.length)∧subAt x y i=true):=fun z=>c ⟨z.1.1,hi.mp ⟨z.1.2,z.2⟩⟩
   have c3:¬ ((0 < limit - st.fst.size∧st.snd≤i)∧y.cps.toList.isPrefixOf (x.cps.toList.drop i)=true):=fun z=>c ⟨⟨by omega,z.1.2⟩,z.2⟩
   rw [if_neg c2,if_neg c3]
   exact occ_run x y limit k (i+1) st (by omega)
theorem occ_is(x y:Str)(limit:Nat):occurrences x y 0 x.length limit=occA x.cps.toList y.cps.toList limit (x.length+1) 0 0:=by
 rw [occ_eq,Nat.sub_zero,occ_run x y limit (x.length+1) 0 (#[],0) (by omega)]
 rfl
def tx(l:List Nat):Str:=⟨l.toArray⟩
theorem tx_len(l:List Nat):(tx l).length=l.length:=by simp [tx,Str.length]
theorem glued_is(s:List Nat):∀ (ws:List (List Nat)) (w:List Nat),(List.foldl (fun (acc:Array Nat) (p:Str)=>acc++(tx s).cps++p.cps) w.toArray (ws.map tx)).toList=joinL s (w :: ws)
 | [],w=>by simp [joinL]
 | v :: ws,w=>by
  rw [List.map_cons,List.foldl_cons,joinL]
  have ih:=glued_is s ws (w++s++v)
  have e:(w.toArray++(tx s).cps++(tx v).cps)=(w++s++v).toArray:=by simp [tx]
  rw [e,ih]
  cases ws with
  | nil=>simp [joinL]
  | cons u ws=>simp [joinL]
theorem join_is(s:List Nat)(ws:List (List Nat)):Txt.join (tx s) (ws.map tx)=tx (joinL s ws):=by
 cases ws with
 | nil=>rfl
 | cons w ws =>
  have:=glued_is s ws w
  unfold Txt.join glued
  apply Str.ext'
  apply Array.toList_inj.mp
  simpa [tx] using this
theorem joinL_mem{s:List Nat}:∀ {ws:List (List Nat)} {c:Nat},c∈joinL s ws→c∈s ∨ ∃ w∈ws,c∈w
 | [],c,h=>by simp [joinL] at h
 | [w],c,h=>.inr ⟨w,by simp,by simpa [joinL] using h⟩
 | w :: v :: r,c,h=>by
  rw [joinL,List.mem_append,List.mem_append] at h
  rcases h with (h | h) | h
  ·exact .inr ⟨w,by simp,h⟩
  ·exact .inl h
  ·rcases joinL_mem h with h | ⟨u,hu,h⟩
   ·exact .inl h
   ·exact .inr ⟨u,List.mem_cons_of_mem _ hu,h⟩
theorem joinL_len{s:List Nat}:∀ {ws:List (List Nat)},(joinL s ws).length≤(ws.map (·.length)).sum+ws.length * s.length
 | []=>by simp [joinL]
 | [w]=>by simp [joinL]
 | w :: v :: r=>by
  have:=joinL_len (s:=s) (ws:=v :: r)
  rw [joinL]
  simp only [List.length_append,List.map_cons,List.sum_cons,List.length_cons,Nat.add_mul,Nat.one_mul] at this ⊢
  omega
theorem first_occ(c:Nat)(Y:List Nat)(hY:Y=[c])(L:List Nat):∀ (S:List Nat) (i:Nat),L.drop i=S→(occA L Y 1 (S.length+1) i 0).head? = (firstIx (· == c) S).map (· + i)
 | [],i,hS=>by
  unfold occA
  rw [if_neg fun z=>by have:=z.2; rw [hS,hY] at this; cases this]
  rfl
 | d :: S,i,hS=>by
  have hS':L.drop (i+1)=S:=by rw [← List.drop_drop,hS]; rfl
  rw [List.length_cons]
  unfold occA firstIx
  by_cases h:d=c
  ·rw [if_pos ⟨⟨by omega,by omega⟩,by rw [hS,hY,h]; simp⟩,if_pos (by simpa using h)]
   simp
  ·rw [if_neg fun z=>by have:=z.2; rw [hS,hY] at this; simp at this; exact h this.symm,if_neg (by simpa using h)]
   rw [first_occ c Y hY L S (i+1) hS']
   cases firstIx (· == c) S with
   | none=>rfl
   | some k=>simp; omega
theorem index_is(l:List Nat)(c:Nat):Txt.index0 (tx l) (tx [c])=firstIx (· == c) l:=by
 unfold Txt.index0
 rw [occ_is]
 have:=first_occ c [c] rfl l l 0 (by simp)
 rw [tx_len]
 simpa [tx] using this
end
end Vl
end
section
set_option Elab.async false
set_option linter.all false
set_option maxRecDepth 100000
set_option maxHeartbeats 1000000
namespace Vl
open PySem L2 Vm PyProof.Rows
section
variable {C:Cn} {cm:Bool} {k:Nat} {N:List Str} {sc so:Scope} {a b c e tg:Expr} {es:List Expr} {A B:EX} {As:EXs} {T U:TX} {pos p tpos:Pos} {X:Cx} {x:Str} {elts:List Expr} {kk:Nat}
theorem de_b2 {bid:String} {f:PV→PV→Res PV} {r:List V→Hp→VK→Prop} (hc:∀ X,Sta C cm k N sc X→CallR X (.builtin bid) r)
  (hr:∀ p q v u H Q,Rep C.K H p v→Rep C.K H q u→match f p q with
   | .ok z=>((∀ F,Rep C.K F z (toV z))→Q (toV z) H)→r [v,u] H Q
   | .exc _=>False
   | .bad=>True) (mx:C.mg x=none) (hv:bootBuiltins x=some (.builtin bid)) (hn:x ≠ "__name__") (hdb:(x == ("__debug__":Str))=false)
  (ha:DE C cm k N sc a A) (hb:DE C cm k N sc b B) (hg:sc.names.lookup x=some .globalImplicit)
  (hst:∀ env:PySem.Env,starEach [a,b] env=(false,eval a env) :: starEach [b] env) (hst2:∀ env:PySem.Env,starEach [b] env=(false,eval b env) :: starEach [] env)
  (hpl:∀ env:PySem.Env,(backTo pos (starEach [b] env)).any (·.1)=false):DE C cm k N sc (.Call (.Name x p) [a,b] [] pos) (eOp2 f A B):=by
 obtain ⟨ta,pa,qa⟩:=ha
 obtain ⟨tb,pb,qb⟩:=hb
 refine ⟨fun W=>tCB r (tCons (ta W) (tCons (tb W) tNil)),fun X S W T=>pe_callB (hc X S) (S.gl hg) (by rw [S.mg]; exact mx) hv (pa_cons (pa X S W T) (pa_cons (pb X S W T) pa_nil (hst2 _)) (hst _)) hn hdb (hst _) (hpl _),fun W σ Γ F0 H0 F H Q g h=>?_⟩
 refine qa W σ Γ F0 H0 F H _ g (EOk.bind h fun x v F1 H1 ex e1 r1 h1=>?_)
 refine qb W σ Γ F0 H0 F1 H1 _ (g.next e1) (EOk.bind (h1.next e1) fun y u F2 H2 ey e2 r2 h2=>?_)
 have q:=hr x.2 y.2 v u H2 Q ((r1.ext e2).rep e2.fh) (r2.rep e2.fh)
 cases e:f x.2 y.2 with
 | ok z =>
  rw [e] at q h2
  exact q fun rz=>(h2.next e2).fzv (Ext.refl e2.fh e2.tp) z (toV z) rfl (rz _)
 | exc c=>rw [e] at q; exact q.elim
 | bad=>rw [e] at h2; exact h2.elim
theorem de_min2 (ha:DE C true k N sc a A) (hb:DE C true k N sc b B) (mx:C.mg "min" = none) (hg:sc.names.lookup ("min":Str)=some .globalImplicit:=by rfl)
  (hst:∀ env:PySem.Env,starEach [a,b] env=(false,eval a env) :: starEach [b] env:=by intro _; rfl) (hst2:∀ env:PySem.Env,starEach [b] env=(false,eval b env) :: starEach [] env:=by intro _; rfl)
  (hpl:∀ env:PySem.Env,(backTo pos (starEach [b] env)).any (·.1)=false:=by intro _; rfl):DE C true k N sc (.Call (.Name "min" p) [a,b] [] pos) (eOp2 opMin2 A B) :=
 de_b2 (fun X S=>call_min2 (S.c rfl)) (fun p q v u H Q rp rq=>by
  cases p <;> cases q <;> simp only [opMin2] <;> (try trivial)
  unfold Rep at rp rq
  subst rp rq
  exact fun h=>⟨_,_,rfl,h fun F=>rep_int⟩) mx (by decide +kernel) (by decide) (by decide) ha hb hg hst hst2 hpl
end
end Vl
end
section
set_option Elab.async false
set_option linter.all false
set_option maxRecDepth 100000
set_option maxHeartbeats 1000000
namespace Vl
open PySem L2 Vm PyProof.Rows
theorem strsOf_is:∀ {l:List PV} {ws:List (List Nat)},strsOf l=some ws→l=ws.map .str
 | [],ws,h=>by cases h; rfl
 | p :: l,ws,h=>by
  cases p <;> simp only [strsOf] at h <;> try (cases h; done)
  cases hs:strsOf l with
  | none=>rw [hs] at h; cases h
  | some us =>
   rw [hs] at h
   cases h
   rw [strsOf_is hs]
   rfl
theorem repL_strs_of{K:KK}{F:Hp}:∀ {ws:List (List Nat)} {vs:List V},RepL K F (ws.map PV.str) vs→vs=(ws.map tx).map V.str∧∀ w∈ws,strG w=true
 | [],vs,h=>by unfold RepL at h; exact ⟨h,fun _ z=>by cases z⟩
 | w :: ws,vs,h=>by
  rw [List.map_cons] at h
  unfold RepL at h
  obtain ⟨v,r,rfl,h1,h2⟩:=h
  unfold Rep at h1
  obtain ⟨rfl,hg⟩:=h1
  obtain ⟨rfl,h3⟩:=repL_strs_of h2
  exact ⟨rfl,fun u hu=>(List.mem_cons.mp hu).elim (fun z=>z ▸ hg) (h3 u)⟩
theorem strG_join{s:List Nat}{ws:List (List Nat)}(hs:strG s=true)(hw:∀ w∈ws,strG w=true)(hz:(ws.map (·.length)).sum+ws.length * s.length≤16777216):strG (joinL s ws)=true:=by
 unfold strG
 rw [Bool.and_eq_true,decide_eq_true_eq,List.all_eq_true]
 refine ⟨Nat.le_trans joinL_len hz,fun c hc=>?_⟩
 have all:∀ {l:List Nat},strG l=true→∀ c∈l,decide (c < 1114112)=true:=fun {l} h c hc=>by
  unfold strG at h
  rw [Bool.and_eq_true,List.all_eq_true] at h
  exact h.2 c hc
 rcases joinL_mem hc with h | ⟨w,hw',h⟩
 ·exact all hs c h
 ·exact all (hw w hw') c h
section
variable {C:Cn} {cm:Bool} {k:Nat} {N:List Str} {sc so:Scope} {a b c e o tg:Expr} {es:List Expr} {A B:EX} {As:EXs} {T U:TX} {pos p tpos apos cpos:Pos} {X:Cx} {x:Str} {elts:List Expr} {kk:Nat}
theorem de_txt{name:Str}{f:List Nat→TV→Res TV}{r:V→List V→Hp→VK→Prop}(hp:∀ X,Sta C cm k N sc X→∀ ta tb:TE,PE X o ta→PE X e tb→PE X (.Call (.Attribute o name apos) [e] [] pos) (tM1 r ta tb))
  (hr:∀ W σ (s:List Nat) y u F H Hs Q,Same F H→Tups F H→strG s=true→RV C.K F H Hs y u→Same Hs H→EOk C W σ F H Q (f s y)→r (.str (tx s)) [u] H Q)(ho:DE C cm k N sc o A)(he:DE C cm k N sc e B):DE C cm k N sc (.Call (.Attribute o name apos) [e] [] pos) (eTxt f A B):=by
 obtain ⟨ta,pa,qa⟩:=ho
 obtain ⟨tb,pb,qb⟩:=he
 refine ⟨fun W=>tM1 r (ta W) (tb W),fun X S W T=>hp X S _ _ (pa X S W T) (pb X S W T),fun W σ Γ F0 H0 F H Q g h=>?_⟩
 refine qa W σ Γ F0 H0 F H _ g (EOk.bind h fun x v F1 H1 ex e1 r1 h1=>?_)
 obtain ⟨t,q⟩:=x
 cases q with
 | str s =>
  have r:=r1.rep e1.fh
  unfold Rep at r
  obtain ⟨rfl,hg⟩:=r
  refine ⟨⟨_,rfl⟩,?_⟩
  refine qb W σ Γ F0 H0 F1 H1 _ (g.next e1) (EOk.bind (h1.next e1) fun y u F2 H2 ey e2 r2 h2=>?_)
  exact hr W σ s y u F2 H2 H1 Q e2.fh e2.tp hg r2 e2.hh (h2.next e2)
 | _=>exact h1.elim
def rJoinS(K:PySem.W.Frag):V→List V→Hp→VK→Prop:=fun x xs H Q=>∃ a p,∃ ys:List Str,x = .str a∧xs=[.ref p]∧(SqL K H p (ys.map V.str) ∨ SqT K H p (ys.map V.str))∧(ys.map (·.length)).sum+ys.length * a.length≤16777216∧Q (.str (Txt.join a ys)) H
theorem de_join (ho:DE C cm k N sc o A) (he:DE C cm k N sc e B) (hs:∀ env:PySem.Env,starEach [e] env=[(false,eval e env)]:=by intro _; rfl) (hbase:∀ env:PySem.Env,attributeBase o "join" env (eval o env)=eval o env:=by intro _; rfl)
  (hline:(apos.endLine == pos.line)=true:=by rfl):DE C cm k N sc (.Call (.Attribute o "join" apos) [e] [] pos) (eTxt joinV A B) :=
 de_txt (r:=rJoinS C.K) (fun X S ta tb pa pb=>by rw [← S.K]; exact pe_join pa pb (hs _) (hbase _) hline) (fun W σ s y u F H Hs Q hf ht hg r2 _ h=>by
  obtain ⟨t',q'⟩:=y
  have r:=r2.rep hf
  have fin:∀ {l:List PV} {vs:List V} {ad:Addr},listOf q'=some l→RepL C.K H l vs→u = .ref ad→(SqL C.K H ad vs ∨ SqT C.K H ad vs)→rJoinS C.K (.str (tx s)) [u] H Q:=fun {l vs ad} el rl eu sq=>by
   unfold joinV at h
   simp only [el] at h
   cases hst:strsOf l with
   | none=>rw [hst] at h; exact h.elim
   | some ws =>
    rw [hst] at h
    simp only at h
    by_cases hz:(ws.map (·.length)).sum+ws.length * s.length≤16777216
    ·rw [if_pos hz] at h
     rw [strsOf_is hst] at rl
     obtain ⟨rfl,hw⟩:=repL_strs_of rl
     refine ⟨tx s,ad,ws.map tx,rfl,by rw [eu],sq,?_,?_⟩
     ·rw [List.map_map,List.length_map,tx_len]
      have e:((fun x:Str=>x.length) ∘ tx)=fun l:List Nat=>l.length:=funext tx_len
      rw [e]
      exact hz
     ·rw [join_is]
      exact h _ F H (Ext.refl hf ht) (.fz (rep_str (strG_join hg hw hz)))
    ·rw [if_neg hz] at h; exact h.elim
  cases q' with
  | lst l =>
   obtain ⟨ad,vs,eu,s2,r3⟩:=rep_lst r
   exact fin rfl r3 eu (.inl s2)
  | tup l =>
   obtain ⟨ad,vs,eu,s2,r3⟩:=rep_tup r
   exact fin rfl r3 eu (.inr ((TupAt.sq s2)))
  | _=>exact h.elim) ho he
def rIndexS:V→List V→Hp→VK→Prop:=fun x xs H Q=>∃ a c,x = .str a∧xs=[.str (tx [c])]∧∃ k:Nat,Txt.index0 a (tx [c])=some k∧Q (.int k) H
theorem de_indexS (ho:DE C true k N sc o A) (he:DE C true k N sc e B) (hs:∀ env:PySem.Env,starEach [e] env=[(false,eval e env)]:=by intro _; rfl) (hbase:∀ env:PySem.Env,attributeBase o "index" env (eval o env)=eval o env:=by intro _; rfl)
  (hline:(apos.endLine == pos.line)=true:=by rfl):DE C true k N sc (.Call (.Attribute o "index" apos) [e] [] pos) (eTxt indexSV A B) :=
 de_txt (r:=rIndexS) (fun X S ta tb pa pb=>pe_m1 PySem.F.slot_str_index PySem.F.type_str_index (fun pins s σ H x vs v us Q I rx rv h=>by
  obtain ⟨a,c,rfl,rfl,j,hj,q⟩:=h
  exact mt_indexX (W:=fun _ _ _ _=>False) (S.c rfl) takes0 pins s σ H _ _ v us Q I rx rv ⟨a,tx [c],rfl,rfl,fun k hk=>by rw [hj] at hk; cases hk; exact q,fun z=>by rw [hj] at z; cases z⟩) pa pb (hs _) (hbase _) hline) (fun W σ s y u F H Hs Q hf ht hg r2 _ h=>by
  have r:=r2.rep hf
  obtain ⟨t',q'⟩:=y
  cases q' with
  | str Y =>
   unfold Rep at r
   obtain ⟨rfl,hg2⟩:=r
   match Y,h with
   | [c],h =>
    have h3:EOk C W σ F H Q (match firstIx (· == c) s with
     | some k=>.ok (.fz,.int k)
     | none=>.bad):=h
    cases hf1:firstIx (· == c) s with
    | none=>rw [hf1] at h3; exact h3.elim
    | some j =>
     rw [hf1] at h3
     exact ⟨tx s,c,rfl,rfl,j,by rw [index_is,hf1],h3 _ F H (Ext.refl hf ht) (.fz rep_int)⟩
   | [],h=>exact h.elim
   | _ :: _ :: _,h=>exact h.elim
  | _=>exact h.elim) ho he
end
end Vl
end
section
set_option Elab.async false
set_option linter.all false
set_option maxRecDepth 100000
set_option maxHeartbeats 1000000
namespace Vl
open PySem L2 Vm PyProof.Rows
section
open PySem.AutoSeq1
end
section
variable {C:Cn} {cm:Bool} {k:Nat} {N:List Str} {sc so:Scope} {a b c e o tg:Expr} {es:List Expr} {A B:EX} {As:EXs} {T U:TX} {pos p tpos apos cpos p1:Pos} {X:Cx} {x:Str} {elts:List Expr} {kk:Nat}
end
end Vl
end
section
set_option Elab.async false
set_option linter.all false
set_option maxRecDepth 100000
set_option maxHeartbeats 1000000
namespace Vl
open PySem L2 Vm PyProof.Rows
def Xc(C:Cn)(c:Nat):Prop:=∃ a:Addr,C.mg (xName c)=some (.ref a)∧PySem.W.excIn C.K a [.type "ValueError",.type "Exception",.type "BaseException",.type "object"] "ValueError.__new__" = true∧PySem.W.keepIn C.K (.ref a)=true ∧
 PySem.W.subIn C.K (.ref a) (.type "BaseException")=some true∧PySem.W.typeIn C.K (.ref a)=some (.type "type")
section
variable {C:Cn} {cm:Bool} {k:Nat} {N:List Str} {sc so:Scope} {a b c e o tg:Expr} {es:List Expr} {A B:EX} {As:EXs} {T U:TX} {pos p tpos apos cpos p1:Pos} {X:Cx} {x:Str} {elts:List Expr} {kk:Nat}
theorem ds_raise {i:Nat} {m:Str} {j:Nat} {p2 pos':Pos} (xc:Xc C i) (hg:sc.names.lookup (xName i)=some .globalImplicit:=by rfl) (hdb:(xName i == ("__debug__":Str))=false:=by decide) :
  DS C true k N sc (.Raise (some (.Call (.Name (xName i) p) [.Constant (.str m) j p2] [] pos)) none pos') (dRaise i):=by
 obtain ⟨ad,h1,h2,h3,h4,h5⟩:=xc
 have e:C.xc i = .ref ad:=by show (C.mg (xName i)).getD .none=_; rw [h1]; rfl
 refine ⟨fun W _ σ H=>W (.ref ad) none σ H,fun X S W T=>?_,fun W D σ Γ F0 H0 F H g h=>?_⟩
 ·exact ps_raise (S.c rfl) T (pmk_own PySem.F.excBase_ValueError (by rw [S.K]; exact h2) (by rw [S.toSta.mg]; exact h1) (by rw [S.K]; exact h3) (raises_own (by rw [S.K]; exact h4) (by rw [S.K]; exact h5)) (S.toSta.gl hg) hdb)
 ·have:=h σ F H g
  rw [e] at this
  exact this
end
end Vl
end
section
set_option Elab.async false
set_option linter.all false
set_option maxRecDepth 100000
set_option maxHeartbeats 1000000
namespace Vl
open PySem L2 Vm PyProof.Rows
theorem firstIx_spec{α:Type}{p:α→Bool}:∀ {l:List α} {k:Nat},firstIx p l=some k→(∃ x,l[k]? = some x∧p x=true)∧∀ m x,m < k→l[m]? = some x→p x=false
 | [],k,h=>by cases h
 | y :: l,k,h=>by
  unfold firstIx at h
  by_cases hp:p y=true
  ·rw [if_pos hp] at h
   cases h
   exact ⟨⟨y,rfl,hp⟩,fun m x hm=>by omega⟩
  ·rw [if_neg hp] at h
   cases hf:firstIx p l with
   | none=>rw [hf] at h; cases h
   | some j =>
    rw [hf] at h
    cases h
    obtain ⟨⟨x,hx,hpx⟩,h2⟩:=firstIx_spec hf
    refine ⟨⟨x,by simpa using hx,hpx⟩,fun m z hm hz=>?_⟩
    cases m with
    | zero =>
     have:y=z:=by simpa using hz
     subst this
     exact Bool.eq_false_iff.mpr hp
    | succ m=>exact h2 m z (Nat.lt_of_succ_lt_succ hm) (by simpa using hz)
section
variable {C:Cn} {cm:Bool} {k:Nat} {N:List Str} {sc so:Scope} {a b c e o tg:Expr} {es:List Expr} {A B:EX} {As:EXs} {T U:TX} {pos p tpos apos cpos p1:Pos} {X:Cx} {x:Str} {elts:List Expr} {kk:Nat}
end
end Vl
end
section
set_option Elab.async false
set_option linter.all false
set_option maxRecDepth 100000
set_option maxHeartbeats 1000000
namespace Vl
open PySem PySem.Calls PySem.W L2 Vm PyProof.Rows
theorem shpL_mem{n:Nat}:∀ {l:List PV} {p:PV},shpL n l=true→p∈l→shp n p=true
 | x :: xs,p,h,hp=>by
  rw [shpL,Bool.and_eq_true] at h
  rcases List.mem_cons.mp hp with e | hp
  ·rw [e]; exact h.1
  ·exact shpL_mem h.2 hp
section
variable {X:Cx}
end
section
variable {C:Cn} {cm:Bool} {k:Nat} {N:List Str} {sc so:Scope} {a b c e o tg:Expr} {es:List Expr} {A B:EX} {As:EXs} {T U:TX} {pos p tpos apos cpos p1 kpos:Pos} {X:Cx} {x:Str} {elts:List Expr} {kk:Nat}
end
section
variable {C:Cn} {cm:Bool} {k:Nat} {N:List Str} {sc so:Scope} {a b c e o tg:Expr} {es:List Expr} {A B:EX} {As:EXs} {T U:TX} {pos p tpos apos cpos p1 kpos:Pos} {X:Cx} {x:Str} {elts:List Expr} {kk:Nat}
end
end Vl
end
section
set_option Elab.async false
set_option linter.all false
set_option maxRecDepth 100000
set_option maxHeartbeats 1000000
namespace HT
open PySem PySem.Spec PyProof.Rows L2
section
variable {prog:Program} {w:World} {A:Around} {E:Value→Shared→Prop} {s:Shared}
end
end HT
namespace Vl
open PySem L2 Vm PyProof.Rows
section
variable {X:Cx}
end
section
variable {C:Cn} {cm:Bool} {k:Nat} {N:List Str} {sc so:Scope} {a b c e o tg:Expr} {es:List Expr} {A B E:EX} {As:EXs} {T U:TX} {pos p tpos apos cpos p1 p2 p3 kpos:Pos} {X:Cx} {x:Str} {elts:List Expr} {kk:Nat}
theorem de_chain{op op':CmpOp}{r r':R2}{f f':PV→PV→Res PV}(ho:∀ X,Sta C cm k N sc X→OpR X (compareOp op) r)(ho':∀ X,Sta C cm k N sc X→OpR X (compareOp op') r')(h1:Op2 C r f)(h2:Op2 C r' f')
  (hf:∀ p q z,f p q = .ok z→∃ b:Bool,z = .bl b)
  (ha:DE C cm k N sc a A)(hb:DE C cm k N sc b B)(hc:DE C cm k N sc c E)(hm:lastMarks [op,op'] [b,c]=false:=by with_unfolding_all rfl):DE C cm k N sc (.Compare a [op,op'] [b,c] pos) (eChain f f' A B E):=by
 obtain ⟨ta,pa,qa⟩:=ha
 obtain ⟨tb,pb,qb⟩:=hb
 obtain ⟨tc,pc,qc⟩:=hc
 refine ⟨fun W=>tChain r r' (ta W) (tb W) (tc W),fun X S W T=>pe_chain (ho X S) (ho' X S) (pa X S W T) (pb X S W T) (pc X S W T) hm,fun W σ Γ F0 H0 F H Q g h=>?_⟩
 unfold eChain at h
 refine qa W σ Γ F0 H0 F H _ g (EOk.bind h fun x v F1 H1 ex e1 r1 h1'=>?_)
 refine qb W σ Γ F0 H0 F1 H1 _ (g.next e1) (EOk.bind (h1'.next e1) fun y u F2 H2 ey e2 r2 h2'=>?_)
 have q:=h1 x.2 y.2 v u H2 (fun z H3=>∃ k,z = .bl k∧(if k=true then tc W σ H3 fun w' H4=>r' u w' H4 Q else Q (.bl false) H3)) ((r1.ext e2).rep e2.fh) (r2.rep e2.fh)
 cases ez:f x.2 y.2 with
 | ok z =>
  rw [ez] at q h2'
  obtain ⟨bb,rfl⟩:=hf _ _ _ ez
  refine q fun rz=>⟨bb,rfl,?_⟩
  have g2:=(g.next e1).next e2
  have h3:=h2'.next e2
  cases bb with
  | false=>exact iteF (h3 _ F2 H2 (Ext.refl e2.fh e2.tp) (.fz rep_bl))
  | true =>
   refine iteT (qc W σ Γ F0 H0 F2 H2 _ g2 (EOk.bind h3 fun w u2 F3 H3 ew e3 r3 h3'=>?_))
   have q2:=h2 y.2 w.2 u u2 H3 Q ((r2.ext e3).rep e3.fh) (r3.rep e3.fh)
   cases ew':f' y.2 w.2 with
   | ok z =>
    rw [ew'] at q2 h3'
    exact q2 fun rz=>(h3'.next e3).fzv (Ext.refl e3.fh e3.tp) z (toV z) rfl (rz _)
   | exc c=>rw [ew'] at q2; exact q2.elim
   | bad=>rw [ew'] at h3'; exact h3'.elim
 | exc c=>rw [ez] at q; exact q.elim
 | bad=>rw [ez] at h2'; exact h2'.elim
structure CmpI (C:Cn) (cm:Bool) (k:Nat) (N:List Str) (sc:Scope) (op:CmpOp) (f:PV→PV→Res PV):Prop where
 x:∃ r,(∀ X,Sta C cm k N sc X→OpR X (compareOp op) r)∧Op2 C r f
 b:∀ p q z,f p q = .ok z→∃ b:Bool,z = .bl b
theorem cmp_le:CmpI C cm k N sc .LtE opLe:=⟨⟨_,fun X S=>op_le,op2_le⟩,by intro p q z h; cases p <;> cases q <;> first | (cases h; exact ⟨_,rfl⟩) | cases h⟩
theorem de_chainI{op op':CmpOp}{f f':PV→PV→Res PV}(h1:CmpI C cm k N sc op f)(h2:CmpI C cm k N sc op' f')(ha:DE C cm k N sc a A)(hb:DE C cm k N sc b B)(hc:DE C cm k N sc c E)(hm:lastMarks [op,op'] [b,c]=false:=by with_unfolding_all rfl):DE C cm k N sc (.Compare a [op,op'] [b,c] pos) (eChain f f' A B E):=by
 obtain ⟨r,o1,o2⟩:=h1.x
 obtain ⟨r',o3,o4⟩:=h2.x
 exact de_chain o1 o3 o2 o4 h1.b ha hb hc hm
end
end Vl
end
section
set_option Elab.async false
set_option linter.all false
set_option maxRecDepth 100000
set_option maxHeartbeats 1000000
namespace Vl
open PySem L2 Vm PyProof.Rows
section
variable {C:Cn} {cm:Bool} {k:Nat} {N:List Str} {sc so:Scope} {a b c e o tg:Expr} {es:List Expr} {A B E:EX} {As:EXs} {T U:TX} {pos p tpos apos cpos p1 p2 p3 kpos:Pos} {X:Cx} {x:Str} {elts:List Expr} {kk:Nat}
end
end Vl
end
section
set_option Elab.async false
set_option linter.all false
set_option maxRecDepth 100000
set_option maxHeartbeats 1000000
namespace L2
open PySem PySem.Spec PyProof.Rows
section
variable {X:Cx}
end
end L2
namespace Vl
open PySem L2 Vm PyProof.Rows
section
variable {C:Cn} {cm:Bool} {k:Nat} {N:List Str} {sc:Scope} {a b:Expr} {A B:EX} {pos:Pos} {X:Cx}
end
end Vl
end
section
set_option Elab.async false
set_option linter.all false
set_option maxRecDepth 100000
set_option maxHeartbeats 1000000
namespace Vl
open PySem L2 Vm PyProof.Rows
section
variable {C:Cn} {cm:Bool} {k:Nat} {N:List Str} {sc:Scope} {a b:Expr} {A B:EX} {pos:Pos} {X:Cx}
end
end Vl
end
section
set_option Elab.async false
set_option linter.all false
set_option maxRecDepth 100000
set_option maxHeartbeats 1000000
namespace Vl
open PySem L2 Vm PyProof.Rows
section
variable {C:Cn} {cm:Bool} {k:Nat} {N:List Str} {sc:Scope} {pos np pos':Pos} {X:Cx} {d e:ST} {body suite:List Stmt} {b₀:Stmt}
def Xs(C:Cn)(j:Nat)(cs:List (Nat×Bool)):Prop:=∃ ad:Addr,C.mg (xName j)=some (.ref ad)∧∀ c b,takesC cs c=some b→PySem.W.exmOne C.K (C.xc c) (.ref ad)=some b
theorem sta_tr{pn:List (Addr×Obj)}{xe:Value→Shared→Prop}(S:StaS C cm k N sc X)(hp:PassesOwn (model X.prog X.w) X.A X.env xe):StaS C cm k N sc (X.tr pn xe) :=
 ⟨⟨S.cn,S.n,S.s,S.nd,S.c,S.r,S.u,S.rh⟩,hp,S.rq,S.sk,S.fr⟩
theorem sta_suite{a:Addr}{pn:List (Addr×Obj)}(S:StaS C cm k N sc X):StaS C false k N sc (X.suite a pn) :=
 ⟨⟨S.cn,S.n,S.s,S.nd,(fun h=>nomatch h),(fun h=>nomatch h),S.u,⟨S.rh.dp,S.rh.un⟩⟩,PassesOwn.never,S.rq,S.sk,S.fr⟩
theorem ds_try {j:Nat} {cs:List (Nat×Bool)} (hx:Xs C j cs) (hb:DSs C cm k N sc body d) (hh:DSs C false k N sc (b₀ :: suite) e) (hg:sc.names.lookup (xName j)=some .globalImplicit:=by rfl) (hdb:(xName j == ("__debug__":Str))=false:=by decide) :
  DS C cm k N sc (.Try body [.ExceptHandler (some (.Name (xName j) np)) none (b₀ :: suite) pos'] [] [] pos) (dTry1 cs d e):=by
 obtain ⟨tb,pb,qb⟩:=hb
 obtain ⟨ts,ps,qs⟩:=hh
 obtain ⟨ad,h1,h2⟩:=hx
 refine ⟨fun W D σ H=>tb (wOnly C.K (.ref ad) (fun _ _ _=>ts fun _ _ _ _=>False) W D) D σ H,fun X S W T=>?_,fun W D σ Γ F0 H0 F H g h=>?_⟩
 ·have hK:X.K=C.K:=congrArg (fun C=>C.K.fr) S.cn
  have hm:X.mg=C.mg:=congrArg Cn.mg S.cn
  rw [← hK]
  refine ps_try_only S.sk S.fr ⟨?_,hdb,.inl (by rw [hm]; exact h1)⟩ T (fun W' pn xe tk hp=>pb _ (sta_tr S hp) _ tk) (fun a oe cls dd pn _ _=>ps _ (sta_suite S) _ (fun u s' xx=>?_))
  ·show X.env.scope.names.lookup (xName j)=some .globalImplicit
   rw [S.s]
   exact hg
  ·obtain ⟨_,_,_,_,_,_,_,_,_,_,_,_,_,_,_,_,w⟩:=xx
   exact w
 ·refine qb _ D σ Γ F0 H0 F H g ?_
  have h:OutOk C W F0 H0 D (dTry1 cs d e Γ):=h
  unfold dTry1 at h
  cases eo:d Γ with
  | nx Γ'=>rw [eo] at h; exact h
  | rt t p Γr=>rw [eo] at h; exact h
  | bk Γ'=>rw [eo] at h; exact h
  | ct Γ'=>rw [eo] at h; exact h
  | bad=>rw [eo] at h; exact h
  | exc c Γ' =>
   rw [eo] at h
   simp only at h
   intro σ' F' H' g'
   cases et:takesC cs c with
   | none=>rw [et] at h; exact h.elim
   | some b =>
    refine ⟨b,h2 c b et,fun hb _ _=>?_,fun hb=>?_⟩
    ·subst hb
     rw [et] at h
     simp only at h
     refine qs _ D σ' Γ' F0 H0 F' H' g' ?_
     cases eh:e Γ' with
     | exc c2 Γ2=>rw [eh] at h; exact h.elim
     | nx Γ2=>rw [eh] at h; exact h
     | rt t p Γr=>rw [eh] at h; exact h
     | bk Γ2=>rw [eh] at h; exact h
     | ct Γ2=>rw [eh] at h; exact h
     | bad=>rw [eh] at h; exact h
    ·subst hb
     rw [et] at h
     exact h σ' F' H' g'
def XsA(C:Cn)(ad:Addr)(cs:List (Nat×Bool)):Prop:=∀ c b,takesC cs c=some b→PySem.W.exmOne C.K (C.xc c) (.ref ad)=some b
theorem XsA.nil{ad:Addr}:XsA C ad []:=fun c b h=>by cases h
theorem XsA.cons{ad a:Addr}{c:Nat}{b:Bool}{cs:List (Nat×Bool)}(hc:C.mg (xName c)=some (.ref a))(hx:PySem.W.exmOne C.K (.ref a) (.ref ad)=some b)(r:XsA C ad cs):XsA C ad ((c,b) :: cs):=fun c' b' h=>by
 unfold takesC at h
 by_cases e:c=c'
 ·subst e
  rw [List.find?_cons_of_pos (by simp)] at h
  cases h
  have e2:C.xc c = .ref a:=by show (C.mg (xName c)).getD .none=_; rw [hc]; rfl
  rw [e2]; exact hx
 ·rw [List.find?_cons_of_neg (by simpa using e)] at h
  exact r c' b' h
theorem Xs.of{ad:Addr}{j:Nat}{cs:List (Nat×Bool)}(h:C.mg (xName j)=some (.ref ad))(r:XsA C ad cs):Xs C j cs:=⟨ad,h,r⟩
end
end Vl
end
section
set_option linter.all false
set_option maxHeartbeats 1000000
namespace Vm
def isC(tab:List (Nat×Bool))(c:Nat):Bool:=((takesC tab c).getD false)
def isCs(tabs:List (List (Nat×Bool)))(c:Nat):Bool:=tabs.any fun t=>isC t c
@[simp] def eIsC (tab:List (Nat×Bool)) (c:Nat):EX:=fun _=>.ok (.fz,.bl (isC tab c))
@[simp] def eIsCs (tabs:List (List (Nat×Bool))) (c:Nat):EX:=fun _=>.ok (.fz,.bl (isCs tabs c))
@[simp] def dTryC (cs:List (Nat×Bool)) (i:Nat) (b:ST) (h:Nat→ST):ST:=fun Γ=>match b Γ with
 | .exc c Γ'=>match takesC cs c with
  | some true=>if Nat.ble (i+1) Γ'.length then match h c (Γ'.set i none) with
   | .nx Γ2=>.nx (Γ2.set i none)
   | _=>.bad
   else .bad
  | some false=>.exc c Γ'
  | none=>.bad
 | o=>o
@[simp] def dRetF (e:EX):ST:=fun Γ=>aft (e Γ) Γ fun x=>aft (putV x) Γ fun p=>.rt .fz p Γ
end Vm
end
section
set_option Elab.async false
set_option linter.all false
set_option maxRecDepth 100000
set_option maxHeartbeats 1000000
namespace Vl
open PySem L2 Vm PyProof.Rows
section
variable {C:Cn} {cm:Bool} {k i c:Nat} {N:List Str} {sc:Scope} {pos np pos' p p1 p2:Pos} {X:Cx} {d d':ST} {a b e:Expr} {es:List Expr} {A B:EX} {As:EXs} {st:Stmt} {sts:List Stmt}
def ExAt(C:Cn)(c:Nat)(X:Cx)(ad:Addr):Prop:=∃ oe,(ad,oe)∈X.pn∧Zc (C.xc c) none oe∧∃ vs,oe.data = .fields vs
variable (C k N sc) in
def DE2 (c i:Nat) (e:Expr) (E:EX):Prop:=∃ tb:Addr→WX→TE,(∀ X a,Sta C false k N sc X→ExAt C c X a→∀ W,Takes X W→PE X e (tb a W)) ∧
 ∀ a W σ Γ F0 H0 F H Q,Good C.K F0 H0 Γ σ F H→σ[i]? = some (some (.ref a))→EOk C W σ F H Q (E Γ)→tb a W σ H Q
variable (C k N sc) in
def DA2 (c i:Nat) (es:List Expr) (E:EXs):Prop:=∃ tb:Addr→WX→TA,(∀ X a,Sta C false k N sc X→ExAt C c X a→∀ W,Takes X W→PA X es (tb a W)) ∧
 ∀ a W σ Γ F0 H0 F H Q,Good C.K F0 H0 Γ σ F H→σ[i]? = some (some (.ref a))→AOk C W σ F H Q (E Γ)→tb a W σ H Q
def Ends.at(D:Ends)(i:Nat)(a:Addr):Ends:={ D with nx:=fun σ H=>σ[i]? = some (some (.ref a))→D.nx σ H }
variable (C k N sc) in
def DS2 (c i:Nat) (st:Stmt) (d:ST):Prop:=∃ tb:Addr→WX→TS,(∀ X a,StaS C false k N sc X→ExAt C c X a→∀ W,Takes X W→PS X st (tb a W)) ∧
 ∀ a W D σ Γ F0 H0 F H,GoodS C.K F0 H0 Γ σ F H→σ[i]? = some (some (.ref a))→OutOk C W F0 H0 (Ends.at D i a) (d Γ)→tb a W D σ H
variable (C k N sc) in
def DSs2 (c i:Nat) (st:List Stmt) (d:ST):Prop:=∃ tb:Addr→WX→TS,(∀ X a,StaS C false k N sc X→ExAt C c X a→∀ W,Takes X W→PSs X st (tb a W)) ∧
 ∀ a W D σ Γ F0 H0 F H,GoodS C.K F0 H0 Γ σ F H→σ[i]? = some (some (.ref a))→OutOk C W F0 H0 (Ends.at D i a) (d Γ)→tb a W D σ H
structure Iq (C:Cn) (y:Str) (tab:List (Nat×Bool)):Prop where
 ex:∃ (v:V) (u:Value),(C.mg y=some u ∨ (C.mg y=none∧bootBuiltins y=some u∧y ≠ "__name__"))∧RelV v u∧(∀ u',RelV v u'→u'=u) ∧
  ∀ c b,takesC tab c=some b→∃ D:Addr,C.xc c = .ref D∧ExcC C.K D∧PySem.W.kitOne C.K (.ref D) u=some b
theorem pe_nm {y:Str} {v:V} {u:Value} (hg:Gl X y) (h:X.mg y=some u ∨ (X.mg y=none∧bootBuiltins y=some u∧y ≠ "__name__")) (r:RelV v u) (hd:(y == ("__debug__":Str))=false):PE X (.Name y pos) (tC v):=by
 rcases h with h | ⟨h1,h2,h3⟩
 ·exact pe_glob hg h r hd
 ·exact pe_bltn hg h1 h2 r h3 hd
theorem isC_of{tab:List (Nat×Bool)}{b:Bool}(h:takesC tab c=some b):isC tab c=b:=by unfold isC; rw [h]; rfl
def tCl:List V→TA
 | []=>tNil
 | v :: r=>tCons (tC v) (tCl r)
theorem tCl_run:∀ (vs:List V) {σ:L2.St} {H:Hp} {Q:List V→Hp→Prop},Q vs H→tCl vs σ H Q
 | [],_,_,_,h=>h
 | v :: r,_,_,_,h=>tCl_run r (Q:=fun xs H2=>_) h
variable (C k N sc) in
def TCs (c:Nat) (es:List Expr) (tabs:List (List (Nat×Bool))):Prop:=∃ (vs:List V) (us:List Value),(∀ X,Sta C false k N sc X→PA X es (tCl vs))∧vs.length=tabs.length∧(∀ us',Vals vs us'→us'=us) ∧
 ∀ D,C.xc c = .ref D→PySem.W.kitAny C.K (.ref D) us=some (isCs tabs c)
theorem Iq.dd{y:Str}{tab:List (Nat×Bool)}(iq:Iq C y tab)(hc:(takesC tab c).isSome=true):∃ D,C.xc c = .ref D∧ExcC C.K D:=by
 obtain ⟨⟨v,u,hm,hr,hinj,hk⟩⟩:=iq
 obtain ⟨b,hb⟩:=Option.isSome_iff_exists.mp hc
 obtain ⟨D,hD,hE,hkit⟩:=hk c b hb
 exact ⟨D,hD,hE⟩
def IqA(C:Cn)(u:Value)(tab:List (Nat×Bool)):Prop:=∀ c b,takesC tab c=some b→∃ D:Addr,C.xc c = .ref D∧ExcC C.K D∧PySem.W.kitOne C.K (.ref D) u=some b
theorem IqA.nil{u:Value}:IqA C u []:=fun c b h=>by cases h
theorem IqA.cons{u:Value}{ad:Addr}{c:Nat}{b:Bool}{cs:List (Nat×Bool)}(hc:C.mg (xName c)=some (.ref ad))(hE:ExcC C.K ad)(hx:PySem.W.kitOne C.K (.ref ad) u=some b)(r:IqA C u cs):IqA C u ((c,b) :: cs):=fun c' b' h=>by
 unfold takesC at h
 by_cases e:c=c'
 ·subst e
  rw [List.find?_cons_of_pos (by simp)] at h
  cases h
  have e2:C.xc c = .ref ad:=by show (C.mg (xName c)).getD .none=_; rw [hc]; rfl
  exact ⟨ad,e2,hE,hx⟩
 ·rw [List.find?_cons_of_neg (by simpa using e)] at h
  exact r c' b' h
theorem Iq.ofC{y:Str}{tab:List (Nat×Bool)}{ad:Addr}(h:C.mg y=some (.ref ad))(r:IqA C (.ref ad) tab):Iq C y tab:=⟨.ref ad,.ref ad,.inl h,rfl,fun u' h=>by cases h; rfl,r⟩
theorem good_hold{K:KK}{F0 H0 F H:Hp}{Γ:En}{σ:L2.St}{v:Option V}(g:GoodS K F0 H0 Γ σ F H)(hi:Γ.get i=none):GoodS K F0 H0 Γ (σ.set i v) F H:=by
 obtain ⟨⟨e,l,fp,h1,h2⟩,nb⟩:=g
 refine ⟨⟨e,by rw [List.length_set]; exact l,fp,fun j x hj=>?_,h2⟩,nb⟩
 obtain ⟨u,h3,h4⟩:=h1 j x hj
 refine ⟨u,?_,h4⟩
 by_cases q:i=j
 ·subst q; rw [hi] at hj; cases hj
 ·rw [List.getElem?_set_ne q]; exact h3
theorem get_set_none(Γ:En)(i:Nat):En.get (Γ.set i none) i=none:=by
 rw [get_set]
 split
 ·rfl
 ·rename_i h
  unfold En.get
  by_cases q:i < Γ.length
  ·exact absurd ⟨rfl,q⟩ h
  ·simp [List.getD,List.getElem?_eq_none (Nat.le_of_not_lt q)]
theorem good_drop{F0 H0 F H:Hp}{Γ:En}{σ:L2.St}(g:GoodS C.K F0 H0 Γ σ F H):GoodS C.K F0 H0 (Γ.set i none) σ F H:=g.forget [i]
end
end Vl
end
section
set_option Elab.async false
set_option linter.all false
set_option maxRecDepth 100000
set_option maxHeartbeats 1000000
namespace Vl
open PySem L2 Vm PyProof.Rows
section
variable {C:Cn} {cm:Bool} {k:Nat} {N:List Str} {sc:Scope} {pos p1 p2:Pos} {X:Cx}
end
end Vl
end
section
set_option linter.all false
set_option maxHeartbeats 1000000
namespace Vm
def dicAt(ks:List (List Nat))(ps:List PV)(s:List Nat):Option PV:=((ks.zip ps).find? fun kv=>decide (kv.1=s)).map (·.2)
@[simp] def dDispRet (i:Nat) (ks:List (List Nat)) (as:EXs) (b:EX):ST:=fun Γ=>if Nat.ble (i+1) Γ.length && (Γ.get i).isNone then aft (as Γ) Γ fun xs=>aft (putVs xs) Γ fun ps=>aft (b Γ) Γ fun y=>match y.2 with
 | .str s=>(match dicAt ks ps s with
  | some p=>.rt .fz p Γ
  | none=>.bad)
 | _=>.bad
 else .bad
end Vm
end
section
set_option Elab.async false
set_option linter.all false
set_option maxRecDepth 100000
set_option maxHeartbeats 1000000
namespace Vl
open PySem L2 Vm PyProof.Rows
section
variable {C:Cn} {cm:Bool} {k i:Nat} {N:List Str} {sc:Scope} {pos p1 p2 dpos apos spos rpos:Pos} {X:Cx} {e b:Expr} {A B:EX} {As:EXs}
theorem Ext.any{F H:Hp}(h:Same F H)(t:Tups F H){p:Addr}{o:HO}(ho:∀ xs,o ≠ tq xs)(hp:H p=none):Ext F H F (upd H p o) :=
 ⟨Same.refl _,same_new hp,h.trans (same_new hp),tups_new t ho (h.free hp),fun _ q=>.inl q⟩
variable (C cm k N sc dpos) in
def DP (keys:List (Option Expr)) (values:List Expr) (ks:List Str) (As:EXs):Prop:=∃ tb:WX→List (TE×TE),(∀ X,Sta C cm k N sc X→∀ W,Takes X W→PPs X dpos keys values (tb W)) ∧
 ∀ W σ Γ F0 H0 F H (Q:List (V×V)→Hp→Prop),Good C.K F0 H0 Γ σ F H→AOk C W σ F H (fun vs H'=>vs.length=ks.length→Q ((ks.map V.str).zip vs) H') (As Γ)→tPairs (tb W) σ H Q
theorem dp_nil:DP C cm k N sc dpos [] [] [] eNil:=⟨fun _=>[],fun _ _ _ _=>pps_nil,fun W σ Γ F0 H0 F H Q g h=>h [] [] F H g.here ⟨rfl,rfl⟩ rfl⟩
theorem dp_cons{x:Str}{j:Nat}{keys:List (Option Expr)}{values:List Expr}{ks:List Str}(ha:DE C cm k N sc e A)(hs:DP C cm k N sc dpos keys values ks As):DP C cm k N sc dpos (some (.Constant (.str x) j p1) :: keys) (e :: values) (x :: ks) (eCons A As):=by
 obtain ⟨ta,pa,qa⟩:=ha
 obtain ⟨tb,pb,qb⟩:=hs
 refine ⟨fun W=>(tC (.str x),ta W) :: tb W,fun X S W T=>pps_cons pe_str (pa X S W T) (pb X S W T),fun W σ Γ F0 H0 F H Q g h=>?_⟩
 show ta W σ H _
 refine qa W σ Γ F0 H0 F H _ g ?_
 unfold eCons at h
 cases ex:A Γ with
 | exc c=>rw [ex] at h; exact h
 | bad=>rw [ex] at h; exact h
 | ok x' =>
  rw [ex,bind_ok] at h
  intro v F1 H1 e1 r1
  refine qb W σ Γ F0 H0 F1 H1 _ (g.next e1) ?_
  cases exs:As Γ with
  | exc c=>rw [exs] at h; exact fun F' H' e'=>h F' H' (e1.trans e')
  | bad=>rw [exs] at h; exact h
  | ok xs =>
   rw [exs,bind_ok] at h
   intro vs fp F2 H2 e2 r2 hl
   obtain ⟨f,rf,hf⟩:=r1.norm
   exact h (v :: vs) (f++fp) F2 H2 (e1.trans e2) ⟨v,vs,f,fp,rfl,rfl,rf.ext e2,r2.start e1.hh,fun a ha hm=>(hf a ha).2 (r2.news a hm).1,fun a ha=>⟨(hf a ha).1,fun z=>(hf a ha).2 (e2.hh.free z)⟩⟩ (by simp [hl])
theorem dp_cons'{x:Str}{j:Nat}{keys:List (Option Expr)}{values:List Expr}{ks:List (List Nat)}(l:List Nat)(ha:DE C cm k N sc e A)(hs:DP C cm k N sc dpos keys values (ks.map fun l=>(⟨l.toArray⟩:Str)) As)(hx:x=⟨l.toArray⟩:=by rfl):DP C cm k N sc dpos (some (.Constant (.str x) j p1) :: keys) (e :: values) ((l :: ks).map fun l=>(⟨l.toArray⟩:Str)) (eCons A As):=by
 subst hx
 exact dp_cons ha hs
theorem dp_nil':DP C cm k N sc dpos [] [] (([]:List (List Nat)).map fun l=>(⟨l.toArray⟩:Str)) eNil:=dp_nil
end
end Vl
end
section
set_option linter.all false
set_option maxHeartbeats 1000000
namespace Vm
def tgEq:Tg→Tg→Bool
 | .fz,.fz=>true
 | .ow a,.ow b=>a == b
 | .bw a,.bw b=>a == b
 | _,_=>false
theorem tgEq_eq:∀ {a b:Tg},tgEq a b=true→a=b
 | .fz,.fz,_=>rfl
 | .ow a,.ow b,h=>by rw [eq_of_beq h]
 | .bw a,.bw b,h=>by rw [eq_of_beq h]
 | .fz,.ow _,h=>by cases h
 | .fz,.bw _,h=>by cases h
 | .ow _,.fz,h=>by cases h
 | .ow _,.bw _,h=>by cases h
 | .bw _,.fz,h=>by cases h
 | .bw _,.ow _,h=>by cases h
@[simp] def isOw:Tg→Bool
 | .ow _=>true
 | _=>false
def takeA(Γ:En):List (Nat×Tg)→Option (List PV)
 | []=>some []
 | (j,t) :: r=>match Γ.get j with
  | some (t',p)=>if tgEq t' t then (takeA Γ r).map (p :: ·) else none
  | none=>none
def putA(Γ:En):List (Nat×Tg)→List PV→En
 | (j,.ow d) :: r,p :: ps=>putA (Γ.set j (some (.ow d,p))) r ps
 | (_,_) :: r,_ :: ps=>putA Γ r ps
 | _,_=>Γ
def startM(ts:List Tg)(ps:List PV):En:=(ts.zip ps).map some
def readA(Γ:En):Nat→List Tg→List PV→Res (List PV)
 | _,[],[]=>.ok []
 | i,.ow d :: ts,_ :: ps=>match Γ.get i with
  | some (t,p)=>if tgEq t (.ow d) then (readA Γ (i+1) ts ps).bind fun r=>.ok (p :: r) else .bad
  | none=>.bad
 | i,_ :: ts,p :: ps=>(readA Γ (i+1) ts ps).bind fun r=>.ok (p :: r)
 | _,_,_=>.bad
abbrev FM:=List PV→Res (List PV)
end Vm
end
section
set_option Elab.async false
set_option linter.all false
set_option maxRecDepth 100000
set_option maxHeartbeats 1000000
namespace Vl
open PySem L2 Vm PyProof.Rows
def OutK(C:Cn)(F0 H0:Hp)(D:Ends)(keep:List Nat)(σ0:L2.St):Out→Prop
 | .nx Γ=>∀ σ F H,GoodS C.K F0 H0 Γ σ F H→(∀ i∈keep,σ[i]? = σ0[i]?)→D.nx σ H
 | .bk Γ=>∀ σ F H,GoodS C.K F0 H0 Γ σ F H→(∀ i∈keep,σ[i]? = σ0[i]?)→D.bk σ H
 | .ct Γ=>∀ σ F H,GoodS C.K F0 H0 Γ σ F H→(∀ i∈keep,σ[i]? = σ0[i]?)→D.ct σ H
 | _=>False
section
variable {C:Cn} {cm:Bool} {k:Nat} {N:List Str} {sc so:Scope} {a b c e o tg:Expr} {es:List Expr} {A B:EX} {As:EXs} {T U:TX} {pos p tpos apos cpos p1:Pos} {X:Cx} {x:Str} {st:Stmt} {sts:List Stmt} {d d':ST} {keep:List Nat}
variable {F0 H0 F H F1 H1:Hp} {Γ:En} {σ:L2.St} {W:WX} {D:Ends}
theorem OutK.bind{f:TV→Out}{Q1:VK}{r:Res TV}(g:GoodS C.K F0 H0 Γ σ F H)(h:OutK C F0 H0 D keep σ (aft r Γ f))
  (q:∀ x v F1 H1,r = .ok x→Ext F H F1 H1→RV C.K F1 H1 H x v→OutK C F0 H0 D keep σ (f x)→Q1 v H1):EOk C W σ F H Q1 r:=by
 cases r with
 | ok x=>exact fun v F' H' e rv=>q x v F' H' rfl e rv h
 | exc c=>exact h.elim
 | bad=>exact h
theorem OutK.bindT{f:Bool→Out}{Q1:Bool→Hp→Prop}{r:Res Bool}(g:GoodS C.K F0 H0 Γ σ F H)(h:OutK C F0 H0 D keep σ (aft r Γ f))
  (q:∀ x F1 H1,r = .ok x→Ext F H F1 H1→OutK C F0 H0 D keep σ (f x)→Q1 x H1):TOk C W σ F H Q1 r:=by
 cases r with
 | ok x=>exact fun F' H' e=>q x F' H' rfl e h
 | exc c=>exact h.elim
 | bad=>exact h
end
def spM(C:Cn)(ts:List Tg)(f:FM):Sp:=fun vs H Q E=>∃ F H0 ps,ps.length=ts.length∧vs.length=ts.length∧GoodS C.K F H0 (startM ts ps) (vs.map some) F H∧match f ps with
 | .ok news=>∀ F' H',news.length=ts.length→GoodS C.K F H0 (startM ts news) (vs.map some) F' H'→Q .non H'
 | _=>False
structure CalM (C:Cn) (x:Str) (k:Nat) (ts:List Tg) (f:FM):Prop where
 ex:∃ ad fd ps,ps.length=ts.length∧FnOk C.P C.w C.K C.mg C.base (L2.CX C.P C.w) k ad fd ps (spM C ts f)∧PySem.W.keepIn C.K (.ref ad)=true∧Binds C.K fd ps []∧C.mg x=some (.ref ad)
theorem get_start{ts:List Tg}{ps:List PV}{i:Nat}{x:TV}(h:En.get (startM ts ps) i=some x):ts[i]? = some x.1∧ps[i]? = some x.2:=by
 unfold En.get startM at h
 rw [List.getD,List.getElem?_map] at h
 cases q:(ts.zip ps)[i]? with
 | none=>rw [q] at h; cases h
 | some y =>
  rw [q] at h
  cases h
  rw [List.getElem?_zip_eq_some] at q
  exact q
theorem start_get{ts:List Tg}{ps:List PV}{i:Nat}{t:Tg}{p:PV}(h1:ts[i]? = some t)(h2:ps[i]? = some p):En.get (startM ts ps) i=some (t,p):=by
 have q:(ts.zip ps)[i]? = some (t,p):=List.getElem?_zip_eq_some.mpr ⟨h1,h2⟩
 unfold En.get startM
 rw [List.getD,List.getElem?_map,q]
 rfl
theorem read_spec{Γ:En}:∀ {i:Nat} {ts:List Tg} {ps news:List PV},readA Γ i ts ps = .ok news→news.length=ts.length∧∀ (j:Nat) (t:Tg) (p:PV),ts[j]? = some t→news[j]? = some p→(isOw t=true→Γ.get (i+j)=some (t,p))∧(isOw t=false→ps[j]? = some p)
 | i,[],[],news,h=>by cases h; exact ⟨rfl,fun j t p h=>by simp at h⟩
 | i,[],_ :: _,news,h=>by cases h
 | i,t :: ts,[],news,h=>by cases t <;> cases h
 | i,t :: ts,q :: ps,news,h=>by
  cases t with
  | ow d =>
   unfold readA at h
   cases e:Γ.get i with
   | none=>rw [e] at h; cases h
   | some y =>
    obtain ⟨t',p⟩:=y
    rw [e] at h
    simp only at h
    by_cases ht:tgEq t' (.ow d)=true
    ·rw [if_pos ht] at h
     cases e2:readA Γ (i+1) ts ps with
     | ok r =>
      rw [e2,bind_ok] at h
      cases h
      obtain ⟨a,b⟩:=read_spec e2
      refine ⟨by simp [a],fun j t2 p2 h1 h2=>?_⟩
      cases j with
      | zero =>
       simp at h1 h2
       subst h1 h2
       exact ⟨fun _=>by rw [Nat.add_zero,e,tgEq_eq ht],(fun z=>nomatch z)⟩
      | succ j =>
       have:=b j t2 p2 (by simpa using h1) (by simpa using h2)
       rw [show i+(j+1)=i+1+j by omega]
       exact ⟨this.1,fun z=>by simpa using this.2 z⟩
     | exc c=>rw [e2] at h; cases h
     | bad=>rw [e2] at h; cases h
    ·rw [if_neg ht] at h; cases h
  | fz =>
   unfold readA at h
   cases e2:readA Γ (i+1) ts ps with
   | ok r =>
    rw [e2,bind_ok] at h
    cases h
    obtain ⟨a,b⟩:=read_spec e2
    refine ⟨by simp [a],fun j t2 p2 h1 h2=>?_⟩
    cases j with
    | zero =>
     simp at h1 h2
     subst h1 h2
     exact ⟨(fun z=>nomatch z),(fun _=>by simp)⟩
    | succ j =>
     have:=b j t2 p2 (by simpa using h1) (by simpa using h2)
     rw [show i+(j+1)=i+1+j by omega]
     exact ⟨this.1,fun z=>by simpa using this.2 z⟩
   | exc c=>rw [e2] at h; cases h
   | bad=>rw [e2] at h; cases h
  | bw d =>
   unfold readA at h
   cases e2:readA Γ (i+1) ts ps with
   | ok r =>
    rw [e2,bind_ok] at h
    cases h
    obtain ⟨a,b⟩:=read_spec e2
    refine ⟨by simp [a],fun j t2 p2 h1 h2=>?_⟩
    cases j with
    | zero =>
     simp at h1 h2
     subst h1 h2
     exact ⟨(fun z=>nomatch z),(fun _=>by simp)⟩
    | succ j =>
     have:=b j t2 p2 (by simpa using h1) (by simpa using h2)
     rw [show i+(j+1)=i+1+j by omega]
     exact ⟨this.1,fun z=>by simpa using this.2 z⟩
   | exc c=>rw [e2] at h; cases h
   | bad=>rw [e2] at h; cases h
section
variable {C:Cn} {k:Nat} {N:List Str} {sc:Scope} {st:Stmt}
end
end Vl
end
section
set_option Elab.async false
set_option linter.all false
set_option maxRecDepth 100000
set_option maxHeartbeats 1000000
namespace Vl
open PySem L2 Vm PyProof.Rows
section
variable {C:Cn} {cm:Bool} {k:Nat} {N:List Str} {sc:Scope} {e:Expr} {es:List Expr} {pos p p1 cpos:Pos} {X:Cx} {x:Str}
def tVs:List Nat→TA
 | []=>tNil
 | i :: r=>tCons (tVar i) (tVs r)
variable (C cm k N sc) in
def AN (es:List Expr) (is:List Nat):Prop:=∀ X,Sta C cm k N sc X→PA X es (tVs is)
theorem take_spec{Γ:En}:∀ {js:List (Nat×Tg)} {ps:List PV},takeA Γ js=some ps→ps.length=js.length∧∀ (j i:Nat) (t:Tg) (p:PV),js[j]? = some (i,t)→ps[j]? = some p→Γ.get i=some (t,p)
 | [],ps,h=>by cases h; exact ⟨rfl,fun j i t p h=>by simp at h⟩
 | (i,t) :: js,ps,h=>by
  unfold takeA at h
  cases e:Γ.get i with
  | none=>rw [e] at h; cases h
  | some y =>
   obtain ⟨t',q⟩:=y
   rw [e] at h
   simp only at h
   by_cases ht:tgEq t' t=true
   ·rw [if_pos ht] at h
    cases e2:takeA Γ js with
    | none=>rw [e2] at h; cases h
    | some r =>
     rw [e2] at h
     cases h
     obtain ⟨a,b⟩:=take_spec e2
     refine ⟨by simp [a],fun j i2 t2 p2 h1 h2=>?_⟩
     cases j with
     | zero=>simp at h1 h2; obtain ⟨rfl,rfl⟩:=h1; subst h2; rw [e,tgEq_eq ht]
     | succ j=>exact b j i2 t2 p2 (by simpa using h1) (by simpa using h2)
   ·rw [if_neg ht] at h; cases h
theorem put_spec:∀ {js:List (Nat×Tg)} {Γ:En} {news:List PV} {i:Nat} {y:TV},(putA Γ js news).get i=some y→(∃ (j d:Nat),js[j]? = some (i,.ow d)∧news[j]? = some y.2∧y.1 = .ow d) ∨ (Γ.get i=some y∧∀ (j d:Nat),js[j]? = some (i,.ow d)→j < news.length→Γ.length≤i)
 | [],Γ,news,i,y,h=>.inr ⟨h,fun j d z=>by simp at z⟩
 | (i0,.ow d) :: js,Γ,[],i,y,h=>.inr ⟨h,fun j d z hj=>by simp at hj⟩
 | (i0,.fz) :: js,Γ,[],i,y,h=>.inr ⟨h,fun j d z hj=>by simp at hj⟩
 | (i0,.bw _) :: js,Γ,[],i,y,h=>.inr ⟨h,fun j d z hj=>by simp at hj⟩
 | (i0,.ow d) :: js,Γ,q :: news,i,y,h=>by
  have h:(putA (Γ.set i0 (some (.ow d,q))) js news).get i=some y:=h
  rcases put_spec h with ⟨j,d',a,b,c⟩ | ⟨a,b⟩
  ·exact .inl ⟨j+1,d',by simpa using a,by simpa using b,c⟩
  ·rw [get_set] at a
   by_cases hi:i=i0∧i0 < Γ.length
   ·rw [if_pos hi] at a
    cases a
    obtain ⟨rfl,_⟩:=hi
    exact .inl ⟨0,d,rfl,rfl,rfl⟩
   ·rw [if_neg hi] at a
    refine .inr ⟨a,fun j d' z hj=>?_⟩
    cases j with
    | zero =>
     simp at z
     obtain ⟨rfl,_⟩:=z
     exact Nat.le_of_not_lt fun q=>hi ⟨rfl,q⟩
    | succ j =>
     have:=b j d' (by simpa using z) (by simpa using hj)
     rwa [List.length_set] at this
 | (i0,.fz) :: js,Γ,q :: news,i,y,h=>by
  have h:(putA Γ js news).get i=some y:=h
  rcases put_spec h with ⟨j,d',a,b,c⟩ | ⟨a,b⟩
  ·exact .inl ⟨j+1,d',by simpa using a,by simpa using b,c⟩
  ·refine .inr ⟨a,fun j d' z hj=>?_⟩
   cases j with
   | zero=>simp at z
   | succ j=>exact b j d' (by simpa using z) (by simpa using hj)
 | (i0,.bw _) :: js,Γ,q :: news,i,y,h=>by
  have h:(putA Γ js news).get i=some y:=h
  rcases put_spec h with ⟨j,d',a,b,c⟩ | ⟨a,b⟩
  ·exact .inl ⟨j+1,d',by simpa using a,by simpa using b,c⟩
  ·refine .inr ⟨a,fun j d' z hj=>?_⟩
   cases j with
   | zero=>simp at z
   | succ j=>exact b j d' (by simpa using z) (by simpa using hj)
theorem put_len:∀ (js:List (Nat×Tg)) (Γ:En) (news:List PV),(putA Γ js news).length=Γ.length
 | [],Γ,news=>rfl
 | (i0,.ow d) :: js,Γ,[]=>rfl
 | (i0,.fz) :: js,Γ,[]=>rfl
 | (i0,.bw _) :: js,Γ,[]=>rfl
 | (i0,.ow d) :: js,Γ,q :: news=>by
  show (putA (Γ.set i0 (some (.ow d,q))) js news).length=_
  rw [put_len js,List.length_set]
 | (i0,.fz) :: js,Γ,q :: news=>put_len js Γ news
 | (i0,.bw _) :: js,Γ,q :: news=>put_len js Γ news
theorem slot_ix{js:List (Nat×Tg)}(hnd:(js.map (·.1)).Nodup){j j' i:Nat}{t t':Tg}(h:js[j]? = some (i,t))(h':js[j']? = some (i,t')):j=j':=by
 have a:(js.map (·.1))[j]? = some i:=by rw [List.getElem?_map,h]; rfl
 have b:(js.map (·.1))[j']? = some i:=by rw [List.getElem?_map,h']; rfl
 have hj:=(List.getElem?_eq_some_iff.mp a).1
 exact (List.getElem?_inj hj hnd).mp (a.trans b.symm)
end
end Vl
end
section
set_option linter.all false
set_option maxHeartbeats 1000000
namespace Vm
def lcGoO(Γ:En)(pat:Pat)(e:EX):List TV→Res (List PV)
 | []=>.ok []
 | x :: xs=>(bindP Γ x pat).bind fun Γ'=>(e Γ').bind fun y=>match y with
  | (.ow 1,p)=>(lcGoO Γ pat e xs).bind fun ps=>.ok (p :: ps)
  | _=>.bad
@[simp] def eLCO (own:List Nat) (it:IX) (pat:Pat) (e:EX):EX:=fun Γ=>(it Γ).bind fun xs =>
 (noExc (lcGoO (wipeE Γ own) pat e xs.2)).bind fun ps=>if ps.length≤16777216 then .ok (.ow 2,.lst ps) else .bad
@[simp] def partL (l:List PV) (y:PV):Option (Nat×List PV):=match y with
 | .int k=>match vIxN l.length k with
  | some n=>match l[n]? with
   | some (.lst m)=>some (n,m)
   | _=>none
  | none=>none
 | _=>none
@[simp] def dApp2 (i:Nat) (j e:EX):ST:=fun Γ=>match Γ.get i with
 | some (.ow 2,.lst l)=>aft (j Γ) Γ fun y=>match partL l y.2 with
  | some (n,m)=>aft (e Γ) Γ fun x=>aft (putV x) Γ fun p=>if m.length < 16777216 then .nx (Γ.set i (some (.ow 2,.lst (l.set n (.lst (m++[p])))))) else .bad
  | none=>.bad
 | _=>.bad
@[simp] def dExt2 (i:Nat) (j e:EX):ST:=fun Γ=>match Γ.get i with
 | some (.ow 2,.lst l)=>aft (j Γ) Γ fun y=>match partL l y.2 with
  | some (n,m)=>aft (e Γ) Γ fun x=>match x.2 with
   | .lst q=>if flat1 x.1 && decide (m.length+q.length≤16777216) then .nx (Γ.set i (some (.ow 2,.lst (l.set n (.lst (m++q)))))) else .bad
   | .tup q=>if m.length+q.length≤16777216 then .nx (Γ.set i (some (.ow 2,.lst (l.set n (.lst (m++q)))))) else .bad
   | _=>.bad
  | none=>.bad
 | _=>.bad
@[simp] def dSetIx2 (i:Nat) (j k e:EX):ST:=fun Γ=>match Γ.get i with
 | some (.ow 2,.lst l)=>aft (e Γ) Γ fun x=>aft (j Γ) Γ fun y=>match partL l y.2 with
  | some (n,m)=>aft (k Γ) Γ fun z=>aft (putV x) Γ fun p=>match z.2 with
   | .int a=>match vIxN m.length a with
    | some b=>.nx (Γ.set i (some (.ow 2,.lst (l.set n (.lst (m.set b p))))))
    | none=>.bad
   | _=>.bad
  | none=>.bad
 | _=>.bad
end Vm
end
section
set_option Elab.async false
set_option linter.all false
set_option maxRecDepth 100000
set_option maxHeartbeats 1000000
namespace Vl
open PySem L2 Vm PyProof.Rows
section
variable {C:Cn} {F0 H0 F H F1 H1:Hp} {Γ:En} {σ:L2.St}
theorem good_chg{i:Nat}{d:Nat}{p:PV}(g:GoodS C.K F0 H0 Γ σ F H)(e:Γ.get i=some (.ow d,p)):∃ v fp,σ[i]? = some (some v)∧Own C.K F H d fp p v∧fp.Nodup∧(∀ a∈fp,F a=none∧H0 a=none) ∧
  ∀ {F2 H2 H3:Hp} {d':Nat} {p':PV} {fp':List Addr},Ext F H F2 H2→(∀ a,a ∉ fp→H3 a=H2 a)→(∀ a∈fp,∀ xs,H3 a ≠ some (tq xs))→Own C.K F2 H3 d' fp' p' v→fp'.Nodup→(∀ a∈fp',a∈fp ∨ (H a=none∧F2 a=none))→GoodS C.K F0 H0 (Γ.set i (some (.ow d',p'))) σ F2 H3:=by
 obtain ⟨fp,h1,h2⟩:=g.slots
 obtain ⟨v,hv,o,nd,fr⟩:=h1 i _ e
 have hi:i < Γ.length:=by
  cases Nat.lt_or_ge i Γ.length with
  | inl h=>exact h
  | inr h =>
   have:Γ.get i=none:=by unfold En.get; simp [List.getD,List.getElem?_eq_none h]
   rw [this] at e; cases e
 refine ⟨v,fp i,hv,o,nd,fr,fun {F2 H2 H3 d' p' fp'} e2 k1 k2 o' nd' sub=>?_⟩
 have hth:∀ a∈fp i,H a ≠ none:=fun a ha=>by obtain ⟨_,z,_⟩:=o.there d a ha; rw [z]; simp
 have f2n:∀ a∈fp i,F2 a=none:=fun a ha=>by
  cases q:F2 a with
  | none=>rfl
  | some o =>
   rcases e2.nw a (by rw [q]; simp) with z | z
   ·exact (z (fr a ha).1).elim
   ·exact (hth a ha z).elim
 refine ⟨⟨?_,by rw [List.length_set]; exact g.len,fun j=>if j=i then fp' else match Γ.get j with
  | some (.ow _,_)=>fp j
  | _=>[],fun j y hy=>?_,fun i' j a hij ha hb=>?_⟩,nb_set g.nb fun d p h=>by cases h⟩
 ·have ee:=g.ext.trans e2
  refine ⟨ee.ff,fun a o z=>?_,fun a o z=>?_,fun a xs z=>?_,ee.nw⟩
  ·rw [k1 a fun ha=>by rw [(fr a ha).2] at z; cases z]; exact ee.hh _ _ z
  ·rw [k1 a fun ha=>by rw [f2n a ha] at z; cases z]; exact ee.fh _ _ z
  ·by_cases ha:a∈fp i
   ·exact (k2 a ha xs z).elim
   ·rw [k1 a ha] at z; exact ee.tp _ _ z
 ·rw [get_set] at hy
  by_cases hj:j=i
  ·subst hj
   rw [if_pos ⟨rfl,hi⟩] at hy
   cases hy
   refine ⟨_,hv,?_⟩
   simp only [if_pos]
   refine ⟨o',nd',fun a ha=>?_⟩
   rcases sub a ha with z | ⟨z1,z2⟩
   ·exact ⟨f2n a z,(fr a z).2⟩
   ·exact ⟨z2,g.ext.hh.free z1⟩
  ·rw [if_neg fun z=>hj z.1] at hy
   obtain ⟨u,h6,h7⟩:=h1 j y hy
   refine ⟨u,h6,?_⟩
   simp only
   rw [if_neg hj,hy]
   have h8:=h7.ext e2
   obtain ⟨t,q⟩:=y
   cases t with
   | fz=>exact h8
   | bw d=>exact (g.nb j d q hy).elim
   | ow d =>
    obtain ⟨z1,z2,z3⟩:=h8
    exact ⟨Own.mono (Same.refl _) d z1 fun a ha=>k1 a fun z=>h2 i j a (Ne.symm hj) z ha,z2,z3⟩
 ·have old:∀ j',a∈(match Γ.get j' with | some (.ow _,_)=>fp j' | _=>[])→a∈fp j'∧H a ≠ none:=fun j' hm=>by
   cases q:Γ.get j' with
   | none=>rw [q] at hm; simp at hm
   | some y =>
    obtain ⟨t,pp⟩:=y
    rw [q] at hm
    cases t with
    | fz=>simp at hm
    | bw _=>simp at hm
    | ow dd =>
     obtain ⟨v',_,h4⟩:=h1 j' _ q
     refine ⟨hm,?_⟩
     obtain ⟨ws,z,_⟩:=h4.1.there dd a hm
     rw [z]; simp
  simp only at ha hb
  by_cases h1':i'=i
  ·rw [if_pos h1'] at ha
   rw [if_neg (fun z=>hij (h1'.trans z.symm))] at hb
   obtain ⟨o1,o2⟩:=old j hb
   rcases sub a ha with z | ⟨z,_⟩
   ·exact h2 i j a (fun z=>hij (h1'.trans z)) z o1
   ·exact o2 z
  ·rw [if_neg h1'] at ha
   by_cases h2':j=i
   ·rw [if_pos h2'] at hb
    obtain ⟨o1,o2⟩:=old i' ha
    rcases sub a hb with z | ⟨z,_⟩
    ·exact h2 i' i a h1' o1 z
    ·exact o2 z
   ·rw [if_neg h2'] at hb
    exact h2 i' j a hij (old i' ha).1 (old j hb).1
theorem ownl_set{K:KK}{d:Nat}:∀ {fs:List (List Addr)} {ps:List PV} {vs:List V} {n:Nat} {q:PV},OwnL (Own K F H d) fs ps vs→fs.flatten.Nodup→ps[n]? = some q →
  ∃ f u,vs[n]? = some u∧(∀ a∈f,a∈fs.flatten)∧f.Nodup∧Own K F H d f q u∧∀ {F' H':Hp} {q':PV},Same F F'→(∀ a∈fs.flatten,a ∉ f→H' a=H a)→Own K F' H' d f q' u→OwnL (Own K F' H' d) fs (ps.set n q') vs
 | [],[],[],n,q,h,nd,hn=>by simp at hn
 | f :: fs,p :: ps,v :: vs,0,q,h,nd,hn=>by
  simp at hn
  subst hn
  rw [List.flatten_cons] at nd
  obtain ⟨n1,n2,n3⟩:=List.nodup_append.mp nd
  refine ⟨f,v,rfl,fun a ha=>by rw [List.flatten_cons]; exact List.mem_append_left _ ha,n1,h.1,fun {F' H' q'} e k o=>⟨o,?_⟩⟩
  refine h.2.imp fun f' hf' p' v' q0=>Own.mono e d q0 fun a ha=>k a ?_ fun z=>?_
  ·rw [List.flatten_cons]; exact List.mem_append_right _ (List.mem_flatten.mpr ⟨f',hf',ha⟩)
  ·exact n3 a z a (List.mem_flatten.mpr ⟨f',hf',ha⟩) rfl
 | f :: fs,p :: ps,v :: vs,n+1,q,h,nd,hn=>by
  rw [List.flatten_cons] at nd
  obtain ⟨n1,n2,n3⟩:=List.nodup_append.mp nd
  obtain ⟨f',u,h1,h2,h3,h4,h5⟩:=ownl_set (n:=n) h.2 n2 (by simpa using hn)
  refine ⟨f',u,by simpa using h1,fun a ha=>by rw [List.flatten_cons]; exact List.mem_append_right _ (h2 a ha),h3,h4,fun {F' H' q'} e k o=>?_⟩
  show OwnL (Own K F' H' d) (f :: fs) (p :: ps.set n q') (v :: vs)
  refine ⟨Own.mono e d h.1 fun a ha=>k a (by rw [List.flatten_cons]; exact List.mem_append_left _ ha) fun z=>n3 a ha a (h2 a z) rfl,h5 e (fun a ha hn=>k a (by rw [List.flatten_cons]; exact List.mem_append_right _ ha) hn) o⟩
 | [],[],_ :: _,_,_,h,_,_=>h.elim
 | [],_ :: _,_,_,_,h,_,_=>h.elim
 | _ :: _,[],_,_,_,h,_,_=>h.elim
 | _ :: _,_ :: _,[],_,_,h,_,_=>h.elim
theorem ownl_len{Q:List Addr→PV→V→Prop}:∀ {fs:List (List Addr)} {ps:List PV} {vs:List V},OwnL Q fs ps vs→vs.length=ps.length
 | [],[],[],_=>rfl
 | f :: fs,p :: ps,v :: vs,h=>by simp [ownl_len h.2]
 | [],[],_ :: _,h=>h.elim
 | [],_ :: _,_,h=>h.elim
 | _ :: _,[],_,h=>h.elim
 | _ :: _,_ :: _,[],h=>h.elim
theorem ownl0_nil{K:KK}:∀ {fs:List (List Addr)} {ps:List PV} {vs:List V},OwnL (Own K F H 0) fs ps vs→fs.flatten=[]∧RepL K F ps vs
 | [],[],[],_=>⟨rfl,RepL.nil⟩
 | f :: fs,p :: ps,v :: vs,h=>by
  obtain ⟨a,b⟩:=ownl0_nil h.2
  exact ⟨by rw [List.flatten_cons,h.1.1,a]; rfl,RepL.cons h.1.2 b⟩
 | [],[],_ :: _,h=>h.elim
 | [],_ :: _,_,h=>h.elim
 | _ :: _,[],_,h=>h.elim
 | _ :: _,_ :: _,[],h=>h.elim
theorem own_one'{K:KK}{fp:List Addr}{l:List PV}{v:V}(h:Own K F H 1 fp (.lst l) v):∃ a vs,v = .ref a∧H a=some (.lst vs)∧RepL K F l vs∧fp=[a]:=by
 obtain ⟨l',a,vs,fps,e0,rfl,h3,h4,h5⟩:=h.lst
 cases e0
 obtain ⟨a1,a2⟩:=ownl0_nil h5
 exact ⟨a,vs,rfl,h3,a2,by rw [h4,a1]⟩
end
section
variable {C:Cn} {cm:Bool} {k:Nat} {N:List Str} {sc so:Scope} {a b c e o tg j:Expr} {es:List Expr} {A B J:EX} {pos p tpos apos cpos p1 p2:Pos} {X:Cx} {x:Str}
end
end Vl
end
section
set_option Elab.async false
set_option linter.all false
set_option maxRecDepth 100000
set_option maxHeartbeats 1000000
namespace Vl
open PySem L2 Vm PyProof.Rows
section
variable {C:Cn} {cm:Bool} {k:Nat} {N:List Str} {sc so:Scope} {a b c e tg:Expr} {es:List Expr} {A B:EX} {As:EXs} {T U:TX} {pos p:Pos} {X:Cx} {x:Str}
theorem ownl_mono{K:KK}{F H F' H':Hp}{d:Nat}{fs:List (List Addr)}{ps:List PV}{vs:List V}(e:Same F F')(h:OwnL (Own K F H d) fs ps vs)(g:∀ a∈fs.flatten,H' a=H a):OwnL (Own K F' H' d) fs ps vs :=
 h.imp fun f hf p v q=>Own.mono e d q fun a ha=>g a (List.mem_flatten.mpr ⟨f,hf,ha⟩)
variable {elt iter:Expr} {ifs:List Expr} {scope:Scope} {own:List (Str×Nat)} {I:IX} {pat:Pat}
end
end Vl
end
section
set_option Elab.async false
set_option linter.all false
set_option maxRecDepth 100000
set_option maxHeartbeats 1000000
namespace Vl
open PySem L2 Vm PyProof.Rows
section
variable {C:Cn} {cm:Bool} {k:Nat} {N:List Str} {sc so:Scope} {a b c e o tg j:Expr} {es:List Expr} {A B J:EX} {pos p tpos apos cpos p1 p2:Pos} {X:Cx} {x:Str} {keep:List Nat} {d:ST}
theorem OutK.mono{F0 H0:Hp}{D:Ends}{σ σ':L2.St}{o:Out}(h:OutK C F0 H0 D keep σ o)(k:∀ i∈keep,σ'[i]? = σ[i]?):OutK C F0 H0 D keep σ' o:=by
 cases o with
 | nx Γ=>exact fun σ2 F H g q=>h σ2 F H g fun i hi=>(q i hi).trans (k i hi)
 | bk Γ=>exact fun σ2 F H g q=>h σ2 F H g fun i hi=>(q i hi).trans (k i hi)
 | ct Γ=>exact fun σ2 F H g q=>h σ2 F H g fun i hi=>(q i hi).trans (k i hi)
 | _=>exact h
end
end Vl
end
section
set_option linter.all false
set_option maxHeartbeats 1000000
namespace Vm
mutual
@[simp] def keyN:Nat→PV→Bool
 | _,.non=>true
 | _,.int _=>true
 | _,.str _=>true
 | n+1,.tup l=>keyNL n l
 | _,_=>false
@[simp] def keyNL:Nat→List PV→Bool
 | _,[]=>true
 | n,p :: ps=>keyN n p && keyNL n ps
end
@[simp] def keyL:PV→Bool
 | .non=>true
 | .int _=>true
 | .str _=>true
 | _=>false
@[simp] def keyT:PV→Bool
 | .tup l=>keyNL 7 l
 | _=>false
def sameK(p:PV)(ks:List PV):Bool:=(keyL p && ks.all keyL) || (keyT p && ks.all keyT)
def dIx:List PV→PV→Option Nat
 | [],_=>none
 | q :: ks,p=>if eqv q p then some 0 else (dIx ks p).map (· + 1)
def dPutK:List PV→PV→List PV
 | [],p=>[p]
 | q :: ks,p=>if eqv q p then q :: ks else q :: dPutK ks p
def dPutV{α:Type}:List PV→List α→PV→α→List α
 | q :: ks,v :: vs,p,x=>if eqv q p then x :: vs else v :: dPutV ks vs p x
 | _,_,_,x=>[x]
def dGet(ks l:List PV)(p:PV):Option PV:=(dIx ks p).bind fun j=>l[j]?
@[simp] def fzK:TV→Res PV
 | (.fz,p)=>.ok p
 | _=>.bad
@[simp] def eDic0 (d:Nat):EX:=fun _=>.ok (.ow d,.dic [] [])
@[simp] def eDic1 (tuple:Bool) (a b:EX):EX:=fun Γ=>(a Γ).bind fun x=>(b Γ).bind fun y=>(fzK x).bind fun p=>(putV y).bind fun q=>if (if tuple then keyT p else keyL p) then .ok (.ow 1,.dic [p] [q]) else .bad
@[simp] def dixV (o:TV) (p:PV):Res TV:=match o with
 | (t,.dic ks l)=>if sameK p ks then (match dGet ks l p with
  | some x=>.ok (dn t,x)
  | none=>.bad) else .bad
 | _=>.bad
@[simp] def eDIdx (a b:EX):EX:=fun Γ=>(a Γ).bind fun x=>(b Γ).bind fun y=>dixV x y.2
@[simp] def dinB (p q:PV):Res Bool:=match q with
 | .dic ks _=>if sameK p ks then .ok (dIx ks p).isSome else .bad
 | _=>.bad
@[simp] def opDIn (p q:PV):Res PV:=(dinB p q).bind fun b=>.ok (.bl b)
@[simp] def opDNotIn (p q:PV):Res PV:=(dinB p q).bind fun b=>.ok (.bl (!b))
@[simp] def eDLen (a:EX):EX:=fun Γ=>(a Γ).bind fun x=>match x.2 with
 | .dic ks _=>.ok (.fz,.int ks.length)
 | _=>.bad
@[simp] def dgetV (o:TV) (p:PV) (x:TV):Res TV:=match o with
 | (t,.dic ks l)=>if flat1 t && sameK p ks then (putV x).bind fun q=>.ok (.fz,(dGet ks l p).getD q) else .bad
 | _=>.bad
@[simp] def isDic:PV→Bool
 | .dic _ _=>true
 | _=>false
@[simp] def eDGet (a b c:EX):EX:=fun Γ=>(a Γ).bind fun x=>match isDic x.2 with
 | true=>(b Γ).bind fun y=>(c Γ).bind fun z=>dgetV x y.2 z
 | false=>.bad
@[simp] def dDPut (i:Nat) (k e:EX):ST:=fun Γ=>match Γ.get i with
 | some (.ow 1,.dic ks l)=>aft (e Γ) Γ fun x=>aft (k Γ) Γ fun y=>aft (putV x) Γ fun p=>aft (fzK y) Γ fun q =>
  if sameK q ks && decide (ks.length < 16777216) then .nx (Γ.set i (some (.ow 1,.dic (dPutK ks q) (dPutV ks l q p)))) else .bad
 | _=>.bad
@[simp] def setdD (ks l:List PV) (q:PV):List PV×List PV:=match dGet ks l q with
 | some _=>(ks,l)
 | none=>(dPutK ks q,dPutV ks l q (.lst []))
@[simp] def lstAtD (d:List PV×List PV) (q:PV):Option (Nat×List PV):=match dIx d.1 q with
 | some j=>(match d.2[j]? with
  | some (.lst m)=>some (j,m)
  | _=>none)
 | none=>none
@[simp] def dSetd (i:Nat) (k e:EX):ST:=fun Γ=>match Γ.get i with
 | some (.ow 2,.dic ks l)=>aft (k Γ) Γ fun y=>aft (fzK y) Γ fun q=>if keyL q && ks.all keyL && decide (ks.length < 16777216) then
  (match lstAtD (setdD ks l q) q with
   | some (j,m)=>aft (e (Γ.set i none)) (Γ.set i none) fun x=>aft (putV x) Γ fun p=>if m.length < 16777216 then .nx (Γ.set i (some (.ow 2,.dic (setdD ks l q).1 ((setdD ks l q).2.set j (.lst (m++[p])))))) else .bad
   | none=>.bad)
  else .bad
 | _=>.bad
@[simp] def jItems (a:EX):IX:=fun Γ=>(a Γ).bind fun x=>match x with
 | (.fz,.dic ks l)=>.ok (true,(ks.zip l).map fun kv=>(.fz,.tup [kv.1,kv.2]))
 | _=>.bad
@[simp] def jValues (a:EX):IX:=fun Γ=>(a Γ).bind fun x=>match x with
 | (.fz,.dic _ l)=>.ok (true,l.map fun v=>(.fz,v))
 | _=>.bad
@[simp] def jKeys (a:EX):IX:=fun Γ=>(a Γ).bind fun x=>match x with
 | (.fz,.dic ks _)=>.ok (true,ks.map fun k=>(.fz,k))
 | _=>.bad
end Vm
end
section
set_option Elab.async false
set_option linter.all false
set_option maxRecDepth 100000
set_option maxHeartbeats 1000000
namespace Vl
open PySem L2 Vm PyProof.Rows
section
variable {K:KK} {F H:Hp}
mutual
theorem rep_key:∀ (n:Nat) (p:PV) (v:V),keyN n p=true→Rep K F p v→KeyV F (nkOf p) v∧keyG p=true∧(nkOf p).depth≤n
 | n,.non,v,_,h=>by unfold Rep at h; subst h; exact ⟨by unfold nkOf KeyV; rfl,rfl,Nat.zero_le _⟩
 | n,.int i,v,_,h=>by unfold Rep at h; subst h; exact ⟨by unfold nkOf KeyV; rfl,rfl,Nat.zero_le _⟩
 | n,.str l,v,_,h=>by unfold Rep at h; obtain ⟨rfl,h2⟩:=h; exact ⟨by unfold nkOf KeyV; rfl,by unfold keyG; exact h2,Nat.zero_le _⟩
 | 0,.tup l,v,s,_=>by unfold keyN at s; cases s
 | n+1,.tup l,v,s,h=>by
  unfold keyN at s
  unfold Rep at h
  obtain ⟨a,vs,rfl,h2,h3⟩:=h
  obtain ⟨d1,d2,d3⟩:=rep_keys n l vs s h3
  exact ⟨by unfold nkOf KeyV; exact ⟨a,vs,rfl,h2,d1⟩,by unfold keyG; exact d2,by unfold nkOf NestedKey.depth; omega⟩
 | n,.bl _,v,s,_=>by unfold keyN at s; cases s
 | n,.lst _,v,s,_=>by unfold keyN at s; cases s
 | n,.dic _ _,v,s,_=>by unfold keyN at s; cases s
 | n,.exo _ _,v,s,_=>by unfold keyN at s; cases s
theorem rep_keys:∀ (n:Nat) (l:List PV) (vs:List V),keyNL n l=true→RepL K F l vs→KeyVs F (nkOfL l) vs∧keyGL l=true∧NestedKey.depthAll (nkOfL l)≤n
 | n,[],vs,_,h=>by unfold RepL at h; subst h; exact ⟨by unfold nkOfL KeyVs; rfl,rfl,Nat.zero_le _⟩
 | n,x :: xs,vs,s,h=>by
  unfold keyNL at s
  rw [Bool.and_eq_true] at s
  unfold RepL at h
  obtain ⟨v,r,rfl,h2,h3⟩:=h
  obtain ⟨a1,a2,a3⟩:=rep_key n x v s.1 h2
  obtain ⟨b1,b2,b3⟩:=rep_keys n xs r s.2 h3
  exact ⟨by unfold nkOfL KeyVs; exact ⟨v,r,rfl,a1,b1⟩,by unfold keyGL; rw [a2,b2]; rfl,by unfold nkOfL NestedKey.depthAll; omega⟩
end
mutual
theorem keyV_rep:∀ (p:PV) (v:V),keyG p=true→KeyV F (nkOf p) v→Rep K F p v
 | .non,v,_,h=>by unfold nkOf KeyV at h; unfold Rep; exact h
 | .int i,v,_,h=>by unfold nkOf KeyV at h; unfold Rep; exact h
 | .str l,v,s,h=>by unfold nkOf KeyV at h; unfold keyG at s; unfold Rep; exact ⟨h,s⟩
 | .tup l,v,s,h=>by
  unfold nkOf KeyV at h
  unfold keyG at s
  unfold Rep
  obtain ⟨a,vs,h1,h2,h3⟩:=h
  exact ⟨a,vs,h1,h2,keyVs_rep l vs s h3⟩
 | .bl _,v,s,_=>by unfold keyG at s; cases s
 | .lst _,v,s,_=>by unfold keyG at s; cases s
 | .dic _ _,v,s,_=>by unfold keyG at s; cases s
 | .exo _ _,v,s,_=>by unfold keyG at s; cases s
theorem keyVs_rep:∀ (l:List PV) (vs:List V),keyGL l=true→KeyVs F (nkOfL l) vs→RepL K F l vs
 | [],vs,_,h=>by unfold nkOfL KeyVs at h; unfold RepL; exact h
 | p :: ps,vs,s,h=>by
  unfold nkOfL KeyVs at h
  unfold keyGL at s
  rw [Bool.and_eq_true] at s
  obtain ⟨v,r,h1,h2,h3⟩:=h
  unfold RepL
  exact ⟨v,r,h1,keyV_rep p v s.1 h2,keyVs_rep ps r s.2 h3⟩
end
mutual
theorem keyV_nested {P:Program} {w:World} {h:Heap} (ok:HOk P w H h):∀ (k:NestedKey) (v:V) (u:Value),KeyV H k v→RelV v u→NestedIs h k u
 | .none,v,u,g,r=>by unfold KeyV at g; subst g; cases r; exact .none
 | .num i,v,u,g,r=>by unfold KeyV at g; subst g; obtain ⟨t,rfl⟩:=r; exact .int _ _
 | .text x,v,u,g,r=>by unfold KeyV at g; subst g; obtain ⟨t,rfl⟩:=r; exact .text _ _
 | .tup ks,v,u,g,r=>by
  unfold KeyV at g
  obtain ⟨a,vs,rfl,⟨ob,_,h2⟩,h3⟩:=g
  cases r
  obtain ⟨_,_,its,rv,o,h4,h5,n,h6⟩:=(show ObjOk P w H h a (tq (ob,vs)) from ok a _ h2)
  exact .tup h4 h5 h6 (by simpa using keyVs_nested ok ks vs its h3 rv)
theorem keyVs_nested {P:Program} {w:World} {h:Heap} (ok:HOk P w H h):∀ (k:List NestedKey) (v:List V) (u:List Value),KeyVs H k v→Vals v u→NestedAll h k u
 | [],v,u,g,r=>by unfold KeyVs at g; subst g; cases r; exact .nil
 | k :: ks,v,u,g,r=>by
  unfold KeyVs at g
  obtain ⟨x,xs,rfl,h2,h3⟩:=g
  cases r with
  | cons r1 r2=>exact .cons (keyV_nested ok k x _ h2 r1) (keyVs_nested ok ks xs _ h3 r2)
end
end
mutual
theorem eqv_nk:∀ (n m:Nat) (p q:PV),keyN n p=true→keyN m q=true→(eqv p q=true ↔ nkOf p=nkOf q)
 | n,m,.non,q,_,h=>by cases q <;> simp [keyN] at h <;> simp [eqv,nkOf]
 | n,m,.int i,q,_,h=>by cases q <;> simp [keyN] at h <;> simp [eqv,nkOf]
 | n,m,.str b,q,_,h=>by cases q <;> simp [keyN] at h <;> simp [eqv,nkOf]
 | n,m,.tup l,q,s,h=>by
  cases n with
  | zero=>simp [keyN] at s
  | succ n =>
   cases q with
   | tup k =>
    cases m with
    | zero=>simp [keyN] at h
    | succ m =>
     unfold keyN at s h
     unfold eqv nkOf
     rw [eqvL_nk n m l k s h]
     exact ⟨fun z=>by rw [z],fun z=>by injection z⟩
   | non=>simp [eqv,nkOf]
   | int _=>simp [eqv,nkOf]
   | str _=>simp [eqv,nkOf]
   | _=>simp [keyN] at h
 | n,m,.bl _,q,s,_=>by simp [keyN] at s
 | n,m,.lst _,q,s,_=>by simp [keyN] at s
 | n,m,.dic _ _,q,s,_=>by simp [keyN] at s
 | n,m,.exo _ _,q,s,_=>by simp [keyN] at s
theorem eqvL_nk:∀ (n m:Nat) (p q:List PV),keyNL n p=true→keyNL m q=true→(eqvL p q=true ↔ nkOfL p=nkOfL q)
 | _,_,[],[],_,_=>by simp [eqvL]
 | _,_,[],_ :: _,_,_=>by simp [eqvL,nkOfL]
 | _,_,_ :: _,[],_,_=>by simp [eqvL,nkOfL]
 | n,m,x :: xs,y :: ys,s,h=>by
  unfold keyNL at s h
  rw [Bool.and_eq_true] at s h
  unfold eqvL nkOfL
  rw [Bool.and_eq_true,eqv_nk n m x y s.1 h.1,eqvL_nk n m xs ys s.2 h.2]
  exact ⟨fun z=>by rw [z.1,z.2],fun z=>by injection z with a b; exact ⟨a,b⟩⟩
end
theorem keyL_N{p:PV}(h:keyL p=true):keyN 8 p=true:=by cases p <;> simp [keyL] at h <;> simp [keyN]
theorem keyT_N{p:PV}(h:keyT p=true):keyN 8 p=true:=by cases p <;> simp [keyT] at h <;> simp [keyN,h]
theorem sameK_N{p:PV}{ks:List PV}(h:sameK p ks=true):keyN 8 p=true∧∀ q∈ks,keyN 8 q=true:=by
 unfold sameK at h
 rw [Bool.or_eq_true,Bool.and_eq_true,Bool.and_eq_true,List.all_eq_true,List.all_eq_true] at h
 rcases h with ⟨a,b⟩ | ⟨a,b⟩
 ·exact ⟨keyL_N a,fun q hq=>keyL_N (b q hq)⟩
 ·exact ⟨keyT_N a,fun q hq=>keyT_N (b q hq)⟩
section
variable {κ:Type} [DecidableEq κ] {f:κ→NestedKey}
theorem ix_val(inj:∀ a b,f a=f b→a=b){p:PV}{k:κ}(hp:nkOf p=f k)(h8:keyN 8 p=true):∀ {ks:List PV} {kvs:List (κ×V)},ks.map nkOf=kvs.map (fun q=>f q.1)→(∀ q∈ks,keyN 8 q=true)→valV kvs k=(dIx ks p).bind fun j=>(kvs.map (·.2))[j]?
 | [],[],_,_=>rfl
 | [],_ :: _,h,_=>by cases h
 | _ :: _,[],h,_=>by cases h
 | q :: ks,x :: kvs,h,g=>by
  rw [List.map_cons,List.map_cons] at h
  injection h with h1 h2
  have ih:=ix_val inj hp h8 h2 fun z hz=>g z (by simp [hz])
  have e:=eqv_nk 8 8 q p (g q (by simp)) h8
  unfold dIx
  by_cases hq:eqv q p=true
  ·rw [if_pos hq,valV_pos (inj _ _ (by rw [← h1,← hp]; exact e.mp hq))]; rfl
  ·rw [if_neg hq,valV_neg (fun z=>hq (e.mpr (by rw [h1,hp,z]))),ih]
   cases dIx ks p <;> rfl
theorem putK_cons{x:κ×V}{r:List (κ×V)}{k:κ}{v:V}(nd:((x :: r).map (·.1)).Nodup):putK (x :: r) k v=if x.1=k then (x.1,v) :: r else x :: putK r k v:=by
 unfold putK
 rw [List.any_cons,List.map_cons]
 by_cases h:x.1=k
 ·rw [if_pos h,decide_eq_true h,Bool.true_or,if_pos rfl,if_pos h]
  congr 1
  rw [List.map_cons,List.nodup_cons] at nd
  have:∀ y∈r,¬ y.1=k:=fun y hy z=>nd.1 (by rw [h,← z]; exact List.mem_map.mpr ⟨y,hy,rfl⟩)
  clear nd
  induction r with
  | nil=>rfl
  | cons y r ih=>rw [List.map_cons,if_neg (this y (by simp)),ih fun z hz=>this z (by simp [hz])]
 ·rw [if_neg h,decide_eq_false h,Bool.false_or,if_neg h]
  by_cases g:(r.any fun kv=>decide (kv.1=k))=true
  ·rw [if_pos g,if_pos g]
  ·rw [if_neg g,if_neg g]; rfl
theorem ix_put(inj:∀ a b,f a=f b→a=b){p:PV}{k:κ}(v:V)(hp:nkOf p=f k)(h8:keyN 8 p=true):∀ {ks:List PV} {kvs:List (κ×V)},ks.map nkOf=kvs.map (fun q=>f q.1)→(∀ q∈ks,keyN 8 q=true)→(kvs.map (·.1)).Nodup →
  (dPutK ks p).map nkOf=(putK kvs k v).map (fun q=>f q.1)∧(putK kvs k v).map (·.2)=dPutV ks (kvs.map (·.2)) p v
 | [],[],_,_,_=>⟨by simp [dPutK,putK,hp],by simp [dPutV,putK]⟩
 | [],_ :: _,h,_,_=>by cases h
 | _ :: _,[],h,_,_=>by cases h
 | q :: ks,x :: kvs,h,g,nd=>by
  rw [putK_cons nd]
  rw [List.map_cons,List.map_cons] at h
  injection h with h1 h2
  have nd':=nd
  rw [List.map_cons,List.nodup_cons] at nd'
  obtain ⟨ih1,ih2⟩:=ix_put inj v hp h8 h2 (fun z hz=>g z (by simp [hz])) nd'.2
  have e:=eqv_nk 8 8 q p (g q (by simp)) h8
  unfold dPutK
  rw [List.map_cons]
  unfold dPutV
  by_cases hq:eqv q p=true
  ·have hx:x.1=k:=inj _ _ (by rw [← h1,← hp]; exact e.mp hq)
   rw [if_pos hq,if_pos hx,if_pos hq,List.map_cons,List.map_cons,h1,h2,List.map_cons]
   exact ⟨rfl,rfl⟩
  ·have hx:¬ x.1=k:=fun z=>hq (e.mpr (by rw [h1,hp,z]))
   rw [if_neg hq,if_neg hx,if_neg hq,List.map_cons,List.map_cons,h1,ih1,List.map_cons,ih2]
   exact ⟨rfl,rfl⟩
end
theorem repL_put{K:KK}{F:Hp}{p:PV}{q:PV}{v:V}(g:Rep K F q v):∀ {ks l:List PV} {vs:List V},RepL K F l vs→RepL K F (dPutV ks l p q) (dPutV ks vs p v)
 | [],l,vs,_=>by unfold dPutV; exact RepL.cons g RepL.nil
 | _ :: _,[],vs,h=>by unfold RepL at h; subst h; unfold dPutV; exact RepL.cons g RepL.nil
 | k :: ks,x :: l,vs,h=>by
  unfold RepL at h
  obtain ⟨u,r,rfl,h1,h2⟩:=h
  unfold dPutV
  split
  ·exact RepL.cons g h2
  ·exact RepL.cons h1 (repL_put g h2)
theorem keyG_put{p:PV}(hp:keyG p=true):∀ {ks:List PV},ks.all keyG=true→(dPutK ks p).all keyG=true
 | [],_=>by simp [dPutK,hp]
 | k :: ks,h=>by
  rw [List.all_cons,Bool.and_eq_true] at h
  unfold dPutK
  split
  ·rw [List.all_cons,h.1,h.2]; rfl
  ·rw [List.all_cons,h.1,keyG_put hp h.2]; rfl
def leafOf:PV→Leaf
 | .int i=>.num i
 | .str l=>.text ⟨l.toArray⟩
 | _=>.none
theorem leafOf_key{p:PV}(h:keyL p=true):nkOf p=(leafOf p).key:=by cases p <;> simp [keyL] at h <;> rfl
theorem leaf_is{K:KK}{F:Hp}{p:PV}{v:V}{u:Value}(h:keyL p=true)(r:Rep K F p v)(rv:RelV v u):plIs (leafOf p) u=true:=by
 cases p <;> simp [keyL] at h <;> unfold Rep at r
 ·subst r; cases rv; rfl
 ·subst r; obtain ⟨t,rfl⟩:=rv; show (decide (_=_) && true)=true; simp
 ·obtain ⟨rfl,_⟩:=r; obtain ⟨t,rfl⟩:=rv; show (Leaf.isOf _ _ && true)=true; rw [Bool.and_true]; exact mixKind_str K.P K.w _ t
theorem is_leaf{K:KK}{F:Hp}{p:PV}{u:Value}(h:keyL p=true)(g:keyG p=true)(i:plIs (leafOf p) u=true):∃ x,Rep K F p x∧RelV x u:=by
 unfold plIs at i
 rw [Bool.and_eq_true] at i
 obtain ⟨i,nb⟩:=i
 cases p <;> simp [keyL] at h
 ·refine ⟨.non,rep_non,?_⟩
  cases u <;> first | rfl | exact absurd i Bool.false_ne_true
 ·rename_i j
  refine ⟨.int j,rep_int,?_⟩
  cases u with
  | int a t=>have:a=j:=of_decide_eq_true i; subst this; exact ⟨t,rfl⟩
  | bool b=>cases nb
  | _=>exact absurd i Bool.false_ne_true
 ·rename_i l
  refine ⟨.str ⟨l.toArray⟩,rep_str (by unfold keyG at g; exact g),?_⟩
  exact Value.isStrOf_shape (show Value.isStrOf ⟨l.toArray⟩ u=true from i)
theorem toLeaf{K:KK}{F:Hp}{o:Obj}{ks:List PV}{vs:List V}(h:DicK K F o (ks.map nkOf) vs)(hk:ks.all keyL=true):LeafK K o (ks.map nkOf) vs:=by
 rcases h with h | ⟨kvs,xs,es,ep,h1,h2,h3,h4,h5,h6,h7,h8⟩
 ·exact h
 ·cases ks with
  | nil =>
   cases kvs with
   | nil =>
    cases h5
    refine ⟨[],[],es,ep,h1,h2,rfl,h4,.nil,fun e he=>?_,?_,List.nodup_nil,Nat.zero_le _⟩
    ·have:es = #[]:=by simpa using h6
     subst this; simp at he
    ·rw [h6]; exact .nil
   | cons _ _=>cases h3
  | cons k ks =>
   cases kvs with
   | nil=>cases h3
   | cons x kvs =>
    exfalso
    rw [List.map_cons,List.map_cons] at h3
    injection h3 with h3 _
    rw [List.all_cons,Bool.and_eq_true] at hk
    cases h5 with
    | cons r _ =>
     obtain ⟨_,kv,_⟩:=r
     rw [← h3] at kv
     have hk1:=hk.1
     cases k <;> simp [keyL] at hk1 <;> (unfold nkOf KeyV at kv; cases kv)
theorem toTup{K:KK}{F:Hp}{o:Obj}{ks:List PV}{vs:List V}(h:DicK K F o (ks.map nkOf) vs)(hk:ks.all keyT=true):TupK K F o (ks.map nkOf) vs:=by
 rcases h with ⟨kvs,rs,es,ep,h1,h2,h3,h4,h5,h6,h7,h8,h9⟩ | h
 ·cases ks with
  | nil =>
   cases kvs with
   | nil =>
    cases h5
    have hes:es.toList=[]:=by cases h7':es.toList with
     | nil=>rfl
     | cons _ _=>rw [h7'] at h7; cases h7
    exact ⟨[],[],es,ep,h1,h2,rfl,h4,.nil,hes,List.nodup_nil,Nat.zero_le _⟩
   | cons _ _=>cases h3
  | cons k ks =>
   cases kvs with
   | nil=>cases h3
   | cons x kvs =>
    exfalso
    rw [List.map_cons,List.map_cons] at h3
    injection h3 with h3 _
    rw [List.all_cons,Bool.and_eq_true] at hk
    have hk1:=hk.1
    cases k <;> simp [keyT] at hk1
    unfold nkOf at h3
    generalize x.1=y at h3
    cases y <;> cases h3
 ·exact h
theorem sameK_cases{p:PV}{ks:List PV}(h:sameK p ks=true):(keyL p=true∧ks.all keyL=true) ∨ (keyT p=true∧ks.all keyT=true):=by
 unfold sameK at h
 rw [Bool.or_eq_true,Bool.and_eq_true,Bool.and_eq_true] at h
 exact h
section
variable {X:Cx} {pins:List (Addr×Obj)} {σ:L2.St} {F H:Hp} {s:Shared} {a:Addr} {p:PV} {y v:V} {u r:Value} {A:Around} {E:Value→Shared→Prop} {o:Obj} {ks:List PV} {vs:List V}
theorem dx_get?(I:Inv X pins σ H s)(e:H a=some (dHO a o)):s.heap.get? a=some o:=(show ObjOk X.prog X.w H s.heap a (dHO a o) from I.hok a _ e).1
theorem leaf_dict(hg:s.heap.get? a=some o){nks:List NestedKey}(h:LeafK (kkX X) o nks vs):∃ (kvs:List (Leaf×V)) (rs:List (Leaf×Value)),nks=kvs.map (fun p=>p.1.key)∧vs=kvs.map (·.2)∧L2.KV kvs rs∧s.heap.DictOf (plK X.prog X.w) a rs∧(kvs.map (·.1)).Nodup∧kvs.length≤sizeLine:=by
 obtain ⟨kvs,rs,es,ep,h1,h2,h3,h4,h5,h6,h7,h8,h9⟩:=h
 exact ⟨kvs,rs,h3,h4,h5,⟨o,es,ep,hg,h1,h2,h6,h7,h8⟩,by rw [h5.keys]; exact h8,h9⟩
theorem kn_keys{kvs:List (NestedKey×V)}{xs:List (NestedKey×Addr×Value)}(h:KN F kvs xs):kvs.map (·.1)=xs.map (·.1):=by
 induction h with
 | nil=>rfl
 | cons h t ih=>rw [List.map_cons,List.map_cons,ih,h.1]
theorem tup_dict(I:Inv X pins σ H s)(hg:s.heap.get? a=some o)(hf:Same F H){nks:List NestedKey}(h:TupK (kkX X) F o nks vs):∃ (kvs:List (NestedKey×V)) (xs:List (NestedKey×Addr×Value)),nks=kvs.map (·.1)∧vs=kvs.map (·.2)∧KN F kvs xs∧s.heap.DictOfH (nestedKind X.prog X.w) a xs∧(kvs.map (·.1)).Nodup∧kvs.length≤sizeLine:=by
 obtain ⟨kvs,xs,es,ep,h1,h2,h3,h4,h5,h6,h7,h8⟩:=h
 refine ⟨kvs,xs,h3,h4,h5,⟨o,es,ep,hg,h1,h2,h6,?_,h7⟩,by rw [kn_keys h5]; exact h7,h8⟩
 clear h6 h7 h8 h3 h4
 induction h5 with
 | nil=>intro x hx; simp at hx
 | cons q t ih =>
  intro x hx
  rcases List.mem_cons.mp hx with e | hx
  ·subst e
   obtain ⟨q1,q2,q3,_⟩:=q
   rw [← q1]
   exact ⟨keyV_nested I.hok _ _ _ (KeyV.tups (fun _ _=>hf _ _) _ _ q2) rfl,q3⟩
  ·exact ih x hx
theorem kn_val{kvs:List (NestedKey×V)}{xs:List (NestedKey×Addr×Value)}(r:KN F kvs xs)(k:NestedKey):RelO (valV kvs k) ((atKey xs k).map (·.2)):=by
 induction r with
 | nil=>exact True.intro
 | @cons p q ps qs h t ih =>
  obtain ⟨h1,_,_,h2⟩:=h
  by_cases e:p.1=k
  ·have e':q.1=k:=h1.symm.trans e
   have b:atKey (q :: qs) k=some q.2:=by simp [atKey,List.find?_cons,e']
   rw [valV_pos e,b]; exact h2
  ·have e':¬ q.1=k:=fun z=>e (h1.trans z)
   have b:atKey (q :: qs) k=atKey qs k:=by simp [atKey,List.find?_cons,e']
   rw [valV_neg e,b]; exact ih
theorem kn_repl{kvs:List (NestedKey×V)}{xs:List (NestedKey×Addr×Value)}(r:KN F kvs xs)(k:NestedKey){y:V}{u:Value}(ry:RelV y u):KN F (kvs.map fun kv=>if kv.1=k then (kv.1,y) else kv) (xs.map (putAt k u)):=by
 induction r with
 | nil=>exact .nil
 | @cons p q ps qs h t ih =>
  rw [List.map_cons,List.map_cons]
  refine .cons ?_ ih
  obtain ⟨h1,h2,h3,h4⟩:=h
  unfold putAt
  by_cases e:p.1=k
  ·rw [if_pos e,if_pos (h1.symm.trans e)]; exact ⟨h1,h2,h3,ry⟩
  ·rw [if_neg e,if_neg (fun z=>e (h1.trans z))]; exact ⟨h1,h2,h3,h4⟩
theorem kn_put{kvs:List (NestedKey×V)}{xs:List (NestedKey×Addr×Value)}(r:KN F kvs xs)(k:NestedKey){b:Addr}{y:V}{u:Value}(hb:KeyV F k (.ref b))(hd:k.depth≤8)(ry:RelV y u):KN F (putK kvs k y) (storedH xs k b u):=by
 have e:(kvs.any fun kv=>decide (kv.1=k))=(atKey xs k).isSome:=by
  rw [valV_any,(kn_val r k).isSome_eq,Option.isSome_map]
 unfold putK storedH
 rw [e]
 by_cases q:(atKey xs k).isSome=true
 ·rw [if_pos q,if_pos q]; exact kn_repl r k ry
 ·rw [if_neg q,if_neg q]; exact Paired.snoc r ⟨rfl,hb,hd,ry⟩
theorem tup_ref{v:V}(h:keyT p=true)(r:Rep (kkX X) H p v):∃ b,v = .ref b:=by
 cases p <;> simp [keyT] at h
 unfold Rep at r
 obtain ⟨b,_,e,_⟩:=r
 exact ⟨b,e⟩
theorem dx_getItem{Q:Value→Shared→Prop}(hu:A.units+10 < cLine)(I:Inv X pins σ H s)(e:H a=some (dHO a o))(dk:DicK (kkX X) H o (ks.map nkOf) vs)(hs:sameK p ks=true)(rp:Rep (kkX X) H p y)(ry:RelV y u)
  (hv:((dIx ks p).bind fun j=>vs[j]?)=some v)(h:∀ w' s',Inv X pins σ H s'→RelV v w'→Q w' s'):wpAny (model X.prog X.w) A (getItem (.ref a) u) Q E s:=by
 have hg:=dx_get? I e
 obtain ⟨h8,hk8⟩:=sameK_N hs
 rcases sameK_cases hs with ⟨hp,hks⟩ | ⟨hp,hks⟩
 ·obtain ⟨kvs,rs,h3,h4,h5,dd,nd,hz⟩:=leaf_dict hg (toLeaf dk hks)
  have hval:=ix_val (fun a b=>Leaf.key_inj) (leafOf_key hp) h8 h3 hk8
  rw [h4] at hv
  obtain ⟨w',hw,rw'⟩:=RelO.some_of (v:=v) (o:=valueAt rs (leafOf p)) (by rw [← hv,← hval]; exact h5.val _)
  exact wpAny_getItem_of (knd:=plK X.prog X.w) (leaf_is hp rp ry) dd.mapOf hw (h w' _ (I.tok _) rw')
 ·obtain ⟨kvs,xs,h3,h4,h5,dd,nd,hz⟩:=tup_dict I hg (Same.refl _) (toTup dk hks)
  obtain ⟨b,rfl⟩:=tup_ref hp rp
  cases ry
  obtain ⟨kv,_,kd⟩:=rep_key 8 p _ h8 rp
  have hval:=ix_val (f:=id) (fun a b z=>z) (k:=nkOf p) rfl h8 h3 hk8
  rw [h4] at hv
  obtain ⟨w',hw,rw'⟩:=RelO.some_of (v:=v) (o:=(atKey xs (nkOf p)).map (·.2)) (by rw [← hv,← hval]; exact kn_val h5 _)
  obtain ⟨q,hq,hq2⟩:=Option.map_eq_some_iff.mp hw
  refine wpAny_getItem_heap (knd:=nestedKind X.prog X.w) (show A.in1.units+8 < cLine by rw [Around.in1_units]; omega) ⟨keyV_nested I.hok _ _ _ kv rfl,kd⟩ dd hq ?_
  rw [hq2]
  exact h w' _ (I.tok _) rw'
theorem dx_in{Q:Value→Shared→Prop}(neg:Bool)(hu:A.units+10 < cLine)(I:Inv X pins σ H s)(e:H a=some (dHO a o))(hd:(a == sysModules)=false)(dk:DicK (kkX X) H o (ks.map nkOf) vs)(hs:sameK p ks=true)(rp:Rep (kkX X) H p y)(ry:RelV y u)
  (h:∀ s',Inv X pins σ H s'→Q (.bool (if neg then !(dIx ks p).isSome else (dIx ks p).isSome)) s'):wpAny (model X.prog X.w) A (compareOp (if neg then .NotIn else .In) u (.ref a)) Q E s:=by
 have hg:=dx_get? I e
 obtain ⟨h8,hk8⟩:=sameK_N hs
 have hix:∀ {n:Nat},dIx ks p=some n→n < ks.length:=by
  intro n
  have:∀ (ks:List PV) (n:Nat),dIx ks p=some n→n < ks.length:=by
   intro ks
   induction ks with
   | nil=>intro n h; cases h
   | cons q ks ih =>
    intro n h
    unfold dIx at h
    split at h
    ·cases h; simp
    ·cases hq:dIx ks p with
     | none=>rw [hq] at h; cases h
     | some m=>rw [hq] at h; cases h; have:=ih m hq; simp; omega
  exact this ks n
 rcases sameK_cases hs with ⟨hp,hks⟩ | ⟨hp,hks⟩
 ·obtain ⟨kvs,rs,h3,h4,h5,dd,nd,hz⟩:=leaf_dict hg (toLeaf dk hks)
  have hval:=ix_val (fun a b=>Leaf.key_inj) (leafOf_key hp) h8 h3 hk8
  have q:=(h5.val (leafOf p)).isSome_eq
  have hlen:(kvs.map (·.2)).length=ks.length:=by have:=congrArg List.length h3; simpa using this.symm
  have hb:(dIx ks p).isSome=(valueAt rs (leafOf p)).isSome:=by
   rw [← q,hval]
   cases hx:dIx ks p with
   | none=>rfl
   | some n=>have:=hix hx; rw [Option.bind_some,List.getElem?_eq_getElem (show n < (kvs.map (·.2)).length by omega)]; rfl
  cases neg with
  | false=>exact wpAny_in_of (knd:=plK X.prog X.w) (leaf_is hp rp ry) hd dd.mapOf (by rw [← hb]; exact h _ (I.tok _))
  | true=>exact wpAny_notIn_of (knd:=plK X.prog X.w) (leaf_is hp rp ry) hd dd.mapOf (by rw [← hb]; exact h _ (I.tok _))
 ·obtain ⟨kvs,xs,h3,h4,h5,dd,nd,hz⟩:=tup_dict I hg (Same.refl _) (toTup dk hks)
  obtain ⟨b,rfl⟩:=tup_ref hp rp
  cases ry
  obtain ⟨kv,_,kd⟩:=rep_key 8 p _ h8 rp
  have hval:=ix_val (f:=id) (fun a b z=>z) (k:=nkOf p) rfl h8 h3 hk8
  have q:=(kn_val h5 (nkOf p)).isSome_eq
  rw [Option.isSome_map] at q
  have hlen:(kvs.map (·.2)).length=ks.length:=by have:=congrArg List.length h3; simpa using this.symm
  have hb:(dIx ks p).isSome=(atKey xs (nkOf p)).isSome:=by
   rw [← q,hval]
   cases hx:dIx ks p with
   | none=>rfl
   | some n=>have:=hix hx; rw [Option.bind_some,List.getElem?_eq_getElem (show n < (kvs.map (·.2)).length by omega)]; rfl
  have hr:A.in1.units+8 < cLine:=by rw [Around.in1_units]; omega
  cases neg with
  | false=>exact wpAny_in_heap (knd:=nestedKind X.prog X.w) hr ⟨keyV_nested I.hok _ _ _ kv rfl,kd⟩ hd dd (by rw [← hb]; exact h _ (I.tok _))
  | true=>exact wpAny_notIn_heap (knd:=nestedKind X.prog X.w) hr ⟨keyV_nested I.hok _ _ _ kv rfl,kd⟩ hd dd (by rw [← hb]; exact h _ (I.tok _))
theorem dx_setItem{Q:Unit→Shared→Prop}(hu:A.units+10 < cLine)(I:Inv X pins σ H s)(hf:Same F H)(e:H a=some (dHO a o))(dk:DicK (kkX X) F o (ks.map nkOf) vs)(hs:sameK p ks=true)(rp:Rep (kkX X) F p y)(ry:RelV y u)(rv:RelV v r)(hz:ks.length < sizeLine)
  (h:∀ o' s',DicK (kkX X) F o' ((dPutK ks p).map nkOf) (dPutV ks vs p v)→Inv X pins σ (upd H a (dHO a o')) s'→Q () s'):wpAny (model X.prog X.w) A (setItem (.ref a) u r) Q E s:=by
 have hg:=dx_get? I e
 obtain ⟨h8,hk8⟩:=sameK_N hs
 have mu:Mut (H a):=by rw [e]; exact True.intro
 have dkl:=dk.len
 rcases sameK_cases hs with ⟨hp,hks⟩ | ⟨hp,hks⟩
 ·obtain ⟨kvs,rs,h3,h4,h5,dd,nd,hz'⟩:=leaf_dict hg (toLeaf dk hks)
  have hlen:kvs.length=ks.length:=by have:=congrArg List.length h3; simpa using this.symm
  obtain ⟨p1,p2⟩:=ix_put (fun a b=>Leaf.key_inj) v (leafOf_key hp) h8 h3 hk8 nd
  refine wpAny_setItem_pairs (knd:=plK X.prog X.w) (hsz:=by rw [← h5.length]; exact hz') (leaf_is hp rp ry) dd fun h' dd' hs'=>?_
  obtain ⟨o',es,ep,g1,g2,g3,g4,g5,g6⟩:=dd'
  refine h o' _ (.inl ⟨putK kvs (leafOf p) v,_,es,ep,g2,g3,p1,by rw [p2,h4],h5.put _ rv,g4,g5,g6,?_⟩) (d_write (t':=s.toks+1) I mu hs' ⟨o',g1⟩ ⟨g1,⟨o',g1⟩,fun h1 h2 z k=>k _ z⟩)
  have:=length_putK kvs (leafOf p) v
  omega
 ·obtain ⟨kvs,xs,h3,h4,h5,dd,nd,hz'⟩:=tup_dict I hg hf (toTup dk hks)
  have rpH:Rep (kkX X) H p y:=Rep.mono hf _ _ rp
  obtain ⟨b,rfl⟩:=tup_ref hp rpH
  cases ry
  obtain ⟨kvF,_,kd⟩:=rep_key 8 p _ h8 rp
  obtain ⟨kv,_,_⟩:=rep_key 8 p _ h8 rpH
  have hlen:kvs.length=ks.length:=by have:=congrArg List.length h3; simpa using this.symm
  obtain ⟨p1,p2⟩:=ix_put (f:=id) (fun a b z=>z) (k:=nkOf p) v rfl h8 h3 hk8 nd
  refine wpAny_setItem_heap (knd:=nestedKind X.prog X.w) (hsz:=by rw [← Paired.length h5]; exact hz') (show A.in1.units+8 < cLine by rw [Around.in1_units]; omega) ⟨keyV_nested I.hok _ _ _ kv rfl,kd⟩ dd fun h' dd' hs'=>?_
  obtain ⟨o',es,ep,g1,g2,g3,g4,g5,g6⟩:=dd'
  refine h o' _ (.inr ⟨putK kvs (nkOf p) v,_,es,ep,g2,g3,p1,by rw [p2,h4],kn_put h5 _ kvF kd rv,g4,g6,?_⟩) (d_write (t':=s.toks+_) I mu hs' ⟨o',g1⟩ ⟨g1,⟨o',g1⟩,fun h1 h2 z k=>k _ z⟩)
  have:=length_putK kvs (nkOf p) v
  omega
end
end Vl
end
section
set_option Elab.async false
set_option linter.all false
set_option maxRecDepth 100000
set_option maxHeartbeats 1000000
namespace Vl
open PySem L2 Vm PyProof.Rows
section
variable {K:KK} {F H F1 H1:Hp}
theorem dic_exact{o:Obj}{nks:List NestedKey}{vs:List V}(h:DicK K F o nks vs):o.ExactDict:=by
 rcases h with ⟨_,_,_,_,z,_⟩ | ⟨_,_,_,_,z,_⟩ <;> exact z
theorem dic_raw{h:Heap}{a:Addr}{o:Obj}{nks:List NestedKey}{vs:List V}(hg:h.get? a=some o)(d:DicK K F o nks vs):∃ es ep,h.DictRaw a es ep∧es.size=nks.length:=by
 rcases d with ⟨kvs,rs,es,ep,h1,h2,rfl,_,h5,_,h7,_⟩ | ⟨kvs,xs,es,ep,h1,h2,rfl,_,h5,h6,_⟩
 ·refine ⟨es,ep,⟨o,hg,h1,h2⟩,?_⟩
  have:=h7.length
  have:=h5.length
  simp at *
  omega
 ·refine ⟨es,ep,⟨o,hg,h1,h2⟩,?_⟩
  have:=congrArg List.length h6
  have:=Paired.length h5
  simp at *
  omega
theorem Ext.new(h:Same F H)(t:Tups F H){p:Addr}{o:HO}(ho:∀ xs,o ≠ tq xs)(hp:H p=none):Ext F H F (upd H p o) :=
 ⟨Same.refl _,same_new hp,h.trans (same_new hp),tups_new t ho (h.free hp),fun _ q=>.inl q⟩
theorem rep_dic{ks l:List PV}{v:V}(h:Rep K F (.dic ks l) v):∃ a o vs,v = .ref a∧F a=some (dHO a o)∧(a == sysModules)=false∧DicK K F o (ks.map nkOf) vs∧ks.all keyG=true∧RepL K F l vs:=by
 unfold Rep at h; exact h
theorem own_dic{d:Nat}{fp:List Addr}{ks l:List PV}{v:V}(h:Own K F H (d+1) fp (.dic ks l) v):∃ a o vs fps,v = .ref a∧H a=some (dHO a o)∧(a == sysModules)=false∧DicK K F o (ks.map nkOf) vs∧ks.all keyG=true∧fp=a :: fps.flatten∧OwnL (Own K F H d) fps l vs:=by
 rcases h with ⟨l',a,vs,fps,h1,h2,h3,h4⟩ | ⟨_,h,_⟩
 ·rcases h2 with ⟨e,_⟩ | ⟨ks',o,e,z1,z2,z3,z4⟩ | ⟨_,_,e,_⟩
  ·cases e
  ·cases e
   exact ⟨a,o,vs,fps,h1,z1,z2,z3,z4,h3,h4⟩
  ·cases e
 ·cases h
theorem own_mkD{d:Nat}{ks l:List PV}{a:Addr}{o:Obj}{vs:List V}{fps:List (List Addr)}(z1:H a=some (dHO a o))(z2:(a == sysModules)=false)(z3:DicK K F o (ks.map nkOf) vs)(z4:ks.all keyG=true)(h:OwnL (Own K F H d) fps l vs):Own K F H (d+1) (a :: fps.flatten) (.dic ks l) (.ref a) :=
 .inl ⟨l,a,vs,fps,rfl,.inr (.inl ⟨ks,o,rfl,z1,z2,z3,z4⟩),rfl,h⟩
theorem rv_partD{Hs:Hp}{t:Tg}{ks l:List PV}{v:V}(hf:Same F H)(h:RV K F H Hs (t,.dic ks l) v):∃ a o vs,v = .ref a∧H a=some (dHO a o)∧(a == sysModules)=false∧DicK K H o (ks.map nkOf) vs∧RepL K H l vs∧∀ (j:Nat) p u,l[j]? = some p→vs[j]? = some u→∀ Hs',RV K F H Hs' (dn t,p) u:=by
 have zero:Rep K F (.dic ks l) v→∃ a o vs,v = .ref a∧H a=some (dHO a o)∧(a == sysModules)=false∧DicK K H o (ks.map nkOf) vs∧RepL K H l vs∧∀ (j:Nat) p u,l[j]? = some p→vs[j]? = some u→∀ Hs',RV K F H Hs' (.fz,p) u:=fun r=>by
  obtain ⟨a,o,vs,rfl,h2,h3,h4,h5,h6⟩:=rep_dic r
  refine ⟨a,o,vs,rfl,hf _ _ h2,h3,h4.tups fun _ _=>hf _ _,h6.mono hf _ _,fun j p u e1 e2 Hs'=>.fz ?_⟩
  obtain ⟨u',e3,r⟩:=h6.get e1
  rw [e2] at e3; cases e3
  exact r
 have own:∀ {d:Nat} {fp:List Addr},Own K F H d fp (.dic ks l) v→∃ a o vs,v = .ref a∧H a=some (dHO a o)∧(a == sysModules)=false∧DicK K H o (ks.map nkOf) vs∧RepL K H l vs∧∀ (j:Nat) p u,l[j]? = some p→vs[j]? = some u→∀ Hs',RV K F H Hs' (dn (.bw d),p) u:=by
  intro d fp h
  cases d with
  | zero=>exact zero h.2
  | succ d =>
   obtain ⟨a,o,vs,fps,rfl,h2,h3,h4,h5,h6,h7⟩:=own_dic h
   refine ⟨a,o,vs,rfl,h2,h3,h4.tups fun _ _=>hf _ _,ownl_rep hf h7,fun j p u e1 e2 Hs'=>?_⟩
   obtain ⟨f,o⟩:=own_part h7 e1 e2
   cases d with
   | zero=>exact .fz o.2
   | succ d=>exact ⟨[],f,o⟩
 cases t with
 | fz=>obtain ⟨_,r⟩:=h; exact zero r
 | bw d=>obtain ⟨_,fp,h⟩:=h; exact own h
 | ow d =>
  obtain ⟨fp,h,_⟩:=h
  obtain ⟨a,o,vs,h1,h2,h3,h4,h5,h6⟩:=own h
  refine ⟨a,o,vs,h1,h2,h3,h4,h5,?_⟩
  cases d with
  | zero=>exact h6
  | succ d=>cases d with
   | zero=>exact h6
   | succ d=>exact h6
end
section
variable {C:Cn} {cm:Bool} {k:Nat} {N:List Str} {sc so:Scope} {a b c e o tg kx:Expr} {es:List Expr} {A B J:EX} {As:EXs} {T U:TX} {pos p tpos apos cpos p1 p2:Pos} {X:Cx} {x:Str}
theorem Sta.u10(S:Sta C cm k N sc X):X.A.units+10 < cLine:=by have:=S.u; omega
def tDX(K:KK)(td ty:TE):TE:=fun σ H Q=>td σ H fun x H1=>ty σ H1 fun y H2=>∃ a o ks vs p v,x = .ref a∧H2 a=some (dHO a o)∧DicK K H2 o (ks.map nkOf) vs∧sameK p ks=true∧Rep K H2 p y∧((dIx ks p).bind fun j=>vs[j]?)=some v∧Q v H2
theorem pe_dx{td ty:TE}{i:Expr}(hu:X.A.units+10 < cLine)(ho:PE X o td)(hi:PE X i ty)(hs:NoSl i):PE X (.Subscript o i pos) (tDX (kkX X) td ty):=by
 refine ⟨fun pins s σ H Q I h=>?_⟩
 refine subD_of PySem.F.slot_dict_getitem.lookup hs (thn (ho.run pins s σ H _ I h) fun u s1 ⟨x,H1,I1,rx,q1⟩=>thn (hi.run pins s1 σ H1 _ I1 q1) fun iv s2 ⟨y,H2,I2,ry,a,ob,ks,vs,p,v,ex,g1,g2,g3,g4,g5,q2⟩=>?_)
 subst ex
 obtain rfl:u=Value.ref a:=rx
 exact ⟨⟨ob,dx_get? I2 g1,(dic_exact g2).1⟩,dx_getItem hu I2 g1 g2 g3 g4 ry g5 fun w' s3 I3 rw'=>⟨v,H2,I3,rw',q2⟩⟩
theorem de_didx(ha:DE C cm k N sc a A)(hb:DE C cm k N sc b B)(hs:NoSl b:=by exact fun _ _=>rfl):DE C cm k N sc (.Subscript a b pos) (eDIdx A B):=by
 obtain ⟨ta,pa,qa⟩:=ha
 obtain ⟨tb,pb,qb⟩:=hb
 refine ⟨fun W=>tDX C.K (ta W) (tb W),fun X S W T=>by rw [← S.KK]; exact pe_dx S.u10 (pa X S W T) (pb X S W T) hs,fun W σ Γ F0 H0 F H Q g h=>?_⟩
 refine qa W σ Γ F0 H0 F H _ g (EOk.bind h fun x v F1 H1 ex e1 r1 h1=>?_)
 refine qb W σ Γ F0 H0 F1 H1 _ (g.next e1) (EOk.bind (h1.next e1) fun y u F2 H2 ey e2 r2 h2=>?_)
 have h3:=h2.next e2
 have ry:=r2.rep e2.fh
 have rx:=r1.ext e2
 obtain ⟨t,q⟩:=x
 cases q with
 | dic ks l =>
  obtain ⟨ad,ob,vs,rfl,g1,g2,g3,g4,g5⟩:=rv_partD e2.fh rx
  have h4:EOk C W σ F2 H2 Q (if sameK y.2 ks then (match dGet ks l y.2 with
   | some x=>.ok (dn t,x)
   | none=>.bad) else .bad):=h3
  by_cases hk:sameK y.2 ks=true
  ·rw [if_pos hk] at h4
   cases hd:dGet ks l y.2 with
   | none=>rw [hd] at h4; exact h4.elim
   | some z =>
    rw [hd] at h4
    unfold dGet at hd
    cases hj:dIx ks y.2 with
    | none=>rw [hj] at hd; cases hd
    | some j =>
     rw [hj] at hd
     have hd:l[j]? = some z:=hd
     obtain ⟨w,hw,rw'⟩:=g4.get hd
     exact ⟨ad,ob,ks,vs,y.2,w,rfl,g1,g3,hk,ry,by rw [hj]; exact hw,h4 w F2 H2 (Ext.refl e2.fh e2.tp) (g5 j z w hd hw _)⟩
  ·rw [if_neg hk] at h4; exact h4.elim
 | _=>exact h3.elim
def rDIn(K:KK)(neg:Bool):R2:=fun x y H Q=>∃ p q b,Rep K H p x∧Rep K H q y∧dinB p q = .ok b∧Q (.bl (if neg then !b else b)) H
theorem op_dinP(hu:X.A.units+10 < cLine)(neg:Bool):OpR X (compareOp (if neg then .NotIn else .In)) (rDIn (kkX X) neg):=by
 intro pins s σ H x y v u Q I rx ry h
 obtain ⟨p,q,b,rp,rq,hb,hq⟩:=h
 cases q with
 | dic ks l =>
  obtain ⟨a,ob,vs,rfl,g1,g2,g3,g4,g5⟩:=rep_dic rq
  cases ry
  have hb:(if sameK p ks then (.ok (dIx ks p).isSome:Res Bool) else .bad) = .ok b:=hb
  by_cases hk:sameK p ks=true
  ·rw [if_pos hk] at hb
   cases hb
   exact dx_in neg hu I g1 g2 g3 hk rp rx fun s' I'=>⟨_,H,I',by cases neg <;> rfl,hq⟩
  ·rw [if_neg hk] at hb; cases hb
 | _=>cases hb
theorem dinB_noexc{p q:PV}{c:Nat}:dinB p q ≠ .exc c:=by
 intro h
 cases q with
 | dic ks l =>
  have h:(if sameK p ks then (.ok (dIx ks p).isSome:Res Bool) else .bad) = .exc c:=h
  split at h <;> cases h
 | _=>cases h
theorem op2_din:Op2 C (rDIn C.K false) opDIn:=by
 intro p q v u H Q rp rq
 unfold opDIn
 cases e:dinB p q with
 | ok b=>exact fun hq=>⟨p,q,b,rp,rq,e,hq fun F=>rep_bl⟩
 | exc c=>exact (dinB_noexc e).elim
 | bad=>trivial
theorem op2_dnotIn:Op2 C (rDIn C.K true) opDNotIn:=by
 intro p q v u H Q rp rq
 unfold opDNotIn
 cases e:dinB p q with
 | ok b=>exact fun hq=>⟨p,q,b,rp,rq,e,hq fun F=>rep_bl⟩
 | exc c=>exact (dinB_noexc e).elim
 | bad=>trivial
theorem dc_din(ha:DE C cm k N sc a A)(hb:DE C cm k N sc b B):DCm C cm k N sc .In a b (eOp2 opDIn A B):=dc_op (r:=rDIn C.K false) (fun X S=>by rw [← S.KK]; exact op_dinP S.u10 false) op2_din ha hb
theorem dc_dnotIn(ha:DE C cm k N sc a A)(hb:DE C cm k N sc b B):DCm C cm k N sc .NotIn a b (eOp2 opDNotIn A B):=dc_op (r:=rDIn C.K true) (fun X S=>by rw [← S.KK]; exact op_dinP S.u10 true) op2_dnotIn ha hb
def rLenX(K:KK):List V→Hp→VK→Prop:=fun xs H Q=>∃ a o nks vs,xs=[.ref a]∧H a=some (dHO a o)∧(a == sysModules)=false∧DicK K H o nks vs∧Q (.int nks.length) H
theorem call_lenX:CallR X (.builtin "len") (rLenX (kkX X)):=by
 intro pins s σ H xs us Q I r h
 obtain ⟨a,ob,nks,vs,rfl,g1,g2,g3,q⟩:=h
 obtain ⟨u,rfl,ru⟩:=Vals.one r
 cases ru
 obtain ⟨es,ep,hr,hsz⟩:=dic_raw (dx_get? I g1) g3
 have hle:nks.length≤sizeLine:=by
  rcases g3 with ⟨_,_,_,_,_,_,rfl,_,_,_,_,_,h9⟩ | ⟨_,_,_,_,_,_,rfl,_,_,_,_,h8⟩ <;> simpa
 rw [sizeLine_eq] at hle
 refine PyProof.Rows.call_len_slot (n:=nks.length) hr.typeIs PySem.F.slot_dict_len (fun Q' hq=>call_len_raw g2 hr (by rw [hsz]; exact hq)) (by omega) (by omega) ⟨.int nks.length,H,I.tok _,⟨_,rfl⟩,q⟩
theorem de_dlen (ha:DE C cm k N sc a A) (mx:C.mg "len" = none) (hg:sc.names.lookup ("len":Str)=some .globalImplicit:=by rfl)
  (hst:∀ env:PySem.Env,starEach [a] env=(false,eval a env) :: starEach [] env:=by intro _; rfl):DE C cm k N sc (.Call (.Name "len" p) [a] [] pos) (eDLen A) :=
 de_b1 (r:=rLenX C.K) (fun X S=>by rw [← S.KK]; exact call_lenX) (fun W σ x v F H Hs Q hf ht rv h=>by
  have r:=rv.rep hf
  obtain ⟨t,q⟩:=x
  cases q with
  | dic ks l =>
   obtain ⟨ad,ob,vs,rfl,g1,g2,g3,g4,g5⟩:=rep_dic r
   exact ⟨ad,ob,ks.map nkOf,vs,rfl,g1,g2,g3,h _ F H (Ext.refl hf ht) (.fz (by rw [List.length_map]; exact rep_int))⟩
  | _=>exact h.elim) mx (by decide +kernel) (by decide) (by decide) ha hg hst
def dNew:Obj:={ cls:=.type "dict",data:=.dict #[] }
theorem dicK_new{K:KK}{F:Hp}:DicK K F dNew [] []:=.inl ⟨[],[],#[],0,⟨rfl,rfl,rfl⟩,rfl,rfl,rfl,.nil,fun e he=>by simp at he,.nil,List.nodup_nil,Nat.zero_le _⟩
def tDNewX:TE:=fun _ H Q=>∀ p,H p=none→(p == sysModules)=false→Q (.ref p) (upd H p (dHO p dNew))
theorem new_ok{pins:List (Addr×Obj)}{σ:L2.St}{H:Hp}{s:Shared}{t':Nat}(I:Inv X pins σ H s):Inv X pins σ (upd H s.heap.objs.size (dHO s.heap.objs.size dNew)) { s with heap:=s.heap.push dNew,toks:=t' }∧(s.heap.objs.size == sysModules)=false :=
 ⟨I.laid (a:=s.heap.objs.size) (t':=t') (fun _ _ q=>Heap.get?_push_of_some _ q) (Nat.le_refl _) ⟨Heap.get?_push_size _ rfl,⟨_,Heap.get?_push_size _ rfl⟩,fun h1 h2 z k=>k _ z⟩,beq_eq_false_iff_ne.mpr (Ne.symm (Nat.ne_of_lt I.big))⟩
theorem pe_dnewX:PE X (.Dict [] [] pos) tDNewX:=⟨fun pins s σ H Q I h=>by
 obtain ⟨I1,hd⟩:=new_ok (t':=s.toks) I
 exact wpAny_Dict_empty ⟨.ref s.heap.objs.size,_,I1,rfl,h _ (I.hok.fresh (Nat.le_refl _)) hd⟩⟩
end
end Vl
end
section
set_option Elab.async false
set_option linter.all false
set_option maxRecDepth 100000
set_option maxHeartbeats 1000000
namespace Vl
open PySem L2 Vm PyProof.Rows
section
variable {C:Cn} {cm:Bool} {k:Nat} {N:List Str} {sc so:Scope} {a b c e f o tg kx:Expr} {es:List Expr} {A B J E:EX} {As:EXs} {T U:TX} {pos p tpos apos cpos p1 p2 pos':Pos} {X:Cx} {x:Str}
theorem fzK_ok{y:TV}{q:PV}(h:fzK y = .ok q):y=(.fz,q):=by
 obtain ⟨t,p⟩:=y
 cases t with
 | fz=>cases h; rfl
 | _=>cases h
theorem fzK_noexc{y:TV}{c:Nat}:fzK y ≠ .exc c:=by
 obtain ⟨t,p⟩:=y
 cases t <;> (intro h; cases h)
def sDX(K:KK)(td ty tv:TE):TS:=fun D σ H=>tv σ H fun v H1=>td σ H1 fun x H2=>ty σ H2 fun y H3=>∃ F a o ks vs p,x = .ref a∧Same F H3∧H3 a=some (dHO a o)∧DicK K F o (ks.map nkOf) vs∧sameK p ks=true∧Rep K F p y∧ks.length < sizeLine ∧
 ∀ o',DicK K F o' ((dPutK ks p).map nkOf) (dPutV ks vs p v)→D.nx σ (upd H3 a (dHO a o'))
theorem ps_dx{td ty tv:TE}{i value:Expr}(hu:X.A.units+10 < cLine)(ho:PE X o td)(hi:PE X i ty)(hv:PE X value tv)(hs:swapsWith value (some (.Subscript o i pos')) pos.line X.env=pure false):PS X (.Assign [.Subscript o i pos'] value pos) (sDX (kkX X) td ty tv):=by
 refine ⟨fun pins s σ H D I h=>?_⟩
 refine wpAny_Assign_Subscript (thn (hv.run pins s σ H _ I h) fun r s1 ⟨v,H1,I1,rv,q1⟩=>thn (ho.run pins s1 σ H1 _ I1 q1) fun u s2 ⟨x,H2,I2,rx,q2⟩=>thn (hi.run pins s2 σ H2 _ I2 q2) fun iv s3 ⟨y,H3,I3,ry,F,a,ob,ks,vs,p,ex,g0,g1,g2,g3,g4,g5,q3⟩=>?_) hs
 subst ex
 obtain rfl:u=Value.ref a:=rx
 exact dx_setItem hu I3 g0 g1 g2 g3 g4 ry rv g5 fun o' s4 d' I4=>⟨σ,_,I4,q3 o' d'⟩
end
end Vl
end
section
set_option Elab.async false
set_option linter.all false
set_option maxRecDepth 100000
set_option maxHeartbeats 1000000
namespace Vl
open PySem L2 Vm PyProof.Rows
section
variable {C:Cn} {F0 H0 F H F1 H1:Hp} {Γ:En} {σ:L2.St}
def Go(C:Cn)(F0 H0 F H:Hp)(Γ:En)(σ:L2.St)(i:Nat)(fp:List Addr)(v:V):Prop:=∀ (F2 H2 H3:Hp) (d':Nat) (p':PV) (fp':List Addr),Ext F H F2 H2→(∀ a,a ∉ fp→H3 a=H2 a)→(∀ a∈fp,∀ xs,H3 a ≠ some (tq xs))→Own C.K F2 H3 d' fp' p' v→fp'.Nodup→(∀ a∈fp',a∈fp ∨ (H a=none∧F2 a=none))→GoodS C.K F0 H0 (Γ.set i (some (.ow d',p'))) σ F2 H3
theorem good_go{i:Nat}{d:Nat}{p:PV}(g:GoodS C.K F0 H0 Γ σ F H)(e:Γ.get i=some (.ow d,p)):∃ v fp,σ[i]? = some (some v)∧Own C.K F H d fp p v∧fp.Nodup∧(∀ a∈fp,F a=none∧H0 a=none)∧Go C F0 H0 F H Γ σ i fp v:=by
 obtain ⟨v,fp,h1,h2,h3,h4,h5⟩:=good_chg g e
 exact ⟨v,fp,h1,h2,h3,h4,fun _ _ _ _ _ _ a b c d e f=>h5 a b c d e f⟩
theorem Go.step{i d:Nat}{fp fp5:List Addr}{v:V}{p:PV}{x:Sl}{H5:Hp}(go:Go C F0 H0 F H Γ σ i fp v)(own:Own C.K F H d fp p v)(fr:∀ a∈fp,F a=none∧H0 a=none)(e:Ext F H F1 H1)(hfp:∀ a∈fp5,a∈fp ∨ (H a=none∧F1 a=none))(hsub:∀ a∈fp,a∈fp5)(h5:∀ a,a ∉ fp→H5 a=H1 a)(n5:∀ a∈fp5,H5 a ≠ none):Go C F0 H0 F1 H5 (Γ.set i x) σ i fp5 v:=by
 intro F2 H2 H3 d' p' fp' e2 k1 k2 o' nd' sub
 have hth:∀ a∈fp,H a ≠ none:=fun a ha=>by obtain ⟨_,z,_⟩:=own.there d a ha; rw [z]; simp
 have f1n:∀ a∈fp5,F1 a=none:=fun a ha=>by
  rcases hfp a ha with z | z
  ·cases q:F1 a with
   | none=>rfl
   | some o =>
    rcases e.nw a (by rw [q]; simp) with w | w
    ·exact (w (fr a z).1).elim
    ·exact (hth a z w).elim
  ·exact z.2
 have f2n:∀ a∈fp5,F2 a=none:=fun a ha=>by
  cases q:F2 a with
  | none=>rfl
  | some o =>
   rcases e2.nw a (by rw [q]; simp) with w | w
   ·exact (w (f1n a ha)).elim
   ·exact (n5 a ha w).elim
 have dec:∀ a,Decidable (a∈fp):=fun a=>Classical.propDecidable _
 let H2':Hp:=fun a=>@ite _ (a∈fp) (dec a) (H a) (H3 a)
 have t1:∀ a,a∈fp→H2' a=H a:=fun a ha=>if_pos ha
 have t2:∀ a,a ∉ fp→H2' a=H3 a:=fun a ha=>if_neg ha
 have g:=go F2 H2' H3 d' p' fp' ⟨e.ff.trans e2.ff,fun a o z=>?_,fun a o z=>?_,fun a xs z=>?_,fun a z=>?_⟩ (fun a ha=>(t2 a ha).symm) (fun a ha=>k2 a (hsub a ha)) o' nd' (fun a ha=>?_)
 ·rw [List.set_set]; exact g
 ·by_cases ha:a∈fp
  ·rw [t1 a ha]; exact z
  ·have h5':a ∉ fp5:=fun w=>by
    rcases hfp a w with q | q
    ·exact ha q
    ·rw [q.1] at z; cases z
   rw [t2 a ha,k1 a h5']
   exact e2.hh _ _ (by rw [h5 a ha]; exact e.hh _ _ z)
 ·have h5':a ∉ fp5:=fun w=>by rw [f2n a w] at z; cases z
  rw [t2 a (fun w=>h5' (hsub a w)),k1 a h5']
  exact e2.fh _ _ z
 ·by_cases ha:a∈fp
  ·rw [t1 a ha] at z
   obtain ⟨ob,q1,q2⟩:=own.there d a ha
   rw [q1] at z; cases z
   exact (q2 _ rfl).elim
  ·rw [t2 a ha] at z
   by_cases w:a∈fp5
   ·exact (k2 a w xs z).elim
   ·rw [k1 a w] at z; exact e2.tp _ _ z
 ·rcases e2.nw a z with w | w
  ·exact e.nw a w
  ·by_cases ha:a∈fp
   ·exact (n5 a (hsub a ha) w).elim
   ·rw [h5 a ha] at w; exact .inr (e.hh.free w)
 ·rcases sub a ha with w | w
  ·rcases hfp a w with q | q
   ·exact .inl q
   ·exact .inr ⟨q.1,f2n a w⟩
  ·by_cases hb:a∈fp
   ·exact .inl hb
   ·have:=w.1
    rw [h5 a hb] at this
    exact .inr ⟨e.hh.free this,w.2⟩
theorem modD2{i n:Nat}{ks l m:List PV}{ad:Addr}{ob:Obj}{vs:List V}{fps:List (List Addr)}(go:Go C F0 H0 F H Γ σ i (ad :: fps.flatten) (.ref ad))(own:Own C.K F H 2 (ad :: fps.flatten) (.dic ks l) (.ref ad))(nd:(ad :: fps.flatten).Nodup)(d1:H ad=some (dHO ad ob))(d2:(ad == sysModules)=false)(d3:DicK C.K F ob (ks.map nkOf) vs)(d4:ks.all keyG=true)(h5:OwnL (Own C.K F H 1) fps l vs)(hn:l[n]? = some (.lst m)) :
  ∃ ad2 us,vs[n]? = some (.ref ad2)∧H ad2=some (.lst us)∧RepL C.K F m us ∧
  ∀ {F2 H2:Hp} {m2:List PV} {us2:List V},Ext F H F2 H2→RepL C.K F2 m2 us2→GoodS C.K F0 H0 (Γ.set i (some (.ow 2,.dic ks (l.set n (.lst m2))))) σ F2 (upd H2 ad2 (.lst us2))∧H2 ad2=some (.lst us):=by
 have nd':=nd
 rw [List.nodup_cons] at nd'
 obtain ⟨f,u,k1,k2,k3,k4,k5⟩:=ownl_set h5 nd'.2 hn
 obtain ⟨ad2,us,rfl,k6,k7,rfl⟩:=own_one' k4
 have hm:ad2∈fps.flatten:=k2 ad2 (by simp)
 have hne:ad ≠ ad2:=fun z=>nd'.1 (z ▸ hm)
 refine ⟨ad2,us,k1,k6,k7,fun {F2 H2 m2 us2} e2 r2=>⟨go _ H2 _ _ _ (ad :: fps.flatten) e2 (fun a ha=>upd_ne fun z=>ha (by subst z; exact List.mem_cons_of_mem _ hm)) (fun a ha xs=>?_) (own_mkD ?_ d2 (d3.tups fun _ _=>e2.ff _ _) d4 (k5 e2.ff (fun a ha hb=>?_) ?_)) nd (fun a ha=>.inl ha),e2.hh _ _ k6⟩⟩
 ·by_cases z:a=ad2
  ·subst z; rw [upd_same]; intro q; cases q
  ·rw [upd_ne z]
   obtain ⟨ob,q1,q2⟩:=own.there _ a ha
   rw [e2.hh _ _ q1]
   intro q; cases q; exact q2 _ rfl
 ·rw [upd_ne hne]; exact e2.hh _ _ d1
 ·have hb:a ≠ ad2:=by simpa using hb
  rw [upd_ne hb]
  obtain ⟨ob,q1,q2⟩:=own.there _ a (List.mem_cons_of_mem _ ha)
  rw [q1]; exact e2.hh _ _ q1
 ·exact own_new r2 upd_same
end
section
variable {C:Cn} {cm:Bool} {k:Nat} {N:List Str} {sc so:Scope} {a b c e f o tg kx:Expr} {es:List Expr} {A B J E:EX} {As:EXs} {T U:TX} {pos p tpos apos cpos p1 p2 p3 pos' apos2 cpos2:Pos} {X:Cx} {x:Str}
end
end Vl
end
section
set_option linter.all false
set_option maxHeartbeats 1000000
namespace Vm
@[simp] def eDicN (ks:List (List Nat)) (as:EXs):EX:=fun Γ=>(as Γ).bind fun xs=>(putVs xs).bind fun ps=>if ps.length=ks.length then .ok (.ow 1,.dic (ks.map .str) ps) else .bad
end Vm
end
section
set_option Elab.async false
set_option linter.all false
set_option maxRecDepth 100000
set_option maxHeartbeats 1000000
namespace Vl
open PySem L2 Vm PyProof.Rows
section
variable {C:Cn} {cm:Bool} {k i:Nat} {N:List Str} {sc:Scope} {pos p1 p2 dpos:Pos} {X:Cx} {e b:Expr} {A B:EX} {As:EXs}
def sK(l:List Nat):V:=V.str ⟨l.toArray⟩
def tK(l:List Nat):Leaf:=Leaf.text ⟨l.toArray⟩
theorem tK_inj{a b:List Nat}(h:tK a=tK b):a=b:=by
 have h2:(⟨a.toArray⟩:Str)=⟨b.toArray⟩:=by injection h
 have h3:a.toArray=b.toArray:=congrArg Str.cps h2
 have:=congrArg Array.toList h3
 simpa using this
theorem leafs_of{P:Program}{w:World}:∀ {ks:List (List Nat)} {vs:List V} {ws:List (Value×Value)},vs.length=ks.length→VV ((ks.map sK).zip vs) ws→∃ rs:List (Leaf×Value),Carries (plK P w) ws rs∧L2.KV ((ks.map tK).zip vs) rs∧rs.map (·.1)=ks.map tK
 | [],vs,ws,_,r=>by
  rw [List.map_nil,List.zip_nil_left] at r
  cases r
  exact ⟨[],True.intro,.nil,rfl⟩
 | l :: ks,[],ws,h,_=>by simp at h
 | l :: ks,v :: vs,ws,h,r=>by
  rw [List.map_cons,List.zip_cons_cons] at r
  cases r with
  | @cons a b as bs h1 t =>
   obtain ⟨rs,c,q,m⟩:=leafs_of (P:=P) (w:=w) (by simpa using h) t
   obtain ⟨b1,b2⟩:=b
   obtain ⟨g1,g2⟩:=h1
   refine ⟨(tK l,b2) :: rs,⟨?_,rfl,c⟩,.cons ⟨rfl,g2⟩ q,by rw [List.map_cons,m,List.map_cons]⟩
   obtain ⟨t,rfl⟩:=g1
   show (Leaf.isOf _ _ && true)=true
   rw [Bool.and_true]
   exact mixKind_str P w _ t
def tDispN(K:KK)(ks:List (List Nat))(trs:List (TE×TE)):TE:=fun σ H Q=>∀ p,H p=none→(p == sysModules)=false→tPairs trs σ (upd H p (dHO p dNew)) fun ps H2=>H2 p=some (dHO p dNew)∧∃ vs:List V,ps=(ks.map sK).zip vs∧vs.length=ks.length ∧
 ∀ o',LeafK K o' (ks.map fun l=>nkOf (.str l)) vs→Q (.ref p) (upd H2 p (dHO p o'))
theorem pe_dispN{keys:List (Option Expr)}{values:List Expr}{trs:List (TE×TE)}{ks:List (List Nat)}(h:PPs X pos keys values trs)(hall:keys.all (·.isSome)=true)(hl:keys.length=values.length)(h0:keys ≠ [])(h15:keys.length≤15)(hk15:ks.length≤15)(hnd:ks.Nodup):PE X (.Dict keys values pos) (tDispN (kkX X) ks trs):=by
 refine ⟨fun pins s σ H Q I q=>?_⟩
 obtain ⟨I1,hd⟩:=new_ok (t':=s.toks) I
 have q:=q _ (I.hok.fresh (Nat.le_refl _)) hd
 refine wpAny_Dict_walk (knd:=plK X.prog X.w) hall hl h0 h15 (thn (h.run pins _ σ _ _ I1 q) fun ws s2 ⟨ps,H2,I2,rel,g1,vs,ep,lk,q2⟩=>?_)
 subst ep
 have hg:=dx_get? I2 g1
 obtain ⟨rs,c,rk,rm⟩:=leafs_of (P:=X.prog) (w:=X.w) lk rel
 have hnd2:(rs.map (·.1)).Nodup:=by
  rw [rm]
  exact List.pairwise_map.mpr (hnd.imp fun h z=>h (tK_inj z))
 refine ⟨rs,c,⟨dNew,#[],0,hg,⟨rfl,rfl,rfl⟩,rfl,fun e he=>by simp at he,.nil,List.nodup_nil⟩,fun h' dd' hs'=>?_⟩
 rw [merged_nil_of_nodup rs hnd2] at dd'
 obtain ⟨o',es,ep,k1,k2,k3,k4,k5,k6⟩:=dd'
 have hzl:((ks.map tK).zip vs).length=ks.length:=by rw [List.length_zip,List.length_map,lk,Nat.min_self]
 have dk:LeafK (kkX X) o' (ks.map fun l=>nkOf (.str l)) vs:=⟨(ks.map tK).zip vs,rs,es,ep,k2,k3,by
   have e1:((ks.map tK).zip vs).map (fun p=>p.1.key)=(((ks.map tK).zip vs).map (·.1)).map Leaf.key:=by rw [List.map_map]; rfl
   rw [e1,List.map_fst_zip (by rw [List.length_map,lk]; exact Nat.le_refl _),List.map_map]
   rfl,by rw [List.map_snd_zip (by rw [List.length_map,lk]; exact Nat.le_refl _)],rk,k4,k5,k6,by rw [hzl,sizeLine_eq]; omega⟩
 exact ⟨.ref s.heap.objs.size,_,d_write (ob:=dHO s.heap.objs.size o') (t':=s2.toks+ws.length) I2 (by rw [g1]; exact True.intro) hs' ⟨o',k1⟩ ⟨k1,⟨o',k1⟩,fun h1 h2 z k=>k _ z⟩,rfl,q2 o' dk⟩
theorem de_dicN{keys:List (Option Expr)}{values:List Expr}(ks:List (List Nat))(hp:DP C cm k N sc dpos keys values (ks.map fun l=>(⟨l.toArray⟩:Str)) As)(hall:keys.all (·.isSome)=true:=by rfl)(hkl:keys.length=values.length:=by rfl)(h0:keys ≠ []:=by exact List.cons_ne_nil _ _)(h15:keys.length≤15:=by decide)(hk15:ks.length≤15:=by decide)(hnd:ks.Nodup:=by decide)(hG:(ks.map fun l=>(PV.str l)).all keyG=true:=by rfl):DE C cm k N sc (.Dict keys values dpos) (eDicN ks As):=by
 obtain ⟨tp,pp,qp⟩:=hp
 refine ⟨fun W=>tDispN C.K ks (tp W),fun X S W T=>by rw [← S.KK]; exact pe_dispN (pp X S W T) hall hkl h0 h15 hk15 hnd,fun W σ Γ F0 H0 F H Q g h ad hp hd=>?_⟩
 have e0:Ext F H F (upd H ad (dHO ad dNew)):=Ext.new g.ext.fh g.ext.tp (fun _ z=>by cases z) hp
 refine qp W σ Γ F0 H0 F (upd H ad (dHO ad dNew)) _ (g.next e0) ?_
 have h:EOk C W σ F H Q (eDicN ks As Γ):=h
 unfold eDicN at h
 cases eA:As Γ with
 | bad=>rw [eA] at h; exact h.elim
 | exc c=>rw [eA] at h; exact fun F' H' e'=>h F' H' (e0.trans e')
 | ok xs =>
  rw [eA,bind_ok] at h
  intro vs fp F2 H2 e2 rvs hlen
  rw [List.length_map] at hlen
  cases hps:putVs xs with
  | exc c=>exact (putVs_noexc hps).elim
  | bad=>rw [hps] at h; exact h.elim
  | ok ps =>
   rw [hps,bind_ok] at h
   obtain ⟨F3,e3,s3,r3,_⟩:=RVs.put e2 rvs hps
   by_cases hl:ps.length=ks.length
   ·rw [if_pos hl] at h
    have hD:H2 ad=some (dHO ad dNew):=e2.hh _ _ upd_same
    have fD:F3 ad=none:=by
     cases z:F3 ad with
     | none=>rfl
     | some o =>
      rcases e3.nw ad (by rw [z]; simp) with q | q
      ·exact absurd (g.ext.fh.free hp) q
      ·rw [upd_same] at q; cases q
    refine ⟨hD,vs,by rw [List.map_map]; rfl,hlen,fun o' lk=>?_⟩
    have dk:DicK C.K F3 o' ((ks.map fun l=>PV.str l).map nkOf) vs:=.inl (by rw [List.map_map]; exact lk)
    have eF:Ext F H F3 (upd H2 ad (dHO ad o')):=by
     refine ⟨e3.ff,fun a o z=>?_,fun a o z=>?_,tups_new e3.tp (fun _ z=>by cases z) fD,fun a z=>?_⟩
     ·rw [upd_ne (ne_of_none z hp)]; exact e2.hh _ _ (by rw [upd_ne (ne_of_none z hp)]; exact z)
     ·rw [upd_ne (ne_of_none z fD)]; exact e3.fh _ _ z
     ·rcases e3.nw a z with q | q
      ·exact .inl q
      ·by_cases ha:a=ad
       ·subst ha; exact .inr hp
       ·rw [upd_ne ha] at q; exact .inr q
    refine h _ F3 _ eF ⟨ad :: (ps.map fun _=>[]).flatten,own_mkD (vs:=vs) upd_same hd dk hG (ownl_flat r3),by rw [flat_nil]; simp,fun b hb=>?_⟩
    rw [flat_nil] at hb
    simp at hb
    subst hb
    exact ⟨fD,hp⟩
   ·rw [if_neg hl] at h; exact h.elim
end
end Vl
end
section
set_option linter.all false
set_option maxHeartbeats 1000000
namespace Vm
@[simp] def eOrN (a b:EX):EX:=fun Γ=>(a Γ).bind fun x=>match x.2 with
 | .non=>b Γ
 | .int i=>if i=0 then b Γ else .ok (.fz,.int i)
 | _=>.bad
end Vm
end
section
set_option Elab.async false
set_option linter.all false
set_option maxRecDepth 100000
set_option maxHeartbeats 1000000
namespace Vl
open PySem L2 Vm PyProof.Rows
section
variable {C:Cn} {cm:Bool} {k i:Nat} {N:List Str} {sc:Scope} {pos p1 p2 dpos:Pos} {X:Cx} {a b:Expr} {A B:EX}
end
end Vl
end
section
set_option linter.all false
set_option maxHeartbeats 1000000
namespace Vm
@[simp] def eStrOnce (l:List Nat) (b:EX):EX:=fun Γ=>(b Γ).bind fun y=>match y.2 with
 | .int i=>if i=0 then .ok (.fz,.str []) else if i=1 then .ok (.fz,.str l) else .bad
 | _=>.bad
end Vm
end
section
set_option Elab.async false
set_option linter.all false
set_option maxRecDepth 100000
set_option maxHeartbeats 1000000
namespace Vl
open PySem L2 Vm PyProof.Rows
section
variable {C:Cn} {cm:Bool} {k:Nat} {N:List Str} {sc:Scope} {pos p1 p2:Pos} {X:Cx} {b:Expr} {B:EX}
end
end Vl
end
section
set_option Elab.async false
set_option linter.all false
set_option maxRecDepth 100000
set_option maxHeartbeats 1000000
namespace Vl
open PySem L2 Vm PyProof.Rows
section
variable {P:Program} {w:World} {K:PySem.W.Frag} {tg:Expr} {d:Addr} {o:Obj} {es:Array DictEntry} {ep:Nat}
end
end Vl
end
section
set_option Elab.async false
set_option linter.all false
set_option maxRecDepth 100000
set_option maxHeartbeats 1000000
namespace Vl
open PySem L2 Vm PyProof.Rows
section
variable {K:KK} {F H:Hp}
theorem leaf_keyL{p:PV}{k:Leaf}(h:nkOf p=k.key)(g:keyG p=true):keyL p=true∧leafOf p=k:=by
 have e:keyL p=true:=by
  cases p with
  | tup l=>unfold nkOf at h; cases k <;> cases h
  | non=>rfl
  | int _=>rfl
  | str _=>rfl
  | _=>unfold keyG at g; cases g
 refine ⟨e,Leaf.key_inj ?_⟩
 rw [← leafOf_key e,h]
theorem leaf_walk{P:Program}{w:World}:∀ {ks:List PV} {kvs:List (Leaf×V)} {rs:List (Leaf×Value)} {es:List DictEntry},ks.map nkOf=kvs.map (fun p=>p.1.key)→ks.all keyG=true→L2.KV kvs rs→Pairs (plK P w) es rs→∃ xs,Paired RelV xs (es.map (·.key))∧RepL K F ks xs∧Paired RelV (kvs.map (·.2)) (es.map (·.val))
 | [],[],_,_,_,_,.nil,.nil=>⟨[],.nil,RepL.nil,.nil⟩
 | [],_ :: _,_,_,h,_,_,_=>by cases h
 | _ :: _,[],_,_,h,_,_,_=>by cases h
 | p :: ks,q :: kvs,_,_,h,g,.cons r1 rr,pp=>by
  cases pp with
  | cons i e pt =>
   rw [List.map_cons,List.map_cons] at h
   injection h with h1 h2
   rw [List.all_cons,Bool.and_eq_true] at g
   obtain ⟨xs,k1,k2,k3⟩:=leaf_walk h2 g.2 rr pt
   obtain ⟨l1,l2⟩:=leaf_keyL h1 g.1
   obtain ⟨x,x1,x2⟩:=is_leaf (K:=K) (F:=F) l1 g.1 (by rw [l2,r1.1]; exact i)
   exact ⟨x :: xs,.cons x2 k1,RepL.cons x1 k2,.cons (by show L2.RelV q.2 (DictEntry.val _); rw [e]; exact r1.2) k3⟩
theorem tup_walk{P:Program}{w:World}:∀ {ks:List PV} {kvs:List (NestedKey×V)} {xs:List (NestedKey×Addr×Value)},ks.map nkOf=kvs.map (·.1)→ks.all keyG=true→KN F kvs xs→∃ ys,Paired RelV ys ((xs.map (entryOfKey (nestedKind P w))).map (·.key))∧RepL K F ks ys∧Paired RelV (kvs.map (·.2)) ((xs.map (entryOfKey (nestedKind P w))).map (·.val))
 | [],[],_,_,_,.nil=>⟨[],.nil,RepL.nil,.nil⟩
 | [],_ :: _,_,h,_,_=>by cases h
 | _ :: _,[],_,h,_,_=>by cases h
 | p :: ks,q :: kvs,x :: xs,h,g,.cons r1 rr=>by
  rw [List.map_cons,List.map_cons] at h
  injection h with h1 h2
  rw [List.all_cons,Bool.and_eq_true] at g
  obtain ⟨ys,k1,k2,k3⟩:=tup_walk (P:=P) (w:=w) h2 g.2 rr
  obtain ⟨e1,e2,e3,e4⟩:=r1
  exact ⟨.ref x.2.1 :: ys,.cons rfl k1,RepL.cons (keyV_rep p _ g.1 (by rw [h1]; exact e2)) k2,.cons e4 k3⟩
theorem dic_walk{o:Obj}{ks:List PV}{vs:List V}(h:DicK K F o (ks.map nkOf) vs)(hk:ks.all keyG=true):∃ xs es ep,o.ExactDict∧o.data = .dict es ep∧Paired RelV xs (es.toList.map (·.key))∧RepL K F ks xs∧Paired RelV vs (es.toList.map (·.val)):=by
 rcases h with ⟨kvs,rs,es,ep,h1,h2,h3,h4,h5,h6,h7,h8,h9⟩ | ⟨kvs,xs,es,ep,h1,h2,h3,h4,h5,h6,h7,h8⟩
 ·obtain ⟨ys,a,b,c⟩:=leaf_walk (K:=K) (F:=F) h3 hk h5 h7
  exact ⟨ys,es,ep,h1,h2,a,b,by rw [h4]; exact c⟩
 ·obtain ⟨ys,a,b,c⟩:=tup_walk (K:=K) (P:=K.P) (w:=K.w) h3 hk h5
  exact ⟨ys,es,ep,h1,h2,by rw [h6]; exact a,b,by rw [h4,h6]; exact c⟩
end
section
variable {P:Program} {w:World} {K:PySem.W.Frag} {tg:Expr} {d:Addr} {o:Obj} {es:Array DictEntry} {ep:Nat}
variable {X:Cx} {e:Expr} {td:TE} {apos cpos tpos:Pos}
end
section
variable {K:KK} {F H:Hp}
end
section
variable {C:Cn} {cm:Bool} {k:Nat} {N:List Str} {sc so:Scope} {a tg:Expr} {A:EX} {pos apos cpos tpos:Pos} {X:Cx} {elts:List Expr} {kk:Nat}
end
end Vl
end
section
set_option linter.all false
set_option maxHeartbeats 1000000
namespace Vm
@[simp] def sortKV (x:TV):Res TV:=match x.2 with
 | .dic ks _=>if srtOk ks && ks.all (keyN 8) && decide (ks.length≤16777216) then .ok (.ow 1,.lst (sortP ks)) else .bad
 | _=>.bad
@[simp] def eSortedD (a:EX):EX:=fun Γ=>(a Γ).bind sortKV
@[simp] def fzIts:TV→Res (List TV)
 | (.fz,.lst l)=>.ok (l.map fun p=>(.fz,p))
 | _=>.bad
@[simp] def fzX:TV→Res PV
 | (.fz,p)=>.ok p
 | _=>.bad
@[simp] def popG (Γ:En) (i:Nat):Option (List PV×PV):=match Γ.get i with
 | some (.ow 1,.lst l)=>l.getLast?.map fun p=>(l.dropLast,p)
 | _=>none
@[simp] def dForPop (i:Nat) (a:EX) (pat:Pat) (ws:List Nat) (body:ST):ST:=fun Γ=>aft (a Γ) Γ fun x=>match popG Γ i with
 | some q=>aft ((fzX x).bind fun p=>(ixV (.fz,p) q.2).bind fzIts) Γ fun l=>forL pat ws body l (wipeE (Γ.set i (some (.ow 1,.lst q.1))) ws)
 | none=>.bad
@[simp] def dForPopG (i:Nat) (a:EX) (pat:Pat) (ws:List Nat) (body:ST):ST:=fun Γ=>aft (a Γ) Γ fun x=>match popG Γ i with
 | some q=>aft ((fzX x).bind fun p=>(dgetV (.fz,p) q.2 (.ow 1,.lst [])).bind fzIts) Γ fun l=>forL pat ws body l (wipeE (Γ.set i (some (.ow 1,.lst q.1))) ws)
 | none=>.bad
@[simp] def dSetPop (j i:Nat):ST:=fun Γ=>match popG Γ i with
 | some q=>.nx ((Γ.set i (some (.ow 1,.lst q.1))).set j (some (.fz,q.2)))
 | none=>.bad
@[simp] def dIns (i:Nat) (k e:EX):ST:=fun Γ=>match Γ.get i with
 | some (.ow 1,.lst l)=>aft (k Γ) Γ fun y=>aft (e Γ) Γ fun x=>aft (putV x) Γ fun p=>match y.2 with
  | .int z=>if 0≤z∧z≤l.length∧l.length < 16777216 then .nx (Γ.set i (some (.ow 1,.lst (l.take z.toNat++p :: l.drop z.toNat)))) else .bad
  | _=>.bad
 | _=>.bad
@[simp] def lstO:Nat→PV→Bool
 | 0,_=>true
 | d+1,.lst l=>l.all (lstO d)
 | _+1,_=>false
@[simp] def lstA:TV→Bool
 | (.fz,_)=>true
 | (.bw d,p)=>lstO d p
 | (.ow d,p)=>lstO d p
@[simp] def stabD:TV→Bool
 | (.fz,.dic _ l)=>stabL l
 | r=>stabR r
@[simp] def eCallD (f:FN) (as:EXs):EX:=fun Γ=>(as Γ).bind fun xs=>(f (xs.map (·.2))).bind fun r=>if xs.all lstA && stabD r then .ok r else .bad
end Vm
end
section
set_option Elab.async false
set_option linter.all false
set_option maxRecDepth 100000
set_option maxHeartbeats 1000000
namespace Vl
open PySem L2 Vm PyProof.Rows
section
variable {X:Cx} {tg e:Expr} {te:TE}
end
section
variable {C:Cn} {cm:Bool} {k:Nat} {N:List Str} {sc so:Scope} {a b c e tg:Expr} {es:List Expr} {A B:EX} {As:EXs} {T U:TX} {pos p p1 apos cpos spos lpos:Pos} {X:Cx} {x y:Str} {st:Stmt} {sts:List Stmt} {d d':ST}
variable {F0 H0 F H F1 H1:Hp} {Γ:En} {σ:L2.St} {W:WX} {D:Ends}
end
end Vl
end
section
set_option Elab.async false
set_option linter.all false
set_option maxRecDepth 100000
set_option maxHeartbeats 1000000
namespace Vl
open PySem L2 Vm PyProof.Rows
section
variable {C:Cn} {cm:Bool} {k:Nat} {N:List Str} {sc so:Scope} {a b c e tg:Expr} {es:List Expr} {A B:EX} {As:EXs} {T U:TX} {pos p p1 apos cpos spos lpos gpos dpos:Pos} {X:Cx} {x y:Str} {st:Stmt} {sts:List Stmt} {d d':ST}
variable {F0 H0 F H F1 H1:Hp} {Γ:En} {σ:L2.St} {W:WX} {D:Ends}
end
section
variable {K:KK} {H:Hp}
end
mutual
theorem key_down {K:KK} {F H:Hp} (ht:Tups F H):∀ (n:Nat) (p:PV) (v:V),keyN n p=true→Rep K H p v→Rep K F p v
 | n,.non,v,_,r=>by unfold Rep at r ⊢; exact r
 | n,.int i,v,_,r=>by unfold Rep at r ⊢; exact r
 | n,.str l,v,_,r=>by unfold Rep at r ⊢; exact r
 | 0,.tup l,v,s,_=>by simp [keyN] at s
 | n+1,.tup l,v,s,r=>by
  unfold keyN at s
  unfold Rep at r ⊢
  obtain ⟨a,vs,e,h2,h3⟩:=r
  exact ⟨a,vs,e,h2.up ht,keyL_down ht n l vs s h3⟩
 | n,.bl _,v,s,_=>by simp [keyN] at s
 | n,.lst _,v,s,_=>by simp [keyN] at s
 | n,.dic _ _,v,s,_=>by simp [keyN] at s
 | n,.exo _ _,v,s,_=>by simp [keyN] at s
theorem keyL_down {K:KK} {F H:Hp} (ht:Tups F H):∀ (n:Nat) (l:List PV) (vs:List V),keyNL n l=true→RepL K H l vs→RepL K F l vs
 | n,[],vs,_,r=>by unfold RepL at r ⊢; exact r
 | n,p :: ps,vs,s,r=>by
  unfold keyNL at s
  rw [Bool.and_eq_true] at s
  unfold RepL at r ⊢
  obtain ⟨v,r',e,h2,h3⟩:=r
  exact ⟨v,r',e,key_down ht n p v s.1 h2,keyL_down ht n ps r' s.2 h3⟩
end
theorem keyNL_of{n:Nat}:∀ {ks:List PV},ks.all (keyN n)=true→keyNL n ks=true
 | [],_=>rfl
 | p :: ks,h=>by
  rw [List.all_cons,Bool.and_eq_true] at h
  unfold keyNL
  rw [h.1,keyNL_of h.2]; rfl
section
variable {C:Cn} {cm:Bool} {k:Nat} {N:List Str} {sc so:Scope} {a:Expr} {A:EX} {pos p:Pos}
end
end Vl
end
section
set_option Elab.async false
set_option linter.all false
set_option maxRecDepth 100000
set_option maxHeartbeats 1000000
namespace Vl
open PySem L2 Vm PyProof.Rows
section
variable {K:KK} {F H:Hp}
end
section
variable {C:Cn} {cm:Bool} {k:Nat} {N:List Str} {sc:Scope} {a b c e:Expr} {es:List Expr} {A B:EX} {As:EXs} {T U:TX} {pos p:Pos} {X:Cx} {x:Str}
end
end Vl
end
section
set_option linter.all false
set_option maxHeartbeats 1000000
namespace Vm
@[simp] def eChain3 (op op' op'':PV→PV→Res PV) (a b c d:EX):EX:=fun Γ=>(a Γ).bind fun x=>(b Γ).bind fun y=>(op x.2 y.2).bind fun z=>match z with
 | .bl true=>(c Γ).bind fun w=>(op' y.2 w.2).bind fun z'=>match z' with
  | .bl true=>(d Γ).bind fun u=>(op'' w.2 u.2).bind fzv
  | .bl false=>.ok (.fz,.bl false)
  | _=>.bad
 | .bl false=>.ok (.fz,.bl false)
 | _=>.bad
def intsP:List PV→Option (List Int)
 | []=>some []
 | .int i :: l=>(intsP l).map (i :: ·)
 | _ :: _=>none
def lexI:List Int→List Int→Bool
 | [],[]=>false
 | [],_ :: _=>true
 | _ :: _,[]=>false
 | x :: xs,y :: ys=>decide (x < y) || (decide (x=y) && lexI xs ys)
@[simp] def opLtT:PV→PV→Res PV
 | .tup xs,.tup ys=>match intsP xs,intsP ys with
  | some a,some b=>.ok (.bl (lexI a b))
  | _,_=>.bad
 | _,_=>.bad
end Vm
end
section
set_option Elab.async false
set_option linter.all false
set_option maxRecDepth 100000
set_option maxHeartbeats 1000000
namespace Vl
open PySem L2 Vm PyProof.Rows
section
variable {X:Cx} {a b c d:Expr} {ta tb tc td:TE} {pos:Pos}
end
section
variable {C:Cn} {cm:Bool} {k:Nat} {N:List Str} {sc:Scope} {a b c d:Expr} {A B E D:EX} {pos:Pos}
structure CmpQ (C:Cn) (cm:Bool) (k:Nat) (N:List Str) (sc:Scope) (op:CmpOp) (r:R2) (f:PV→PV→Res PV):Prop where
 o:∀ X,Sta C cm k N sc X→OpR X (compareOp op) r
 e:Op2 C r f
 b:∀ p q z,f p q = .ok z→∃ b:Bool,z = .bl b
theorem CmpI.q{op:CmpOp}{f:PV→PV→Res PV}(h:CmpI C cm k N sc op f):∃ r,CmpQ C cm k N sc op r f:=by
 obtain ⟨r,o1,o2⟩:=h.x
 exact ⟨r,o1,o2,h.b⟩
end
end Vl
end
section
set_option linter.all false
set_option maxHeartbeats 1000000
namespace Vm
@[simp] def eTupRev (a:EX):EX:=fun Γ=>(a Γ).bind fun x=>match x with
 | (t,.lst l)=>if flat1 t then .ok (.fz,.tup l.reverse) else .bad
 | (_,.tup l)=>.ok (.fz,.tup l.reverse)
 | _=>.bad
end Vm
end
section
set_option Elab.async false
set_option linter.all false
set_option maxRecDepth 100000
set_option maxHeartbeats 1000000
namespace RT
open PySem PySem.Spec PyProof.Rows L2
section
variable {prog:Program} {w:World} {A:Around} {E:Value→Shared→Prop} {s:Shared}
end
section
variable {X:Cx}
end
end RT
end
section
set_option Elab.async false
set_option linter.all false
set_option maxRecDepth 100000
set_option maxHeartbeats 1000000
namespace Vl
open PySem L2 Vm PyProof.Rows
section
variable {C:Cn} {cm:Bool} {k:Nat} {N:List Str} {sc:Scope} {a:Expr} {A:EX} {pos p p2 pos2:Pos}
end
end Vl
end
section
set_option linter.all false
set_option maxHeartbeats 1000000
namespace Vm
def putU(x:Int):List Int→List Int
 | []=>[x]
 | y :: ys=>if x < y then x :: y :: ys else if y < x then y :: putU x ys else y :: ys
def sortU(l:List Int):List Int:=l.foldr putU []
def sortSetV:TV→Res TV
 | (t,.lst l)=>if flat1 t then (intsOf l).bind fun ns=>if ns.length < 64 then .ok (.ow 1,.lst ((sortU ns).map PV.int)) else .bad else .bad
 | (_,.tup l)=>(intsOf l).bind fun ns=>if ns.length < 64 then .ok (.ow 1,.lst ((sortU ns).map PV.int)) else .bad
 | _=>.bad
@[simp] def eSortSet (a:EX):EX:=fun Γ=>(a Γ).bind sortSetV
end Vm
end
section
set_option Elab.async false
set_option linter.all false
set_option maxRecDepth 100000
set_option maxHeartbeats 4000000
namespace L2
open PySem PySem.Spec PyProof.Rows
section
variable {P:Program} {w:World} {A:Around} {E:Value→Shared→Prop} {s:Shared}
end
section
variable {X:Cx}
end
end L2
end
section
set_option Elab.async false
set_option linter.all false
set_option maxRecDepth 100000
set_option maxHeartbeats 1000000
namespace Vl
open PySem L2 Vm PyProof.Rows
section
variable {C:Cn} {cm:Bool} {k:Nat} {N:List Str} {sc:Scope} {a:Expr} {A:EX} {pos p p2 pos2:Pos}
end
end Vl
end
section
set_option linter.all false
set_option maxHeartbeats 1000000
namespace Vm
@[simp] def eIndexQ (a b:EX):EX:=fun Γ=>(a Γ).bind fun x=>match listOf x.2 with
 | some l=>(b Γ).bind fun y=>match shp 50 y.2 && shpL 50 l with
  | true=>match firstIx (fun z=>eqv z y.2) l with
   | some k=>.ok (.fz,.int k)
   | none=>.bad
  | false=>.bad
 | none=>.bad
def lrOk(n:Int):Bool:=rngOk n && Nat.ble n.toNat 16777216
@[simp] def eListR (a:EX):EX:=fun Γ=>(a Γ).bind fun x=>match x.2 with
 | .int n=>if lrOk n then .ok (.ow 1,.lst (rngL 0 n)) else .bad
 | _=>.bad
end Vm
end
section
set_option Elab.async false
set_option linter.all false
set_option maxRecDepth 100000
set_option maxHeartbeats 1000000
namespace L2
open PySem PySem.Spec PyProof.Rows
section
variable {X:Cx}
def rIndexTD(K:PySem.W.Frag):V→List V→Hp→VK→Prop:=fun x xs H Q=>∃ (a:Addr) (y:V) (d:PyData) (ds:List PyData) (j:Nat) (z:PyData),x=V.ref a∧xs=[y]∧Dp K H (V.ref a) (.tuple ds)∧Dp K H y d ∧
 SeqAt.shaped (.tuple ds)=true∧SeqAt.shaped d=true∧ds[j]? = some z∧PyData.eqv z d=true∧(∀ (m:Nat) (z':PyData),m < j→ds[m]? = some z'→PyData.eqv z' d=false)∧Q (.int (j:Nat)) H
theorem mt_indexTD(hu:X.A.units+65 < cLine):MtR X "tuple.index" (rIndexTD X.K):=by
 intro pins s σ H x xs v us Q I rx rxs h
 obtain ⟨a,y,d,ds,j,z,rfl,rfl,hl,hy,sl,sd,hz,hzj,hno,q⟩:=h
 cases rx
 cases rxs with
 | cons ry rt =>
  rename_i uy ut
  cases rt
  obtain ⟨bs,r1⟩:=Dp.reads I d y uy hy ry
  have hxs:PyData.canLayAll0 ds=true:=SeqAt.canLay_of_shaped sl
  have hroom:X.A.units+1+min (PyData.depthAll ds) d.depth < cLine:=room_in_shaped sd hu
  cases hl with
  | tup hs ha =>
   obtain ⟨its,rv,⟨⟨cls,dd,data,sls⟩,ho,hc,n,hdt⟩,hlen⟩:=I.tuple hs
   simp only at hc hdt
   subst hc hdt
   obtain ⟨as,h4⟩:=Dp.readsAll I ds _ its ha rv
   have hn:its.length=ds.length:=SeqAt.ReadsAll.length ds its as h4
   have hmap:its.map (SeqAt.readOf s.heap)=ds:=SeqAt.readsAll_map ds its as hxs h4
   have hvl:=rv.length
   obtain ⟨hjd,_⟩:=List.getElem?_eq_some_iff.mp hz
   have hjl:j < its.length:=by omega
   have hj:j < its.toArray.size:=by simpa using hjl
   have at_:∀ (m:Nat) (hm:m < its.toArray.size) (z':PyData),ds[m]? = some z'→SeqAt.readOf s.heap its.toArray[m]=z':=by
    intro m hm z' hz'
    have hml:m < its.length:=by simpa using hm
    rw [← hmap,List.getElem?_map,List.getElem?_eq_getElem hml] at hz'
    have e1:SeqAt.readOf s.heap its[m]=z':=Option.some.inj (show some (SeqAt.readOf s.heap its[m])=some z' from hz')
    simpa using e1
   refine call_meets PySem.F.slot_tuple_index ⟨_,ho,rfl⟩ PySem.F.entry_tuple_index (PySem.F.args_tuple_index_2 _ _)
    (TI.tuple_indexAt a its.toArray n dd sls uy (fun u=>PyData.eqv (SeqAt.readOf s.heap u) d) j hj ?_ ?_) ⟨ho,SeqAt.items_eqAt (vs:=its.toArray) (show ReadsAll s.heap its.toArray.toList ds as from h4) r1 hxs (SeqAt.canLay_of_shaped sd) hroom,?_⟩
   ·show PyData.eqv (SeqAt.readOf s.heap its.toArray[j]) d=true
    rw [at_ j hj z hz]
    exact hzj
   ·intro m hm hmj
    have hmd:m < ds.length:=by omega
    have hz':ds[m]? = some ds[m]:=List.getElem?_eq_getElem hmd
    show PyData.eqv (SeqAt.readOf s.heap its.toArray[m]) d=false
    rw [at_ m hm _ hz']
    exact hno m _ hmj hz'
   ·exact ⟨.int (j:Nat),H,I.tok _,⟨_,rfl⟩,q⟩
def tIxQ(K:PySem.W.Frag)(to:TE)(t:TA):TE:=fun σ H Q=>to σ H fun x H1=>(tyV K "list" x H1∧t σ H1 fun xs H2=>rIndexD K x xs H2 Q) ∨
 ((∃ a o vs,x = .ref a∧o.dict=none∧H1 a=some (.frz o (.tup vs)))∧t σ H1 fun xs H2=>rIndexTD K x xs H2 Q)
theorem pe_ixQ {o e:Expr} {es:List Expr} {to:TE} {t:TA} {apos cpos:Pos} (hu:X.A.units+65 < cLine) (ho:PE X o to) (ha:PA X (e :: es) t)
  (hbase:attributeBase o "index" X.env (eval o X.env)=eval o X.env:=by rfl)
  (hfew:((backTo cpos (starEach (e :: es) X.env)).all (fun x=>!x.1) && (backToKw cpos (keywordEach [] X.env)).all (fun x=>x.1.isSome)
   && decide ((e :: es).length+([]:List Keyword).length+(if ([]:List Keyword).isEmpty then 0 else 1) < 30))=true:=by rfl)
  (hline:(apos.endLine == cpos.line)=true:=by rfl) (hs:starEach (e :: es) X.env=(false,eval e X.env) :: starEach es X.env:=by rfl) (hplain:(backTo cpos (starEach es X.env)).any (·.1)=false:=by rfl) :
  PE X (.Call (.Attribute o "index" apos) (e :: es) [] cpos) (tIxQ X.K to t):=by
 refine ⟨fun pins s σ H Q I h=>?_⟩
 refine wpAny_Call_method_late hbase hfew hline rfl (thn (ho.run pins s σ H _ I h) fun v s1 ⟨x,H1,I1,r1,hh⟩=>?_)
 rcases hh with ⟨ty,q1⟩ | ⟨⟨a,ob,vs,rfl,hd,hH⟩,q1⟩
 ·obtain ⟨h1,h2⟩:=tyV_is I1 r1 ty
  refine ⟨"list",_,PySem.F.plainAttrs_list,PySem.F.slot_list_index,PySem.F.type_list_index,h1,h2,?_⟩
  have hA:=ha.run cpos pins s1 σ H1 _ I1 q1
  rw [hs] at hA ⊢
  refine Calls.callWith_builtin (by show (false || (backTo cpos (starEach es X.env)).any (·.1))=false; rw [hplain] <;> rfl) (Calls.evalArgs_plain ?_)
  exact thn hA fun us s2 ⟨vs,H2,I2,r2,q2⟩=>mt_indexD hu pins s2 σ H2 x vs v us Q I2 r1 r2 q2
 ·have r1':=r1
  cases r1
  obtain ⟨h1,h2⟩:=tyD_is I1 hH hd
  refine ⟨"tuple",_,PySem.F.plainAttrs_tuple,PySem.F.slot_tuple_index,PySem.F.type_tuple_index,h1,h2,?_⟩
  have hA:=ha.run cpos pins s1 σ H1 _ I1 q1
  rw [hs] at hA ⊢
  refine Calls.callWith_builtin (by show (false || (backTo cpos (starEach es X.env)).any (·.1))=false; rw [hplain] <;> rfl) (Calls.evalArgs_plain ?_)
  exact thn hA fun us s2 ⟨vs,H2,I2,r2,q2⟩=>mt_indexTD hu pins s2 σ H2 _ vs _ us Q I2 r1' r2 q2
end
end L2
namespace Vl
open PySem L2 Vm PyProof.Rows
theorem datL_get{l:List PV}{k:Nat}{z:PV}(h:l[k]? = some z):(datL l)[k]? = some (dat z):=by rw [datL_map,List.getElem?_map,h]; rfl
theorem datL_back{l:List PV}{k:Nat}{d:PyData}(h:(datL l)[k]? = some d):∃ z,l[k]? = some z∧dat z=d:=by
 rw [datL_map,List.getElem?_map] at h
 obtain ⟨z,h1,h2⟩:=Option.map_eq_some_iff.mp h
 exact ⟨z,h1,h2⟩
section
variable {C:Cn} {cm:Bool} {k:Nat} {N:List Str} {sc so:Scope} {e o:Expr} {A B:EX} {apos cpos:Pos} {X:Cx}
theorem de_indexQ (ho:DE C cm k N sc o A) (he:DE C cm k N sc e B) (hbase:∀ env:PySem.Env,attributeBase o "index" env (eval o env)=eval o env:=by intro _; rfl)
  (hfew:∀ env:PySem.Env,((backTo cpos (starEach [e] env)).all (fun x=>!x.1) && (backToKw cpos (keywordEach [] env)).all (fun x=>x.1.isSome)
   && decide (([e]).length+([]:List Keyword).length+(if ([]:List Keyword).isEmpty then 0 else 1) < 30))=true:=by intro _; rfl)
  (hline:(apos.endLine == cpos.line)=true:=by rfl) (hst:∀ env:PySem.Env,starEach [e] env=(false,eval e env) :: starEach [] env:=by intro _; rfl):DE C cm k N sc (.Call (.Attribute o "index" apos) [e] [] cpos) (eIndexQ A B):=by
 obtain ⟨ta,pa,qa⟩:=ho
 obtain ⟨tb,pb,qb⟩:=he
 refine ⟨fun W=>tIxQ C.K (ta W) (tCons (tb W) tNil),fun X S W T=>by rw [← S.K]; exact pe_ixQ S.u' (pa X S W T) (pa_cons (pb X S W T) pa_nil (hst _)) (hbase _) (hfew _) hline (hst _) rfl,fun W σ Γ F0 H0 F H Q g h=>?_⟩
 refine qa W σ Γ F0 H0 F H _ g (EOk.bind h fun x v F1 H1 ex e1 r1 h1=>?_)
 obtain ⟨t,q⟩:=x
 have rest:∀ {l:List PV} {v:V} (s:PV),(s = .lst l ∨ s = .tup l)→Rep C.K H1 s v→EOk C W σ F1 H1 Q ((B Γ).bind fun y=>match shp 50 y.2 && shpL 50 l with
   | true=>match firstIx (fun z=>eqv z y.2) l with
    | some k=>.ok (.fz,.int k)
    | none=>.bad
   | false=>.bad)→∀ R:List V→Hp→Prop,(∀ xs H2,(∃ y,xs=[y]∧∃ (d:PyData) (j:Nat) (z:PyData),Dp C.K H2 v (dat s)∧Dp C.K H2 y d ∧
   SeqAt.shaped (dat s)=true∧SeqAt.shaped d=true∧(datL l)[j]? = some z∧PyData.eqv z d=true∧(∀ (m:Nat) (z':PyData),m < j→(datL l)[m]? = some z'→PyData.eqv z' d=false)∧Q (.int (j:Nat)) H2)→R xs H2)→(tCons (tb W) tNil) σ H1 R:=by
  intro l v s hs rs hh R hR
  refine qb W σ Γ F0 H0 F1 H1 _ (g.next e1) (EOk.bind hh fun y u F2 H2 ey e2 r2 h2=>?_)
  have ry:=r2.rep e2.fh
  refine hR _ _ ⟨u,rfl,?_⟩
  cases hp:(shp 50 y.2 && shpL 50 l) with
  | false=>rw [hp] at h2; exact h2.elim
  | true =>
   rw [hp] at h2
   rw [Bool.and_eq_true] at hp
   obtain ⟨hp1,hp2⟩:=hp
   cases hf:firstIx (fun z=>eqv z y.2) l with
   | none=>rw [hf] at h2; exact h2.elim
   | some j =>
    rw [hf] at h2
    obtain ⟨⟨z,hz,hzp⟩,hlt⟩:=firstIx_spec hf
    have rs2:Rep C.K H2 s v:=rs.mono e2.hh _ _
    have hsh:shp 51 s=true:=by rcases hs with rfl | rfl <;> (unfold shp; exact hp2)
    have zs:∀ {w:PV},w∈l→shp 50 w=true:=fun hw=>shpL_mem hp2 hw
    refine ⟨dat y.2,j,dat z,(rep_dp 51 s v hsh rs2).1,(rep_dp 50 y.2 u hp1 ry).1,shaped_dat (by omega) hsh rs2,shaped_dat (by omega) hp1 ry,datL_get hz,?_,fun m z' hm hz'=>?_,h2 _ F2 H2 e2 (.fz rep_int)⟩
    ·rw [eqv_dat 50 50 z y.2 (zs (List.mem_of_getElem? hz)) hp1]; exact hzp
    ·obtain ⟨w,hw,rfl⟩:=datL_back hz'
     rw [eqv_dat 50 50 w y.2 (zs (List.mem_of_getElem? hw)) hp1]
     exact hlt m w hm hw
 cases q with
 | lst l =>
  have r:=r1.rep e1.fh
  obtain ⟨ad,vs,ev,s2,r3⟩:=rep_lst r
  subst ev
  refine .inl ⟨.inl ⟨rfl,vs,s2⟩,?_⟩
  refine rest (.lst l) (.inl rfl) r (h1.next e1) _ fun xs H2 ⟨y,ey,d,j,z,d1,d2,s1,s3,k1,k2,k3,k4⟩=>?_
  exact ⟨ad,y,d,datL l,j,z,rfl,ey,d1,d2,s1,s3,k1,k2,k3,k4⟩
 | tup l =>
  have r:=r1.rep e1.fh
  obtain ⟨ad,vs,ev,s2,r3⟩:=rep_tup r
  subst ev
  obtain ⟨ob,hd,hH⟩:=id s2
  refine .inr ⟨⟨ad,ob,vs,rfl,hd,hH⟩,?_⟩
  refine rest (.tup l) (.inr rfl) r (h1.next e1) _ fun xs H2 ⟨y,ey,d,j,z,d1,d2,s1,s3,k1,k2,k3,k4⟩=>?_
  exact ⟨ad,y,d,datL l,j,z,rfl,ey,d1,d2,s1,s3,k1,k2,k3,k4⟩
 | _=>exact h1.elim
end
end Vl
end
section
set_option Elab.async false
set_option linter.all false
set_option maxRecDepth 100000
set_option maxHeartbeats 1000000
namespace Vl
open PySem L2 Vm PyProof.Rows
section
variable {C:Cn} {cm:Bool} {k:Nat} {N:List Str} {sc so:Scope} {a:Expr} {A:EX} {p p2 pos pos2:Pos} {X:Cx}
end
end Vl
end
section
set_option linter.all false
set_option maxHeartbeats 1000000
namespace Vm
abbrev FX:=List PV→Res (PV×List PV)
open Classical in
noncomputable def runX(ts:List Tg)(ns:Nat)(body:ST):FX:=fun args=>if args.length=ts.length then
  match body (startM ts args++List.replicate (ns - ts.length) none) with
  | .nx Γ=>(readA Γ 0 ts args).bind fun r=>.ok (.non,r)
  | .rt .fz p Γ=>(readA Γ 0 ts args).bind fun r=>.ok (p,r)
  | .exc c Γ=>(readA Γ 0 ts args).bind fun r=>if r=args then .exc c else .bad
  | _=>.bad
 else .bad
def isHs:List PV→Bool
 | .exo 0 _ :: _=>true
 | _=>false
def takeH(m:Bool)(Γ:En)(js:List (Nat×Tg)):Option (List PV):=match takeA Γ js with
 | some ps=>if m && !isHs ps then none else some ps
 | none=>none
def callX(m:Bool)(f:FX)(js:List (Nat×Tg))(as:EXs)(Γ:En)(k:PV→En→Out):Out:=match takeH m Γ js with
 | none=>.bad
 | some ps=>match as Γ with
  | .exc c=>.exc c Γ
  | .bad=>.bad
  | .ok xs=>match putVs xs with
   | .ok qs=>(match f (ps++qs) with
    | .ok (p,news)=>k p (putA Γ js news)
    | .exc c=>.exc c Γ
    | .bad=>.bad)
   | _=>.bad
def dSetX(i:Nat)(m:Bool)(f:FX)(js:List (Nat×Tg))(as:EXs):ST:=fun Γ=>callX m f js as Γ fun p Γ'=>.nx (Γ'.set i (some (.fz,p)))
inductive RM where
 | ok (b:Bool) (Γ:En) | exc (c:Nat) (Γ:En) | bad
abbrev TM:=En→RM
end Vm
end
section
set_option Elab.async false
set_option linter.all false
set_option maxRecDepth 100000
set_option maxHeartbeats 1000000
namespace Vl
open PySem L2 Vm PyProof.Rows
def spX(C:Cn)(ts:List Tg)(f:FX):Sp:=fun vs H Q E=>∃ F H0 ps,ps.length=ts.length∧vs.length=ts.length∧GoodS C.K F H0 (startM ts ps) (vs.map some) F H∧match f ps with
 | .ok (p,news)=>∀ v F' H',news.length=ts.length→GoodS C.K F H0 (startM ts news) (vs.map some) F' H'→Rep C.K F' p v→Q v H'
 | .exc c=>∀ F' H',GoodS C.K F H0 (startM ts ps) (vs.map some) F' H'→E (C.xc c) none H'
 | .bad=>False
structure CalX (C:Cn) (x:Str) (k:Nat) (ts:List Tg) (f:FX):Prop where
 ex:∃ ad fd ps,ps.length=ts.length∧FnOk C.P C.w C.K C.mg C.base (L2.CX C.P C.w) k ad fd ps (spX C ts f)∧PySem.W.keepIn C.K (.ref ad)=true∧Binds C.K fd ps []∧C.mg x=some (.ref ad)
theorem readA_noexc{Γ:En}:∀ {i:Nat} {ts:List Tg} {ps:List PV} {c:Nat},readA Γ i ts ps ≠ .exc c
 | i,[],[],c,h=>by cases h
 | i,[],_ :: _,c,h=>by cases h
 | i,t :: ts,[],c,h=>by cases t <;> cases h
 | i,t :: ts,q :: ps,c,h=>by
  cases t with
  | ow d =>
   unfold readA at h
   cases e:Γ.get i with
   | none=>rw [e] at h; cases h
   | some y =>
    obtain ⟨t',p⟩:=y
    rw [e] at h
    simp only at h
    by_cases ht:tgEq t' (.ow d)=true
    ·rw [if_pos ht] at h
     cases e2:readA Γ (i+1) ts ps with
     | ok r=>rw [e2] at h; cases h
     | exc c=>exact readA_noexc e2
     | bad=>rw [e2] at h; cases h
    ·rw [if_neg ht] at h; cases h
  | fz =>
   unfold readA at h
   cases e2:readA Γ (i+1) ts ps with
   | ok r=>rw [e2] at h; cases h
   | exc c=>exact readA_noexc e2
   | bad=>rw [e2] at h; cases h
  | bw d =>
   unfold readA at h
   cases e2:readA Γ (i+1) ts ps with
   | ok r=>rw [e2] at h; cases h
   | exc c=>exact readA_noexc e2
   | bad=>rw [e2] at h; cases h
section
variable {C:Cn} {F0 H0 F H F1 H1:Hp} {Γ:En} {σ:L2.St}
theorem call_good{js:List (Nat×Tg)}{qs ps2:List PV}{vs2:List V}(g:GoodS C.K F0 H0 Γ σ F H)(et:takeA Γ js=some qs)(hnd:(js.map (·.1)).Nodup)(r2:RepL C.K F ps2 vs2) :
  ∃ (vs1:List V) (Hc:Hp),vs1.length=js.length∧(∀ (jx i:Nat) (t:Tg),js[jx]? = some (i,t)→∃ v,vs1[jx]? = some v∧σ[i]? = some (some v)) ∧
   GoodS C.K F Hc (startM (js.map (·.2)++List.replicate ps2.length .fz) (qs++ps2)) ((vs1++vs2).map some) F H ∧
   ∀ {F' H':Hp} {news:List PV},news.length=js.length+ps2.length→GoodS C.K F Hc (startM (js.map (·.2)++List.replicate ps2.length .fz) news) ((vs1++vs2).map some) F' H'→GoodS C.K F0 H0 (putA Γ js news) σ F' H':=by
 obtain ⟨t1,t2⟩:=take_spec et
 obtain ⟨fp,s1,s2⟩:=g.slots
 have hvs:∀ i∈js.map (·.1),∃ v,σ[i]? = some (some v):=fun i hi=>by
  obtain ⟨q,hq,rfl⟩:=List.mem_map.mp hi
  obtain ⟨jx,hjx⟩:=List.getElem?_of_mem hq
  have hlt:jx < qs.length:=by rw [t1]; exact (List.getElem?_eq_some_iff.mp hjx).1
  obtain ⟨v,hv,_⟩:=s1 q.1 _ (t2 jx q.1 q.2 qs[jx] hjx (List.getElem?_eq_getElem hlt))
  exact ⟨v,hv⟩
 let val:Nat→V:=fun i=>match σ[i]? with
  | some (some v)=>v
  | _=>.non
 have hval:∀ i∈js.map (·.1),σ[i]? = some (some (val i)):=fun i hi=>by
  obtain ⟨v,hv⟩:=hvs i hi
  have:val i=v:=by show (match σ[i]? with | some (some v)=>v | _=>V.non)=v; rw [hv]
  rw [this]; exact hv
 let vs1:List V:=(js.map (·.1)).map val
 have hl1:vs1.length=js.length:=by show ((js.map (·.1)).map val).length=_; simp
 let M:Addr→Prop:=fun a=>∃ q∈js,isOw q.2=true∧a∈fp q.1
 have dec:∀ a,Decidable (M a):=fun a=>Classical.propDecidable _
 let Hc:Hp:=fun a=>@ite _ (M a) (dec a) none (H a)
 have hc1:∀ a,M a→Hc a=none:=fun a ha=>by show @ite _ (M a) (dec a) none (H a)=none; rw [if_pos ha]
 have hc2:∀ a,¬ M a→Hc a=H a:=fun a ha=>by show @ite _ (M a) (dec a) none (H a)=H a; rw [if_neg ha]
 have hcs:Same Hc H:=fun a o z=>by
  by_cases ha:M a
  ·rw [hc1 a ha] at z; cases z
  ·rw [hc2 a ha] at z; exact z
 have hM:∀ a,M a→F a=none∧H0 a=none:=fun a ⟨q,hq,ho,ha⟩=>by
  obtain ⟨jx,hjx⟩:=List.getElem?_of_mem hq
  have hlt:jx < qs.length:=by rw [t1]; exact (List.getElem?_eq_some_iff.mp hjx).1
  have hgt:=t2 jx q.1 q.2 qs[jx] hjx (List.getElem?_eq_getElem hlt)
  obtain ⟨v,hv,r⟩:=s1 q.1 _ hgt
  obtain ⟨i,t⟩:=q
  cases t with
  | ow d=>obtain ⟨z1,z2,z3⟩:=r; exact z3 a ha
  | fz=>cases ho
  | bw d=>cases ho
 have vget:∀ (jx i:Nat) (t:Tg),js[jx]? = some (i,t)→((vs1++vs2).map some)[jx]? = some (some (val i)):=fun jx i t hq=>by
  have hlt:jx < vs1.length:=by rw [hl1]; exact (List.getElem?_eq_some_iff.mp hq).1
  rw [List.getElem?_map,List.getElem?_append_left hlt]
  show ((((js.map (·.1)).map val))[jx]?).map some=_
  rw [List.getElem?_map,List.getElem?_map,hq]; rfl
 have jget:∀ {jx:Nat} {t:Tg},(js.map (·.2)++List.replicate ps2.length Tg.fz)[jx]? = some t→(∃ i,js[jx]? = some (i,t)) ∨ (js.length≤jx∧t = .fz):=fun {jx t} hq=>by
  rw [List.getElem?_append] at hq
  split at hq
  ·rw [List.getElem?_map] at hq
   cases z:js[jx]? with
   | none=>rw [z] at hq; cases hq
   | some q=>rw [z] at hq; cases hq; exact .inl ⟨q.1,rfl⟩
  ·rename_i hn
   rw [List.getElem?_replicate] at hq
   split at hq
   ·cases hq; exact .inr ⟨by rw [List.length_map] at hn; omega,rfl⟩
   ·cases hq
 have tj:∀ {jx i:Nat} {t:Tg},js[jx]? = some (i,t)→(js.map (·.2)++List.replicate ps2.length Tg.fz)[jx]? = some t:=fun {jx i t} hq=>by
  rw [List.getElem?_append_left (by rw [List.length_map]; exact (List.getElem?_eq_some_iff.mp hq).1),List.getElem?_map,hq]; rfl
 have qj:∀ {jx i:Nat} {t:Tg},js[jx]? = some (i,t)→(qs++ps2)[jx]? = qs[jx]?:=fun {jx i t} hq=>List.getElem?_append_left (by rw [t1]; exact (List.getElem?_eq_some_iff.mp hq).1)
 refine ⟨vs1,Hc,hl1,fun jx i t hq=>⟨val i,?_,hval i (List.mem_map.mpr ⟨(i,t),List.mem_of_getElem? hq,rfl⟩)⟩,?_,?_⟩
 ·show ((js.map (·.1)).map val)[jx]? = _
  rw [List.getElem?_map,List.getElem?_map,hq]; rfl
 ·refine ⟨⟨⟨Same.refl _,hcs,g.ext.fh,g.ext.tp,fun a z=>.inl z⟩,?_,fun jx=>if ((js[jx]?).map fun q=>isOw q.2).getD false=true then fp ((js[jx]?).map (·.1)).get! else [],fun jx y hy=>?_,fun a1 a2 a hne h1 h2=>?_⟩,fun jx d p hy=>?_⟩
  ·unfold startM
   simp [hl1,t1,r2.len]
  ·obtain ⟨y1,y2⟩:=get_start hy
   rcases jget y1 with ⟨i,hq⟩ | ⟨hge,ez⟩
   ·rw [qj hq] at y2
    have hgt:=t2 jx i y.1 y.2 hq y2
    obtain ⟨v,hv,r⟩:=s1 i _ hgt
    have hv2:=hval i (List.mem_map.mpr ⟨(i,y.1),List.mem_of_getElem? hq,rfl⟩)
    rw [hv] at hv2
    cases hv2
    refine ⟨val i,vget jx i y.1 hq,?_⟩
    obtain ⟨ty,py⟩:=y
    cases ty with
    | fz=>exact r
    | bw d=>exact (g.nb i d py hgt).elim
    | ow d =>
     obtain ⟨z1,z2,z3⟩:=r
     simp only
     rw [hq]
     simp only [Option.map_some,isOw,Option.getD_some,if_true]
     exact ⟨z1,z2,fun a ha=>⟨(z3 a ha).1,hc1 a ⟨(i,.ow d),List.mem_of_getElem? hq,rfl,ha⟩⟩⟩
   ·obtain ⟨ty,py⟩:=y
    simp only at ez y2
    subst ez
    rw [List.getElem?_append_right (by rw [t1]; exact hge),t1] at y2
    obtain ⟨v,hv,r⟩:=r2.get y2
    refine ⟨v,?_,r⟩
    rw [List.getElem?_map,List.getElem?_append_right (by rw [hl1]; exact hge),hl1,hv]
    rfl
  ·simp only at h1 h2
   cases q1:js[a1]? with
   | none=>rw [q1] at h1; simp at h1
   | some b1 =>
    cases q2:js[a2]? with
    | none=>rw [q2] at h2; simp at h2
    | some b2 =>
     rw [q1] at h1
     rw [q2] at h2
     simp only [Option.map_some,Option.getD_some] at h1 h2
     split at h1
     ·split at h2
      ·have hne2:b1.1 ≠ b2.1:=fun z=>hne (slot_ix hnd (i:=b1.1) (t:=b1.2) (t':=b2.2) q1 (by rw [z]; exact q2))
       exact s2 _ _ a hne2 h1 h2
      ·simp at h2
     ·simp at h1
  ·obtain ⟨y1,y2⟩:=get_start hy
   rcases jget y1 with ⟨i,hq⟩ | ⟨_,ez⟩
   ·rw [qj hq] at y2
    exact g.nb i d p (t2 jx i _ p hq y2)
   ·cases ez
 ·intro F' H' news hl gn
  obtain ⟨fn,n1,n2⟩:=gn.slots
  have hH0:∀ a,Hc a=none→H0 a=none:=fun a ha=>by
   by_cases hm:M a
   ·exact (hM a hm).2
   ·rw [hc2 a hm] at ha; exact g.ext.hh.free ha
  have jlt:∀ {jx:Nat} {q:Nat×Tg},js[jx]? = some q→jx < news.length:=fun {jx q} hq=>by
   have:=(List.getElem?_eq_some_iff.mp hq).1
   omega
  have key:∀ (i:Nat) (y:TV),(putA Γ js news).get i=some y→(∃ (jx d:Nat),js[jx]? = some (i,Tg.ow d)∧news[jx]? = some y.2∧y.1=Tg.ow d) ∨ (Γ.get i=some y∧∀ (jx d:Nat),js[jx]? ≠ some (i,Tg.ow d)):=fun i y hy=>by
   rcases put_spec hy with q | ⟨q,r⟩
   ·exact .inl q
   ·refine .inr ⟨q,fun jx d z=>?_⟩
    have h1:=r jx d z (jlt z)
    unfold En.get at q
    rw [List.getD,List.getElem?_eq_none h1] at q
    cases q
  let ix:Nat→Option Nat:=fun i=>js.findIdx? fun q=>q.1 == i && isOw q.2
  have ix1:∀ (i jx d:Nat),js[jx]? = some (i,Tg.ow d)→ix i=some jx:=fun i jx d hq=>by
   cases z:ix i with
   | none =>
    have:=List.findIdx?_eq_none_iff.mp z _ (List.mem_of_getElem? hq)
    simp at this
   | some jy =>
    obtain ⟨hlt,hp,_⟩:=List.findIdx?_eq_some_iff_getElem.mp z
    simp only [Bool.and_eq_true,beq_iff_eq] at hp
    have:js[jy]? = some (i,js[jy].2):=by rw [List.getElem?_eq_getElem hlt,← hp.1]
    rw [slot_ix hnd this hq]
  have ix2:∀ (i:Nat),(∀ (jx d:Nat),js[jx]? ≠ some (i,Tg.ow d))→ix i=none:=fun i hq=>by
   cases z:ix i with
   | none=>rfl
   | some jy =>
    obtain ⟨hlt,hp,_⟩:=List.findIdx?_eq_some_iff_getElem.mp z
    simp only [Bool.and_eq_true,beq_iff_eq] at hp
    exfalso
    have e0:js[jy]? = some (i,js[jy].2):=by rw [List.getElem?_eq_getElem hlt,← hp.1]
    cases e1:js[jy].2 with
    | ow d=>rw [e1] at e0; exact hq jy d e0
    | fz=>rw [e1] at hp; exact absurd hp.2 (by simp)
    | bw d=>rw [e1] at hp; exact absurd hp.2 (by simp)
  have low:∀ (i:Nat),(∀ (jx d:Nat),js[jx]? ≠ some (i,Tg.ow d))→∀ a∈fp i,¬ M a:=fun i hq a ha ⟨q,hm,ho,ha2⟩=>by
   by_cases z:q.1=i
   ·obtain ⟨jx,hjx⟩:=List.getElem?_of_mem hm
    obtain ⟨q1,q2⟩:=q
    cases q2 with
    | ow d=>exact hq jx d (by rw [hjx,← z])
    | fz=>cases ho
    | bw d=>cases ho
   ·exact s2 q.1 i a z ha2 ha
  have own:∀ (i jx d:Nat) (p:PV),js[jx]? = some (i,Tg.ow d)→news[jx]? = some p→∃ v,σ[i]? = some (some v)∧RVf C.K F' H' Hc (.ow d,p) v (fn jx):=fun i jx d p hq hp=>by
   obtain ⟨v,hv,r⟩:=n1 jx _ (start_get (tj hq) hp)
   rw [vget jx i _ hq] at hv
   cases hv
   exact ⟨val i,hval i (List.mem_map.mpr ⟨(i,.ow d),List.mem_of_getElem? hq,rfl⟩),r⟩
  refine ⟨⟨⟨g.ext.ff.trans gn.ext.ff,fun a o z=>?_,gn.ext.fh,gn.ext.tp,fun a z=>?_⟩,by rw [put_len]; exact g.len,fun i=>match ix i with | some jx=>(if (Γ.get i).isSome then fn jx else []) | none=>(match Γ.get i with | some (.ow _,_)=>fp i | _=>[]),fun i y hy=>?_,fun i1 i2 a hne ha1 ha2=>?_⟩,fun i d p hy=>?_⟩
  ·have ha:¬ M a:=fun q=>by rw [(hM a q).2] at z; cases z
   exact gn.ext.hh _ _ (by rw [hc2 a ha]; exact g.ext.hh _ _ z)
  ·rcases gn.ext.nw a z with q | q
   ·exact g.ext.nw a q
   ·exact .inr (hH0 a q)
  ·rcases key i y hy with ⟨jx,d,q1,q2,q3⟩ | ⟨q1,q2⟩
   ·obtain ⟨ty,py⟩:=y
    simp only at q2 q3
    subst q3
    obtain ⟨v,hv,z1,z2,z3⟩:=own i jx d py q1 q2
    refine ⟨v,hv,?_⟩
    have hlt:jx < qs.length:=by rw [t1]; exact (List.getElem?_eq_some_iff.mp q1).1
    have hgt:=t2 jx i _ qs[jx] q1 (List.getElem?_eq_getElem hlt)
    simp only
    rw [ix1 i jx d q1]
    simp only [hgt,Option.isSome_some,if_true]
    exact ⟨z1,z2,fun a ha=>⟨(z3 a ha).1,hH0 a (z3 a ha).2⟩⟩
   ·obtain ⟨v,hv,r⟩:=s1 i y q1
    refine ⟨v,hv,?_⟩
    simp only
    rw [ix2 i q2]
    obtain ⟨ty,py⟩:=y
    cases ty with
    | fz=>exact Rep.mono gn.ext.ff _ _ r
    | bw d=>exact (g.nb i d py q1).elim
    | ow d =>
     obtain ⟨z1,z2,z3⟩:=r
     simp only [q1]
     refine ⟨Own.mono gn.ext.ff d z1 fun a ha=>?_,z2,fun a ha=>⟨?_,(z3 a ha).2⟩⟩
     ·obtain ⟨ws,hw,_⟩:=z1.there d a ha
      rw [hw]
      exact gn.ext.hh _ _ (by rw [hc2 a (low i q2 a ha)]; exact hw)
     ·cases zz:F' a with
      | none=>rfl
      | some o =>
       obtain ⟨ws,hw,_⟩:=z1.there d a ha
       rcases gn.ext.nw a (by rw [zz]; simp) with q | q
       ·exact absurd (z3 a ha).1 q
       ·rw [hc2 a (low i q2 a ha),hw] at q; cases q
  ·simp only at ha1 ha2
   have some1:∀ (i jx:Nat),ix i=some jx→∃ d,js[jx]? = some (i,Tg.ow d):=fun i jx z=>by
    obtain ⟨hlt,hp,_⟩:=List.findIdx?_eq_some_iff_getElem.mp z
    simp only [Bool.and_eq_true,beq_iff_eq] at hp
    have e0:js[jx]? = some (i,js[jx].2):=by rw [List.getElem?_eq_getElem hlt,← hp.1]
    cases e1:js[jx].2 with
    | ow d=>rw [e1] at e0; exact ⟨d,e0⟩
    | fz=>rw [e1] at hp; exact absurd hp.2 (by simp)
    | bw d=>rw [e1] at hp; exact absurd hp.2 (by simp)
   have none1:∀ (i:Nat),ix i=none→∀ (jx d:Nat),js[jx]? ≠ some (i,Tg.ow d):=fun i z jx d q=>by rw [ix1 i jx d q] at z; cases z
   have new1:∀ (i jx:Nat) (a:Addr),ix i=some jx→a∈fn jx→Hc a=none:=fun i jx a z ha=>by
    obtain ⟨d,q⟩:=some1 i jx z
    obtain ⟨v,hv,z1,z2,z3⟩:=own i jx d _ q (List.getElem?_eq_getElem (jlt q))
    exact (z3 a ha).2
   have old1:∀ (i:Nat) (a:Addr),ix i=none→a∈(match Γ.get i with | some (.ow _,_)=>fp i | _=>[])→a∈fp i∧Hc a ≠ none:=fun i a z ha=>by
    cases e:Γ.get i with
    | none=>rw [e] at ha; simp at ha
    | some y =>
     obtain ⟨ty,py⟩:=y
     rw [e] at ha
     cases ty with
     | fz=>simp at ha
     | bw d=>simp at ha
     | ow d =>
      simp only at ha
      obtain ⟨v,hv,z1,z2,z3⟩:=s1 i _ e
      obtain ⟨ws,hw,_⟩:=z1.there d a ha
      exact ⟨ha,by rw [hc2 a (low i (none1 i z) a ha),hw]; simp⟩
   cases e1:ix i1 with
   | some j1 =>
    rw [e1] at ha1
    simp only at ha1
    split at ha1
    ·cases e2:ix i2 with
     | some j2 =>
      rw [e2] at ha2
      simp only at ha2
      split at ha2
      ·refine n2 j1 j2 a (fun z=>hne ?_) ha1 ha2
       obtain ⟨d1,q1⟩:=some1 i1 j1 e1
       obtain ⟨d2,q2⟩:=some1 i2 j2 e2
       rw [z,q2] at q1
       cases q1
       rfl
      ·simp at ha2
     | none =>
      rw [e2] at ha2
      simp only at ha2
      exact (old1 i2 a e2 ha2).2 (new1 i1 j1 a e1 ha1)
    ·simp at ha1
   | none =>
    rw [e1] at ha1
    simp only at ha1
    obtain ⟨b1,b2⟩:=old1 i1 a e1 ha1
    cases e2:ix i2 with
    | some j2 =>
     rw [e2] at ha2
     simp only at ha2
     split at ha2
     ·exact b2 (new1 i2 j2 a e2 ha2)
     ·simp at ha2
    | none =>
     rw [e2] at ha2
     simp only at ha2
     exact s2 i1 i2 a hne b1 (old1 i2 a e2 ha2).1
  ·rcases key i _ hy with ⟨jx,dd,q1,q2,q3⟩ | ⟨q1,q2⟩
   ·cases q3
   ·exact g.nb i d p q1
end
end Vl
end
section
set_option Elab.async false
set_option linter.all false
set_option maxRecDepth 100000
set_option maxHeartbeats 1000000
namespace Vl
open PySem L2 Vm PyProof.Rows
def Kp(keep:List Nat)(σ σ0:L2.St):Prop:=∀ i∈keep,σ[i]? = σ0[i]?
def OutX(C:Cn)(W:WX)(F0 H0:Hp)(D:Ends)(keep:List Nat)(σ0:L2.St):Out→Prop
 | .nx Γ=>∀ σ F H,GoodS C.K F0 H0 Γ σ F H→Kp keep σ σ0→D.nx σ H
 | .bk Γ=>∀ σ F H,GoodS C.K F0 H0 Γ σ F H→Kp keep σ σ0→D.bk σ H
 | .ct Γ=>∀ σ F H,GoodS C.K F0 H0 Γ σ F H→Kp keep σ σ0→D.ct σ H
 | .rt .fz p Γ=>∀ v σ F H,GoodS C.K F0 H0 Γ σ F H→Kp keep σ σ0→Rep C.K F p v→D.rt v H
 | .exc c Γ=>∀ σ F H,GoodS C.K F0 H0 Γ σ F H→Kp keep σ σ0→W (C.xc c) none σ H
 | _=>False
def DX(keep:List Nat)(C:Cn)(cm:Bool)(k:Nat)(N:List Str)(sc:Scope)(st:Stmt)(d:ST):Prop:=∃ tb:WX→TS,(∀ X,StaS C cm k N sc X→∀ W,Takes X W→PS X st (tb W)) ∧
 ∀ W D σ Γ F0 H0 F H,GoodS C.K F0 H0 Γ σ F H→OutX C W F0 H0 D keep σ (d Γ)→tb W D σ H
def DXs(keep:List Nat)(C:Cn)(cm:Bool)(k:Nat)(N:List Str)(sc:Scope)(st:List Stmt)(d:ST):Prop:=∃ tb:WX→TS,(∀ X,StaS C cm k N sc X→∀ W,Takes X W→PSs X st (tb W)) ∧
 ∀ W D σ Γ F0 H0 F H,GoodS C.K F0 H0 Γ σ F H→OutX C W F0 H0 D keep σ (d Γ)→tb W D σ H
section
variable {C:Cn} {F0 H0 F H F1 H1:Hp} {Γ:En} {σ σ1:L2.St} {W:WX} {D:Ends} {keep:List Nat}
theorem Kp.refl:Kp keep σ σ:=fun _ _=>rfl
theorem Kp.trans{σ2:L2.St}(a:Kp keep σ2 σ1)(b:Kp keep σ1 σ):Kp keep σ2 σ:=fun i hi=>(a i hi).trans (b i hi)
theorem Kp.set{i:Nat}{v:Option V}(h:i ∉ keep):Kp keep (σ.set i v) σ:=fun j hj=>List.getElem?_set_ne (by intro z; subst z; exact h hj)
theorem OutX.later(k:Kp keep σ1 σ):∀ {o:Out},OutX C W F0 H0 D keep σ o→OutX C W F0 H0 D keep σ1 o
 | .nx Γ,h=>fun σ2 F H g k2=>h σ2 F H g (k2.trans k)
 | .bk Γ,h=>fun σ2 F H g k2=>h σ2 F H g (k2.trans k)
 | .ct Γ,h=>fun σ2 F H g k2=>h σ2 F H g (k2.trans k)
 | .rt .fz p Γ,h=>fun v σ2 F H g k2=>h v σ2 F H g (k2.trans k)
 | .rt (.bw _) p Γ,h=>h.elim
 | .rt (.ow _) p Γ,h=>h.elim
 | .exc c Γ,h=>fun σ2 F H g k2=>h σ2 F H g (k2.trans k)
 | .bad,h=>h.elim
theorem OutX.bind{f:TV→Out}{Q1:VK}{r:Res TV}(g:GoodS C.K F0 H0 Γ σ F H)(h:OutX C W F0 H0 D keep σ (aft r Γ f))
  (q:∀ x v F1 H1,r = .ok x→Ext F H F1 H1→RV C.K F1 H1 H x v→OutX C W F0 H0 D keep σ (f x)→Q1 v H1):EOk C W σ F H Q1 r:=by
 cases r with
 | ok x=>exact fun v F' H' e rv=>q x v F' H' rfl e rv h
 | exc c=>exact fun F' H' e=>h σ F' H' (g.next e) Kp.refl
 | bad=>exact h
theorem OutX.bindT{f:Bool→Out}{Q1:Bool→Hp→Prop}{r:Res Bool}(g:GoodS C.K F0 H0 Γ σ F H)(h:OutX C W F0 H0 D keep σ (aft r Γ f))
  (q:∀ x F1 H1,r = .ok x→Ext F H F1 H1→OutX C W F0 H0 D keep σ (f x)→Q1 x H1):TOk C W σ F H Q1 r:=by
 cases r with
 | ok x=>exact fun F' H' e=>q x F' H' rfl e h
 | exc c=>exact fun F' H' e=>h σ F' H' (g.next e) Kp.refl
 | bad=>exact h
end
section
variable {C:Cn} {cm:Bool} {k:Nat} {N:List Str} {sc so:Scope} {a b c e o tg:Expr} {es:List Expr} {A B:EX} {As:EXs} {T U:TX} {pos p tpos apos cpos p1:Pos} {X:Cx} {x:Str} {st:Stmt} {sts:List Stmt} {d d':ST} {keep:List Nat}
variable {F0 H0 F H F1 H1:Hp} {Γ:En} {σ:L2.St} {W:WX} {D:Ends}
theorem dx_nil:DXs keep C cm k N sc [] dNil:=⟨fun _=>tNext,fun _ _ _ _=>pss_nil,fun W D σ Γ F0 H0 F H g h=>h σ F H g Kp.refl⟩
theorem dx_one(h:DX keep C cm k N sc st d):DXs keep C cm k N sc [st] d:=by
 obtain ⟨tb,pb,qb⟩:=h
 exact ⟨tb,fun X S W T=>pss_one (pb X S W T),qb⟩
theorem dx_cons(h1:DX keep C cm k N sc st d)(h2:DXs keep C cm k N sc sts d'):DXs keep C cm k N sc (st :: sts) (dSeq d d'):=by
 obtain ⟨ta,pa,qa⟩:=h1
 obtain ⟨tb,pb,qb⟩:=h2
 refine ⟨fun W=>tSeq (ta W) (tb W),fun X S W T=>pss_cons (pa X S W T) (pb X S W T),fun W D σ Γ F0 H0 F H g h=>?_⟩
 refine qa W _ σ Γ F0 H0 F H g ?_
 unfold dSeq at h
 cases e:d Γ with
 | nx Γ' =>
  rw [e] at h
  intro σ' F' H' g' k'
  have h:OutX C W F0 H0 D keep σ (d' Γ'):=h
  exact qb W D σ' Γ' F0 H0 F' H' g' (h.later k')
 | rt t p Γr=>rw [e] at h; cases t <;> exact h
 | bk Γ'=>rw [e] at h; exact h
 | ct Γ'=>rw [e] at h; exact h
 | exc c Γ'=>rw [e] at h; exact h
 | bad=>rw [e] at h; exact h
theorem dx_if{s1 s2:List Stmt}{d1 d2:ST}(ht:DT C cm k N sc c T)(h1:DXs keep C cm k N sc s1 d1)(h2:DXs keep C cm k N sc s2 d2):DX keep C cm k N sc (.If c s1 s2 pos) (dIf T d1 d2):=by
 obtain ⟨tc,pc,qc⟩:=ht
 obtain ⟨ta,pa,qa⟩:=h1
 obtain ⟨tb,pb,qb⟩:=h2
 refine ⟨fun W=>tIfS (tc W) (ta W) (tb W),fun X S W T=>ps_if (pc X S.toSta W T) (pa X S W T) (pb X S W T),fun W D σ Γ F0 H0 F H g h=>?_⟩
 refine qc W σ Γ F0 H0 F H _ g.toGood (OutX.bindT g h fun b F1 H1 eb e1 h1=>?_)
 cases b with
 | true=>exact iteT (qa W D σ Γ F0 H0 F1 H1 (g.next e1) h1)
 | false=>exact iteF (qb W D σ Γ F0 H0 F1 H1 (g.next e1) h1)
theorem dx_set(i:Nat)(hk:i ∉ keep:=by decide){x:Str}{pos':Pos}(he:DE C cm k N sc e A)(hi:N[i]? = some x:=by rfl)(hx:Loc sc x:=by first | exact Or.inl rfl | exact Or.inr rfl)
  (hs:∀ env:PySem.Env,env.scope=sc→swapsWith e (some (.Name x pos')) pos.line env=pure false:=by intro env _; rfl):DX keep C cm k N sc (.Assign [.Name x pos'] e pos) (dSet i A):=by
 obtain ⟨ta,pa,qa⟩:=he
 refine ⟨fun W=>tAsg (ta W) (gName i),fun X S W T=>ps_set (by rw [S.n]; exact S.nd) (by rw [S.n]; exact hi) (by rw [S.s]; exact hx) (pa X S.toSta W T) (hs _ S.s) (by
  rcases hx with hx | hx
  ·exact .inr (by rw [S.s]; exact hx)
  ·exact .inl (S.rq _ hx)),fun W D σ Γ F0 H0 F H g h=>?_⟩
 refine qa W σ Γ F0 H0 F H _ g.toGood (OutX.bind g h fun x v F1 H1 ex e1 r1 h1=>?_)
 cases hp:putV x with
 | ok p =>
  rw [hp,after_ok] at h1
  obtain ⟨F2,e2,r2⟩:=r1.put e1 hp
  exact h1 _ F2 H1 ((g.next e2).setF i r2) (Kp.set hk)
 | exc c=>exact (put_noexc hp).elim
 | bad=>rw [hp] at h1; exact h1.elim
theorem dx_raise {i:Nat} {m:Str} {j:Nat} {p2 pos':Pos} (xc:Xc C i) (hg:sc.names.lookup (xName i)=some .globalImplicit:=by rfl) (hdb:(xName i == ("__debug__":Str))=false:=by decide) :
  DX keep C true k N sc (.Raise (some (.Call (.Name (xName i) p) [.Constant (.str m) j p2] [] pos)) none pos') (dRaise i):=by
 obtain ⟨ad,h1,h2,h3,h4,h5⟩:=xc
 have e:C.xc i = .ref ad:=by show (C.mg (xName i)).getD .none=_; rw [h1]; rfl
 refine ⟨fun W _ σ H=>W (.ref ad) none σ H,fun X S W T=>?_,fun W D σ Γ F0 H0 F H g h=>?_⟩
 ·exact ps_raise (S.c rfl) T (pmk_own PySem.F.excBase_ValueError (by rw [S.K]; exact h2) (by rw [S.toSta.mg]; exact h1) (by rw [S.K]; exact h3) (raises_own (by rw [S.K]; exact h4) (by rw [S.K]; exact h5)) (S.toSta.gl hg) hdb)
 ·have:=h σ F H g Kp.refl
  rw [e] at this
  exact this
theorem dx_ret(he:DE C cm k N sc e A):DX keep C cm k N sc (.Return (some e) pos) (dRetF A):=by
 obtain ⟨ta,pa,qa⟩:=he
 refine ⟨fun W=>tRet (ta W),fun X S W T=>ps_ret (pa X S.toSta W T),fun W D σ Γ F0 H0 F H g h=>?_⟩
 refine qa W σ Γ F0 H0 F H _ g.toGood (OutX.bind g h fun x v F1 H1 ex e1 r1 h1=>?_)
 cases hp:putV x with
 | ok p =>
  rw [hp,after_ok] at h1
  obtain ⟨F2,e2,r2⟩:=r1.put e1 hp
  exact h1 v σ F2 H1 (g.next e2) Kp.refl r2
 | exc c=>exact (put_noexc hp).elim
 | bad=>rw [hp] at h1; exact h1.elim
theorem dx_ex(he:DE C cm k N sc e A)(hs:∀ env:PySem.Env,swapsWith e none pos.line env=pure false:=by intro _; rfl):DX keep C cm k N sc (.Expr e pos) (dEx A):=by
 obtain ⟨ta,pa,qa⟩:=he
 refine ⟨fun W=>tDrop (ta W),fun X S W T=>ps_expr (pa X S.toSta W T) (hs _),fun W D σ Γ F0 H0 F H g h=>?_⟩
 exact qa W σ Γ F0 H0 F H _ g.toGood (OutX.bind g h fun x v F1 H1 ex e1 r1 h1=>h1 σ F1 H1 (g.next e1) Kp.refl)
end
section
variable {C:Cn} {k:Nat} {N:List Str} {sc:Scope} {st:Stmt}
theorem fnX_okF{x qu:Str}{ad:Addr}{fd:FuncData}{ps:List Str}{ns j:Nat}{ts:List Tg}{keep:List Nat}{d:ST}(F:Fun C.K x qu st ad fd)(S:FnScope N ps (defScope st))(hp:ps.length=ts.length)(hN:N.length=ns)
  (body:DXs keep C true j N (defScope st) (defBody st) d)(hkeep:∀ i,(ts[i]?.map isOw).getD false=true→i∈keep):FnOk C.P C.w C.K C.mg C.base (L2.CX C.P C.w) (j+1) ad fd ps (spX C ts (runX ts ns d)):=by
 obtain ⟨tb,pb,qb⟩:=body
 have hnn:ts.length≤ns:=by
  have:=congrArg List.length S.pre
  rw [List.length_take] at this
  omega
 refine F.okX S (fun vs H Q E h=>?_) (fun cdv A outer s H vs Q E hr h=>?_)
 ·obtain ⟨_,_,_,_,h1,_⟩:=h
  rw [h1,hp]
 ·obtain ⟨F0,H0,qs,h1,h2,g,h5⟩:=h
  refine ⟨tb fun cls d _ H=>E cls d H,pb _ ⟨⟨rfl,rfl,rfl,S.nd,fun _=>rfl,fun _=>hr,?_,⟨hr.dp,hr.un⟩⟩,passes_of rfl,fun _ _=>rfl,rfl,rfl⟩ _ (takes_of rfl rfl rfl rfl),?_⟩
  ·have h0:=hr.un
   show (A.deeper _).units+100 < cLine
   omega
  ·have hst:∀ i v,(vs.map some)[i]? = some (some v)→(L2.start N vs)[i]? = some (some v):=fun i v hv=>by
    unfold L2.start
    have hi:i < (vs.map some).length:=(List.getElem?_eq_some_iff.mp hv).1
    rw [List.getElem?_append_left (by simpa using hi)]
    exact hv
   have hlen:(startM ts qs).length=ts.length:=by unfold startM; simp; omega
   have hget:∀ i y,En.get (startM ts qs++List.replicate (ns - ts.length) none) i=some y→En.get (startM ts qs) i=some y:=fun i y hy=>by
    unfold En.get at hy ⊢
    rw [List.getD,List.getElem?_append] at hy
    split at hy
    ·rw [List.getD]; exact hy
    ·rw [List.getElem?_replicate] at hy
     split at hy <;> cases hy
   have back:∀ {Γ:En} {σ':L2.St} {F' H':Hp} {news:List PV},GoodS C.K F0 H0 Γ σ' F' H'→Kp keep σ' (L2.start N vs)→readA Γ 0 ts qs = .ok news→news.length=ts.length∧GoodS C.K F0 H0 (startM ts news) (vs.map some) F' H':=by
    intro Γ σ' F' H' news g' k' er
    obtain ⟨r1,r2⟩:=read_spec er
    refine ⟨r1,?_⟩
    obtain ⟨fp,s1,s2⟩:=g'.slots
    obtain ⟨fp0,t1,_⟩:=g.slots
    refine ⟨⟨g'.ext,?_,fun i=>if (ts[i]?.map isOw).getD false=true then fp i else [],fun i y hy=>?_,fun i j' a hij ha hb'=>?_⟩,fun i dd p hy=>?_⟩
    ·unfold startM
     simp
     omega
    ·obtain ⟨y1,y2⟩:=get_start hy
     obtain ⟨q1,q2⟩:=r2 i y.1 y.2 y1 y2
     obtain ⟨ty,py⟩:=y
     simp only at y1 y2 q1 q2
     cases ty with
     | ow dd =>
      have hg:=q1 rfl
      rw [Nat.zero_add] at hg
      obtain ⟨v,hv,r⟩:=s1 i _ hg
      have hk:=k' i (hkeep i (by rw [y1]; rfl))
      have hi:i < vs.length:=by
       have:=(List.getElem?_eq_some_iff.mp y1).1
       omega
      have hs0:=hst i vs[i] (by rw [List.getElem?_map,List.getElem?_eq_getElem hi]; rfl)
      rw [hk,hs0] at hv
      cases hv
      refine ⟨vs[i],by rw [List.getElem?_map,List.getElem?_eq_getElem hi]; rfl,?_⟩
      simp only
      rw [if_pos (by rw [y1]; rfl)]
      exact r
     | fz =>
      have hq:=q2 rfl
      obtain ⟨v,hv,r⟩:=t1 i _ (start_get y1 hq)
      exact ⟨v,hv,Rep.mono g'.ext.ff _ _ r⟩
     | bw dd =>
      have hq:=q2 rfl
      exact (g.nb i dd py (start_get y1 hq)).elim
    ·simp only at ha hb'
     split at ha
     ·split at hb'
      ·exact s2 i j' a hij ha hb'
      ·simp at hb'
     ·simp at ha
    ·obtain ⟨y1,y2⟩:=get_start hy
     obtain ⟨q1,q2⟩:=r2 i _ p y1 y2
     exact (g.nb i dd p (start_get y1 (q2 rfl))).elim
   refine qb _ _ _ (startM ts qs++List.replicate (ns - ts.length) none) F0 H0 F0 H ⟨⟨g.ext,?_,?_⟩,fun i d p hy=>g.nb i d p (hget _ _ hy)⟩ ?_
   ·rw [List.length_append,hlen,List.length_replicate]
    simp [L2.start,hN]
    omega
   ·obtain ⟨fp,s1,s2⟩:=g.slots
    refine ⟨fp,fun i y hy=>?_,s2⟩
    obtain ⟨v,hv,r⟩:=s1 i y (hget _ _ hy)
    exact ⟨v,hst i v hv,r⟩
   ·unfold runX at h5
    rw [if_pos h1] at h5
    cases eo:d (startM ts qs++List.replicate (ns - ts.length) none) with
    | nx Γ =>
     rw [eo] at h5
     simp only at h5
     intro σ' F' H' g' k'
     cases er:readA Γ 0 ts qs with
     | exc c=>rw [er] at h5; exact (readA_noexc er).elim
     | bad=>rw [er] at h5; exact h5.elim
     | ok news =>
      rw [er] at h5
      obtain ⟨z1,z2⟩:=back g' k' er
      exact h5 .non F' H' z1 z2 rep_non
    | rt t p Γ =>
     cases t with
     | fz =>
      rw [eo] at h5
      simp only at h5
      intro v σ' F' H' g' k' rv
      cases er:readA Γ 0 ts qs with
      | exc c=>rw [er] at h5; exact (readA_noexc er).elim
      | bad=>rw [er] at h5; exact h5.elim
      | ok news =>
       rw [er] at h5
       obtain ⟨z1,z2⟩:=back g' k' er
       exact h5 v F' H' z1 z2 rv
     | bw dd=>rw [eo] at h5; exact h5.elim
     | ow dd=>rw [eo] at h5; exact h5.elim
    | exc c Γ =>
     rw [eo] at h5
     simp only at h5
     intro σ' F' H' g' k'
     cases er:readA Γ 0 ts qs with
     | exc c=>rw [er] at h5; exact (readA_noexc er).elim
     | bad=>rw [er] at h5; exact h5.elim
     | ok news =>
      rw [er,bind_ok] at h5
      obtain ⟨z1,z2⟩:=back g' k' er
      by_cases hn:news=qs
      ·rw [if_pos hn] at h5
       rw [hn] at z2
       exact h5 F' H' z2
      ·rw [if_neg hn] at h5; exact h5.elim
    | bk Γ=>rw [eo] at h5; exact h5.elim
    | ct Γ=>rw [eo] at h5; exact h5.elim
    | bad=>rw [eo] at h5; exact h5.elim
theorem fnX_ok{x:Str}{ad:Addr}{fd:FuncData}{ps:List Str}{ns j:Nat}{ts:List Tg}{keep:List Nat}{d:ST}(F:Fun C.K x x st ad fd)(S:FnScope N ps (defScope st))(hp:ps.length=ts.length)(hN:N.length=ns)(hm:C.mg x=some (.ref ad))(hb:Binds C.K fd ps [])
  (body:DXs keep C true j N (defScope st) (defBody st) d)(hkeep:∀ i,(ts[i]?.map isOw).getD false=true→i∈keep):CalX C x (j+1) ts (runX ts ns d):=⟨ad,fd,ps,hp,fnX_okF F S hp hN body hkeep,F.kp,hb,hm⟩
end
end Vl
end
section
set_option Elab.async false
set_option linter.all false
set_option maxRecDepth 100000
set_option maxHeartbeats 1000000
namespace Vl
open PySem L2 Vm PyProof.Rows
def tNX:List (Nat×Tg)→TA→TA
 | [],t=>t
 | q :: r,t=>tCons (tVar q.1) (tNX r t)
theorem tNX_run:∀ (js:List (Nat×Tg)) (vs1:List V) {t:TA} {σ:L2.St} {H:Hp} {Q:List V→Hp→Prop},vs1.length=js.length→(∀ (jx i:Nat) (t:Tg),js[jx]? = some (i,t)→∃ v,vs1[jx]? = some v∧σ[i]? = some (some v))→t σ H (fun vs H2=>Q (vs1++vs) H2)→tNX js t σ H Q
 | [],[],_,_,_,_,_,_,h=>h
 | [],_ :: _,_,_,_,_,hl,_,_=>by simp at hl
 | _ :: _,[],_,_,_,_,hl,_,_=>by simp at hl
 | q :: js,v :: vs,t,σ,H,Q,hl,hv,h=>by
  obtain ⟨v',h1,h2⟩:=hv 0 q.1 q.2 rfl
  cases h1
  exact ⟨v,h2,tNX_run js vs (Q:=fun xs H2=>Q (v :: xs) H2) (by simpa using hl) (fun jx i t h=>hv (jx+1) i t (by simpa using h)) h⟩
theorem vals_uniq{js:List (Nat×Tg)}{σ:L2.St}{a b:List V}(ha:a.length=js.length)(hb:b.length=js.length)(h1:∀ (jx i:Nat) (t:Tg),js[jx]? = some (i,t)→∃ v,a[jx]? = some v∧σ[i]? = some (some v))(h2:∀ (jx i:Nat) (t:Tg),js[jx]? = some (i,t)→∃ v,b[jx]? = some v∧σ[i]? = some (some v)):a=b:=by
 apply List.ext_getElem?
 intro jx
 cases e:js[jx]? with
 | none =>
  have:=List.getElem?_eq_none_iff.mp e
  rw [List.getElem?_eq_none (by omega),List.getElem?_eq_none (by omega)]
 | some q =>
  obtain ⟨v,a1,a2⟩:=h1 jx q.1 q.2 e
  obtain ⟨u,b1,b2⟩:=h2 jx q.1 q.2 e
  rw [a2] at b2
  cases b2
  rw [a1,b1]
theorem putVs_len:∀ {xs:List TV} {ps:List PV},putVs xs = .ok ps→ps.length=xs.length
 | [],ps,h=>by cases h; rfl
 | x :: xs,ps,h=>by
  unfold putVs at h
  cases q:putV x with
  | ok p =>
   rw [q,bind_ok] at h
   cases q2:putVs xs with
   | ok qs=>rw [q2] at h; cases h; rw [List.length_cons,List.length_cons,putVs_len q2]
   | exc c=>rw [q2] at h; cases h
   | bad=>rw [q2] at h; cases h
  | exc c=>rw [q] at h; cases h
  | bad=>rw [q] at h; cases h
theorem put_same:∀ {js:List (Nat×Tg)} {Γ:En} {ps r:List PV},takeA Γ js=some ps→putA Γ js (ps++r)=Γ
 | [],Γ,ps,r,h=>rfl
 | (i,t) :: js,Γ,ps,r,h=>by
  unfold takeA at h
  cases e:Γ.get i with
  | none=>rw [e] at h; cases h
  | some y =>
   obtain ⟨t',q⟩:=y
   rw [e] at h
   simp only at h
   by_cases ht:tgEq t' t=true
   ·rw [if_pos ht] at h
    cases e2:takeA Γ js with
    | none=>rw [e2] at h; cases h
    | some r2 =>
     rw [e2] at h
     cases h
     have et:=tgEq_eq ht
     subst et
     cases t' with
     | fz=>exact (put_same (r:=r) e2:putA Γ js (r2++r)=Γ)
     | bw d=>exact (put_same (r:=r) e2:putA Γ js (r2++r)=Γ)
     | ow d =>
      show putA (Γ.set i (some (.ow d,q))) js (r2++r)=Γ
      have es:Γ.set i (some (.ow d,q))=Γ:=by
       apply List.ext_getElem?
       intro j
       rw [List.getElem?_set]
       split
       ·rename_i hij
        subst hij
        unfold En.get at e
        rw [List.getD] at e
        cases z:Γ[i]? with
        | none=>rw [z] at e; cases e
        | some s =>
         rw [z] at e
         have e:s=some (.ow d,q):=e
         rw [e,if_pos (List.getElem?_eq_some_iff.mp z).1]
       ·rfl
      rw [es]
      exact put_same e2
   ·rw [if_neg ht] at h; cases h
section
variable (C:Cn) (cm:Bool) (k:Nat) (N:List Str) (sc:Scope)
def AX(es:List Expr)(js:List (Nat×Tg))(As:EXs):Prop:=∃ ta:WX→TA,(∀ X,Sta C cm k N sc X→∀ W,Takes X W→PA X es (tNX js (ta W))) ∧
 ∀ W σ Γ F0 H0 F H Q,Good C.K F0 H0 Γ σ F H→AOk C W σ F H Q (As Γ)→ta W σ H Q
end
def CXok(C:Cn)(W:WX)(σ:L2.St)(F0 H0:Hp)(Γ:En)(m:Bool)(f:FX)(js:List (Nat×Tg))(as:EXs)(Q:PV→En→V→Hp→Prop):Prop:=match takeH m Γ js with
 | none=>False
 | some ps=>match as Γ with
  | .exc c=>∀ F' H',GoodS C.K F0 H0 Γ σ F' H'→W (C.xc c) none σ H'
  | .bad=>False
  | .ok xs=>match putVs xs with
   | .ok qs=>(match f (ps++qs) with
    | .ok (p,news)=>∀ v F' H',GoodS C.K F0 H0 (putA Γ js news) σ F' H'→Rep C.K F' p v→Q p (putA Γ js news) v H'
    | .exc c=>∀ F' H',GoodS C.K F0 H0 Γ σ F' H'→W (C.xc c) none σ H'
    | .bad=>False)
   | _=>False
def DC(C:Cn)(k:Nat)(N:List Str)(sc:Scope)(e:Expr)(m:Bool)(f:FX)(js:List (Nat×Tg))(as:EXs):Prop:=∃ tb:WX→TE,(∀ X,Sta C true k N sc X→∀ W,Takes X W→PE X e (tb W)) ∧
 ∀ W σ Γ F0 H0 F H (Q:VK),GoodS C.K F0 H0 Γ σ F H→CXok C W σ F0 H0 Γ m f js as (fun _ _=>Q)→tb W σ H Q
theorem takeH_ok{m:Bool}{Γ:En}{js:List (Nat×Tg)}{ps:List PV}(h:takeH m Γ js=some ps):takeA Γ js=some ps∧(m=true→isHs ps=true):=by
 unfold takeH at h
 cases e:takeA Γ js with
 | none=>rw [e] at h; cases h
 | some qs =>
  rw [e] at h
  simp only at h
  split at h
  ·cases h
  ·rename_i hn
   cases h
   refine ⟨rfl,fun hm=>?_⟩
   subst hm
   cases q:isHs ps with
   | true=>rfl
   | false=>rw [q] at hn; exact absurd rfl hn
section
variable {C:Cn} {cm:Bool} {k:Nat} {N:List Str} {sc so:Scope} {a b c e o tg:Expr} {es:List Expr} {A B:EX} {As:EXs} {T U:TX} {pos p tpos apos cpos p1:Pos} {X:Cx} {x:Str} {st:Stmt} {sts:List Stmt} {d d':ST} {keep:List Nat}
variable {F0 H0 F H F1 H1:Hp} {Γ:En} {σ:L2.St} {W:WX} {D:Ends} {js:List (Nat×Tg)} {f:FX} {ts:List Tg} {n j:Nat} {m:Bool}
theorem ax_of(h:DA C cm k N sc es As):AX C cm k N sc es [] As:=h
theorem ax_cons (i:Nat) (t:Tg) (h:AX C cm k N sc es js As) (hN:N[i]? = some x:=by rfl) (hv:Vis sc x:=by first | exact Or.inl rfl | exact Or.inr (Or.inl rfl) | exact Or.inr (Or.inr rfl)) (hd:(x == ("__debug__":Str))=false:=by decide) (hcd:(x == ("__classdict__":Str))=false:=by decide)
  (hst:∀ env:PySem.Env,starEach (.Name x p1 :: es) env=(false,eval (.Name x p1) env) :: starEach es env:=by intro _; rfl):AX C cm k N sc (.Name x p1 :: es) ((i,t) :: js) As:=by
 obtain ⟨ta,pa,qa⟩:=h
 exact ⟨ta,fun X S W T=>pa_cons (pe_var (by rw [S.n]; exact hN) (by rw [S.s]; exact hv) hd hcd) (pa X S W T) (hst _),qa⟩
theorem cx_run{ta:WX→TA}{Q:VK}{js0:List (Nat×Tg)}{ps0:List V}(qa:∀ W σ Γ F0 H0 F H Q,Good C.K F0 H0 Γ σ F H→AOk C W σ F H Q (As Γ)→ta W σ H Q)(hts:ts=js.map (·.2)++List.replicate n .fz)(hAs:AL n As)(hnd:(js.map (·.1)).Nodup)
  (g:GoodS C.K F0 H0 Γ σ F H)(h:CXok C W σ F0 H0 Γ m f js As (fun _ _=>Q)):∃ vs1:List V,vs1.length=js.length∧(∀ (jx i:Nat) (t:Tg),js[jx]? = some (i,t)→∃ v,vs1[jx]? = some v∧σ[i]? = some (some v))∧ta W σ H fun vs H2=>spX C ts f (vs1++vs) H2 Q (WE W σ):=by
 unfold CXok at h
 cases et0:takeH m Γ js with
 | none=>rw [et0] at h; exact h.elim
 | some ps =>
  rw [et0] at h
  simp only at h
  obtain ⟨et,_⟩:=takeH_ok et0
  obtain ⟨vs1,_,l1,v1,_⟩:=call_good g et hnd (RepL.nil (K:=C.K) (F:=F))
  refine ⟨vs1,l1,v1,qa W σ Γ F0 H0 F H _ g.toGood ?_⟩
  cases ex:As Γ with
  | exc c=>rw [ex] at h; exact fun F' H' e=>h F' H' (g.next e)
  | bad=>rw [ex] at h; exact h.elim
  | ok xs =>
   rw [ex] at h
   simp only at h
   intro vs fp F1 H1 e1 r1
   cases hp:putVs xs with
   | exc c=>rw [hp] at h; exact h.elim
   | bad=>rw [hp] at h; exact h.elim
   | ok qs =>
    rw [hp] at h
    simp only at h
    obtain ⟨F2,e2,s2,r2,_⟩:=RVs.put e1 r1 hp
    have g2:=g.next e2
    obtain ⟨vs1',Hc,l1',v1',gc,back⟩:=call_good g2 et hnd r2
    have ev:=vals_uniq l1' l1 v1' v1
    subst ev
    have hq:qs.length=n:=by rw [putVs_len hp]; exact hAs Γ xs ex
    have hts2:js.map (·.2)++List.replicate qs.length Tg.fz=ts:=by rw [hq,hts]
    rw [hts2] at gc back
    have hl:ts.length=js.length+n:=by rw [hts]; simp
    have tl:=(take_spec et).1
    refine ⟨F2,Hc,ps++qs,by rw [List.length_append,tl,hq,hl],by rw [List.length_append,l1',r2.len,hq,hl],gc,?_⟩
    cases ef:f (ps++qs) with
    | bad=>rw [ef] at h; exact h.elim
    | exc c =>
     rw [ef] at h
     intro F' H' gn
     have:=back (by rw [List.length_append,tl]) gn
     rw [put_same et] at this
     exact h F' H' this
    | ok y =>
     obtain ⟨pv,news⟩:=y
     rw [ef] at h
     exact fun v F' H' hn gn rv=>h v F' H' (back (by rw [hn,hl,hq]) gn) rv
theorem dc_fun (G:CalX C x j ts f) (ha:AX C true k N sc (e :: es) js As) (hAs:AL n As) (hts:ts=js.map (·.2)++List.replicate n .fz:=by rfl) (hj:j≤k:=by decide) (hg:sc.names.lookup x=some .globalImplicit:=by rfl) (hdb:(x == ("__debug__":Str))=false:=by decide)
  (he:∀ env:PySem.Env,starEach (e :: es) env=(false,eval e env) :: starEach es env:=by intro _; rfl) (hpl:∀ env:PySem.Env,(backTo cpos (starEach es env)).any (·.1)=false:=by intro _; rfl) (hnd:(js.map (·.1)).Nodup:=by decide) :
  DC C k N sc (.Call (.Name x p) (e :: es) [] cpos) false f js As:=by
 obtain ⟨ta,pa,qa⟩:=ha
 obtain ⟨ad,fd,ps,hps,Fk,kp,bn,hm⟩:=G.ex
 refine ⟨fun W=>tCallS (spX C ts f) (WE W) (tNX js (ta W)),fun X S W T=>?_,fun W σ Γ F0 H0 F H Q g h=>?_⟩
 ·have cn:=S.cn
  subst cn
  exact pe_callS Fk ((S.r rfl).mono hj) (S.gl hg) hm kp bn (fun σ=>passAt T σ) (pa X S W T) hdb (he _) (hpl _)
 ·obtain ⟨vs1,l1,v1,r⟩:=cx_run (ps0:=[]) (js0:=[]) qa hts hAs hnd g h
  exact tNX_run js vs1 l1 v1 r
theorem CXok.of{K1:PV→En→Out}{Q1:PV→En→V→Hp→Prop}(h:OutOk C W F0 H0 D (callX m f js As Γ K1))(q:∀ p Γ' v F' H',GoodS C.K F0 H0 Γ' σ F' H'→Rep C.K F' p v→OutOk C W F0 H0 D (K1 p Γ')→Q1 p Γ' v H'):CXok C W σ F0 H0 Γ m f js As Q1:=by
 unfold callX at h
 unfold CXok
 cases e1:takeH m Γ js with
 | none=>rw [e1] at h; exact h
 | some ps =>
  rw [e1] at h
  simp only at h ⊢
  cases e2:As Γ with
  | exc c=>rw [e2] at h; exact fun F' H' g=>h σ F' H' g
  | bad=>rw [e2] at h; exact h
  | ok xs =>
   rw [e2] at h
   simp only at h ⊢
   cases e3:putVs xs with
   | exc c=>rw [e3] at h; exact h
   | bad=>rw [e3] at h; exact h
   | ok qs =>
    rw [e3] at h
    simp only at h ⊢
    cases e4:f (ps++qs) with
    | exc c=>rw [e4] at h; exact fun F' H' g=>h σ F' H' g
    | bad=>rw [e4] at h; exact h
    | ok y=>rw [e4] at h; exact fun v F' H' g r=>q _ _ v F' H' g r h
theorem CXok.ofX{K1:PV→En→Out}{Q1:PV→En→V→Hp→Prop}(h:OutX C W F0 H0 D keep σ (callX m f js As Γ K1))(q:∀ p Γ' v F' H',GoodS C.K F0 H0 Γ' σ F' H'→Rep C.K F' p v→OutX C W F0 H0 D keep σ (K1 p Γ')→Q1 p Γ' v H'):CXok C W σ F0 H0 Γ m f js As Q1:=by
 unfold callX at h
 unfold CXok
 cases e1:takeH m Γ js with
 | none=>rw [e1] at h; exact h
 | some ps =>
  rw [e1] at h
  simp only at h ⊢
  cases e2:As Γ with
  | exc c=>rw [e2] at h; exact fun F' H' g=>h σ F' H' g Kp.refl
  | bad=>rw [e2] at h; exact h
  | ok xs =>
   rw [e2] at h
   simp only at h ⊢
   cases e3:putVs xs with
   | exc c=>rw [e3] at h; exact h
   | bad=>rw [e3] at h; exact h
   | ok qs =>
    rw [e3] at h
    simp only at h ⊢
    cases e4:f (ps++qs) with
    | exc c=>rw [e4] at h; exact fun F' H' g=>h σ F' H' g Kp.refl
    | bad=>rw [e4] at h; exact h
    | ok y=>rw [e4] at h; exact fun v F' H' g r=>q _ _ v F' H' g r h
theorem CXok.imp{Q1 Q2:PV→En→V→Hp→Prop}(h:CXok C W σ F0 H0 Γ m f js As Q1)(q:∀ p Γ' v H',Q1 p Γ' v H'→Q2 p Γ' v H'):CXok C W σ F0 H0 Γ m f js As Q2:=by
 unfold CXok at h ⊢
 cases e1:takeH m Γ js with
 | none=>rw [e1] at h; exact h
 | some ps =>
  rw [e1] at h
  simp only at h ⊢
  cases e2:As Γ with
  | exc c=>rw [e2] at h; exact h
  | bad=>rw [e2] at h; exact h
  | ok xs =>
   rw [e2] at h
   simp only at h ⊢
   cases e3:putVs xs with
   | exc c=>rw [e3] at h; exact h
   | bad=>rw [e3] at h; exact h
   | ok qs =>
    rw [e3] at h
    simp only at h ⊢
    cases e4:f (ps++qs) with
    | exc c=>rw [e4] at h; exact h
    | bad=>rw [e4] at h; exact h
    | ok y=>rw [e4] at h; exact fun v F' H' g r=>q _ _ v H' (h v F' H' g r)
theorem ds_setX(i:Nat){pos':Pos}(hc:DC C k N sc e m f js As)(hi:N[i]? = some x:=by rfl)(hx:Loc sc x:=by first | exact Or.inl rfl | exact Or.inr rfl)
  (hs:∀ env:PySem.Env,env.scope=sc→swapsWith e (some (.Name x pos')) pos.line env=pure false:=by intro env _; rfl):DS C true k N sc (.Assign [.Name x pos'] e pos) (dSetX i m f js As):=by
 obtain ⟨tb,pb,qb⟩:=hc
 refine ⟨fun W=>tAsg (tb W) (gName i),fun X S W T=>ps_set (by rw [S.n]; exact S.nd) (by rw [S.n]; exact hi) (by rw [S.s]; exact hx) (pb X S.toSta W T) (hs _ S.s) (by
  rcases hx with hx | hx
  ·exact .inr (by rw [S.s]; exact hx)
  ·exact .inl (S.rq _ hx)),fun W D σ Γ F0 H0 F H g h=>?_⟩
 exact qb W σ Γ F0 H0 F H _ g ((CXok.of (Q1:=fun _ _ v H'=>D.nx (σ.set i (some v)) H') h fun p Γ' v F' H' g' r h'=>h' _ F' H' (g'.setF i r)).imp fun _ _ _ _ q=>q)
theorem dx_setX(i:Nat)(hk:i ∉ keep:=by decide){pos':Pos}(hc:DC C k N sc e m f js As)(hi:N[i]? = some x:=by rfl)(hx:Loc sc x:=by first | exact Or.inl rfl | exact Or.inr rfl)
  (hs:∀ env:PySem.Env,env.scope=sc→swapsWith e (some (.Name x pos')) pos.line env=pure false:=by intro env _; rfl):DX keep C true k N sc (.Assign [.Name x pos'] e pos) (dSetX i m f js As):=by
 obtain ⟨tb,pb,qb⟩:=hc
 refine ⟨fun W=>tAsg (tb W) (gName i),fun X S W T=>ps_set (by rw [S.n]; exact S.nd) (by rw [S.n]; exact hi) (by rw [S.s]; exact hx) (pb X S.toSta W T) (hs _ S.s) (by
  rcases hx with hx | hx
  ·exact .inr (by rw [S.s]; exact hx)
  ·exact .inl (S.rq _ hx)),fun W D σ Γ F0 H0 F H g h=>?_⟩
 exact qb W σ Γ F0 H0 F H _ g ((CXok.ofX (Q1:=fun _ _ v H'=>D.nx (σ.set i (some v)) H') h fun p Γ' v F' H' g' r h'=>h' _ F' H' (g'.setF i r) (Kp.set hk)).imp fun _ _ _ _ q=>q)
def MOk(C:Cn)(W:WX)(σ:L2.St)(F0 H0:Hp)(Q:Bool→Hp→Prop):RM→Prop
 | .ok b Γ=>∀ F H,GoodS C.K F0 H0 Γ σ F H→Q b H
 | .exc c Γ=>∀ F H,GoodS C.K F0 H0 Γ σ F H→W (C.xc c) none σ H
 | .bad=>False
variable (C k N sc) in
def DTM (e:Expr) (t:TM):Prop:=∃ tb:WX→TT,(∀ X,Sta C true k N sc X→∀ W,Takes X W→PT X e (tb W)) ∧
 ∀ W σ Γ F0 H0 F H Q,GoodS C.K F0 H0 Γ σ F H→MOk C W σ F0 H0 Q (t Γ)→tb W σ H Q
variable (C k N sc) in
def DWM (e:Expr) (t:TM):Prop:=∃ tb:WX→TT,(∀ X,Sta C true k N sc X→∀ W,Takes X W→PW X e (tb W)) ∧
 ∀ W σ Γ F0 H0 F H Q,GoodS C.K F0 H0 Γ σ F H→MOk C W σ F0 H0 Q (t Γ)→tb W σ H Q
variable {t u:TM}
end
end Vl
end
section
set_option linter.all false
set_option maxHeartbeats 1000000
namespace Vm
@[simp] def dnP (t:Tg) (p:PV):Tg:=if boxed p then dn t else .fz
@[simp] def fldV (j:Nat) (x:TV):Res TV:=match x with
 | (t,.exo 0 l)=>match l[j]? with
  | some p=>.ok (dnP t p,p)
  | none=>.bad
 | _=>.bad
@[simp] def eFld (j:Nat) (a:EX):EX:=fun Γ=>(a Γ).bind fun x=>fldV j x
def fldSet(l:List PV)(j:Nat)(p:PV):Option (List PV):=match l[j]? with
 | some q=>if boxed q then none else some (l.set j p)
 | none=>if j=l.length∧j < 4 then some (l++[p]) else none
def dFSet(i j:Nat)(e:EX):ST:=fun Γ=>match Γ.get i with
 | some (.ow 2,.exo 0 l)=>aft (e Γ) Γ fun x=>aft (putV x) Γ fun p=>if boxed p then .bad else match fldSet l j p with
  | some l'=>.nx (Γ.set i (some (.ow 2,.exo 0 l')))
  | none=>.bad
 | _=>.bad
def dFNew(i j:Nat):ST:=fun Γ=>match Γ.get i with
 | some (.ow 2,.exo 0 l)=>if j=l.length∧j < 4 then .nx (Γ.set i (some (.ow 2,.exo 0 (l++[.dic [] []])))) else .bad
 | _=>.bad
def dFPut(i j:Nat)(k e:EX):ST:=fun Γ=>match Γ.get i with
 | some (.ow 2,.exo 0 l)=>(match l[j]? with
  | some (.dic ks m)=>aft (e Γ) Γ fun x=>aft (k Γ) Γ fun y=>aft (putV x) Γ fun p=>aft (fzK y) Γ fun q =>
   if sameK q ks && decide (ks.length < 16777216) then .nx (Γ.set i (some (.ow 2,.exo 0 (l.set j (.dic (dPutK ks q) (dPutV ks m q p)))))) else .bad
  | _=>.bad)
 | _=>.bad
def dDelK:List PV→PV→List PV
 | [],_=>[]
 | k :: ks,q=>if eqv k q then dDelK ks q else k :: dDelK ks q
def dDelV{α:Type}:List PV→List α→PV→List α
 | k :: ks,v :: vs,q=>if eqv k q then dDelV ks vs q else v :: dDelV ks vs q
 | _,_,_=>[]
def dFPop(i j:Nat)(k:EX):ST:=fun Γ=>match Γ.get i with
 | some (.ow 2,.exo 0 l)=>(match l[j]? with
  | some (.dic ks m)=>aft (k Γ) Γ fun y=>aft (fzK y) Γ fun q =>
   if isStr q && ks.all keyL && (dIx ks q).isSome then .nx (Γ.set i (some (.ow 2,.exo 0 (l.set j (.dic (dDelK ks q) (dDelV ks m q)))))) else .bad
  | _=>.bad)
 | _=>.bad
def eHouse(f:FX):EX:=fun _=>match f [.exo 0 []] with
 | .ok (.non,[h])=>.ok (.ow 2,h)
 | _=>.bad
def eMeth(f:FN)(a:EX)(as:EXs):EX:=fun Γ=>(a Γ).bind fun x=>if isHs [x.2] then ((as Γ).bind fun xs=>(f ((x :: xs).map (·.2))).bind fun r=>if (x :: xs).any isBw && !stabR r then .bad else .ok r) else .bad
def dfX(f:FX)(n:Nat):FX:=fun args=>f (args++List.replicate n .non)
end Vm
end
section
set_option Elab.async false
set_option linter.all false
set_option maxRecDepth 100000
set_option maxHeartbeats 1000000
namespace Vl
open PySem L2 Vm PyProof.Rows
theorem fldZ_look:∀ {j:Nat} {f:Str} {vs:List V},fldN[j]? = some f→(fldZ vs).lookup f=vs[j]?
 | j,f,vs,h=>by
  have n01:(("days_kept":Str) == "rows_kept")=false:=by decide +kernel
  have n02:(("prices_now":Str) == "rows_kept")=false:=by decide +kernel
  have n12:(("prices_now":Str) == "days_kept")=false:=by decide +kernel
  have n03:(("fresh_now":Str) == "rows_kept")=false:=by decide +kernel
  have n13:(("fresh_now":Str) == "days_kept")=false:=by decide +kernel
  have n23:(("fresh_now":Str) == "prices_now")=false:=by decide +kernel
  match j,h with
  | 0,h =>
   cases h
   cases vs with
   | nil=>rfl
   | cons a vs=>simp [fldZ,fldN,List.lookup]
  | 1,h =>
   cases h
   match vs with
   | []=>rfl
   | [a]=>simp [fldZ,fldN,List.lookup,n01]
   | a :: b :: vs=>simp [fldZ,fldN,List.lookup,n01]
  | 2,h =>
   cases h
   match vs with
   | []=>rfl
   | [a]=>simp [fldZ,fldN,List.lookup,n02]
   | [a,b]=>simp [fldZ,fldN,List.lookup,n02,n12]
   | a :: b :: c :: vs=>simp [fldZ,fldN,List.lookup,n02,n12]
  | 3,h =>
   cases h
   match vs with
   | []=>rfl
   | [a]=>simp [fldZ,fldN,List.lookup,n03]
   | [a,b]=>simp [fldZ,fldN,List.lookup,n03,n13]
   | [a,b,c]=>simp [fldZ,fldN,List.lookup,n03,n13,n23]
   | a :: b :: c :: d :: vs=>simp [fldZ,fldN,List.lookup,n03,n13,n23]
  | j+4,h=>simp [fldN] at h
theorem fldZ_put:∀ {j:Nat} {f:Str} {vs:List V} {y:V},fldN[j]? = some f→vs.length≤4→j≤vs.length→putF f y (fldZ vs)=fldZ (if j < vs.length then vs.set j y else vs++[y])
 | j,f,vs,y,h,hl,hj=>by
  have n01:¬ (("rows_kept":Str) = "days_kept"):=by decide +kernel
  have n02:¬ (("rows_kept":Str) = "prices_now"):=by decide +kernel
  have n12:¬ (("days_kept":Str) = "prices_now"):=by decide +kernel
  have n03:¬ (("rows_kept":Str) = "fresh_now"):=by decide +kernel
  have n13:¬ (("days_kept":Str) = "fresh_now"):=by decide +kernel
  have n23:¬ (("prices_now":Str) = "fresh_now"):=by decide +kernel
  match vs,hl,hj with
  | [],_,hj =>
   obtain rfl:j=0:=by simpa using hj
   cases h; rfl
  | [a],_,hj =>
   match j,h,hj with
   | 0,h,_=>cases h; simp [fldZ,fldN,putF]
   | 1,h,_=>cases h; simp [fldZ,fldN,putF,n01]
   | j+2,_,hj=>simp at hj
  | [a,b],_,hj =>
   match j,h,hj with
   | 0,h,_=>cases h; simp [fldZ,fldN,putF]
   | 1,h,_=>cases h; simp [fldZ,fldN,putF,n01]
   | 2,h,_=>cases h; simp [fldZ,fldN,putF,n02,n12]
   | j+3,_,hj=>simp at hj
  | [a,b,c],_,hj =>
   match j,h,hj with
   | 0,h,_=>cases h; simp [fldZ,fldN,putF]
   | 1,h,_=>cases h; simp [fldZ,fldN,putF,n01]
   | 2,h,_=>cases h; simp [fldZ,fldN,putF,n02,n12]
   | 3,h,_=>cases h; simp [fldZ,fldN,putF,n03,n13,n23]
   | j+4,h,_=>simp [fldN] at h
  | [a,b,c,d],_,hj =>
   match j,h,hj with
   | 0,h,_=>cases h; simp [fldZ,fldN,putF]
   | 1,h,_=>cases h; simp [fldZ,fldN,putF,n01]
   | 2,h,_=>cases h; simp [fldZ,fldN,putF,n02,n12]
   | 3,h,_=>cases h; simp [fldZ,fldN,putF,n03,n13,n23]
   | j+4,h,_=>simp [fldN] at h
  | _ :: _ :: _ :: _ :: _ :: _,hl,_=>simp at hl
def noFld(m:Str):Bool:=fldN.all fun f=>!(m == f)
theorem fldZ_no{m:Str}(h:noFld m=true):∀ vs:List V,(fldZ vs).lookup m=none:=by
 intro vs
 have go:∀ (ns:List Str) (vs:List V),(ns.all fun f=>!(m == f))=true→(ns.zip vs).lookup m=none:=by
  intro ns
  induction ns with
  | nil=>intro vs _; rfl
  | cons n ns ih =>
   intro vs h
   rw [List.all_cons,Bool.and_eq_true] at h
   cases vs with
   | nil=>rfl
   | cons v vs =>
    rw [List.zip_cons_cons,List.lookup]
    have e:(m == n)=false:=by simpa using h.1
    rw [e]
    exact ih vs h.2
 exact go fldN vs h
structure HsC (C:Cn):Prop where
 ex:∃ Ch:Addr,C.mg "House" = some (.ref Ch)∧Cls C.K Ch∧∀ f∈fldN,NoAttr C.K Ch f
theorem own_exo{K:KK}{F H:Hp}{d:Nat}{fp:List Addr}{l:List PV}{v:V}(h:Own K F H (d+1) fp (.exo 0 l) v):∃ a Ch dx vs fps,v = .ref a∧H a=some (.ins Ch dx (fldZ vs))∧K.mg "House" = some (.ref Ch)∧l.length≤4∧fp=a :: fps.flatten∧OwnL (Own K F H d) fps l vs:=by
 rcases h with ⟨l',a,vs,fps,h1,h2,h3,h4⟩ | ⟨_,h,_⟩
 ·rcases h2 with ⟨e,_⟩ | ⟨_,_,e,_⟩ | ⟨Ch,dx,e,z1,z2,z3⟩
  ·cases e
  ·cases e
  ·cases e
   exact ⟨a,Ch,dx,vs,fps,h1,z1,z2,z3,h3,h4⟩
 ·cases h
theorem own_mkE {K:KK} {F H:Hp} {d:Nat} {l:List PV} {a Ch dx:Addr} {vs:List V} {fps:List (List Addr)} (z1:H a=some (.ins Ch dx (fldZ vs))) (z2:K.mg "House" = some (.ref Ch)) (z3:l.length≤4) (h:OwnL (Own K F H d) fps l vs):Own K F H (d+1) (a :: fps.flatten) (.exo 0 l) (.ref a) :=
 .inl ⟨l,a,vs,fps,rfl,.inr (.inr ⟨Ch,dx,rfl,z1,z2,z3⟩),rfl,h⟩
theorem rv_partE{K:KK}{F H Hs:Hp}{t:Tg}{l:List PV}{v:V}(hf:Same F H)(h:RV K F H Hs (t,.exo 0 l) v):∃ a Ch dx vs,v = .ref a∧H a=some (.ins Ch dx (fldZ vs))∧K.mg "House" = some (.ref Ch)∧l.length≤4∧RepL K H l vs∧∀ (j:Nat) p u,l[j]? = some p→vs[j]? = some u→∀ Hs',RV K F H Hs' (dnP t p,p) u:=by
 have zero:∀ {v:V},Rep K F (.exo 0 l) v→∃ a Ch dx vs,v = .ref a∧H a=some (.ins Ch dx (fldZ vs))∧K.mg "House" = some (.ref Ch)∧l.length≤4∧RepL K H l vs∧∀ (j:Nat) p u,l[j]? = some p→vs[j]? = some u→∀ Hs',RV K F H Hs' (.fz,p) u:=fun {v} r=>by
  unfold Rep at r
  obtain ⟨a,Ch,dx,vs,rfl,h1,h2,h3,h4⟩:=r
  refine ⟨a,Ch,dx,vs,rfl,hf _ _ h1,h2,h3,h4.mono hf _ _,fun j p u e1 e2 Hs'=>.fz ?_⟩
  obtain ⟨u',e3,r⟩:=h4.get e1
  rw [e2] at e3; cases e3
  exact r
 have own:∀ {d:Nat} {fp:List Addr},Own K F H d fp (.exo 0 l) v→∃ a Ch dx vs,v = .ref a∧H a=some (.ins Ch dx (fldZ vs))∧K.mg "House" = some (.ref Ch)∧l.length≤4∧RepL K H l vs∧∀ (j:Nat) p u,l[j]? = some p→vs[j]? = some u→∀ Hs',RV K F H Hs' (dnP (.bw d) p,p) u:=by
  intro d fp h
  cases d with
  | zero =>
   obtain ⟨a,Ch,dx,vs,z1,z2,z3,z4,z5,z6⟩:=zero h.2
   refine ⟨a,Ch,dx,vs,z1,z2,z3,z4,z5,fun j p u e1 e2 Hs'=>?_⟩
   have:=z6 j p u e1 e2 Hs'
   unfold dnP
   split <;> exact this
  | succ d =>
   obtain ⟨a,Ch,dx,vs,fps,rfl,z1,z2,z3,_,z5⟩:=own_exo h
   refine ⟨a,Ch,dx,vs,rfl,z1,z2,z3,ownl_rep hf z5,fun j p u e1 e2 Hs'=>?_⟩
   obtain ⟨f,o⟩:=own_part z5 e1 e2
   unfold dnP
   by_cases hb:boxed p=true
   ·rw [if_pos hb]
    cases d with
    | zero=>exact .fz o.2
    | succ d=>exact ⟨[],f,o⟩
   ·rw [if_neg hb]
    have hb:boxed p=false:=by cases q:boxed p <;> simp_all
    exact .fz (o.unbox hb).2
 cases t with
 | fz =>
  obtain ⟨_,r⟩:=h
  obtain ⟨a,Ch,dx,vs,z1,z2,z3,z4,z5,z6⟩:=zero r
  refine ⟨a,Ch,dx,vs,z1,z2,z3,z4,z5,fun j p u e1 e2 Hs'=>?_⟩
  have:=z6 j p u e1 e2 Hs'
  unfold dnP
  split <;> exact this
 | bw d =>
  obtain ⟨_,fp,h⟩:=h
  exact own h
 | ow d =>
  obtain ⟨fp,h,_⟩:=h
  obtain ⟨a,Ch,dx,vs,z1,z2,z3,z4,z5,z6⟩:=own h
  refine ⟨a,Ch,dx,vs,z1,z2,z3,z4,z5,fun j p u e1 e2 Hs'=>?_⟩
  have:=z6 j p u e1 e2 Hs'
  unfold dnP at this ⊢
  by_cases hb:boxed p=true
  ·rw [if_pos hb] at this ⊢
   cases d with
   | zero=>exact this
   | succ d=>cases d with
    | zero=>exact this
    | succ d=>exact this
  ·rw [if_neg hb] at this ⊢; exact this
section
variable {C:Cn} {cm:Bool} {k:Nat} {N:List Str} {sc so:Scope} {a b c e o tg:Expr} {es:List Expr} {A B:EX} {As:EXs} {T U:TX} {pos p tpos apos cpos p1 p2 pos':Pos} {X:Cx} {x fname m:Str} {st:Stmt} {sts:List Stmt} {d d':ST} {keep:List Nat}
variable {F0 H0 F H F1 H1:Hp} {Γ:En} {σ:L2.St} {W:WX} {D:Ends} {js:List (Nat×Tg)} {ts:List Tg} {n j:Nat}
theorem de_fld(j:Nat)(hs:HsC C)(ha:DE C cm k N sc a A)(hf:fldN[j]? = some fname:=by rfl)(hb:∀ env:PySem.Env,attributeBase a fname env (eval a env)=eval a env:=by intro _; rfl):DE C cm k N sc (.Attribute a fname pos) (eFld j A):=by
 obtain ⟨ta,pa,qa⟩:=ha
 obtain ⟨Ch,m1,m2,m3⟩:=hs.ex
 refine ⟨fun W=>tFld C.K (ta W) fname,fun X S W T=>by rw [← S.K]; exact pe_fld (pa X S W T) (hb _),fun W σ Γ F0 H0 F H Q g h=>?_⟩
 refine qa W σ Γ F0 H0 F H _ g (EOk.bind h fun x v F1 H1 ex e1 r1 h1=>?_)
 have h2:=h1.next e1
 obtain ⟨t,q⟩:=x
 unfold fldV at h2
 split at h2
 ·rename_i t' l heq
  cases heq
  obtain ⟨ad,Ch',dx,vs,rfl,z1,z2,z3,z4,z5⟩:=rv_partE e1.fh r1
  cases (show some (Value.ref Ch)=some (Value.ref Ch') from m1.symm.trans z2)
  cases hp:l[j]? with
  | none=>rw [hp] at h2; exact h2.elim
  | some p =>
   rw [hp] at h2
   obtain ⟨u,hu,_⟩:=z4.get hp
   refine ⟨ad,Ch,dx,_,u,rfl,z1,m2,m3 _ (List.mem_of_getElem? hf),by rw [fldZ_look hf]; exact hu,?_⟩
   exact h2 u F1 H1 (Ext.refl e1.fh e1.tp) (z5 j p u hp hu _)
 ·exact h2.elim
theorem good_hs{i:Nat}{l:List PV}(g:GoodS C.K F0 H0 Γ σ F H)(e:Γ.get i=some (.ow 2,.exo 0 l)):∃ ad Ch dx vs fps,σ[i]? = some (some (.ref ad))∧H ad=some (.ins Ch dx (fldZ vs))∧C.mg "House" = some (.ref Ch)∧l.length≤4∧OwnL (Own C.K F H 1) fps l vs∧vs.length=l.length∧(ad :: fps.flatten).Nodup ∧
  (∀ a∈ad :: fps.flatten,F a=none∧H0 a=none)∧(∀ a∈ad :: fps.flatten,∃ ob,H a=some ob∧∀ xs,ob ≠ tq xs) ∧
  ∀ {F2 H2 H3:Hp} {l':List PV} {vs':List V} {fps':List (List Addr)},Ext F H F2 H2→(∀ a,a ∉ (ad :: fps.flatten)→H3 a=H2 a)→(∀ a∈ad :: fps.flatten,∀ xs,H3 a ≠ some (tq xs))→H3 ad=some (.ins Ch dx (fldZ vs'))→l'.length≤4→OwnL (Own C.K F2 H3 1) fps' l' vs'→(ad :: fps'.flatten).Nodup→(∀ a∈fps'.flatten,a∈fps.flatten ∨ (H a=none∧F2 a=none))→GoodS C.K F0 H0 (Γ.set i (some (.ow 2,.exo 0 l'))) σ F2 H3:=by
 obtain ⟨v,fp,hv,o,nd,fr,go⟩:=good_chg g e
 obtain ⟨ad,Ch,dx,vs,fps,rfl,z1,z2,z3,rfl,z5⟩:=own_exo o
 refine ⟨ad,Ch,dx,vs,fps,hv,z1,z2,z3,z5,ownl_len z5,nd,fr,fun a ha=>o.there 2 a ha,fun {F2 H2 H3 l' vs' fps'} e2 k1 k2 k3 k4 k5 k6 k7=>?_⟩
 refine go (H2:=H2) (fp':=ad :: fps'.flatten) e2 k1 k2 (own_mkE k3 z2 k4 k5) k6 fun a ha=>?_
 rcases List.mem_cons.mp ha with rfl | ha
 ·exact .inl (by simp)
 ·rcases k7 a ha with z | z
  ·exact .inl (List.mem_cons_of_mem _ z)
  ·exact .inr z
end
end Vl
end
section
set_option Elab.async false
set_option linter.all false
set_option maxRecDepth 100000
set_option maxHeartbeats 1000000
namespace Vl
open PySem L2 Vm PyProof.Rows
section
variable {K:KK} {F H F' H':Hp}
theorem ownl_app{Q:List Addr→PV→V→Prop}{f:List Addr}{p:PV}{v:V}(hq:Q f p v):∀ {fs:List (List Addr)} {ps:List PV} {vs:List V},OwnL Q fs ps vs→OwnL Q (fs++[f]) (ps++[p]) (vs++[v])
 | [],[],[],_=>⟨hq,trivial⟩
 | _ :: _,_ :: _,_ :: _,h=>⟨h.1,ownl_app hq h.2⟩
 | [],[],_ :: _,h=>h.elim
 | [],_ :: _,_,h=>h.elim
 | _ :: _,[],_,h=>h.elim
 | _ :: _,_ :: _,[],h=>h.elim
theorem Own.mkU{d:Nat}{p:PV}{v:V}(hb:boxed p=false)(r:Rep K F p v):Own K F H d [] p v:=by
 cases d with
 | zero=>exact ⟨rfl,r⟩
 | succ d=>exact .inr ⟨rfl,hb,r⟩
theorem ownl_monoE{d:Nat}{fs:List (List Addr)}{ps:List PV}{vs:List V}(e:Same F F')(h:OwnL (Own K F H d) fs ps vs)(g:∀ a∈fs.flatten,H' a=H a):OwnL (Own K F' H' d) fs ps vs :=
 h.imp fun f hf p v q=>Own.mono e d q fun a ha=>g a (List.mem_flatten.mpr ⟨f,hf,ha⟩)
theorem ownl_setU{d:Nat}{q p:PV}{u:V}(hq:boxed q=false)(hp:boxed p=false)(r:Rep K F p u):∀ {fs:List (List Addr)} {ps:List PV} {vs:List V} {n:Nat},OwnL (Own K F H d) fs ps vs→ps[n]? = some q→OwnL (Own K F H d) fs (ps.set n p) (vs.set n u)
 | [],[],[],n,h,e=>by simp at e
 | f :: fs,x :: ps,v :: vs,0,h,e=>by
  simp at e
  subst e
  have:=(h.1.unbox hq).1
  subst this
  exact ⟨Own.mkU hp r,h.2⟩
 | f :: fs,x :: ps,v :: vs,n+1,h,e=>⟨h.1,ownl_setU hq hp r (n:=n) h.2 (by simpa using e)⟩
 | [],[],_ :: _,_,h,_=>h.elim
 | [],_ :: _,_,_,h,_=>h.elim
 | _ :: _,[],_,_,h,_=>h.elim
 | _ :: _,_ :: _,[],_,h,_=>h.elim
end
theorem bool_ff{b:Bool}(h:¬ b=true):b=false:=by cases b <;> simp_all
section
variable {C:Cn} {cm:Bool} {k:Nat} {N:List Str} {sc so:Scope} {a b c e o tg:Expr} {es:List Expr} {A B:EX} {As:EXs} {T U:TX} {pos p tpos apos cpos p1 p2 pos':Pos} {X:Cx} {x fname m:Str} {st:Stmt} {sts:List Stmt} {d d':ST} {keep:List Nat}
variable {F0 H0 F H F1 H1:Hp} {Γ:En} {σ:L2.St} {W:WX} {D:Ends} {js:List (Nat×Tg)} {ts:List Tg} {n j:Nat}
theorem dx_fset (i j:Nat) (hs:HsC C) (he:DE C true k N sc e A) (hf:fldN[j]? = some fname:=by rfl) (hN:N[i]? = some x:=by rfl) (hv:Vis sc x:=by first | exact Or.inl rfl | exact Or.inr (Or.inl rfl) | exact Or.inr (Or.inr rfl)) (hd:(x == ("__debug__":Str))=false:=by decide)
  (hcd:(x == ("__classdict__":Str))=false:=by decide) (hsw:∀ env:PySem.Env,swapsWith e (some (.Attribute (.Name x p1) fname pos')) pos.line env=pure false:=by intro _; rfl):DX keep C true k N sc (.Assign [.Attribute (.Name x p1) fname pos'] e pos) (dFSet i j A):=by
 obtain ⟨ta,pa,qa⟩:=he
 obtain ⟨Ch,m1,m2,m3⟩:=hs.ex
 refine ⟨fun W=>sFld C.K (tVar i) (ta W) fname,fun X S W T=>by rw [← S.K]; exact ps_fld (pe_var (by rw [S.n]; exact hN) (by rw [S.s]; exact hv) hd hcd) (pa X S.toSta W T) (hsw _),fun W D σ Γ F0 H0 F H g h=>?_⟩
 unfold dFSet at h
 split at h
 ·rename_i l eg
  refine qa W σ Γ F0 H0 F H _ g.toGood (OutX.bind g h fun y v F1 H1 ex e1 rv h=>?_)
  cases hp:putV y with
  | exc c=>exact (put_noexc hp).elim
  | bad=>rw [hp] at h; exact h.elim
  | ok q =>
   rw [hp,after_ok] at h
   by_cases hb:boxed q=true
   ·rw [if_pos hb] at h; exact h.elim
   ·rw [if_neg hb] at h
    have hb:=bool_ff hb
    obtain ⟨F2,e2,r2⟩:=rv.put e1 hp
    obtain ⟨ad,Ch',dx,vs,fps,hv',z1,z2,z3,z4,z5,z6,z7,z8,go⟩:=good_hs g eg
    cases (show some (Value.ref Ch)=some (Value.ref Ch') from m1.symm.trans z2)
    refine ⟨.ref ad,hv',ad,Ch,dx,fldZ vs,rfl,e2.hh _ _ z1,m2,m3 _ (List.mem_of_getElem? hf),?_,?_⟩
    ·show (fldN.zip vs).length < 1000
     rw [List.length_zip]
     have:fldN.length=4:=rfl
     omega
    ·have nad:∀ a∈fps.flatten,a ≠ ad:=fun a ha z=>by subst z; rw [List.nodup_cons] at z6; exact z6.1 ha
     have keepH:∀ a∈fps.flatten,(upd H1 ad (.ins Ch dx (putF fname v (fldZ vs)))) a=H a:=fun a ha=>by
      rw [upd_ne (nad a ha)]
      obtain ⟨ob,q1,_⟩:=z8 a (List.mem_cons_of_mem _ ha)
      rw [q1]; exact e2.hh _ _ q1
     have notup:∀ a∈ad :: fps.flatten,∀ xs,(upd H1 ad (.ins Ch dx (putF fname v (fldZ vs)))) a ≠ some (tq xs):=fun a ha xs=>by
      by_cases z:a=ad
      ·subst z; rw [upd_same]; intro w; cases w
      ·rw [upd_ne z]
       obtain ⟨ob,q1,q2⟩:=z8 a ha
       rw [e2.hh _ _ q1]
       intro w; cases w; exact q2 _ rfl
     have own2:=ownl_monoE e2.ff z4 keepH
     cases hl:l[j]? with
     | some q0 =>
      have hlt:=(List.getElem?_eq_some_iff.mp hl).1
      by_cases hb0:boxed q0=true
      ·have:fldSet l j q=none:=by unfold fldSet; rw [hl]; simp only; rw [if_pos hb0]
       rw [this] at h; exact h.elim
      ·have e0:fldSet l j q=some (l.set j q):=by unfold fldSet; rw [hl]; simp only; rw [if_neg hb0]
       rw [e0] at h
       have ef:putF fname v (fldZ vs)=fldZ (vs.set j v):=by rw [fldZ_put hf (by omega) (by omega),if_pos (by omega)]
       refine h σ F2 _ (go (H2:=H1) (l':=l.set j q) (vs':=vs.set j v) (fps':=fps) e2 (fun a ha=>upd_ne fun z=>ha (by rw [z]; simp)) notup (by rw [upd_same,ef]) (by rw [List.length_set]; exact z3) (ownl_setU (bool_ff hb0) hb r2 own2 hl) z6 fun a ha=>.inl ha) Kp.refl
     | none =>
      have hge:=List.getElem?_eq_none_iff.mp hl
      by_cases hc:j=l.length∧j < 4
      ·have e0:fldSet l j q=some (l++[q]):=by unfold fldSet; rw [hl]; simp only; rw [if_pos hc]
       rw [e0] at h
       have ef:putF fname v (fldZ vs)=fldZ (vs++[v]):=by rw [fldZ_put hf (by omega) (by omega),if_neg (by omega)]
       have ep:(fps++[[]]).flatten=fps.flatten:=by simp
       refine h σ F2 _ (go (H2:=H1) (l':=l++[q]) (vs':=vs++[v]) (fps':=fps++[[]]) e2 (fun a ha=>upd_ne fun z=>ha (by rw [z]; simp)) notup (by rw [upd_same,ef]) (by rw [List.length_append]; simp; omega) (ownl_app (Own.mkU hb r2) own2) (by rw [ep]; exact z6) fun a ha=>.inl (by rw [ep] at ha; exact ha)) Kp.refl
      ·have e0:fldSet l j q=none:=by unfold fldSet; rw [hl]; simp only; rw [if_neg hc]
       rw [e0] at h; exact h.elim
 ·exact h.elim
theorem dx_fnew (i j:Nat) (hs:HsC C) (hf:fldN[j]? = some fname:=by rfl) (hN:N[i]? = some x:=by rfl) (hv:Vis sc x:=by first | exact Or.inl rfl | exact Or.inr (Or.inl rfl) | exact Or.inr (Or.inr rfl)) (hd:(x == ("__debug__":Str))=false:=by decide)
  (hcd:(x == ("__classdict__":Str))=false:=by decide) (hsw:∀ env:PySem.Env,swapsWith (.Dict [] [] p2) (some (.Attribute (.Name x p1) fname pos')) pos.line env=pure false:=by intro _; rfl):DX keep C true k N sc (.Assign [.Attribute (.Name x p1) fname pos'] (.Dict [] [] p2) pos) (dFNew i j):=by
 obtain ⟨Ch,m1,m2,m3⟩:=hs.ex
 refine ⟨fun W=>sFld C.K (tVar i) tDNewX fname,fun X S W T=>by rw [← S.K]; exact ps_fld (pe_var (by rw [S.n]; exact hN) (by rw [S.s]; exact hv) hd hcd) pe_dnewX (hsw _),fun W D σ Γ F0 H0 F H g h=>?_⟩
 unfold dFNew at h
 split at h
 ·rename_i l eg
  by_cases hc:j=l.length∧j < 4
  ·rw [if_pos hc] at h
   intro q hq hsm
   obtain ⟨ad,Ch',dx,vs,fps,hv',z1,z2,z3,z4,z5,z6,z7,z8,go⟩:=good_hs g eg
   cases (show some (Value.ref Ch)=some (Value.ref Ch') from m1.symm.trans z2)
   have hqa:∀ a∈ad :: fps.flatten,a ≠ q:=fun a ha z=>by
    subst z
    obtain ⟨ob,w,_⟩:=z8 a ha
    rw [hq] at w; cases w
   have naq:ad ≠ q:=hqa ad (by simp)
   have e2:Ext F H F (upd H q (dHO q dNew)):=Ext.new g.ext.fh g.ext.tp (fun _ z=>by cases z) hq
   refine ⟨.ref ad,hv',ad,Ch,dx,fldZ vs,rfl,e2.hh _ _ z1,m2,m3 _ (List.mem_of_getElem? hf),?_,?_⟩
   ·show (fldN.zip vs).length < 1000
    rw [List.length_zip]
    have:fldN.length=4:=rfl
    omega
   ·have nad:∀ a∈fps.flatten,a ≠ ad:=fun a ha z=>by subst z; rw [List.nodup_cons] at z6; exact z6.1 ha
    have ef:putF fname (.ref q) (fldZ vs)=fldZ (vs++[.ref q]):=by rw [fldZ_put hf (by omega) (by omega),if_neg (by omega)]
    have ep:(fps++[[q]]).flatten=fps.flatten++[q]:=by simp
    have keepH:∀ a∈fps.flatten,(upd (upd H q (dHO q dNew)) ad (.ins Ch dx (putF fname (.ref q) (fldZ vs)))) a=H a:=fun a ha=>by
     rw [upd_ne (nad a ha),upd_ne (hqa a (List.mem_cons_of_mem _ ha))]
    have own2:=ownl_monoE (F':=F) (Same.refl _) z4 keepH
    refine h σ F _ (go (H2:=upd H q (dHO q dNew)) (l':=l++[.dic [] []]) (vs':=vs++[.ref q]) (fps':=fps++[[q]]) e2 (fun a ha=>upd_ne fun z=>ha (by rw [z]; simp)) (fun a ha xs=>?_) (by rw [upd_same,ef]) (by rw [List.length_append]; simp; omega) (ownl_app ?_ own2) (by
      rw [ep,← List.cons_append,List.nodup_append]
      refine ⟨z6,by simp,fun a ha b hb=>?_⟩
      have:b=q:=by simpa using hb
      subst this
      exact hqa a ha) fun a ha=>?_) Kp.refl
    ·by_cases z:a=ad
     ·subst z; rw [upd_same]; intro w; cases w
     ·rw [upd_ne z,upd_ne (hqa a ha)]
      obtain ⟨ob,q1,q2⟩:=z8 a ha
      rw [q1]
      intro w; cases w; exact q2 _ rfl
    ·have:=own_mkD (K:=C.K) (F:=F) (H:=upd (upd H q (dHO q dNew)) ad (.ins Ch dx (putF fname (.ref q) (fldZ vs)))) (d:=0) (ks:=[]) (l:=[]) (a:=q) (o:=dNew) (vs:=[]) (fps:=[]) (by rw [upd_ne (Ne.symm naq),upd_same]) hsm dicK_new rfl trivial
     simpa using this
    ·rw [ep] at ha
     rcases List.mem_append.mp ha with z | z
     ·exact .inl z
     ·have:a=q:=by simpa using z
      subst this
      exact .inr ⟨hq,g.ext.fh.free hq⟩
  ·rw [if_neg hc] at h; exact h.elim
 ·exact h.elim
theorem good_hsD{i j:Nat}{l ks m:List PV}(g:GoodS C.K F0 H0 Γ σ F H)(e:Γ.get i=some (.ow 2,.exo 0 l))(hj:l[j]? = some (.dic ks m)):∃ ad Ch dx vs ad2 ob us,σ[i]? = some (some (.ref ad))∧H ad=some (.ins Ch dx (fldZ vs))∧C.mg "House" = some (.ref Ch)∧vs[j]? = some (.ref ad2)∧H ad2=some (dHO ad2 ob)∧(ad2 == sysModules)=false∧DicK C.K F ob (ks.map nkOf) us∧ks.all keyG=true∧RepL C.K F m us ∧
  ∀ {F2 H2:Hp} {ks2 m2:List PV} {us2:List V} {o':Obj},Ext F H F2 H2→DicK C.K F2 o' (ks2.map nkOf) us2→ks2.all keyG=true→RepL C.K F2 m2 us2→GoodS C.K F0 H0 (Γ.set i (some (.ow 2,.exo 0 (l.set j (.dic ks2 m2))))) σ F2 (upd H2 ad2 (dHO ad2 o')):=by
 obtain ⟨ad,Ch,dx,vs,fps,hv',z1,z2,z3,z4,z5,z6,z7,z8,go⟩:=good_hs g e
 have z6':=z6
 rw [List.nodup_cons] at z6'
 obtain ⟨f,u,k1,k2,k3,k4,k5⟩:=ownl_set z4 z6'.2 hj
 obtain ⟨ad2,ob,us,fps2,rfl,d1,d2,d3,d4,rfl,d6⟩:=own_dic k4
 obtain ⟨fl,rl⟩:=ownl0_nil d6
 have hm:ad2∈fps.flatten:=k2 ad2 (by simp)
 have hne:ad ≠ ad2:=fun z=>z6'.1 (z ▸ hm)
 refine ⟨ad,Ch,dx,vs,ad2,ob,us,hv',z1,z2,k1,d1,d2,d3,d4,rl,fun {F2 H2 ks2 m2 us2 o'} e2 dk kg r2=>?_⟩
 refine go (H2:=H2) (l':=l.set j (.dic ks2 m2)) (vs':=vs) (fps':=fps) e2 (fun a ha=>upd_ne fun z=>ha (by rw [z]; exact List.mem_cons_of_mem _ hm)) (fun a ha xs=>?_) (by rw [upd_ne hne]; exact e2.hh _ _ z1) (by rw [List.length_set]; exact z3) (k5 e2.ff (fun a ha hb=>?_) ?_) z6 fun a ha=>.inl ha
 ·by_cases z:a=ad2
  ·subst z; rw [upd_same]; intro q; cases q
  ·rw [upd_ne z]
   obtain ⟨ob,q1,q2⟩:=z8 a ha
   rw [e2.hh _ _ q1]
   intro q; cases q; exact q2 _ rfl
 ·have hb:a ≠ ad2:=fun z=>hb (by rw [z]; simp)
  rw [upd_ne hb]
  obtain ⟨ob,q1,q2⟩:=z8 a (List.mem_cons_of_mem _ ha)
  rw [q1]; exact e2.hh _ _ q1
 ·have:=own_mkD (K:=C.K) (F:=F2) (H:=upd H2 ad2 (dHO ad2 o')) (d:=0) (fps:=m2.map fun _=>[]) upd_same d2 dk kg (ownl_flat r2)
  rw [flat_nil] at this
  rw [fl]
  exact this
theorem dx_fput (i j:Nat) (hs:HsC C) (hj:DE C true k N sc b B) (he:DE C true k N sc e A) (hf:fldN[j]? = some fname:=by rfl) (hN:N[i]? = some x:=by rfl) (hv:Vis sc x:=by first | exact Or.inl rfl | exact Or.inr (Or.inl rfl) | exact Or.inr (Or.inr rfl)) (hd:(x == ("__debug__":Str))=false:=by decide)
  (hcd:(x == ("__classdict__":Str))=false:=by decide) (hb:∀ env:PySem.Env,attributeBase (.Name x p1) fname env (eval (.Name x p1) env)=eval (.Name x p1) env:=by intro _; rfl)
  (hsw:∀ env:PySem.Env,swapsWith e (some (.Subscript (.Attribute (.Name x p1) fname apos) b pos')) pos.line env=pure false:=by intro _; rfl):DX keep C true k N sc (.Assign [.Subscript (.Attribute (.Name x p1) fname apos) b pos'] e pos) (dFPut i j B A):=by
 obtain ⟨ta,pa,qa⟩:=he
 obtain ⟨tb,pb,qb⟩:=hj
 obtain ⟨Ch,m1,m2,m3⟩:=hs.ex
 refine ⟨fun W=>sDX C.K (tFld C.K (tVar i) fname) (tb W) (ta W),fun X S W T=>by
  have KK:=S.KK
  have K:=S.K
  rw [← KK]
  exact ps_dx S.u10 (pe_fld (pe_var (by rw [S.n]; exact hN) (by rw [S.s]; exact hv) hd hcd) (hb _)) (pb X S.toSta W T) (pa X S.toSta W T) (hsw _),fun W D σ Γ F0 H0 F H g h=>?_⟩
 unfold dFPut at h
 split at h
 ·rename_i l eg
  split at h
  ·rename_i ks m hl
   obtain ⟨ad,Ch',dx,vs,ad2,ob,us,hv0,w1,w2,w3,d1,d2,d3,d4,rl,go⟩:=good_hsD g eg hl
   cases (show some (Value.ref Ch)=some (Value.ref Ch') from m1.symm.trans w2)
   refine qa W σ Γ F0 H0 F H _ g.toGood (OutX.bind g h fun y v F1 H1 ex e1 rv h=>?_)
   refine ⟨.ref ad,hv0,ad,Ch,dx,fldZ vs,.ref ad2,rfl,e1.hh _ _ w1,m2,m3 _ (List.mem_of_getElem? hf),by rw [fldZ_look hf]; exact w3,qb W σ Γ F0 H0 F1 H1 _ (g.next e1).toGood (OutX.bind (g.next e1) h fun z u F2 H2 ez e2 r2 h=>?_)⟩
   cases hp:putV y with
   | exc c=>exact (put_noexc hp).elim
   | bad=>rw [hp] at h; exact h.elim
   | ok q =>
    rw [hp,after_ok] at h
    cases hq:fzK z with
    | exc c=>exact (fzK_noexc hq).elim
    | bad=>rw [hq] at h; exact h.elim
    | ok kq =>
     rw [hq,after_ok] at h
     have ez:=fzK_ok hq
     subst ez
     by_cases hk:(sameK kq ks && decide (ks.length < 16777216))=true
     ·rw [if_pos hk] at h
      rw [Bool.and_eq_true,decide_eq_true_eq] at hk
      obtain ⟨f,hf⟩:=rv
      obtain ⟨F3,e3,s3,r3,_⟩:=(hf.ext e2).put (e1.trans e2) hp
      have rk:Rep C.K F3 kq u:=Rep.mono s3 _ _ r2.ofFz
      have d3':=d3.tups (G:=F3) fun _ _=>e3.ff _ _
      refine ⟨F3,ad2,ob,ks,us,kq,rfl,e3.fh,(e1.trans e2).hh _ _ d1,d3',hk.1,rk,by rw [← szL_eq]; exact hk.2,fun o' dk=>?_⟩
      exact h σ F3 _ (go e3 dk (keyG_put (rep_key 8 kq u (sameK_N hk.1).1 rk).2.1 d4) (repL_put r3 (rl.mono e3.ff _ _))) Kp.refl
     ·rw [if_neg hk] at h; exact h.elim
  ·exact h.elim
 ·exact h.elim
end
end Vl
end
section
set_option Elab.async false
set_option linter.all false
set_option maxRecDepth 100000
set_option maxHeartbeats 1000000
namespace Vl
open PySem L2 Vm PyProof.Rows
section
variable {κ:Type} [DecidableEq κ] {f:κ→NestedKey}
theorem ix_del(inj:∀ a b,f a=f b→a=b){p:PV}{k:κ}(hp:nkOf p=f k)(h8:keyN 8 p=true):∀ {ks:List PV} {kvs:List (κ×V)},ks.map nkOf=kvs.map (fun q=>f q.1)→(∀ q∈ks,keyN 8 q=true) →
  (dDelK ks p).map nkOf=(dropK kvs k).map (fun q=>f q.1)∧(dropK kvs k).map (·.2)=dDelV ks (kvs.map (·.2)) p
 | [],[],_,_=>⟨rfl,rfl⟩
 | [],_ :: _,h,_=>by cases h
 | _ :: _,[],h,_=>by cases h
 | q :: ks,x :: kvs,h,g=>by
  rw [List.map_cons,List.map_cons] at h
  injection h with h1 h2
  obtain ⟨ih1,ih2⟩:=ix_del inj hp h8 h2 fun z hz=>g z (by simp [hz])
  have e:=eqv_nk 8 8 q p (g q (by simp)) h8
  unfold dDelK dropK
  rw [List.map_cons]
  unfold dDelV
  rw [List.filter_cons]
  by_cases hq:eqv q p=true
  ·have hx:x.1=k:=inj _ _ (by rw [← h1,← hp]; exact e.mp hq)
   rw [if_pos hq,if_pos hq,if_neg (by simp [hx])]
   exact ⟨ih1,ih2⟩
  ·have hx:¬ x.1=k:=fun z=>hq (e.mpr (by rw [h1,hp,z]))
   rw [if_neg hq,if_neg hq,if_pos (by simp [hx]),List.map_cons,List.map_cons,List.map_cons,h1]
   exact ⟨by rw [ih1]; rfl,by rw [← ih2]; rfl⟩
end
theorem keyG_del{p:PV}:∀ {ks:List PV},ks.all keyG=true→(dDelK ks p).all keyG=true
 | [],_=>rfl
 | q :: ks,h=>by
  rw [List.all_cons,Bool.and_eq_true] at h
  unfold dDelK
  split
  ·exact keyG_del h.2
  ·rw [List.all_cons,h.1,keyG_del h.2]; rfl
theorem repL_del{K:KK}{F:Hp}{p:PV}:∀ {ks l:List PV} {vs:List V},RepL K F l vs→RepL K F (dDelV ks l p) (dDelV ks vs p)
 | [],l,vs,h=>by simp only [dDelV]; exact RepL.nil
 | _ :: _,[],vs,h=>by unfold RepL at h; subst h; simp only [dDelV]; exact RepL.nil
 | k :: ks,x :: l,vs,h=>by
  unfold RepL at h
  obtain ⟨v,r,rfl,h1,h2⟩:=h
  unfold dDelV
  split
  ·exact repL_del h2
  ·exact RepL.cons h1 (repL_del h2)
section
variable {C:Cn} {cm:Bool} {k:Nat} {N:List Str} {sc so:Scope} {a b c e o tg:Expr} {es:List Expr} {A B:EX} {As:EXs} {T U:TX} {pos p tpos apos apos2 cpos p1 p2 pos':Pos} {X:Cx} {x fname m:Str} {st:Stmt} {sts:List Stmt} {d d':ST} {keep:List Nat}
variable {F0 H0 F H F1 H1:Hp} {Γ:En} {σ:L2.St} {W:WX} {D:Ends} {js:List (Nat×Tg)} {ts:List Tg} {n j:Nat}
def tPopX(K:KK)(td ty:TE):TE:=fun σ H Q=>td σ H fun x H1=>∃ a,x = .ref a∧(∃ o,H1 a=some (dHO a o)∧o.ExactDict)∧ty σ H1 fun y H2=>∃ F o ks vs p v,Same F H2∧H2 a=some (dHO a o)∧(a == sysModules)=false∧DicK K F o (ks.map nkOf) vs∧isStr p=true∧ks.all keyL=true∧Rep K F p y∧((dIx ks p).bind fun j=>vs[j]?)=some v ∧
 ∀ o',DicK K F o' ((dDelK ks p).map nkOf) (dDelV ks vs p)→Q v (upd H2 a (dHO a o'))
theorem pe_popX {td ty:TE} (ho:PE X o td) (he:PE X e ty) (m:M1 X o "pop" apos e cpos):PE X (.Call (.Attribute o "pop" apos) [e] [] cpos) (tPopX (kkX X) td ty):=by
 refine ⟨fun pins s σ H Q I h=>?_⟩
 refine wpAny_Call_method m.base m.few m.line PySem.F.plainAttrs_dict PySem.F.slot_dict_pop PySem.F.type_dict_pop (thn (ho.run pins s σ H _ I h) fun u s1 ⟨x,H1,I1,rx,a,ex,⟨ob,d1,d2⟩,q1⟩=>?_)
 subst ex
 obtain rfl:u=Value.ref a:=rx
 have hg:=dx_get? I1 d1
 refine ⟨⟨ob,hg,d2.1⟩,fun b q=>by cases q; exact ⟨ob,hg,d2.2.1⟩,?_⟩
 rw [m.trees]
 refine Calls.callWith_builtin rfl (Calls.evalArgs_plain (Calls.spliced_cons (thn (he.run pins s1 σ H1 _ I1 q1) fun iv s2 ⟨y,H2,I2,ry,F,o3,ks,vs,pk,v0,g0,g1,g2,g3,g4,g5,g6,g7,g8⟩=>Calls.spliced_nil ?_)))
 have hg3:=dx_get? I2 g1
 have g4':keyL pk=true:=by cases pk <;> simp [isStr] at g4 <;> rfl
 have hs:sameK pk ks=true:=by unfold sameK; rw [g4',g5]; rfl
 obtain ⟨h8,hk8⟩:=sameK_N hs
 obtain ⟨kvs,rs,h3,h4,h5,dd,nd,hz⟩:=leaf_dict hg3 (toLeaf g3 g5)
 have hval:=ix_val (fun a b=>Leaf.key_inj) (leafOf_key g4') h8 h3 hk8
 have rpk:Rep (kkX X) H2 pk y:=Rep.mono g0 _ _ g6
 have hpart:(keyPart iv).isSome=true:=by
  cases pk <;> simp [isStr] at g4
  unfold Rep at rpk
  obtain ⟨rfl,_⟩:=rpk
  obtain ⟨t,q⟩:=(show ∃ t,iv=Value.str _ t from ry)
  subst q; rfl
 have hv:valV kvs (leafOf pk)=some v0:=by rw [hval,← h4]; exact g7
 obtain ⟨w',hw,rw'⟩:=RelO.some_of (v:=v0) (o:=valueAt rs (leafOf pk)) (by rw [← hv]; exact h5.val (leafOf pk))
 obtain ⟨p1,p2⟩:=ix_del (fun a b=>Leaf.key_inj) (leafOf_key g4') h8 h3 hk8
 refine call_meetsIn PySem.F.slot_dict_pop dd.typeIs PySem.F.entry_dict_pop (PySem.F.args_dict_pop_2 _ _) (meets_dict_pop_there (plK X.prog X.w) a (leaf_is g4' rpk ry) [] (.inl rfl) hpart) ⟨rs,w',dd,by rw [← h5.length]; exact hz,hw,fun h' dd' hs'=>?_⟩
 obtain ⟨o',es,ep,k1,k2,k3,k4,k5,k6⟩:=dd'
 have dk:DicK (kkX X) F o' ((dDelK ks pk).map nkOf) (dDelV ks vs pk):=.inl ⟨dropK kvs (leafOf pk),_,es,ep,k2,k3,p1,by rw [p2,h4],h5.drop _,k4,k5,k6,Nat.le_trans (dropK_le kvs _) hz⟩
 exact ⟨v0,_,d_write (ob:=dHO a o') (t':=s2.toks+1) I2 (by rw [g1]; exact True.intro) hs' ⟨o',k1⟩ ⟨k1,⟨o',k1⟩,fun h1 h2 z k=>k _ z⟩,rw',g8 o' dk⟩
theorem dx_fpop (i j:Nat) (hs:HsC C) (hj:DE C true k N sc b B) (hf:fldN[j]? = some fname:=by rfl) (hN:N[i]? = some x:=by rfl) (hv:Vis sc x:=by first | exact Or.inl rfl | exact Or.inr (Or.inl rfl) | exact Or.inr (Or.inr rfl)) (hd:(x == ("__debug__":Str))=false:=by decide)
  (hcd:(x == ("__classdict__":Str))=false:=by decide) (hb:∀ env:PySem.Env,attributeBase (.Name x p1) fname env (eval (.Name x p1) env)=eval (.Name x p1) env:=by intro _; rfl)
  (m:∀ X,Sta C true k N sc X→M1 X (.Attribute (.Name x p1) fname apos2) "pop" apos b cpos:=by exact fun _ _=>⟨rfl,rfl,rfl,rfl⟩)
  (hsw:∀ env:PySem.Env,swapsWith (.Call (.Attribute (.Attribute (.Name x p1) fname apos2) "pop" apos) [b] [] cpos) none pos.line env=pure false:=by intro _; rfl):DX keep C true k N sc (.Expr (.Call (.Attribute (.Attribute (.Name x p1) fname apos2) "pop" apos) [b] [] cpos) pos) (dFPop i j B):=by
 obtain ⟨tb,pb,qb⟩:=hj
 obtain ⟨Ch,m1,m2,m3⟩:=hs.ex
 refine ⟨fun W=>tDrop (tPopX C.K (tFld C.K (tVar i) fname) (tb W)),fun X S W T=>by
  have KK:=S.KK
  have K:=S.K
  rw [← KK]
  exact ps_expr (pe_popX (pe_fld (pe_var (by rw [S.n]; exact hN) (by rw [S.s]; exact hv) hd hcd) (hb _)) (pb X S.toSta W T) (m X S.toSta)) (hsw _),fun W D σ Γ F0 H0 F H g h=>?_⟩
 unfold dFPop at h
 split at h
 ·rename_i l eg
  split at h
  ·rename_i ks mm hl
   obtain ⟨ad,Ch',dx,vs,ad2,ob,us,hv0,w1,w2,w3,d1,d2,d3,d4,rl,go⟩:=good_hsD g eg hl
   cases (show some (Value.ref Ch)=some (Value.ref Ch') from m1.symm.trans w2)
   refine ⟨.ref ad,hv0,ad,Ch,dx,fldZ vs,.ref ad2,rfl,w1,m2,m3 _ (List.mem_of_getElem? hf),by rw [fldZ_look hf]; exact w3,ad2,rfl,⟨ob,d1,dic_exact d3⟩,qb W σ Γ F0 H0 F H _ g.toGood (OutX.bind g h fun z u F2 H2 ez e2 r2 h=>?_)⟩
   cases hq:fzK z with
   | exc c=>exact (fzK_noexc hq).elim
   | bad=>rw [hq] at h; exact h.elim
   | ok kq =>
    rw [hq,after_ok] at h
    have ez:=fzK_ok hq
    subst ez
    by_cases hk:(isStr kq && ks.all keyL && (dIx ks kq).isSome)=true
    ·rw [if_pos hk] at h
     rw [Bool.and_eq_true,Bool.and_eq_true] at hk
     obtain ⟨jx,hjx⟩:=Option.isSome_iff_exists.mp hk.2
     have hjl:jx < us.length:=by
      have h1:jx < ks.length:=by
       have:∀ {ks:List PV} {j:Nat},dIx ks kq=some j→j < ks.length:=by
        intro ks
        induction ks with
        | nil=>intro j h; cases h
        | cons q ks ih =>
         intro j h
         unfold dIx at h
         split at h
         ·cases h; simp
         ·cases e:dIx ks kq with
          | none=>rw [e] at h; cases h
          | some j'=>rw [e] at h; cases h; have:=ih e; simp; omega
       exact this hjx
      have:=d3.len
      rw [List.length_map] at this
      omega
     refine ⟨F2,ob,ks,us,kq,us[jx],e2.fh,e2.hh _ _ d1,d2,d3.tups fun _ _=>e2.ff _ _,hk.1.1,hk.1.2,r2.ofFz,by rw [hjx]; exact List.getElem?_eq_getElem hjl,fun o' dk=>?_⟩
     exact h σ F2 _ (go e2 dk (keyG_del d4) (repL_del (rl.mono e2.ff _ _))) Kp.refl
    ·rw [if_neg hk] at h; exact h.elim
  ·exact h.elim
 ·exact h.elim
structure CalI (C:Cn) (k:Nat) (f:FX):Prop where
 ex:∃ ad fd ps Ch,FnOk C.P C.w C.K C.mg C.base (L2.CX C.P C.w) k ad fd ps (spX C [.ow 2] f)∧Binds C.K fd ps []∧C.mg "House" = some (.ref Ch)∧Mk C.K Ch ad
theorem de_house {f:FX} (G:CalI C j f) (hj:j+1≤k:=by decide) (hg:sc.names.lookup ("House":Str)=some .globalImplicit:=by rfl):DE C true k N sc (.Call (.Name "House" p) [] [] pos) (eHouse f):=by
 obtain ⟨ad,fd,ps,Ch,Fk,bn,hm,M⟩:=G.ex
 refine ⟨fun W=>tMake Ch (spX C [.ow 2] f) [] (fun _ _ _=>False) tNil,fun X S W T=>?_,fun W σ Γ F0 H0 F H Q g h=>?_⟩
 ·have cn:=S.cn
  subst cn
  exact pe_make0 M Fk ((S.r rfl).mono hj) (S.gl hg) hm bn .nil (fun pins σ H s e s' I c=>passAt (W:=fun _ _ _ _=>False) takes0 σ pins H s e s' I c)
 ·unfold eHouse at h
  show ∀ x dx,H x=none→H dx=none→dx ≠ x→_
  intro x dx hx hdx hne
  have fx:F x=none:=g.ext.fh.free hx
  have hins:(upd (upd H dx (.own x)) x (.ins Ch dx [])) x=some (.ins Ch dx (fldZ [])):=by rw [upd_same]; rfl
  have base0:(upd H dx (.own x)) x=none:=by rw [upd_ne (Ne.symm hne)]; exact hx
  have sH:Same H (upd H dx (.own x)):=same_new hdx
  have sB:Same (upd H dx (.own x)) (upd (upd H dx (.own x)) x (.ins Ch dx [])):=same_new base0
  have tp:Tups F (upd (upd H dx (.own x)) x (.ins Ch dx [])):=tups_new (tups_new g.ext.tp (fun _ z=>by cases z) (g.ext.fh.free hdx)) (fun _ z=>by cases z) fx
  refine ⟨F,upd H dx (.own x),[.exo 0 []],rfl,rfl,⟨⟨⟨Same.refl _,sB,(g.ext.fh.trans sH).trans sB,tp,fun a z=>.inl z⟩,rfl,fun i=>if i=0 then [x] else [],fun i y hy=>?_,fun i i' a hne' ha hb=>?_⟩,fun i d p hy=>?_⟩,?_⟩
  ·match i,hy with
   | 0,hy =>
    cases hy
    simp only [if_true]
    refine ⟨.ref x,rfl,?_,by simp,fun a ha=>?_⟩
    ·have:=own_mkE (K:=C.K) (F:=F) (d:=1) (l:=[]) (fps:=[]) hins hm (by simp) trivial
     simpa using this
    ·have:a=x:=by simpa using ha
     subst this
     exact ⟨fx,base0⟩
   | i+1,hy=>simp [startM,En.get] at hy
  ·simp only at ha hb
   split at ha
   ·split at hb
    ·omega
    ·simp at hb
   ·simp at ha
  ·match i,hy with
   | 0,hy=>cases hy
   | i+1,hy=>simp [startM,En.get] at hy
  ·cases ef:f [.exo 0 []] with
   | bad=>rw [ef] at h; exact h.elim
   | exc c=>rw [ef] at h; exact h.elim
   | ok y =>
    obtain ⟨pv,news⟩:=y
    rw [ef] at h
    intro v F' H' hn gn rv
    match news,hn with
    | [hv],_ =>
     cases pv with
     | non =>
      unfold Rep at rv
      refine ⟨rv,?_⟩
      obtain ⟨fp,s1,_⟩:=gn.slots
      obtain ⟨v',h1,z1,z2,z3⟩:=s1 0 (.ow 2,hv) rfl
      cases h1
      refine h (.ref x) F' H' ⟨gn.ext.ff,sH.trans gn.ext.hh,gn.ext.fh,gn.ext.tp,fun a z=>?_⟩ ⟨fp 0,z1,z2,fun a ha=>⟨(z3 a ha).1,sH.free (z3 a ha).2⟩⟩
      rcases gn.ext.nw a z with w | w
      ·exact .inl w
      ·exact .inr (sH.free w)
     | _=>exact h.elim
def tMethA(Ch:Addr)(m:Str)(sp:Sp)(dvs:List V)(E:L2.St→XK)(ta:TE)(t:TA):TE:=fun σ H Q=>ta σ H fun x H1=>∃ a dx fs,x = .ref a∧H1 a=some (.ins Ch dx fs)∧fs.lookup m=none∧t σ H1 fun vs H2=>sp (x :: (vs++dvs)) H2 Q (E σ)
theorem pe_methA{CX:CXT}{k:Nat}{Ch f:Addr}{fd:FuncData}{ps:List Str}{sp:Sp}{dvs:List V}{ds:List Value}{E:L2.St→XK}{ta:TE}{t:TA}{pl:Sem Bool}(he:PE X o ta)(c:Cls X.K Ch)(hm:Meth X.K Ch m f)(F:FnOk X.prog X.w X.K X.mg X.base CX k f fd ps sp)(hr:Room k X.A)(hb:Binds X.K fd ps ds)(hd:Vals dvs ds)(hx:∀ σ,PassesAt CX X σ (E σ))(ha:PA X (e :: es) t)
  (hst:starEach (e :: es) X.env=(false,eval e X.env) :: starEach es X.env)(hpl:(backTo pos (starEach es X.env)).any (·.1)=false)
  (ht:eval (.Call (.Attribute o m apos) (e :: es) [] pos) X.env=(do
   let ov ← eval o X.env
   standAt apos.atName
   let (f,first) ← holding [ov] (getMethod ov m pl)
   callWith pos f first (backTo pos (starEach (e :: es) X.env)) (backToKw pos (keywordEach [] X.env)))) :
  PE X (.Call (.Attribute o m apos) (e :: es) [] pos) (tMethA Ch m sp dvs E ta t):=by
 refine ⟨fun pins s σ H Q I h=>?_⟩
 refine PySem.W.methodCall_KW (pl:=pl) (thn (he.run pins s σ H _ I h) fun u s1 ⟨x,H1,I1,rx,a,dx,fs,ex,ea,l,q⟩=>?_) ht
 subst ex
 obtain rfl:u=Value.ref a:=rx
 refine getmeth_ok I1 ea c hm l ?_
 refine PySem.W.callWith_K (first:=[.ref a]) (h₀:=X.base) I.ok.mod.kin hm.kp (thn (ha.run pos pins s1 σ H1 _ I1 q) fun us s2 ⟨vs,H2,I2,r,q2⟩=>⟨I2.kIn,?_⟩) hst hpl
 exact run_fnSD (us:=.ref a :: us) (vs:=.ref a :: vs) F hr hb hd (hx σ) I2 (.cons rfl r) q2
theorem pe_methA0{CX:CXT}{k:Nat}{Ch f:Addr}{fd:FuncData}{ps:List Str}{sp:Sp}{dvs:List V}{ds:List Value}{E:L2.St→XK}{ta:TE}{pl:Sem Bool}(he:PE X o ta)(c:Cls X.K Ch)(hm:Meth X.K Ch m f)(F:FnOk X.prog X.w X.K X.mg X.base CX k f fd ps sp)(hr:Room k X.A)(hb:Binds X.K fd ps ds)(hd:Vals dvs ds)(hx:∀ σ,PassesAt CX X σ (E σ))
  (ht:eval (.Call (.Attribute o m apos) [] [] pos) X.env=(do
   let ov ← eval o X.env
   standAt apos.atName
   let (f,first) ← holding [ov] (getMethod ov m pl)
   callWith pos f first (backTo pos (starEach [] X.env)) (backToKw pos (keywordEach [] X.env)))) :
  PE X (.Call (.Attribute o m apos) [] [] pos) (tMethA Ch m sp dvs E ta tNil):=by
 refine ⟨fun pins s σ H Q I h=>?_⟩
 refine PySem.W.methodCall_KW (pl:=pl) (thn (he.run pins s σ H _ I h) fun u s1 ⟨x,H1,I1,rx,a,dx,fs,ex,ea,l,q⟩=>?_) ht
 subst ex
 obtain rfl:u=Value.ref a:=rx
 refine getmeth_ok I1 ea c hm l ?_
 exact PySem.W.callWith_K0 (first:=[.ref a]) I1.kIn hm.kp (run_fnSD (us:=[.ref a]) (vs:=[.ref a]) F hr hb hd (hx σ) I1 (.cons rfl .nil) q)
structure CalF (C:Cn) (m:Str) (n k:Nat) (f:FN):Prop where
 ex:∃ ad fd ps Ch,ps.length=n∧FnOk C.P C.w C.K C.mg C.base (L2.CX C.P C.w) k ad fd ps (spOf C n f)∧Binds C.K fd ps []∧C.mg "House" = some (.ref Ch)∧Cls C.K Ch∧Meth C.K Ch m ad
structure CalH (C:Cn) (m:Str) (k:Nat) (ts:List Tg) (f:FX) (nd:Nat):Prop where
 ex:∃ ad fd ps Ch,ps.length=ts.length∧FnOk C.P C.w C.K C.mg C.base (L2.CX C.P C.w) k ad fd ps (spX C ts f)∧Binds C.K fd ps (List.replicate nd .none)∧C.mg "House" = some (.ref Ch)∧Cls C.K Ch∧Meth C.K Ch m ad
theorem call_tail{f:FN}{n:Nat}{xs:List TV}{vs:List V}{fp:List Addr}{Q:VK}(e1:Ext F H F1 H1)(r1:RVs C.K F1 H1 H xs vs fp)(hl:vs.length=n)(h1:EOk C W σ F H Q ((f (xs.map (·.2))).bind fun r=>if xs.any isBw && !stabR r then .bad else .ok r)):spOf C n f vs H1 Q (WE W σ):=by
 by_cases hb:xs.any isBw=true
 ·refine ⟨H1,xs.map (·.2),hl,Same.refl _,fun _ _ z=>z,RVs.reps e1.fh r1,?_⟩
  cases ef:f (xs.map (·.2)) with
  | bad=>rw [ef] at h1; exact h1.elim
  | exc c =>
   rw [ef] at h1
   exact fun F' H' e'=>h1 (tupF F1 H') H' (e1.trans (Ext.tupF e1.fh e1.tp e'.hh))
  | ok x =>
   rw [ef,bind_ok,hb] at h1
   by_cases hs:stabR x=true
   ·rw [hs] at h1
    intro v F' H' e' rv
    have e2:=Ext.tupF e1.fh e1.tp e'.hh
    refine h1 v (tupF F1 H') H' (e1.trans e2) ?_
    have gt:∀ a xs,F' a=some (tq xs)→tupF F1 H' a=some (tq xs):=fun a xs z=>tupF_tup (e'.fh _ _ z)
    obtain ⟨t,p⟩:=x
    obtain ⟨fp',rv⟩:=rv
    cases t with
    | fz=>exact .fz (stab_rep gt p v hs rv)
    | bw d=>cases hs
    | ow d =>
     obtain ⟨z1,z2,z3⟩:=rv
     refine ⟨fp',stab_own gt d hs z1,z2,fun a ha=>⟨?_,e1.hh.free (z3 a ha).2⟩⟩
     obtain ⟨ws,z4,z5⟩:=z1.there d a ha
     rcases tupF_cases (F:=F1) (H:=H') a with ⟨_,z⟩ | z
     ·rw [z4] at z; cases z; exact (z5 _ rfl).elim
     ·rw [z]; exact e1.fh.free (z3 a ha).2
   ·rw [bool_ff hs] at h1; exact h1.elim
 ·obtain ⟨F2,e2,s2,r2,_⟩:=RVs.put e1 r1 (putVs_of (bool_ff hb))
  refine ⟨F2,xs.map (·.2),hl,e2.fh,e2.tp,r2,?_⟩
  cases ef:f (xs.map (·.2)) with
  | bad=>rw [ef] at h1; exact h1.elim
  | exc c =>
   rw [ef] at h1
   exact fun F' H' e'=>h1 F' H' (e2.trans e')
  | ok x =>
   rw [ef,bind_ok,bool_ff hb] at h1
   exact fun v F' H' e' rv=>h1 v F' H' (e2.trans e') (rv.start e1.hh)
theorem isHs_one{p:PV}(h:isHs [p]=true):∃ l,p = .exo 0 l:=by
 unfold isHs at h
 split at h
 ·rename_i l _ e; cases e; exact ⟨_,rfl⟩
 ·cases h
theorem de_meth{f:FN}{pl:PySem.Env→Sem Bool}(G:CalF C m (n+1) j f)(ho:DE C true k N sc o A)(ha:DA C true k N sc (e :: es) As)(hAs:AL n As)(hj:j≤k:=by decide)(hm:noFld m=true:=by decide +kernel)
  (he:∀ env:PySem.Env,starEach (e :: es) env=(false,eval e env) :: starEach es env:=by intro _; rfl)(hpl:∀ env:PySem.Env,(backTo cpos (starEach es env)).any (·.1)=false:=by intro _; rfl)
  (ht:∀ env:PySem.Env,eval (.Call (.Attribute o m apos) (e :: es) [] cpos) env=(do
   let ov ← eval o env
   standAt apos.atName
   let (f,first) ← holding [ov] (getMethod ov m (pl env))
   callWith cpos f first (backTo cpos (starEach (e :: es) env)) (backToKw cpos (keywordEach [] env))):=by intro _; rfl) :
  DE C true k N sc (.Call (.Attribute o m apos) (e :: es) [] cpos) (eMeth f A As):=by
 obtain ⟨tq',po,qo⟩:=ho
 obtain ⟨ta,pa,qa⟩:=ha
 obtain ⟨ad,fd,ps,Ch,hps,Fk,bn,hmg,cl,mt⟩:=G.ex
 refine ⟨fun W=>tMethA Ch m (spOf C (n+1) f) [] (WE W) (tq' W) (ta W),fun X S W T=>?_,fun W σ Γ F0 H0 F H Q g h=>?_⟩
 ·have cn:=S.cn
  subst cn
  exact pe_methA (po X S W T) cl mt Fk ((S.r rfl).mono hj) bn .nil (fun σ=>passAt T σ) (pa X S W T) (he _) (hpl _) (ht _)
 ·refine qo W σ Γ F0 H0 F H _ g (EOk.bind h fun x v F1 H1 ex e1 r1 h1=>?_)
  by_cases hs:isHs [x.2]=true
  ·rw [if_pos hs] at h1
   obtain ⟨l,el⟩:=isHs_one hs
   obtain ⟨t,q⟩:=x
   simp only at el
   subst el
   obtain ⟨a,Ch',dx,vs0,rfl,z1,z2,_⟩:=rv_partE e1.fh r1
   cases (show some (Value.ref Ch)=some (Value.ref Ch') from hmg.symm.trans z2)
   refine ⟨a,dx,_,rfl,z1,fldZ_no hm _,qa W σ Γ F0 H0 F1 H1 _ (g.next e1) ?_⟩
   cases exs:As Γ with
   | exc c=>rw [exs] at h1; exact fun F' H' e'=>h1 F' H' (e1.trans e')
   | bad=>rw [exs] at h1; exact h1
   | ok xs =>
    rw [exs,bind_ok] at h1
    intro vs fp F2 H2 e2 r2
    obtain ⟨fx,rf,hf⟩:=r1.norm
    have hl:(V.ref a :: vs).length=n+1:=by
     rw [List.length_cons,(RVs.reps e2.fh r2).len,List.length_map,hAs Γ xs exs]
    rw [List.append_nil]
    exact call_tail (e1.trans e2) (xs:=(t,.exo 0 l) :: xs) (fp:=fx++fp) ⟨.ref a,vs,fx,fp,rfl,rfl,rf.ext e2,r2.start e1.hh,fun b hb hm'=>(hf b hb).2 (r2.news b hm').1,fun b hb=>⟨(hf b hb).1,fun z=>(hf b hb).2 (e2.hh.free z)⟩⟩ hl h1
  ·rw [if_neg hs] at h1; exact h1.elim
theorem de_meth0{f:FN}{pl:PySem.Env→Sem Bool}(G:CalF C m 1 j f)(ho:DE C true k N sc o A)(hj:j≤k:=by decide)(hm:noFld m=true:=by decide +kernel)
  (ht:∀ env:PySem.Env,eval (.Call (.Attribute o m apos) [] [] cpos) env=(do
   let ov ← eval o env
   standAt apos.atName
   let (f,first) ← holding [ov] (getMethod ov m (pl env))
   callWith cpos f first (backTo cpos (starEach [] env)) (backToKw cpos (keywordEach [] env))):=by intro _; rfl) :
  DE C true k N sc (.Call (.Attribute o m apos) [] [] cpos) (eMeth f A eNil):=by
 obtain ⟨tq',po,qo⟩:=ho
 obtain ⟨ad,fd,ps,Ch,hps,Fk,bn,hmg,cl,mt⟩:=G.ex
 refine ⟨fun W=>tMethA Ch m (spOf C 1 f) [] (WE W) (tq' W) tNil,fun X S W T=>?_,fun W σ Γ F0 H0 F H Q g h=>?_⟩
 ·have cn:=S.cn
  subst cn
  exact pe_methA0 (po X S W T) cl mt Fk ((S.r rfl).mono hj) bn .nil (fun σ=>passAt T σ) (ht _)
 ·refine qo W σ Γ F0 H0 F H _ g (EOk.bind h fun x v F1 H1 ex e1 r1 h1=>?_)
  by_cases hs:isHs [x.2]=true
  ·rw [if_pos hs] at h1
   obtain ⟨l,el⟩:=isHs_one hs
   obtain ⟨t,q⟩:=x
   simp only at el
   subst el
   obtain ⟨a,Ch',dx,vs0,rfl,z1,z2,_⟩:=rv_partE e1.fh r1
   cases (show some (Value.ref Ch)=some (Value.ref Ch') from hmg.symm.trans z2)
   obtain ⟨fx,rf,hf⟩:=r1.norm
   refine ⟨a,dx,_,rfl,z1,fldZ_no hm _,?_⟩
   have e2:=Ext.refl e1.fh e1.tp
   exact call_tail e1 (xs:=[(t,.exo 0 l)]) (fp:=fx++[]) ⟨.ref a,[],fx,[],rfl,rfl,rf,⟨rfl,rfl⟩,fun b hb hm'=>by simp at hm',fun b hb=>hf b hb⟩ rfl h1
  ·rw [if_neg hs] at h1; exact h1.elim
theorem repL_nons{K:KK}{F:Hp}:∀ n:Nat,RepL K F (List.replicate n .non) (List.replicate n V.non)
 | 0=>RepL.nil
 | n+1=>by rw [List.replicate_succ,List.replicate_succ]; exact RepL.cons rep_non (repL_nons n)
theorem vals_nons:∀ n:Nat,Vals (List.replicate n V.non) (List.replicate n Value.none)
 | 0=>.nil
 | n+1=>by rw [List.replicate_succ,List.replicate_succ]; exact .cons rfl (vals_nons n)
theorem cx_runD{f:FX}{nd:Nat}{b:Bool}{ta:WX→TA}{Q:VK}(qa:∀ W σ Γ F0 H0 F H Q,Good C.K F0 H0 Γ σ F H→AOk C W σ F H Q (As Γ)→ta W σ H Q)(hts:ts=js.map (·.2)++List.replicate (n+nd) .fz)(hAs:AL n As)(hnd:(js.map (·.1)).Nodup)
  (g:GoodS C.K F0 H0 Γ σ F H)(h:CXok C W σ F0 H0 Γ b (dfX f nd) js As (fun _ _=>Q)):∃ vs1:List V,vs1.length=js.length∧(∀ (jx i:Nat) (t:Tg),js[jx]? = some (i,t)→∃ v,vs1[jx]? = some v∧σ[i]? = some (some v))∧ta W σ H fun vs H2=>spX C ts f (vs1++(vs++List.replicate nd .non)) H2 Q (WE W σ):=by
 unfold CXok at h
 cases et0:takeH b Γ js with
 | none=>rw [et0] at h; exact h.elim
 | some ps =>
  rw [et0] at h
  simp only at h
  obtain ⟨et,_⟩:=takeH_ok et0
  obtain ⟨vs1,_,l1,v1,_⟩:=call_good g et hnd (RepL.nil (K:=C.K) (F:=F))
  refine ⟨vs1,l1,v1,qa W σ Γ F0 H0 F H _ g.toGood ?_⟩
  cases ex:As Γ with
  | exc c=>rw [ex] at h; exact fun F' H' e=>h F' H' (g.next e)
  | bad=>rw [ex] at h; exact h.elim
  | ok xs =>
   rw [ex] at h
   simp only at h
   intro vs fp F1 H1 e1 r1
   cases hp:putVs xs with
   | exc c=>rw [hp] at h; exact h.elim
   | bad=>rw [hp] at h; exact h.elim
   | ok qs =>
    rw [hp] at h
    simp only at h
    obtain ⟨F2,e2,s2,r2,_⟩:=RVs.put e1 r1 hp
    have g2:=g.next e2
    have r2':=r2.append (repL_nons (K:=C.K) (F:=F2) nd)
    obtain ⟨vs1',Hc,l1',v1',gc,back⟩:=call_good g2 et hnd r2'
    have ev:=vals_uniq l1' l1 v1' v1
    subst ev
    have hq:qs.length=n:=by rw [putVs_len hp]; exact hAs Γ xs ex
    have hq2:(qs++List.replicate nd PV.non).length=n+nd:=by rw [List.length_append,hq,List.length_replicate]
    have hts2:js.map (·.2)++List.replicate (qs++List.replicate nd PV.non).length Tg.fz=ts:=by rw [hq2,hts]
    rw [hts2] at gc back
    have hl:ts.length=js.length+(n+nd):=by rw [hts]; simp
    have tl:=(take_spec et).1
    have hlv:(vs++List.replicate nd V.non).length=n+nd:=by rw [r2'.len,hq2]
    refine ⟨F2,Hc,ps++(qs++List.replicate nd .non),by rw [List.length_append,tl,hq2,hl],by rw [List.length_append,l1',hlv,hl],gc,?_⟩
    unfold dfX at h
    rw [List.append_assoc] at h
    cases ef:f (ps++(qs++List.replicate nd PV.non)) with
    | bad=>rw [ef] at h; exact h.elim
    | exc c =>
     rw [ef] at h
     intro F' H' gn
     have:=back (by rw [List.length_append,tl]) gn
     rw [put_same et] at this
     exact h F' H' this
    | ok y =>
     obtain ⟨pv,news⟩:=y
     rw [ef] at h
     exact fun v F' H' hn gn rv=>h v F' H' (back (by rw [hn,hl,hq2]) gn) rv
theorem dc_meth {f:FX} {nd:Nat} {pl:PySem.Env→Sem Bool} (i0:Nat) (G:CalH C m j ts f nd) (ha:AX C true k N sc (e :: es) js As) (hAs:AL n As) (hts:ts=((i0,Tg.ow 2) :: js).map (·.2)++List.replicate (n+nd) .fz:=by rfl) (hj:j≤k:=by decide) (hm:noFld m=true:=by decide +kernel)
  (hN:N[i0]? = some x:=by rfl) (hv:Vis sc x:=by first | exact Or.inl rfl | exact Or.inr (Or.inl rfl) | exact Or.inr (Or.inr rfl)) (hd:(x == ("__debug__":Str))=false:=by decide) (hcd:(x == ("__classdict__":Str))=false:=by decide)
  (he:∀ env:PySem.Env,starEach (e :: es) env=(false,eval e env) :: starEach es env:=by intro _; rfl) (hpl:∀ env:PySem.Env,(backTo cpos (starEach es env)).any (·.1)=false:=by intro _; rfl)
  (ht:∀ env:PySem.Env,eval (.Call (.Attribute (.Name x p1) m apos) (e :: es) [] cpos) env=(do
   let ov ← eval (.Name x p1) env
   standAt apos.atName
   let (f,first) ← holding [ov] (getMethod ov m (pl env))
   callWith cpos f first (backTo cpos (starEach (e :: es) env)) (backToKw cpos (keywordEach [] env))):=by intro _; rfl) (hnd:(((i0,Tg.ow 2) :: js).map (·.1)).Nodup:=by decide) :
  DC C k N sc (.Call (.Attribute (.Name x p1) m apos) (e :: es) [] cpos) true (dfX f nd) ((i0,.ow 2) :: js) As:=by
 obtain ⟨ta,pa,qa⟩:=ha
 obtain ⟨ad,fd,ps,Ch,hps,Fk,bn,hmg,cl,mt⟩:=G.ex
 refine ⟨fun W=>tMethA Ch m (spX C ts f) (List.replicate nd .non) (WE W) (tVar i0) (tNX js (ta W)),fun X S W T=>?_,fun W σ Γ F0 H0 F H Q g h=>?_⟩
 ·have cn:=S.cn
  subst cn
  exact pe_methA (pe_var (by rw [S.n]; exact hN) (by rw [S.s]; exact hv) hd hcd) cl mt Fk ((S.r rfl).mono hj) bn (vals_nons nd) (fun σ=>passAt T σ) (pa X S W T) (he _) (hpl _) (ht _)
 ·obtain ⟨vs1,l1,v1,r⟩:=cx_runD qa hts hAs hnd g h
  unfold CXok at h
  cases et0:takeH true Γ ((i0,.ow 2) :: js) with
  | none=>rw [et0] at h; exact h.elim
  | some ps0 =>
   obtain ⟨et,hh⟩:=takeH_ok et0
   have hh:=hh rfl
   obtain ⟨_,t2⟩:=take_spec et
   match ps0,hh with
   | .exo 0 l :: ps',_ =>
    have hg:=t2 0 i0 (.ow 2) (.exo 0 l) rfl rfl
    obtain ⟨a,Ch',dx,vs0,fps,hv0,z1,z2,_⟩:=good_hs g hg
    cases (show some (Value.ref Ch)=some (Value.ref Ch') from hmg.symm.trans z2)
    obtain ⟨v,hv1,hv2⟩:=v1 0 i0 (.ow 2) rfl
    rw [hv0] at hv2
    cases hv2
    match vs1,l1,hv1,v1,r with
    | w :: vs1',l1,hv1,v1,r =>
     cases hv1
     refine ⟨.ref a,hv0,a,dx,_,rfl,z1,fldZ_no hm _,?_⟩
     exact tNX_run js vs1' (Q:=fun xs H2=>spX C ts f (.ref a :: (xs++List.replicate nd .non)) H2 Q (WE W σ)) (by simpa using l1) (fun jx i t hq=>v1 (jx+1) i t hq) (by
      simp only [List.append_assoc]
      exact r)
end
end Vl
end
section
set_option linter.all false
set_option maxHeartbeats 1000000
namespace Vm
@[simp] def tupKV (x:TV):Res TV:=match x.2 with
 | .dic ks _=>if ks.all (keyN 8) && decide (ks.length≤16777216) then .ok (.fz,.tup ks) else .bad
 | _=>.bad
@[simp] def eTupleK (a:EX):EX:=fun Γ=>(a Γ).bind tupKV
@[simp] def eFn (l:List Nat):EX:=fun _=>.ok (.fz,.exo 1 [.str l])
def fnOf{α:Type}(x:PV)(tb:List (List Nat×α)):Option α:=match x with
 | .exo 1 [.str s]=>(tb.find? fun q=>decide (q.1=s)).map (·.2)
 | _=>none
def catchN:List (List (Nat×Bool)×ST)→Nat→En→Out
 | [],c,Γ=>.exc c Γ
 | (cs,h) :: r,c,Γ=>match takesC cs c with
  | some true=>(match h Γ with
   | .exc _ _=>.bad
   | o=>o)
  | some false=>catchN r c Γ
  | none=>.bad
end Vm
end
section
set_option Elab.async false
set_option linter.all false
set_option maxRecDepth 100000
set_option maxHeartbeats 1000000
namespace PySem
open PySem.F PySem.W
section
variable {prog:Program} {w:World} {A:Around} {E:Value→Shared→Prop} {s:Shared}
theorem code_tuple_new_dict {Q₁:Value→Shared→Prop} {a:Addr} {es:Array DictEntry} {ep:Nat} (hh:A.in1.handled=none) (hsys:(a == sysModules)=false) (hr:s.heap.DictRaw a es ep) (hn:es.size≤sizeLine)
  (h:∀ (h':Heap) (tk:Nat) (acc:Array Value),(∀ b o,s.heap.get? b=some o→h'.get? b=some o)→acc.toList=es.toList.map (·.key)→Q₁ (.ref h'.objs.size) { s with heap:=h'.push { cls:=.type "tuple",data:=.seq acc },toks:=tk }) :
  codeAny (model prog w) A (.call (.builtin "tuple.__new__") ⟨[.type "tuple",.ref a],[]⟩) (wants Q₁ E) s:=by
 refine codeAny_of_tree ?_
 show wpAny _ A.in1 (do checkBuiltinCall "tuple.__new__" ⟨[.type "tuple",.ref a],[]⟩; again (.builtin "tuple.__new__" ⟨[.type "tuple",.ref a],[]⟩)) _ _ s
 refine wpAny_bind (wpAny_of_eq (F.newCall_tuple_1 _) (wpAny_pure ⟨plainId_quiet F.plain_tuple_new _,codeAny_builtin F.entry_tuple_new ?_⟩))
 rw [Around.under_plainId F.plain_tuple_new _]
 have hsub:=sub_tuple_self
 have hinit:=init_tuple_lookup
 have hmh:=madeHere_tuple
 obtain ⟨o,ho,hx,hdt⟩:=id hr
 have hTI:s.TypeIs (.ref a) "dict":=⟨o,ho,hx.1⟩
 wp_walk using wpAny_typeOf hTI,PySem.W.kdu_collect (A:=A.in1) (PySem.KdlSrc.rawDict hsys) hh hr hn
 intro h' tk acc hk hacc
 have hal:acc.toList=es.toList.map (·.key):=by
  apply List.ext_getElem?
  intro j
  rw [List.getElem?_map]
  by_cases hj:j < es.size
  ·have hja:j < acc.size:=by rw [hacc.1]; exact hj
   obtain ⟨_,e⟩:=hacc.2 j acc[j] (Array.getElem?_eq_getElem hja)
   rw [Array.getElem?_toList,Array.getElem?_toList,Array.getElem?_eq_getElem hja,Array.getElem?_eq_getElem hj,e]; rfl
  ·rw [Array.getElem?_toList,Array.getElem?_toList,Array.getElem?_eq_none (by rw [hacc.1]; omega),Array.getElem?_eq_none (by omega)]; rfl
 show wpAny _ _ (Builtin.Tuple.tupleExact acc.toList.toArray >>= fun v=>ret v) _ _ _
 unfold Builtin.Tuple.tupleExact
 refine wpAny_bind (wpAny_newObj_type ?_ (by show acc.toList.toArray.size≤sizeLine; simp only [Array.toArray_toList]; rw [hacc.1]; exact hn))
 refine wpAny_pure ?_
 have e:acc.toList.toArray=acc:=by simp
 rw [e]
 exact h h' tk acc hk hal
theorem call_tuple_dict {Q:Value→Shared→Prop} {a:Addr} {es:Array DictEntry} {ep:Nat} (hh:A.in1.handled=none) (hsys:(a == sysModules)=false) (hr:s.heap.DictRaw a es ep) (hn:es.size≤sizeLine)
  (hQ:∀ (h':Heap) (tk:Nat) (acc:Array Value),(∀ b o,s.heap.get? b=some o→h'.get? b=some o)→acc.toList=es.toList.map (·.key)→Q (.ref h'.objs.size) { s with heap:=h'.push { cls:=.type "tuple",data:=.seq acc },toks:=tk }) :
  wpAny (model prog w) A (call (.type "tuple") [.ref a]) Q E s:=by
 refine callType_codes (Q₁:=fun obj s₁=>s₁.TypeIs obj "tuple"∧Q obj s₁) F.called_tuple (F.typeCall_tuple_1 _) F.entry_object_init
  (code_tuple_new_dict (A:=A.in1) hh hsys hr hn fun h' tk acc hk hacc=>⟨⟨_,Heap.get?_push_size _ rfl,rfl⟩,hQ h' tk acc hk hacc⟩) fun obj s₁ h₁=>?_
 exact ⟨h₁.1,F.args_object_init_2 obj _,object_init_meets F.called_tuple.init.lookup F.called_tuple.made (by decide) prog w A.in1 _ s₁ ⟨h₁.1,rfl,h₁.2⟩⟩
end
end PySem
namespace Vl
open PySem L2 Vm PyProof.Rows
def rTupKX(K:KK):List V→Hp→VK→Prop:=fun vs H Q=>∃ (a:Addr) (o:Obj) (es:Array DictEntry) (ep:Nat) (ys:List V),vs=[.ref a]∧H a=some (dHO a o)∧(a == sysModules)=false∧o.ExactDict∧o.data = .dict es ep∧Paired RelV ys (es.toList.map (·.key))∧ys.length≤sizeLine∧NewT ys H Q
theorem cr_tupKX{X:Cx}(hc:X.calm=true):CallR X (.type "tuple") (rTupKX (kkX X)):=by
 intro pins s σ H vs us Q I r h
 obtain ⟨a,ob,es,ep,ys,rfl,hd,hsys,hx,hdt,rv,hz,q⟩:=h
 rw [Vals.ref1 r]
 have hh:X.A.handled=none:=I.ok.hd hc
 have hr:s.heap.DictRaw a es ep:=⟨ob,dx_get? I hd,hx,hdt⟩
 have hes:es.size=ys.length:=by have:=Paired.length rv; simp at this; omega
 refine call_tuple_dict hh hsys hr (by rw [hes]; exact hz) fun h' tk acc hk hal=>?_
 have I1:Inv X pins σ H { s with heap:=h',toks:=tk }:=I.kept (t':=tk) hk
 have rv':Vals ys acc.toList:=by rw [hal]; exact rv
 have:=newD (X:=X) (s:={ s with heap:=h',toks:=tk }) tk I1 hz rv' q
 simpa using this
section
variable {C:Cn} {cm:Bool} {k:Nat} {N:List Str} {sc so:Scope} {a b c e o tg fe:Expr} {es:List Expr} {A B E:EX} {As:EXs} {T U:TX} {pos p tpos apos apos2 cpos p1 p2 pos' np:Pos} {X:Cx} {x fname m:Str} {st b₀:Stmt} {sts body suite:List Stmt} {d d':ST} {keep:List Nat}
variable {F0 H0 F H F1 H1:Hp} {Γ:En} {σ:L2.St} {W:WX} {D:Ends} {js:List (Nat×Tg)} {ts:List Tg} {n j:Nat}
theorem de_tupleK (ha:DE C true k N sc a A) (mx:C.mg "tuple" = none) (hg:sc.names.lookup ("tuple":Str)=some .globalImplicit:=by rfl)
  (hst:∀ env:PySem.Env,starEach [a] env=(false,eval a env) :: starEach [] env:=by intro _; rfl):DE C true k N sc (.Call (.Name "tuple" p) [a] [] pos) (eTupleK A) :=
 de_t1 (r:=rTupKX C.K) (fun X S=>by rw [← S.KK]; exact cr_tupKX (S.c rfl)) (fun W σ x v F H Hs Q hf ht rv h=>by
  obtain ⟨t,q⟩:=x
  have rr:=rv.rep hf
  cases q with
  | dic ks l =>
   have h:EOk C W σ F H Q (if ks.all (keyN 8) && decide (ks.length≤16777216) then .ok (.fz,.tup ks) else .bad):=h
   by_cases hc:(ks.all (keyN 8) && decide (ks.length≤16777216))=true
   ·rw [if_pos hc] at h
    rw [Bool.and_eq_true,decide_eq_true_eq] at hc
    obtain ⟨ad,ob,vs,rfl,g1,g2,g3,g4,g5⟩:=rep_dic rr
    obtain ⟨xs,es,ep,k1,k2,k3,k4,k5⟩:=dic_walk g3 g4
    refine ⟨ad,ob,es,ep,xs,rfl,g1,g2,k1,k2,k3,by rw [k4.len,sizeLine_eq]; exact hc.2,fun p o hp hd=>?_⟩
    have kF:RepL C.K F ks xs:=keyL_down ht 8 ks xs (keyNL_of hc.1) k4
    refine h _ (upd F p (tq (o,xs))) _ (Ext.tup hf ht hp) (.fz ?_)
    unfold Rep
    exact ⟨p,xs,rfl,.new hd,kF.mono (same_new (hf.free hp)) _ _⟩
   ·rw [if_neg hc] at h; exact h.elim
  | _=>exact h.elim) mx boot_tuple (by decide) (by decide) ha hg hst
variable (keep C k N sc) in
def DHX (hds:List ExceptHandler) (l:List (List (Nat×Bool)×ST)):Prop:=∃ l':List (Value×(Addr→Value→Option Addr→TS)),(∀ X,StaS C true k N sc X→HdsOk X hds l') ∧
 ∀ W D σ c Γ F0 H0 F H,GoodS C.K F0 H0 Γ σ F H→OutX C W F0 H0 D keep σ (catchN l c Γ)→wMany C.K W D l' (C.xc c) none σ H
end
end Vl
end
section
set_option Elab.async false
set_option linter.all false
set_option maxRecDepth 100000
set_option maxHeartbeats 1000000
namespace Vl
open PySem L2 Vm PyProof.Rows
section
variable {C:Cn} {k:Nat} {N:List Str} {sc:Scope} {st:Stmt}
theorem fnX_okG{x qu:Str}{ad:Addr}{fd:FuncData}{ps:List Str}{ns j:Nat}{ts:List Tg}{keep:List Nat}{d:ST}
  (okX:∀ (k:Nat) (sp:Sp),(∀ vs H Q E,sp vs H Q E→vs.length=ps.length)→(∀ (cdv:Value) (A:Around) (outer:List PySem.Env) (s:Shared) (H:Hp) (vs:List V) (Q:VK) (E:XK),Room k (A.deeper (envOfC qu (defScope st) s.heap.objs.size ad cdv))→sp vs H Q E →
   ∃ t,PSs (cxOf (L2.CX C.P C.w) C.P C.w C.K C.mg C.base N qu (defScope st) ad cdv A outer s H E) (defBody st) t∧t { nx:=fun _ H'=>Q .non H',rt:=Q } (L2.start N vs) H)→FnOk C.P C.w C.K C.mg C.base (L2.CX C.P C.w) (k+1) ad fd ps sp)(S:FnScope N ps (defScope st))(hp:ps.length=ts.length)(hN:N.length=ns)
  (body:DXs keep C true j N (defScope st) (defBody st) d)(hkeep:∀ i,(ts[i]?.map isOw).getD false=true→i∈keep):FnOk C.P C.w C.K C.mg C.base (L2.CX C.P C.w) (j+1) ad fd ps (spX C ts (runX ts ns d)):=by
 obtain ⟨tb,pb,qb⟩:=body
 have hnn:ts.length≤ns:=by
  have:=congrArg List.length S.pre
  rw [List.length_take] at this
  omega
 refine okX _ _ (fun vs H Q E h=>?_) (fun cdv A outer s H vs Q E hr h=>?_)
 ·obtain ⟨_,_,_,_,h1,_⟩:=h
  rw [h1,hp]
 ·obtain ⟨F0,H0,qs,h1,h2,g,h5⟩:=h
  refine ⟨tb fun cls d _ H=>E cls d H,pb _ ⟨⟨rfl,rfl,rfl,S.nd,fun _=>rfl,fun _=>hr,?_,⟨hr.dp,hr.un⟩⟩,passes_of rfl,fun _ _=>rfl,rfl,rfl⟩ _ (takes_of rfl rfl rfl rfl),?_⟩
  ·have h0:=hr.un
   show (A.deeper _).units+100 < cLine
   omega
  ·have hst:∀ i v,(vs.map some)[i]? = some (some v)→(L2.start N vs)[i]? = some (some v):=fun i v hv=>by
    unfold L2.start
    have hi:i < (vs.map some).length:=(List.getElem?_eq_some_iff.mp hv).1
    rw [List.getElem?_append_left (by simpa using hi)]
    exact hv
   have hlen:(startM ts qs).length=ts.length:=by unfold startM; simp; omega
   have hget:∀ i y,En.get (startM ts qs++List.replicate (ns - ts.length) none) i=some y→En.get (startM ts qs) i=some y:=fun i y hy=>by
    unfold En.get at hy ⊢
    rw [List.getD,List.getElem?_append] at hy
    split at hy
    ·rw [List.getD]; exact hy
    ·rw [List.getElem?_replicate] at hy
     split at hy <;> cases hy
   have back:∀ {Γ:En} {σ':L2.St} {F' H':Hp} {news:List PV},GoodS C.K F0 H0 Γ σ' F' H'→Kp keep σ' (L2.start N vs)→readA Γ 0 ts qs = .ok news→news.length=ts.length∧GoodS C.K F0 H0 (startM ts news) (vs.map some) F' H':=by
    intro Γ σ' F' H' news g' k' er
    obtain ⟨r1,r2⟩:=read_spec er
    refine ⟨r1,?_⟩
    obtain ⟨fp,s1,s2⟩:=g'.slots
    obtain ⟨fp0,t1,_⟩:=g.slots
    refine ⟨⟨g'.ext,?_,fun i=>if (ts[i]?.map isOw).getD false=true then fp i else [],fun i y hy=>?_,fun i j' a hij ha hb'=>?_⟩,fun i dd p hy=>?_⟩
    ·unfold startM
     simp
     omega
    ·obtain ⟨y1,y2⟩:=get_start hy
     obtain ⟨q1,q2⟩:=r2 i y.1 y.2 y1 y2
     obtain ⟨ty,py⟩:=y
     simp only at y1 y2 q1 q2
     cases ty with
     | ow dd =>
      have hg:=q1 rfl
      rw [Nat.zero_add] at hg
      obtain ⟨v,hv,r⟩:=s1 i _ hg
      have hk:=k' i (hkeep i (by rw [y1]; rfl))
      have hi:i < vs.length:=by
       have:=(List.getElem?_eq_some_iff.mp y1).1
       omega
      have hs0:=hst i vs[i] (by rw [List.getElem?_map,List.getElem?_eq_getElem hi]; rfl)
      rw [hk,hs0] at hv
      cases hv
      refine ⟨vs[i],by rw [List.getElem?_map,List.getElem?_eq_getElem hi]; rfl,?_⟩
      simp only
      rw [if_pos (by rw [y1]; rfl)]
      exact r
     | fz =>
      have hq:=q2 rfl
      obtain ⟨v,hv,r⟩:=t1 i _ (start_get y1 hq)
      exact ⟨v,hv,Rep.mono g'.ext.ff _ _ r⟩
     | bw dd =>
      have hq:=q2 rfl
      exact (g.nb i dd py (start_get y1 hq)).elim
    ·simp only at ha hb'
     split at ha
     ·split at hb'
      ·exact s2 i j' a hij ha hb'
      ·simp at hb'
     ·simp at ha
    ·obtain ⟨y1,y2⟩:=get_start hy
     obtain ⟨q1,q2⟩:=r2 i _ p y1 y2
     exact (g.nb i dd p (start_get y1 (q2 rfl))).elim
   refine qb _ _ _ (startM ts qs++List.replicate (ns - ts.length) none) F0 H0 F0 H ⟨⟨g.ext,?_,?_⟩,fun i d p hy=>g.nb i d p (hget _ _ hy)⟩ ?_
   ·rw [List.length_append,hlen,List.length_replicate]
    simp [L2.start,hN]
    omega
   ·obtain ⟨fp,s1,s2⟩:=g.slots
    refine ⟨fp,fun i y hy=>?_,s2⟩
    obtain ⟨v,hv,r⟩:=s1 i y (hget _ _ hy)
    exact ⟨v,hst i v hv,r⟩
   ·unfold runX at h5
    rw [if_pos h1] at h5
    cases eo:d (startM ts qs++List.replicate (ns - ts.length) none) with
    | nx Γ =>
     rw [eo] at h5
     simp only at h5
     intro σ' F' H' g' k'
     cases er:readA Γ 0 ts qs with
     | exc c=>rw [er] at h5; exact (readA_noexc er).elim
     | bad=>rw [er] at h5; exact h5.elim
     | ok news =>
      rw [er] at h5
      obtain ⟨z1,z2⟩:=back g' k' er
      exact h5 .non F' H' z1 z2 rep_non
    | rt t p Γ =>
     cases t with
     | fz =>
      rw [eo] at h5
      simp only at h5
      intro v σ' F' H' g' k' rv
      cases er:readA Γ 0 ts qs with
      | exc c=>rw [er] at h5; exact (readA_noexc er).elim
      | bad=>rw [er] at h5; exact h5.elim
      | ok news =>
       rw [er] at h5
       obtain ⟨z1,z2⟩:=back g' k' er
       exact h5 v F' H' z1 z2 rv
     | bw dd=>rw [eo] at h5; exact h5.elim
     | ow dd=>rw [eo] at h5; exact h5.elim
    | exc c Γ =>
     rw [eo] at h5
     simp only at h5
     intro σ' F' H' g' k'
     cases er:readA Γ 0 ts qs with
     | exc c=>rw [er] at h5; exact (readA_noexc er).elim
     | bad=>rw [er] at h5; exact h5.elim
     | ok news =>
      rw [er,bind_ok] at h5
      obtain ⟨z1,z2⟩:=back g' k' er
      by_cases hn:news=qs
      ·rw [if_pos hn] at h5
       rw [hn] at z2
       exact h5 F' H' z2
      ·rw [if_neg hn] at h5; exact h5.elim
    | bk Γ=>rw [eo] at h5; exact h5.elim
    | ct Γ=>rw [eo] at h5; exact h5.elim
    | bad=>rw [eo] at h5; exact h5.elim
theorem fn_okQ{x qu:Str}{ad:Addr}{fd:FuncData}{ps:List Str}{n ns j:Nat}{d:ST}(F:Fun C.K x qu st ad fd)(S:FnScope N ps (defScope st))(hp:ps.length=n)(hN:N.length=ns)
  (body:DSs C true j N (defScope st) (defBody st) d):FnOk C.P C.w C.K C.mg C.base (L2.CX C.P C.w) (j+1) ad fd ps (spOf C n (runFn n ns d)):=by
 obtain ⟨tb,pb,qb⟩:=body
 have hnn:n≤ns:=by
  have:=congrArg List.length S.pre
  rw [List.length_take] at this
  omega
 refine F.okX S (fun vs H Q E h=>?_) (fun cdv A outer s H vs Q E hr h=>?_)
 ·obtain ⟨_,_,h1,_⟩:=h
  rw [h1,hp]
 ·obtain ⟨F0,qs,h1,h2,h3,h4,h5⟩:=h
  refine ⟨tb fun cls d _ H=>E cls d H,pb _ ⟨⟨rfl,rfl,rfl,S.nd,fun _=>rfl,fun _=>hr,?_,⟨hr.dp,hr.un⟩⟩,passes_of rfl,fun _ _=>rfl,rfl,rfl⟩ _ (takes_of rfl rfl rfl rfl),?_⟩
  ·have h0:=hr.un
   have h1:(cxOf (L2.CX C.P C.w) C.P C.w C.K C.mg C.base N qu (defScope st) ad cdv A outer s H E).A.units+100 < cLine:=by
    show (A.deeper _).units+100 < cLine
    omega
   exact h1
  ·refine qb _ _ _ (qs.map (fun p=>some (.fz,p))++List.replicate (ns - n) none) F0 H F0 H ⟨⟨Ext.refl h2 h3,?_,fun _=>[],fun i y hy=>?_,fun _ _ _ _ h=>by simp at h⟩,fun i d p hy=>?_⟩ ?_
   ·have:=h4.len
    simp [L2.start,hN]
    omega
   ·obtain ⟨p,hp,rfl⟩:=get_args hy
    obtain ⟨v,hv,r⟩:=h4.get hp
    refine ⟨v,?_,r⟩
    unfold L2.start
    rw [List.getElem?_append_left (by rw [List.length_map]; exact (List.getElem?_eq_some_iff.mp hv).1),List.getElem?_map,hv]
    rfl
   ·obtain ⟨p',hp,e⟩:=get_args hy
    cases e
   ·have hl:qs.length=n:=by rw [← h4.len]; exact h1
    unfold runFn at h5
    rw [if_pos hl] at h5
    cases eo:d (qs.map (fun p=>some (.fz,p))++List.replicate (ns - n) none) with
    | nx Γ=>rw [eo] at h5; exact fun σ' F' H' g'=>h5 _ F' H' g'.ext (.fz rep_non)
    | rt t p Γr=>rw [eo] at h5; exact fun v F' H' e r=>h5 v F' H' e r
    | bk Γ=>rw [eo] at h5; exact h5.elim
    | ct Γ=>rw [eo] at h5; exact h5.elim
    | exc c Γ=>rw [eo] at h5; exact fun σ' F' H' g'=>h5 F' H' g'.ext
    | bad=>rw [eo] at h5; exact h5.elim
theorem fnX_okD{x qu:Str}{ad:Addr}{fd:FuncData}{ps:List Str}{ns j:Nat}{ts:List Tg}{keep:List Nat}{d:ST}(F:FunD C.K x qu (defArgs st) (defBody st) (defScope st) [V.non] [] ad fd)(S:FnScope N ps (defScope st))(hp:ps.length=ts.length)(hN:N.length=ns)
  (body:DXs keep C true j N (defScope st) (defBody st) d)(hkeep:∀ i,(ts[i]?.map isOw).getD false=true→i∈keep):FnOk C.P C.w C.K C.mg C.base (L2.CX C.P C.w) (j+1) ad fd ps (spX C ts (runX ts ns d)) :=
 fnX_okG (x:=x) (fun k sp l h=>F.ok S l h) S hp hN body hkeep
theorem binds_0{K:PySem.W.Frag}{fd:FuncData}{ps:List Str}(h:∃ ds,Vals ([]:List V) ds∧Binds K fd ps ds):Binds K fd ps []:=by
 obtain ⟨ds,h1,h2⟩:=h
 cases h1
 exact h2
theorem binds_1{K:PySem.W.Frag}{fd:FuncData}{ps:List Str}(h:∃ ds,Vals [V.non] ds∧Binds K fd ps ds):Binds K fd ps [.none]:=by
 obtain ⟨ds,h1,h2⟩:=h
 cases h1 with
 | cons a b =>
  cases b
  cases (show _=Value.none from a)
  exact h2
end
section
variable {C:Cn} {k:Nat} {N:List Str} {sc:Scope} {a b:Expr} {B:EX} {As:EXs} {p1 pos:Pos} {x:Str} {js:List (Nat×Tg)} {f:FX} {m:Bool}
end
end Vl
end
section
set_option Elab.async false
set_option linter.all false
set_option maxRecDepth 100000
set_option maxHeartbeats 1000000
namespace Vl
open PySem L2 Vm PyProof.Rows
section
variable {C:Cn} {cm:Bool} {k:Nat} {N:List Str} {sc:Scope} {x:Str} {j j' n:Nat} {ts:List Tg} {keep:List Nat} {sts:List Stmt}
end
end Vl
end
section
namespace Vm
@[simp] def eListRev (a:EX):EX:=fun Γ=>(a Γ).bind fun x=>match x.2 with
 | .lst l=>if flat1 x.1 then .ok (.ow 1,.lst l.reverse) else .bad
 | _=>.bad
def onceL{α:Type}[DecidableEq α](l:List α):List α:=l.foldl (fun a x=>if x∈a then a else a++[x]) []
@[simp] def eLenSet (a:EX):EX:=fun Γ=>(a Γ).bind fun x=>match x.2 with
 | .lst l=>if flat1 x.1 then (match strsOf l with
  | some ws=>if ws.length < 1000 then .ok (.fz,.int (onceL ws).length) else .bad
  | none=>.bad) else .bad
 | _=>.bad
end Vm
end
section
set_option Elab.async false
set_option linter.all false
set_option maxRecDepth 100000
set_option maxHeartbeats 1000000
namespace RT
open PySem PySem.Spec PyProof.Rows
section
variable {prog:Program} {w:World} {A:Around} {E:Value→Shared→Prop} {s:Shared}
end
end RT
namespace L2
open PySem PySem.Spec PyProof.Rows RT
section
variable {X:Cx}
end
end L2
namespace Vl
open PySem L2 Vm PyProof.Rows
section
variable {C:Cn} {cm:Bool} {k:Nat} {N:List Str} {sc:Scope} {a:Expr} {A:EX} {pos p p2 pos2:Pos}
end
end Vl
end
section
set_option Elab.async false
set_option linter.all false
set_option maxRecDepth 100000
set_option maxHeartbeats 4000000
namespace L2
open PySem PySem.Spec PyProof.Rows
section
variable {P:Program} {w:World} {A:Around} {E:Value→Shared→Prop} {s:Shared}
end
section
variable {X:Cx}
end
end L2
end
section
set_option Elab.async false
set_option linter.all false
set_option maxRecDepth 100000
set_option maxHeartbeats 1000000
namespace Vl
open PySem L2 Vm PyProof.Rows
section
variable {C:Cn} {cm:Bool} {k:Nat} {N:List Str} {sc:Scope} {a:Expr} {A:EX} {pos p p2 pos2:Pos}
end
end Vl
end
section
set_option linter.all false
namespace Vm
@[simp] def eLCX (own:List Nat) (it:IX) (pat:Pat) (c:TX) (e:EX):EX:=fun Γ=>(it Γ).bind fun xs =>
 if xs.2.length≤16777216 then (lcGo (wipeE Γ own) pat c e xs.2).bind fun ps=>if ps.length≤16777216 then .ok (.ow 1,.lst ps) else .bad else .bad
end Vm
end
section
set_option Elab.async false
set_option linter.all false
set_option maxRecDepth 100000
set_option maxHeartbeats 1000000
namespace Vl
open PySem L2 Vm PyProof.Rows
section
variable {M:Model} {A:Around} {E:Value→Shared→Prop} {s:Shared} {Z:Obj→Prop} {base:Heap} {env:PySem.Env} {outer l:List PySem.Env} {L C e:Addr}
open HandSPX
end
section
variable {X:Cx}
end
end Vl
end
section
set_option Elab.async false
set_option linter.all false
set_option maxRecDepth 100000
set_option maxHeartbeats 1000000
namespace Vl
open PySem L2 Vm PyProof.Rows
section
variable {C:Cn} {cm:Bool} {k:Nat} {N:List Str} {sc so:Scope} {a b c e tg:Expr} {es:List Expr} {A B:EX} {As:EXs} {T U:TX} {pos p:Pos} {X:Cx} {x:Str}
variable {elt iter:Expr} {ifs:List Expr} {scope:Scope} {own:List (Str×Nat)} {I:IX} {pat:Pat}
variable (C cm k N sc) in
def DEx (e:Expr) (E:EX):Prop:=∃ tb:WX→TE,(∀ X,StaS C cm k N sc X→∀ W,Takes X W→PE X e (tb W)) ∧
 ∀ W σ Γ F0 H0 F H Q,Good C.K F0 H0 Γ σ F H→EOk C W σ F H Q (E Γ)→tb W σ H Q
variable (C cm k N sc) in
def DAx (es:List Expr) (E:EXs):Prop:=∃ tb:WX→TA,(∀ X,StaS C cm k N sc X→∀ W,Takes X W→PA X es (tb W)) ∧
 ∀ W σ Γ F0 H0 F H Q,Good C.K F0 H0 Γ σ F H→AOk C W σ F H Q (E Γ)→tb W σ H Q
end
section
variable {C:Cn} {cm:Bool} {k:Nat} {N:List Str} {sc so:Scope} {a b c e tg:Expr} {es:List Expr} {A B:EX} {As:EXs} {T U:TX} {pos p:Pos} {X:Cx} {x:Str}
end
section
variable {C:Cn} {k:Nat} {N:List Str} {sc:Scope} {tg elt iter:Expr} {ifs:List Expr} {scope:Scope} {own:List (Str×Nat)} {I:IX} {pat:Pat} {A:EX} {T:TX} {pos p:Pos}
end
end Vl
end
section
set_option linter.all false
set_option maxRecDepth 10000
namespace Vm
end Vm
end
section
set_option Elab.async false
set_option linter.all false
set_option maxRecDepth 100000
set_option maxHeartbeats 1000000
namespace Vl
open PySem L2 Vm PyProof.Rows
section
variable {C:Cn} {F0 H0 F H F1 H1:Hp} {Γ:En} {σ:L2.St}
theorem lstAt_of{ks l m:List PV}{q:PV}{j:Nat}(h:lstAtD (ks,l) q=some (j,m)):dIx ks q=some j∧l[j]? = some (.lst m):=by
 unfold lstAtD at h
 cases hj:dIx ks q with
 | none=>simp only [hj] at h; cases h
 | some j' =>
  simp only [hj] at h
  split at h
  ·rename_i m' e3; cases h; exact ⟨rfl,e3⟩
  ·cases h
end
section
variable {C:Cn} {k:Nat} {N:List Str} {sc:Scope} {b1 b2 e tg:Expr} {A B1 B2:EX} {pos p1 p2 p3 p4 apos cpos pos':Pos} {X:Cx} {x:Str} {pat:Pat}
end
section
variable {C:Cn} {cm:Bool} {k:Nat} {N:List Str} {sc:Scope} {b e:Expr} {A B:EX} {pos p1 p2 pos':Pos} {x:Str}
end
end Vl
end
section
set_option Elab.async false
set_option linter.all false
set_option maxRecDepth 100000
set_option maxHeartbeats 1000000
namespace Vl
open PySem L2 Vm PyProof.Rows
section
variable {C:Cn} {cm:Bool} {k:Nat} {N:List Str} {sc so:Scope} {a:Expr} {A:EX} {pos p:Pos}
end
section
variable {C:Cn} {cm:Bool} {k:Nat} {N:List Str} {sc so:Scope} {a b:Expr} {A B:EX} {pos p:Pos}
end
end Vl
end
section
set_option linter.all false
set_option maxRecDepth 10000
namespace Vm
def dTryT(cs:List (Nat×Bool))(i:Nat)(b h:ST):ST:=fun Γ=>match b Γ with
 | .exc c Γ'=>match takesC cs c with
  | some true=>if Nat.ble (i+1) Γ'.length then match h (Γ'.set i (some (.fz,.exo (c+2) []))) with
   | .nx Γ2=>.nx (Γ2.set i none)
   | _=>.bad
   else .bad
  | some false=>.exc c Γ'
  | none=>.bad
 | o=>o
def isEV(tab:List (Nat×Bool))(x:TV):Res TV:=match x with
 | (.fz,.exo (c+2) _)=>match takesC tab c with
  | some b=>.ok (.fz,.bl b)
  | none=>.bad
 | _=>.bad
def eIsE(tab:List (Nat×Bool))(a:EX):EX:=fun Γ=>(a Γ).bind (isEV tab)
def isEsV(tabs:List (List (Nat×Bool)))(x:TV):Res TV:=match x with
 | (.fz,.exo (c+2) _)=>if tabs.all fun t=>(takesC t c).isSome then .ok (.fz,.bl (isCs tabs c)) else .bad
 | _=>.bad
def eIsEs(tabs:List (List (Nat×Bool)))(a:EX):EX:=fun Γ=>(a Γ).bind (isEsV tabs)
end Vm
end
section
set_option Elab.async false
set_option linter.all false
set_option maxRecDepth 100000
set_option maxHeartbeats 1000000
namespace L2
open PySem PySem.Spec PyProof.Rows
section
variable {X:Cx} {pins:List (Addr×Obj)} {σ:St} {H:Hp} {sI s:Shared} {B:Heap}
theorem Inv.suiteT(I:Inv X pins σ H s)(J:Inv X pins σ H sI)(hs:X.stack=X.env :: X.outer)(hf:X.env.frame=some X.env.locals)(nb:∀ b o,sI.heap.get? b=some o→b ∉ frs X.stack→B.get? b=some o){a:Addr}{oe:Obj}{vs:Array Value}(ha:s.heap.get? a=some oe)(hd:oe.data = .fields vs)(na:H a=none)(nL:a ≠ X.env.locals)(nF:a ∉ X.fs)(nB:B.get? a=none) :
  Inv (X.suite a (X.pn++pins)) [] σ (upd H a (Vl.excHO oe)) s:=by
 have pfr:∀ q,q ≠ X.env.locals→q ∉ X.fs→q ∉ frs X.stack:=fun q h1 h2 hm=>by
  rw [hs] at hm
  obtain ⟨e,he,q'⟩:=List.mem_filterMap.mp hm
  rcases List.mem_cons.mp he with rfl | he
  ·rw [hf] at q'; cases q'; exact h1 rfl
  ·exact h2 (List.mem_filterMap.mpr ⟨e,he,q'⟩)
 have out:∀ b o,sI.heap.get? b=some o→b ≠ a:=fun b o e q=>by
  subst q
  have:=nb b o e (pfr b nL nF)
  rw [nB] at this; cases this
 have up:∀ {b:Addr},b ≠ a→upd H a (Vl.excHO oe) b=H b:=fun h=>upd_ne h
 have hb:∀ {b:Addr} {o:HO},H b=some o→b ≠ a:=fun e q=>by rw [q,na] at e; cases e
 refine ⟨I.ok.suite _ _,I.os,I.bare,⟨I.base.keep,I.base.slot,fun b o e n hx=>?_,I.base.there,fun b xs e=>?_,fun b o u e=>?_,fun b ps e=>?_⟩,I.loc,I.cell,?_,fun x c e=>?_,fun p hp=>?_,fun b o e=>?_,I.len⟩
 ·obtain ⟨o',e'⟩:=J.base.there b o e hx
  rw [up (out b o' e')]
  exact I.base.free b o e n hx
 ·have:=I.base.tups b xs e
  rw [up (hb this)]; exact this
 ·have:=I.base.frzs b o u e
  rw [up (hb this)]; exact this
 ·obtain ⟨more,h⟩:=I.base.tbls b ps e
  exact ⟨more,by rw [up (hb h)]; exact h⟩
 ·rw [up (fun z=>nL z.symm)]; exact I.free
 ·obtain ⟨v,hc⟩:=I.cell x c e
  have:c ≠ a:=fun z=>by
   subst z
   obtain ⟨oc,h1,h2⟩:=hc
   rw [ha] at h1; cases h1
   rw [hd] at h2; cases h2
  rw [up this]; exact I.freeC x c e
 ·have hp':p∈X.pn++pins:=by rw [List.append_nil] at hp; exact hp
  obtain ⟨h1,h2,h3,h4,h5⟩:=I.pin p hp'
  obtain ⟨j1,_⟩:=J.pin p hp'
  exact ⟨h1,by rw [up (out _ _ j1)]; exact h2,h3,h4,h5⟩
 ·by_cases q:b=a
  ·subst q
   rw [upd_same] at e
   cases e
   exact ⟨ha,trivial,⟨_,ha⟩,fun _ _ _ _=>trivial⟩
  ·rw [up q] at e
   refine (I.hok b o e).stay (fun _ _ _ h=>h) (fun c h=>?_) (fun c xs h=>?_)
   ·rw [up (hb h)]; exact h
   ·rw [up (hb h)]; exact h
theorem Inv.unsuiteT{a:Addr}{pn':List (Addr×Obj)}(I:Inv (X.suite a (X.pn++pins)) pn' σ H s)(ok:X.Ok):Inv X pins σ H s :=
 ⟨ok,I.os,I.bare,I.base,I.loc,I.cell,I.free,I.freeC,fun p hp=>I.pin p (List.mem_append_left _ hp),I.hok,I.len⟩
def wAsT(K:PySem.W.Frag)(c:Value)(i:Nat)(ts:Addr→Value→Option Addr→TS)(Wout:WX)(D:Ends):WX:=fun cls d σ H =>
 ∃ b,PySem.W.exmOne K cls c=some b∧(b=true→∀ a oe,H a=none→Zc cls d oe→(∃ vs,oe.data = .fields vs)→ts a cls d { nx:=fun σ' H'=>D.nx (σ'.set i none) H',rt:=D.rt,bk:=fun σ' H'=>D.bk (σ'.set i none) H',ct:=fun σ' H'=>D.ct (σ'.set i none) H' } (σ.set i (some (.ref a))) (upd H a (Vl.excHO oe))) ∧
  (b=false→Wout cls d σ H)
end
section
variable {X:Cx} {x n:Str} {c:Value} {i:Nat} {body suite:List Stmt} {b₀:Stmt} {np pos pos':Pos} {tb:WX→TS} {ts:Addr→Value→Option Addr→TS} {Wout:WX}
theorem ps_try_asT(hs:X.stack=X.env :: X.outer)(hf:X.env.frame=some X.env.locals)(hN:X.N.Nodup)(hi:X.N[i]? = some n)(hln:X.env.kindOf n=some .local)(hc:Names X x c)(tk:Takes X Wout)
  (hb:∀ (W:WX) (pn:List (Addr×Obj)) (xe:Value→Shared→Prop),Takes (X.tr pn xe) W→PassesOwn (model X.prog X.w) X.A X.env xe→PSs (X.tr pn xe) body (tb W))
  (hsu:∀ (a:Addr) (cls:Value) (d:Option Addr) (pn:List (Addr×Obj)),PSs (X.suite a pn) (b₀ :: suite) (ts a cls d)) :
  PS X (.Try body [.ExceptHandler (some (.Name x np)) (some n) (b₀ :: suite) pos'] [] [] pos) (fun D σ H=>tb (wAsT X.K c i ts Wout D) D σ H):=by
 refine ⟨fun pins s σ H D I h=>?_⟩
 have ok:=I.ok
 have hfr:X.A.frames=some (X.env :: X.outer):=by rw [ok.frames,hs]
 have hloc:Loc X.env.scope n:=.inl hln
 refine wpAny_Try_except ?_
 refine wpAny_mono ((hb (wAsT X.K c i ts Wout D) (X.pn++pins) (fun e s₁=>wpAny (model X.prog X.w) X.A (noteFrame e X.env) (fun _ s₂=>wpAny (model X.prog X.w) X.A (setFlight e none) (fun _ s₃ =>
  wpAny (model X.prog X.w) X.A (handleBy e X.env [.ExceptHandler (some (.Name x np)) (some n) (b₀ :: suite) pos']) (SP X pins D) X.xe s₃) X.xe s₂) X.xe s₁) (fun u s' xx=>?_) PassesOwn.looking).run [] s σ H D (I.toTry _) h) (fun f s1 hsp=>?_) (fun e s1 he=>he)
 ·
  obtain ⟨a,B,sI,pins',σ',H',cls,d,rfl,J',nb,up,sky,na,os,ag,b,hb1,hyes,hno⟩:=xx
  have J:Inv X pins σ' H' sI:=J'.ofTry ok
  have sky':Sky B (X.env :: X.outer) a (Zc cls d) X.env.locals s'.heap:=by rw [← hs]; exact sky
  show wpAny (model X.prog X.w) X.A (noteFrame (.ref a) X.env) _ _ _
  refine Sky.land Zc.steady hfr hf sky' fun h3 fl3 up3=>?_
  have J3:Inv X pins σ' H' { s' with heap:=h3 }:=J.landed nb fl3.1 (up.trans up3) os ag
  obtain ⟨oe3,vs3,he3,hz3,hd3⟩:=fl3.there
  have notFr:∀ {h:Heap} {o:Obj} {vs:Array Value},h.FunFrames B (X.env :: X.outer)→h.get? a=some o→o.data = .fields vs→a ∉ frs (X.env :: X.outer):=fun {h o vs} ff e dd hm=>by
   obtain ⟨_,o',e',hnf⟩:=ff.mem hm
   rw [e] at e'; cases e'
   exact hnf _ dd
  have nfr:=notFr fl3.2.2.1 he3 hd3
  have nL:a ≠ X.env.locals:=fun z=>nfr (List.mem_filterMap.mpr ⟨X.env,List.mem_cons_self,by rw [hf,z]⟩)
  have nF:a ∉ X.fs:=fun hm=>by
   obtain ⟨e,he,q⟩:=List.mem_filterMap.mp hm
   exact nfr (List.mem_filterMap.mpr ⟨e,List.mem_cons_of_mem _ he,q⟩)
  have S3:=J3.suite he3 hd3 na nL nF
  refine wpAny_handleBy_cons (codeAny_handlers_test ?_) (by intro q; cases q)
  have LT:PySem.W.Looks (model X.prog X.w) h3 (typeOf (.ref a)) cls:=fun A Q E s k q=>wpAny_typeOf_ref (k _ _ he3) (by rw [hz3.1]; exact q)
  have LM:=PySem.W.exm_one (M:=model X.prog X.w) (J3.kIn) LT hb1
  have test:∀ {Q:Value→Shared→Prop} {E:Value→Shared→Prop},Q c { s' with heap:=h3 }→wpAny (model X.prog X.w) (X.A.mark (some (.ref a))) (eval (.Name x np) X.env) Q E { s' with heap:=h3 }:=fun {Q E} q=>by
   obtain ⟨hg,hdbg,hm | ⟨hm,hv,hnn⟩⟩:=hc
   ·exact ld_glob (X:=X.suite a ((a,oe3) :: (X.pn++pins))) S3 hg hm q hdbg
   ·exact ld_blt (X:=X.suite a ((a,oe3) :: (X.pn++pins))) S3 hg hm hv q hnn hdbg
  refine test (LM.here ?_)
  cases b with
  | true =>
   refine codeAny_handlers_suite_as ?_
   refine HandSPX.lands_againZ fl3 fun h4 fl4 up4=>?_
   have J4:Inv X pins σ' H' { s' with heap:=h4 }:=J.landed nb fl4.1 ((up.trans up3).trans up4) os ag
   obtain ⟨oe4,vs4,he4,hz4,hd4⟩:=fl4.there
   have S4:=J4.suiteT (B:=B) J hs hf nb he4 hd4 na nL nF fl4.2.1
   refine store_ok (X:=X.suite a (X.pn++pins)) (v:=.ref a) S4 hN hi hloc rfl (fun s5 S5=>?_) (.inr hln)
   refine wpAny_mono ((hsu a cls d (X.pn++pins)).run [] s5 _ _ _ S5 (hyes rfl a oe4 na hz4 ⟨_,hd4⟩)) (fun f s6 hsp=>?_) (fun _ _ z=>False.elim z)
   have end_:∀ {σ6:St} {H6:Hp} {Q:Shared→Prop},Inv (X.suite a (X.pn++pins)) [] σ6 H6 s6→(∀ s7,Inv X pins (σ6.set i none) H6 s7→Q s7) →
     wpAny (model X.prog X.w) X.A (do bindName X.env n .none; unbindBehindTheSuite X.env n pos') (fun _ s7=>Q s7) X.xe s6:=fun {σ6 H6 Q} S6 hq=>gone_ok (S6.unsuiteT ok) hN hi hln hq
   cases f with
   | next =>
    obtain ⟨σ6,H6,S6,q6⟩:=hsp
    exact end_ S6 fun s7 J7=>⟨_,_,J7,q6⟩
   | brk =>
    obtain ⟨σ6,H6,S6,q6⟩:=hsp
    exact end_ S6 fun s7 J7=>⟨_,_,J7,q6⟩
   | cont =>
    obtain ⟨σ6,H6,S6,q6⟩:=hsp
    exact end_ S6 fun s7 J7=>⟨_,_,J7,q6⟩
   | ret u =>
    obtain ⟨v6,σ6,H6,S6,r6,q6⟩:=hsp
    exact end_ S6 fun s7 J7=>⟨_,_,_,J7,r6,q6⟩
  | false =>
   show wpAny _ X.A (handleBy (.ref a) X.env []) _ _ _
   refine wpAny_handleBy_nil ?_
   obtain ⟨k1,k2,k3,oe,vs,T,oT,ts',he,hz,hd,h1,hr⟩:=id fl3
   unfold PySem.passOn
   refine wpAny_bind (wpAny_field he hd h1 ?_)
   rw [if_neg (show ¬ ((Value.ref T == Value.none)=true) from by simp)]
   have fin:wpAny (model X.prog X.w) X.A (setFlight (.ref a) X.env.frame) (fun _ s4=>wpAny (model X.prog X.w) X.A (throw (.ref a):Sem Flow) (SP X pins D) X.xe s4) X.xe { s' with heap:=h3 }:=by
    rw [hf]
    refine HandSPX.setFlight_upZ fl3 fun h4 hh4 up4=>wpAny_throw (tk _ _ ?_)
    exact ⟨a,B,sI,pins,σ',H',cls,d,rfl,J,nb,(up.trans up3).trans up4,.inr (.inr (by rw [hs]; exact hh4)),na,os,ag,hno rfl⟩
   first
    | exact wpAny_bind (wpAny_pure (wpAny_bind fin))
    | exact wpAny_bind fin
 ·cases f with
  | next =>
   obtain ⟨σ',H',J',q⟩:=hsp
   exact wpAny_execs_nil ⟨σ',H',J'.ofTry ok,q⟩
  | brk =>
   obtain ⟨σ',H',J',q⟩:=hsp
   exact ⟨σ',H',J'.ofTry ok,q⟩
  | cont =>
   obtain ⟨σ',H',J',q⟩:=hsp
   exact ⟨σ',H',J'.ofTry ok,q⟩
  | ret u =>
   obtain ⟨v,σ',H',J',r,q⟩:=hsp
   exact ⟨v,σ',H',J'.ofTry ok,r,q⟩
end
end L2
namespace Vl
open PySem L2 Vm PyProof.Rows
section
variable {C:Cn} {cm:Bool} {k i c:Nat} {N:List Str} {sc:Scope} {pos np pos' p p1 p2:Pos} {X:Cx} {d:ST} {a b e:Expr} {es:List Expr} {A B:EX}
theorem ext_exc{F H:Hp}{a:Addr}{oe:Obj}(fh:Same F H)(tp:Tups F H)(na:H a=none):Ext F H (upd F a (excHO oe)) (upd H a (excHO oe)):=by
 have fa:F a=none:=fh.free na
 have hb:∀ {G:Hp} {b:Addr} {o:HO},G a=none→G b=some o→b ≠ a:=fun g e q=>by rw [q,g] at e; cases e
 refine ⟨fun b o z=>by rw [upd_ne (hb fa z)]; exact z,fun b o z=>by rw [upd_ne (hb na z)]; exact z,fun b o z=>?_,fun b xs z=>?_,fun b z=>?_⟩
 ·by_cases q:b=a
  ·subst q; rw [upd_same] at z ⊢; exact z
  ·rw [upd_ne q] at z ⊢; exact fh _ _ z
 ·by_cases q:b=a
  ·subst q
   rw [upd_same] at z
   cases z
  ·rw [upd_ne q] at z ⊢; exact tp _ _ z
 ·by_cases q:b=a
  ·subst q; exact .inr na
  ·rw [upd_ne q] at z; exact .inl z
theorem inst_of{oe:Obj}{D a:Addr}{s:Shared}(hget:s.heap.get? a=some oe)(h1:oe.cls = .ref D)(h2:oe.dict=none)(hf:∃ vs,oe.data = .fields vs):PySem.W.InstAt s.heap a oe D none:=by
 obtain ⟨vs,hv⟩:=hf
 obtain ⟨oc,od,oda,osl⟩:=oe
 dsimp only at h1 h2 hv
 subst h1 h2 hv
 exact ⟨hget,rfl,rfl,trivial⟩
def rIsR(K:PySem.W.Frag):List V→Hp→VK→Prop:=fun xs H Q=>∃ (a D:Addr) (oe:Obj) (cv:V) (u:Value) (b:Bool),xs=[.ref a,cv]∧H a=some (excHO oe)∧oe.cls = .ref D∧oe.dict=none∧(∃ vs,oe.data = .fields vs)∧ExcC K D∧(∀ u',RelV cv u'→u'=u)∧PySem.W.kitOne K (.ref D) u=some b∧Q (.bl b) H
theorem call_isR:CallR X (.builtin "isinstance") (rIsR X.K):=by
 intro pins s σ H xs us Q I r h
 obtain ⟨a,D,oe,cv,c,b,rfl,hH,h1,h2,hf,E,hcv,e,q⟩:=h
 cases r with
 | cons rx rr =>
  cases rr with
  | cons rt rr =>
   cases rr
   cases rx
   have ec:=hcv _ rt
   subst ec
   have hget:s.heap.get? a=some oe:=(show ObjOk X.prog X.w H s.heap a (excHO oe) from I.hok a _ hH).1
   exact PySem.W.kia_one (PySem.W.handS_kitx_exc E.hg E.hk E.hs E.hd E.ha E.hn E.ht E.hm) I.kIn (inst_of hget h1 h2 hf) e (fun z=>nomatch z) fun tk=>⟨.bl b,H,I.kept (t':=tk) fun _ _ z=>z,rfl,q⟩
theorem de_isE {y:Str} {tab:List (Nat×Bool)} (ha:DE C cm k N sc a A) (iq:Iq C y tab) (mx:C.mg "isinstance" = none) (hg:sc.names.lookup ("isinstance":Str)=some .globalImplicit:=by rfl) (hg2:sc.names.lookup y=some .globalImplicit:=by rfl) (hd2:(y == ("__debug__":Str))=false:=by decide)
  (hst:∀ env:PySem.Env,starEach [a,.Name y p2] env=(false,eval a env) :: starEach [.Name y p2] env:=by intro _; rfl) (hst2:∀ env:PySem.Env,starEach [.Name y p2] env=(false,eval (.Name y p2) env) :: starEach [] env:=by intro _; rfl) :
  DE C cm k N sc (.Call (.Name "isinstance" p) [a,.Name y p2] [] pos) (eIsE tab A):=by
 obtain ⟨ta,pa,qa⟩:=ha
 obtain ⟨⟨v,u,hm,hr,hinj,hk⟩⟩:=iq
 refine ⟨fun W=>tCB (rIsR C.K) (tCons (ta W) (tCons (tC v) tNil)),fun X S W T=>?_,fun W σ Γ F0 H0 F H Q g h=>qa W σ Γ F0 H0 F H _ g (EOk.bind h fun x w F1 H1 ex e1 r1 h1=>?_)⟩
 ·have e:=S.K
  rw [← e]
  exact pe_callB call_isR (S.gl hg) (by rw [S.mg]; exact mx) (by decide +kernel) (pa_cons (pa X S W T) (pa_cons (pe_nm (S.gl hg2) (by rw [S.mg]; exact hm) hr hd2) pa_nil (hst2 _)) (hst _)) (by decide) (by decide) (hst _) rfl
 ·unfold isEV at h1
  split at h1
  ·rename_i c l
   have rr:=r1.ofFz
   unfold Rep at rr
   obtain ⟨ad,oe,rfl,hF,hc,hd,hf⟩:=rr
   cases ht:takesC tab c with
   | none=>rw [ht] at h1; exact h1.elim
   | some b =>
    rw [ht] at h1
    obtain ⟨D,hD,hE,hkit⟩:=hk c b ht
    exact ⟨ad,D,oe,v,u,b,rfl,e1.fh _ _ hF,hc.trans hD,hd,hf,hE,hinj,hkit,h1 _ F1 H1 e1 (.fz rep_bl)⟩
  ·exact h1.elim
def rIsRs(K:PySem.W.Frag):List V→Hp→VK→Prop:=fun xs H Q=>∃ (a D q:Addr) (oe:Obj) (vs:List V) (its:List Value) (b:Bool),xs=[.ref a,.ref q]∧H a=some (excHO oe)∧oe.cls = .ref D∧oe.dict=none∧(∃ vs,oe.data = .fields vs)∧ExcC K D∧TupAt H q vs∧(∀ us,Vals vs us→us=its)∧PySem.W.kitAny K (.ref D) its=some b∧Q (.bl b) H
theorem call_isRs:CallR X (.builtin "isinstance") (rIsRs X.K):=by
 intro pins s σ H xs us Q I r h
 obtain ⟨a,D,tp,oe,vs,its,b,rfl,hH,h1,h2,hf,E,htp,hits,e,q⟩:=h
 cases r with
 | cons rx rr =>
  cases rr with
  | cons rt rr =>
   cases rr
   cases rx
   cases rt
   obtain ⟨its',r',pl,_⟩:=I.tuple ((TupAt.sq htp))
   have ei:=hits _ r'
   subst ei
   have hget:s.heap.get? a=some oe:=(show ObjOk X.prog X.w H s.heap a (excHO oe) from I.hok a _ hH).1
   obtain ⟨o,ho,hc,n,hd⟩:=pl
   have ho':s.heap.get? tp=some ⟨.type "tuple",o.dict,.seq its'.toArray n,o.slots⟩:=by
    rw [ho]
    obtain ⟨oc,od,oda,osl⟩:=o
    dsimp only at hc hd
    subst hc hd
    rfl
   exact PySem.W.kia_tup (PySem.W.handS_kitx_exc E.hg E.hk E.hs E.hd E.ha E.hn E.ht E.hm) I.kIn (inst_of hget h1 h2 hf) ho' e (fun z=>nomatch z) fun tk=>⟨.bl b,H,I.kept (t':=tk) fun _ _ z=>z,rfl,q⟩
variable (C k N sc cm) in
def TCA (es:List Expr) (tabs:List (List (Nat×Bool))):Prop:=∃ (vs:List V) (us:List Value),(∀ X,Sta C cm k N sc X→PA X es (tCl vs))∧vs.length=tabs.length∧(∀ us',Vals vs us'→us'=us) ∧
 (∀ c,(tabs.all fun t=>(takesC t c).isSome)=true→(tabs=[] ∨ ∃ D,C.xc c = .ref D∧ExcC C.K D)∧∀ D,C.xc c = .ref D→PySem.W.kitAny C.K (.ref D) us=some (isCs tabs c))
theorem tca_nil:TCA C cm k N sc [] []:=⟨[],[],fun _ _=>pa_nil,rfl,fun us' h=>by cases h; rfl,fun c _=>⟨.inl rfl,fun D _=>rfl⟩⟩
theorem tca_cons {y:Str} {tab:List (Nat×Bool)} {tabs:List (List (Nat×Bool))} (iq:Iq C y tab) (h:TCA C cm k N sc es tabs) (hg2:sc.names.lookup y=some .globalImplicit:=by rfl) (hd2:(y == ("__debug__":Str))=false:=by decide)
  (hst2:∀ env:PySem.Env,starEach (.Name y p2 :: es) env=(false,eval (.Name y p2) env) :: starEach es env:=by intro _; rfl):TCA C cm k N sc (.Name y p2 :: es) (tab :: tabs):=by
 obtain ⟨⟨v,u,hm,hr,hinj,hk⟩⟩:=iq
 obtain ⟨vs,us,h1,h2,h3,h4⟩:=h
 refine ⟨v :: vs,u :: us,fun X S=>pa_cons (pe_nm (S.gl hg2) (by rw [S.mg]; exact hm) hr hd2) (h1 X S) (hst2 _),by simp [h2],fun us' h=>?_,fun c hc=>?_⟩
 ·cases h with
  | cons a b=>rw [hinj _ a,h3 _ b]
 ·rw [List.all_cons,Bool.and_eq_true] at hc
  obtain ⟨b,hb⟩:=Option.isSome_iff_exists.mp hc.1
  obtain ⟨D,hD,hE,hkit⟩:=hk c b hb
  refine ⟨.inr ⟨D,hD,hE⟩,fun D' hD'=>?_⟩
  rw [hD] at hD'
  cases hD'
  have h4':=(h4 c hc.2).2 D hD
  have e1:=isC_of hb
  unfold PySem.W.kitAny
  rw [hkit]
  unfold isCs
  rw [List.any_cons,e1]
  cases b with
  | true=>rfl
  | false=>rw [Bool.false_or]; exact h4'
theorem de_isEs {tabs:List (List (Nat×Bool))} {x1:Nat} (ha:DE C cm k N sc a A) (tc:TCA C cm k N sc es tabs) (mx:C.mg "isinstance" = none) (hne:tabs.isEmpty=false:=by rfl) (hl:tabs.length≤16777216:=by decide) (hg:sc.names.lookup ("isinstance":Str)=some .globalImplicit:=by rfl)
  (hst:∀ env:PySem.Env,starEach [a,.Tuple es x1 p2] env=(false,eval a env) :: starEach [.Tuple es x1 p2] env:=by intro _; rfl) (hst2:∀ env:PySem.Env,starEach [.Tuple es x1 p2] env=(false,eval (.Tuple es x1 p2) env) :: starEach [] env:=by intro _; rfl) :
  DE C cm k N sc (.Call (.Name "isinstance" p) [a,.Tuple es x1 p2] [] pos) (eIsEs tabs A):=by
 obtain ⟨ta,pa,qa⟩:=ha
 obtain ⟨vs,us,t1,t2,t3,t4⟩:=tc
 refine ⟨fun W=>tCB (rIsRs C.K) (tCons (ta W) (tCons (tTupD (tCl vs)) tNil)),fun X S W T=>?_,fun W σ Γ F0 H0 F H Q g h=>qa W σ Γ F0 H0 F H _ g (EOk.bind h fun x w F1 H1 ex e1 r1 h1=>?_)⟩
 ·have e:=S.K
  rw [← e]
  exact pe_callB call_isRs (S.gl hg) (by rw [S.mg]; exact mx) (by decide +kernel) (pa_cons (pa X S W T) (pa_cons (pe_tupD (t1 X S)) pa_nil (hst2 _)) (hst _)) (by decide) (by decide) (hst _) rfl
 ·unfold isEsV at h1
  split at h1
  ·rename_i c l
   have rr:=r1.ofFz
   unfold Rep at rr
   obtain ⟨ad,oe,rfl,hF,hc,hd,hf⟩:=rr
   by_cases ht:(tabs.all fun t=>(takesC t c).isSome)=true
   ·rw [if_pos ht] at h1
    obtain ⟨q1,q2⟩:=t4 c ht
    rcases q1 with q1 | ⟨D,hD,hE⟩
    ·rw [q1] at hne; cases hne
    show tCl vs σ H1 _
    refine tCl_run vs ⟨by rw [t2,← szL_eq]; exact hl,fun q o hq hdo=>?_⟩
    have hne':ad ≠ q:=fun z=>by subst z; have:=e1.fh _ _ hF; rw [hq] at this; cases this
    refine ⟨ad,D,q,oe,vs,us,isCs tabs c,rfl,by rw [upd_ne hne']; exact e1.fh _ _ hF,hc.trans hD,hd,hf,hE,.new hdo,t3,q2 D hD,?_⟩
    exact h1 _ (upd F1 q (tq (o,vs))) _ (e1.trans (Ext.tup e1.fh e1.tp hq)) (.fz rep_bl)
   ·rw [if_neg ht] at h1; exact h1.elim
  ·exact h1.elim
end
end Vl
namespace Vl
open PySem L2 Vm PyProof.Rows
section
variable {C:Cn} {cm:Bool} {k:Nat} {N:List Str} {sc:Scope} {o:Expr} {A:EX} {apos pos:Pos}
end
end Vl
end
section
set_option Elab.async false
set_option linter.all false
set_option maxRecDepth 100000
set_option maxHeartbeats 1000000
namespace Vl
open PySem L2 Vm PyProof.Rows
section
variable {C:Cn} {cm:Bool} {k:Nat} {N:List Str} {sc so:Scope} {a b c e o j tg:Expr} {es:List Expr} {A B J:EX} {As:EXs} {T U:TX} {pos p tpos apos cpos p1 p2:Pos} {X:Cx} {x:Str} {st:Stmt} {sts:List Stmt} {d d':ST} {keep:List Nat}
variable {F0 H0 F H F1 H1:Hp} {Γ:En} {σ:L2.St} {W:WX} {D:Ends}
theorem dx_setLC(i:Nat){x:Str}{py:Pos}{elt iter:Expr}{ifs:List Expr}{scope:Scope}{own:List (Str×Nat)}{lpos:Pos}{I:IX}{pat:Pat}(ow:Bool)(hkp:i ∉ keep)(hi:DI C true k N sc tg iter I)(ok:blkC N sc scope own=true)(hg:DG C true k N (relS scope sc) scope tg pat)(ht:DF C true k N (relS scope sc) ifs T)(he:DE C true k N (relS scope sc) elt A)
  (hN:N[i]? = some x:=by rfl)(hyl:sc.names.lookup x=some .local:=by rfl)(hk:sc.kind = .function:=by rfl)(hl:(py.line == lpos.line)=true:=by rfl)(ha:(scope.names.any fun (n,k)=>n == x && (k == .local || k == .cell))=false:=by decide +kernel)
  (hs:∀ (env:PySem.Env) x,foldedSetIterable iter env x=pure x:=by intro _ _; rfl)(hsl:∀ i∈pat.slots,i∈own.map (·.2):=by decide):DX keep C true k N sc (.Assign [.Name x py] (.ListComp elt [⟨tg,iter,ifs,0⟩] scope lpos) pos) ((if ow then dSetO else dSet) i (eLC (own.map (·.2)) I pat T A)):=by
 obtain ⟨ti,pi,qi⟩:=hi
 obtain ⟨g,pg,qg⟩:=hg
 obtain ⟨tt,pt,qt⟩:=ht
 obtain ⟨te,pe,qe⟩:=he
 refine ⟨fun W=>tAsg (tLc (ti W) g (tt fun _ _ _ _=>False) (te fun _ _ _ _=>False) (own.map (·.2))) (gName i),fun X S W Tk=>?_,fun W D σ Γ F0 H0 F H gd h=>?_⟩
 ·exact ps_setLc (S.c rfl) (by rw [S.n]; exact S.nd) (by rw [S.n]; exact hN) (by rw [S.s]; exact hyl) (sw_true (by rw [S.s]; exact hk) (by rw [S.s]; exact hyl) hl ha) (pi X S.toSta W Tk) (blkOk_by (by rw [S.n,S.s]; exact ok)) (fun s H Ca cl fp=>pg _ (sta_blk S.toSta) req_blk) (fun s H Ca cl fp=>pt _ (sta_blk S.toSta) _ takesF) (fun s H Ca cl fp=>pe _ (sta_blk S.toSta) _ takesF) (hs _)
 ·show tLc _ _ _ _ _ σ H _
  cases ow with
  | true =>
   refine lc_reads gd.toGood (fun R=>qi W σ Γ F0 H0 F H R gd.toGood) qg (qt _) (qe _) hsl (OutX.bind gd h fun x v F1 H1 ex e1 r1 h1=>?_)
   obtain ⟨t,q⟩:=x
   cases t with
   | ow d=>exact h1 _ F1 H1 (gd.setO i e1 r1) (Kp.set hkp)
   | _=>exact h1.elim
  | false =>
   refine lc_reads gd.toGood (fun R=>qi W σ Γ F0 H0 F H R gd.toGood) qg (qt _) (qe _) hsl (OutX.bind gd h fun x v F1 H1 ex e1 r1 h1=>?_)
   cases hp:putV x with
   | ok p =>
    rw [hp,after_ok] at h1
    obtain ⟨F2,e2,r2⟩:=r1.put e1 hp
    exact h1 _ F2 H1 ((gd.next e2).setF i r2) (Kp.set hkp)
   | exc c=>exact (put_noexc hp).elim
   | bad=>rw [hp] at h1; exact h1.elim
end
end Vl
end
section
set_option linter.all false
set_option maxRecDepth 10000
namespace Vm
end Vm
namespace Vm
end Vm
end
section
set_option Elab.async false
set_option linter.all false
set_option maxRecDepth 100000
set_option maxHeartbeats 1000000
namespace Vl
open PySem L2 Vm PyProof.Rows
section
variable {K:KK} {F H F' H':Hp}
theorem ownl_setO{Q:List Addr→PV→V→Prop}{f:List Addr}{p:PV}{u:V}(q:Q f p u):∀ {fs:List (List Addr)} {ps:List PV} {vs:List V} {n:Nat},OwnL Q fs ps vs→OwnL Q (fs.set n f) (ps.set n p) (vs.set n u)
 | [],[],[],n,h=>h
 | g :: fs,p' :: ps,v :: vs,0,h=>⟨q,h.2⟩
 | g :: fs,p' :: ps,v :: vs,n+1,h=>⟨h.1,ownl_setO q (n:=n) h.2⟩
 | [],[],_ :: _,_,h=>h.elim
 | [],_ :: _,_,_,h=>h.elim
 | _ :: _,[],_,_,h=>h.elim
 | _ :: _,_ :: _,[],_,h=>h.elim
theorem set_flat_sub{f:List Addr}:∀ {fs:List (List Addr)} {n:Nat} {a:Addr},a∈(fs.set n f).flatten→a∈fs.flatten ∨ a∈f
 | [],n,a,h=>by simp at h
 | g :: fs,0,a,h=>by
  rw [List.set_cons_zero,List.flatten_cons] at h
  rcases List.mem_append.mp h with q | q
  ·exact .inr q
  ·exact .inl (by rw [List.flatten_cons]; exact List.mem_append_right _ q)
 | g :: fs,n+1,a,h=>by
  rw [List.set_cons_succ,List.flatten_cons] at h
  rcases List.mem_append.mp h with q | q
  ·exact .inl (by rw [List.flatten_cons]; exact List.mem_append_left _ q)
  ·rcases set_flat_sub q with w | w
   ·exact .inl (by rw [List.flatten_cons]; exact List.mem_append_right _ w)
   ·exact .inr w
theorem set_flat_nd{f:List Addr}(hf:f.Nodup):∀ {fs:List (List Addr)} {n:Nat},fs.flatten.Nodup→(∀ a∈f,a ∉ fs.flatten)→(fs.set n f).flatten.Nodup
 | [],n,h,_=>h
 | g :: fs,0,h,hd=>by
  rw [List.flatten_cons] at h hd
  rw [List.set_cons_zero,List.flatten_cons]
  exact List.nodup_append.mpr ⟨hf,(List.nodup_append.mp h).2.1,fun a ha b hb e=>hd a ha (List.mem_append_right _ (e ▸ hb))⟩
 | g :: fs,n+1,h,hd=>by
  rw [List.flatten_cons] at h hd
  obtain ⟨n1,n2,n3⟩:=List.nodup_append.mp h
  rw [List.set_cons_succ,List.flatten_cons]
  refine List.nodup_append.mpr ⟨n1,set_flat_nd hf n2 fun a ha q=>hd a ha (List.mem_append_right _ q),fun a ha b hb e=>?_⟩
  rcases set_flat_sub hb with w | w
  ·exact n3 a ha b w e
  ·exact hd b w (List.mem_append_left _ (e ▸ ha))
end
section
variable {C:Cn} {cm:Bool} {k:Nat} {N:List Str} {sc:Scope} {b e:Expr} {A B:EX} {pos p1:Pos} {X:Cx} {x:Str} {keep:List Nat}
end
end Vl
end
section
set_option Elab.async false
set_option linter.all false
set_option maxRecDepth 100000
set_option maxHeartbeats 1000000
namespace Vl
open PySem L2 Vm PyProof.Rows
section
variable {C:Cn} {cm:Bool} {k:Nat} {N:List Str} {sc:Scope} {es:List Expr} {As:EXs} {pos p1:Pos}
theorem ownl_flatU{K:KK}{F H:Hp}:∀ {ps:List PV} {vs:List V},RepL K F ps vs→(ps.all fun p=>!boxed p)=true→OwnL (Own K F H 1) (ps.map fun _=>[]) ps vs
 | [],vs,h,_=>by unfold RepL at h; subst h; exact trivial
 | p :: ps,vs,h,hb=>by
  unfold RepL at h
  obtain ⟨v,r,rfl,h1,h2⟩:=h
  rw [List.all_cons,Bool.and_eq_true] at hb
  exact ⟨.inr ⟨rfl,by simpa using hb.1,h1⟩,ownl_flatU h2 hb.2⟩
end
end Vl
end
section
set_option linter.all false
set_option maxHeartbeats 1000000
namespace Vm
def eCount(a b:EX):EX:=fun Γ=>(a Γ).bind fun x=>match x.2 with
 | .lst l=>(b Γ).bind fun y=>match shp 50 y.2 && shpL 50 l with
  | true=>.ok (.fz,.int (l.countP fun z=>eqv z y.2))
  | false=>.bad
 | _=>.bad
end Vm
end
section
set_option Elab.async false
set_option linter.all false
set_option maxRecDepth 100000
set_option maxHeartbeats 1000000
namespace L2
open PySem PySem.Spec PyProof.Rows
section
variable {X:Cx}
def rCountD(K:PySem.W.Frag):V→List V→Hp→VK→Prop:=fun x xs H Q=>∃ (a:Addr) (y:V) (d:PyData) (ds:List PyData),x=V.ref a∧xs=[y]∧Dp K H (V.ref a) (.list ds)∧Dp K H y d ∧
 SeqAt.shaped (.list ds)=true∧SeqAt.shaped d=true∧Q (.int ((ds.countP fun z=>PyData.eqv z d:Nat):Int)) H
theorem mt_countD(hu:X.A.units+65 < cLine):MtR X "list.count" (rCountD X.K):=by
 intro pins s σ H x xs v us Q I rx rxs h
 obtain ⟨a,y,d,ds,rfl,rfl,hl,hy,sl,sd,q⟩:=h
 cases rx
 cases rxs with
 | cons ry rt =>
  rename_i uy ut
  cases rt
  obtain ⟨bs,r1⟩:=Dp.reads I d y uy hy ry
  have hxs:PyData.canLayAll0 ds=true:=SeqAt.canLay_of_shaped sl
  have hroom:X.A.units+1+min (PyData.depthAll ds) d.depth < cLine:=room_in_shaped sd hu
  cases hl with
  | lst hs ha =>
   obtain ⟨its,rv,⟨⟨cls,dd,data,sls⟩,n,ho,hc,hdn,hdt⟩,hlen⟩:=I.list hs
   simp only at hc hdt
   subst hc hdt
   obtain ⟨as,h4⟩:=Dp.readsAll I ds _ its ha rv
   have hmap:its.map (SeqAt.readOf s.heap)=ds:=SeqAt.readsAll_map ds its as hxs h4
   have hcnt:its.toArray.toList.countP (fun u=>PyData.eqv (SeqAt.readOf s.heap u) d)=ds.countP fun z=>PyData.eqv z d:=by
    rw [← hmap,List.countP_map]
    rfl
   refine call_meets PySem.F.slot_list_count ⟨_,ho,rfl⟩ PySem.F.entry_list_count (PySem.F.args_list_count_2 _ _)
    (SeqAt.list_countAt a its.toArray n dd sls uy (fun u=>PyData.eqv (SeqAt.readOf s.heap u) d)) ⟨ho,SeqAt.items_eqAt (vs:=its.toArray) (show ReadsAll s.heap its.toArray.toList ds as from h4) r1 hxs (SeqAt.canLay_of_shaped sd) hroom,?_⟩
   rw [hcnt]
   exact ⟨.int _,H,I.tok _,⟨_,rfl⟩,q⟩
def tCntQ(K:PySem.W.Frag)(to:TE)(t:TA):TE:=fun σ H Q=>to σ H fun x H1=>tyV K "list" x H1∧t σ H1 fun xs H2=>rCountD K x xs H2 Q
theorem pe_cntQ {o e:Expr} {es:List Expr} {to:TE} {t:TA} {apos cpos:Pos} (hu:X.A.units+65 < cLine) (ho:PE X o to) (ha:PA X (e :: es) t)
  (hbase:attributeBase o "count" X.env (eval o X.env)=eval o X.env:=by rfl)
  (hfew:((backTo cpos (starEach (e :: es) X.env)).all (fun x=>!x.1) && (backToKw cpos (keywordEach [] X.env)).all (fun x=>x.1.isSome)
   && decide ((e :: es).length+([]:List Keyword).length+(if ([]:List Keyword).isEmpty then 0 else 1) < 30))=true:=by rfl)
  (hline:(apos.endLine == cpos.line)=true:=by rfl) (hs:starEach (e :: es) X.env=(false,eval e X.env) :: starEach es X.env:=by rfl) (hplain:(backTo cpos (starEach es X.env)).any (·.1)=false:=by rfl) :
  PE X (.Call (.Attribute o "count" apos) (e :: es) [] cpos) (tCntQ X.K to t):=by
 refine ⟨fun pins s σ H Q I h=>?_⟩
 refine wpAny_Call_method_late hbase hfew hline rfl (thn (ho.run pins s σ H _ I h) fun v s1 ⟨x,H1,I1,r1,ty,q1⟩=>?_)
 obtain ⟨h1,h2⟩:=tyV_is I1 r1 ty
 refine ⟨"list",_,PySem.F.plainAttrs_list,PySem.F.slot_list_count,PySem.F.type_list_count,h1,h2,?_⟩
 have hA:=ha.run cpos pins s1 σ H1 _ I1 q1
 rw [hs] at hA ⊢
 refine Calls.callWith_builtin (by show (false || (backTo cpos (starEach es X.env)).any (·.1))=false; rw [hplain] <;> rfl) (Calls.evalArgs_plain ?_)
 exact thn hA fun us s2 ⟨vs,H2,I2,r2,q2⟩=>mt_countD hu pins s2 σ H2 x vs v us Q I2 r1 r2 q2
structure FnC (P:Program) (w:World) (K:PySem.W.Frag) (mg:Str→Option Value) (base:Heap) (CX:CXT) (k:Nat) (f:Addr) (fd:FuncData) (ps:List Str) (sp:Sp):Prop where
 len:∀ vs H Q E,sp vs H Q E→vs.length=ps.length
 run:∀ (A:Around) (outer:List Env) (s:Shared) (H:Hp) (args:Args) (us:List Value) (vs:List V) (Q:VK) (E:XK),Vl.RmH k A→Env0 P w K mg base A outer s H→BindsTo s fd args (ps.zip us)→Vals vs us→sp vs H Q E →
  codeAny (model P w) A (.call (.ref f) args) (CR CX outer P w H s Q E) s
def cxC(CX:CXT)(P:Program)(w:World)(K:PySem.W.Frag)(mg:Str→Option Value)(base:Heap)(N:List Str)(qual:Str)(scope:Scope)(f:Addr)(cd:Value)(A:Around)(outer:List Env)(s:Shared)(H:Hp)(E:XK):Cx :=
 { cxOf CX P w K mg base N qual scope f cd A outer s H E with calm:=false }
theorem inv_startC{CX:CXT}{P:Program}{w:World}{K:PySem.W.Frag}{mg:Str→Option Value}{base:Heap}{N ps:List Str}{qual:Str}{scope:Scope}{f:Addr}{cd:Value}{A:Around}{outer:List Env}{s s1:Shared}{H:Hp}{E:XK}{us:List Value}{vs:List V}
  (S:FnScope N ps scope)(e0:Env0 P w K mg base A outer s H)(hl:vs.length=ps.length)(r:Vals vs us)
  (x:InCallC s s.heap.objs.size (bindL (envOfC qual scope s.heap.objs.size f cd).kindOf (ps.zip us) fun _=>none) (cellsFrom (s.heap.objs.size+1) scope.names []) (bindC (envOfC qual scope s.heap.objs.size f cd).kindOf (ps.zip us) fun _=>none) s1) :
  Inv (cxC CX P w K mg base N qual scope f cd A outer s H E) [] (L2.start N vs) H s1:=by
 have hpl:ps.length≤N.length:=by have:=congrArg List.length S.pre; rw [List.length_take] at this; omega
 obtain ⟨h1,tk,rfl,hk⟩:=x.done
 have noA:∀ b:Addr,b ∉ (cxC CX P w K mg base N qual scope f cd A outer s H E).ex:=fun b z=>absurd (show b∈([]:List Addr) from z) (by simp)
 refine ⟨⟨e0.mod,S.kind,rfl,rfl,Nat.le_refl _,fun y z c h1 h2=>?_,fun y hy=>?_,fun y c _ h=>?_,(fun z=>Bool.noConfusion (show false=true from z)),Around.frames_deeper e0.frames,.inr ⟨rfl,rfl⟩,fun b z=>absurd z (noA b),e0.bs,e0.bsz,fun b _ _=>noA b,fun b z=>absurd z (noA b),e0.funs,e0.frf⟩,
  rfl,e0.bare,Un.kept hk,⟨_,x.toInCall.ns,fun i y v h1 h2 h3=>?_⟩,fun y c h=>⟨_,x.cell y c h⟩,e0.hok.fresh (Nat.le_refl _),fun y c h=>?_,fun p hp=>absurd (show p∈([]:List (Addr×Obj)) from hp) (by simp),e0.hok.kept hk,?_⟩
 ·exact name_of_addr x.apart (PySem.mem_of_lookup h1) (PySem.mem_of_lookup h2)
 ·have hy:scope.names.lookup y=some .cell ∨ scope.names.lookup y=some .free:=hy
  rcases hy with hy | hy
  ·exact cell_has hy
  ·exact absurd rfl (S.nofree _ (PySem.mem_of_lookup hy))
 ·exact Nat.le_of_lt (x.above y c (PySem.mem_of_lookup h))
 ·have hi:i < vs.length:=by
   unfold L2.start at h2
   by_cases hi:i < vs.length
   ·exact hi
   ·rw [List.getElem?_append_right (by simpa using hi)] at h2
    rw [List.getElem?_replicate] at h2
    split at h2 <;> cases h2
  have ha:vs[i]? = some v:=by
   unfold L2.start at h2
   rw [List.getElem?_append_left (by simpa using hi),List.getElem?_map] at h2
   cases e:vs[i]? with
   | none=>rw [e] at h2; cases h2
   | some a=>rw [e] at h2; cases h2; rfl
  obtain ⟨u,hu,rv⟩:=r.get ha
  have hp:ps[i]? = some y:=by
   rw [← S.pre,List.getElem?_take_of_lt (by omega)]; exact h1
  have ndP:ps.Nodup:=by rw [← S.pre]; exact S.nd.sublist (List.take_sublist _ _)
  refine ⟨u,rv,?_⟩
  rcases S.par y (List.mem_of_getElem? hp) with k | k
  ·exact .inl ⟨k,bindL_get ndP hp hu k⟩
  ·obtain ⟨c,e⟩:=cell_has (n:=s.heap.objs.size+1) k
   refine .inr ⟨.inl k,c,e,?_⟩
   have q:=x.cell y c e
   rw [bindC_get ndP hp hu (by show scope.names.lookup y ≠ _; rw [k]; decide)] at q
   exact q
 ·exact e0.hok.fresh (Nat.le_of_lt (x.above y c (PySem.mem_of_lookup h)))
 ·unfold L2.start
  show _=N.length
  rw [List.length_append,List.length_map,List.length_replicate]
  omega
theorem fn_ofC{CX:CXT}{P:Program}{w:World}{K:PySem.W.Frag}{mg:Str→Option Value}{base:Heap}{k:Nat}{f:Addr}{name qual:Str}{params:Arguments}{body:List Stmt}{scope:Scope}{dV kV doc pm cdv ct oc:Value}{an od:Option Addr}
  {osl:Array (Option Value)}{N ps:List Str}{sp:Sp}(lk:K.lookup f=some ⟨oc,od,.func (PySem.W.fnOf name qual params body scope dV kV doc pm an cdv ct),osl⟩)(hcd:PySem.W.codeIn K cdv qual=true)(S:FnScope N ps scope)
  (len:∀ vs H Q E,sp vs H Q E→vs.length=ps.length)
  (hbody:∀ (A:Around) (outer:List Env) (s:Shared) (H:Hp) (vs:List V) (Q:VK) (E:XK),Vl.RmH k (A.deeper (envOfC qual scope s.heap.objs.size f cdv))→sp vs H Q E →
   ∃ t,PSs (cxC CX P w K mg base N qual scope f cdv A outer s H E) body t∧t { nx:=fun _ H'=>Q .non H',rt:=Q } (L2.start N vs) H) :
  FnC P w K mg base CX (k+1) f (PySem.W.fnOf name qual params body scope dV kV doc pm an cdv ct) ps sp:=by
 refine ⟨len,fun A outer s H args us vs Q E hr e0 hb r hsp=>?_⟩
 have hl:=len _ _ _ _ hsp
 have KX:K.In s.heap:=e0.mod.kin.keeps fun b o e=>(e0.bs b o e).1
 have lim:s.heap.NoLimit:=e0.mod.nolimit.keeps fun b o e=>(e0.bs b o e).1
 have hkind:∀ y∈ps.zip us,scope.names.lookup y.1=some .local ∨ (scope.names.lookup y.1=some .cell∧((cellsFrom (s.heap.objs.size+1) scope.names []).lookup y.1).isSome=true):=fun ⟨n,v⟩ hy=>by
  rcases S.par n (List.of_mem_zip hy).1 with q | q
  ·exact .inl q
  ·exact .inr ⟨q,PySem.W.cellsFrom_some _ _ _ (.inl q)⟩
 have hdp:A.depth < recursionLimit:=by have:=hr.dp; omega
 have hr2:Vl.RmH k (A.deeper (envOfC qual scope s.heap.objs.size f cdv)):=⟨by have:=hr.dp; show A.depth+1+3 * k+5 < _; omega,by have:=hr.un; show A.units+3+16 * k+200 < _; omega⟩
 refine codeAny_call_function hdp (KX _ _ lk) rfl S.co S.gen rfl (PySem.W.codeRec_of KX hcd) (hb _ _ _ _ ?_)
 refine wpAny_newFunctionEnv_cells S.kind hkind fun env he s1 x=>?_
 subst he
 refine ⟨lim.keeps x.toInCall.keep,codeAny_func ?_⟩
 obtain ⟨t,ht,hq⟩:=hbody A outer s H vs Q E hr2 hsp
 have I:Inv (cxC CX P w K mg base N qual scope f cdv A outer s H E) [] (L2.start N vs) H s1:=inv_startC S e0 hl r x
 refine wpAny_mono (ht.run [] s1 (L2.start N vs) H _ I hq) (fun fl s' hs=>?_) fun e s' hs=>hs
 have fin:∀ {σ':St} {H':Hp} {v:V} {u:Value},Inv (cxC CX P w K mg base N qual scope f cdv A outer s H E) [] σ' H' s'→RelV v u→Q v H'→CE outer P w H s Q u s' :=
  fun {σ' H' v u} J rv q=>⟨v,H',J.os,J.bare,J.base,J.hok,rv,q⟩
 cases fl with
 | ret u =>
  obtain ⟨v,σ',H',J,rv,q⟩:=hs
  exact fin J rv q
 | next =>
  obtain ⟨σ',H',J,q⟩:=hs
  exact fin (v:=V.non) (u:=Value.none) J rfl q
 | brk =>
  obtain ⟨_,_,_,q⟩:=hs
  exact False.elim q
 | cont =>
  obtain ⟨_,_,_,q⟩:=hs
  exact False.elim q
section
variable {CX:CXT} {k:Nat} {f C:Addr} {fd:FuncData} {ps:List Str} {sp:Sp} {E:St→XK} {x m:Str} {p pos apos:Pos} {e o:Expr} {es:List Expr} {ta:TE} {t:TA}
theorem run_fnC{pins:List (Addr×Obj)}{σ:St}{H:Hp}{s:Shared}{Q:VK}{us:List Value}{vs:List V}(F:FnC X.prog X.w X.K X.mg X.base CX k f fd ps sp)(hr:Vl.RmH k X.A)(hb:Binds X.K fd ps [])(hx:PassesAt CX X σ (E σ))
  (I:Inv X pins σ H s)(r:Vals vs us)(h:sp vs H Q (E σ)):wpAny (model X.prog X.w) X.A (call (.ref f) us) (EP X pins σ Q) X.xe s:=by
 have hl:us.length=ps.length:=by rw [← r.length]; exact F.len _ _ _ _ h
 have b:=hb s us I.kIn (by rw [List.append_nil]; exact hl)
 rw [List.append_nil] at b
 refine wpAny_call (codeAny_mono (F.run X.A X.stack s H ⟨us,[]⟩ us vs Q (E σ) hr I.env0 b r h) fun r s' hq=>?_)
 cases r with
 | error e=>exact hx pins H s e s' I hq
 | ok fl =>
  cases fl with
  | ret u=>exact I.after hq
  | next=>exact False.elim hq
  | brk=>exact False.elim hq
  | cont=>exact False.elim hq
theorem pe_callC (F:FnC X.prog X.w X.K X.mg X.base CX k f fd ps sp) (hr:Vl.RmH k X.A) (hg:Gl X x) (hm:X.mg x=some (.ref f)) (hk:PySem.W.keepIn X.K (.ref f)=true) (hb:Binds X.K fd ps []) (hx:∀ σ,PassesAt CX X σ (E σ))
  (ha:PA X (e :: es) t) (hdb:(x == ("__debug__":Str))=false:=by decide) (he:starEach (e :: es) X.env=(false,eval e X.env) :: starEach es X.env:=by rfl) (hpl:(backTo pos (starEach es X.env)).any (·.1)=false:=by rfl) :
  PE X (.Call (.Name x p) (e :: es) [] pos) (tCallS sp E t):=by
 refine ⟨fun pins s σ H Q I h=>?_⟩
 refine wpAny_Call_Name_kw (ld_glob I hg hm ?_ hdb)
 refine PySem.W.callWith_K (h₀:=X.base) I.ok.mod.kin hk (thn (ha.run pos pins s σ H _ I h) fun us s1 ⟨vs,H1,I1,r,q⟩=>⟨I1.kIn,?_⟩) he hpl
 exact run_fnC F hr hb (hx σ) I1 r q
end
end
end L2
namespace Vl
open PySem L2 Vm PyProof.Rows
structure CalC (C:Cn) (x:Str) (n k:Nat) (f:FN):Prop where
 ex:∃ ad fd ps,ps.length=n∧FnC C.P C.w C.K C.mg C.base (L2.CX C.P C.w) k ad fd ps (spOf C n f)∧PySem.W.keepIn C.K (.ref ad)=true∧Binds C.K fd ps []∧C.mg x=some (.ref ad)
section
variable {C:Cn} {cm:Bool} {k:Nat} {N:List Str} {sc:Scope} {a b c e o:Expr} {es:List Expr} {A B:EX} {As:EXs} {T U:TX} {pos p apos cpos:Pos} {X:Cx} {x:Str} {st:Stmt}
theorem de_callC {f:FN} {n j:Nat} (G:CalC C x n j f) (ha:DA C cm k N sc (e :: es) As) (hj:j≤k:=by decide) (hg:sc.names.lookup x=some .globalImplicit:=by rfl) (hdb:(x == ("__debug__":Str))=false:=by decide)
  (he:∀ env:PySem.Env,starEach (e :: es) env=(false,eval e env) :: starEach es env:=by intro _; rfl) (hpl:∀ env:PySem.Env,(backTo pos (starEach es env)).any (·.1)=false:=by intro _; rfl) (hlen:(e :: es).length=n:=by rfl) (hAs:AL n As) :
  DE C cm k N sc (.Call (.Name x p) (e :: es) [] pos) (eCall f As):=by
 obtain ⟨ta,pa,qa⟩:=ha
 obtain ⟨ad,fd,ps,hps,F,kp,bn,hm⟩:=G.ex
 refine ⟨fun W=>tCallS (spOf C n f) (WE W) (ta W),fun X S W T=>?_,fun W σ Γ F0 H0 F H Q g h=>?_⟩
 ·have cn:=S.cn
  subst cn
  exact pe_callC F (S.rh.mono hj) (S.gl hg) hm kp bn (fun σ=>passAt T σ) (pa X S W T) hdb (he _) (hpl _)
 ·refine qa W σ Γ F0 H0 F H _ g (AOk.bind h fun xs vs fp F1 H1 ex e1 r1 h1=>?_)
  have hl:vs.length=n:=by
   rw [(RVs.reps e1.fh r1).len,List.length_map]; exact hAs Γ xs ex
  by_cases hb:xs.any isBw=true
  ·refine ⟨H1,xs.map (·.2),hl,Same.refl _,fun _ _ z=>z,RVs.reps e1.fh r1,?_⟩
   cases ef:f (xs.map (·.2)) with
   | bad=>rw [ef] at h1; exact h1.elim
   | exc c =>
    rw [ef] at h1
    exact fun F' H' e'=>h1 (tupF F1 H') H' (e1.trans (Ext.tupF e1.fh e1.tp e'.hh))
   | ok x =>
    rw [ef,bind_ok,hb] at h1
    by_cases hs:stabR x=true
    ·rw [hs] at h1
     intro v F' H' e' rv
     have e2:=Ext.tupF e1.fh e1.tp e'.hh
     refine h1 v (tupF F1 H') H' (e1.trans e2) ?_
     have gt:∀ a xs,F' a=some (tq xs)→tupF F1 H' a=some (tq xs):=fun a xs z=>tupF_tup (e'.fh _ _ z)
     obtain ⟨t,p⟩:=x
     obtain ⟨fp',rv⟩:=rv
     cases t with
     | fz=>exact .fz (stab_rep gt p v hs rv)
     | bw d=>cases hs
     | ow d =>
      obtain ⟨z1,z2,z3⟩:=rv
      refine ⟨fp',stab_own gt d hs z1,z2,fun a ha=>⟨?_,e1.hh.free (z3 a ha).2⟩⟩
      obtain ⟨ws,z4,z5⟩:=z1.there d a ha
      rcases tupF_cases (F:=F1) (H:=H') a with ⟨_,z⟩ | z
      ·rw [z4] at z; cases z; exact (z5 _ rfl).elim
      ·rw [z]; exact e1.fh.free (z3 a ha).2
    ·have:stabR x=false:=by cases q:stabR x <;> simp_all
     rw [this] at h1; exact h1.elim
  ·have hb':xs.any isBw=false:=by cases q:xs.any isBw <;> simp_all
   obtain ⟨F2,e2,s2,r2,_⟩:=RVs.put e1 r1 (putVs_of hb')
   refine ⟨F2,xs.map (·.2),hl,e2.fh,e2.tp,r2,?_⟩
   cases ef:f (xs.map (·.2)) with
   | bad=>rw [ef] at h1; exact h1.elim
   | exc c =>
    rw [ef] at h1
    exact fun F' H' e'=>h1 F' H' (e2.trans e')
   | ok x =>
    rw [ef,bind_ok,hb'] at h1
    exact fun v F' H' e' rv=>h1 v F' H' (e2.trans e') (rv.start e1.hh)
theorem fn_okCF{x:Str}{ad:Addr}{fd:FuncData}{ps:List Str}{n ns j:Nat}{d:ST}(F:Fun C.K x x st ad fd)(S:FnScope N ps (defScope st))(hp:ps.length=n)(hN:N.length=ns)(hm:C.mg x=some (.ref ad))(hb:Binds C.K fd ps [])
  (body:DSs C false j N (defScope st) (defBody st) d):FnC C.P C.w C.K C.mg C.base (L2.CX C.P C.w) (j+1) ad fd ps (spOf C n (runFn n ns d)):=by
 obtain ⟨tb,pb,qb⟩:=body
 have hnn:n≤ns:=by
  have:=congrArg List.length S.pre
  rw [List.length_take] at this
  omega
 obtain ⟨oc,od,kV,doc,pm,an,cdv,ct,osl,rfl,lk,hcd⟩:=F.ex
 refine fn_ofC lk hcd S (fun vs H Q E h=>?_) (fun A outer s H vs Q E hr h=>?_)
 ·obtain ⟨_,_,h1,_⟩:=h
  rw [h1,hp]
 ·obtain ⟨F0,qs,h1,h2,h3,h4,h5⟩:=h
  refine ⟨tb fun cls d _ H=>E cls d H,pb _ ⟨⟨rfl,rfl,rfl,S.nd,(fun h=>nomatch h),(fun h=>nomatch h),?_,⟨hr.dp,hr.un⟩⟩,passes_of rfl,fun _ _=>rfl,rfl,rfl⟩ _ (takes_of rfl rfl rfl rfl),?_⟩
  ·have h0:=hr.un
   have h1:(cxC (L2.CX C.P C.w) C.P C.w C.K C.mg C.base N x (defScope st) ad cdv A outer s H E).A.units+100 < cLine:=by
    show (A.deeper _).units+100 < cLine
    omega
   exact h1
  ·refine qb _ _ _ (qs.map (fun p=>some (.fz,p))++List.replicate (ns - n) none) F0 H F0 H ⟨⟨Ext.refl h2 h3,?_,fun _=>[],fun i y hy=>?_,fun _ _ _ _ h=>by simp at h⟩,fun i d p hy=>?_⟩ ?_
   ·have:=h4.len
    simp [L2.start,hN]
    omega
   ·obtain ⟨p,hp,rfl⟩:=get_args hy
    obtain ⟨v,hv,r⟩:=h4.get hp
    refine ⟨v,?_,r⟩
    unfold L2.start
    rw [List.getElem?_append_left (by rw [List.length_map]; exact (List.getElem?_eq_some_iff.mp hv).1),List.getElem?_map,hv]
    rfl
   ·obtain ⟨p',hp,e⟩:=get_args hy
    cases e
   ·have hl:qs.length=n:=by rw [← h4.len]; exact h1
    unfold runFn at h5
    rw [if_pos hl] at h5
    cases eo:d (qs.map (fun p=>some (.fz,p))++List.replicate (ns - n) none) with
    | nx Γ=>rw [eo] at h5; exact fun σ' F' H' g'=>h5 _ F' H' g'.ext (.fz rep_non)
    | rt t p Γr=>rw [eo] at h5; exact fun v F' H' e r=>h5 v F' H' e r
    | bk Γ=>rw [eo] at h5; exact h5.elim
    | ct Γ=>rw [eo] at h5; exact h5.elim
    | exc c Γ=>rw [eo] at h5; exact fun σ' F' H' g'=>h5 F' H' g'.ext
    | bad=>rw [eo] at h5; exact h5.elim
theorem fn_okC{x:Str}{ad:Addr}{fd:FuncData}{ps:List Str}{n ns j:Nat}{d:ST}(F:Fun C.K x x st ad fd)(S:FnScope N ps (defScope st))(hp:ps.length=n)(hN:N.length=ns)(hm:C.mg x=some (.ref ad))(hb:Binds C.K fd ps [])
  (body:DSs C false j N (defScope st) (defBody st) d):CalC C x n (j+1) (runFn n ns d):=⟨ad,fd,ps,hp,fn_okCF F S hp hN hm hb body,F.kp,hb,hm⟩
theorem datL_count{p:PyData→Bool}{q:PV→Bool}:∀ {l:List PV},(∀ z∈l,p (dat z)=q z)→(datL l).countP p=l.countP q
 | [],_=>rfl
 | z :: l,h=>by
  have e:=datL_count fun y hy=>h y (List.mem_cons_of_mem _ hy)
  show (dat z :: datL l).countP p=_
  rw [List.countP_cons,List.countP_cons,e,h z List.mem_cons_self]
theorem de_count (ho:DE C cm k N sc o A) (he:DE C cm k N sc e B) (hbase:∀ env:PySem.Env,attributeBase o "count" env (eval o env)=eval o env:=by intro _; rfl)
  (hfew:∀ env:PySem.Env,((backTo cpos (starEach [e] env)).all (fun x=>!x.1) && (backToKw cpos (keywordEach [] env)).all (fun x=>x.1.isSome)
   && decide (([e]).length+([]:List Keyword).length+(if ([]:List Keyword).isEmpty then 0 else 1) < 30))=true:=by intro _; rfl)
  (hline:(apos.endLine == cpos.line)=true:=by rfl) (hst:∀ env:PySem.Env,starEach [e] env=(false,eval e env) :: starEach [] env:=by intro _; rfl):DE C cm k N sc (.Call (.Attribute o "count" apos) [e] [] cpos) (eCount A B):=by
 obtain ⟨ta,pa,qa⟩:=ho
 obtain ⟨tb,pb,qb⟩:=he
 refine ⟨fun W=>tCntQ C.K (ta W) (tCons (tb W) tNil),fun X S W T=>by rw [← S.K]; exact pe_cntQ S.u' (pa X S W T) (pa_cons (pb X S W T) pa_nil (hst _)) (hbase _) (hfew _) hline (hst _) rfl,fun W σ Γ F0 H0 F H Q g h=>?_⟩
 refine qa W σ Γ F0 H0 F H _ g (EOk.bind h fun x v F1 H1 ex e1 r1 h1=>?_)
 obtain ⟨t,q⟩:=x
 cases q with
 | lst l =>
  have r:=r1.rep e1.fh
  obtain ⟨ad,vs,ev,s2,r3⟩:=rep_lst r
  subst ev
  refine ⟨.inl ⟨rfl,vs,s2⟩,?_⟩
  refine qb W σ Γ F0 H0 F1 H1 _ (g.next e1) (EOk.bind (h1.next e1) fun y u F2 H2 ey e2 r2 h2=>?_)
  have ry:=r2.rep e2.fh
  cases hp:(shp 50 y.2 && shpL 50 l) with
  | false=>rw [hp] at h2; exact h2.elim
  | true =>
   rw [hp] at h2
   rw [Bool.and_eq_true] at hp
   obtain ⟨hp1,hp2⟩:=hp
   have rs2:Rep C.K H2 (.lst l) (.ref ad):=r.mono e2.hh _ _
   have hsh:shp 51 (.lst l)=true:=by unfold shp; exact hp2
   have zs:∀ {w:PV},w∈l→shp 50 w=true:=fun hw=>shpL_mem hp2 hw
   refine ⟨ad,u,dat y.2,datL l,rfl,rfl,(rep_dp 51 _ _ hsh rs2).1,(rep_dp 50 y.2 u hp1 ry).1,shaped_dat (by omega) hsh rs2,shaped_dat (by omega) hp1 ry,?_⟩
   rw [datL_count (q:=fun z=>eqv z y.2) fun z hz=>eqv_dat 50 50 z y.2 (zs hz) hp1]
   exact h2 _ F2 H2 e2 (.fz rep_int)
 | _=>exact h1.elim
end
section
variable {C:Cn} {cm:Bool} {k i c:Nat} {N:List Str} {sc:Scope} {pos np pos' p p1 p2:Pos} {X:Cx} {d:ST} {a b e:Expr} {es:List Expr} {A B:EX} {keep:List Nat}
theorem dx_tryT {j:Nat} {cs:List (Nat×Bool)} {n:Str} {hd:ST} {body suite:List Stmt} {b₀:Stmt} (hx:Xs C j cs) (hk:i ∉ keep) (hb:DXs keep C cm k N sc body d) (hh:DXs keep C false k N sc (b₀ :: suite) hd) (hN:N[i]? = some n:=by rfl) (hln:sc.names.lookup n=some .local:=by rfl) (hg:sc.names.lookup (xName j)=some .globalImplicit:=by rfl) (hdb:(xName j == ("__debug__":Str))=false:=by decide) :
  DX keep C cm k N sc (.Try body [.ExceptHandler (some (.Name (xName j) np)) (some n) (b₀ :: suite) pos'] [] [] pos) (dTryT cs i d hd):=by
 obtain ⟨tb,pb,qb⟩:=hb
 obtain ⟨ts0,ps0,qs0⟩:=hh
 obtain ⟨ad,h1,h2⟩:=hx
 refine ⟨fun W D σ H=>tb (wAsT C.K (.ref ad) i (fun _ _ _=>ts0 fun _ _ _ _=>False) W D) D σ H,fun X S W T=>?_,fun W D σ Γ F0 H0 F H g h=>?_⟩
 ·have hK:X.K=C.K:=congrArg (fun C=>C.K.fr) S.cn
  have hm:X.mg=C.mg:=congrArg Cn.mg S.cn
  rw [← hK]
  refine ps_try_asT S.sk S.fr (by rw [S.n]; exact S.nd) (by rw [S.n]; exact hN) ?_ ⟨?_,hdb,.inl (by rw [hm]; exact h1)⟩ T (fun W' pn xe tk hp=>pb _ (sta_tr S hp) _ tk) (fun a cls dd pn=>ps0 _ (sta_suite S) _ (fun u s' xx=>?_))
  ·show X.env.scope.names.lookup n=some .local
   rw [S.s]
   exact hln
  ·show X.env.scope.names.lookup (xName j)=some .globalImplicit
   rw [S.s]
   exact hg
  ·obtain ⟨_,_,_,_,_,_,_,_,_,_,_,_,_,_,_,_,w⟩:=xx
   exact w.elim
 ·refine qb _ D σ Γ F0 H0 F H g ?_
  have h:OutX C W F0 H0 D keep σ (dTryT cs i d hd Γ):=h
  unfold dTryT at h
  cases eo:d Γ with
  | nx Γ'=>rw [eo] at h; exact h
  | rt t p Γr=>rw [eo] at h; cases t <;> exact h
  | bk Γ'=>rw [eo] at h; exact h
  | ct Γ'=>rw [eo] at h; exact h
  | bad=>rw [eo] at h; exact h
  | exc c Γ' =>
   rw [eo] at h
   simp only at h
   intro σ' F' H' g' k'
   cases et:takesC cs c with
   | none=>rw [et] at h; exact h.elim
   | some b =>
    refine ⟨b,h2 c b et,fun hb a oe na hz hf=>?_,fun hb=>?_⟩
    ·subst hb
     rw [et] at h
     simp only at h
     by_cases hlt:Nat.ble (i+1) Γ'.length=true
     ·rw [if_pos hlt] at h
      have hlt':i < Γ'.length:=Nat.le_of_ble_eq_true hlt
      have e1:Ext F' H' (upd F' a (excHO oe)) (upd H' a (excHO oe)):=ext_exc g'.ext.fh g'.ext.tp na
      have rp:Rep C.K (upd F' a (excHO oe)) (.exo (c+2) []) (.ref a):=by
       unfold Rep
       exact ⟨a,oe,rfl,upd_same,hz.1,hz.2,hf⟩
      have gs:GoodS C.K F0 H0 (Γ'.set i (some (.fz,.exo (c+2) []))) (σ'.set i (some (.ref a))) (upd F' a (excHO oe)) (upd H' a (excHO oe)):=(g'.next e1).setF i rp
      refine qs0 _ _ _ _ F0 H0 _ _ gs ?_
      cases eh:hd (Γ'.set i (some (.fz,.exo (c+2) []))) with
      | nx Γ2 =>
       rw [eh] at h
       exact fun σ2 F2 H2 g2 k2=>h (σ2.set i none) F2 H2 (good_hold (good_drop g2) (get_set_none _ _)) ((Kp.set hk).trans (k2.trans ((Kp.set hk).trans k')))
      | rt t p Γr=>rw [eh] at h; exact h.elim
      | bk Γ2=>rw [eh] at h; exact h.elim
      | ct Γ2=>rw [eh] at h; exact h.elim
      | exc c2 Γ2=>rw [eh] at h; exact h.elim
      | bad=>rw [eh] at h; exact h.elim
     ·rw [if_neg hlt] at h; exact h.elim
    ·subst hb
     rw [et] at h
     exact h σ' F' H' g' k'
end
end Vl
end
section
set_option linter.all false
set_option maxHeartbeats 1000000
namespace Vm
def dDApp(i:Nat)(j e:EX):ST:=fun Γ=>match Γ.get i with
 | some (.ow 2,.dic ks l)=>aft (j Γ) Γ fun z=>aft (fzK z) Γ fun kq=>if sameK kq ks then (match lstAtD (ks,l) kq with
  | some (n,m)=>aft (e Γ) Γ fun x=>aft (putV x) Γ fun p=>if m.length < 16777216 then .nx (Γ.set i (some (.ow 2,.dic ks (l.set n (.lst (m++[p])))))) else .bad
  | none=>.bad) else .bad
 | _=>.bad
def dDPopAt(i:Nat)(j e:EX):ST:=fun Γ=>match Γ.get i with
 | some (.ow 2,.dic ks l)=>aft (j Γ) Γ fun z=>aft (fzK z) Γ fun kq=>if sameK kq ks then (match lstAtD (ks,l) kq with
  | some (n,m)=>aft (e Γ) Γ fun y=>(match y.2 with
   | .int t=>if 0≤t∧t < m.length∧m.length < 1000000 then .nx (Γ.set i (some (.ow 2,.dic ks (l.set n (.lst (m.eraseIdx t.toNat)))))) else .bad
   | _=>.bad)
  | none=>.bad) else .bad
 | _=>.bad
def dDSet2(i:Nat)(j e:EX):ST:=fun Γ=>match Γ.get i with
 | some (.ow 2,.dic ks l)=>aft (e Γ) Γ fun y=>aft (j Γ) Γ fun z=>aft (putV y) Γ fun q=>aft (fzK z) Γ fun kq=>if (sameK kq ks && decide (ks.length < 16777216)) && !boxed q then (match dIx ks kq with
  | some n=>.nx (Γ.set i (some (.ow 2,.dic ks (l.set n q))))
  | none=>.bad) else .bad
 | _=>.bad
def eDicM(ks:List (List Nat))(as:EXs):EX:=fun Γ=>(as Γ).bind fun xs=>match xs with
 | (.ow 1,.lst []) :: r=>(putVs r).bind fun ps=>if (decide (ps.length+1=ks.length) && ps.all (fun p=>!boxed p))=true then .ok (.ow 2,.dic (ks.map .str) (.lst [] :: ps)) else .bad
 | _=>.bad
end Vm
end
section
set_option Elab.async false
set_option linter.all false
set_option maxRecDepth 100000
set_option maxHeartbeats 1000000
namespace Vl
open PySem L2 Vm PyProof.Rows
section
variable {K:KK} {F H:Hp}
theorem repL_erase:∀ {ps:List PV} {vs:List V} {n:Nat},RepL K F ps vs→RepL K F (ps.eraseIdx n) (vs.eraseIdx n)
 | [],vs,n,h=>by unfold RepL at h; subst h; simpa using RepL.nil
 | p :: ps,vs,0,h=>by
  unfold RepL at h
  obtain ⟨v,r,rfl,h1,h2⟩:=h
  simpa using h2
 | p :: ps,vs,n+1,h=>by
  unfold RepL at h
  obtain ⟨v,r,rfl,h1,h2⟩:=h
  rw [List.eraseIdx_cons_succ,List.eraseIdx_cons_succ]
  exact RepL.cons h1 (repL_erase h2)
theorem dput_at{α:Type}{p:PV}{x:α}:∀ {ks:List PV} {l:List α} {n:Nat},dIx ks p=some n→ks.length=l.length→dPutK ks p=ks∧dPutV ks l p x=l.set n x
 | [],l,n,h,_=>by simp [dIx] at h
 | k :: ks,[],n,h,hl=>by simp at hl
 | k :: ks,v :: l,n,h,hl=>by
  unfold dIx at h
  unfold dPutK dPutV
  by_cases e:eqv k p=true
  ·rw [if_pos e] at h
   cases h
   rw [if_pos e,if_pos e]
   exact ⟨rfl,rfl⟩
  ·rw [if_neg e] at h
   obtain ⟨m,hm,rfl⟩:=Option.map_eq_some_iff.mp h
   obtain ⟨h1,h2⟩:=dput_at (x:=x) hm (l:=l) (by simpa using hl)
   rw [if_neg e,if_neg e,h1,h2]
   exact ⟨rfl,rfl⟩
end
section
variable {C:Cn} {k:Nat} {N:List Str} {sc:Scope} {b e:Expr} {A B:EX} {pos p1 p2 apos cpos pos':Pos} {X:Cx} {x:Str} {keep:List Nat}
theorem dx_dapp (i:Nat) (hj:DE C true k N sc b B) (he:DE C true k N sc e A) (hN:N[i]? = some x:=by rfl) (hv:Vis sc x:=by first | exact Or.inl rfl | exact Or.inr (Or.inl rfl) | exact Or.inr (Or.inr rfl)) (hd:(x == ("__debug__":Str))=false:=by decide)
  (hcd:(x == ("__classdict__":Str))=false:=by decide) (n2:NoSl b:=by exact fun _ _=>rfl) (hbase:∀ env:PySem.Env,attributeBase (.Subscript (.Name x p1) b p2) "append" env (eval (.Subscript (.Name x p1) b p2) env)=eval (.Subscript (.Name x p1) b p2) env:=by intro _; rfl)
  (hfew:∀ env:PySem.Env,((backTo cpos (starEach [e] env)).all (fun x=>!x.1) && (backToKw cpos (keywordEach [] env)).all (fun x=>x.1.isSome)
   && decide (([e]).length+([]:List Keyword).length+(if ([]:List Keyword).isEmpty then 0 else 1) < 30))=true:=by intro _; rfl)
  (hline:(apos.endLine == cpos.line)=true:=by rfl) (hst:∀ env:PySem.Env,starEach [e] env=(false,eval e env) :: starEach [] env:=by intro _; rfl) (hs:∀ env:PySem.Env,swapsWith (.Call (.Attribute (.Subscript (.Name x p1) b p2) "append" apos) [e] [] cpos) none pos.line env=pure false:=by intro _; rfl) :
  DX keep C true k N sc (.Expr (.Call (.Attribute (.Subscript (.Name x p1) b p2) "append" apos) [e] [] cpos) pos) (dDApp i B A):=by
 obtain ⟨ta,pa,qa⟩:=he
 obtain ⟨tb,pb,qb⟩:=hj
 refine ⟨fun W=>tDrop (tBM C.K "list" rAppend (tDX C.K (tVar i) (tb W)) (tCons (ta W) tNil)),fun X S W T=>?_,fun W D σ Γ F0 H0 F H g h=>?_⟩
 ·rw [← S.KK]
  exact ps_expr (pe_bm PySem.F.plainAttrs_list PySem.F.slot_list_append PySem.F.type_list_append mt_append (pe_dx S.u10 (pe_var (by rw [S.n]; exact hN) (by rw [S.s]; exact hv) hd hcd) (pb X S.toSta W T) n2) (pa_cons (pa X S.toSta W T) pa_nil (hst _)) (hbase _) (hfew _) hline (hst _) rfl) (hs _)
 unfold dDApp at h
 split at h
 ·rename_i ks l eg
  obtain ⟨v0,fp,hv0,own,nd,fr,go⟩:=good_go g eg
  obtain ⟨ad,ob,vs,fps,rfl,d1,d2,d3,d4,rfl,d6⟩:=own_dic own
  refine ⟨.ref ad,hv0,qb W σ Γ F0 H0 F H _ g.toGood (OutX.bind g h fun z u F1 H1 ez e1 rz h=>?_)⟩
  cases hfz:fzK z with
  | exc c=>exact (fzK_noexc hfz).elim
  | bad=>rw [hfz] at h; exact h.elim
  | ok kq =>
  rw [hfz,after_ok] at h
  have ez2:=fzK_ok hfz
  subst ez2
  by_cases hk:sameK kq ks=true
  ·rw [if_pos hk] at h
   cases hl:lstAtD (ks,l) kq with
   | none=>rw [hl] at h; exact h.elim
   | some jm =>
   obtain ⟨j,m⟩:=jm
   rw [hl] at h
   simp only at h
   obtain ⟨x1,hm⟩:=lstAt_of hl
   obtain ⟨a2,us,hv2,hH2,rm,go2⟩:=modD2 go own nd d1 d2 d3 d4 d6 hm
   refine ⟨ad,ob,ks,vs,kq,.ref a2,rfl,e1.hh _ _ d1,d3.tups fun a xs z=>e1.fh _ _ (e1.ff _ _ z),hk,rz.rep e1.fh,by rw [x1]; exact hv2,.inl ⟨rfl,us,SqL.of (e1.hh _ _ hH2)⟩,qa W σ Γ F0 H0 F1 H1 _ (g.next e1).toGood (OutX.bind (g.next e1) h fun x v F2 H2 ex e2 rv h=>?_)⟩
   cases hp:putV x with
   | exc c=>exact (put_noexc hp).elim
   | bad=>rw [hp] at h; exact h.elim
   | ok p =>
    rw [hp,after_ok] at h
    by_cases hz:m.length < 16777216
    ·rw [if_pos hz] at h
     obtain ⟨F3,e3,r3⟩:=rv.put e2 hp
     have eall:=e1.trans e3
     obtain ⟨gg,hH3⟩:=go2 eall ((rm.mono eall.ff _ _).append (RepL.cons r3 RepL.nil))
     exact ⟨a2,us,v,rfl,rfl,hH3,by rw [rm.len,← szL_eq]; exact hz,h σ _ _ gg (fun _ _=>rfl)⟩
    ·rw [if_neg hz] at h; exact h.elim
  ·rw [if_neg hk] at h; exact h.elim
 ·exact h.elim
theorem dx_dpop (i:Nat) (hj:DE C true k N sc b B) (he:DE C true k N sc e A) (hN:N[i]? = some x:=by rfl) (hv:Vis sc x:=by first | exact Or.inl rfl | exact Or.inr (Or.inl rfl) | exact Or.inr (Or.inr rfl)) (hd:(x == ("__debug__":Str))=false:=by decide)
  (hcd:(x == ("__classdict__":Str))=false:=by decide) (n2:NoSl b:=by exact fun _ _=>rfl) (hbase:∀ env:PySem.Env,attributeBase (.Subscript (.Name x p1) b p2) "pop" env (eval (.Subscript (.Name x p1) b p2) env)=eval (.Subscript (.Name x p1) b p2) env:=by intro _; rfl)
  (hfew:∀ env:PySem.Env,((backTo cpos (starEach [e] env)).all (fun x=>!x.1) && (backToKw cpos (keywordEach [] env)).all (fun x=>x.1.isSome)
   && decide (([e]).length+([]:List Keyword).length+(if ([]:List Keyword).isEmpty then 0 else 1) < 30))=true:=by intro _; rfl)
  (hline:(apos.endLine == cpos.line)=true:=by rfl) (hst:∀ env:PySem.Env,starEach [e] env=(false,eval e env) :: starEach [] env:=by intro _; rfl) (hs:∀ env:PySem.Env,swapsWith (.Call (.Attribute (.Subscript (.Name x p1) b p2) "pop" apos) [e] [] cpos) none pos.line env=pure false:=by intro _; rfl) :
  DX keep C true k N sc (.Expr (.Call (.Attribute (.Subscript (.Name x p1) b p2) "pop" apos) [e] [] cpos) pos) (dDPopAt i B A):=by
 obtain ⟨ta,pa,qa⟩:=he
 obtain ⟨tb,pb,qb⟩:=hj
 refine ⟨fun W=>tDrop (tBM C.K "list" rPopAt (tDX C.K (tVar i) (tb W)) (tCons (ta W) tNil)),fun X S W T=>?_,fun W D σ Γ F0 H0 F H g h=>?_⟩
 ·rw [← S.KK]
  exact ps_expr (pe_bm PySem.F.plainAttrs_list PySem.F.slot_list_pop PySem.F.type_list_pop mt_popAt (pe_dx S.u10 (pe_var (by rw [S.n]; exact hN) (by rw [S.s]; exact hv) hd hcd) (pb X S.toSta W T) n2) (pa_cons (pa X S.toSta W T) pa_nil (hst _)) (hbase _) (hfew _) hline (hst _) rfl) (hs _)
 unfold dDPopAt at h
 split at h
 ·rename_i ks l eg
  obtain ⟨v0,fp,hv0,own,nd,fr,go⟩:=good_go g eg
  obtain ⟨ad,ob,vs,fps,rfl,d1,d2,d3,d4,rfl,d6⟩:=own_dic own
  refine ⟨.ref ad,hv0,qb W σ Γ F0 H0 F H _ g.toGood (OutX.bind g h fun z u F1 H1 ez e1 rz h=>?_)⟩
  cases hfz:fzK z with
  | exc c=>exact (fzK_noexc hfz).elim
  | bad=>rw [hfz] at h; exact h.elim
  | ok kq =>
  rw [hfz,after_ok] at h
  have ez2:=fzK_ok hfz
  subst ez2
  by_cases hk:sameK kq ks=true
  ·rw [if_pos hk] at h
   cases hl:lstAtD (ks,l) kq with
   | none=>rw [hl] at h; exact h.elim
   | some jm =>
   obtain ⟨j,m⟩:=jm
   rw [hl] at h
   simp only at h
   obtain ⟨x1,hm⟩:=lstAt_of hl
   obtain ⟨a2,us,hv2,hH2,rm,go2⟩:=modD2 go own nd d1 d2 d3 d4 d6 hm
   refine ⟨ad,ob,ks,vs,kq,.ref a2,rfl,e1.hh _ _ d1,d3.tups fun a xs z=>e1.fh _ _ (e1.ff _ _ z),hk,rz.rep e1.fh,by rw [x1]; exact hv2,.inl ⟨rfl,us,SqL.of (e1.hh _ _ hH2)⟩,qa W σ Γ F0 H0 F1 H1 _ (g.next e1).toGood (OutX.bind (g.next e1) h fun y v F2 H2 ey e2 rv h=>?_)⟩
   obtain ⟨ty,py⟩:=y
   have ry:=rv.rep e2.fh
   cases py with
   | int t =>
    simp only at h
    by_cases hz:0≤t∧t < m.length∧m.length < 1000000
    ·rw [if_pos hz] at h
     unfold Rep at ry
     subst ry
     have eall:=e1.trans e2
     have ul:=rm.len
     obtain ⟨gg,hH3⟩:=go2 eall (repL_erase (n:=t.toNat) (rm.mono eall.ff _ _))
     have hlt:t.toNat < us.length:=by omega
     have hsi:seqIndex? t us.length=some t.toNat:=by
      simp only [seqIndex?,if_neg (show ¬ t < 0 by omega)]
      rw [if_pos (by simp; omega)]
     exact ⟨a2,us,t,t.toNat,us[t.toNat],rfl,rfl,hH3,by omega,by omega,hsi,List.getElem?_eq_getElem hlt,h σ _ _ gg (fun _ _=>rfl)⟩
    ·rw [if_neg hz] at h; exact h.elim
   | _=>exact h.elim
  ·rw [if_neg hk] at h; exact h.elim
 ·exact h.elim
theorem dx_dset2 (i:Nat) (hj:DE C true k N sc b B) (he:DE C true k N sc e A) (hN:N[i]? = some x:=by rfl) (hv:Vis sc x:=by first | exact Or.inl rfl | exact Or.inr (Or.inl rfl) | exact Or.inr (Or.inr rfl)) (hd:(x == ("__debug__":Str))=false:=by decide)
  (hcd:(x == ("__classdict__":Str))=false:=by decide) (hs:∀ env:PySem.Env,swapsWith e (some (.Subscript (.Name x p1) b pos')) pos.line env=pure false:=by intro _; rfl):DX keep C true k N sc (.Assign [.Subscript (.Name x p1) b pos'] e pos) (dDSet2 i B A):=by
 obtain ⟨ta,pa,qa⟩:=he
 obtain ⟨tb,pb,qb⟩:=hj
 refine ⟨fun W=>sDX C.K (tVar i) (tb W) (ta W),fun X S W T=>by rw [← S.KK]; exact ps_dx S.u10 (pe_var (by rw [S.n]; exact hN) (by rw [S.s]; exact hv) hd hcd) (pb X S.toSta W T) (pa X S.toSta W T) (hs _),fun W D σ Γ F0 H0 F H g h=>?_⟩
 unfold dDSet2 at h
 split at h
 ·rename_i ks l eg
  obtain ⟨v0,fp,hv0,own,nd,fr,go⟩:=good_go g eg
  obtain ⟨ad,ob,vs,fps,rfl,d1,d2,d3,d4,rfl,d6⟩:=own_dic own
  have dlen:ks.length=l.length:=by have:=d3.len; rw [List.length_map] at this; rw [this,ownl_len d6]
  refine qa W σ Γ F0 H0 F H _ g.toGood (OutX.bind g h fun y v F1 H1 ex e1 rv h=>?_)
  refine ⟨.ref ad,hv0,qb W σ Γ F0 H0 F1 H1 _ (g.next e1).toGood (OutX.bind (g.next e1) h fun z u F2 H2 ez e2 r2 h=>?_)⟩
  cases hp:putV y with
  | exc c=>exact (put_noexc hp).elim
  | bad=>rw [hp] at h; exact h.elim
  | ok q =>
   rw [hp,after_ok] at h
   cases hq:fzK z with
   | exc c=>exact (fzK_noexc hq).elim
   | bad=>rw [hq] at h; exact h.elim
   | ok kq =>
    rw [hq,after_ok] at h
    have ez:=fzK_ok hq
    subst ez
    by_cases hk:((sameK kq ks && decide (ks.length < 16777216)) && !boxed q)=true
    ·rw [if_pos hk] at h
     rw [Bool.and_eq_true,Bool.and_eq_true,decide_eq_true_eq] at hk
     cases hix:dIx ks kq with
     | none=>rw [hix] at h; exact h.elim
     | some n =>
     rw [hix] at h
     obtain ⟨f,hf⟩:=rv
     obtain ⟨F3,e3,s3,r3,_⟩:=(hf.ext e2).put (e1.trans e2) hp
     have rk:Rep C.K F3 kq u:=Rep.mono s3 _ _ r2.ofFz
     have d3':=d3.tups (G:=F3) fun _ _=>e3.ff _ _
     refine ⟨F3,ad,ob,ks,vs,kq,rfl,e3.fh,(e1.trans e2).hh _ _ d1,d3',hk.1.1,rk,by rw [← szL_eq]; exact hk.1.2,fun o' dk=>?_⟩
     obtain ⟨b1,b2⟩:=dput_at (x:=v) hix (show ks.length=vs.length by rw [ownl_len d6,dlen])
     rw [b1,b2] at dk
     have had:ad ∉ fps.flatten:=(List.nodup_cons.mp nd).1
     have hown:OwnL (Own C.K F3 (upd H2 ad (dHO ad o')) 1) (fps.set n []) (l.set n q) (vs.set n v):=by
      refine ownl_setO (.inr ⟨rfl,by simpa using hk.2,r3⟩) (ownl_mono e3.ff d6 fun a ha=>?_)
      obtain ⟨ob,q1,_⟩:=own.there _ a (List.mem_cons_of_mem _ ha)
      rw [upd_ne (fun w=>had (by rw [← w]; exact ha)),q1]
      exact e3.hh _ _ q1
     refine h σ F3 _ (go F3 H2 _ 2 _ (ad :: (fps.set n []).flatten) e3 (fun a ha=>upd_ne fun w=>ha (by rw [w]; simp)) (fun a ha xs=>?_) (own_mkD upd_same d2 dk d4 hown) ?_ fun a ha=>.inl ?_) Kp.refl
     ·by_cases w:a=ad
      ·subst w; rw [upd_same]; intro w; cases w
      ·rw [upd_ne w]
       obtain ⟨ob,q1,q2⟩:=own.there _ a ha
       rw [e3.hh _ _ q1]
       intro w; cases w; exact q2 _ rfl
     ·refine List.nodup_cons.mpr ⟨fun w=>?_,set_flat_nd List.nodup_nil (List.nodup_cons.mp nd).2 fun a ha=>by simp at ha⟩
      rcases set_flat_sub w with w | w
      ·exact had w
      ·simp at w
     ·rcases List.mem_cons.mp ha with w | w
      ·rw [w]; simp
      ·rcases set_flat_sub w with w | w
       ·exact List.mem_cons_of_mem _ w
       ·simp at w
    ·rw [if_neg hk] at h; exact h.elim
 ·exact h.elim
end
section
variable {C:Cn} {cm:Bool} {k:Nat} {N:List Str} {sc:Scope} {As:EXs} {dpos:Pos}
theorem de_dicM{keys:List (Option Expr)}{values:List Expr}(ks:List (List Nat))(hp:DP C cm k N sc dpos keys values (ks.map fun l=>(⟨l.toArray⟩:Str)) As)(hall:keys.all (·.isSome)=true:=by rfl)(hkl:keys.length=values.length:=by rfl)(h0:keys ≠ []:=by exact List.cons_ne_nil _ _)(h15:keys.length≤15:=by decide)(hk15:ks.length≤15:=by decide)(hnd:ks.Nodup:=by decide)(hG:(ks.map fun l=>(PV.str l)).all keyG=true:=by rfl):DE C cm k N sc (.Dict keys values dpos) (eDicM ks As):=by
 obtain ⟨tp,pp,qp⟩:=hp
 refine ⟨fun W=>tDispN C.K ks (tp W),fun X S W T=>by rw [← S.KK]; exact pe_dispN (pp X S W T) hall hkl h0 h15 hk15 hnd,fun W σ Γ F0 H0 F H Q g h ad hp hd=>?_⟩
 have e0:Ext F H F (upd H ad (dHO ad dNew)):=Ext.new g.ext.fh g.ext.tp (fun _ z=>by cases z) hp
 refine qp W σ Γ F0 H0 F (upd H ad (dHO ad dNew)) _ (g.next e0) ?_
 have h:EOk C W σ F H Q (eDicM ks As Γ):=h
 unfold eDicM at h
 cases eA:As Γ with
 | bad=>rw [eA] at h; exact h.elim
 | exc c=>rw [eA] at h; exact fun F' H' e'=>h F' H' (e0.trans e')
 | ok xs =>
  rw [eA,bind_ok] at h
  intro vs fp F2 H2 e2 rvs hlen
  rw [List.length_map] at hlen
  split at h
  ·rename_i r
   obtain ⟨v1,r1,f1,g1,rfl,rfl,rf,rrest,ap,nw⟩:=rvs
   cases hps:putVs r with
   | exc c=>exact (putVs_noexc hps).elim
   | bad=>rw [hps] at h; exact h.elim
   | ok ps =>
    rw [hps,bind_ok] at h
    obtain ⟨F3,e3,s3,r3,s4⟩:=RVs.put e2 rrest hps
    by_cases hl:(decide (ps.length+1=ks.length) && ps.all (fun p=>!boxed p))=true
    ·rw [if_pos hl] at h
     rw [Bool.and_eq_true,decide_eq_true_eq] at hl
     have hD:H2 ad=some (dHO ad dNew):=e2.hh _ _ upd_same
     have fD:F3 ad=none:=by
      cases z:F3 ad with
      | none=>rfl
      | some o =>
       rcases e3.nw ad (by rw [z]; simp) with q | q
       ·exact absurd (g.ext.fh.free hp) q
       ·rw [upd_same] at q; cases q
     refine ⟨hD,v1 :: r1,by rw [List.map_map]; rfl,hlen,fun o' lk=>?_⟩
     have dk:DicK C.K F3 o' ((ks.map fun l=>PV.str l).map nkOf) (v1 :: r1):=.inl (by rw [List.map_map]; exact lk)
     have eF:Ext F H F3 (upd H2 ad (dHO ad o')):=by
      refine ⟨e3.ff,fun a o z=>?_,fun a o z=>?_,tups_new e3.tp (fun _ z=>by cases z) fD,fun a z=>?_⟩
      ·rw [upd_ne (ne_of_none z hp)]; exact e2.hh _ _ (by rw [upd_ne (ne_of_none z hp)]; exact z)
      ·rw [upd_ne (ne_of_none z fD)]; exact e3.fh _ _ z
      ·rcases e3.nw a z with q | q
       ·exact .inl q
       ·by_cases ha:a=ad
        ·subst ha; exact .inr hp
        ·rw [upd_ne ha] at q; exact .inr q
     have hne:∀ a∈f1,a ≠ ad:=fun a ha q=>by
      have:=(nw a ha).1
      rw [q,upd_same] at this; cases this
     have o1:=Own.mono s3 1 rf.1 (H':=upd H2 ad (dHO ad o')) fun a ha=>upd_ne (hne a ha)
     refine h _ F3 _ eF ⟨ad :: ((f1 :: ps.map fun _=>[]):List (List Addr)).flatten,own_mkD (vs:=v1 :: r1) upd_same hd dk hG ⟨o1,ownl_flatU r3 hl.2⟩,?_,fun b hb=>?_⟩
     ·rw [List.flatten_cons,flat_nil,List.append_nil]
      exact List.nodup_cons.mpr ⟨fun q=>hne ad q rfl,rf.2.1⟩
     ·rw [List.flatten_cons,flat_nil,List.append_nil] at hb
      rcases List.mem_cons.mp hb with q | q
      ·rw [q]; exact ⟨fD,hp⟩
      ·refine ⟨?_,?_⟩
       ·cases z:F3 b with
        | none=>rfl
        | some o =>
         rcases s4 b (by rw [z]; simp) with w | w
         ·exact (w (rf.2.2 b q).1).elim
         ·exact (ap b q w).elim
       ·have:=(nw b q).1
        rw [upd_ne (hne b q)] at this
        exact this
    ·rw [if_neg hl] at h; exact h.elim
  ·exact h.elim
end
end Vl
end
section
set_option Elab.async false
set_option linter.all false
set_option maxRecDepth 100000
set_option maxHeartbeats 1000000
namespace Vl
open PySem L2 Vm PyProof.Rows
section
variable {C:Cn} {cm:Bool} {k:Nat} {N:List Str} {sc so:Scope} {a b c e o tg e1 e2 e3:Expr} {es:List Expr} {A B A1 A2 A3:EX} {As:EXs} {T U:TX} {pos p tpos apos apos2 cpos p1 p2 pos' kpos:Pos} {X:Cx} {x fname m ky:Str}
variable {F0 H0 F H F1 H1:Hp} {Γ:En} {σ:L2.St} {W:WX} {D:Ends} {js:List (Nat×Tg)} {ts:List Tg} {n j:Nat}
theorem q_cons{ta:WX→TE}{tb:WX→TA}(qa:∀ W σ Γ F0 H0 F H Q,Good C.K F0 H0 Γ σ F H→EOk C W σ F H Q (A Γ)→ta W σ H Q)(qb:∀ W σ Γ F0 H0 F H Q,Good C.K F0 H0 Γ σ F H→AOk C W σ F H Q (As Γ)→tb W σ H Q) :
  ∀ W σ Γ F0 H0 F H Q,Good C.K F0 H0 Γ σ F H→AOk C W σ F H Q (eCons A As Γ)→tCons (ta W) (tb W) σ H Q:=fun W σ Γ F0 H0 F H Q g h=>by
 refine qa W σ Γ F0 H0 F H _ g ?_
 unfold eCons at h
 cases ex:A Γ with
 | exc c=>rw [ex] at h; exact h
 | bad=>rw [ex] at h; exact h
 | ok x =>
  rw [ex,bind_ok] at h
  intro v F1 H1 e1 r1
  refine qb W σ Γ F0 H0 F1 H1 _ (g.next e1) ?_
  cases exs:As Γ with
  | exc c=>rw [exs] at h; exact fun F' H' e'=>h F' H' (e1.trans e')
  | bad=>rw [exs] at h; exact h
  | ok xs =>
   rw [exs,bind_ok] at h
   intro vs fp F2 H2 e2 r2
   obtain ⟨f,rf,hf⟩:=r1.norm
   refine h (v :: vs) (f++fp) F2 H2 (e1.trans e2) ⟨v,vs,f,fp,rfl,rfl,rf.ext e2,r2.start e1.hh,fun a ha hm=>(hf a ha).2 (r2.news a hm).1,fun a ha=>⟨(hf a ha).1,fun z=>(hf a ha).2 (e2.hh.free z)⟩⟩
theorem q_nil:∀ (W:WX) (σ:L2.St) (Γ:En) (F0 H0 F H:Hp) (Q:List V→Hp→Prop),Good C.K F0 H0 Γ σ F H→AOk C W σ F H Q (eNil Γ)→tNil σ H Q:=fun W σ Γ F0 H0 F H Q g h=>h [] [] F H g.here ⟨rfl,rfl⟩
def BindK(K:PySem.W.Frag)(fd:FuncData)(ps:List Str)(ky:Str):Prop:=∀ (s:Shared) (us:List Value) (w:Value),K.In s.heap→us.length+1=ps.length→BindsTo s fd ⟨us,[(ky,w)]⟩ (ps.zip (us++[w]))
structure CalHK (C:Cn) (m ky:Str) (j:Nat) (ts:List Tg) (f:FX):Prop where
 ex:∃ ad fd ps Ch,ps.length=ts.length∧FnOk C.P C.w C.K C.mg C.base (L2.CX C.P C.w) j ad fd ps (spX C ts f)∧BindK C.K fd ps ky∧C.mg "House" = some (.ref Ch)∧Cls C.K Ch∧Meth C.K Ch m ad
theorem run_fnSK{CX:CXT}{k:Nat}{f:Addr}{fd:FuncData}{ps:List Str}{sp:Sp}{E:L2.St→XK}{pins:List (Addr×Obj)}{σ:L2.St}{H:Hp}{s:Shared}{Q:VK}{us:List Value}{vs:List V}{z:V}{w:Value}(F:FnOk X.prog X.w X.K X.mg X.base CX k f fd ps sp)(hr:Room k X.A)(hb:BindK X.K fd ps ky)(hx:PassesAt CX X σ (E σ))
  (I:Inv X pins σ H s)(r:Vals vs us)(rw':RelV z w)(h:sp (vs++[z]) H Q (E σ)):wpAny (model X.prog X.w) X.A (call (.ref f) us [(ky,w)]) (EP X pins σ Q) X.xe s:=by
 have r2:Vals (vs++[z]) (us++[w]):=r.append (.cons rw' .nil)
 have hl:(us++[w]).length=ps.length:=by rw [← r2.length]; exact F.len _ _ _ _ h
 refine wpAny_call (codeAny_mono (F.run X.A X.stack s H ⟨us,[(ky,w)]⟩ (us++[w]) (vs++[z]) Q (E σ) hr I.env0 (hb s us w I.kIn (by simpa using hl)) r2 h) fun r s' hq=>?_)
 cases r with
 | error e=>exact hx pins H s e s' I hq
 | ok fl =>
  cases fl with
  | ret u=>exact I.after hq
  | next=>exact False.elim hq
  | brk=>exact False.elim hq
  | cont=>exact False.elim hq
def tMethK(Ch:Addr)(m:Str)(sp:Sp)(E:L2.St→XK)(ta:TE)(t:TA)(tk:TE):TE:=fun σ H Q=>ta σ H fun x H1=>∃ a dx fs,x = .ref a∧H1 a=some (.ins Ch dx fs)∧fs.lookup m=none∧t σ H1 fun vs H2=>tk σ H2 fun z H3=>sp (x :: (vs++[z])) H3 Q (E σ)
theorem pe_methK{CX:CXT}{k:Nat}{Ch f:Addr}{fd:FuncData}{ps:List Str}{sp:Sp}{E:L2.St→XK}{ta tk:TE}{t:TA}{pl:Sem Bool}(he:PE X o ta)(c:Cls X.K Ch)(hm:Meth X.K Ch m f)(F:FnOk X.prog X.w X.K X.mg X.base CX k f fd ps sp)(hr:Room k X.A)(hb:BindK X.K fd ps ky)(hx:∀ σ,PassesAt CX X σ (E σ))(ha:PA X (e :: es) t)(hk:PE X e3 tk)
  (hst:starEach (e :: es) X.env=(false,eval e X.env) :: starEach es X.env)(hall:(backToKw pos (keywordEach [⟨some ky,e3,kpos⟩] X.env)).all (·.1.isSome)=true)(hks:(backToKw pos (keywordEach [⟨some ky,e3,kpos⟩] X.env)).filterMap (·.1)=[ky])
  (hpl:((backTo pos (starEach (e :: es) X.env)).any (·.1) || (backToKw pos (keywordEach [⟨some ky,e3,kpos⟩] X.env)).any (·.1.isNone))=false)
  (ht:eval (.Call (.Attribute o m apos) (e :: es) [⟨some ky,e3,kpos⟩] pos) X.env=(do
   let ov ← eval o X.env
   standAt apos.atName
   let (f,first) ← holding [ov] (getMethod ov m pl)
   callWith pos f first (backTo pos (starEach (e :: es) X.env)) (backToKw pos (keywordEach [⟨some ky,e3,kpos⟩] X.env)))) :
  PE X (.Call (.Attribute o m apos) (e :: es) [⟨some ky,e3,kpos⟩] pos) (tMethK Ch m sp E ta t tk):=by
 refine ⟨fun pins s σ H Q I h=>?_⟩
 refine PySem.W.methodCall_KW (pl:=pl) (thn (he.run pins s σ H _ I h) fun u s1 ⟨x,H1,I1,rx,a,dx,fs,ex,ea,l,q⟩=>?_) ht
 subst ex
 obtain rfl:u=Value.ref a:=rx
 refine getmeth_ok I1 ea c hm l ?_
 refine PySem.W.callWith_KW (first:=[.ref a]) (h₀:=X.base) I.ok.mod.kin hm.kp hall (thn (ha.run pos pins s1 σ H1 _ I1 q) fun us s2 ⟨vs,H2,I2,r,q2⟩=>?_) hpl hst
 have q3:tCons tk tNil σ H2 (fun zs H3=>∃ z,zs=[z]∧sp (.ref a :: (vs++[z])) H3 Q (E σ)):=by
  show tk σ H2 (fun z H3=>∃ z',[z]=[z']∧sp (.ref a :: (vs++[z'])) H3 Q (E σ))
  have:(fun z H3=>∃ z',[z]=[z']∧sp (.ref a :: (vs++[z'])) H3 Q (E σ))=fun z H3=>sp (.ref a :: (vs++[z])) H3 Q (E σ):=by
   funext z H3
   refine propext ⟨fun ⟨z',e,h⟩=>?_,fun h=>⟨z,rfl,h⟩⟩
   cases e; exact h
  rw [this]; exact q2
 refine thn ((pk_cons (nm:=some ky) (kpos:=kpos) hk pk_nil).run pos pins s2 σ H2 _ I2 q3) fun ws s3 ⟨zs,H3,I3,rz,z,ez,hsp⟩=>⟨I3.kIn,?_⟩
 subst ez
 cases rz with
 | cons r1 r2 =>
  cases r2
  rw [hks]
  exact run_fnSK (us:=.ref a :: us) (vs:=.ref a :: vs) F hr hb (hx σ) I3 (.cons rfl r) r1 hsp
theorem dc_methK {f:FX} {pl:PySem.Env→Sem Bool} (i0:Nat) (G:CalHK C m ky j ts f) (h1:DE C true k N sc e1 A1) (h2:DE C true k N sc e2 A2) (h3:DE C true k N sc e3 A3) (hts:ts=[Tg.ow 2,.fz,.fz,.fz]:=by rfl) (hj:j≤k:=by decide) (hm:noFld m=true:=by decide +kernel)
  (hN:N[i0]? = some x:=by rfl) (hv:Vis sc x:=by first | exact Or.inl rfl | exact Or.inr (Or.inl rfl) | exact Or.inr (Or.inr rfl)) (hd:(x == ("__debug__":Str))=false:=by decide) (hcd:(x == ("__classdict__":Str))=false:=by decide)
  (he:∀ env:PySem.Env,starEach [e1,e2] env=(false,eval e1 env) :: starEach [e2] env:=by intro _; rfl) (he2:∀ env:PySem.Env,starEach [e2] env=(false,eval e2 env) :: starEach [] env:=by intro _; rfl)
  (hall:∀ env:PySem.Env,(backToKw cpos (keywordEach [⟨some ky,e3,kpos⟩] env)).all (·.1.isSome)=true:=by intro _; rfl) (hks:∀ env:PySem.Env,(backToKw cpos (keywordEach [⟨some ky,e3,kpos⟩] env)).filterMap (·.1)=[ky]:=by intro _; rfl)
  (hpl:∀ env:PySem.Env,((backTo cpos (starEach [e1,e2] env)).any (·.1) || (backToKw cpos (keywordEach [⟨some ky,e3,kpos⟩] env)).any (·.1.isNone))=false:=by intro _; rfl)
  (ht:∀ env:PySem.Env,eval (.Call (.Attribute (.Name x p1) m apos) [e1,e2] [⟨some ky,e3,kpos⟩] cpos) env=(do
   let ov ← eval (.Name x p1) env
   standAt apos.atName
   let (f,first) ← holding [ov] (getMethod ov m (pl env))
   callWith cpos f first (backTo cpos (starEach [e1,e2] env)) (backToKw cpos (keywordEach [⟨some ky,e3,kpos⟩] env))):=by intro _; rfl) :
  DC C k N sc (.Call (.Attribute (.Name x p1) m apos) [e1,e2] [⟨some ky,e3,kpos⟩] cpos) true (dfX f 0) [(i0,.ow 2)] (eCons A1 (eCons A2 (eCons A3 eNil))):=by
 obtain ⟨t1,r1,q1⟩:=h1
 obtain ⟨t2,r2,q2⟩:=h2
 obtain ⟨t3,r3,q3⟩:=h3
 obtain ⟨ad,fd,ps,Ch,hps,Fk,bn,hmg,cl,mt⟩:=G.ex
 refine ⟨fun W=>tMethK Ch m (spX C ts f) (WE W) (tVar i0) (tCons (t1 W) (tCons (t2 W) tNil)) (t3 W),fun X S W T=>?_,fun W σ Γ F0 H0 F H Q g h=>?_⟩
 ·have cn:=S.cn
  subst cn
  exact pe_methK (pe_var (by rw [S.n]; exact hN) (by rw [S.s]; exact hv) hd hcd) cl mt Fk ((S.r rfl).mono hj) bn (fun σ=>passAt T σ) (pa_cons (r1 X S W T) (pa_cons (r2 X S W T) pa_nil (he2 _)) (he _)) (r3 X S W T) (he _) (hall _) (hks _) (hpl _) (ht _)
 ·obtain ⟨vs1,l1,v1,r⟩:=cx_runD (ts:=ts) (n:=3) (nd:=0) (ta:=fun W=>tCons (t1 W) (tCons (t2 W) (tCons (t3 W) tNil))) (q_cons q1 (q_cons q2 (q_cons q3 q_nil))) (by rw [hts]; rfl) (al_cons (al_cons (al_cons al_nil))) (by simp) g h
  unfold CXok at h
  cases et0:takeH true Γ [(i0,.ow 2)] with
  | none=>rw [et0] at h; exact h.elim
  | some ps0 =>
   obtain ⟨et,hh⟩:=takeH_ok et0
   have hh:=hh rfl
   obtain ⟨_,t2'⟩:=take_spec et
   match ps0,hh with
   | .exo 0 l :: ps',_ =>
    have hg:=t2' 0 i0 (.ow 2) (.exo 0 l) rfl rfl
    obtain ⟨a,Ch',dx,vs0,fps,hv0,z1,z2,_⟩:=good_hs g hg
    cases (show some (Value.ref Ch)=some (Value.ref Ch') from hmg.symm.trans z2)
    obtain ⟨v,hv1,hv2⟩:=v1 0 i0 (.ow 2) rfl
    rw [hv0] at hv2
    cases hv2
    match vs1,l1,hv1,v1,r with
    | [w],l1,hv1,v1,r =>
     cases hv1
     exact ⟨.ref a,hv0,a,dx,_,rfl,z1,fldZ_no hm _,r⟩
end
theorem bindK_of{K:PySem.W.Frag}{x qual:Str}{params:Arguments}{body:List Stmt}{scope:Scope}{dvs:List V}{f:Addr}{fd:FuncData}{ps:List Str}{ky:Str}(F:FunD K x qual params body scope dvs [] f fd)(n:Nat)(hd:dvs ≠ [])(hn:n+1=ps.length)
  (h:∀ (T:Addr) (kV doc pm:Value) (an:Option Addr) (cdv ct:Value) (us its:List Value) (w:Value),us.length=n→its.length=dvs.length →
   ∃ k,bindArgs (PySem.W.fnOf x qual params body scope (.ref T) kV doc pm an cdv ct) ⟨us,[(ky,w)]⟩=seqItems? (.ref T) >>= k∧k (some its.toArray)=pure (ps.zip (us++[w]))):BindK K fd ps ky:=by
 obtain ⟨oc,od,dV,kV,doc,pm,an,cdv,ct,osl,rfl,lk,hcd,hD,hK⟩:=F.ex
 rcases hD with ⟨e,_⟩ | ⟨_,T,o,its,m,rfl,lT,oT,rT⟩
 ·exact absurd e hd
 ·refine fun s us w X hlen=>?_
  have l1:its.length=dvs.length:=rT.length.symm
  obtain ⟨k,e1,e2⟩:=h T kV doc pm an cdv ct us its w (by omega) l1
  refine BindsTo.of_looks fun M=>?_
  rw [e1]
  exact looks_items X lT oT (.of_pure e2)
end Vl
end
section
set_option Elab.async false
set_option linter.all false
set_option maxRecDepth 100000
set_option maxHeartbeats 4000000
namespace Vm
noncomputable def d_is_word:FN:=runFn 1 2
 (dSeq (dIf (xOr (xVal (eOp2 opEq (eLen (eVar 0)) (eC (.int 0)))) (xVal (eOp2 opGt (eLen (eVar 0)) (eC (.int 12)))))
 (dRet (eC (.bl false)))
 (dNil))
 (dRet (eAll (eLC [1] (jSeq (eVar 0)) (.v 1) (xYes) (eOp2 opIn (eVar 1) (eC (.str [97,98,99,100,101,102,103,104,105,106,107,108,109,110,111,112,113,114,115,116,117,118,119,120,121,122])))))))
noncomputable def d_law_cell:FN:=runFn 2 2
 (dSeq (dIf (xVal (eOp2 opLt (eVar 1) (eLen (eVar 0))))
 (dRet (eIdx (eVar 0) (eVar 1)))
 (dNil))
 (dRet (eC (.int 0))))
noncomputable def d_law_word:FN:=runFn 1 4
 (dSeq (dSet 1 (eOp2 opFdiv (eVar 0) (eC (.int 12))))
 (dSeq (dSetO 2 (eLst (eNil)))
 (dSeq (dFor (jRange (eAdd (eC (.int 1)) (eOp2 opMod (eVar 0) (eC (.int 12))))) (.v 3) [3]
 (dSeq (dApp 2 (eIdx (eC (.str [97,98,99,100,101,102,103,104,105,106,107,108,109,110,111,112,113,114,115,116,117,118,119,120,121,122])) (eOp2 opMod (eVar 1) (eC (.int 26)))))
 (dSet 1 (eOp2 opFdiv (eVar 1) (eC (.int 26))))))
 (dRet (eTxt joinV (eC (.str [])) (eVar 2))))))
noncomputable def d_law_other:FN:=runFn 3 6
 (dSeq (dSet 3 (eOp2 opMod (eVar 1) (eLen (eVar 0))))
 (dSeq (dSet 4 (eC (.str [97,98,99,100,101,102,103,104,105,106,107,108,109,110,111,112,113,114,115,116,117,118,119,120,121,122])))
 (dSeq (dSet 5 (eIdx (eVar 4) (eOp2 opMod (eAdd (eAdd (eTxt indexSV (eVar 4) (eIdx (eVar 0) (eVar 3))) (eC (.int 1))) (eOp2 opMod (eVar 2) (eC (.int 25)))) (eC (.int 26)))))
 (dRet (eAdd (eAdd (eSlice (eVar 0) (oNone) (oSome (eVar 3))) (eVar 5)) (eSlice (eVar 0) (oSome (eAdd (eVar 3) (eC (.int 1)))) (oNone)))))))
noncomputable def d_law_row:FN:=runFn 1 5
 (dSeq (dSetO 1 (eLst (eNil)))
 (dSeq (dFor (jSeq (eVar 0)) (.v 2) [2,3,4]
 (dSeq (dSet 3 (eOp2 opMod (eVar 2) (eC (.int 5))))
 (dSeq (dSet 4 (eCall d_law_word (eCons (eOp2 opFdiv (eVar 2) (eC (.int 5))) (eNil))))
 (dSeq (dIf (xAnd (xVal (eOp2 opEq (eVar 3) (eC (.int 1)))) (xVal (eOp2 opGt (eLen (eVar 1)) (eC (.int 0)))))
 (dSet 4 (eIdx (eVar 1) (eOp1 opNeg (eC (.int 1)))))
 (dNil))
 (dSeq (dIf (xAnd (xVal (eOp2 opEq (eVar 3) (eC (.int 2)))) (xVal (eOp2 opGt (eLen (eVar 1)) (eC (.int 0)))))
 (dSet 4 (eCall d_law_other (eCons (eIdx (eVar 1) (eOp1 opNeg (eC (.int 1)))) (eCons (eOp2 opFdiv (eVar 2) (eC (.int 5))) (eCons (eOp2 opFdiv (eVar 2) (eC (.int 60))) (eNil))))))
 (dNil))
 (dSeq (dIf (xAnd (xVal (eOp2 opEq (eVar 3) (eC (.int 3)))) (xVal (eOp2 opGt (eLen (eVar 1)) (eC (.int 0)))))
 (dSet 4 (eIdx (eVar 1) (eOp2 opMod (eOp2 opFdiv (eVar 2) (eC (.int 5))) (eLen (eVar 1)))))
 (dNil))
 (dApp 1 (eVar 4))))))))
 (dRetV 1)))
noncomputable def d_law_alike_v2:Nat→FN
 | 0=>fun _=>.bad
 | n+1=>runFn 2 3 (
  dSeq (dIf (xVal (eIsI (eVar 1) "tuple"))
 (dSeq (dIf (xOr (xNot (xVal (eIsI (eVar 0) "tuple"))) (xVal (eOp2 opNe (eLen (eVar 0)) (eLen (eVar 1)))))
 (dRet (eC (.bl false)))
 (dNil))
 (dSeq (dFor (jRange (eLen (eVar 1))) (.v 2) [2]
 (dIf (xNot (xVal (eCall (d_law_alike_v2 n) (eCons (eIdx (eVar 0) (eVar 2)) (eCons (eIdx (eVar 1) (eVar 2)) (eNil))))))
 (dRet (eC (.bl false)))
 (dNil)))
 (dRet (eC (.bl true)))))
 (dNil))
 (dSeq (dIf (xVal (eOp1 opIsN (eVar 1)))
 (dRet (eOp1 opIsN (eVar 0)))
 (dNil))
 (dSeq (dIf (xVal (eIsI (eVar 1) "str"))
 (dRet (eAnd (eIsI (eVar 0) "str") (eOp2 opEq (eVar 0) (eVar 1))))
 (dNil))
 (dRet (eAnd (eIsI (eVar 0) "int") (eAnd (eOp1 opNot (eIsI (eVar 0) "bool")) (eOp2 opEq (eVar 0) (eVar 1))))))))
noncomputable def d_law_name:FN:=runFn 1 1
 (dSeq (dIf (xVal (eOp2 opEq (eOp2 opMod (eVar 0) (eC (.int 11))) (eC (.int 1))))
 (dRet (eIdx (eLst (eCons (eC (.str [])) (eCons (eC (.str [65,98])) (eCons (eC (.str [97,32,98])) (eCons (eC (.str [97,49])) (eCons (eC (.str [97,98,99,100,101,102,103,104,105,106,107,108,109])) (eCons (eC (.str [97,58])) (eCons (eC (.str [45])) (eCons (eC (.str [97,10])) (eNil)))))))))) (eOp2 opMod (eOp2 opFdiv (eVar 0) (eC (.int 11))) (eC (.int 8)))))
 (dNil))
 (dRet (eCall d_law_word (eCons (eOp2 opMod (eOp2 opFdiv (eVar 0) (eC (.int 11))) (eC (.int 36))) (eNil)))))
noncomputable def d_law_kind_v1:FN:=runFn 1 2
 (dSeq (dSet 1 (eLst (eCons (eIsE [(6,true),(8,false),(7,false)] (eVar 0)) (eCons (eIsE [(6,false),(8,false),(7,true)] (eVar 0)) (eCons (eIsE [(6,false),(8,true),(7,false)] (eVar 0)) (eNil))))))
 (dSeq (dIf (xOr (xVal (eIsEs [[(6,false),(8,false),(7,false)],[(6,false),(8,false),(7,false)],[(6,false),(8,false),(7,false)],[(6,false),(8,false),(7,false)],[(6,false),(8,false),(7,false)]] (eVar 0))) (xVal (eOp2 opNe (eCount (eVar 1) (eC (.bl true))) (eC (.int 1)))))
 (dRet (eC (.str [111,116,104,101,114])))
 (dNil))
 (dRet (eIdx (eLst (eCons (eC (.str [110,97,109,101])) (eCons (eC (.str [116,119,105,99,101])) (eCons (eC (.str [109,97,110,121])) (eNil))))) (eIndexQ (eVar 1) (eC (.bl true)))))))
noncomputable def d_House_put:FX:=runX [.ow 2,.fz,.fz,.fz] 4
 (dSeq (dIf (xNot (xVal (eCall d_is_word (eCons (eVar 1) (eNil)))))
 (dRaise 6)
 (dNil))
 (dSeq (dIf (xVal (eOp2 opDIn (eVar 1) (eFld 0 (eVar 0))))
 (dRaise 7)
 (dNil))
 (dSeq (dIf (xVal (eOp2 opGe (eDLen (eFld 0 (eVar 0))) (eC (.int 30))))
 (dRaise 8)
 (dNil))
 (dSeq (dFPut 0 0 (eVar 1) (eVar 2))
 (dFPut 0 1 (eVar 1) (eVar 3))))))
noncomputable def d_House_look_for:FN:=runFn 2 2
 (dIf (xVal (eOp2 opDNotIn (eVar 1) (eFld 0 (eVar 0))))
 (dRaise 6)
 (dNil))
noncomputable def d_House_take:FX:=runX [.ow 2,.fz] 2
 (dSeq (dEx (eMeth d_House_look_for (eVar 0) (eCons (eVar 1) (eNil))))
 (dSeq (dFPop 0 0 (eVar 1))
 (dFPop 0 1 (eVar 1))))
noncomputable def d_House_set_prices:FX:=runX [.ow 2,.fz] 2
 (dFSet 0 2 (eVar 1))
noncomputable def d_House_set_fresh:FX:=runX [.ow 2,.fz] 2
 (dFSet 0 3 (eVar 1))
noncomputable def d_law_done:FX:=runX [.ow 2,.fz] 4
 (dSeq (dSet 2 (eC (.str [110,111,110,101])))
 (dSeq (dTryT [(6,true),(8,true),(7,true)] 3 (dIf (xAnd (xVal (eOp2 opEq (eIdx (eVar 1) (eC (.int 0))) (eC (.str [112,117,116])))) (xVal (eOp1 opIsN (eIdx (eVar 1) (eC (.int 3))))))
 (dSetX 2 true (dfX d_House_put 1) [(0,.ow 2)] (eCons (eIdx (eVar 1) (eC (.int 1))) (eCons (eIdx (eVar 1) (eC (.int 2))) (eNil))))
 (dIf (xAnd (xVal (eOp2 opEq (eIdx (eVar 1) (eC (.int 0))) (eC (.str [112,117,116])))) (xVal (eOp2 opEq (eOp2 opMod (eIdx (eVar 1) (eC (.int 3))) (eC (.int 2))) (eC (.int 0)))))
 (dSetX 2 true (dfX d_House_put 0) [(0,.ow 2)] (eCons (eIdx (eVar 1) (eC (.int 1))) (eCons (eIdx (eVar 1) (eC (.int 2))) (eCons (eIdx (eVar 1) (eC (.int 3))) (eNil)))))
 (dIf (xVal (eOp2 opEq (eIdx (eVar 1) (eC (.int 0))) (eC (.str [112,117,116]))))
 (dSetX 2 true (dfX d_House_put 0) [(0,.ow 2)] (eCons (eIdx (eVar 1) (eC (.int 1))) (eCons (eIdx (eVar 1) (eC (.int 2))) (eCons (eIdx (eVar 1) (eC (.int 3))) (eNil)))))
 (dIf (xVal (eOp2 opEq (eIdx (eVar 1) (eC (.int 0))) (eC (.str [116,97,107,101]))))
 (dSetX 2 true (dfX d_House_take 0) [(0,.ow 2)] (eCons (eIdx (eVar 1) (eC (.int 1))) (eNil)))
 (dIf (xVal (eOp2 opEq (eIdx (eVar 1) (eC (.int 0))) (eC (.str [112,114,105,99,101,115]))))
 (dSetX 2 true (dfX d_House_set_prices 0) [(0,.ow 2)] (eCons (eIdx (eVar 1) (eC (.int 1))) (eNil)))
 (dSetX 2 true (dfX d_House_set_fresh 0) [(0,.ow 2)] (eCons (eIdx (eVar 1) (eC (.int 1))) (eNil))))))))
 (dSet 2 (eCall d_law_kind_v1 (eCons (eVar 3) (eNil)))))
 (dRetF (eVar 2))))
noncomputable def d_law_is_name:FN:=runFn 1 2
 (dRet (eAnd (eChain opLe opLe (eC (.int 1)) (eLen (eVar 0)) (eC (.int 12))) (eAll (eLC [1] (jSeq (eVar 0)) (.v 1) (xYes) (eOp2 opIn (eVar 1) (eC (.str [97,98,99,100,101,102,103,104,105,106,107,108,109,110,111,112,113,114,115,116,117,118,119,120,121,122])))))))
noncomputable def d_law_due_v9:FX:=runX [.ow 2,.fz] 4
 (dSeq (dSet 2 (eLC [3] (jSeq (eDIdx (eVar 0) (eC (.str [99,111,112,105,101,115])))) (.v 3) (xYes) (eIdx (eVar 3) (eC (.int 0)))))
 (dSeq (dIf (xVal (eOp2 opEq (eIdx (eVar 1) (eC (.int 0))) (eC (.str [112,117,116]))))
 (dSeq (dIf (xNot (xVal (eCall d_law_is_name (eCons (eIdx (eVar 1) (eC (.int 1))) (eNil)))))
 (dRetF (eC (.str [110,97,109,101])))
 (dNil))
 (dSeq (dIf (xVal (eOp2 opIn (eIdx (eVar 1) (eC (.int 1))) (eVar 2)))
 (dRetF (eC (.str [116,119,105,99,101])))
 (dNil))
 (dSeq (dIf (xVal (eOp2 opGe (eLen (eVar 2)) (eC (.int 30))))
 (dRetF (eC (.str [109,97,110,121])))
 (dNil))
 (dDApp 0 (eC (.str [99,111,112,105,101,115])) (eSlice (eVar 1) (oSome (eC (.int 1))) (oNone))))))
 (dNil))
 (dSeq (dIf (xVal (eOp2 opEq (eIdx (eVar 1) (eC (.int 0))) (eC (.str [116,97,107,101]))))
 (dSeq (dIf (xVal (eOp2 opNotIn (eIdx (eVar 1) (eC (.int 1))) (eVar 2)))
 (dRetF (eC (.str [110,97,109,101])))
 (dNil))
 (dDPopAt 0 (eC (.str [99,111,112,105,101,115])) (eIndexQ (eVar 2) (eIdx (eVar 1) (eC (.int 1))))))
 (dNil))
 (dSeq (dIf (xOr (xVal (eOp2 opEq (eIdx (eVar 1) (eC (.int 0))) (eC (.str [112,114,105,99,101,115])))) (xVal (eOp2 opEq (eIdx (eVar 1) (eC (.int 0))) (eC (.str [102,114,101,115,104])))))
 (dDSet2 0 (eIdx (eVar 1) (eC (.int 0))) (eIdx (eVar 1) (eC (.int 1))))
 (dNil))
 (dRetF (eC .non))))))
noncomputable def d_law_deed:FN:=runFn 2 8
 (dSeq (dSet 2 (eIdx (eVar 0) (eVar 1)))
 (dSeq (dSet 3 (eAdd (eSlice (eVar 0) (oSome (eVar 1)) (oSome (eAdd (eVar 1) (eC (.int 8))))) (eSlice (eVar 0) (oNone) (oSome (eC (.int 8))))))
 (dSeq (dSet 4 (eIdx (eLst (eCons (eC (.str [112,117,116])) (eCons (eC (.str [112,117,116])) (eCons (eC (.str [116,97,107,101])) (eCons (eC (.str [112,117,116])) (eCons (eC (.str [112,114,105,99,101,115])) (eCons (eC (.str [102,114,101,115,104])) (eCons (eC (.str [116,97,107,101])) (eNil))))))))) (eOp2 opMod (eVar 2) (eC (.int 7)))))
 (dSeq (dSet 5 (eCall d_law_name (eCons (eOp2 opFdiv (eVar 2) (eC (.int 7))) (eNil))))
 (dSeq (dIf (xVal (eOp2 opEq (eVar 4) (eC (.str [112,117,116]))))
 (dSeq (dSet 6 (eC .non))
 (dSeq (dIf (xVal (eOp2 opGt (eOp2 opMod (eOp2 opFdiv (eVar 2) (eC (.int 7))) (eC (.int 3))) (eC (.int 0))))
 (dSet 6 (eOp2 opMod (eIdx (eVar 3) (eC (.int 1))) (eAdd (eOp2 opPow (eC (.int 10)) (eC (.int 9))) (eC (.int 1)))))
 (dNil))
 (dRet (eTup (eCons (eC (.str [112,117,116])) (eCons (eVar 5) (eCons (eTuple (eCall d_law_row (eCons (eSlice (eVar 3) (oNone) (oSome (eOp2 opMod (eOp2 opFdiv (eVar 2) (eC (.int 21))) (eC (.int 6))))) (eNil)))) (eCons (eVar 6) (eNil)))))))))
 (dNil))
 (dSeq (dIf (xVal (eOp2 opEq (eVar 4) (eC (.str [116,97,107,101]))))
 (dRet (eTup (eCons (eC (.str [116,97,107,101])) (eCons (eVar 5) (eNil)))))
 (dNil))
 (dSeq (dIf (xVal (eOp2 opEq (eVar 4) (eC (.str [112,114,105,99,101,115]))))
 (dRet (eTup (eCons (eC (.str [112,114,105,99,101,115])) (eCons (eTuple (eLC [7] (jRange (eC (.int 7))) (.v 7) (xYes) (eOp2 opMod (eOp2 opFdiv (eIdx (eVar 3) (eOp2 opMod (eVar 7) (eLen (eVar 3)))) (eAdd (eVar 7) (eC (.int 1)))) (eAdd (eOp2 opPow (eC (.int 10)) (eC (.int 30))) (eC (.int 1)))))) (eNil)))))
 (dNil))
 (dRet (eTup (eCons (eC (.str [102,114,101,115,104])) (eCons (eOp2 opMod (eOp2 opFdiv (eVar 2) (eC (.int 7))) (eAdd (eOp2 opPow (eC (.int 10)) (eC (.int 30))) (eC (.int 1)))) (eNil))))))))))))
noncomputable def d_House_day_of:FN:=runFn 2 2
 (dSeq (dEx (eMeth d_House_look_for (eVar 0) (eCons (eVar 1) (eNil))))
 (dRet (eDIdx (eFld 1 (eVar 0)) (eVar 1))))
noncomputable def d_House_row_of:FN:=runFn 2 2
 (dSeq (dEx (eMeth d_House_look_for (eVar 0) (eCons (eVar 1) (eNil))))
 (dRet (eDIdx (eFld 0 (eVar 0)) (eVar 1))))
noncomputable def d_law_of:FN:=runFn 3 4
 (dSeq (dSet 3 (eC .non))
 (dSeq (dTry1 [(6,true),(8,false),(7,false)] (dIf (xVal (eVar 2))
 (dSet 3 (eMeth d_House_day_of (eVar 0) (eCons (eVar 1) (eNil))))
 (dSet 3 (eMeth d_House_row_of (eVar 0) (eCons (eVar 1) (eNil)))))
 (dSet 3 (eC (.str [110,111,32,110,97,109,101]))))
 (dRetV 3)))
noncomputable def d_House_fresh_price:FN:=runFn 1 1
 (dRet (eFld 3 (eVar 0)))
noncomputable def d_House_names:FN:=runFn 1 1
 (dRet (eTupleK (eFld 0 (eVar 0))))
noncomputable def d_House_slip_prices:FN:=runFn 1 1
 (dRet (eFld 2 (eVar 0)))
noncomputable def d_law_seen:FN:=runFn 3 8
 (dSeq (dSet 3 (eLC [7] (jSeq (eDIdx (eVar 1) (eC (.str [99,111,112,105,101,115])))) (.v 7) (xYes) (eIdx (eVar 7) (eC (.int 0)))))
 (dSeq (dIf (xOr (xNot (xVal (eCall (d_law_alike_v2 8) (eCons (eMeth d_House_names (eVar 0) eNil) (eCons (eTuple (eVar 3)) (eNil)))))) (xNot (xVal (eCall (d_law_alike_v2 8) (eCons (eMeth d_House_slip_prices (eVar 0) eNil) (eCons (eDIdx (eVar 1) (eC (.str [112,114,105,99,101,115]))) (eNil)))))))
 (dRet (eC (.bl false)))
 (dNil))
 (dSeq (dIf (xNot (xVal (eCall (d_law_alike_v2 8) (eCons (eMeth d_House_fresh_price (eVar 0) eNil) (eCons (eDIdx (eVar 1) (eC (.str [102,114,101,115,104]))) (eNil))))))
 (dRet (eC (.bl false)))
 (dNil))
 (dSeq (dFor (jSeq (eAdd (eLst (eCons (eVar 2) (eNil))) (eSlice (eVar 3) (oSome (eOp1 opNeg (eC (.int 1)))) (oNone)))) (.v 4) [4,5,6,7]
 (dSeq (dSet 5 (eCall d_law_of (eCons (eVar 0) (eCons (eVar 4) (eCons (eC (.bl false)) (eNil))))))
 (dSeq (dSet 6 (eCall d_law_of (eCons (eVar 0) (eCons (eVar 4) (eCons (eC (.bl true)) (eNil))))))
 (dIf (xVal (eOp2 opNotIn (eVar 4) (eVar 3)))
 (dIf (xOr (xVal (eOp2 opNe (eVar 5) (eC (.str [110,111,32,110,97,109,101])))) (xVal (eOp2 opNe (eVar 6) (eC (.str [110,111,32,110,97,109,101])))))
 (dRet (eC (.bl false)))
 (dNil))
 (dSeq (dSet 7 (eIdx (eDIdx (eVar 1) (eC (.str [99,111,112,105,101,115]))) (eIndexQ (eVar 3) (eVar 4))))
 (dIf (xOr (xNot (xVal (eCall (d_law_alike_v2 8) (eCons (eVar 5) (eCons (eIdx (eVar 7) (eC (.int 1))) (eNil)))))) (xNot (xVal (eCall (d_law_alike_v2 8) (eCons (eVar 6) (eCons (eIdx (eVar 7) (eC (.int 2))) (eNil)))))))
 (dRet (eC (.bl false)))
 (dNil)))))))
 (dRet (eC (.bl true)))))))
noncomputable def d_House___init__:FX:=runX [.ow 2] 1
 (dSeq (dFNew 0 0)
 (dSeq (dFNew 0 1)
 (dSeq (dFSet 0 2 (eTup (eCons (eC (.int 1)) (eCons (eC (.int 2)) (eCons (eC (.int 2)) (eCons (eC (.int 2)) (eCons (eC (.int 1)) (eCons (eC (.int 1)) (eCons (eC (.int 3)) (eNil))))))))))
 (dFSet 0 3 (eC (.int 100))))))
noncomputable def d_law_v66:FN:=runFn 1 11
 (dSeq (dSetO 1 (eHouse d_House___init__))
 (dSeq (dSetO 2 (eHouse d_House___init__))
 (dSeq (dSetO 3 (eDicM [[99,111,112,105,101,115],[112,114,105,99,101,115],[102,114,101,115,104]] (eCons (eLst (eNil)) (eCons (eTup (eCons (eC (.int 1)) (eCons (eC (.int 2)) (eCons (eC (.int 2)) (eCons (eC (.int 2)) (eCons (eC (.int 1)) (eCons (eC (.int 1)) (eCons (eC (.int 3)) (eNil))))))))) (eCons (eC (.int 100)) (eNil))))))
 (dSeq (dSet 4 (eDicN [[99,111,112,105,101,115],[112,114,105,99,101,115],[102,114,101,115,104]] (eCons (eLst (eNil)) (eCons (eTup (eCons (eC (.int 1)) (eCons (eC (.int 2)) (eCons (eC (.int 2)) (eCons (eC (.int 2)) (eCons (eC (.int 1)) (eCons (eC (.int 1)) (eCons (eC (.int 3)) (eNil))))))))) (eCons (eC (.int 100)) (eNil))))))
 (dSeq (dSet 5 (eLst (eNil)))
 (dSeq (dIf (xVal (eOp2 opEq (eOp2 opMod (eCall d_law_cell (eCons (eVar 0) (eCons (eC (.int 0)) (eNil)))) (eC (.int 6))) (eC (.int 1))))
 (dSet 5 (eLC [7] (jRange (eC (.int 28))) (.v 7) (xYes) (eTup (eCons (eC (.str [112,117,116])) (eCons (eCall d_law_word (eCons (eAdd (eVar 7) (eOp2 opMod (eOp2 opFdiv (eCall d_law_cell (eCons (eVar 0) (eCons (eC (.int 0)) (eNil)))) (eC (.int 6))) (eC (.int 9)))) (eNil))) (eCons (eTup (eNil)) (eCons (eC .non) (eNil))))))))
 (dNil))
 (dSeq (dSet 6 (eSlice (eVar 0) (oSome (eC (.int 2))) (oSome (eC (.int 122)))))
 (dSeq (dFor (jRange (eAdd (eLen (eVar 5)) (eLen (eVar 6)))) (.v 7) [7,8,9,10]
 (dSeq (dSet 8 (eIdx (eAdd (eVar 5) (eLst (eCons (eTup (eCons (eC (.str [116,97,107,101])) (eCons (eC (.str [])) (eNil)))) (eNil)))) (eOp2 opMin2 (eVar 7) (eLen (eVar 5)))))
 (dSeq (dIf (xVal (eOp2 opGe (eVar 7) (eLen (eVar 5))))
 (dSet 8 (eCall d_law_deed (eCons (eVar 6) (eCons (eOp2 opSub (eVar 7) (eLen (eVar 5))) (eNil)))))
 (dNil))
 (dSeq (dSetX 9 false d_law_due_v9 [(3,.ow 2)] (eCons (eVar 8) (eNil)))
 (dSeq (dSetX 10 false d_law_done [(1,.ow 2)] (eCons (eVar 8) (eNil)))
 (dSeq (dIf (xOr (xVal (eOp2 opNe (eVar 10) (eVar 9))) (xAnd (xVal (eOp1 opIsN (eVar 9))) (xVal (eOp1 opNotN (eVar 10)))))
 (dRet (eC (.bl false)))
 (dNil))
 (dIf (xAnd (xVal (eOp2 opGe (eVar 7) (eLen (eVar 5)))) (xNot (xVal (eCall d_law_seen (eCons (eVar 1) (eCons (eVar 3) (eCons (eCall d_law_name (eCons (eAdd (eCall d_law_cell (eCons (eVar 0) (eCons (eC (.int 1)) (eNil)))) (eVar 7)) (eNil))) (eNil))))))))
 (dRet (eC (.bl false)))
 (dNil))))))))
 (dRet (eCall d_law_seen (eCons (eVar 2) (eCons (eVar 4) (eCons (eC (.str [97])) (eNil))))))))))))))
end Vm
end
section
set_option Elab.async false
set_option linter.all false
set_option maxRecDepth 100000
set_option maxHeartbeats 4000000
namespace VP
open PySem PySem.Spec PyProof.Rows L2 Vm Vl
def topS (i : Nat) : Stmt := PySem.Challenge.pw_vellum_k56_deeds_of_a_house.main.body.getD i (.Pass ⟨0, 0, 0, 0⟩)
abbrev s_is_word:Stmt:=topS 13
theorem sc_is_word:FnScope ["text","sign"] ["text"] (defScope s_is_word):=⟨rfl,rfl,rfl,by decide +kernel,rfl,by decide +kernel,by decide +kernel⟩
theorem ok_is_word {C:Cn} {ad:Addr} {fd:FuncData} (F:Fun C.K "is_word" "is_word" s_is_word ad fd) (hm:C.mg "is_word" = some (.ref ad)) (hb:Binds C.K fd ["text"] []) (z_len:C.mg "len" = none) (z_all:C.mg "all" = none) (g_MOST_LETTERS:Glb C "MOST_LETTERS" (.int 12)) (g_WORD_LETTERS:Glb C "WORD_LETTERS" (.str [97,98,99,100,101,102,103,104,105,106,107,108,109,110,111,112,113,114,115,116,117,118,119,120,121,122])):Cal C "is_word" 1 1 d_is_word :=
 fn_ok F sc_is_word rfl rfl hm hb
 (ds_cons (ds_if (dt_chain (dw_or (dt_c (dc_eq (de_len (de_var 0) z_len) (de_int))) (dw_or1 (dt_c (dc_gt (de_len (de_var 0) z_len) (de_glb g_MOST_LETTERS))))))
 (ds_one (ds_ret (de_bl)))
 (ds_nil))
 (ds_one (ds_ret (de_all (de_lc (own:=[("sign",1)]) (di_seq (de_var 0)) (by decide +kernel) (dg_v 1) (df_nil) (de_c (dc_in (de_var 1) (de_glb g_WORD_LETTERS)))) z_all))))
abbrev s__law_cell:Stmt:=topS 18
theorem sc__law_cell:FnScope ["script","k"] ["script","k"] (defScope s__law_cell):=⟨rfl,rfl,rfl,by decide +kernel,rfl,by decide +kernel,by decide +kernel⟩
theorem ok__law_cell {C:Cn} {ad:Addr} {fd:FuncData} (F:Fun C.K "_law_cell" "_law_cell" s__law_cell ad fd) (hm:C.mg "_law_cell" = some (.ref ad)) (hb:Binds C.K fd ["script","k"] []) (z_len:C.mg "len" = none):Cal C "_law_cell" 2 1 d_law_cell :=
 fn_ok F sc__law_cell rfl rfl hm hb
 (ds_cons (ds_if (dt_c (dc_lt (de_var 1) (de_len (de_var 0) z_len)))
 (ds_one (ds_ret (de_idx (de_var 0) (de_var 1))))
 (ds_nil))
 (ds_one (ds_ret (de_int))))
abbrev s__law_word:Stmt:=topS 19
theorem sc__law_word:FnScope ["cell","rest","letters","k"] ["cell"] (defScope s__law_word):=⟨rfl,rfl,rfl,by decide +kernel,rfl,by decide +kernel,by decide +kernel⟩
theorem ok__law_word {C:Cn} {ad:Addr} {fd:FuncData} (F:Fun C.K "_law_word" "_law_word" s__law_word ad fd) (hm:C.mg "_law_word" = some (.ref ad)) (hb:Binds C.K fd ["cell"] []) (z_range:C.mg "range" = none):Cal C "_law_word" 1 1 d_law_word :=
 fn_ok F sc__law_word rfl rfl hm hb
 (ds_cons (ds_set 1 (de_fdiv (de_var 0) (de_int)))
 (ds_cons (ds_setO 2 (de_lst (da_nil)))
 (ds_cons (ds_for [3] (di_range (de_add (de_int) (de_mod (de_var 0) (de_int))) z_range) (dg_v 3)
 (ds_cons (ds_app 2 (de_idx (de_str [97,98,99,100,101,102,103,104,105,106,107,108,109,110,111,112,113,114,115,116,117,118,119,120,121,122]) (de_mod (de_var 1) (de_int))))
 (ds_one (ds_set 1 (de_fdiv (de_var 1) (de_int))))))
 (ds_one (ds_ret (de_join (de_str []) (de_var 2)))))))
abbrev s__law_other:Stmt:=topS 20
theorem sc__law_other:FnScope ["word","place","step","at","letters","sign"] ["word","place","step"] (defScope s__law_other):=⟨rfl,rfl,rfl,by decide +kernel,rfl,by decide +kernel,by decide +kernel⟩
theorem ok__law_other {C:Cn} {ad:Addr} {fd:FuncData} (F:Fun C.K "_law_other" "_law_other" s__law_other ad fd) (hm:C.mg "_law_other" = some (.ref ad)) (hb:Binds C.K fd ["word","place","step"] []) (z_len:C.mg "len" = none):Cal C "_law_other" 3 1 d_law_other :=
 fn_ok F sc__law_other rfl rfl hm hb
 (ds_cons (ds_set 3 (de_mod (de_var 1) (de_len (de_var 0) z_len)))
 (ds_cons (ds_set 4 (de_str [97,98,99,100,101,102,103,104,105,106,107,108,109,110,111,112,113,114,115,116,117,118,119,120,121,122]))
 (ds_cons (ds_set 5 (de_idx (de_var 4) (de_mod (de_add (de_add (de_indexS (de_var 4) (de_idx (de_var 0) (de_var 3))) (de_int)) (de_mod (de_var 2) (de_int))) (de_int))))
 (ds_one (ds_ret (de_add (de_add (de_slice (de_var 0) (do_none) (do_some (de_var 3))) (de_var 5)) (de_slice (de_var 0) (do_some (de_add (de_var 3) (de_int))) (do_none))))))))
abbrev s__law_row:Stmt:=topS 21
theorem sc__law_row:FnScope ["cells","row","cell","way","word"] ["cells"] (defScope s__law_row):=⟨rfl,rfl,rfl,by decide +kernel,rfl,by decide +kernel,by decide +kernel⟩
theorem ok__law_row {C:Cn} {ad:Addr} {fd:FuncData} (F:Fun C.K "_law_row" "_law_row" s__law_row ad fd) (hm:C.mg "_law_row" = some (.ref ad)) (hb:Binds C.K fd ["cells"] []) (z_len:C.mg "len" = none) (c__law_word:Cal C "_law_word" 1 1 d_law_word) (c__law_other:Cal C "_law_other" 3 1 d_law_other):Cal C "_law_row" 1 2 d_law_row :=
 fn_ok F sc__law_row rfl rfl hm hb
 (ds_cons (ds_setO 1 (de_lst (da_nil)))
 (ds_cons (ds_for [2,3,4] (di_seq (de_var 0)) (dg_v 2)
 (ds_cons (ds_set 3 (de_mod (de_var 2) (de_int)))
 (ds_cons (ds_set 4 (de_call c__law_word (da_cons (de_fdiv (de_var 2) (de_int)) (da_nil)) (hAs:=al_cons al_nil)))
 (ds_cons (ds_if (dt_chain (dw_and (dt_c (dc_eq (de_var 3) (de_int))) (dw_and1 (dt_c (dc_gt (de_len (de_var 1) z_len) (de_int))))))
 (ds_one (ds_set 4 (de_idx (de_var 1) (de_neg (de_int)))))
 (ds_nil))
 (ds_cons (ds_if (dt_chain (dw_and (dt_c (dc_eq (de_var 3) (de_int))) (dw_and1 (dt_c (dc_gt (de_len (de_var 1) z_len) (de_int))))))
 (ds_one (ds_set 4 (de_call c__law_other (da_cons (de_idx (de_var 1) (de_neg (de_int))) (da_cons (de_fdiv (de_var 2) (de_int)) (da_cons (de_fdiv (de_var 2) (de_int)) (da_nil)))) (hAs:=al_cons (al_cons (al_cons al_nil))))))
 (ds_nil))
 (ds_cons (ds_if (dt_chain (dw_and (dt_c (dc_eq (de_var 3) (de_int))) (dw_and1 (dt_c (dc_gt (de_len (de_var 1) z_len) (de_int))))))
 (ds_one (ds_set 4 (de_idx (de_var 1) (de_mod (de_fdiv (de_var 2) (de_int)) (de_len (de_var 1) z_len)))))
 (ds_nil))
 (ds_one (ds_app 1 (de_var 4)))))))))
 (ds_one (ds_retV 1))))
abbrev s__law_alike:Stmt:=topS 22
theorem sc__law_alike:FnScope ["found","due","k"] ["found","due"] (defScope s__law_alike):=⟨rfl,rfl,rfl,by decide +kernel,rfl,by decide +kernel,by decide +kernel⟩
theorem ok__law_alike {C:Cn} {ad:Addr} {fd:FuncData} (F:Fun C.K "_law_alike" "_law_alike" s__law_alike ad fd) (hm:C.mg "_law_alike" = some (.ref ad)) (hb:Binds C.K fd ["found","due"] []) (z_isinstance:C.mg "isinstance" = none) (z_tuple:C.mg "tuple" = none) (z_len:C.mg "len" = none) (z_range:C.mg "range" = none) (z_str:C.mg "str" = none) (z_int:C.mg "int" = none) (z_bool:C.mg "bool" = none):∀ n,Cal C "_law_alike" 2 (n+1) (d_law_alike_v2 n)
 | 0=>cal_bad F sc__law_alike rfl hm hb
 | n+1=>by
  have c_rec:=ok__law_alike F hm hb z_isinstance z_tuple z_len z_range z_str z_int z_bool n
  exact fn_ok F sc__law_alike rfl rfl hm hb (
   ds_cons (ds_if (dt_val (de_isI (de_var 1) "tuple" z_isinstance z_tuple))
 (ds_cons (ds_if (dt_chain (dw_or (dt_not (dt_val (de_isI (de_var 0) "tuple" z_isinstance z_tuple))) (dw_or1 (dt_c (dc_ne (de_len (de_var 0) z_len) (de_len (de_var 1) z_len))))))
 (ds_one (ds_ret (de_bl)))
 (ds_nil))
 (ds_cons (ds_for [2] (di_range (de_len (de_var 1) z_len) z_range) (dg_v 2)
 (ds_one (ds_if (dt_not (dt_val (de_call c_rec (da_cons (de_idx (de_var 0) (de_var 2)) (da_cons (de_idx (de_var 1) (de_var 2)) (da_nil))) (hAs:=al_cons (al_cons al_nil)) (hj:=by omega))))
 (ds_one (ds_ret (de_bl)))
 (ds_nil))))
 (ds_one (ds_ret (de_bl)))))
 (ds_nil))
 (ds_cons (ds_if (dt_c (dc_isN (de_var 1)))
 (ds_one (ds_ret (de_c (dc_isN (de_var 0)))))
 (ds_nil))
 (ds_cons (ds_if (dt_val (de_isI (de_var 1) "str" z_isinstance z_str))
 (ds_one (ds_ret (de_and (de_isI (de_var 0) "str" z_isinstance z_str) (de_one (de_c (dc_eq (de_var 0) (de_var 1)))))))
 (ds_nil))
 (ds_one (ds_ret (de_and (de_isI (de_var 0) "int" z_isinstance z_int) (de_and (de_not (de_isI (de_var 0) "bool" z_isinstance z_bool)) (de_one (de_c (dc_eq (de_var 0) (de_var 1)))))))))))
abbrev s__law_name:Stmt:=topS 23
theorem sc__law_name:FnScope ["cell"] ["cell"] (defScope s__law_name):=⟨rfl,rfl,rfl,by decide +kernel,rfl,by decide +kernel,by decide +kernel⟩
theorem ok__law_name {C:Cn} {ad:Addr} {fd:FuncData} (F:Fun C.K "_law_name" "_law_name" s__law_name ad fd) (hm:C.mg "_law_name" = some (.ref ad)) (hb:Binds C.K fd ["cell"] []) (c__law_word:Cal C "_law_word" 1 1 d_law_word):Cal C "_law_name" 1 2 d_law_name :=
 fn_ok F sc__law_name rfl rfl hm hb
 (ds_cons (ds_if (dt_c (dc_eq (de_mod (de_var 0) (de_int)) (de_int)))
 (ds_one (ds_ret (de_idx (de_lst (da_cons (de_str []) (da_cons (de_str [65,98]) (da_cons (de_str [97,32,98]) (da_cons (de_str [97,49]) (da_cons (de_str [97,98,99,100,101,102,103,104,105,106,107,108,109]) (da_cons (de_str [97,58]) (da_cons (de_str [45]) (da_cons (de_str [97,10]) (da_nil)))))))))) (de_mod (de_fdiv (de_var 0) (de_int)) (de_int)))))
 (ds_nil))
 (ds_one (ds_ret (de_call c__law_word (da_cons (de_mod (de_fdiv (de_var 0) (de_int)) (de_int)) (da_nil)) (hAs:=al_cons al_nil)))))
abbrev s__law_kind:Stmt:=topS 24
theorem sc__law_kind:FnScope ["error","kinds"] ["error"] (defScope s__law_kind):=⟨rfl,rfl,rfl,by decide +kernel,rfl,by decide +kernel,by decide +kernel⟩
theorem ok__law_kind {C:Cn} {ad:Addr} {fd:FuncData} (F:Fun C.K "_law_kind" "_law_kind" s__law_kind ad fd) (hm:C.mg "_law_kind" = some (.ref ad)) (hb:Binds C.K fd ["error"] []) (z_isinstance:C.mg "isinstance" = none) (q_TooMany:Iq C "TooMany" [(6,false),(8,true),(7,false)]) (q_TwiceNamed:Iq C "TwiceNamed" [(6,false),(8,false),(7,true)]) (q_NoName:Iq C "NoName" [(6,true),(8,false),(7,false)]) (q_NoLine:Iq C "NoLine" [(6,false),(8,false),(7,false)]) (q_NoNotes:Iq C "NoNotes" [(6,false),(8,false),(7,false)]) (q_NoPrices:Iq C "NoPrices" [(6,false),(8,false),(7,false)]) (q_NoRow:Iq C "NoRow" [(6,false),(8,false),(7,false)]) (q_NoSlips:Iq C "NoSlips" [(6,false),(8,false),(7,false)]):CalC C "_law_kind" 1 1 d_law_kind_v1 :=
 fn_okC F sc__law_kind rfl rfl hm hb
 (ds_cons (ds_set 1 (de_lst (da_cons (de_isE (de_var 0) q_NoName z_isinstance) (da_cons (de_isE (de_var 0) q_TwiceNamed z_isinstance) (da_cons (de_isE (de_var 0) q_TooMany z_isinstance) (da_nil))))))
 (ds_cons (ds_if (dt_chain (dw_or (dt_val (de_isEs (de_var 0) (tca_cons q_NoLine (tca_cons q_NoNotes (tca_cons q_NoPrices (tca_cons q_NoRow (tca_cons q_NoSlips (tca_nil)))))) z_isinstance)) (dw_or1 (dt_c (dc_ne (de_count (de_var 1) (de_bl)) (de_int))))))
 (ds_one (ds_ret (de_str [111,116,104,101,114])))
 (ds_nil))
 (ds_one (ds_ret (de_idx (de_lst (da_cons (de_str [110,97,109,101]) (da_cons (de_str [116,119,105,99,101]) (da_cons (de_str [109,97,110,121]) (da_nil))))) (de_indexQ (de_var 1) (de_bl)))))))
abbrev s_House_put:Stmt:=inClass (topS 16) 1
theorem sc_House_put:FnScope ["self","name","row","day"] ["self","name","row","day"] (defScope s_House_put):=⟨rfl,rfl,rfl,by decide +kernel,rfl,by decide +kernel,by decide +kernel⟩
theorem ok_House_put {C:Cn} {ad:Addr} {fd:FuncData} (F:FunD C.K "put" "House.put" (defArgs s_House_put) (defBody s_House_put) (defScope s_House_put) [V.non] [] ad fd) (hs:HsC C) (z_len:C.mg "len" = none) (g_MOST_COPIES:Glb C "MOST_COPIES" (.int 30)) (x_NoName:Xc C 6) (x_TwiceNamed:Xc C 7) (x_TooMany:Xc C 8) (c_is_word:Cal C "is_word" 1 1 d_is_word):FnOk C.P C.w C.K C.mg C.base (L2.CX C.P C.w) 2 ad fd ["self","name","row","day"] (spX C [.ow 2,.fz,.fz,.fz] d_House_put) :=
 fnX_okD (ts:=[.ow 2,.fz,.fz,.fz]) (keep:=[0]) F sc_House_put rfl rfl
 (dx_cons (dx_if (dt_not (dt_val (de_call c_is_word (da_cons (de_var 1) (da_nil)) (hAs:=al_cons al_nil))))
 (dx_one (dx_raise (i:=6) x_NoName))
 (dx_nil))
 (dx_cons (dx_if (dt_c (dc_din (de_var 1) (de_fld 0 hs (de_var 0))))
 (dx_one (dx_raise (i:=7) x_TwiceNamed))
 (dx_nil))
 (dx_cons (dx_if (dt_c (dc_ge (de_dlen (de_fld 0 hs (de_var 0)) z_len) (de_glb g_MOST_COPIES)))
 (dx_one (dx_raise (i:=8) x_TooMany))
 (dx_nil))
 (dx_cons (dx_fput 0 0 hs (de_var 1) (de_var 2))
 (dx_one (dx_fput 0 1 hs (de_var 1) (de_var 3))))))) (by intro i h; rcases i with _ | _ | _ | _ | i <;> simp at h ⊢)
abbrev s_House_look_for:Stmt:=inClass (topS 16) 2
theorem sc_House_look_for:FnScope ["self","name"] ["self","name"] (defScope s_House_look_for):=⟨rfl,rfl,rfl,by decide +kernel,rfl,by decide +kernel,by decide +kernel⟩
theorem ok_House_look_for {C:Cn} {ad:Addr} {fd:FuncData} (F:Fun C.K "look_for" "House.look_for" s_House_look_for ad fd) (hs:HsC C) (x_NoName:Xc C 6):FnOk C.P C.w C.K C.mg C.base (L2.CX C.P C.w) 1 ad fd ["self","name"] (spOf C 2 d_House_look_for) :=
 fn_okQ F sc_House_look_for rfl rfl
 (ds_one (ds_if (dt_c (dc_dnotIn (de_var 1) (de_fld 0 hs (de_var 0))))
 (ds_one (ds_raise (i:=6) x_NoName))
 (ds_nil)))
abbrev s_House_take:Stmt:=inClass (topS 16) 3
theorem sc_House_take:FnScope ["self","name"] ["self","name"] (defScope s_House_take):=⟨rfl,rfl,rfl,by decide +kernel,rfl,by decide +kernel,by decide +kernel⟩
theorem ok_House_take {C:Cn} {ad:Addr} {fd:FuncData} (F:Fun C.K "take" "House.take" s_House_take ad fd) (hs:HsC C) (c_House_look_for:CalF C "look_for" 2 1 d_House_look_for):FnOk C.P C.w C.K C.mg C.base (L2.CX C.P C.w) 2 ad fd ["self","name"] (spX C [.ow 2,.fz] d_House_take) :=
 fnX_okF (ts:=[.ow 2,.fz]) (keep:=[0]) F sc_House_take rfl rfl
 (dx_cons (dx_ex (de_meth c_House_look_for (de_var 0) (da_cons (de_var 1) (da_nil)) (al_cons al_nil)))
 (dx_cons (dx_fpop 0 0 hs (de_var 1))
 (dx_one (dx_fpop 0 1 hs (de_var 1))))) (by intro i h; rcases i with _ | _ | i <;> simp at h ⊢)
abbrev s_House_set_prices:Stmt:=inClass (topS 16) 4
theorem sc_House_set_prices:FnScope ["self","prices"] ["self","prices"] (defScope s_House_set_prices):=⟨rfl,rfl,rfl,by decide +kernel,rfl,by decide +kernel,by decide +kernel⟩
theorem ok_House_set_prices {C:Cn} {ad:Addr} {fd:FuncData} (F:Fun C.K "set_prices" "House.set_prices" s_House_set_prices ad fd) (hs:HsC C):FnOk C.P C.w C.K C.mg C.base (L2.CX C.P C.w) 1 ad fd ["self","prices"] (spX C [.ow 2,.fz] d_House_set_prices) :=
 fnX_okF (ts:=[.ow 2,.fz]) (keep:=[0]) F sc_House_set_prices rfl rfl
 (dx_one (dx_fset 0 2 hs (de_var 1))) (by intro i h; rcases i with _ | _ | i <;> simp at h ⊢)
abbrev s_House_set_fresh:Stmt:=inClass (topS 16) 5
theorem sc_House_set_fresh:FnScope ["self","price"] ["self","price"] (defScope s_House_set_fresh):=⟨rfl,rfl,rfl,by decide +kernel,rfl,by decide +kernel,by decide +kernel⟩
theorem ok_House_set_fresh {C:Cn} {ad:Addr} {fd:FuncData} (F:Fun C.K "set_fresh" "House.set_fresh" s_House_set_fresh ad fd) (hs:HsC C):FnOk C.P C.w C.K C.mg C.base (L2.CX C.P C.w) 1 ad fd ["self","price"] (spX C [.ow 2,.fz] d_House_set_fresh) :=
 fnX_okF (ts:=[.ow 2,.fz]) (keep:=[0]) F sc_House_set_fresh rfl rfl
 (dx_one (dx_fset 0 3 hs (de_var 1))) (by intro i h; rcases i with _ | _ | i <;> simp at h ⊢)
abbrev s__law_done:Stmt:=topS 25
theorem sc__law_done:FnScope ["house","deed","found","e"] ["house","deed"] (defScope s__law_done):=⟨rfl,rfl,rfl,by decide +kernel,rfl,by decide +kernel,by decide +kernel⟩
theorem ok__law_done {C:Cn} {ad:Addr} {fd:FuncData} (F:Fun C.K "_law_done" "_law_done" s__law_done ad fd) (hm:C.mg "_law_done" = some (.ref ad)) (hb:Binds C.K fd ["house","deed"] []) (x_VellumError:Xc C 0) (x_NoName:Xc C 6) (x_TooMany:Xc C 8) (x_TwiceNamed:Xc C 7) (s_VellumError:Xs C 0 [(6,true),(8,true),(7,true)]) (c_House_put1:CalH C "put" 2 [.ow 2,.fz,.fz,.fz] d_House_put 1) (c_House_put0:CalH C "put" 2 [.ow 2,.fz,.fz,.fz] d_House_put 0) (c_House_putk:CalHK C "put" "day" 2 [.ow 2,.fz,.fz,.fz] d_House_put) (c_House_take:CalH C "take" 2 [.ow 2,.fz] d_House_take 0) (c_House_set_prices:CalH C "set_prices" 1 [.ow 2,.fz] d_House_set_prices 0) (c_House_set_fresh:CalH C "set_fresh" 1 [.ow 2,.fz] d_House_set_fresh 0) (c__law_kind:CalC C "_law_kind" 1 1 d_law_kind_v1):CalX C "_law_done" 3 [.ow 2,.fz] d_law_done :=
 fnX_ok (ts:=[.ow 2,.fz]) (keep:=[0]) F sc__law_done rfl rfl hm hb
 (dx_cons (dx_set 2 (by decide) (de_str [110,111,110,101]))
 (dx_cons (dx_tryT (i:=3) s_VellumError (by decide)
 (dx_one (dx_if (dt_chain (dw_and (dt_c (dc_eq (de_idx (de_var 1) (de_int)) (de_str [112,117,116]))) (dw_and1 (dt_c (dc_isN (de_idx (de_var 1) (de_int)))))))
 (dx_one (dx_setX 2 (by decide) (dc_meth 0 c_House_put1 (ax_of (da_cons (de_idx (de_var 1) (de_int)) (da_cons (de_idx (de_var 1) (de_int)) (da_nil)))) (al_cons (al_cons al_nil)))))
 (dx_one (dx_if (dt_chain (dw_and (dt_c (dc_eq (de_idx (de_var 1) (de_int)) (de_str [112,117,116]))) (dw_and1 (dt_c (dc_eq (de_mod (de_idx (de_var 1) (de_int)) (de_int)) (de_int))))))
 (dx_one (dx_setX 2 (by decide) (dc_meth 0 c_House_put0 (ax_of (da_cons (de_idx (de_var 1) (de_int)) (da_cons (de_idx (de_var 1) (de_int)) (da_cons (de_idx (de_var 1) (de_int)) (da_nil))))) (al_cons (al_cons (al_cons al_nil))))))
 (dx_one (dx_if (dt_c (dc_eq (de_idx (de_var 1) (de_int)) (de_str [112,117,116])))
 (dx_one (dx_setX 2 (by decide) (dc_methK 0 c_House_putk (de_idx (de_var 1) (de_int)) (de_idx (de_var 1) (de_int)) (de_idx (de_var 1) (de_int)))))
 (dx_one (dx_if (dt_c (dc_eq (de_idx (de_var 1) (de_int)) (de_str [116,97,107,101])))
 (dx_one (dx_setX 2 (by decide) (dc_meth 0 c_House_take (ax_of (da_cons (de_idx (de_var 1) (de_int)) (da_nil))) (al_cons al_nil))))
 (dx_one (dx_if (dt_c (dc_eq (de_idx (de_var 1) (de_int)) (de_str [112,114,105,99,101,115])))
 (dx_one (dx_setX 2 (by decide) (dc_meth 0 c_House_set_prices (ax_of (da_cons (de_idx (de_var 1) (de_int)) (da_nil))) (al_cons al_nil))))
 (dx_one (dx_setX 2 (by decide) (dc_meth 0 c_House_set_fresh (ax_of (da_cons (de_idx (de_var 1) (de_int)) (da_nil))) (al_cons al_nil))))))))))))))
 (dx_one (dx_set 2 (by decide) (de_callC c__law_kind (da_cons (de_var 3) (da_nil)) (hAs:=al_cons al_nil)))))
 (dx_one (dx_ret (de_var 2))))) (by intro i h; rcases i with _ | _ | i <;> simp at h ⊢)
abbrev s__law_is_name:Stmt:=topS 26
theorem sc__law_is_name:FnScope ["name","sign"] ["name"] (defScope s__law_is_name):=⟨rfl,rfl,rfl,by decide +kernel,rfl,by decide +kernel,by decide +kernel⟩
theorem ok__law_is_name {C:Cn} {ad:Addr} {fd:FuncData} (F:Fun C.K "_law_is_name" "_law_is_name" s__law_is_name ad fd) (hm:C.mg "_law_is_name" = some (.ref ad)) (hb:Binds C.K fd ["name"] []) (z_len:C.mg "len" = none) (z_all:C.mg "all" = none):Cal C "_law_is_name" 1 1 d_law_is_name :=
 fn_ok F sc__law_is_name rfl rfl hm hb
 (ds_one (ds_ret (de_and (de_chainI cmp_le cmp_le (de_int) (de_len (de_var 0) z_len) (de_int)) (de_one (de_all (de_lc (own:=[("sign",1)]) (di_seq (de_var 0)) (by decide +kernel) (dg_v 1) (df_nil) (de_c (dc_in (de_var 1) (de_str [97,98,99,100,101,102,103,104,105,106,107,108,109,110,111,112,113,114,115,116,117,118,119,120,121,122])))) z_all)))))
abbrev s__law_due:Stmt:=topS 27
theorem sc__law_due:FnScope ["state","deed","names","copy"] ["state","deed"] (defScope s__law_due):=⟨rfl,rfl,rfl,by decide +kernel,rfl,by decide +kernel,by decide +kernel⟩
theorem ok__law_due {C:Cn} {ad:Addr} {fd:FuncData} (F:Fun C.K "_law_due" "_law_due" s__law_due ad fd) (hm:C.mg "_law_due" = some (.ref ad)) (hb:Binds C.K fd ["state","deed"] []) (z_len:C.mg "len" = none) (c__law_is_name:Cal C "_law_is_name" 1 1 d_law_is_name):CalX C "_law_due" 2 [.ow 2,.fz] d_law_due_v9 :=
 fnX_ok (ts:=[.ow 2,.fz]) (keep:=[0]) F sc__law_due rfl rfl hm hb
 (dx_cons (dx_setLC 2 false (by decide) (own:=[("copy",3)]) (di_seq (de_didx (de_var 0) (de_str [99,111,112,105,101,115]))) (by decide +kernel) (dg_v 3) (df_nil) (de_idx (de_var 3) (de_int)))
 (dx_cons (dx_if (dt_c (dc_eq (de_idx (de_var 1) (de_int)) (de_str [112,117,116])))
 (dx_cons (dx_if (dt_not (dt_val (de_call c__law_is_name (da_cons (de_idx (de_var 1) (de_int)) (da_nil)) (hAs:=al_cons al_nil))))
 (dx_one (dx_ret (de_str [110,97,109,101])))
 (dx_nil))
 (dx_cons (dx_if (dt_c (dc_in (de_idx (de_var 1) (de_int)) (de_var 2)))
 (dx_one (dx_ret (de_str [116,119,105,99,101])))
 (dx_nil))
 (dx_cons (dx_if (dt_c (dc_ge (de_len (de_var 2) z_len) (de_int)))
 (dx_one (dx_ret (de_str [109,97,110,121])))
 (dx_nil))
 (dx_one (dx_dapp 0 (de_str [99,111,112,105,101,115]) (de_slice (de_var 1) (do_some (de_int)) (do_none)))))))
 (dx_nil))
 (dx_cons (dx_if (dt_c (dc_eq (de_idx (de_var 1) (de_int)) (de_str [116,97,107,101])))
 (dx_cons (dx_if (dt_c (dc_notIn (de_idx (de_var 1) (de_int)) (de_var 2)))
 (dx_one (dx_ret (de_str [110,97,109,101])))
 (dx_nil))
 (dx_one (dx_dpop 0 (de_str [99,111,112,105,101,115]) (de_indexQ (de_var 2) (de_idx (de_var 1) (de_int))))))
 (dx_nil))
 (dx_cons (dx_if (dt_chain (dw_or (dt_c (dc_eq (de_idx (de_var 1) (de_int)) (de_str [112,114,105,99,101,115]))) (dw_or1 (dt_c (dc_eq (de_idx (de_var 1) (de_int)) (de_str [102,114,101,115,104]))))))
 (dx_one (dx_dset2 0 (de_idx (de_var 1) (de_int)) (de_idx (de_var 1) (de_int))))
 (dx_nil))
 (dx_one (dx_ret (de_non))))))) (by intro i h; rcases i with _ | _ | i <;> simp at h ⊢)
abbrev s__law_deed:Stmt:=topS 28
theorem sc__law_deed:FnScope ["cells","k","cell","more","kind","name","moment","j"] ["cells","k"] (defScope s__law_deed):=⟨rfl,rfl,rfl,by decide +kernel,rfl,by decide +kernel,by decide +kernel⟩
theorem ok__law_deed {C:Cn} {ad:Addr} {fd:FuncData} (F:Fun C.K "_law_deed" "_law_deed" s__law_deed ad fd) (hm:C.mg "_law_deed" = some (.ref ad)) (hb:Binds C.K fd ["cells","k"] []) (z_tuple:C.mg "tuple" = none) (z_range:C.mg "range" = none) (z_len:C.mg "len" = none) (c__law_name:Cal C "_law_name" 1 2 d_law_name) (c__law_row:Cal C "_law_row" 1 2 d_law_row):Cal C "_law_deed" 2 3 d_law_deed :=
 fn_ok F sc__law_deed rfl rfl hm hb
 (ds_cons (ds_set 2 (de_idx (de_var 0) (de_var 1)))
 (ds_cons (ds_set 3 (de_add (de_slice (de_var 0) (do_some (de_var 1)) (do_some (de_add (de_var 1) (de_int)))) (de_slice (de_var 0) (do_none) (do_some (de_int)))))
 (ds_cons (ds_set 4 (de_idx (de_lst (da_cons (de_str [112,117,116]) (da_cons (de_str [112,117,116]) (da_cons (de_str [116,97,107,101]) (da_cons (de_str [112,117,116]) (da_cons (de_str [112,114,105,99,101,115]) (da_cons (de_str [102,114,101,115,104]) (da_cons (de_str [116,97,107,101]) (da_nil))))))))) (de_mod (de_var 2) (de_int))))
 (ds_cons (ds_set 5 (de_call c__law_name (da_cons (de_fdiv (de_var 2) (de_int)) (da_nil)) (hAs:=al_cons al_nil)))
 (ds_cons (ds_if (dt_c (dc_eq (de_var 4) (de_str [112,117,116])))
 (ds_cons (ds_set 6 (de_non))
 (ds_cons (ds_if (dt_c (dc_gt (de_mod (de_fdiv (de_var 2) (de_int)) (de_int)) (de_int)))
 (ds_one (ds_set 6 (de_mod (de_idx (de_var 3) (de_int)) (de_add (de_pow (de_int) (de_int)) (de_int)))))
 (ds_nil))
 (ds_one (ds_ret (de_tup (da_cons (de_str [112,117,116]) (da_cons (de_var 5) (da_cons (de_tuple (de_call c__law_row (da_cons (de_slice (de_var 3) (do_none) (do_some (de_mod (de_fdiv (de_var 2) (de_int)) (de_int)))) (da_nil)) (hAs:=al_cons al_nil)) z_tuple) (da_cons (de_var 6) (da_nil))))))))))
 (ds_nil))
 (ds_cons (ds_if (dt_c (dc_eq (de_var 4) (de_str [116,97,107,101])))
 (ds_one (ds_ret (de_tup (da_cons (de_str [116,97,107,101]) (da_cons (de_var 5) (da_nil))))))
 (ds_nil))
 (ds_cons (ds_if (dt_c (dc_eq (de_var 4) (de_str [112,114,105,99,101,115])))
 (ds_one (ds_ret (de_tup (da_cons (de_str [112,114,105,99,101,115]) (da_cons (de_tuple (de_lc (own:=[("j",7)]) (di_range (de_int) z_range) (by decide +kernel) (dg_v 7) (df_nil) (de_mod (de_fdiv (de_idx (de_var 3) (de_mod (de_var 7) (de_len (de_var 3) z_len))) (de_add (de_var 7) (de_int))) (de_add (de_pow (de_int) (de_int)) (de_int)))) z_tuple) (da_nil))))))
 (ds_nil))
 (ds_one (ds_ret (de_tup (da_cons (de_str [102,114,101,115,104]) (da_cons (de_mod (de_fdiv (de_var 2) (de_int)) (de_add (de_pow (de_int) (de_int)) (de_int))) (da_nil)))))))))))))
abbrev s_House_day_of:Stmt:=inClass (topS 16) 8
theorem sc_House_day_of:FnScope ["self","name"] ["self","name"] (defScope s_House_day_of):=⟨rfl,rfl,rfl,by decide +kernel,rfl,by decide +kernel,by decide +kernel⟩
theorem ok_House_day_of {C:Cn} {ad:Addr} {fd:FuncData} (F:Fun C.K "day_of" "House.day_of" s_House_day_of ad fd) (hs:HsC C) (c_House_look_for:CalF C "look_for" 2 1 d_House_look_for):FnOk C.P C.w C.K C.mg C.base (L2.CX C.P C.w) 2 ad fd ["self","name"] (spOf C 2 d_House_day_of) :=
 fn_okQ F sc_House_day_of rfl rfl
 (ds_cons (ds_ex (de_meth c_House_look_for (de_var 0) (da_cons (de_var 1) (da_nil)) (al_cons al_nil)))
 (ds_one (ds_ret (de_didx (de_fld 1 hs (de_var 0)) (de_var 1)))))
abbrev s_House_row_of:Stmt:=inClass (topS 16) 7
theorem sc_House_row_of:FnScope ["self","name"] ["self","name"] (defScope s_House_row_of):=⟨rfl,rfl,rfl,by decide +kernel,rfl,by decide +kernel,by decide +kernel⟩
theorem ok_House_row_of {C:Cn} {ad:Addr} {fd:FuncData} (F:Fun C.K "row_of" "House.row_of" s_House_row_of ad fd) (hs:HsC C) (c_House_look_for:CalF C "look_for" 2 1 d_House_look_for):FnOk C.P C.w C.K C.mg C.base (L2.CX C.P C.w) 2 ad fd ["self","name"] (spOf C 2 d_House_row_of) :=
 fn_okQ F sc_House_row_of rfl rfl
 (ds_cons (ds_ex (de_meth c_House_look_for (de_var 0) (da_cons (de_var 1) (da_nil)) (al_cons al_nil)))
 (ds_one (ds_ret (de_didx (de_fld 0 hs (de_var 0)) (de_var 1)))))
abbrev s__law_of:Stmt:=topS 29
theorem sc__law_of:FnScope ["house","name","moment","found"] ["house","name","moment"] (defScope s__law_of):=⟨rfl,rfl,rfl,by decide +kernel,rfl,by decide +kernel,by decide +kernel⟩
theorem ok__law_of {C:Cn} {ad:Addr} {fd:FuncData} (F:Fun C.K "_law_of" "_law_of" s__law_of ad fd) (hm:C.mg "_law_of" = some (.ref ad)) (hb:Binds C.K fd ["house","name","moment"] []) (x_NoName:Xc C 6) (x_TooMany:Xc C 8) (x_TwiceNamed:Xc C 7) (s_NoName:Xs C 6 [(6,true),(8,false),(7,false)]) (c_House_day_of:CalF C "day_of" 2 2 d_House_day_of) (c_House_row_of:CalF C "row_of" 2 2 d_House_row_of):Cal C "_law_of" 3 3 d_law_of :=
 fn_ok F sc__law_of rfl rfl hm hb
 (ds_cons (ds_set 3 (de_non))
 (ds_cons (ds_try s_NoName
 (ds_one (ds_if (dt_val (de_var 2))
 (ds_one (ds_set 3 (de_meth c_House_day_of (de_var 0) (da_cons (de_var 1) (da_nil)) (al_cons al_nil))))
 (ds_one (ds_set 3 (de_meth c_House_row_of (de_var 0) (da_cons (de_var 1) (da_nil)) (al_cons al_nil))))))
 (ds_one (ds_set 3 (de_str [110,111,32,110,97,109,101]))))
 (ds_one (ds_retV 3))))
abbrev s_House_fresh_price:Stmt:=inClass (topS 16) 10
theorem sc_House_fresh_price:FnScope ["self"] ["self"] (defScope s_House_fresh_price):=⟨rfl,rfl,rfl,by decide +kernel,rfl,by decide +kernel,by decide +kernel⟩
theorem ok_House_fresh_price {C:Cn} {ad:Addr} {fd:FuncData} (F:Fun C.K "fresh_price" "House.fresh_price" s_House_fresh_price ad fd) (hs:HsC C):FnOk C.P C.w C.K C.mg C.base (L2.CX C.P C.w) 1 ad fd ["self"] (spOf C 1 d_House_fresh_price) :=
 fn_okQ F sc_House_fresh_price rfl rfl
 (ds_one (ds_ret (de_fld 3 hs (de_var 0))))
abbrev s_House_names:Stmt:=inClass (topS 16) 6
theorem sc_House_names:FnScope ["self"] ["self"] (defScope s_House_names):=⟨rfl,rfl,rfl,by decide +kernel,rfl,by decide +kernel,by decide +kernel⟩
theorem ok_House_names {C:Cn} {ad:Addr} {fd:FuncData} (F:Fun C.K "names" "House.names" s_House_names ad fd) (hs:HsC C) (z_tuple:C.mg "tuple" = none):FnOk C.P C.w C.K C.mg C.base (L2.CX C.P C.w) 1 ad fd ["self"] (spOf C 1 d_House_names) :=
 fn_okQ F sc_House_names rfl rfl
 (ds_one (ds_ret (de_tupleK (de_fld 0 hs (de_var 0)) z_tuple)))
abbrev s_House_slip_prices:Stmt:=inClass (topS 16) 9
theorem sc_House_slip_prices:FnScope ["self"] ["self"] (defScope s_House_slip_prices):=⟨rfl,rfl,rfl,by decide +kernel,rfl,by decide +kernel,by decide +kernel⟩
theorem ok_House_slip_prices {C:Cn} {ad:Addr} {fd:FuncData} (F:Fun C.K "slip_prices" "House.slip_prices" s_House_slip_prices ad fd) (hs:HsC C):FnOk C.P C.w C.K C.mg C.base (L2.CX C.P C.w) 1 ad fd ["self"] (spOf C 1 d_House_slip_prices) :=
 fn_okQ F sc_House_slip_prices rfl rfl
 (ds_one (ds_ret (de_fld 2 hs (de_var 0))))
abbrev s__law_seen:Stmt:=topS 30
theorem sc__law_seen:FnScope ["house","state","name","names","asked","row","moment","copy"] ["house","state","name"] (defScope s__law_seen):=⟨rfl,rfl,rfl,by decide +kernel,rfl,by decide +kernel,by decide +kernel⟩
theorem ok__law_seen {C:Cn} {ad:Addr} {fd:FuncData} (F:Fun C.K "_law_seen" "_law_seen" s__law_seen ad fd) (hm:C.mg "_law_seen" = some (.ref ad)) (hb:Binds C.K fd ["house","state","name"] []) (z_tuple:C.mg "tuple" = none) (c_House_names:CalF C "names" 1 1 d_House_names) (c__law_alike:Cal C "_law_alike" 2 9 (d_law_alike_v2 8)) (c_House_slip_prices:CalF C "slip_prices" 1 1 d_House_slip_prices) (c_House_fresh_price:CalF C "fresh_price" 1 1 d_House_fresh_price) (c__law_of:Cal C "_law_of" 3 3 d_law_of):Cal C "_law_seen" 3 10 d_law_seen :=
 fn_ok F sc__law_seen rfl rfl hm hb
 (ds_cons (ds_setLC 3 false (own:=[("copy",7)]) (di_seq (de_didx (de_var 1) (de_str [99,111,112,105,101,115]))) (by decide +kernel) (dg_v 7) (df_nil) (de_idx (de_var 7) (de_int)))
 (ds_cons (ds_if (dt_chain (dw_or (dt_not (dt_val (de_call c__law_alike (da_cons (de_meth0 c_House_names (de_var 0)) (da_cons (de_tuple (de_var 3) z_tuple) (da_nil))) (hAs:=al_cons (al_cons al_nil))))) (dw_or1 (dt_not (dt_val (de_call c__law_alike (da_cons (de_meth0 c_House_slip_prices (de_var 0)) (da_cons (de_didx (de_var 1) (de_str [112,114,105,99,101,115])) (da_nil))) (hAs:=al_cons (al_cons al_nil))))))))
 (ds_one (ds_ret (de_bl)))
 (ds_nil))
 (ds_cons (ds_if (dt_not (dt_val (de_call c__law_alike (da_cons (de_meth0 c_House_fresh_price (de_var 0)) (da_cons (de_didx (de_var 1) (de_str [102,114,101,115,104])) (da_nil))) (hAs:=al_cons (al_cons al_nil)))))
 (ds_one (ds_ret (de_bl)))
 (ds_nil))
 (ds_cons (ds_for [4,5,6,7] (di_seq (de_add (de_lst (da_cons (de_var 2) (da_nil))) (de_slice (de_var 3) (do_some (de_neg (de_int))) (do_none)))) (dg_v 4)
 (ds_cons (ds_set 5 (de_call c__law_of (da_cons (de_var 0) (da_cons (de_var 4) (da_cons (de_bl) (da_nil)))) (hAs:=al_cons (al_cons (al_cons al_nil)))))
 (ds_cons (ds_set 6 (de_call c__law_of (da_cons (de_var 0) (da_cons (de_var 4) (da_cons (de_bl) (da_nil)))) (hAs:=al_cons (al_cons (al_cons al_nil)))))
 (ds_one (ds_if (dt_c (dc_notIn (de_var 4) (de_var 3)))
 (ds_one (ds_if (dt_chain (dw_or (dt_c (dc_ne (de_var 5) (de_str [110,111,32,110,97,109,101]))) (dw_or1 (dt_c (dc_ne (de_var 6) (de_str [110,111,32,110,97,109,101]))))))
 (ds_one (ds_ret (de_bl)))
 (ds_nil)))
 (ds_cons (ds_set 7 (de_idx (de_didx (de_var 1) (de_str [99,111,112,105,101,115])) (de_indexQ (de_var 3) (de_var 4))))
 (ds_one (ds_if (dt_chain (dw_or (dt_not (dt_val (de_call c__law_alike (da_cons (de_var 5) (da_cons (de_idx (de_var 7) (de_int)) (da_nil))) (hAs:=al_cons (al_cons al_nil))))) (dw_or1 (dt_not (dt_val (de_call c__law_alike (da_cons (de_var 6) (da_cons (de_idx (de_var 7) (de_int)) (da_nil))) (hAs:=al_cons (al_cons al_nil))))))))
 (ds_one (ds_ret (de_bl)))
 (ds_nil)))))))))
 (ds_one (ds_ret (de_bl)))))))
abbrev s_House___init__:Stmt:=inClass (topS 16) 0
theorem sc_House___init__:FnScope ["self"] ["self"] (defScope s_House___init__):=⟨rfl,rfl,rfl,by decide +kernel,rfl,by decide +kernel,by decide +kernel⟩
theorem ok_House___init__ {C:Cn} {ad:Addr} {fd:FuncData} (F:Fun C.K "__init__" "House.__init__" s_House___init__ ad fd) (hs:HsC C):FnOk C.P C.w C.K C.mg C.base (L2.CX C.P C.w) 1 ad fd ["self"] (spX C [.ow 2] d_House___init__) :=
 fnX_okF (ts:=[.ow 2]) (keep:=[0]) F sc_House___init__ rfl rfl
 (dx_cons (dx_fnew 0 0 hs)
 (dx_cons (dx_fnew 0 1 hs)
 (dx_cons (dx_fset 0 2 hs (de_tup (da_cons (de_int) (da_cons (de_int) (da_cons (de_int) (da_cons (de_int) (da_cons (de_int) (da_cons (de_int) (da_cons (de_int) (da_nil))))))))))
 (dx_one (dx_fset 0 3 hs (de_int)))))) (by intro i h; rcases i with _ | i <;> simp at h ⊢)
abbrev s_law:Stmt:=topS 31
theorem sc_law:FnScope ["script","house","other","state","blank","deeds","cells","k","deed","due","found"] ["script"] (defScope s_law):=⟨rfl,rfl,rfl,by decide +kernel,rfl,by decide +kernel,by decide +kernel⟩
theorem ok_law {C:Cn} {ad:Addr} {fd:FuncData} (F:Fun C.K "law" "law" s_law ad fd) (hm:C.mg "law" = some (.ref ad)) (hb:Binds C.K fd ["script"] []) (z_range:C.mg "range" = none) (z_len:C.mg "len" = none) (z_min:C.mg "min" = none) (c_House___init__:CalI C 1 d_House___init__) (c__law_cell:Cal C "_law_cell" 2 1 d_law_cell) (c__law_word:Cal C "_law_word" 1 1 d_law_word) (c__law_deed:Cal C "_law_deed" 2 3 d_law_deed) (c__law_due:CalX C "_law_due" 2 [.ow 2,.fz] d_law_due_v9) (c__law_done:CalX C "_law_done" 3 [.ow 2,.fz] d_law_done) (c__law_name:Cal C "_law_name" 1 2 d_law_name) (c__law_seen:Cal C "_law_seen" 3 10 d_law_seen):FnOk C.P C.w C.K C.mg C.base (L2.CX C.P C.w) 11 ad fd ["script"] (spOf C 1 d_law_v66) :=
 fn_okF F sc_law rfl rfl hm hb
 (ds_cons (ds_setO 1 (de_house c_House___init__))
 (ds_cons (ds_setO 2 (de_house c_House___init__))
 (ds_cons (ds_setO 3 (de_dicM [[99,111,112,105,101,115],[112,114,105,99,101,115],[102,114,101,115,104]] (dp_cons' [99,111,112,105,101,115] (de_lst (da_nil)) (dp_cons' [112,114,105,99,101,115] (de_tup (da_cons (de_int) (da_cons (de_int) (da_cons (de_int) (da_cons (de_int) (da_cons (de_int) (da_cons (de_int) (da_cons (de_int) (da_nil))))))))) (dp_cons' [102,114,101,115,104] (de_int) (dp_nil'))))))
 (ds_cons (ds_set 4 (de_dicN [[99,111,112,105,101,115],[112,114,105,99,101,115],[102,114,101,115,104]] (dp_cons' [99,111,112,105,101,115] (de_lst (da_nil)) (dp_cons' [112,114,105,99,101,115] (de_tup (da_cons (de_int) (da_cons (de_int) (da_cons (de_int) (da_cons (de_int) (da_cons (de_int) (da_cons (de_int) (da_cons (de_int) (da_nil))))))))) (dp_cons' [102,114,101,115,104] (de_int) (dp_nil'))))))
 (ds_cons (ds_set 5 (de_lst (da_nil)))
 (ds_cons (ds_if (dt_c (dc_eq (de_mod (de_call c__law_cell (da_cons (de_var 0) (da_cons (de_int) (da_nil))) (hAs:=al_cons (al_cons al_nil))) (de_int)) (de_int)))
 (ds_one (ds_setLC 5 false (own:=[("k",7)]) (di_range (de_int) z_range) (by decide +kernel) (dg_v 7) (df_nil) (de_tup (da_cons (de_str [112,117,116]) (da_cons (de_call c__law_word (da_cons (de_add (de_var 7) (de_mod (de_fdiv (de_call c__law_cell (da_cons (de_var 0) (da_cons (de_int) (da_nil))) (hAs:=al_cons (al_cons al_nil))) (de_int)) (de_int))) (da_nil)) (hAs:=al_cons al_nil)) (da_cons (de_tup (da_nil)) (da_cons (de_non) (da_nil))))))))
 (ds_nil))
 (ds_cons (ds_set 6 (de_slice (de_var 0) (do_some (de_int)) (do_some (de_int))))
 (ds_cons (ds_for [7,8,9,10] (di_range (de_add (de_len (de_var 5) z_len) (de_len (de_var 6) z_len)) z_range) (dg_v 7)
 (ds_cons (ds_set 8 (de_idx (de_add (de_var 5) (de_lst (da_cons (de_tup (da_cons (de_str [116,97,107,101]) (da_cons (de_str []) (da_nil)))) (da_nil)))) (de_min2 (de_var 7) (de_len (de_var 5) z_len) z_min)))
 (ds_cons (ds_if (dt_c (dc_ge (de_var 7) (de_len (de_var 5) z_len)))
 (ds_one (ds_set 8 (de_call c__law_deed (da_cons (de_var 6) (da_cons (de_sub (de_var 7) (de_len (de_var 5) z_len)) (da_nil))) (hAs:=al_cons (al_cons al_nil)))))
 (ds_nil))
 (ds_cons (ds_setX 9 (dc_fun c__law_due (ax_cons 3 (.ow 2) (ax_of (da_cons (de_var 8) (da_nil)))) (al_cons al_nil)))
 (ds_cons (ds_setX 10 (dc_fun c__law_done (ax_cons 1 (.ow 2) (ax_of (da_cons (de_var 8) (da_nil)))) (al_cons al_nil)))
 (ds_cons (ds_if (dt_chain (dw_or (dt_c (dc_ne (de_var 10) (de_var 9))) (dw_or1 (dt_chain (dw_and (dt_c (dc_isN (de_var 9))) (dw_and1 (dt_c (dc_notN (de_var 10)))))))))
 (ds_one (ds_ret (de_bl)))
 (ds_nil))
 (ds_one (ds_if (dt_chain (dw_and (dt_c (dc_ge (de_var 7) (de_len (de_var 5) z_len))) (dw_and1 (dt_not (dt_val (de_call c__law_seen (da_cons (de_var 1) (da_cons (de_var 3) (da_cons (de_call c__law_name (da_cons (de_add (de_call c__law_cell (da_cons (de_var 0) (da_cons (de_int) (da_nil))) (hAs:=al_cons (al_cons al_nil))) (de_var 7)) (da_nil)) (hAs:=al_cons al_nil)) (da_nil)))) (hAs:=al_cons (al_cons (al_cons al_nil)))))))))
 (ds_one (ds_ret (de_bl)))
 (ds_nil)))))))))
 (ds_one (ds_ret (de_call c__law_seen (da_cons (de_var 2) (da_cons (de_var 4) (da_cons (de_str [97]) (da_nil)))) (hAs:=al_cons (al_cons (al_cons al_nil))))))))))))))
end VP
end
section
set_option linter.all false
set_option maxHeartbeats 1000000
set_option maxRecDepth 10000
namespace Vm
def tryC{σ:Type}(cs:List (Nat×Bool))(R:Res σ)(H:Nat→Res σ):Res σ:=match R with
 | .exc c=>match takesC cs c with
  | some true=>match H c with
   | .exc _=>.bad
   | r=>r
  | some false=>.exc c
  | none=>.bad
 | r=>r
end Vm
end
section
set_option linter.all false
set_option maxHeartbeats 1000000
set_option maxRecDepth 10000
namespace Vm
@[irreducible] def rng3P (i j c:Int):Res (List Int):=rng3R i j c
end Vm
end
section
set_option linter.all false
set_option maxHeartbeats 1000000
set_option maxRecDepth 10000
namespace Vm
section
variable {α β γ δ ι κ σ τ ρ:Type} {ka:α→PV} {kb:β→PV} {EP:En→Prop} {Γ:En} {e j k:EX} {t u w:Tg}
end
end Vm
end
section
set_option linter.all false
set_option maxHeartbeats 1000000
set_option maxRecDepth 10000
namespace Vm
inductive Stp where
 | keep | turn (w:List Nat) | lose | add (w:List Nat) | twice | swap | skip (k:Int)
 deriving DecidableEq
def kStp:Stp→PV
 | .keep=>.tup [.str [107,101,101,112]]
 | .turn w=>.tup [.str [116,117,114,110],.str w]
 | .lose=>.tup [.str [108,111,115,101]]
 | .add w=>.tup [.str [97,100,100],.str w]
 | .twice=>.tup [.str [116,119,105,99,101]]
 | .swap=>.tup [.str [115,119,97,112]]
 | .skip k=>.tup [.str [115,107,105,112],.int k]
instance:Enc kStp where
 d:=1
 eq:=fun a b=>by
  rw [Bool.eq_iff_iff]
  cases a <;> cases b <;> simp [kStp,eqv,eqvL]
 sh:=fun n h a=>by
  cases n with
  | zero=>omega
  | succ n=>cases a <;> cases n <;> simp [kStp,shp,shpL]
instance:NN kStp:=⟨fun a h=>by cases a <;> cases h⟩
instance:St kStp:=⟨fun a=>by cases a <;> simp [kStp,stab,stabL]⟩
section
variable {α β γ δ:Type} {Γ:En} {a b:EX} {as:EXs} {t u:Tg} {A:Res Stp}
end
end Vm
end
section
set_option linter.all false
set_option maxHeartbeats 1000000
set_option maxRecDepth 10000
namespace Vm
section
variable {α β:Type} {EP:En→Prop} {Γ:En}
end
end Vm
end
section
set_option linter.all false
set_option maxHeartbeats 1000000
set_option maxRecDepth 10000
namespace Vm
def kD{α β:Type}(ka:α→PV)(kb:β→PV)(l:List (α×β)):PV:=.dic (l.map fun z=>ka z.1) (l.map fun z=>kb z.2)
class KeyN {α:Type} (ka:α→PV):Prop where
 n:∀ m a,keyN m (ka a)=true
class KeyE {α:Type} (ka:α→PV):Prop where
 s:(∀ a,keyL (ka a)=true) ∨ (∀ a,keyT (ka a)=true)
instance:KeyN kI:=⟨fun m a=>by cases m <;> rfl⟩
instance:KeyN kS:=⟨fun m a=>by cases m <;> rfl⟩
instance {α:Type} {ka:α→PV} [KeyN ka]:KeyN (kO ka):=⟨fun m a=>by
 cases a with
 | none=>cases m <;> rfl
 | some a=>exact KeyN.n m a⟩
instance:KeyE kI:=⟨.inl fun a=>rfl⟩
instance:KeyE kS:=⟨.inl fun a=>rfl⟩
instance:KeyE (kO kI):=⟨.inl fun a=>by cases a <;> rfl⟩
instance:KeyE (kO kS):=⟨.inl fun a=>by cases a <;> rfl⟩
instance {α β:Type} {ka:α→PV} {kb:β→PV} [KeyN ka] [KeyN kb]:KeyE (kP2 ka kb):=⟨.inr fun a=>by
 show (keyN 7 (ka a.1) && (keyN 7 (kb a.2) && true))=true
 rw [KeyN.n,KeyN.n]; rfl⟩
theorem keyNL_map{α:Type}{ka:α→PV}[KeyN ka](n:Nat)(l:List α):keyNL n (l.map ka)=true:=by
 induction l with
 | nil=>cases n <;> rfl
 | cons a l ih=>show (keyN n (ka a) && keyNL n (l.map ka))=true; rw [KeyN.n,ih]; rfl
instance {α:Type} {ka:α→PV} [KeyN ka]:KeyE (kT ka):=⟨.inr fun a=>keyNL_map 7 a⟩
theorem sameK_e{α β:Type}{ka:α→PV}[KeyE ka](k:α)(l:List (α×β)):sameK (ka k) (l.map fun z=>ka z.1)=true:=by
 unfold sameK
 rcases KeyE.s (ka:=ka) with h | h
 ·rw [h k,show (l.map fun z=>ka z.1).all keyL=true by rw [List.all_map]; exact List.all_eq_true.mpr fun z _=>h z.1]; rfl
 ·rw [h k,show (l.map fun z=>ka z.1).all keyT=true by rw [List.all_map]; exact List.all_eq_true.mpr fun z _=>h z.1]; simp
section
variable {α β:Type} [DecidableEq α]
def dfind(d:List (α×β))(k:α):Option β:=(d.find? fun z=>decide (z.1=k)).map (·.2)
def dixR(d:List (α×β))(k:α):Res β:=match dfind d k with
 | some x=>.ok x
 | none=>.bad
def dput:List (α×β)→α→β→List (α×β)
 | [],k,v=>[(k,v)]
 | z :: l,k,v=>if z.1=k then (z.1,v) :: l else z :: dput l k v
variable {ka:α→PV} {kb:β→PV} [Enc ka]
theorem dIx_e(k:α):∀ d:List (α×β),((dIx (d.map fun z=>ka z.1) (ka k)).bind fun j=>(d.map fun z=>kb z.2)[j]?)=(dfind d k).map kb∧(dIx (d.map fun z=>ka z.1) (ka k)).isSome=(dfind d k).isSome
 | []=>⟨rfl,rfl⟩
 | z :: d=>by
  obtain ⟨h1,h2⟩:=dIx_e k d
  unfold dfind at h1 h2 ⊢
  simp only [List.map_cons,dIx,Enc.eq]
  by_cases h:z.1=k
  ·rw [List.find?_cons_of_pos (by simpa using h)]
   simp [h]
  ·rw [List.find?_cons_of_neg (by simpa using h)]
   simp only [h,decide_false,Bool.false_eq_true,if_false]
   refine ⟨?_,by rw [← h2]; cases dIx (d.map fun z=>ka z.1) (ka k) <;> rfl⟩
   rw [← h1]
   cases dIx (d.map fun z=>ka z.1) (ka k) <;> simp
theorem dGet_e(k:α)(d:List (α×β)):dGet (d.map fun z=>ka z.1) (d.map fun z=>kb z.2) (ka k)=(dfind d k).map kb:=(dIx_e k d).1
theorem dPut_e(k:α)(v:β):∀ d:List (α×β),dPutK (d.map fun z=>ka z.1) (ka k)=(dput d k v).map (fun z=>ka z.1)∧dPutV (d.map fun z=>ka z.1) (d.map fun z=>kb z.2) (ka k) (kb v)=(dput d k v).map fun z=>kb z.2
 | []=>⟨rfl,rfl⟩
 | z :: d=>by
  obtain ⟨h1,h2⟩:=dPut_e k v d
  unfold dput
  simp only [List.map_cons,dPutK,dPutV,Enc.eq]
  by_cases h:z.1=k
  ·simp [h]
  ·simp [h,h1,h2]
end
section
variable {α β γ:Type} [DecidableEq α] {ka:α→PV} {kb:β→PV} [Enc ka] [KeyE ka] {Γ:En} {a b c:EX} {as:EXs} {t u w:Tg}
theorem rDIdx{A:Res (List (α×β))}{B:Res α}(ha:RefG (tv t (kD ka kb)) (a Γ) A)(hb:RefG (tv u ka) (b Γ) B):RefG (tv (dn t) kb) (eDIdx a b Γ) (A.bind fun d=>B.bind fun k=>dixR d k):=ha.bind fun d=>hb.bind fun k=>by
 show RefG _ (if sameK (ka k) (d.map fun z=>ka z.1) then _ else _) _
 rw [if_pos (sameK_e k d),dGet_e k d]
 unfold dixR
 cases dfind d k <;> first | exact trivial | rfl
theorem rDIn{A:Res α}{B:Res (List (α×β))}(ha:RefG (tv t ka) (a Γ) A)(hb:RefG (tv u (kD ka kb)) (b Γ) B):RefG (tv .fz kB) (eOp2 opDIn a b Γ) (A.bind fun k=>B.bind fun d=>.ok (dfind d k).isSome):=ha.bind fun k=>hb.bind fun d=>by
 show RefG _ (((if sameK (ka k) (d.map fun z=>ka z.1) then Res.ok (dIx (d.map fun z=>ka z.1) (ka k)).isSome else .bad).bind fun b=>.ok (.bl b)).bind fzv) _
 rw [if_pos (sameK_e k d),(dIx_e (kb:=kb) k d).2]; rfl
theorem rDNotIn{A:Res α}{B:Res (List (α×β))}(ha:RefG (tv t ka) (a Γ) A)(hb:RefG (tv u (kD ka kb)) (b Γ) B):RefG (tv .fz kB) (eOp2 opDNotIn a b Γ) (A.bind fun k=>B.bind fun d=>.ok (!(dfind d k).isSome)):=ha.bind fun k=>hb.bind fun d=>by
 show RefG _ (((if sameK (ka k) (d.map fun z=>ka z.1) then Res.ok (dIx (d.map fun z=>ka z.1) (ka k)).isSome else .bad).bind fun b=>.ok (.bl (!b))).bind fzv) _
 rw [if_pos (sameK_e k d),(dIx_e (kb:=kb) k d).2]; rfl
theorem rDLen{α:Type}{ka:α→PV}{A:Res (List (α×β))}(ha:RefG (tv t (kD ka kb)) (a Γ) A):RefG (tv .fz kI) (eDLen a Γ) (A.bind fun d=>.ok (d.length:Int)):=ha.bind fun d=>by
 show Res.ok (Tg.fz,PV.int ((d.map fun z=>ka z.1).length:Int))=_
 rw [List.length_map]; rfl
end
end Vm
end
section
set_option linter.all false
set_option maxHeartbeats 1000000
set_option maxRecDepth 10000
namespace Vm
end Vm
end
section
set_option linter.all false
set_option maxHeartbeats 1000000
set_option maxRecDepth 10000
namespace Vm
end Vm
end
section
set_option linter.all false
set_option maxHeartbeats 1000000
set_option maxRecDepth 10000
namespace Vm
end Vm
end
section
set_option linter.all false
set_option maxHeartbeats 1000000
set_option maxRecDepth 10000
namespace Vm
section
variable {α β γ σ τ ι:Type} {ka:α→PV} {kb:β→PV} {Γ:En} {a b c j e:EX} {t u w:Tg} {EP:En→Prop} {Post:Out→σ→Prop}
instance kPT_e {ka:α→PV} {kb:β→PV} [KeyN ka] [KeyN kb]:KeyE (kP2 ka (kT kb)):=⟨.inr fun a=>by
 show (keyN 7 (ka a.1) && (keyN 7 (kT kb a.2) && true))=true
 rw [KeyN.n,show keyN 7 (kT kb a.2)=true from keyNL_map 6 a.2]; rfl⟩
instance {α β:Type} {ka:α→PV} {kb:β→PV}:NN (kD ka kb):=⟨fun _ h=>by cases h⟩
theorem dput_at[DecidableEq α][Enc ka]{kv:γ→PV}(k:α)(v:γ):∀ (d:List (α×γ)) {m:γ},dfind d k=some m→∃ j,dIx (d.map fun z=>ka z.1) (ka k)=some j∧(d.map fun z=>kv z.2)[j]? = some (kv m)∧(dput d k v).map (fun z=>ka z.1)=d.map (fun z=>ka z.1)∧(dput d k v).map (fun z=>kv z.2)=(d.map fun z=>kv z.2).set j (kv v)
 | [],m,h=>by cases h
 | z :: d,m,h=>by
  unfold dput
  simp only [List.map_cons,dIx,Enc.eq]
  by_cases hz:z.1=k
  ·have hm:z.2=m:=by simpa [dfind,hz] using h
   refine ⟨0,by simp [hz],by simp [hm],by simp [hz],by simp [hz]⟩
  ·have h':dfind d k=some m:=by simpa [dfind,hz] using h
   obtain ⟨j,h1,h2,h3,h4⟩:=dput_at k v d h'
   refine ⟨j+1,by simp [hz,h1],by simpa using h2,by simp [hz,h3],by simp [hz,h4]⟩
end
end Vm
end
section
set_option linter.all false
set_option maxHeartbeats 1000000
set_option maxRecDepth 10000
namespace Vm
section
variable {Γ:En} {a b c d:EX} {t u v w:Tg}
end
end Vm
end
section
set_option linter.all false
set_option maxHeartbeats 1000000
set_option maxRecDepth 10000
namespace Vm
section
variable {α:Type} {ka:α→PV} {Γ:En} {a:EX} {t:Tg}
end
end Vm
end
section
set_option linter.all false
set_option maxHeartbeats 1000000
set_option maxRecDepth 10000
namespace Vm
section
variable {Γ:En} {a:EX} {t:Tg}
end
end Vm
end
section
set_option linter.all false
set_option maxHeartbeats 1000000
set_option maxRecDepth 10000
namespace Vm
theorem bind_okN{α β:Type}(a:α)(f:α→Res β):(Res.ok a).bind f=f a:=(show (Res.ok a).bind f=f a from rfl).trans rfl
section
variable {Γ:En} {a b:EX} {t u:Tg} {α:Type} {ka:α→PV}
theorem indexQ_go[DecidableEq α][Enc ka](hd:Enc.d ka≤50)(x:List α)(y:α):RefG (tv .fz kI) (match shp 50 (ka y) && shpL 50 (x.map ka) with
   | true=>match firstIx (fun z=>eqv z (ka y)) (x.map ka) with
    | some k=>(.ok (.fz,.int k):Res TV)
    | none=>.bad
   | false=>.bad) (indexR x y):=by
 unfold indexR
 rw [Enc.sh (k:=ka) 50 hd,shpL_enc 50 hd,firstIx_enc]
 show RefG _ (match firstIx (fun z=>decide (z=y)) x with | some k=>(.ok (.fz,.int k):Res TV) | none=>.bad) _
 cases firstIx (fun z=>decide (z=y)) x with
 | none=>exact trivial
 | some k=>exact rfl
theorem rIndexQL[DecidableEq α][Enc ka]{A:Res (List α)}{B:Res α}(ha:RefG (tv t (kL ka)) (a Γ) A)(hb:RefG (tv u ka) (b Γ) B)(hd:Enc.d ka≤50:=by decide):RefG (tv .fz kI) (eIndexQ a b Γ) (A.bind fun x=>B.bind fun y=>indexR x y) :=
 ha.bind fun x=>by
  show RefG _ ((b Γ).bind _) _
  exact hb.bind fun y=>indexQ_go hd x y
end
end Vm
end
section
set_option linter.all false
set_option maxHeartbeats 1000000
namespace Vm
section
variable {α β:Type} {EP:En→Prop} {Post:Out→β→Prop} {x y:ST} {T:TX}
end
end Vm
end
section
set_option linter.all false
set_option maxHeartbeats 1000000
set_option maxRecDepth 10000
namespace Vm
theorem map_okN{α β:Type}(f:α→β)(a:α):(Res.ok a).map f = .ok (f a):=(show (Res.ok a).map f = .ok (f a) from rfl).trans rfl
abbrev Hs:=List (List Nat×List (List Nat))×List (List Nat×Option Int)×List Int×Int
def kH(h:Hs):PV:=.exo 0 [kD kS (kT kS) h.1,kD kS (kO kI) h.2.1,kT kI h.2.2.1,kI h.2.2.2]
def hs0:Hs:=([],[],[1,2,2,2,1,1,3],100)
def ddel{α β:Type}[DecidableEq α](d:List (α×β))(k:α):List (α×β):=d.filter fun z=>!decide (z.1=k)
section
variable {Γ:En} {α β:Type} {a b:EX} {as:EXs} {t u:Tg}
theorem rFldR{A:Res Hs}(ha:RefG (tv t kH) (a Γ) A):RefG (tv (dn t) (kD kS (kT kS))) (eFld 0 a Γ) (A.bind fun h=>.ok h.1):=ha.bind fun _=>rfl
theorem rFldD{A:Res Hs}(ha:RefG (tv t kH) (a Γ) A):RefG (tv (dn t) (kD kS (kO kI))) (eFld 1 a Γ) (A.bind fun h=>.ok h.2.1):=ha.bind fun _=>rfl
noncomputable def hNames:FN:=runFn 1 1 (dRet (eTupleK (eFld 0 (eVar 0))))
noncomputable def hPrices:FN:=runFn 1 1 (dRet (eFld 2 (eVar 0)))
noncomputable def hFresh:FN:=runFn 1 1 (dRet (eFld 3 (eVar 0)))
noncomputable def hLook:FN:=runFn 2 2
 (dIf (xVal (eOp2 opDNotIn (eVar 1) (eFld 0 (eVar 0))))
 (dRaise 6)
 (dNil))
noncomputable def hRow:FN:=runFn 2 2
 (dSeq (dEx (eMeth hLook (eVar 0) (eCons (eVar 1) (eNil))))
 (dRet (eDIdx (eFld 0 (eVar 0)) (eVar 1))))
noncomputable def hDay:FN:=runFn 2 2
 (dSeq (dEx (eMeth hLook (eVar 0) (eCons (eVar 1) (eNil))))
 (dRet (eDIdx (eFld 1 (eVar 0)) (eVar 1))))
noncomputable def hInit:FX:=runX [.ow 2] 1
 (dSeq (dFNew 0 0)
 (dSeq (dFNew 0 1)
 (dSeq (dFSet 0 2 (eTup (eCons (eC (.int 1)) (eCons (eC (.int 2)) (eCons (eC (.int 2)) (eCons (eC (.int 2)) (eCons (eC (.int 1)) (eCons (eC (.int 1)) (eCons (eC (.int 3)) (eNil))))))))))
 (dFSet 0 3 (eC (.int 100))))))
noncomputable def hSetP:FX:=runX [.ow 2,.fz] 2 (dFSet 0 2 (eVar 1))
noncomputable def hSetF:FX:=runX [.ow 2,.fz] 2 (dFSet 0 3 (eVar 1))
noncomputable def hPut(w:FN):FX:=runX [.ow 2,.fz,.fz,.fz] 4
 (dSeq (dIf (xNot (xVal (eCall w (eCons (eVar 1) (eNil)))))
 (dRaise 6)
 (dNil))
 (dSeq (dIf (xVal (eOp2 opDIn (eVar 1) (eFld 0 (eVar 0))))
 (dRaise 7)
 (dNil))
 (dSeq (dIf (xVal (eOp2 opGe (eDLen (eFld 0 (eVar 0))) (eC (.int 30))))
 (dRaise 8)
 (dNil))
 (dSeq (dFPut 0 0 (eVar 1) (eVar 2))
 (dFPut 0 1 (eVar 1) (eVar 3))))))
noncomputable def hTake:FX:=runX [.ow 2,.fz] 2
 (dSeq (dEx (eMeth hLook (eVar 0) (eCons (eVar 1) (eNil))))
 (dSeq (dFPop 0 0 (eVar 1))
 (dFPop 0 1 (eVar 1))))
def fNames(h:Hs):Res (List (List Nat)):=if h.1.length≤16777216 then .ok (h.1.map (·.1)) else .bad
def fLook(h:Hs)(n:List Nat):Res Unit:=if (dfind h.1 n).isSome then .ok () else .exc 6
def fRow(h:Hs)(n:List Nat):Res (List (List Nat)):=((fLook h n).bind fun _=>Res.ok ()).bind fun _=>(dixR h.1 n).bind fun x=>.ok x
def fDay(h:Hs)(n:List Nat):Res (Option Int):=((fLook h n).bind fun _=>Res.ok ()).bind fun _=>(dixR h.2.1 n).bind fun x=>.ok x
def fPut(w:List Nat→Res Bool)(h:Hs)(n:List Nat)(r:List (List Nat))(d:Option Int):Res Hs:=((w n).bind fun b=>.ok (!b)).bind fun b =>
 if b then .exc 6 else if (dfind h.1 n).isSome then .exc 7 else if decide ((30:Int)≤h.1.length) then .exc 8 else
 if h.1.length < 16777216∧h.2.1.length < 16777216 then .ok (dput h.1 n r,dput h.2.1 n d,h.2.2) else .bad
def fTake(h:Hs)(n:List Nat):Res Hs:=(fLook h n).bind fun _=>if (dfind h.2.1 n).isSome then .ok (ddel h.1 n,ddel h.2.1 n,h.2.2) else .bad
theorem rMeth{f:FN}{h:Hs}{G:α→TV}{r:Res α}(ha:RefG (tv t kH) (a Γ) (.ok h))(hc:RefG G (eCall f (eCons a as) Γ) r):RefG G (eMeth f a as Γ) r:=by
 have e:a Γ = .ok (t,kH h):=ha
 have e2:eMeth f a as Γ=eCall f (eCons a as) Γ:=by
  show ((a Γ).bind fun x=>if isHs [x.2] then ((as Γ).bind fun xs=>(f ((x :: xs).map (·.2))).bind fun r=>if (x :: xs).any isBw && !stabR r then .bad else .ok r) else .bad)=(((a Γ).bind fun x=>(as Γ).bind fun xs=>Res.ok (x :: xs)).bind fun xs=>(f (xs.map (·.2))).bind fun r=>if xs.any isBw && !stabR r then .bad else .ok r)
  rw [e]
  show ((as Γ).bind fun xs=>(f (((t,kH h) :: xs).map (·.2))).bind fun r=>if ((t,kH h) :: xs).any isBw && !stabR r then .bad else .ok r)=(((as Γ).bind fun xs=>Res.ok ((t,kH h) :: xs)).bind fun xs=>(f (xs.map (·.2))).bind fun r=>if xs.any isBw && !stabR r then .bad else .ok r)
  rw [bind_assoc]
  rfl
 rw [e2]; exact hc
theorem tLook(h:Hs)(n:List Nat):RefG (tv .fz kN) (hLook [kH h,kS n]) (fLook h n):=by
 unfold hLook fLook
 have:=rDNotIn (Γ:=[some (.fz,kH h),some (.fz,kS n)]) (a:=eVar 1) (b:=eFld 0 (eVar 0)) (rV .fz kS n) (rFldR (rV (e:=eVar 0) .fz kH h))
 have e:xVal (eOp2 opDNotIn (eVar 1) (eFld 0 (eVar 0))) [some (.fz,kH h),some (.fz,kS n)] = .ok (!(dfind h.1 n).isSome):=xV this
 refine tFn (args:=[kH h,kS n]) (ns:=2) ?_
 show RG _ _ (aft (xVal (eOp2 opDNotIn (eVar 1) (eFld 0 (eVar 0))) [some (.fz,kH h),some (.fz,kS n)]) _ _) _
 rw [e]
 cases (dfind h.1 n).isSome
 ·exact ⟨_,rfl,trivial⟩
 ·exact .inr ⟨_,rfl,rfl⟩
theorem mLook{n:List Nat}{h:Hs}(ha:RefG (tv t kH) (a Γ) (.ok h))(hb:RefG (tv u kS) (b Γ) (.ok n)):RefG (tv .fz kN) (eMeth hLook a (eCons b eNil) Γ) (fLook h n) :=
 rMeth ha (argsC (A:=.ok h) (K:=fun x=>fLook x n) ha fun x=>argsC (A:=.ok n) (K:=fun y=>fLook x y) hb fun y=>argsN (rCallS [kH x,kS y] (tLook x y) (fun _=>rfl)))
theorem tRow(h:Hs)(n:List Nat):RefG (tv .fz (kT kS)) (hRow [kH h,kS n]) (fRow h n):=by
 unfold hRow fRow
 have e1:=mLook (Γ:=[some (.fz,kH h),some (.fz,kS n)]) (rV (e:=eVar 0) .fz kH h) (rV (e:=eVar 1) .fz kS n)
 have e2:=rDIdx (Γ:=[some (.fz,kH h),some (.fz,kS n)]) (rFldR (rV (e:=eVar 0) .fz kH h)) (rV (e:=eVar 1) .fz kS n)
 exact tFn (args:=[kH h,kS n]) (ns:=2) (gPrim (u':=fun _=>[some (.fz,kH h),some (.fz,kS n)]) (pEx e1 trivial) fun _=>gRet (K:=fun x=>.ok x) e2 (fun x=>gOk (s:=x) (Or.inl ⟨_,rfl⟩)) trivial)
theorem tDay(h:Hs)(n:List Nat):RefG (tv .fz (kO kI)) (hDay [kH h,kS n]) (fDay h n):=by
 unfold hDay fDay
 have e1:=mLook (Γ:=[some (.fz,kH h),some (.fz,kS n)]) (rV (e:=eVar 0) .fz kH h) (rV (e:=eVar 1) .fz kS n)
 have e2:=rDIdx (Γ:=[some (.fz,kH h),some (.fz,kS n)]) (rFldD (rV (e:=eVar 0) .fz kH h)) (rV (e:=eVar 1) .fz kS n)
 exact tFn (args:=[kH h,kS n]) (ns:=2) (gPrim (u':=fun _=>[some (.fz,kH h),some (.fz,kS n)]) (pEx e1 trivial) fun _=>gRet (K:=fun x=>.ok x) e2 (fun x=>gOk (s:=x) (Or.inl ⟨_,rfl⟩)) trivial)
theorem tPrices(h:Hs):RefG (tv .fz (kT kI)) (hPrices [kH h]) (.ok h.2.2.1):=rfl
theorem tFresh(h:Hs):RefG (tv .fz kI) (hFresh [kH h]) (.ok h.2.2.2):=rfl
theorem tNames(h:Hs):RefG (tv .fz (kT kS)) (hNames [kH h]) (fNames h):=by
 unfold hNames fNames
 by_cases hl:h.1.length≤16777216
 ·rw [if_pos hl]
  have hk:((h.1.map fun z=>kS z.1).all (keyN 8) && decide ((h.1.map fun z=>kS z.1).length≤16777216))=true:=by
   rw [Bool.and_eq_true,List.length_map]
   exact ⟨by rw [List.all_map]; exact List.all_eq_true.mpr fun z _=>rfl,by simpa using hl⟩
  have e:eTupleK (eFld 0 (eVar 0)) [some (.fz,kH h)] = .ok (.fz,.tup (h.1.map fun z=>kS z.1)):=by
   show (if ((h.1.map fun z=>kS z.1).all (keyN 8) && decide ((h.1.map fun z=>kS z.1).length≤16777216))=true then _ else _)=_
   rw [if_pos hk]
  have e2:RefG (tv .fz (kT kS)) (eTupleK (eFld 0 (eVar 0)) [some (.fz,kH h)]) (.ok (h.1.map (·.1))):=by
   rw [e]; show _=_; unfold tv kT; rw [List.map_map]; rfl
  exact tFn (args:=[kH h]) (ns:=1) (R:=.ok (h.1.map (·.1))) (gRet (Post:=RtP (tv .fz (kT kS))) (K:=fun x=>.ok x) e2 (fun x=>gOk (s:=x) (Or.inl ⟨_,rfl⟩)) trivial)
 ·rw [if_neg hl]; exact trivial
theorem rHouse:RefG (tv (.ow 2) kH) (eHouse hInit Γ) (.ok hs0):=rfl
theorem tSetP(h:Hs)(p:List Int):RefG (fun h':Hs=>(PV.non,[kH h',kT kI p])) (hSetP [kH h,kT kI p]) (.ok (h.1,h.2.1,p,h.2.2.2)):=rfl
theorem tSetF(h:Hs)(p:Int):RefG (fun h':Hs=>(PV.non,[kH h',kI p])) (hSetF [kH h,kI p]) (.ok (h.1,h.2.1,h.2.2.1,p)):=rfl
def XP(ts:List Tg)(args:List PV)(g:α→PV×List PV):Out→α→Prop:=fun o x=>∃ Γ',(o = .rt .fz (g x).1 Γ' ∨ o = .nx Γ'∧(g x).1 = .non)∧readA Γ' 0 ts args = .ok (g x).2
theorem xp_run{ts:List Tg}{ns:Nat}{body:ST}{args:List PV}{g:α→PV×List PV}{x:α}(h:XP ts args g (body (startM ts args++List.replicate (ns - ts.length) none)) x)(hl:args.length=ts.length):runX ts ns body args = .ok (g x):=by
 unfold runX
 rw [if_pos hl]
 obtain ⟨Γ',h1,h2⟩:=h
 rcases h1 with h1 | ⟨h1,h3⟩
 ·rw [h1]; show (readA Γ' 0 ts args).bind _=_; rw [h2]; rfl
 ·rw [h1]; show (readA Γ' 0 ts args).bind _=_; rw [h2]; show Res.ok (PV.non,(g x).2)=_; rw [← h3]
theorem tFnXe{ts:List Tg}{ns:Nat}{body:ST}{args:List PV}{g:α→PV×List PV}{R:Res α}(h:RG (fun Γ'=>readA Γ' 0 ts args = .ok args) (XP ts args g) (body (startM ts args++List.replicate (ns - ts.length) none)) R)(hl:args.length=ts.length:=by rfl):RefG g (runX ts ns body args) R:=by
 cases R with
 | bad=>exact trivial
 | ok x=>exact xp_run h hl
 | exc c =>
  obtain ⟨Γ',h1,h2⟩:=h
  show runX ts ns body args = .exc c
  unfold runX
  rw [if_pos hl,h1]
  show (readA Γ' 0 ts args).bind _=_
  rw [h2,bind_ok,if_pos rfl]
theorem tFnX{ts:List Tg}{ns:Nat}{body:ST}{args:List PV}{g:α→PV×List PV}{R:Res α}(h:RG (fun _=>True) (XP ts args g) (body (startM ts args++List.replicate (ns - ts.length) none)) R)(hl:args.length=ts.length:=by rfl):RefG g (runX ts ns body args) (noExc R):=by
 cases R with
 | bad=>exact trivial
 | exc c=>exact trivial
 | ok x=>exact xp_run h hl
theorem fput0{h:Hs}{n:List Nat}{r:List (List Nat)}{x:Sl}(hl:h.1.length < 16777216):dFPut 0 0 (eVar 1) (eVar 2) [some (.ow 2,kH h),some (.fz,kS n),some (.fz,kT kS r),x] = .nx [some (.ow 2,kH (dput h.1 n r,h.2)),some (.fz,kS n),some (.fz,kT kS r),x]:=by
 show (if (sameK (kS n) (h.1.map fun z=>kS z.1) && decide ((h.1.map fun z=>kS z.1).length < 16777216))=true then Out.nx [some (.ow 2,.exo 0 [.dic (dPutK (h.1.map fun z=>kS z.1) (kS n)) (dPutV (h.1.map fun z=>kS z.1) (h.1.map fun z=>kT kS z.2) (kS n) (kT kS r)),kD kS (kO kI) h.2.1,kT kI h.2.2.1,kI h.2.2.2]),some (.fz,kS n),some (.fz,kT kS r),x] else .bad)=_
 rw [if_pos (by rw [sameK_e,List.length_map]; simpa using hl),(dPut_e (kb:=kT kS) n r h.1).1,(dPut_e (kb:=kT kS) n r h.1).2]
 rfl
theorem fput1{h:Hs}{n:List Nat}{d:Option Int}{x:Sl}(hl:h.2.1.length < 16777216):dFPut 0 1 (eVar 1) (eVar 3) [some (.ow 2,kH h),some (.fz,kS n),x,some (.fz,kO kI d)] = .nx [some (.ow 2,kH (h.1,dput h.2.1 n d,h.2.2)),some (.fz,kS n),x,some (.fz,kO kI d)]:=by
 show (if (sameK (kS n) (h.2.1.map fun z=>kS z.1) && decide ((h.2.1.map fun z=>kS z.1).length < 16777216))=true then Out.nx [some (.ow 2,.exo 0 [kD kS (kT kS) h.1,.dic (dPutK (h.2.1.map fun z=>kS z.1) (kS n)) (dPutV (h.2.1.map fun z=>kS z.1) (h.2.1.map fun z=>kO kI z.2) (kS n) (kO kI d)),kT kI h.2.2.1,kI h.2.2.2]),some (.fz,kS n),x,some (.fz,kO kI d)] else .bad)=_
 rw [if_pos (by rw [sameK_e,List.length_map]; simpa using hl),(dPut_e (kb:=kO kI) n d h.2.1).1,(dPut_e (kb:=kO kI) n d h.2.1).2]
 rfl
theorem tPut{w:FN}{fw:List Nat→Res Bool}(hw:∀ n,RefG (tv .fz kB) (w [kS n]) (fw n))(h:Hs)(n:List Nat)(r:List (List Nat))(d:Option Int):RefG (fun h':Hs=>(PV.non,[kH h',kS n,kT kS r,kO kI d])) (hPut w [kH h,kS n,kT kS r,kO kI d]) (fPut fw h n r d):=by
 unfold hPut fPut
 let Γ0:En:=[some (.ow 2,kH h),some (.fz,kS n),some (.fz,kT kS r),some (.fz,kO kI d)]
 have e1:RefG id (xNot (xVal (eCall w (eCons (eVar 1) eNil))) Γ0) ((fw n).bind fun b=>.ok (!b)):=xN (xV (argsC (A:=.ok n) (K:=fun y=>fw y) (rV (e:=eVar 1) .fz kS n) fun y=>argsN (rCallB [kS y] (hw y))))
 have e2:xVal (eOp2 opDIn (eVar 1) (eFld 0 (eVar 0))) Γ0 = .ok (dfind h.1 n).isSome:=xV (rDIn (rV (e:=eVar 1) .fz kS n) (rFldR (rV (e:=eVar 0) (.bw 2) kH h)))
 have e3:xVal (eOp2 opGe (eDLen (eFld 0 (eVar 0))) (eC (.int 30))) Γ0 = .ok (decide ((30:Int)≤h.1.length)):=xV (rGe (rDLen (rFldR (rV (e:=eVar 0) (.bw 2) kH h))) (rV .fz kI 30))
 refine tFnXe (args:=[kH h,kS n,kT kS r,kO kI d]) (ns:=4) ?_
 have key:RG (fun Γ'=>readA Γ' 0 [.ow 2,.fz,.fz,.fz] [kH h,kS n,kT kS r,kO kI d] = .ok [kH h,kS n,kT kS r,kO kI d]) (XP [.ow 2,.fz,.fz,.fz] [kH h,kS n,kT kS r,kO kI d] (fun h':Hs=>(PV.non,[kH h',kS n,kT kS r,kO kI d])))
   (dSeq (dIf (xVal (eOp2 opDIn (eVar 1) (eFld 0 (eVar 0)))) (dRaise 7) (dNil)) (dSeq (dIf (xVal (eOp2 opGe (eDLen (eFld 0 (eVar 0))) (eC (.int 30)))) (dRaise 8) (dNil)) (dSeq (dFPut 0 0 (eVar 1) (eVar 2)) (dFPut 0 1 (eVar 1) (eVar 3)))) Γ0)
   (if (dfind h.1 n).isSome then .exc 7 else if decide ((30:Int)≤h.1.length) then .exc 8 else if h.1.length < 16777216∧h.2.1.length < 16777216 then .ok (dput h.1 n r,dput h.2.1 n d,h.2.2) else .bad):=by
  refine gIfD (D:=.ok (dfind h.1 n).isSome) (R1:=.exc 7) (R2:=if decide ((30:Int)≤h.1.length) then .exc 8 else if h.1.length < 16777216∧h.2.1.length < 16777216 then .ok (dput h.1 n r,dput h.2.1 n d,h.2.2) else .bad) e2 (gRaiseS 7 rfl) (gNil ?_) rfl
  refine gIfD (D:=.ok (decide ((30:Int)≤h.1.length))) (R1:=.exc 8) (R2:=if h.1.length < 16777216∧h.2.1.length < 16777216 then .ok (dput h.1 n r,dput h.2.1 n d,h.2.2) else .bad) e3 (gRaiseS 8 rfl) (gNil ?_) rfl
  by_cases hl:h.1.length < 16777216∧h.2.1.length < 16777216
  ·rw [if_pos hl]
   refine ⟨[some (.ow 2,kH (dput h.1 n r,dput h.2.1 n d,h.2.2)),some (.fz,kS n),some (.fz,kT kS r),some (.fz,kO kI d)],.inr ⟨?_,rfl⟩,rfl⟩
   show (dFPut 0 0 (eVar 1) (eVar 2) Γ0).then _=_
   rw [fput0 hl.1]
   exact fput1 (h:=(dput h.1 n r,h.2)) hl.2
  ·rw [if_neg hl]; exact trivial
 exact gIfD (D:=(fw n).bind fun b=>.ok (!b)) (EP:=fun Γ'=>readA Γ' 0 [.ow 2,.fz,.fz,.fz] [kH h,kS n,kT kS r,kO kI d] = .ok [kH h,kS n,kT kS r,kO kI d]) e1 (gRaiseS 6 rfl) (gNil key) rfl
theorem dDel_e{β:Type}{kb:β→PV}(n:List Nat):∀ d:List (List Nat×β),dDelK (d.map fun z=>kS z.1) (kS n)=(ddel d n).map (fun z=>kS z.1)∧dDelV (d.map fun z=>kS z.1) (d.map fun z=>kb z.2) (kS n)=(ddel d n).map fun z=>kb z.2
 | []=>⟨rfl,rfl⟩
 | z :: d=>by
  obtain ⟨h1,h2⟩:=dDel_e (kb:=kb) n d
  unfold ddel at h1 h2 ⊢
  simp only [List.map_cons,dDelK,dDelV,Enc.eq]
  by_cases h:z.1=n
  ·rw [List.filter_cons_of_neg (by simpa using h)]
   simp only [h,decide_true,if_true]
   exact ⟨h1,h2⟩
  ·rw [List.filter_cons_of_pos (by simpa using h)]
   simp only [h,decide_false,Bool.false_eq_true,if_false,List.map_cons]
   rw [h1,h2]
   exact ⟨rfl,rfl⟩
theorem allK{β:Type}(d:List (List Nat×β)):(d.map fun z=>kS z.1).all keyL=true:=by rw [List.all_map]; exact List.all_eq_true.mpr fun z _=>rfl
theorem fpop0{h:Hs}{n:List Nat}(hn:(dfind h.1 n).isSome=true):dFPop 0 0 (eVar 1) [some (.ow 2,kH h),some (.fz,kS n)] = .nx [some (.ow 2,kH (ddel h.1 n,h.2)),some (.fz,kS n)]:=by
 show (if (isStr (kS n) && (h.1.map fun z=>kS z.1).all keyL && (dIx (h.1.map fun z=>kS z.1) (kS n)).isSome)=true then Out.nx [some (.ow 2,.exo 0 [.dic (dDelK (h.1.map fun z=>kS z.1) (kS n)) (dDelV (h.1.map fun z=>kS z.1) (h.1.map fun z=>kT kS z.2) (kS n)),kD kS (kO kI) h.2.1,kT kI h.2.2.1,kI h.2.2.2]),some (.fz,kS n)] else .bad)=_
 rw [if_pos (by rw [allK,(dIx_e (kb:=kT kS) n h.1).2,hn]; rfl),(dDel_e (kb:=kT kS) n h.1).1,(dDel_e (kb:=kT kS) n h.1).2]
 rfl
theorem fpop1{h:Hs}{n:List Nat}(hn:(dfind h.2.1 n).isSome=true):dFPop 0 1 (eVar 1) [some (.ow 2,kH h),some (.fz,kS n)] = .nx [some (.ow 2,kH (h.1,ddel h.2.1 n,h.2.2)),some (.fz,kS n)]:=by
 show (if (isStr (kS n) && (h.2.1.map fun z=>kS z.1).all keyL && (dIx (h.2.1.map fun z=>kS z.1) (kS n)).isSome)=true then Out.nx [some (.ow 2,.exo 0 [kD kS (kT kS) h.1,.dic (dDelK (h.2.1.map fun z=>kS z.1) (kS n)) (dDelV (h.2.1.map fun z=>kS z.1) (h.2.1.map fun z=>kO kI z.2) (kS n)),kT kI h.2.2.1,kI h.2.2.2]),some (.fz,kS n)] else .bad)=_
 rw [if_pos (by rw [allK,(dIx_e (kb:=kO kI) n h.2.1).2,hn]; rfl),(dDel_e (kb:=kO kI) n h.2.1).1,(dDel_e (kb:=kO kI) n h.2.1).2]
 rfl
theorem tTake(h:Hs)(n:List Nat):RefG (fun h':Hs=>(PV.non,[kH h',kS n])) (hTake [kH h,kS n]) (fTake h n):=by
 unfold hTake fTake
 have e1:=mLook (Γ:=[some (.ow 2,kH h),some (.fz,kS n)]) (rV (e:=eVar 0) (.bw 2) kH h) (rV (e:=eVar 1) .fz kS n)
 refine tFnXe (args:=[kH h,kS n]) (ns:=2) ?_
 unfold fLook at e1 ⊢
 by_cases hn:(dfind h.1 n).isSome=true
 ·rw [if_pos hn] at e1 ⊢
  rw [bind_ok]
  by_cases hd:(dfind h.2.1 n).isSome=true
  ·rw [if_pos hd]
   refine ⟨[some (.ow 2,kH (ddel h.1 n,ddel h.2.1 n,h.2.2)),some (.fz,kS n)],.inr ⟨?_,rfl⟩,rfl⟩
   show (dEx (eMeth hLook (eVar 0) (eCons (eVar 1) eNil)) [some (.ow 2,kH h),some (.fz,kS n)]).then _=_
   have e2:dEx (eMeth hLook (eVar 0) (eCons (eVar 1) eNil)) [some (.ow 2,kH h),some (.fz,kS n)] = .nx [some (.ow 2,kH h),some (.fz,kS n)]:=by
    show aft (eMeth hLook (eVar 0) (eCons (eVar 1) eNil) [some (.ow 2,kH h),some (.fz,kS n)]) _ _=_
    rw [show eMeth hLook (eVar 0) (eCons (eVar 1) eNil) [some (.ow 2,kH h),some (.fz,kS n)] = .ok (.fz,.non) from e1]
    rfl
   rw [e2]
   show (dFPop 0 0 (eVar 1) [some (.ow 2,kH h),some (.fz,kS n)]).then _=_
   rw [fpop0 hn]
   exact fpop1 (h:=(ddel h.1 n,h.2)) hd
  ·rw [if_neg hd]; exact trivial
 ·rw [if_neg hn] at e1 ⊢
  refine ⟨[some (.ow 2,kH h),some (.fz,kS n)],?_,?_⟩
  ·show (dEx (eMeth hLook (eVar 0) (eCons (eVar 1) eNil)) [some (.ow 2,kH h),some (.fz,kS n)]).then _=_
   have e2:dEx (eMeth hLook (eVar 0) (eCons (eVar 1) eNil)) [some (.ow 2,kH h),some (.fz,kS n)] = .exc 6 [some (.ow 2,kH h),some (.fz,kS n)]:=by
    show aft (eMeth hLook (eVar 0) (eCons (eVar 1) eNil) [some (.ow 2,kH h),some (.fz,kS n)]) _ _=_
    rw [show eMeth hLook (eVar 0) (eCons (eVar 1) eNil) [some (.ow 2,kH h),some (.fz,kS n)] = .exc 6 from e1]
    rfl
   rw [e2]; rfl
  ·rfl
def goX(Γ:En)(K:List TV→Out):Res (List TV)→Out
 | .ok xs=>K xs
 | .exc c=>.exc c Γ
 | .bad=>.bad
def endX(f:FX)(ps:List PV)(js:List (Nat×Tg))(Γ:En)(k:PV→En→Out)(xs:List TV):Out:=match putVs xs with
 | .ok qs=>(match f (ps++qs) with
  | .ok (p,news)=>k p (putA Γ js news)
  | .exc c=>.exc c Γ
  | .bad=>.bad)
 | _=>.bad
variable {EP:En→Prop} {σ β:Type} {Post:Out→β→Prop} {f:FX} {js:List (Nat×Tg)} {ps:List PV} {k:PV→En→Out}
theorem callX_go{m:Bool}(ht:takeH m Γ js=some ps):callX m f js as Γ k=goX Γ (endX f ps js Γ k) (as Γ):=by
 unfold callX
 rw [ht]
 show (match as Γ with | .exc c=>Out.exc c Γ | .bad=>.bad | .ok xs=>_)=_
 cases as Γ <;> rfl
theorem xaC{ka:α→PV}{K:List TV→Out}{A:Res α}{R:α→Res β}(ha:RefG (tv t ka) (a Γ) A)(q:∀ x,RG EP Post (goX Γ (fun l=>K ((t,ka x) :: l)) (as Γ)) (R x))(hE:EP Γ):RG EP Post (goX Γ K (eCons a as Γ)) (A.bind R):=by
 show RG EP Post (goX Γ K ((a Γ).bind fun x=>(as Γ).bind fun xs=>.ok (x :: xs))) _
 cases A with
 | bad=>exact trivial
 | exc c =>
  rw [show a Γ = .exc c from ha]
  exact ⟨Γ,rfl,hE⟩
 | ok x =>
  rw [show a Γ = .ok (t,ka x) from ha]
  have:=q x
  show RG EP Post (goX Γ K ((as Γ).bind fun xs=>.ok ((t,ka x) :: xs))) (R x)
  revert this
  cases as Γ <;> exact id
theorem xaN{K:List TV→Out}{r:Res β}(h:RG EP Post (K []) r):RG EP Post (goX Γ K (eNil Γ)) r:=h
theorem xEndS(i:Nat){xs:List TV}{qs:List PV}{g:σ→PV×List PV}{S:Res σ}{u:σ→En}(hq:putVs xs = .ok qs)(hf:RefG g (f (ps++qs)) S)(hu:∀ s,(putA Γ js (g s).2).set i (some (.fz,(g s).1))=u s)(hE:EP Γ):RG EP (NxP fun s Γ'=>Γ'=u s) (endX f ps js Γ (fun p Γ'=>.nx (Γ'.set i (some (.fz,p)))) xs) S:=by
 unfold endX
 rw [hq]
 cases S with
 | bad=>exact trivial
 | exc c=>simp only [show f (ps++qs) = .exc c from hf]; exact ⟨Γ,rfl,hE⟩
 | ok s=>simp only [show f (ps++qs) = .ok (g s) from hf]; exact ⟨_,rfl,hu s⟩
theorem pSetX(i:Nat){m:Bool}{S:Res σ}{u:σ→En}(ht:takeH m Γ js=some ps)(h:RG EP (NxP fun s Γ'=>Γ'=u s) (goX Γ (endX f ps js Γ (fun p Γ'=>.nx (Γ'.set i (some (.fz,p))))) (as Γ)) S):Prim EP (dSetX i m f js as) Γ S u:=by
 show RG EP _ (callX m f js as Γ _) S
 rw [callX_go ht]; exact h
end
end Vm
end
section
set_option linter.all false
set_option maxHeartbeats 1000000
set_option maxRecDepth 10000
namespace Vm
section
variable {EP:En→Prop} {β:Type} {Post:Out→β→Prop}
end
section
variable {α β:Type} {EP:En→Prop} {Post:Out→β→Prop} {Γ:En} {e:EX} {t:Tg} {ka:α→PV} {rest:ST} {r:Res β}
theorem gRetFp{x:α}(h:RefG (tv t ka) (e Γ) (.ok x))(q:RG EP Post (.rt .fz (ka x) Γ) r)(ht:retOk t=true:=by rfl):RG EP Post (dRetF e Γ) r:=by
 have h:e Γ = .ok (t,ka x):=h
 show RG EP Post (aft (e Γ) Γ _) _
 rw [h]
 show RG EP Post (aft (putV (t,ka x)) Γ _) _
 match t,ht with
 | .fz,_=>exact q
 | .ow _,_=>exact q
 | .bw 0,_=>exact q
theorem gRetFpS{x:α}(h:RefG (tv t ka) (e Γ) (.ok x))(q:RG EP Post (.rt .fz (ka x) Γ) r)(ht:retOk t=true:=by rfl):RG EP Post (dSeq (dRetF e) rest Γ) r:=by
 have h:e Γ = .ok (t,ka x):=h
 show RG EP Post ((aft (e Γ) Γ _).then rest) _
 rw [h]
 show RG EP Post ((aft (putV (t,ka x)) Γ _).then rest) _
 match t,ht with
 | .fz,_=>exact q
 | .ow _,_=>exact q
 | .bw 0,_=>exact q
end
section
variable {α β σ τ:Type} {EP:En→Prop} {Post:Out→β→Prop} {Γ:En} {a e:EX} {as:EXs} {t:Tg} {f:FX} {js:List (Nat×Tg)} {ps:List PV} {u:σ→En}
variable {T:TM} {D:Res (Bool×σ)} {x y rest:ST} {R1 R2:σ→Res β}
end
end Vm
end
section
set_option linter.all false
set_option maxHeartbeats 1000000
set_option maxRecDepth 10000
namespace Vm
def decStp:PV→Option Stp
 | .tup [.str [107,101,101,112]]=>some .keep
 | .tup [.str [108,111,115,101]]=>some .lose
 | .tup [.str [116,119,105,99,101]]=>some .twice
 | .tup [.str [115,119,97,112]]=>some .swap
 | .tup [.str [116,117,114,110],.str w]=>some (.turn w)
 | .tup [.str [97,100,100],.str w]=>some (.add w)
 | .tup [.str [115,107,105,112],.int k]=>some (.skip k)
 | _=>none
@[simp] theorem decStp_k (s:Stp):decStp (kStp s)=some s:=by cases s <;> rfl
end Vm
end
section
set_option linter.all false
set_option maxHeartbeats 1000000
set_option maxRecDepth 10000
namespace Vm
section
variable {α ι:Type} {ka:α→PV} {t:Tg} {Γ:En}
end
end Vm
end
section
set_option linter.all false
set_option maxHeartbeats 1000000
set_option maxRecDepth 10000
namespace Vm
def strsP:List PV→Option (List (List Nat))
 | []=>some []
 | .str w :: r=>(strsP r).map (w :: ·)
 | _=>none
def intsQ:List PV→Option (List Int)
 | []=>some []
 | .int w :: r=>(intsQ r).map (w :: ·)
 | _=>none
theorem strsP_of:∀ {l:List PV} {ws:List (List Nat)},strsP l=some ws→l=ws.map kS
 | [],ws,h=>by cases h; rfl
 | p :: r,ws,h=>by
  cases p <;> first | (cases h; done) | skip
  unfold strsP at h
  cases q:strsP r with
  | none=>rw [q] at h; cases h
  | some vs=>rw [q] at h; cases h; rw [strsP_of q]; rfl
theorem strsP_k:∀ ws:List (List Nat),strsP (ws.map kS)=some ws
 | []=>rfl
 | w :: ws=>by rw [List.map_cons]; show (strsP (ws.map kS)).map (w :: ·)=_; rw [strsP_k ws]; rfl
theorem intsQ_of:∀ {l:List PV} {ws:List Int},intsQ l=some ws→l=ws.map kI
 | [],ws,h=>by cases h; rfl
 | p :: r,ws,h=>by
  cases p <;> first | (cases h; done) | skip
  unfold intsQ at h
  cases q:intsQ r with
  | none=>rw [q] at h; cases h
  | some vs=>rw [q] at h; cases h; rw [intsQ_of q]; rfl
theorem intsQ_k:∀ ws:List Int,intsQ (ws.map kI)=some ws
 | []=>rfl
 | w :: ws=>by rw [List.map_cons]; show (intsQ (ws.map kI)).map (w :: ·)=_; rw [intsQ_k ws]; rfl
def decTSt:TV→Res (List (List Nat))
 | (.fz,.tup l)=>match strsP l with
  | some ws=>.ok ws
  | none=>.bad
 | _=>.bad
def decTIn:TV→Res (List Int)
 | (.fz,.tup l)=>match intsQ l with
  | some ws=>.ok ws
  | none=>.bad
 | _=>.bad
def decOI:TV→Res (Option Int)
 | (.fz,.non)=>.ok none
 | (.fz,.int i)=>.ok (some i)
 | _=>.bad
section
variable {α β σ τ:Type} {EP:En→Prop} {Post:Out→β→Prop} {Γ:En} {a e:EX} {as:EXs} {t:Tg} {f:FX} {js:List (Nat×Tg)} {ps:List PV} {u:σ→En}
theorem rDecTSt{A:Res TV}(h:RefG id (a Γ) A):RefG (tv .fz (kT kS)) (a Γ) (A.bind decTSt):=h.dec (by
 rintro ⟨t,p⟩ y h
 cases t <;> cases p <;> first | (cases h; done) | skip
 rename_i l
 have h:(match strsP l with | some ws=>Res.ok ws | none=>.bad) = .ok y:=h
 cases q:strsP l with
 | none=>rw [q] at h; cases h
 | some ws=>rw [q] at h; cases h; rw [strsP_of q]; rfl) (by
 rintro ⟨t,p⟩ c h
 cases t <;> cases p <;> first | (cases h; done) | skip
 rename_i l
 have h:(match strsP l with | some ws=>Res.ok ws | none=>.bad) = .exc c:=h
 cases q:strsP l <;> rw [q] at h <;> cases h)
theorem rDecTIn{A:Res TV}(h:RefG id (a Γ) A):RefG (tv .fz (kT kI)) (a Γ) (A.bind decTIn):=h.dec (by
 rintro ⟨t,p⟩ y h
 cases t <;> cases p <;> first | (cases h; done) | skip
 rename_i l
 have h:(match intsQ l with | some ws=>Res.ok ws | none=>.bad) = .ok y:=h
 cases q:intsQ l with
 | none=>rw [q] at h; cases h
 | some ws=>rw [q] at h; cases h; rw [intsQ_of q]; rfl) (by
 rintro ⟨t,p⟩ c h
 cases t <;> cases p <;> first | (cases h; done) | skip
 rename_i l
 have h:(match intsQ l with | some ws=>Res.ok ws | none=>.bad) = .exc c:=h
 cases q:intsQ l <;> rw [q] at h <;> cases h)
theorem rDecOI{A:Res TV}(h:RefG id (a Γ) A):RefG (tv .fz (kO kI)) (a Γ) (A.bind decOI):=h.dec (by
 rintro ⟨t,p⟩ y h
 cases t <;> cases p <;> cases h <;> rfl) (by
 rintro ⟨t,p⟩ c h
 cases t <;> cases p <;> cases h)
end
end Vm
end
section
set_option linter.all false
set_option maxHeartbeats 1000000
set_option maxRecDepth 10000
namespace Vm
section
variable {α β:Type} [DecidableEq α] {ka:α→PV} {kb:β→PV} [Enc ka] [KeyE ka] {Γ:En} {a b j e j1 j2:EX} {t u w:Tg} {EP:En→Prop}
end
end Vm
end
section
set_option linter.all false
set_option maxHeartbeats 1000000
set_option maxRecDepth 10000
namespace Vm
theorem gTryT{σ:Type}{EP:En→Prop}{Γ:En}{i:Nat}{b:ST}{h:ST}{P:σ→En→Prop}{R:Res σ}{H:Nat→Res σ}{cs:List (Nat×Bool)}(hb:RG (fun Γ'=>Γ'=Γ) (NxP P) (b Γ) R)(hh:∀ c,RG (fun _=>True) (NxP fun s Γ'=>P s (Γ'.set i none)) (h (Γ.set i (some (.fz,.exo (c+2) [])))) (H c))(hE:EP Γ)(hl:Nat.ble (i+1) Γ.length=true:=by rfl):RG EP (NxP P) (dTryT cs i b h Γ) (tryC cs R H):=by
 cases R with
 | ok s =>
  obtain ⟨Γ',e,p⟩:=hb
  show NxP P (dTryT cs i b h Γ) s
  unfold dTryT
  rw [e]
  exact ⟨Γ',rfl,p⟩
 | exc c =>
  obtain ⟨Γ',e,e2⟩:=hb
  subst e2
  unfold dTryT tryC
  simp only [e,hl,if_true]
  cases takesC cs c with
  | none=>exact trivial
  | some t =>
   cases t with
   | false=>exact ⟨_,rfl,hE⟩
   | true =>
    have hc:=hh c
    simp only
    cases eH:H c with
    | ok s =>
     rw [eH] at hc
     obtain ⟨Γ2,e2,p2⟩:=hc
     simp only [e2]
     exact ⟨_,rfl,p2⟩
    | exc c2=>exact trivial
    | bad=>exact trivial
 | bad=>exact trivial
section
variable {Γ:En} {a:EX} {A:Res PV}
def isEB(tab:List (Nat×Bool))(p:PV):Res Bool:=match p with
 | .exo (c+2) _=>match takesC tab c with
  | some b=>.ok b
  | none=>.bad
 | _=>.bad
def isEsB(tabs:List (List (Nat×Bool)))(p:PV):Res Bool:=match p with
 | .exo (c+2) _=>if tabs.all fun t=>(takesC t c).isSome then .ok (isCs tabs c) else .bad
 | _=>.bad
theorem rIsE{tab:List (Nat×Bool)}(ha:RefG (tv .fz kV) (a Γ) A):RefG (tv .fz kB) (eIsE tab a Γ) (A.bind fun x=>isEB tab x):=ha.bind fun x=>by
 show RefG _ (isEV tab (.fz,x)) _
 unfold isEV isEB
 split
 ·rename_i c l e
  cases e
  simp only
  cases takesC tab c <;> first | rfl | trivial
 ·rename_i h
  split
  ·rename_i c l
   exact absurd rfl (h c l)
  ·trivial
theorem rIsEs{tabs:List (List (Nat×Bool))}(ha:RefG (tv .fz kV) (a Γ) A):RefG (tv .fz kB) (eIsEs tabs a Γ) (A.bind fun x=>isEsB tabs x):=ha.bind fun x=>by
 show RefG _ (isEsV tabs (.fz,x)) _
 unfold isEsV isEsB
 split
 ·rename_i c l e
  cases e
  simp only
  split <;> first | rfl | trivial
 ·rename_i h
  split
  ·rename_i c l
   exact absurd rfl (h c l)
  ·trivial
end
end Vm
end
section
set_option linter.all false
set_option maxHeartbeats 1000000
set_option maxRecDepth 10000
namespace Vm
section
variable {Γ:En} {a b:EX} {t u:Tg} {α:Type} {ka:α→PV}
theorem countP_enc[DecidableEq α][Enc ka](y:α):∀ x:List α,(x.map ka).countP (fun z=>eqv z (ka y))=x.countP (fun z=>decide (z=y))
 | []=>rfl
 | z :: x=>by rw [List.map_cons,List.countP_cons,List.countP_cons,countP_enc y x,Enc.eq]
def countR[DecidableEq α](x:List α)(y:α):Int:=(x.countP fun z=>decide (z=y):Nat)
theorem rCount[DecidableEq α][Enc ka]{A:Res (List α)}{B:Res α}(ha:RefG (tv t (kL ka)) (a Γ) A)(hb:RefG (tv u ka) (b Γ) B)(hd:Enc.d ka≤50:=by decide):RefG (tv .fz kI) (eCount a b Γ) (A.bind fun x=>B.bind fun y=>.ok (countR x y)) :=
 ha.bind fun x=>by
  show RefG _ ((b Γ).bind _) _
  exact hb.bind fun y=>by
   show RefG _ (match shp 50 (ka y) && shpL 50 (x.map ka) with
    | true=>Res.ok (Tg.fz,PV.int ((x.map ka).countP fun z=>eqv z (ka y)))
    | false=>.bad) _
   rw [Enc.sh (k:=ka) 50 hd,shpL_enc 50 hd,countP_enc]
   exact rfl
end
abbrev CpM:=List Nat×List (List Nat)×Option Int
abbrev Md:=List CpM×List Int×Int
section
variable {Γ:En} {a b e:EX} {t u:Tg} {EP:En→Prop} {σ α β:Type} {Post:Out→β→Prop} {ka:α→PV}
theorem rg_aft{E:Res α}(h:RefG (tv t ka) (e Γ) E)(hE:EP Γ){F:TV→Out}{S:α→Res β}(hF:∀ x,RG EP Post (F (t,ka x)) (S x)):RG EP Post (aft (e Γ) Γ F) (E.bind S):=by
 cases E with
 | bad=>trivial
 | exc c=>rw [show e Γ = .exc c from h]; exact ⟨Γ,rfl,hE⟩
 | ok x=>rw [show e Γ = .ok (t,ka x) from h]; exact hF x
end
section
variable {α β σ τ:Type} {EP:En→Prop} {Post:Out→β→Prop} {Γ:En} {a e:EX} {as:EXs} {t:Tg} {f:FX} {js:List (Nat×Tg)} {ps:List PV} {u:σ→En}
variable {ps2:List PV}
end
end Vm
end
section
set_option linter.all false
set_option maxHeartbeats 1000000
set_option maxRecDepth 10000
namespace Vm
abbrev wCps:List Nat:=[99,111,112,105,101,115]
abbrev wPrs:List Nat:=[112,114,105,99,101,115]
abbrev wFrs:List Nat:=[102,114,101,115,104]
def kMs(m:Md):PV:=.dic [.str wCps,.str wPrs,.str wFrs] [kL (kP3 kS (kT kS) (kO kI)) m.1,kT kI m.2.1,kI m.2.2]
section
variable {Γ:En} {a b e j:EX} {t u:Tg} {EP:En→Prop} {σ α β:Type} {Post:Out→β→Prop} {ka:α→PV}
theorem rS0{A:Res Md}(ha:RefG (tv t kMs) (a Γ) A):RefG (tv (dn t) (kL (kP3 kS (kT kS) (kO kI)))) (eDIdx a (eC (.str wCps)) Γ) (A.bind fun m=>.ok m.1):=ha.bind fun _=>rfl
theorem rS1{A:Res Md}(ha:RefG (tv .fz kMs) (a Γ) A):RefG (tv .fz (kT kI)) (eDIdx a (eC (.str wPrs)) Γ) (A.bind fun m=>.ok m.2.1):=ha.bind fun _=>rfl
theorem rS2{A:Res Md}(ha:RefG (tv .fz kMs) (a Γ) A):RefG (tv .fz kI) (eDIdx a (eC (.str wFrs)) Γ) (A.bind fun m=>.ok m.2.2):=ha.bind fun _=>rfl
theorem rDicM{P:Res (List Int)}{F:Res Int}(hp:RefG (tv .fz (kT kI)) (a Γ) P)(hf:RefG (tv .fz kI) (b Γ) F):RefG (tv (.ow 2) kMs) (eDicM [wCps,wPrs,wFrs] (eCons (eLst eNil) (eCons a (eCons b eNil))) Γ) (P.bind fun p=>F.bind fun f=>.ok (([],p,f):Md)):=by
 unfold eDicM eCons eNil
 cases P with
 | bad=>trivial
 | exc c=>show Res.bind _ _=_; rw [show a Γ = .exc c from hp]; rfl
 | ok p =>
  have hp:a Γ = .ok (.fz,kT kI p):=hp
  rw [hp]
  cases F with
  | bad=>trivial
  | exc c=>show Res.bind _ _=_; simp only [bind_ok]; rw [show b Γ = .exc c from hf]; rfl
  | ok f =>
   have hf:b Γ = .ok (.fz,kI f):=hf
   simp only [bind_ok]
   rw [hf]
   exact rfl
theorem rDicF{P:Res (List Int)}{F:Res Int}(hp:RefG (tv .fz (kT kI)) (a Γ) P)(hf:RefG (tv .fz kI) (b Γ) F):RefG (tv (.ow 1) kMs) (eDicN [wCps,wPrs,wFrs] (eCons (eLst eNil) (eCons a (eCons b eNil))) Γ) (P.bind fun p=>F.bind fun f=>.ok (([],p,f):Md)):=by
 unfold eDicN eCons eNil
 cases P with
 | bad=>trivial
 | exc c=>show Res.bind _ _=_; rw [show a Γ = .exc c from hp]; rfl
 | ok p =>
  have hp:a Γ = .ok (.fz,kT kI p):=hp
  rw [hp]
  cases F with
  | bad=>trivial
  | exc c=>show Res.bind _ _=_; simp only [bind_ok]; rw [show b Γ = .exc c from hf]; rfl
  | ok f =>
   have hf:b Γ = .ok (.fz,kI f):=hf
   simp only [bind_ok]
   rw [hf]
   exact rfl
theorem pDApp(i:Nat){E:Res CpM}{m:Md}(h:RefG (tv .fz (kP3 kS (kT kS) (kO kI))) (e Γ) E)(hE:EP Γ)(hg:Γ.get i=some (.ow 2,kMs m)) :
  Prim EP (dDApp i (eC (.str wCps)) e) Γ (E.bind fun x=>(appR m.1 x).bind fun l=>.ok ((l,m.2):Md)) (fun m=>Γ.set i (some (.ow 2,kMs m))):=by
 show RG EP _ (dDApp i (eC (.str wCps)) e Γ) _
 unfold dDApp
 rw [hg]
 refine rg_aft h hE fun x=>?_
 show RG EP _ (if (m.1.map (kP3 kS (kT kS) (kO kI))).length < 16777216 then Out.nx (Γ.set i (some (.ow 2,.dic [.str wCps,.str wPrs,.str wFrs] [.lst (m.1.map (kP3 kS (kT kS) (kO kI))++[kP3 kS (kT kS) (kO kI) x]),kT kI m.2.1,kI m.2.2]))) else .bad) _
 unfold appR
 rw [List.length_map]
 by_cases hl:m.1.length < 16777216
 ·rw [if_pos hl,if_pos hl]
  refine ⟨_,rfl,?_⟩
  show _=Γ.set i (some (.ow 2,kMs (m.1++[x],m.2)))
  unfold kMs kL
  rw [List.map_append]
  rfl
 ·rw [if_neg hl,if_neg hl]; trivial
theorem erase_map{α β:Type}(f:α→β):∀ (l:List α) (n:Nat),(l.map f).eraseIdx n=(l.eraseIdx n).map f
 | [],n=>by simp
 | x :: l,0=>by simp
 | x :: l,n+1=>by rw [List.map_cons,List.eraseIdx_cons_succ,List.eraseIdx_cons_succ,List.map_cons,erase_map f l n]
def popAtR{α:Type}(l:List α)(t:Int):Res (List α):=if 0≤t∧t < l.length∧l.length < 1000000 then .ok (l.eraseIdx t.toNat) else .bad
theorem pDPopAt(i:Nat){E:Res Int}{m:Md}(h:RefG (tv u kI) (e Γ) E)(hE:EP Γ)(hg:Γ.get i=some (.ow 2,kMs m)) :
  Prim EP (dDPopAt i (eC (.str wCps)) e) Γ (E.bind fun x=>(popAtR m.1 x).bind fun l=>.ok ((l,m.2):Md)) (fun m=>Γ.set i (some (.ow 2,kMs m))):=by
 show RG EP _ (dDPopAt i (eC (.str wCps)) e Γ) _
 unfold dDPopAt
 rw [hg]
 refine rg_aft h hE fun x=>?_
 show RG EP _ (if 0≤x∧x < ((m.1.map (kP3 kS (kT kS) (kO kI))).length:Int)∧(m.1.map (kP3 kS (kT kS) (kO kI))).length < 1000000 then Out.nx (Γ.set i (some (.ow 2,.dic [.str wCps,.str wPrs,.str wFrs] [.lst ((m.1.map (kP3 kS (kT kS) (kO kI))).eraseIdx x.toNat),kT kI m.2.1,kI m.2.2]))) else .bad) _
 unfold popAtR
 rw [List.length_map]
 by_cases hl:0≤x∧x < (m.1.length:Int)∧m.1.length < 1000000
 ·rw [if_pos hl,if_pos hl]
  refine ⟨_,rfl,?_⟩
  show _=Γ.set i (some (.ow 2,kMs (m.1.eraseIdx x.toNat,m.2)))
  unfold kMs kL
  rw [erase_map]
 ·rw [if_neg hl,if_neg hl]; trivial
def setMs(m:Md)(k v:TV):Res Md:=match k,v with
 | (.fz,.str w),(.fz,.tup l)=>if w=wPrs then (match intsQ l with
  | some p=>.ok (m.1,p,m.2.2)
  | none=>.bad) else .bad
 | (.fz,.str w),(.fz,.int f)=>if w=wFrs then .ok (m.1,m.2.1,f) else .bad
 | _,_=>.bad
theorem pDSet2(i:Nat){E J:Res TV}{m:Md}(h:RefG id (e Γ) E)(hj:RefG id (j Γ) J)(hE:EP Γ)(hg:Γ.get i=some (.ow 2,kMs m)) :
  Prim EP (dDSet2 i j e) Γ (E.bind fun v=>J.bind fun k=>setMs m k v) (fun m=>Γ.set i (some (.ow 2,kMs m))):=by
 show RG EP _ (dDSet2 i j e Γ) _
 unfold dDSet2
 rw [hg]
 show RG EP _ (aft (e Γ) Γ _) _
 cases E with
 | bad=>trivial
 | exc c=>rw [show e Γ = .exc c from h]; exact ⟨Γ,rfl,hE⟩
 | ok v =>
  rw [show e Γ = .ok v from h]
  show RG EP _ (aft (j Γ) Γ _) _
  cases J with
  | bad=>trivial
  | exc c=>rw [show j Γ = .exc c from hj]; exact ⟨Γ,rfl,hE⟩
  | ok k =>
   rw [show j Γ = .ok k from hj]
   simp only [bind_ok]
   unfold setMs
   split
   ·rename_i w l
    by_cases hw:w=wPrs
    ·subst hw
     rw [if_pos rfl]
     cases hi:intsQ l with
     | none=>trivial
     | some p =>
      have:=intsQ_of hi
      subst this
      exact ⟨_,rfl,rfl⟩
    ·rw [if_neg hw]; trivial
   ·rename_i w f
    by_cases hw:w=wFrs
    ·subst hw
     rw [if_pos rfl]
     exact ⟨_,rfl,rfl⟩
    ·rw [if_neg hw]; trivial
   ·trivial
def decCpy:TV→Res CpM
 | (.fz,.tup [.str n,.tup r,.non])=>match strsP r with
  | some ws=>.ok (n,ws,none)
  | none=>.bad
 | (.fz,.tup [.str n,.tup r,.int d])=>match strsP r with
  | some ws=>.ok (n,ws,some d)
  | none=>.bad
 | _=>.bad
theorem rDecCpy{A:Res TV}(h:RefG id (a Γ) A):RefG (tv .fz (kP3 kS (kT kS) (kO kI))) (a Γ) (A.bind decCpy):=h.dec (by
 intro z y h
 unfold decCpy at h
 split at h
 ·split at h
  ·rename_i ws hw; cases h; rw [strsP_of hw]; rfl
  ·cases h
 ·split at h
  ·rename_i ws hw; cases h; rw [strsP_of hw]; rfl
  ·cases h
 ·cases h) (by
 intro z c h
 unfold decCpy at h
 split at h
 ·split at h <;> cases h
 ·split at h <;> cases h
 ·cases h)
end
end Vm
end
section
set_option Elab.async false
set_option linter.all false
set_option maxRecDepth 100000
set_option maxHeartbeats 4000000
namespace Vm
def f_is_word(v_text:List Nat):Res (Bool) :=
 (if decide ((v_text.length:Int)=(0:Int)) then Res.ok true else Res.ok (decide ((12:Int) < (v_text.length:Int)))).bind fun b8=>if b8 then (Res.ok (false)) else ((((noExc (mapR (fun (z4:List Nat)=>signIn z4 (([97,98,99,100,101,102,103,104,105,106,107,108,109,110,111,112,113,114,115,116,117,118,119,120,121,122]:List Nat))) (signs v_text))).bind szR).bind fun x5=>Res.ok (x5.all id)).bind fun x7=>Res.ok (x7))
def f_law_cell(v_script:List (Int))(v_k:Int):Res (Int) :=
 if decide (v_k < (v_script.length:Int)) then ((ixR v_script v_k).bind fun x2=>Res.ok (x2)) else (Res.ok (((0:Int))))
def f_law_word(v_cell:Int):Res (List Nat) :=
 let s1:Int:=v_cell / (12:Int); let s2:List (List Nat):=([]:List (List Nat)); ((rngR (((1:Int))+(v_cell % (12:Int)))).bind fun x8=>forS (fun (s3:((Int)×(List (List Nat)))) (x4:Int)=>(((ixR (([97,98,99,100,101,102,103,104,105,106,107,108,109,110,111,112,113,114,115,116,117,118,119,120,121,122]:List Nat)) (s3.1 % (26:Int))).bind fun z=>Res.ok [z]).bind fun x5=>appR s3.2 x5).bind fun (s6:List (List Nat))=>let s7:Int:=s3.1 / (26:Int); Res.ok ((s7,s6))) x8 ((s1,s2))).bind fun (s9:((Int)×(List (List Nat))))=>(joinR (([]:List Nat)) s9.2).bind fun x11=>Res.ok (x11)
def f_law_other(v_word:List Nat)(v_place:Int)(v_step:Int):Res (List Nat) :=
 (modR v_place ((v_word.length:Int))).bind fun (s1:Int)=>let s2:List Nat:=([97,98,99,100,101,102,103,104,105,106,107,108,109,110,111,112,113,114,115,116,117,118,119,120,121,122]:List Nat); (((((((ixR v_word s1).bind fun z=>Res.ok [z]).bind fun x3=>indexSR s2 x3).bind fun x4=>Res.ok (x4+((1:Int)))).bind fun x5=>Res.ok (x5+(v_step % (25:Int)))).bind fun x6=>Res.ok (x6 % (26:Int))).bind fun x7=>(ixR s2 x7).bind fun z=>Res.ok [z]).bind fun (s8:List Nat)=>((catR (cutL v_word none (some s1)) s8).bind fun x10=>catR x10 (cutL v_word (some (s1+((1:Int)))) none)).bind fun x12=>Res.ok (x12)
def f_law_row(v_cells:List (Int)):Res (List (List Nat)) :=
 let s1:List (List Nat):=([]:List (List Nat)); (forS (fun (s2:((List (List Nat)))) (x3:Int)=>let s4:Int:=x3 % (5:Int); (f_law_word (x3 / (5:Int))).bind fun (s6:List Nat)=>((if decide (s4=(1:Int)) then Res.ok (decide ((0:Int) < (s2.length:Int))) else Res.ok false).bind fun b32=>if b32 then ((ixR s2 (-((1:Int)))).bind fun (s10:List Nat)=>Res.ok s10) else (Res.ok s6)).bind fun s8=>((if decide (s4=(2:Int)) then Res.ok (decide ((0:Int) < (s2.length:Int))) else Res.ok false).bind fun b31=>if b31 then (((ixR s2 (-((1:Int)))).bind fun x21=>f_law_other x21 (x3 / (5:Int)) (x3 / (60:Int))).bind fun (s22:List Nat)=>Res.ok s22) else (Res.ok s8)).bind fun s16=>((if decide (s4=(3:Int)) then Res.ok (decide ((0:Int) < (s2.length:Int))) else Res.ok false).bind fun b30=>if b30 then (((modR (x3 / (5:Int)) ((s2.length:Int))).bind fun x27=>ixR s2 x27).bind fun (s28:List Nat)=>Res.ok s28) else (Res.ok s16)).bind fun s25=>(appR s2 s25).bind fun (s29:List (List Nat))=>Res.ok s29) v_cells s1).bind fun (s33:((List (List Nat))))=>Res.ok s33
noncomputable def f_law_alike_v2(n:Nat)(v_found:PV)(v_due:PV):Res (Bool):=asB (d_law_alike_v2 n [kV v_found,kV v_due])
def f_law_name(v_cell:Int):Res (List Nat) :=
 if decide (v_cell % (11:Int)=(1:Int)) then ((ixR (([([]:List Nat),([65,98]:List Nat),([97,32,98]:List Nat),([97,49]:List Nat),([97,98,99,100,101,102,103,104,105,106,107,108,109]:List Nat),([97,58]:List Nat),([45]:List Nat),([97,10]:List Nat)]:List (List Nat))) ((v_cell / (11:Int)) % (8:Int))).bind fun x2=>Res.ok (x2)) else ((f_law_word ((v_cell / (11:Int)) % (36:Int))).bind fun x6=>Res.ok (x6))
def f_law_kind_v1(v_error:PV):Res (List Nat) :=
 ((isEB [(6,true),(8,false),(7,false)] v_error).bind fun x4=>(isEB [(6,false),(8,false),(7,true)] v_error).bind fun x5=>(isEB [(6,false),(8,true),(7,false)] v_error).bind fun x6=>Res.ok (([x4,x5,x6]:List (Bool)))).bind fun (s7:List (Bool))=>((isEsB [[(6,false),(8,false),(7,false)],[(6,false),(8,false),(7,false)],[(6,false),(8,false),(7,false)],[(6,false),(8,false),(7,false)],[(6,false),(8,false),(7,false)]] v_error).bind fun x8=>if x8 then Res.ok true else Res.ok (!decide (countR s7 true=(1:Int)))).bind fun b20=>if b20 then (Res.ok ((([111,116,104,101,114]:List Nat)))) else (((indexR s7 true).bind fun x17=>ixR (([([110,97,109,101]:List Nat),([116,119,105,99,101]:List Nat),([109,97,110,121]:List Nat)]:List (List Nat))) x17).bind fun x19=>Res.ok (x19))
def f_House_put(h:Hs)(n:List Nat)(r:List (List Nat))(d:Option Int):Res Hs:=fPut f_is_word h n r d
def f_House_take(h:Hs)(n:List Nat):Res Hs:=fTake h n
def f_House_set_prices(h:Hs)(p:List Int):Res Hs:=.ok (h.1,h.2.1,p,h.2.2.2)
def f_House_set_fresh(h:Hs)(p:Int):Res Hs:=.ok (h.1,h.2.1,h.2.2.1,p)
def f_law_done(v_house:Hs)(v_deed:PV):Res ((Option (List Nat))×Hs) :=
 noExc (let s1:Option (List Nat):=some (([110,111,110,101]:List Nat)); (tryC [(6,true),(8,true),(7,true)] (((((ixV ((tv .fz kV) v_deed) ((tv .fz kI) ((0:Int))).2).bind fun x58=>(opEq x58.2 ((tv .fz kS) (([112,117,116]:List Nat))).2).bind fzv).bind fun x59=>tvB x59).bind fun x62=>if x62 then ((ixV ((tv .fz kV) v_deed) ((tv .fz kI) ((3:Int))).2).bind fun x60=>(opIsN x60.2).bind fzv).bind fun x61=>tvB x61 else Res.ok false).bind fun b107=>if b107 then ((((ixV ((tv .fz kV) v_deed) ((tv .fz kI) ((1:Int))).2).bind decS).bind fun x65=>((ixV ((tv .fz kV) v_deed) ((tv .fz kI) ((2:Int))).2).bind decTSt).bind fun x66=>f_House_put v_house x65 x66 none).bind fun (s67:Hs)=>Res.ok ((s67,(none:Option (List Nat))))) else (((((ixV ((tv .fz kV) v_deed) ((tv .fz kI) ((0:Int))).2).bind fun x68=>(opEq x68.2 ((tv .fz kS) (([112,117,116]:List Nat))).2).bind fzv).bind fun x69=>tvB x69).bind fun x73=>if x73 then (((ixV ((tv .fz kV) v_deed) ((tv .fz kI) ((3:Int))).2).bind decI).bind fun x71=>Res.ok (x71 % (2:Int))).bind fun x72=>Res.ok (decide (x72=(0:Int))) else Res.ok false).bind fun b106=>if b106 then ((((ixV ((tv .fz kV) v_deed) ((tv .fz kI) ((1:Int))).2).bind decS).bind fun x77=>((ixV ((tv .fz kV) v_deed) ((tv .fz kI) ((2:Int))).2).bind decTSt).bind fun x78=>((ixV ((tv .fz kV) v_deed) ((tv .fz kI) ((3:Int))).2).bind decOI).bind fun x79=>f_House_put v_house x77 x78 x79).bind fun (s80:Hs)=>Res.ok ((s80,(none:Option (List Nat))))) else ((((ixV ((tv .fz kV) v_deed) ((tv .fz kI) ((0:Int))).2).bind fun x81=>(opEq x81.2 ((tv .fz kS) (([112,117,116]:List Nat))).2).bind fzv).bind fun x82=>tvB x82).bind fun b105=>if b105 then ((((ixV ((tv .fz kV) v_deed) ((tv .fz kI) ((1:Int))).2).bind decS).bind fun x86=>((ixV ((tv .fz kV) v_deed) ((tv .fz kI) ((2:Int))).2).bind decTSt).bind fun x87=>((ixV ((tv .fz kV) v_deed) ((tv .fz kI) ((3:Int))).2).bind decOI).bind fun x88=>f_House_put v_house x86 x87 x88).bind fun (s89:Hs)=>Res.ok ((s89,(none:Option (List Nat))))) else ((((ixV ((tv .fz kV) v_deed) ((tv .fz kI) ((0:Int))).2).bind fun x90=>(opEq x90.2 ((tv .fz kS) (([116,97,107,101]:List Nat))).2).bind fzv).bind fun x91=>tvB x91).bind fun b104=>if b104 then ((((ixV ((tv .fz kV) v_deed) ((tv .fz kI) ((1:Int))).2).bind decS).bind fun x93=>f_House_take v_house x93).bind fun (s94:Hs)=>Res.ok ((s94,(none:Option (List Nat))))) else ((((ixV ((tv .fz kV) v_deed) ((tv .fz kI) ((0:Int))).2).bind fun x95=>(opEq x95.2 ((tv .fz kS) (([112,114,105,99,101,115]:List Nat))).2).bind fzv).bind fun x96=>tvB x96).bind fun b103=>if b103 then ((((ixV ((tv .fz kV) v_deed) ((tv .fz kI) ((1:Int))).2).bind decTIn).bind fun x98=>f_House_set_prices v_house x98).bind fun (s99:Hs)=>Res.ok ((s99,(none:Option (List Nat))))) else ((((ixV ((tv .fz kV) v_deed) ((tv .fz kI) ((1:Int))).2).bind decI).bind fun x101=>f_House_set_fresh v_house x101).bind fun (s102:Hs)=>Res.ok ((s102,(none:Option (List Nat)))))))))) (fun (ce:Nat)=>(((f_law_kind_v1 ((PV.exo (ce+2) []))).bind fun x110=>Res.ok (some x110)).bind fun (s111:Option (List Nat))=>Res.ok ((v_house,s111))))).bind fun s56=>Res.ok (s56.2,s56.1))
def f_law_is_name(v_name:List Nat):Res (Bool) :=
 ((if decide ((1:Int)≤(v_name.length:Int)) then Res.ok (decide ((v_name.length:Int)≤(12:Int))) else Res.ok false).bind fun x6=>if x6 then ((noExc (mapR (fun (z4:List Nat)=>signIn z4 (([97,98,99,100,101,102,103,104,105,106,107,108,109,110,111,112,113,114,115,116,117,118,119,120,121,122]:List Nat))) (signs v_name))).bind szR).bind fun x5=>Res.ok (x5.all id) else Res.ok false).bind fun x8=>Res.ok (x8)
def f_law_due_v9(v_state:Md)(v_deed:PV):Res ((Option (List Nat))×Md) :=
 noExc (((noExc (mapR (fun (z1:((List Nat)×(List (List Nat))×Option (Int)))=>Res.ok (z1.1)) v_state.1)).bind szR).bind fun (s2:List (List Nat))=>(((ixV ((tv .fz kV) v_deed) ((tv .fz kI) ((0:Int))).2).bind fun x3=>(opEq x3.2 ((tv .fz kS) (([112,117,116]:List Nat))).2).bind fzv).bind fun x4=>tvB x4).bind fun b88=>if b88 then (((((ixV ((tv .fz kV) v_deed) ((tv .fz kI) ((1:Int))).2).bind decS).bind fun x6=>f_law_is_name x6).bind fun x7=>Res.ok (!x7)).bind fun b50=>if b50 then (Res.ok (some (([110,97,109,101]:List Nat)),v_state)) else ((((ixV ((tv .fz kV) v_deed) ((tv .fz kI) ((1:Int))).2).bind fun x8=>(opIn x8.2 ((tv .fz (kL kS)) s2).2).bind fzv).bind fun x9=>tvB x9).bind fun b49=>if b49 then (Res.ok (some (([116,119,105,99,101]:List Nat)),v_state)) else (if decide ((30:Int)≤(s2.length:Int)) then (Res.ok (some (([109,97,110,121]:List Nat)),v_state)) else ((((sliceV ((tv .fz kV) v_deed) (some ((1:Int))) none).bind decCpy).bind fun x10=>(appR v_state.1 x10).bind fun l=>Res.ok ((l,v_state.2):Md)).bind fun (s11:Md)=>(((ixV ((tv .fz kV) v_deed) ((tv .fz kI) ((0:Int))).2).bind fun x12=>(opEq x12.2 ((tv .fz kS) (([116,97,107,101]:List Nat))).2).bind fzv).bind fun x13=>tvB x13).bind fun b48=>if b48 then ((((ixV ((tv .fz kV) v_deed) ((tv .fz kI) ((1:Int))).2).bind fun x14=>(opNotIn x14.2 ((tv .fz (kL kS)) s2).2).bind fzv).bind fun x15=>tvB x15).bind fun b33=>if b33 then (Res.ok (some (([110,97,109,101]:List Nat)),s11)) else (((((ixV ((tv .fz kV) v_deed) ((tv .fz kI) ((1:Int))).2).bind decS).bind fun x16=>indexR s2 x16).bind fun x17=>(popAtR s11.1 x17).bind fun l=>Res.ok ((l,s11.2):Md)).bind fun (s18:Md)=>(((((ixV ((tv .fz kV) v_deed) ((tv .fz kI) ((0:Int))).2).bind fun x19=>(opEq x19.2 ((tv .fz kS) (([112,114,105,99,101,115]:List Nat))).2).bind fzv).bind fun x20=>tvB x20).bind fun x23=>if x23 then Res.ok true else ((ixV ((tv .fz kV) v_deed) ((tv .fz kI) ((0:Int))).2).bind fun x21=>(opEq x21.2 ((tv .fz kS) (([102,114,101,115,104]:List Nat))).2).bind fzv).bind fun x22=>tvB x22).bind fun b32=>if b32 then (((ixV ((tv .fz kV) v_deed) ((tv .fz kI) ((1:Int))).2).bind fun x29=>(ixV ((tv .fz kV) v_deed) ((tv .fz kI) ((0:Int))).2).bind fun x30=>setMs s18 x30 x29).bind fun (s31:Md)=>Res.ok s31) else (Res.ok s18)).bind fun s27=>Res.ok (none,s27))) else ((((((ixV ((tv .fz kV) v_deed) ((tv .fz kI) ((0:Int))).2).bind fun x34=>(opEq x34.2 ((tv .fz kS) (([112,114,105,99,101,115]:List Nat))).2).bind fzv).bind fun x35=>tvB x35).bind fun x38=>if x38 then Res.ok true else ((ixV ((tv .fz kV) v_deed) ((tv .fz kI) ((0:Int))).2).bind fun x36=>(opEq x36.2 ((tv .fz kS) (([102,114,101,115,104]:List Nat))).2).bind fzv).bind fun x37=>tvB x37).bind fun b47=>if b47 then (((ixV ((tv .fz kV) v_deed) ((tv .fz kI) ((1:Int))).2).bind fun x44=>(ixV ((tv .fz kV) v_deed) ((tv .fz kI) ((0:Int))).2).bind fun x45=>setMs s11 x45 x44).bind fun (s46:Md)=>Res.ok s46) else (Res.ok s11)).bind fun s42=>Res.ok (none,s42)))))) else ((((ixV ((tv .fz kV) v_deed) ((tv .fz kI) ((0:Int))).2).bind fun x51=>(opEq x51.2 ((tv .fz kS) (([116,97,107,101]:List Nat))).2).bind fzv).bind fun x52=>tvB x52).bind fun b87=>if b87 then ((((ixV ((tv .fz kV) v_deed) ((tv .fz kI) ((1:Int))).2).bind fun x53=>(opNotIn x53.2 ((tv .fz (kL kS)) s2).2).bind fzv).bind fun x54=>tvB x54).bind fun b72=>if b72 then (Res.ok (some (([110,97,109,101]:List Nat)),v_state)) else (((((ixV ((tv .fz kV) v_deed) ((tv .fz kI) ((1:Int))).2).bind decS).bind fun x55=>indexR s2 x55).bind fun x56=>(popAtR v_state.1 x56).bind fun l=>Res.ok ((l,v_state.2):Md)).bind fun (s57:Md)=>(((((ixV ((tv .fz kV) v_deed) ((tv .fz kI) ((0:Int))).2).bind fun x58=>(opEq x58.2 ((tv .fz kS) (([112,114,105,99,101,115]:List Nat))).2).bind fzv).bind fun x59=>tvB x59).bind fun x62=>if x62 then Res.ok true else ((ixV ((tv .fz kV) v_deed) ((tv .fz kI) ((0:Int))).2).bind fun x60=>(opEq x60.2 ((tv .fz kS) (([102,114,101,115,104]:List Nat))).2).bind fzv).bind fun x61=>tvB x61).bind fun b71=>if b71 then (((ixV ((tv .fz kV) v_deed) ((tv .fz kI) ((1:Int))).2).bind fun x68=>(ixV ((tv .fz kV) v_deed) ((tv .fz kI) ((0:Int))).2).bind fun x69=>setMs s57 x69 x68).bind fun (s70:Md)=>Res.ok s70) else (Res.ok s57)).bind fun s66=>Res.ok (none,s66))) else ((((((ixV ((tv .fz kV) v_deed) ((tv .fz kI) ((0:Int))).2).bind fun x73=>(opEq x73.2 ((tv .fz kS) (([112,114,105,99,101,115]:List Nat))).2).bind fzv).bind fun x74=>tvB x74).bind fun x77=>if x77 then Res.ok true else ((ixV ((tv .fz kV) v_deed) ((tv .fz kI) ((0:Int))).2).bind fun x75=>(opEq x75.2 ((tv .fz kS) (([102,114,101,115,104]:List Nat))).2).bind fzv).bind fun x76=>tvB x76).bind fun b86=>if b86 then (((ixV ((tv .fz kV) v_deed) ((tv .fz kI) ((1:Int))).2).bind fun x83=>(ixV ((tv .fz kV) v_deed) ((tv .fz kI) ((0:Int))).2).bind fun x84=>setMs v_state x84 x83).bind fun (s85:Md)=>Res.ok s85) else (Res.ok v_state)).bind fun s81=>Res.ok (none,s81))))
def f_law_deed(v_cells:List (Int))(v_k:Int):Res (PV) :=
 (ixR v_cells v_k).bind fun (s1:Int)=>(catR (cutL v_cells (some v_k) (some (v_k+((8:Int))))) (cutL v_cells none (some ((8:Int))))).bind fun (s2:List (Int))=>(ixR (([([112,117,116]:List Nat),([112,117,116]:List Nat),([116,97,107,101]:List Nat),([112,117,116]:List Nat),([112,114,105,99,101,115]:List Nat),([102,114,101,115,104]:List Nat),([116,97,107,101]:List Nat)]:List (List Nat))) (s1 % (7:Int))).bind fun (s3:List Nat)=>(f_law_name (s1 / (7:Int))).bind fun (s5:List Nat)=>if decide (s3=([112,117,116]:List Nat)) then (let s6:Option (Int):=none; (if decide ((0:Int) < (s1 / (7:Int)) % (3:Int)) then ((((ixR s2 ((1:Int))).bind fun x14=>modR x14 (((10 ^ 9:Int))+((1:Int)))).bind fun x15=>Res.ok (some x15)).bind fun (s16:Option (Int))=>Res.ok s16) else (Res.ok s6)).bind fun s11=>(((f_law_row (cutL s2 none (some ((s1 / (21:Int)) % (6:Int))))).bind fun x28=>Res.ok (((([112,117,116]:List Nat),s5,x28,s11):((List Nat)×(List Nat)×(List (List Nat))×Option (Int))))).bind fun x29=>Res.ok ((kP4 kS kS (kT kS) (kO kI)) x29)).bind fun x31=>Res.ok (x31)) else (if decide (s3=([116,97,107,101]:List Nat)) then (Res.ok (((kP2 kS kS) (((([116,97,107,101]:List Nat),s5):((List Nat)×List Nat)))))) else (if decide (s3=([112,114,105,99,101,115]:List Nat)) then (((((rngR ((7:Int))).bind fun x49=>(noExc (mapR (fun (z45:Int)=>(((modR z45 ((s2.length:Int))).bind fun x46=>ixR s2 x46).bind fun x47=>fdivR x47 (z45+((1:Int)))).bind fun x48=>modR x48 (((10 ^ 30:Int))+((1:Int)))) x49)).bind szR).bind fun x52=>Res.ok (((([112,114,105,99,101,115]:List Nat),x52):((List Nat)×List (Int))))).bind fun x53=>Res.ok ((kP2 kS (kT kI)) x53)).bind fun x55=>Res.ok (x55)) else ((((modR (s1 / (7:Int)) (((10 ^ 30:Int))+((1:Int)))).bind fun x61=>Res.ok (((([102,114,101,115,104]:List Nat),x61):((List Nat)×Int)))).bind fun x62=>Res.ok ((kP2 kS kI) x62)).bind fun x64=>Res.ok (x64))))
def f_law_of(v_house:Hs)(v_name:List Nat)(v_moment:Bool):Res (PV) :=
 let s1:PV:=kN (()); (tryR [(6,true),(8,false),(7,false)] (if v_moment then (((fDay v_house v_name).bind fun x15=>Res.ok ((kO kI) x15)).bind fun (s16:PV)=>Res.ok s16) else (((fRow v_house v_name).bind fun x19=>Res.ok ((kT kS) x19)).bind fun (s20:PV)=>Res.ok s20)) (let s21:PV:=kS (([110,111,32,110,97,109,101]:List Nat)); Res.ok s21)).bind fun s11=>Res.ok s11
noncomputable def f_law_seen(v_house:Hs)(v_state:Md)(v_name:List Nat):Res (Bool) :=
 ((noExc (mapR (fun (z1:((List Nat)×(List (List Nat))×Option (Int)))=>Res.ok (z1.1)) v_state.1)).bind szR).bind fun (s2:List (List Nat))=>(((((fNames v_house).bind fun x5=>Res.ok ((kT kS) x5)).bind fun x8=>f_law_alike_v2 8 x8 ((kT kS) s2)).bind fun x9=>Res.ok (!x9)).bind fun x15=>if x15 then Res.ok true else (f_law_alike_v2 8 ((kT kI) v_house.2.2.1) ((kT kI) v_state.2.1)).bind fun x14=>Res.ok (!x14)).bind fun b57=>if b57 then (Res.ok (false)) else (((f_law_alike_v2 8 (kI v_house.2.2.2) (kI v_state.2.2)).bind fun x21=>Res.ok (!x21)).bind fun b56=>if b56 then (Res.ok (false)) else (((catR (([v_name]:List (List Nat))) (cutL s2 (some (-((1:Int)))) none)).bind fun x51=>forT (ρ:=Bool) (fun (s23:Unit) (x26:List Nat)=>(f_law_of v_house x26 false).bind fun (s30:PV)=>(f_law_of v_house x26 true).bind fun (s34:PV)=>if !memB x26 s2 then (((((opNe ((tv .fz kV) s30).2 ((tv .fz kS) (([110,111,32,110,97,109,101]:List Nat))).2).bind fzv).bind fun x35=>tvB x35).bind fun x37=>if x37 then Res.ok true else ((opNe ((tv .fz kV) s34).2 ((tv .fz kS) (([110,111,32,110,97,109,101]:List Nat))).2).bind fzv).bind fun x36=>tvB x36).bind fun b39=>if b39 then (Res.ok ((Ctl.rt false))) else (Res.ok (Ctl.nx (())))) else (((indexR s2 x26).bind fun x40=>ixR v_state.1 x40).bind fun (s41:((List Nat)×(List (List Nat))×Option (Int)))=>(((f_law_alike_v2 8 s30 ((kT kS) s41.2.1)).bind fun x44=>Res.ok (!x44)).bind fun x48=>if x48 then Res.ok true else (f_law_alike_v2 8 s34 ((kO kI) s41.2.2)).bind fun x47=>Res.ok (!x47)).bind fun b50=>if b50 then (Res.ok ((Ctl.rt false))) else (Res.ok (Ctl.nx (()))))) x51 (())).bind fun c55=>c55.then (fun (r54:Bool)=>Res.ok r54) fun (s52:Unit)=>Res.ok (true)))
noncomputable def f_law_v66(v_script:List (Int)):Res (Bool) :=
 let s1:Hs:=hs0; let s2:Hs:=hs0; let s7:Md:=(([],([(1:Int),(2:Int),(2:Int),(2:Int),(1:Int),(1:Int),(3:Int)]:List (Int)),(100:Int)):Md); let s12:Md:=(([],([(1:Int),(2:Int),(2:Int),(2:Int),(1:Int),(1:Int),(3:Int)]:List (Int)),(100:Int)):Md); let s13:List (PV):=([]:List (PV)); ((((f_law_cell v_script ((0:Int))).bind fun x19=>Res.ok (x19 % (6:Int))).bind fun x20=>Res.ok (decide (x20=(1:Int)))).bind fun b165=>if b165 then (((rngR ((28:Int))).bind fun x101=>(noExc (mapR (fun (z82:Int)=>((((((f_law_cell v_script ((0:Int))).bind fun x90=>Res.ok (x90 / (6:Int))).bind fun x91=>Res.ok (x91 % (9:Int))).bind fun x92=>Res.ok (z82+x92)).bind fun x94=>f_law_word x94).bind fun x99=>Res.ok (((([112,117,116]:List Nat),x99,([]:List (PV)),()):((List Nat)×(List Nat)×(List (PV))×Unit)))).bind fun x100=>Res.ok ((kP4 kS kS (kT kV) kN) x100)) x101)).bind szR).bind fun (s102:List (PV))=>Res.ok s102) else (Res.ok s13)).bind fun s61=>let s103:List (Int):=cutL v_script (some ((2:Int))) (some ((122:Int))); ((rngR (((s61.length:Int))+((s103.length:Int)))).bind fun x153=>forT (ρ:=Bool) (fun (s104:((Hs)×(Md))) (x105:Int)=>((catR s61 (([(kP2 kS kS) (((([116,97,107,101]:List Nat),([]:List Nat)):((List Nat)×List Nat)))]:List (PV)))).bind fun x114=>ixR x114 (if ((s61.length:Int)) < x105 then ((s61.length:Int)) else x105)).bind fun (s115:PV)=>(if decide ((s61.length:Int)≤x105) then ((f_law_deed s103 (x105 - ((s61.length:Int)))).bind fun (s123:PV)=>Res.ok s123) else (Res.ok s115)).bind fun s119=>(f_law_due_v9 s104.2 s119).bind fun (s125:(Option (List Nat))×Md)=>(f_law_done s104.1 s119).bind fun (s127:(Option (List Nat))×Hs)=>(if !decide (s127.1=s125.1) then Res.ok true else if s125.1.isNone then Res.ok (s127.1.isSome) else Res.ok false).bind fun b152=>if b152 then (Res.ok ((Ctl.rt false))) else ((if decide ((s61.length:Int)≤x105) then ((((f_law_cell v_script ((1:Int))).bind fun x142=>Res.ok (x142+x105)).bind fun x144=>f_law_name x144).bind fun x148=>f_law_seen s127.2 s125.2 x148).bind fun x149=>Res.ok (!x149) else Res.ok false).bind fun b151=>if b151 then (Res.ok ((Ctl.rt false))) else (Res.ok (Ctl.nx ((s127.2,s125.2)))))) x153 ((s1,s7))).bind fun c164=>c164.then (fun (r163:Bool)=>Res.ok r163) fun (s154:((Hs)×(Md)))=>(f_law_seen s2 s12 (([97]:List Nat))).bind fun x162=>Res.ok (x162)
end Vm
end
section
set_option linter.all false
set_option maxHeartbeats 1000000
set_option maxRecDepth 10000
namespace Vm
def Rk{α:Type}(r:Res α)(P:α→Prop):Prop:=∃ x,r = .ok x∧P x
section
variable {α β σ ι ρ:Type} {r:Res α} {P Q:α→Prop} {f:α→Res β} {T:β→Prop}
theorem Rk.ok{x:α}(h:P x):Rk (.ok x) P:=⟨x,rfl,h⟩
theorem Rk.of{x:α}(e:r = .ok x)(h:P x):Rk r P:=⟨x,e,h⟩
theorem Rk.eq{x:α}(h:Rk r (· = x)):r = .ok x:=by obtain ⟨y,h1,h2⟩:=h; rw [h1,h2]
theorem Rk.mono(h:Rk r P)(k:∀ x,P x→Q x):Rk r Q:=by obtain ⟨x,h1,h2⟩:=h; exact ⟨x,h1,k x h2⟩
theorem Rk.bind(h:Rk r P)(k:∀ x,P x→Rk (f x) T):Rk (r.bind f) T:=by
 obtain ⟨x,h1,h2⟩:=h; rw [h1]; exact k x h2
theorem Rk.ite{c:Prop}[Decidable c]{a b:Res α}(h1:c→Rk a P)(h2:¬ c→Rk b P):Rk (if c then a else b) P:=by split <;> rename_i h; exact h1 h; exact h2 h
theorem Rk.noExc(h:Rk r P):Rk (noExc r) P:=by obtain ⟨x,h1,h2⟩:=h; rw [h1]; exact ⟨x,rfl,h2⟩
theorem Rk.or{c:Prop}[Decidable c]{b:Res Bool}{k:Bool→Res β}(h1:c→Rk (k true) T)(h2:¬ c→Rk (b.bind k) T):Rk ((if decide c then Res.ok true else b).bind k) T:=by
 by_cases h:c
 ·rw [if_pos (by simpa using h)]; exact h1 h
 ·rw [if_neg (by simpa using h)]; exact h2 h
theorem Rk.for{F:σ→ι→Res σ}{l:List ι}{s:σ}{Q:σ→Prop}(I:Nat→σ→Prop)(h0:I 0 s)(hs:∀ i x s,l[i]? = some x→I i s→Rk (F s x) (I (i+1)))(hq:∀ s,I l.length s→Q s):Rk (forS F l s) Q:=by
 obtain ⟨s',h1,h2⟩:=forS_inv I l s h0 hs
 exact ⟨s',h1,hq s' h2⟩
theorem Rk.maps{f:ι→Res α}{l:List ι}(G:α→Prop)(h:∀ x∈l,Rk (f x) G)(hz:l.length≤16777216):Rk ((Vm.noExc (mapR f l)).bind szR) fun ys=>ys.length=l.length∧∀ y∈ys,G y:=by
 obtain ⟨ys,h1,h2,h3⟩:=mapR_all G h hz
 exact ⟨ys,h1,h2,h3⟩
theorem Rk.ix[Inhabited α]{l:List α}{i:Int}(h0:0≤i)(h1:i < l.length)(h:P (gt l i)):Rk (ixR l i) P:=⟨_,ixR_gt h0 h1,h⟩
end
end Vm
end
section
set_option linter.all false
set_option maxHeartbeats 1000000
set_option maxRecDepth 10000
namespace Vm
end Vm
end
section
set_option linter.all false
set_option maxHeartbeats 1000000
set_option maxRecDepth 10000
namespace Vm
def ltr:List Nat:=[97,98,99,100,101,102,103,104,105,106,107,108,109,110,111,112,113,114,115,116,117,118,119,120,121,122]
structure okW (w:List Nat):Prop where
 l1:1≤w.length
 l2:w.length≤12
 c:∀ c∈w,c∈ltr
structure okRw (n:Nat) (r:List (List Nat)):Prop where
 l:r.length≤n
 w:∀ w∈r,okW w
namespace Ln
def fineB(w:List Nat):Bool:=(decide (1≤w.length) && decide (w.length≤12)) && w.all fun c=>ltr.elem c
theorem word_fine(w:List Nat):f_is_word w = .ok (fineB w):=by
 unfold f_is_word fineB
 by_cases h1:1≤w.length
 ·by_cases h2:w.length≤12
  ·simp only [show ¬ (w.length:Int)=0 by omega,show ¬ (12:Int) < (w.length:Int) by omega,decide_false,Bool.false_eq_true,if_false,bind_ok,h1,h2,decide_true,Bool.true_and,Bool.and_self]
   rw [mapR_sz (fun z:List Nat=>z.all fun c=>ltr.elem c) (fun z hz=>by
    obtain ⟨c,_,rfl⟩:=List.mem_map.mp hz
    show Res.ok (List.elem c ltr)=_
    simp) (by simp; omega),bind_ok,bind_ok]
   congr 1
   unfold signs
   rw [List.map_map,List.all_map]
   congr 1
   funext c
   simp
  ·simp only [show ¬ (w.length:Int)=0 by omega,show (12:Int) < (w.length:Int) by omega,decide_false,decide_true,Bool.false_eq_true,if_false,if_true,bind_ok,h2,Bool.and_false,Bool.false_and]
 ·simp only [show (w.length:Int)=0 by omega,decide_true,if_true,bind_ok,h1,decide_false,Bool.false_and]
end Ln
section
variable {cs:List CpM}
theorem dfind_out{β:Type}(f:CpM→β){n:List Nat}(hn:n ∉ cs.map fun c=>c.1):dfind (cs.map fun c=>(c.1,f c)) n=none:=by
 unfold dfind
 rw [Option.map_eq_none_iff,List.find?_eq_none]
 intro z hz
 obtain ⟨c,hc,rfl⟩:=List.mem_map.mp hz
 simp only [decide_eq_true_eq]
 intro e
 exact hn (e ▸ List.mem_map_of_mem (f:=fun c:CpM=>c.1) hc)
theorem dput_out{β:Type}(f:CpM→β){c:CpM}:∀ {cs:List CpM},(c.1 ∉ cs.map fun c=>c.1)→dput (cs.map fun c=>(c.1,f c)) c.1 (f c)=(cs++[c]).map fun c=>(c.1,f c)
 | [],_=>rfl
 | b :: cs,hn=>by
  rw [List.map_cons,List.mem_cons,not_or] at hn
  show dput ((b.1,f b) :: cs.map fun c=>(c.1,f c)) c.1 (f c)=_
  unfold dput
  rw [if_neg fun e=>hn.1 e.symm,dput_out f hn.2]
  rfl
end
end Vm
namespace Vm.Rw
theorem sum_le{ws:List (List Nat)}{B:Nat}(h:∀ w∈ws,w.length≤B):(ws.map (·.length)).sum≤ws.length * B:=by
 induction ws with
 | nil=>simp
 | cons w ws ih =>
  have h1:=h w (by simp)
  have h2:=ih fun v hv=>h v (by simp [hv])
  simp only [List.map_cons,List.sum_cons,List.length_cons]
  rw [Nat.add_mul]
  omega
theorem joinR_ok{s:List Nat}{ws:List (List Nat)}(hs:s.length≤2)(h:∀ w∈ws,w.length≤20)(hl:ws.length≤1000):joinR s ws = .ok (joinL s ws):=by
 refine if_pos ?_
 have:=sum_le h
 have h2:ws.length * s.length≤1000 * 2:=Nat.mul_le_mul hl hs
 omega
theorem word_ok(cell:Int):∃ w,okW w∧f_law_word cell = .ok w:=by
 unfold f_law_word
 have h0:=Int.emod_nonneg cell (show (12:Int) ≠ 0 by decide)
 have h1:=Int.emod_lt_of_pos cell (show (0:Int) < 12 by decide)
 obtain ⟨⟨c,ws⟩,g1,cs,g2,g3,g4⟩:=forS_inv (F:=fun (s3:((Int)×(List (List Nat)))) (x4:Int)=>(((ixR (([97,98,99,100,101,102,103,104,105,106,107,108,109,110,111,112,113,114,115,116,117,118,119,120,121,122]:List Nat)) (s3.1 % (26:Int))).bind fun z=>Res.ok [z]).bind fun x5=>appR s3.2 x5).bind fun (s6:List (List Nat))=>let s7:Int:=s3.1 / (26:Int); Res.ok ((s7,s6))) (fun i (s:Int×List (List Nat))=>∃ cs:List Nat,s.2=cs.map (fun c=>[c])∧cs.length=i∧∀ c∈cs,c∈ltr) (rngN (1+cell % 12).toNat) (cell / 12,[]) ⟨[],rfl,rfl,fun _ h=>nomatch h⟩ (fun i x s hx ⟨cs,c1,c2,c3⟩=>by
  have hi:i < (rngN (1+cell % 12).toNat).length:=(List.getElem?_eq_some_iff.mp hx).1
  rw [rngN_length] at hi
  have a0:=Int.emod_nonneg s.1 (show (26:Int) ≠ 0 by decide)
  have a1:=Int.emod_lt_of_pos s.1 (show (0:Int) < 26 by decide)
  have hix:=ixR_gt (l:=ltr) a0 (show s.1 % 26 < (ltr.length:Int) from a1)
  have hmem:=gt_mem (l:=ltr) (i:=s.1 % 26) (show (s.1 % 26).toNat < ltr.length by show (s.1 % 26).toNat < 26; omega)
  refine ⟨(s.1 / 26,s.2++[[gt ltr (s.1 % 26)]]),?_,cs++[gt ltr (s.1 % 26)],by rw [c1]; simp,by simp [c2],fun c hc=>?_⟩
  ·rw [show ixR [97,98,99,100,101,102,103,104,105,106,107,108,109,110,111,112,113,114,115,116,117,118,119,120,121,122] (s.1 % 26) = .ok (gt ltr (s.1 % 26)) from hix,bind_ok,bind_ok,appR_ok (by rw [c1]; simp; omega)]
   rfl
  ·rcases List.mem_append.mp hc with hc | hc
   ·exact c3 c hc
   ·rw [List.mem_singleton] at hc; rw [hc]; exact hmem)
 rw [rngN_length] at g3
 simp only at g2
 subst g2
 have hj:joinL [] (cs.map fun c=>[c])=cs:=by
  have:∀ cs:List Nat,joinL [] (cs.map fun c=>[c])=cs:=fun cs=>by
   induction cs with
   | nil=>rfl
   | cons c cs ih =>
    cases cs with
    | nil=>rfl
    | cons d cs =>
     have e:joinL [] ((c :: d :: cs).map fun c=>[c])=[c]++[]++joinL [] ((d :: cs).map fun c=>[c]):=rfl
     rw [e,ih]; rfl
  exact this cs
 refine ⟨cs,⟨by omega,by omega,g4⟩,?_⟩
 simp only [rngR_int (show 0≤1+cell % 12 by omega) (show 1+cell % 12≤1000000000 by omega),bind_ok,g1]
 rw [joinR_ok (by decide) (fun w hw=>by
  obtain ⟨c,_,rfl⟩:=List.mem_map.mp hw
  simp) (by simp; omega),hj]
 rfl
theorem firstIx_ex{c:Nat}:∀ {l:List Nat},c∈l→∃ k,firstIx (· == c) l=some k∧k < l.length
 | x :: l,h=>by
  by_cases e:x=c
  ·exact ⟨0,by simp [firstIx,e],by simp⟩
  ·rcases List.mem_cons.mp h with h | h
   ·exact absurd h.symm e
   ·obtain ⟨k,h1,h2⟩:=firstIx_ex h
    exact ⟨k+1,by simp [firstIx,e,h1],by simp; omega⟩
theorem other_ok{w:List Nat}(h:okW w)(p s:Int):∃ v,okW v∧f_law_other w p s = .ok v:=by
 unfold f_law_other
 have hl:=h.l1
 have hl2:=h.l2
 have hp:(0:Int) < (w.length:Int):=by omega
 have a0:=Int.emod_nonneg p (show (w.length:Int) ≠ 0 by omega)
 have a1:=Int.emod_lt_of_pos p hp
 rw [modR_ok hp,bind_ok]
 generalize hq:p % (w.length:Int)=q at a0 a1
 have hix:=ixR_gt (l:=w) a0 a1
 have hm:gt w q∈ltr:=h.c _ (gt_mem (by omega))
 obtain ⟨k,k1,k2⟩:=firstIx_ex hm
 have hin:indexSR [97,98,99,100,101,102,103,104,105,106,107,108,109,110,111,112,113,114,115,116,117,118,119,120,121,122] [gt w q] = .ok (k:Int):=by
  show (match firstIx (· == gt w q) ltr with | some k=>Res.ok (k:Int) | none=>.bad)=_
  rw [k1]
 simp only [hix,bind_ok,hin]
 have b0:=Int.emod_nonneg ((k:Int)+1+s % 25) (show (26:Int) ≠ 0 by decide)
 have b1:=Int.emod_lt_of_pos ((k:Int)+1+s % 25) (show (0:Int) < 26 by decide)
 generalize ((k:Int)+1+s % 25) % 26=j at b0 b1
 have hj:=ixR_gt (l:=ltr) b0 (show j < (ltr.length:Int) from b1)
 have hjm:=gt_mem (l:=ltr) (i:=j) (show j.toNat < ltr.length by show j.toNat < 26; omega)
 rw [show ixR [97,98,99,100,101,102,103,104,105,106,107,108,109,110,111,112,113,114,115,116,117,118,119,120,121,122] j = .ok (gt ltr j) from hj,bind_ok,bind_ok]
 rw [cut_take a0,cut_drop (show 0≤q+1 by omega),catR_ok (by simp; omega),bind_ok,catR_ok (by simp; omega),bind_ok]
 refine ⟨_,⟨?_,?_,fun c hc=>?_⟩,rfl⟩
 ·simp; omega
 ·simp; omega
 ·rcases List.mem_append.mp hc with hc | hc
  ·rcases List.mem_append.mp hc with hc | hc
   ·exact h.c c (List.mem_of_mem_take hc)
   ·rw [List.mem_singleton] at hc; rw [hc]; exact hjm
  ·exact h.c c (List.mem_of_mem_drop hc)
theorem row_ok(cells:List Int)(hl:cells.length≤100000):∃ ws,f_law_row cells = .ok ws∧ws.length=cells.length∧∀ w∈ws,okW w:=by
 unfold f_law_row
 obtain ⟨ws,g1,g2,g3⟩:=forS_inv (F:=(fun (s2:((List (List Nat)))) (x3:Int)=>let s4:Int:=x3 % (5:Int); (f_law_word (x3 / (5:Int))).bind fun (s6:List Nat)=>((if decide (s4=(1:Int)) then Res.ok (decide ((0:Int) < (s2.length:Int))) else Res.ok false).bind fun b32=>if b32 then ((ixR s2 (-((1:Int)))).bind fun (s10:List Nat)=>Res.ok s10) else (Res.ok s6)).bind fun s8=>((if decide (s4=(2:Int)) then Res.ok (decide ((0:Int) < (s2.length:Int))) else Res.ok false).bind fun b31=>if b31 then (((ixR s2 (-((1:Int)))).bind fun x21=>f_law_other x21 (x3 / (5:Int)) (x3 / (60:Int))).bind fun (s22:List Nat)=>Res.ok s22) else (Res.ok s8)).bind fun s16=>((if decide (s4=(3:Int)) then Res.ok (decide ((0:Int) < (s2.length:Int))) else Res.ok false).bind fun b30=>if b30 then (((modR (x3 / (5:Int)) ((s2.length:Int))).bind fun x27=>ixR s2 x27).bind fun (s28:List Nat)=>Res.ok s28) else (Res.ok s16)).bind fun s25=>(appR s2 s25).bind fun (s29:List (List Nat))=>Res.ok s29)) (fun i (s:List (List Nat))=>s.length=i∧∀ w∈s,okW w) cells [] ⟨rfl,fun _ h=>nomatch h⟩ (fun i x s hx ⟨c1,c2⟩=>by
  have hi:i < cells.length:=(List.getElem?_eq_some_iff.mp hx).1
  obtain ⟨w,w1,w2⟩:=word_ok (x / 5)
  simp only [w2,bind_ok]
  have tst:∀ (c p:Bool),(if c then Res.ok p else Res.ok false)=Res.ok (c && p):=fun c p=>by cases c <;> rfl
  simp only [tst,bind_ok]
  have hp:decide ((0:Int) < (s.length:Int))=true→s ≠ []:=fun h e=>by subst e; simp at h
  have last:∀ h:s ≠ [],ixR s (-1) = .ok (s.getLast h)∧okW (s.getLast h):=fun h=>⟨ixR_last h,c2 _ (List.getLast_mem h)⟩
  obtain ⟨v1,o1,e1⟩:∃ v,okW v∧(if (decide (x % 5=1) && decide ((0:Int) < (s.length:Int)))=true then ((ixR s (-((1:Int)))).bind fun (s10:List Nat)=>Res.ok s10) else (Res.ok w)) = .ok v:=by
   split
   ·rename_i h
    obtain ⟨l1,l2⟩:=last (hp (by simp only [Bool.and_eq_true] at h; exact h.2))
    exact ⟨_,l2,by rw [l1]; rfl⟩
   ·exact ⟨w,w1,rfl⟩
  rw [e1,bind_ok]
  obtain ⟨v2,o2,e2⟩:∃ v,okW v∧(if (decide (x % 5=2) && decide ((0:Int) < (s.length:Int)))=true then (((ixR s (-((1:Int)))).bind fun x21=>f_law_other x21 (x / (5:Int)) (x / (60:Int))).bind fun (s22:List Nat)=>Res.ok s22) else (Res.ok v1)) = .ok v:=by
   split
   ·rename_i h
    obtain ⟨l1,l2⟩:=last (hp (by simp only [Bool.and_eq_true] at h; exact h.2))
    obtain ⟨u,u1,u2⟩:=other_ok l2 (x / 5) (x / 60)
    exact ⟨u,u1,by rw [l1,bind_ok,u2]; rfl⟩
   ·exact ⟨v1,o1,rfl⟩
  rw [e2,bind_ok]
  obtain ⟨v3,o3,e3⟩:∃ v,okW v∧(if (decide (x % 5=3) && decide ((0:Int) < (s.length:Int)))=true then (((modR (x / (5:Int)) ((s.length:Int))).bind fun x27=>ixR s x27).bind fun (s28:List Nat)=>Res.ok s28) else (Res.ok v2)) = .ok v:=by
   split
   ·rename_i h
    simp only [Bool.and_eq_true,decide_eq_true_eq] at h
    have m0:=Int.emod_nonneg (x / 5) (show (s.length:Int) ≠ 0 by omega)
    have m1:=Int.emod_lt_of_pos (x / 5) h.2
    exact ⟨_,c2 _ (gt_mem (i:=x / 5 % (s.length:Int)) (by omega)),by rw [modR_ok h.2,bind_ok,ixR_gt m0 m1]; rfl⟩
   ·exact ⟨v2,o2,rfl⟩
  rw [e3,bind_ok,appR_ok (by omega)]
  exact ⟨s++[v3],rfl,by simp [c1],fun v hv=>by
   rcases List.mem_append.mp hv with hv | hv
   ·exact c2 v hv
   ·rw [List.mem_singleton] at hv; rw [hv]; exact o3⟩)
 exact ⟨ws,congrArg (fun r=>Res.bind r Res.ok) g1,g2,g3⟩
end Vm.Rw
end
section
set_option linter.all false
set_option maxHeartbeats 2000000
set_option maxRecDepth 10000
namespace Vm
inductive Dd where
 | put (n:List Nat) (r:List (List Nat)) (d:Option Int) | take (n:List Nat) | prices (q:List Int) | fresh (i:Int)
def kDd:Dd→PV
 | .put n r d=>kP4 kS kS (kT kS) (kO kI) ([112,117,116],n,r,d)
 | .take n=>kP2 kS kS ([116,97,107,101],n)
 | .prices q=>kP2 kS (kT kI) ([112,114,105,99,101,115],q)
 | .fresh i=>kP2 kS kI ([102,114,101,115,104],i)
def okD:Dd→Prop
 | .put n r d=>r.length≤1000
 | .take n=>True
 | .prices q=>q.length≤1000
 | .fresh i=>True
def wNm:List Nat:=[110,97,109,101]
def wTw:List Nat:=[116,119,105,99,101]
def wMn:List Nat:=[109,97,110,121]
abbrev nms(m:Md):List (List Nat):=m.1.map fun c=>c.1
def dueA(m:Md):Dd→Option (List Nat)×Md
 | .put n r d=>if Ln.fineB n=false then (some wNm,m) else if n∈nms m then (some wTw,m) else if 30≤m.1.length then (some wMn,m) else (none,(m.1++[(n,r,d)],m.2))
 | .take n=>if n∈nms m then (none,(m.1.filter fun c=>!decide (c.1=n),m.2)) else (some wNm,m)
 | .prices q=>(none,(m.1,q,m.2.2))
 | .fresh i=>(none,(m.1,m.2.1,i))
structure In (m:Md):Prop where
 nd:(nms m).Nodup
 l:m.1.length≤30
 r:∀ c∈m.1,c.2.1.length≤1000
 p:m.2.1.length≤1000
theorem In.due{m:Md}(H:In m){d:Dd}(hd:okD d):In (dueA m d).2:=by
 cases d with
 | put n r d =>
  simp only [dueA]
  split
  ·exact H
  split
  ·exact H
  split
  ·exact H
  rename_i h1 h2 h3
  refine ⟨?_,?_,?_,H.p⟩
  ·show ((m.1++[(n,r,d)]).map fun c=>c.1).Nodup
   rw [List.map_append]
   refine List.nodup_append.mpr ⟨H.nd,by simp,fun a ha b hb=>?_⟩
   rw [List.map_cons,List.map_nil,List.mem_singleton] at hb
   exact fun e=>h2 (by have hb:b=n:=hb; rw [← hb,← e]; exact ha)
  ·show (m.1++[(n,r,d)]).length≤30
   rw [List.length_append]; simp; omega
  ·intro c hc
   rcases List.mem_append.mp hc with hc | hc
   ·exact H.r c hc
   ·rw [List.mem_singleton] at hc; rw [hc]; exact hd
 | take n =>
  simp only [dueA]
  split
  ·refine ⟨?_,Nat.le_trans (List.length_filter_le _ _) H.l,fun c hc=>H.r c (List.mem_filter.mp hc).1,H.p⟩
   exact H.nd.sublist (List.Sublist.map _ List.filter_sublist)
  ·exact H
 | prices q=>exact ⟨H.nd,H.l,H.r,hd⟩
 | fresh i=>exact ⟨H.nd,H.l,H.r,H.p⟩
theorem strsP_kS(r:List (List Nat)):decTSt (.fz,.tup (r.map kS)) = .ok r:=by
 show (match strsP (r.map kS) with | some ws=>Res.ok ws | none=>.bad)=_
 rw [strsP_k]
theorem intsQ_kI(r:List Int):decTIn (.fz,.tup (r.map kI)) = .ok r:=by
 show (match intsQ (r.map kI) with | some ws=>Res.ok ws | none=>.bad)=_
 rw [intsQ_k]
theorem decOI_k(d:Option Int):decOI (.fz,kO kI d) = .ok d:=by cases d <;> rfl
theorem eqS(a b:List Nat):((opEq (kS a) (kS b)).bind fzv).bind (fun x=>tvB x) = .ok (decide (a=b)):=by
 have e2:(opEq (kS a) (kS b)).bind fzv = .ok (.fz,.bl (decide (a=b))):=rEq (Γ:=[]) (a:=eC (kS a)) (b:=eC (kS b)) (rV .fz kS a) (rV .fz kS b)
 rw [e2]; rfl
theorem inSL(n:List Nat)(l:List (List Nat)):((opIn (kS n) (kL kS l)).bind fzv).bind (fun x=>tvB x) = .ok (memB n l):=by
 show (((inB (kS n) (kL kS l)).bind fun b=>.ok (.bl b):Res PV).bind fzv).bind (fun x=>tvB x)=_
 rw [inB_L (by decide)]; rfl
theorem ninSL(n:List Nat)(l:List (List Nat)):((opNotIn (kS n) (kL kS l)).bind fzv).bind (fun x=>tvB x) = .ok (!memB n l):=by
 show (((inB (kS n) (kL kS l)).bind fun b=>.ok (.bl (!b)):Res PV).bind fzv).bind (fun x=>tvB x)=_
 rw [inB_L (by decide)]; rfl
theorem cpy_k(n:List Nat)(r:List (List Nat))(d:Option Int):(sliceV (tv .fz kV (kDd (.put n r d))) (some 1) none).bind decCpy = .ok (n,r,d):=by
 show decCpy (.fz,.tup (cutL [kS [112,117,116],kS n,kT kS r,kO kI d] (some 1) none))=_
 rw [show cutL [kS [112,117,116],kS n,kT kS r,kO kI d] (some 1) none=[kS n,kT kS r,kO kI d] from rfl]
 cases d with
 | none =>
  show (match strsP (r.map kS) with | some ws=>Res.ok (n,ws,none) | none=>.bad)=_
  rw [strsP_k]
 | some i =>
  show (match strsP (r.map kS) with | some ws=>Res.ok (n,ws,some i) | none=>.bad)=_
  rw [strsP_k]
theorem is_name_ok(n:List Nat):f_law_is_name n = .ok (Ln.fineB n):=by
 unfold f_law_is_name Ln.fineB
 by_cases h1:1≤n.length
 ·by_cases h2:n.length≤12
  ·rw [decide_eq_true (show (1:Int)≤(n.length:Int) by omega),if_pos rfl,bind_ok,decide_eq_true (show (n.length:Int)≤(12:Int) by omega),if_pos rfl]
   rw [mapR_sz (fun z:List Nat=>z.all fun c=>ltr.elem c) (fun z hz=>by
    obtain ⟨c,_,rfl⟩:=List.mem_map.mp hz
    show Res.ok (List.elem c ltr)=_
    simp) (by simp; omega),bind_ok,bind_ok,decide_eq_true h1,decide_eq_true h2]
   congr 1
   unfold signs
   rw [List.map_map,List.all_map,Bool.and_self,Bool.true_and]
   congr 1
   funext c
   simp
  ·rw [decide_eq_true (show (1:Int)≤(n.length:Int) by omega),if_pos rfl,bind_ok,decide_eq_false (show ¬ (n.length:Int)≤(12:Int) by omega),if_neg (by decide),bind_ok,decide_eq_false h2,Bool.and_false,Bool.false_and]
 ·rw [decide_eq_false (show ¬ (1:Int)≤(n.length:Int) by omega),if_neg (by decide),bind_ok,if_neg (by decide),bind_ok,decide_eq_false h1,Bool.false_and,Bool.false_and]
theorem names_m{m:Md}(H:In m):(noExc (mapR (fun (z1:((List Nat)×(List (List Nat))×Option (Int)))=>Res.ok (z1.1)) m.1)).bind szR = .ok (nms m):=mapR_sz (fun z:CpM=>z.1) (fun _ _=>rfl) (by have:=H.l; omega)
theorem firstIx_app{α:Type}{p:α→Bool}{a b:List α}{c:α}(h:∀ x∈a,p x=false)(hc:p c=true):firstIx p (a++c :: b)=some a.length:=by
 induction a with
 | nil=>simp [firstIx,hc]
 | cons x a ih =>
  rw [List.cons_append,firstIx,h x (by simp),if_neg (by decide),ih fun y hy=>h y (by simp [hy])]
  rfl
theorem erase_app{α:Type}(a b:List α)(c:α):(a++c :: b).eraseIdx a.length=a++b:=by
 induction a with
 | nil=>rfl
 | cons x a ih=>rw [List.cons_append,List.length_cons,List.eraseIdx_cons_succ,ih]; rfl
structure At (m:Md) (c:CpM) (a b:List CpM):Prop where
 e:m.1=a++c :: b
 ix:indexR (nms m) c.1 = .ok (a.length:Int)
 f:(m.1.filter fun x=>!decide (x.1=c.1))=a++b
theorem at_of{m:Md}(H:In m){n:List Nat}(hn:n∈nms m):∃ c a b,c.1=n∧At m c a b:=by
 obtain ⟨c,hc,e⟩:=List.mem_map.mp hn
 have e:c.1=n:=e
 obtain ⟨a,b,hab⟩:=List.append_of_mem hc
 have hd:=H.nd
 unfold nms at hd
 rw [hab,List.map_append,List.map_cons] at hd
 obtain ⟨k1,k2,k3⟩:=List.nodup_append.mp hd
 obtain ⟨k4,k5⟩:=List.nodup_cons.mp k2
 have ha:∀ z∈a,z.1 ≠ c.1:=fun z hz=>k3 z.1 (List.mem_map_of_mem (f:=fun c:CpM=>c.1) hz) c.1 (by simp)
 have hb:∀ z∈b,z.1 ≠ c.1:=fun z hz q=>k4 (q ▸ List.mem_map_of_mem (f:=fun c:CpM=>c.1) hz)
 refine ⟨c,a,b,e,hab,?_,?_⟩
 ·unfold indexR nms
  rw [hab,List.map_append,List.map_cons,firstIx_app (fun x hx=>by
   obtain ⟨z,hz,rfl⟩:=List.mem_map.mp hx
   exact decide_eq_false (ha z hz)) (by simp),List.length_map]
 ·rw [hab,List.filter_append,List.filter_cons_of_neg (by simp)]
  congr 1
  ·exact List.filter_eq_self.mpr fun z hz=>by simpa using ha z hz
  ·exact List.filter_eq_self.mpr fun z hz=>by simpa using hb z hz
theorem due_ok{m:Md}(H:In m):∀ d:Dd,f_law_due_v9 m (kDd d) = .ok (dueA m d):=by
 have ml:=H.l
 intro d
 cases d with
 | put n r d =>
  unfold f_law_due_v9
  rw [names_m H]
  have e0:ixV (tv .fz kV (kDd (.put n r d))) (tv .fz kI (0:Int)).2 = .ok (.fz,kS [112,117,116]):=rfl
  have e1:ixV (tv .fz kV (kDd (.put n r d))) (tv .fz kI (1:Int)).2 = .ok (.fz,kS n):=rfl
  rw [e0,e1]
  simp only [bind_ok]
  rw [eqS,bind_ok,if_pos (by decide),show decS (.fz,kS n) = .ok n from rfl,bind_ok,is_name_ok,bind_ok,bind_ok,inSL,cpy_k]
  simp only [dueA]
  by_cases h1:Ln.fineB n=false
  ·rw [h1,if_pos (show (!false)=true by decide),if_pos rfl]; rfl
  rw [if_neg (by simpa using h1),if_neg h1,bind_ok]
  by_cases h2:n∈nms m
  ·rw [memB_iff.mpr h2,if_pos rfl,if_pos h2]; rfl
  have h2':memB n (nms m)=false:=by
   cases q:memB n (nms m) with
   | false=>rfl
   | true=>exact absurd (memB_iff.mp q) h2
  rw [h2',if_neg (by decide),if_neg h2]
  by_cases h3:30≤m.1.length
  ·rw [if_pos (by simp; omega),if_pos h3]; rfl
  rw [if_neg (by simp; omega),if_neg h3,bind_ok,appR_ok (by omega)]
  simp only [bind_ok]
  rw [eqS,bind_ok,if_neg (by decide),eqS,bind_ok,if_neg (by decide),eqS,bind_ok,if_neg (by decide)]
  rfl
 | take n =>
  unfold f_law_due_v9
  rw [names_m H]
  have e0:ixV (tv .fz kV (kDd (.take n))) (tv .fz kI (0:Int)).2 = .ok (.fz,kS [116,97,107,101]):=rfl
  have e1:ixV (tv .fz kV (kDd (.take n))) (tv .fz kI (1:Int)).2 = .ok (.fz,kS n):=rfl
  rw [e0,e1]
  simp only [bind_ok]
  rw [eqS,bind_ok,if_neg (by decide),eqS,bind_ok,if_pos (by decide),ninSL,bind_ok]
  simp only [dueA]
  by_cases h2:n∈nms m
  ·rw [memB_iff.mpr h2,if_neg (by decide),if_pos h2]
   obtain ⟨c,a,b,e,A⟩:=at_of H h2
   subst e
   rw [show decS (.fz,kS c.1) = .ok c.1 from rfl,bind_ok,A.ix,bind_ok]
   have hp:popAtR m.1 (a.length:Int) = .ok (a++b):=by
    unfold popAtR
    rw [if_pos ⟨by omega,by rw [A.e]; simp; omega,by omega⟩,Int.toNat_natCast,A.e,erase_app]
   rw [hp,A.f]
   simp only [bind_ok]
   rw [eqS,bind_ok,if_neg (by decide),eqS,bind_ok,if_neg (by decide)]
   rfl
  ·have h2':memB n (nms m)=false:=by
    cases q:memB n (nms m) with
    | false=>rfl
    | true=>exact absurd (memB_iff.mp q) h2
   rw [h2',if_pos (by decide),if_neg h2]; rfl
 | prices q =>
  unfold f_law_due_v9
  rw [names_m H]
  have e0:ixV (tv .fz kV (kDd (.prices q))) (tv .fz kI (0:Int)).2 = .ok (.fz,kS [112,114,105,99,101,115]):=rfl
  have e1:ixV (tv .fz kV (kDd (.prices q))) (tv .fz kI (1:Int)).2 = .ok (.fz,kT kI q):=rfl
  rw [e0,e1]
  simp only [bind_ok]
  rw [eqS,bind_ok,if_neg (by decide),eqS,bind_ok,if_neg (by decide),eqS,bind_ok,if_pos (by decide),bind_ok,if_pos rfl]
  have hs:setMs m (.fz,kS [112,114,105,99,101,115]) (.fz,kT kI q) = .ok (m.1,q,m.2.2):=by
   show (if [112,114,105,99,101,115]=wPrs then (match intsQ (q.map kI) with
    | some p=>Res.ok ((m.1,p,m.2.2):Md)
    | none=>.bad) else .bad)=_
   rw [if_pos rfl,intsQ_k]
  rw [hs]; rfl
 | fresh i =>
  unfold f_law_due_v9
  rw [names_m H]
  have e0:ixV (tv .fz kV (kDd (.fresh i))) (tv .fz kI (0:Int)).2 = .ok (.fz,kS [102,114,101,115,104]):=rfl
  have e1:ixV (tv .fz kV (kDd (.fresh i))) (tv .fz kI (1:Int)).2 = .ok (.fz,kI i):=rfl
  rw [e0,e1]
  simp only [bind_ok]
  rw [eqS,bind_ok,if_neg (by decide),eqS,bind_ok,if_neg (by decide),eqS,bind_ok,if_neg (by decide),eqS,bind_ok,if_pos (by decide)]
  have hs:setMs m (.fz,kS [102,114,101,115,104]) (.fz,kI i) = .ok (m.1,m.2.1,i):=by
   show (if [102,114,101,115,104]=wFrs then Res.ok ((m.1,m.2.1,i):Md) else .bad)=_
   rw [if_pos rfl]
  rw [hs]; rfl
end Vm
end
section
set_option linter.all false
set_option maxHeartbeats 2000000
set_option maxRecDepth 10000
namespace Vm
def hsOf(m:Md):Hs:=(m.1.map fun c=>(c.1,c.2.1),m.1.map fun c=>(c.1,c.2.2),m.2)
theorem hf1(m:Md)(n:List Nat):(dfind (hsOf m).1 n).isSome=true ↔ n∈nms m:=by
 constructor
 ·intro h
  refine Classical.byContradiction fun q=>?_
  have:dfind (hsOf m).1 n=none:=dfind_out (fun c:CpM=>c.2.1) q
  rw [this] at h; cases h
 ·intro h
  have:∀ l:List CpM,n∈l.map (fun c=>c.1)→(dfind (l.map fun c=>(c.1,c.2.1)) n).isSome=true:=by
   intro l
   induction l with
   | nil=>intro q; simp at q
   | cons c l ih =>
    intro q
    unfold dfind at ih ⊢
    rw [List.map_cons,List.find?_cons]
    by_cases e:c.1=n
    ·simp [e]
    ·rw [List.map_cons,List.mem_cons] at q
     have q':=q.resolve_left fun e'=>e e'.symm
     simp only [e,decide_false]
     exact ih q'
  exact this m.1 h
theorem hf2(m:Md)(n:List Nat):(dfind (hsOf m).2.1 n).isSome=true ↔ n∈nms m:=by
 constructor
 ·intro h
  refine Classical.byContradiction fun q=>?_
  have:dfind (hsOf m).2.1 n=none:=dfind_out (fun c:CpM=>c.2.2) q
  rw [this] at h; cases h
 ·intro h
  have:∀ l:List CpM,n∈l.map (fun c=>c.1)→(dfind (l.map fun c=>(c.1,c.2.2)) n).isSome=true:=by
   intro l
   induction l with
   | nil=>intro q; simp at q
   | cons c l ih =>
    intro q
    unfold dfind at ih ⊢
    rw [List.map_cons,List.find?_cons]
    by_cases e:c.1=n
    ·simp [e]
    ·rw [List.map_cons,List.mem_cons] at q
     have q':=q.resolve_left fun e'=>e e'.symm
     simp only [e,decide_false]
     exact ih q'
  exact this m.1 h
theorem ddel_map{β:Type}(f:CpM→β)(n:List Nat):∀ l:List CpM,ddel (l.map fun c=>(c.1,f c)) n=(l.filter fun c=>!decide (c.1=n)).map fun c=>(c.1,f c)
 | []=>rfl
 | c :: l=>by
  have:=ddel_map f n l
  unfold ddel at this ⊢
  rw [List.map_cons,List.filter_cons,List.filter_cons]
  by_cases e:c.1=n
  ·simp only [e,decide_true,Bool.not_true,if_neg Bool.false_ne_true]; exact this
  ·simp only [e,decide_false,Bool.not_false,if_true,List.map_cons]; rw [this]
theorem hput_ok{m:Md}(H:In m)(n:List Nat)(r:List (List Nat))(d:Option Int):f_House_put (hsOf m) n r d=if Ln.fineB n=false then .exc 6 else if n∈nms m then .exc 7 else if 30≤m.1.length then .exc 8 else .ok (hsOf (m.1++[(n,r,d)],m.2)):=by
 have ml:=H.l
 have l1:(hsOf m).1.length=m.1.length:=by unfold hsOf; simp
 have l2:(hsOf m).2.1.length=m.1.length:=by unfold hsOf; simp
 unfold f_House_put fPut
 rw [Ln.word_fine,bind_ok,bind_ok]
 by_cases h1:Ln.fineB n=false
 ·rw [h1,if_pos (show (!false)=true by decide),if_pos rfl]
 rw [if_neg (by simpa using h1),if_neg h1]
 by_cases h2:n∈nms m
 ·rw [if_pos ((hf1 m n).mpr h2),if_pos h2]
 rw [if_neg (fun q=>h2 ((hf1 m n).mp q)),if_neg h2]
 by_cases h3:30≤m.1.length
 ·rw [if_pos (by rw [l1]; simp; omega),if_pos h3]
 rw [if_neg (by rw [l1]; simp; omega),if_neg h3,if_pos ⟨by omega,by omega⟩]
 congr 1
 have q1:dput (hsOf m).1 n r=(m.1++[(n,r,d)]).map fun c=>(c.1,c.2.1):=dput_out (fun c:CpM=>c.2.1) (c:=(n,r,d)) h2
 have q2:dput (hsOf m).2.1 n d=(m.1++[(n,r,d)]).map fun c=>(c.1,c.2.2):=dput_out (fun c:CpM=>c.2.2) (c:=(n,r,d)) h2
 rw [q1,q2]; rfl
theorem htake_ok(m:Md)(n:List Nat):f_House_take (hsOf m) n=if n∈nms m then .ok (hsOf (m.1.filter fun c=>!decide (c.1=n),m.2)) else .exc 6:=by
 unfold f_House_take fTake fLook
 by_cases h2:n∈nms m
 ·rw [if_pos ((hf1 m n).mpr h2),bind_ok,if_pos ((hf2 m n).mpr h2),if_pos h2]
  congr 1
  have q1:ddel (hsOf m).1 n=_:=ddel_map (fun c:CpM=>c.2.1) n m.1
  have q2:ddel (hsOf m).2.1 n=_:=ddel_map (fun c:CpM=>c.2.2) n m.1
  rw [q1,q2]; rfl
 ·rw [if_neg (fun q=>h2 ((hf1 m n).mp q)),if_neg h2]; rfl
noncomputable def dnR(h:Hs)(r:Res Hs):Res (Option (List Nat)×Hs):=noExc ((tryC [(6,true),(8,true),(7,true)] (r.bind fun s=>Res.ok ((s,(none:Option (List Nat))))) (fun (ce:Nat)=>(((f_law_kind_v1 ((PV.exo (ce+2) []))).bind fun x110=>Res.ok (some x110)).bind fun (s111:Option (List Nat))=>Res.ok ((h,s111))))).bind fun s56=>Res.ok (s56.2,s56.1))
theorem isN(d:Option Int):((opIsN (kO kI d)).bind fzv).bind (fun x=>tvB x) = .ok d.isNone:=by cases d <;> rfl
theorem done_put(h:Hs)(n:List Nat)(r:List (List Nat))(d:Option Int):f_law_done h (kDd (.put n r d))=dnR h (f_House_put h n r d):=by
 unfold f_law_done
 have e0:ixV (tv .fz kV (kDd (.put n r d))) (tv .fz kI (0:Int)).2 = .ok (.fz,kS [112,117,116]):=rfl
 have e1:ixV (tv .fz kV (kDd (.put n r d))) (tv .fz kI (1:Int)).2 = .ok (.fz,kS n):=rfl
 have e2:(ixV (tv .fz kV (kDd (.put n r d))) (tv .fz kI (2:Int)).2).bind decTSt = .ok r:=strsP_kS r
 have e3:ixV (tv .fz kV (kDd (.put n r d))) (tv .fz kI (3:Int)).2 = .ok (.fz,kO kI d):=rfl
 rw [e0,e1,e2,e3]
 simp only [bind_ok]
 rw [eqS,isN,bind_ok,if_pos (by decide),show decS (.fz,kS n) = .ok n from rfl,decOI_k]
 simp only [bind_ok]
 cases d with
 | none=>rw [if_pos (by decide)]; rfl
 | some i =>
  rw [if_neg (by simp),show decI (.fz,kO kI (some i)) = .ok i from rfl]
  simp only [bind_ok]
  rw [if_pos (show decide True=true by decide),bind_ok]
  rw [if_pos (show decide True=true by decide)]
  unfold dnR
  cases hd:decide (i % 2=0) with
  | true=>rw [if_pos rfl]
  | false=>rw [if_neg (by decide)]
theorem done_take(h:Hs)(n:List Nat):f_law_done h (kDd (.take n))=dnR h (f_House_take h n):=by
 unfold f_law_done
 have e0:ixV (tv .fz kV (kDd (.take n))) (tv .fz kI (0:Int)).2 = .ok (.fz,kS [116,97,107,101]):=rfl
 have e1:ixV (tv .fz kV (kDd (.take n))) (tv .fz kI (1:Int)).2 = .ok (.fz,kS n):=rfl
 rw [e0,e1]
 simp only [bind_ok]
 rw [eqS,bind_ok,if_neg (by decide),bind_ok,if_neg (by decide),bind_ok,if_neg (by decide),bind_ok,if_neg (by decide),bind_ok,if_neg (by decide),eqS,bind_ok,if_pos (by decide),show decS (.fz,kS n) = .ok n from rfl,bind_ok]
 rfl
theorem done_prices(h:Hs)(q:List Int):f_law_done h (kDd (.prices q))=dnR h (f_House_set_prices h q):=by
 unfold f_law_done
 have e0:ixV (tv .fz kV (kDd (.prices q))) (tv .fz kI (0:Int)).2 = .ok (.fz,kS [112,114,105,99,101,115]):=rfl
 have e1:(ixV (tv .fz kV (kDd (.prices q))) (tv .fz kI (1:Int)).2).bind decTIn = .ok q:=intsQ_kI q
 rw [e0,e1]
 simp only [bind_ok]
 rw [eqS,bind_ok,if_neg (by decide),bind_ok,if_neg (by decide),bind_ok,if_neg (by decide),bind_ok,if_neg (by decide),bind_ok,if_neg (by decide),eqS,bind_ok,if_neg (by decide),eqS,bind_ok,if_pos (by decide)]
 rfl
theorem done_fresh(h:Hs)(i:Int):f_law_done h (kDd (.fresh i))=dnR h (f_House_set_fresh h i):=by
 unfold f_law_done
 have e0:ixV (tv .fz kV (kDd (.fresh i))) (tv .fz kI (0:Int)).2 = .ok (.fz,kS [102,114,101,115,104]):=rfl
 have e1:(ixV (tv .fz kV (kDd (.fresh i))) (tv .fz kI (1:Int)).2).bind decI = .ok i:=rfl
 rw [e0,e1]
 simp only [bind_ok]
 rw [eqS,bind_ok,if_neg (by decide),bind_ok,if_neg (by decide),bind_ok,if_neg (by decide),bind_ok,if_neg (by decide),bind_ok,if_neg (by decide),eqS,bind_ok,if_neg (by decide),eqS,bind_ok,if_neg (by decide)]
 rfl
theorem kind6:f_law_kind_v1 (.exo 8 []) = .ok wNm:=by rfl
theorem kind7:f_law_kind_v1 (.exo 9 []) = .ok wTw:=by rfl
theorem kind8:f_law_kind_v1 (.exo 10 []) = .ok wMn:=by rfl
theorem dn6(h:Hs):dnR h (.exc 6) = .ok (some wNm,h):=by
 show noExc (Res.bind (match ((f_law_kind_v1 (PV.exo 8 [])).bind fun x110=>Res.ok (some x110)).bind fun (s111:Option (List Nat))=>Res.ok ((h,s111)) with
  | .exc _=>.bad
  | r=>r) _)=_
 rw [kind6]; rfl
theorem dn7(h:Hs):dnR h (.exc 7) = .ok (some wTw,h):=by
 show noExc (Res.bind (match ((f_law_kind_v1 (PV.exo 9 [])).bind fun x110=>Res.ok (some x110)).bind fun (s111:Option (List Nat))=>Res.ok ((h,s111)) with
  | .exc _=>.bad
  | r=>r) _)=_
 rw [kind7]; rfl
theorem dn8(h:Hs):dnR h (.exc 8) = .ok (some wMn,h):=by
 show noExc (Res.bind (match ((f_law_kind_v1 (PV.exo 10 [])).bind fun x110=>Res.ok (some x110)).bind fun (s111:Option (List Nat))=>Res.ok ((h,s111)) with
  | .exc _=>.bad
  | r=>r) _)=_
 rw [kind8]; rfl
theorem done_ok{m:Md}(H:In m):∀ d:Dd,f_law_done (hsOf m) (kDd d) = .ok ((dueA m d).1,hsOf (dueA m d).2):=by
 intro d
 cases d with
 | put n r d =>
  rw [done_put,hput_ok H]
  simp only [dueA]
  split
  ·exact dn6 _
  split
  ·exact dn7 _
  split
  ·exact dn8 _
  rfl
 | take n =>
  rw [done_take,htake_ok]
  simp only [dueA]
  split
  ·rfl
  ·exact dn6 _
 | prices q=>rw [done_prices]; rfl
 | fresh i=>rw [done_fresh]; rfl
end Vm
end
section
set_option linter.all false
set_option maxHeartbeats 1000000
set_option maxRecDepth 10000
namespace Vm
def gd:Nat→PV→Prop
 | 0,_=>False
 | n+1,.tup l=>l.length≤100000∧∀ p∈l,gd n p
 | n+1,.int _=>True
 | n+1,.str _=>True
 | n+1,.non=>True
 | n+1,_=>False
theorem same_refl:∀ (n:Nat) (p:PV),gd n p→d_law_alike_v2 n [p,p] = .ok (.fz,.bl true)
 | 0,p,h=>h.elim
 | n+1,.int i,_=>by simp [d_law_alike_v2,runFn,kindIs]
 | n+1,.str w,_=>by simp [d_law_alike_v2,runFn,kindIs]
 | n+1,.non,_=>by simp [d_law_alike_v2,runFn,kindIs]
 | n+1,.bl _,h=>h.elim
 | n+1,.lst _,h=>h.elim
 | n+1,.dic _ _,h=>h.elim
 | n+1,.exo _ _,h=>h.elim
 | n+1,.tup l,⟨h0,h⟩=>by
  have key:forL (Pat.v 2) [2]
    (dIf (xNot (xVal (eCall (d_law_alike_v2 n) (eCons (eIdx (eVar 0) (eVar 2)) (eCons (eIdx (eVar 1) (eVar 2)) eNil))))) (dRet (eC (PV.bl false))) dNil)
    ((rngL 0 (l.length:Int)).map fun p=>(Tg.fz,p)) [some (Tg.fz,PV.tup l),some (Tg.fz,PV.tup l),none] = .nx [some (Tg.fz,PV.tup l),some (Tg.fz,PV.tup l),none]:=by
   rw [rng0_eq']
   exact forL_same _ _ (fun k hk=>by
    have hk:k < l.length:=by simpa using hk
    have hv:=vAt_int (xs:=l) (i:=(k:Int)) (by omega) (by omega)
    simp only [Int.toNat_natCast] at hv
    have ih:=same_refl n l[k] (h _ (List.getElem_mem _))
    simp [hv,ih])
  have hr:rngOk (l.length:Int)=true:=rngOk_of (by omega) (by omega)
  simp [d_law_alike_v2,runFn,kindIs,hr,-List.map_map]
  rw [key]
theorem same_ok{p:PV}(h:gd 8 p):f_law_alike_v2 8 p p = .ok true:=by
 unfold f_law_alike_v2
 simp only [kV]
 rw [same_refl 8 p h]; rfl
theorem gd_row{l:List (List Nat)}(hl:l.length≤100000):gd 8 (kT kS l):=⟨by rw [List.length_map]; exact hl,fun q hq=>by
 obtain ⟨w,_,rfl⟩:=List.mem_map.mp hq; exact trivial⟩
theorem gd_ints{l:List Int}(hl:l.length≤100000):gd 8 (kT kI l):=⟨by rw [List.length_map]; exact hl,fun q hq=>by
 obtain ⟨w,_,rfl⟩:=List.mem_map.mp hq; exact trivial⟩
end Vm
end
section
set_option linter.all false
set_option maxHeartbeats 2000000
set_option maxRecDepth 10000
namespace Vm
theorem neS(a b:List Nat):((opNe (kS a) (kS b)).bind fzv).bind (fun x=>tvB x) = .ok (!decide (a=b)):=by
 have e2:(opNe (kS a) (kS b)).bind fzv = .ok (.fz,.bl (!decide (a=b))):=rNe (Γ:=[]) (a:=eC (kS a)) (b:=eC (kS b)) (rV .fz kS a) (rV .fz kS b)
 rw [e2]; rfl
theorem names_h{m:Md}(H:In m):fNames (hsOf m) = .ok (nms m):=by
 have:=H.l
 unfold fNames hsOf
 rw [if_pos (by simp; omega)]
 simp only [List.map_map]
 rfl
def wNo':List Nat:=[110,111,32,110,97,109,101]
theorem of_out{m:Md}{n:List Nat}(hn:n ∉ nms m)(b:Bool):f_law_of (hsOf m) n b = .ok (kS wNo'):=by
 have hl:fLook (hsOf m) n = .exc 6:=by
  unfold fLook
  rw [if_neg (fun q=>hn ((hf1 m n).mp q))]
 have hr:fRow (hsOf m) n = .exc 6:=by unfold fRow; rw [hl]; rfl
 have hd:fDay (hsOf m) n = .exc 6:=by unfold fDay; rw [hl]; rfl
 unfold f_law_of
 rw [hr,hd]
 cases b <;> rfl
theorem dfind_at{β:Type}(f:CpM→β){a b:List CpM}{c:CpM}(h:∀ z∈a,z.1 ≠ c.1):dfind ((a++c :: b).map fun c=>(c.1,f c)) c.1=some (f c):=by
 induction a with
 | nil =>
  unfold dfind
  rw [List.nil_append,List.map_cons,List.find?_cons_of_pos (by simp)]; rfl
 | cons z a ih =>
  have:=ih fun y hy=>h y (by simp [hy])
  unfold dfind at this ⊢
  rw [List.cons_append,List.map_cons,List.find?_cons_of_neg (by
   simp only [decide_eq_true_eq]
   exact h z (by simp))]
  exact this
theorem of_in{m:Md}(H:In m){c:CpM}{a b:List CpM}(A:At m c a b):f_law_of (hsOf m) c.1 false = .ok (kT kS c.2.1)∧f_law_of (hsOf m) c.1 true = .ok (kO kI c.2.2):=by
 have hz:∀ z∈a,z.1 ≠ c.1:=fun z hz=>by
  have hd:=H.nd
  unfold nms at hd
  rw [A.e,List.map_append,List.map_cons] at hd
  exact (List.nodup_append.mp hd).2.2 z.1 (List.mem_map_of_mem (f:=fun c:CpM=>c.1) hz) c.1 (by simp)
 have f1:dfind (hsOf m).1 c.1=some c.2.1:=by
  have:=dfind_at (fun c:CpM=>c.2.1) (b:=b) hz
  rw [← A.e] at this; exact this
 have f2:dfind (hsOf m).2.1 c.1=some c.2.2:=by
  have:=dfind_at (fun c:CpM=>c.2.2) (b:=b) hz
  rw [← A.e] at this; exact this
 have hr:fRow (hsOf m) c.1 = .ok c.2.1:=by unfold fRow fLook dixR; rw [f1]; rfl
 have hd:fDay (hsOf m) c.1 = .ok c.2.2:=by unfold fDay fLook dixR; rw [f1,f2]; rfl
 constructor
 ·unfold f_law_of; rw [hr]; rfl
 ·unfold f_law_of; rw [hd]; rfl
theorem seen_ok{m:Md}(H:In m)(n:List Nat):f_law_seen (hsOf m) m n = .ok true:=by
 have ml:=H.l
 have mp:=H.p
 have nl:(nms m).length=m.1.length:=by unfold nms; rw [List.length_map]
 unfold f_law_seen
 rw [names_m H,bind_ok,names_h H]
 simp only [bind_ok]
 rw [same_ok (gd_row (l:=nms m) (by omega)),bind_ok,bind_ok,if_neg (by decide)]
 have hp:(hsOf m).2.2=m.2:=rfl
 rw [hp,same_ok (gd_ints (l:=m.2.1) (by omega)),bind_ok,bind_ok,if_neg (by decide),same_ok (p:=kI m.2.2) trivial,bind_ok,bind_ok,if_neg (by decide)]
 have hc:(cutL (nms m) (some (-1)) none).length≤30:=by
  unfold cutL
  rw [List.length_take,List.length_drop]
  omega
 rw [catR_ok (by simp; omega),bind_ok,forT_all]
 ·rfl
 intro x hx
 by_cases hin:x∈nms m
 ·obtain ⟨c,a,b,e,A⟩:=at_of H hin
  subst e
  obtain ⟨o1,o2⟩:=of_in H A
  rw [o1,o2]
  simp only [bind_ok]
  rw [memB_iff.mpr hin,if_neg (by decide),A.ix,bind_ok]
  have hi:ixR m.1 (a.length:Int) = .ok c:=by
   unfold ixR
   rw [A.e,vAt_nat (x:=c) (by simp)]
  have hr:=H.r c (by rw [A.e]; simp)
  rw [hi,bind_ok,same_ok (gd_row (by omega)),bind_ok,bind_ok,if_neg (by decide),same_ok (p:=kO kI c.2.2) (by cases c.2.2 <;> exact trivial),bind_ok,bind_ok,if_neg (by decide)]
 ·rw [of_out hin,of_out hin]
  simp only [bind_ok]
  have h2':memB x (nms m)=false:=by
   cases q:memB x (nms m) with
   | false=>rfl
   | true=>exact absurd (memB_iff.mp q) hin
  rw [h2',if_pos (by decide)]
  rw [show kS wNo'=kV (kS wNo') from rfl]
  have e1:((opNe (tv Tg.fz kV (kS wNo')).2 (tv Tg.fz kS [110,111,32,110,97,109,101]).2).bind fzv).bind (fun x=>tvB x) = .ok false:=by
   refine (neS wNo' [110,111,32,110,97,109,101]).trans ?_
   rfl
  rw [show kV (kS wNo')=kS wNo' from rfl,e1,bind_ok,if_neg (by decide),bind_ok,if_neg (by decide)]
end Vm
end
section
set_option linter.all false
set_option maxHeartbeats 2000000
set_option maxRecDepth 10000
namespace Vm
theorem name_ok(c:Int):∃ n,f_law_name c = .ok n:=by
 unfold f_law_name
 by_cases e:decide (c % 11=1)=true
 ·rw [if_pos e]
  have m0:=Int.emod_nonneg (c / 11) (show (8:Int) ≠ 0 by decide)
  have m1:=Int.emod_lt_of_pos (c / 11) (show (0:Int) < 8 by decide)
  rw [ixR_gt m0 (by show _ < (8:Int); exact m1),bind_ok]
  exact ⟨_,rfl⟩
 ·rw [if_neg e]
  obtain ⟨w,w1,w2⟩:=Rw.word_ok (c / 11 % 36)
  exact ⟨w,by rw [w2]; rfl⟩
theorem cutk_len{cells:List Int}{k:Int}(h0:0≤k)(h1:k < cells.length):1≤(cutL cells (some k) (some (k+8))).length∧(cutL cells (some k) (some (k+8))).length≤8:=by
 unfold cutL
 rw [vSix_nat h0,vSix_nat (by omega),List.length_take,List.length_drop]
 omega
theorem deed_ok{cells:List Int}{k:Int}(h0:0≤k)(h1:k < cells.length):∃ d:Dd,okD d∧f_law_deed cells k = .ok (kDd d):=by
 unfold f_law_deed
 obtain ⟨l1,l2⟩:=cutk_len h0 h1
 have l3:1≤(cutL cells none (some 8)).length∧(cutL cells none (some 8)).length≤8:=by
  rw [cut_take (by decide),List.length_take]
  have:(8:Int).toNat=8:=rfl
  omega
 rw [ixR_gt h0 h1,bind_ok,catR_ok (by omega),bind_ok]
 generalize gt cells k=s1
 have l4:2≤(cutL cells (some k) (some (k+8))++cutL cells none (some 8)).length∧(cutL cells (some k) (some (k+8))++cutL cells none (some 8)).length≤16:=by rw [List.length_append]; omega
 generalize cutL cells (some k) (some (k+8))++cutL cells none (some 8)=s2 at l4 ⊢
 have m0:=Int.emod_nonneg s1 (show (7:Int) ≠ 0 by decide)
 have m1:=Int.emod_lt_of_pos s1 (show (0:Int) < 7 by decide)
 rw [ixR_gt m0 (by show _ < (7:Int); exact m1),bind_ok]
 obtain ⟨n,en⟩:=name_ok (s1 / 7)
 rw [en,bind_ok]
 generalize gt ([[112,117,116],[112,117,116],[116,97,107,101],[112,117,116],[112,114,105,99,101,115],[102,114,101,115,104],[116,97,107,101]]:List (List Nat)) (s1 % 7)=kd
 by_cases k1:kd=[112,117,116]
 ·rw [if_pos (by simpa using k1)]
  have hday:∃ d:Option Int,(if decide ((0:Int) < (s1 / (7:Int)) % (3:Int)) then ((((ixR s2 ((1:Int))).bind fun x14=>modR x14 (((10 ^ 9:Int))+((1:Int)))).bind fun x15=>Res.ok (some x15)).bind fun (s16:Option (Int))=>Res.ok s16) else (Res.ok (none:Option Int))) = .ok d:=by
   by_cases e:decide ((0:Int) < (s1 / (7:Int)) % (3:Int))=true
   ·rw [if_pos e,ixR_gt (by decide) (by omega),bind_ok,modR_ok (by decide)]
    exact ⟨some _,rfl⟩
   ·rw [if_neg e]
    exact ⟨none,rfl⟩
  obtain ⟨d,ed⟩:=hday
  simp only [ed,bind_ok]
  have b0:=Int.emod_nonneg (s1 / 21) (show (6:Int) ≠ 0 by decide)
  have b1:=Int.emod_lt_of_pos (s1 / 21) (show (0:Int) < 6 by decide)
  have hl:(cutL s2 none (some (s1 / 21 % 6))).length≤5:=by
   rw [cut_take b0,List.length_take]; omega
  obtain ⟨ws,w1,w2,w3⟩:=Rw.row_ok (cutL s2 none (some (s1 / 21 % 6))) (by omega)
  rw [w1]
  exact ⟨.put n ws d,(show ws.length≤1000 by omega),rfl⟩
 rw [if_neg (by simpa using k1)]
 by_cases k2:kd=[116,97,107,101]
 ·rw [if_pos (by simpa using k2)]
  exact ⟨.take n,trivial,rfl⟩
 rw [if_neg (by simpa using k2)]
 by_cases k3:kd=[112,114,105,99,101,115]
 ·rw [if_pos (by simpa using k3)]
  have hm:=Rk.maps (f:=fun (z45:Int)=>(((modR z45 ((s2.length:Int))).bind fun x46=>ixR s2 x46).bind fun x47=>fdivR x47 (z45+((1:Int)))).bind fun x48=>modR x48 (((10 ^ 30:Int))+((1:Int)))) (l:=rngN 7) (fun x=>True) (fun z hz=>by
   have hz':0≤z∧z < 7:=by
    have:∀ z∈rngN 7,0≤z∧z < 7:=by decide
    exact this z hz
   have a0:=Int.emod_nonneg z (show (s2.length:Int) ≠ 0 by omega)
   have a1:=Int.emod_lt_of_pos z (show (0:Int) < s2.length by omega)
   rw [modR_ok (by omega),bind_ok,ixR_gt a0 a1,bind_ok,fdivR_ok (by omega) (by omega),bind_ok,modR_ok (by decide)]
   exact ⟨_,rfl,trivial⟩) (by decide)
  obtain ⟨ys,y1,y2,y3⟩:=hm
  rw [rngR_int (n:=(7:Int)) (by decide) (by decide),show (7:Int).toNat=7 from rfl,bind_ok,y1,bind_ok,bind_ok,bind_ok]
  have y2:ys.length=7:=y2
  exact ⟨.prices ys,(show ys.length≤1000 by omega),rfl⟩
 rw [if_neg (by simpa using k3),modR_ok (by decide)]
 exact ⟨.fresh (s1 / 7 % (10 ^ 30+1)),trivial,rfl⟩
theorem cell_ok(script:List Int){i:Int}(h:0≤i):∃ c,f_law_cell script i = .ok c:=by
 unfold f_law_cell
 by_cases e:decide (i < (script.length:Int))=true
 ·rw [if_pos e]
  have:i < (script.length:Int):=of_decide_eq_true e
  rw [ixR_gt h this]
  exact ⟨_,rfl⟩
 ·rw [if_neg e]; exact ⟨0,rfl⟩
theorem first_ok(script:List Int):∃ ds:List Dd,ds.length≤28∧(∀ d∈ds,okD d)∧((((f_law_cell script ((0:Int))).bind fun x19=>Res.ok (x19 % (6:Int))).bind fun x20=>Res.ok (decide (x20=(1:Int)))).bind fun b165=>if b165 then (((rngR ((28:Int))).bind fun x101=>(noExc (mapR (fun (z82:Int)=>((((((f_law_cell script ((0:Int))).bind fun x90=>Res.ok (x90 / (6:Int))).bind fun x91=>Res.ok (x91 % (9:Int))).bind fun x92=>Res.ok (z82+x92)).bind fun x94=>f_law_word x94).bind fun x99=>Res.ok (((([112,117,116]:List Nat),x99,([]:List (PV)),()):((List Nat)×(List Nat)×(List (PV))×Unit)))).bind fun x100=>Res.ok ((kP4 kS kS (kT kV) kN) x100)) x101)).bind szR).bind fun (s102:List (PV))=>Res.ok s102) else (Res.ok ([]:List PV))) = .ok (ds.map kDd):=by
 obtain ⟨c,hc⟩:=cell_ok script (i:=0) (by decide)
 rw [hc]
 simp only [bind_ok]
 by_cases e:decide (c % 6=1)=true
 ·rw [if_pos e,rngR_int (n:=(28:Int)) (by decide) (by decide),show (28:Int).toNat=28 from rfl,bind_ok]
  have hm:=Rk.maps (f:=fun (z82:Int)=>((f_law_word (z82+c / 6 % 9)).bind fun x99=>Res.ok (((([112,117,116]:List Nat),x99,([]:List (PV)),()):((List Nat)×(List Nat)×(List (PV))×Unit)))).bind fun x100=>Res.ok ((kP4 kS kS (kT kV) kN) x100)) (l:=rngN 28) (fun p=>∃ d:Dd,okD d∧p=kDd d) (fun z _=>by
   obtain ⟨w,_,w2⟩:=Rw.word_ok (z+c / 6 % 9)
   rw [w2]
   exact ⟨_,rfl,.put w [] none,(show ([]:List (List Nat)).length≤1000 by decide),rfl⟩) (by decide)
  obtain ⟨ys,y1,y2,y3⟩:=hm
  have y2:ys.length=28:=y2
  have:∀ ys:List PV,(∀ p∈ys,∃ d:Dd,okD d∧p=kDd d)→∃ ds:List Dd,ds.length=ys.length∧(∀ d∈ds,okD d)∧ys=ds.map kDd:=by
   intro ys
   induction ys with
   | nil=>exact fun _=>⟨[],rfl,fun _ h=>(nomatch h),rfl⟩
   | cons p ys ih =>
    intro h
    obtain ⟨d,d1,d2⟩:=h p (by simp)
    obtain ⟨ds,e1,e2,e3⟩:=ih fun q hq=>h q (by simp [hq])
    exact ⟨d :: ds,by simp [e1],fun x hx=>(List.mem_cons.mp hx).elim (fun e=>e ▸ d1) (e2 x),by rw [d2,e3]; rfl⟩
  obtain ⟨ds,d1,d2,d3⟩:=this ys y3
  exact ⟨ds,by omega,d2,by rw [y1,d3]; rfl⟩
 ·rw [if_neg e]
  exact ⟨[],by simp,fun _ h=>(nomatch h),rfl⟩
theorem ixR_some{α:Type}{l:List α}{k:Int}(h0:0≤k)(h1:k < l.length):∃ p,l[k.toNat]? = some p∧ixR l k = .ok p:=by
 obtain ⟨n,rfl⟩:=Int.eq_ofNat_of_zero_le h0
 have hn:n < l.length:=by omega
 refine ⟨l[n],?_,?_⟩
 ·rw [Int.toNat_natCast]; exact List.getElem?_eq_getElem hn
 ·unfold ixR
  rw [vAt_nat (List.getElem?_eq_getElem hn)]
noncomputable def F(v_script s103:List Int)(s61:List PV):Hs×Md→Int→Res (Ctl (Hs×Md) Bool):=fun (s104:((Hs)×(Md))) (x105:Int)=>((catR s61 (([(kP2 kS kS) (((([116,97,107,101]:List Nat),([]:List Nat)):((List Nat)×List Nat)))]:List (PV)))).bind fun x114=>ixR x114 (if ((s61.length:Int)) < x105 then ((s61.length:Int)) else x105)).bind fun (s115:PV)=>(if decide ((s61.length:Int)≤x105) then ((f_law_deed s103 (x105 - ((s61.length:Int)))).bind fun (s123:PV)=>Res.ok s123) else (Res.ok s115)).bind fun s119=>(f_law_due_v9 s104.2 s119).bind fun (s125:(Option (List Nat))×Md)=>(f_law_done s104.1 s119).bind fun (s127:(Option (List Nat))×Hs)=>(if !decide (s127.1=s125.1) then Res.ok true else if s125.1.isNone then Res.ok (s127.1.isSome) else Res.ok false).bind fun b152=>if b152 then (Res.ok ((Ctl.rt false))) else ((if decide ((s61.length:Int)≤x105) then ((((f_law_cell v_script ((1:Int))).bind fun x142=>Res.ok (x142+x105)).bind fun x144=>f_law_name x144).bind fun x148=>f_law_seen s127.2 s125.2 x148).bind fun x149=>Res.ok (!x149) else Res.ok false).bind fun b151=>if b151 then (Res.ok ((Ctl.rt false))) else (Res.ok (Ctl.nx ((s127.2,s125.2)))))
theorem F_ok{script cells:List Int}{ds:List Dd}(hl:ds.length≤28)(hd:∀ d∈ds,okD d){k:Int}(h0:0≤k)(h1:k < ds.length+cells.length){m:Md}(H:In m):∃ m',F script cells (ds.map kDd) (hsOf m,m) k = .ok (.nx (hsOf m',m'))∧In m':=by
 unfold F
 have hx:∃ p,ixR (ds.map kDd++[(kP2 kS kS) (([116,97,107,101]:List Nat),([]:List Nat))]) (if (((ds.map kDd).length:Int)) < k then (((ds.map kDd).length:Int)) else k) = .ok p∧(k < ds.length→∃ d,okD d∧p=kDd d):=by
  rw [List.length_map]
  by_cases e:(ds.length:Int) < k
  ·rw [if_pos e]
   obtain ⟨p,_,q⟩:=ixR_some (l:=ds.map kDd++[(kP2 kS kS) (([116,97,107,101]:List Nat),([]:List Nat))]) (k:=(ds.length:Int)) (by omega) (by simp; omega)
   exact ⟨p,q,fun h=>by omega⟩
  ·rw [if_neg e]
   obtain ⟨p,p1,q⟩:=ixR_some (l:=ds.map kDd++[(kP2 kS kS) (([116,97,107,101]:List Nat),([]:List Nat))]) (k:=k) h0 (by simp; omega)
   refine ⟨p,q,fun h=>?_⟩
   have hk:k.toNat < ds.length:=by omega
   rw [List.getElem?_append_left (by rw [List.length_map]; exact hk),List.getElem?_map,List.getElem?_eq_getElem hk] at p1
   exact ⟨ds[k.toNat],hd _ (List.getElem_mem hk),(Option.some.inj p1).symm⟩
 obtain ⟨p,hp1,hp2⟩:=hx
 rw [catR_ok (by simp; omega),bind_ok,hp1,bind_ok]
 have hdd:∃ d:Dd,okD d∧(if decide (((ds.map kDd).length:Int)≤k) then ((f_law_deed cells (k - (((ds.map kDd).length:Int)))).bind fun (s123:PV)=>Res.ok s123) else (Res.ok p)) = .ok (kDd d):=by
  rw [List.length_map]
  by_cases e:(ds.length:Int)≤k
  ·rw [if_pos (by simpa using e)]
   obtain ⟨d,d1,d2⟩:=deed_ok (cells:=cells) (k:=k - ds.length) (by omega) (by omega)
   exact ⟨d,d1,by rw [d2]; rfl⟩
  ·rw [if_neg (by simpa using e)]
   obtain ⟨d,d1,d2⟩:=hp2 (by omega)
   exact ⟨d,d1,by rw [d2]⟩
 obtain ⟨d,d1,d2⟩:=hdd
 rw [d2,bind_ok,due_ok H,bind_ok,done_ok H,bind_ok]
 have H':=H.due d1
 have et:(if (!decide ((dueA m d).1=(dueA m d).1))=true then Res.ok true else if (dueA m d).1.isNone then Res.ok ((dueA m d).1.isSome) else Res.ok false)=Res.ok false:=by
  rw [decide_eq_true rfl,if_neg (by decide)]
  cases (dueA m d).1 <;> rfl
 generalize hb:dueA m d=z at et H' ⊢
 obtain ⟨o,m'⟩:=z
 show ∃ m',((if (!decide (o=o))=true then Res.ok true else if o.isNone then Res.ok (o.isSome) else Res.ok false).bind _)=_∧_
 rw [show (if (!decide (o=o))=true then Res.ok true else if o.isNone then Res.ok (o.isSome) else Res.ok false)=Res.ok false from et,bind_ok,if_neg (by decide)]
 obtain ⟨c,hc⟩:=cell_ok script (i:=1) (by decide)
 obtain ⟨n,hn⟩:=name_ok (c+k)
 have H':In m':=H'
 refine ⟨m',?_,H'⟩
 rw [hc,bind_ok,bind_ok,hn,bind_ok,seen_ok H',bind_ok]
 cases decide (((ds.map kDd).length:Int)≤k) <;> rfl
def md0:Md:=([],[1,2,2,2,1,1,3],100)
theorem in0:In md0:=⟨(by decide:([]:List (List Nat)).Nodup),by decide,fun _ h=>(nomatch h),by decide⟩
theorem m_law(ns:List Int)(hl:ns.length≤63)(hb:∀ z∈ns,z.natAbs.log2≤1048576):f_law_v66 ns = .ok true:=by
 obtain ⟨ds,d1,d2,d3⟩:=first_ok ns
 unfold f_law_v66
 simp only []
 rw [d3,bind_ok]
 have hc:(cutL ns (some ((2:Int))) (some ((122:Int)))).length≤120:=by
  unfold cutL
  rw [vSix_nat (by decide),vSix_nat (by decide),List.length_take]
  have a:(2:Int).toNat=2:=rfl
  have b:(122:Int).toNat=122:=rfl
  omega
 generalize cutL ns (some ((2:Int))) (some ((122:Int)))=cells at hc ⊢
 have hr:rngR (((ds.map kDd).length:Int)+(cells.length:Int)) = .ok (rngN (ds.length+cells.length)):=by
  rw [List.length_map,show (ds.length:Int)+(cells.length:Int)=((ds.length+cells.length:Nat):Int) by omega]
  exact rngR_nat (by omega)
 rw [hr,bind_ok]
 obtain ⟨s',e,_⟩:=forT_inv (F:=F ns cells (ds.map kDd)) (fun _ st=>st.1=hsOf st.2∧In st.2) (rngN (ds.length+cells.length)) (hs0,md0) ⟨rfl,in0⟩ (fun i x st hx hi=>by
  have hx':=mem_rngN.mp (List.mem_of_getElem? hx)
  obtain ⟨a,b⟩:=st
  obtain ⟨h1,h2⟩:=hi
  have h1:a=hsOf b:=h1
  subst h1
  obtain ⟨m',g1,g2⟩:=F_ok (script:=ns) (cells:=cells) d1 d2 (k:=x) (by omega) (by omega) h2
  exact ⟨(hsOf m',m'),g1,rfl,g2⟩)
 have hs:f_law_seen hs0 md0 [97] = .ok true:=seen_ok in0 [97]
 show ((forT (ρ:=Bool) (F ns cells (ds.map kDd)) _ (hs0,md0)).bind fun c164=>c164.then (fun (r163:Bool)=>Res.ok r163) fun (s154:((Hs)×(Md)))=>(f_law_seen hs0 md0 [97]).bind fun x162=>Res.ok (x162))=_
 rw [e,bind_ok]
 show (f_law_seen hs0 md0 [97]).bind _=_
 rw [hs]; rfl
end Vm
end
section
set_option Elab.async false
set_option linter.all false
set_option maxRecDepth 100000
set_option maxHeartbeats 4000000
namespace Vm
theorem t_is_word(v_text:List Nat):RefG (tv .fz kB) (d_is_word [kS v_text]) (f_is_word v_text) :=
 (tFn (gIfD (xO (xV (rEq (rLenS (rV .fz kS v_text)) (rV .fz kI (0:Int)))) (xV (rGt (rLenS (rV .fz kS v_text)) (rV .fz kI (12:Int))))) (gRetS (rV .fz kB false) (fun (r1:Bool)=>gOk (s:=r1) (.inl ⟨_,rfl⟩)) trivial) (gNil (gRet (rAll (rLM (iSeqS (rV .fz kS v_text)) (fun (z4:List Nat)=>⟨_,rfl,rInS (rV .fz kS z4) (rV .fz kS ([97,98,99,100,101,102,103,104,105,106,107,108,109,110,111,112,113,114,115,116,117,118,119,120,121,122]:List Nat))⟩))) (fun (r6:Bool)=>gOk (s:=r6) (.inl ⟨_,rfl⟩)) trivial)) trivial):RefG (tv .fz kB) (d_is_word [kS v_text]) _)
theorem t_law_cell(v_script:List (Int))(v_k:Int):RefG (tv .fz kI) (d_law_cell [(kL kI) v_script,kI v_k]) (f_law_cell v_script v_k) :=
 (tFn (gIfD (xV (rLt (rV .fz kI v_k) (rLenL (rV .fz (kL kI) v_script)))) (gRetS (rIxL (rV .fz (kL kI) v_script) (rV .fz kI v_k)) (fun (r1:Int)=>gOk (s:=r1) (.inl ⟨_,rfl⟩)) trivial) (gNil (gRet (rV .fz kI (0:Int)) (fun (r3:Int)=>gOk (s:=r3) (.inl ⟨_,rfl⟩)) trivial)) trivial):RefG (tv .fz kI) (d_law_cell [(kL kI) v_script,kI v_k]) _)
theorem t_law_word(v_cell:Int):RefG (tv .fz kS) (d_law_word [kI v_cell]) (f_law_word v_cell) :=
 (tFn (gPrim (u':=fun (s1:Int)=>[some (.fz,kI v_cell),some (.fz,kI s1),none,none]) (pSet 1 (rFdivC (rV .fz kI v_cell)) trivial) (fun (s1:Int)=>gPrim (u':=fun (s2:List (List Nat))=>[some (.fz,kI v_cell),some (.fz,kI s1),some (.ow 1,(kL kS) s2),none]) (pSetO 2 (rV (.ow 1) (kL kS) ([]:List (List Nat))) trivial) (fun (s2:List (List Nat))=>gPrim (u':=fun (s9:((Int)×(List (List Nat))))=>[some (.fz,kI v_cell),some (.fz,kI s9.1),some (.ow 1,(kL kS) s9.2),none]) (pFor (fun (s3:((Int)×(List (List Nat))))=>[some (.fz,kI v_cell),some (.fz,kI s3.1),some (.ow 1,(kL kS) s3.2),none]) ((s1,s2)) (iRng (rAddI (rV .fz kI (1:Int)) (rModC (rV .fz kI v_cell)))) rfl (fun (s3:((Int)×(List (List Nat)))) (x4:Int)=>⟨_,rfl,gPrim (u':=fun (s6:List (List Nat))=>[some (.fz,kI v_cell),some (.fz,kI s3.1),some (.ow 1,(kL kS) s6),some (.fz,kI x4)]) (pApp 2 (l:=s3.2) (rIxS (rV .fz kS ([97,98,99,100,101,102,103,104,105,106,107,108,109,110,111,112,113,114,115,116,117,118,119,120,121,122]:List Nat)) (rModC (rV .fz kI s3.1))) trivial rfl) (fun (s6:List (List Nat))=>gPrim1 (pSet 1 (rFdivC (rV .fz kI s3.1)) trivial) (fun (s7:Int)=>gOk (s:=(s7,s6)) ⟨_,.inl rfl,rfl⟩))⟩) trivial) (fun (s9:((Int)×(List (List Nat))))=>gRet (rJoinL (rV .fz kS ([]:List Nat)) (rV (.bw 1) (kL kS) s9.2)) (fun (r10:List Nat)=>gOk (s:=r10) (.inl ⟨_,rfl⟩)) trivial)))):RefG (tv .fz kS) (d_law_word [kI v_cell]) _)
theorem t_law_other(v_word:List Nat)(v_place:Int)(v_step:Int):RefG (tv .fz kS) (d_law_other [kS v_word,kI v_place,kI v_step]) (f_law_other v_word v_place v_step) :=
 (tFn (gPrim (u':=fun (s1:Int)=>[some (.fz,kS v_word),some (.fz,kI v_place),some (.fz,kI v_step),some (.fz,kI s1),none,none]) (pSet 3 (rMod (rV .fz kI v_place) (rLenS (rV .fz kS v_word))) trivial) (fun (s1:Int)=>gPrim (u':=fun (s2:List Nat)=>[some (.fz,kS v_word),some (.fz,kI v_place),some (.fz,kI v_step),some (.fz,kI s1),some (.fz,kS s2),none]) (pSet 4 (rV .fz kS ([97,98,99,100,101,102,103,104,105,106,107,108,109,110,111,112,113,114,115,116,117,118,119,120,121,122]:List Nat)) trivial) (fun (s2:List Nat)=>gPrim (u':=fun (s8:List Nat)=>[some (.fz,kS v_word),some (.fz,kI v_place),some (.fz,kI v_step),some (.fz,kI s1),some (.fz,kS s2),some (.fz,kS s8)]) (pSet 5 (rIxS (rV .fz kS s2) (rModC (rAddI (rAddI (rIndexS (rV .fz kS s2) (rIxS (rV .fz kS v_word) (rV .fz kI s1))) (rV .fz kI (1:Int))) (rModC (rV .fz kI v_step))))) trivial) (fun (s8:List Nat)=>gRet (rAddS (rAddS (rSlS (rV .fz kS v_word) (oN) (oS (rV .fz kI s1))) (rV .fz kS s8)) (rSlS (rV .fz kS v_word) (oS (rAddI (rV .fz kI s1) (rV .fz kI (1:Int)))) (oN))) (fun (r11:List Nat)=>gOk (s:=r11) (.inl ⟨_,rfl⟩)) trivial)))):RefG (tv .fz kS) (d_law_other [kS v_word,kI v_place,kI v_step]) _)
theorem t_law_row(v_cells:List (Int)):RefG (tv (.ow 1) (kL kS)) (d_law_row [(kL kI) v_cells]) (f_law_row v_cells) :=
 (tFn (gPrim (u':=fun (s1:List (List Nat))=>[some (.fz,(kL kI) v_cells),some (.ow 1,(kL kS) s1),none,none,none]) (pSetO 1 (rV (.ow 1) (kL kS) ([]:List (List Nat))) trivial) (fun (s1:List (List Nat))=>gPrim (u':=fun (s33:((List (List Nat))))=>[some (.fz,(kL kI) v_cells),some (.ow 1,(kL kS) s33),none,none,none]) (pFor (fun (s2:((List (List Nat))))=>[some (.fz,(kL kI) v_cells),some (.ow 1,(kL kS) s2),none,none,none]) s1 (iSeqL (rV .fz (kL kI) v_cells)) rfl (fun (s2:((List (List Nat)))) (x3:Int)=>⟨_,rfl,gPrim (u':=fun (s4:Int)=>[some (.fz,(kL kI) v_cells),some (.ow 1,(kL kS) s2),some (.fz,kI x3),some (.fz,kI s4),none]) (pSet 3 (rModC (rV .fz kI x3)) trivial) (fun (s4:Int)=>gPrim (u':=fun (s6:List Nat)=>[some (.fz,(kL kI) v_cells),some (.ow 1,(kL kS) s2),some (.fz,kI x3),some (.fz,kI s4),some (.fz,kS s6)]) (pSet 4 (argsC (rFdivC (rV .fz kI x3)) (fun (y5:Int)=>argsN (rCallB [kI y5] (t_law_word y5)))) trivial) (fun (s6:List Nat)=>gPrim (u':=fun (s8:((List Nat)))=>[some (.fz,(kL kI) v_cells),some (.ow 1,(kL kS) s2),some (.fz,kI x3),some (.fz,kI s4),some (.fz,kS s8)]) (gIf (β:=((List Nat))) (Post:=NxP (fun (s8:((List Nat))) Γ'=>Γ'=[some (.fz,(kL kI) v_cells),some (.ow 1,(kL kS) s2),some (.fz,kI x3),some (.fz,kI s4),some (.fz,kS s8)])) (xA (xV (rEq (rV .fz kI s4) (rV .fz kI (1:Int)))) (xV (rGt (rLenL (rV (.bw 1) (kL kS) s2)) (rV .fz kI (0:Int))))) (gPrim1 (pSet 4 (rIxL (rV (.bw 1) (kL kS) s2) (rNeg (rV .fz kI (1:Int)))) trivial) (fun (s10:List Nat)=>gOk (s:=s10) ⟨_,rfl,rfl⟩)) (gNil1 (gOk (s:=s6) ⟨_,rfl,rfl⟩)) trivial) (fun s8=>gPrim (u':=fun (s16:((List Nat)))=>[some (.fz,(kL kI) v_cells),some (.ow 1,(kL kS) s2),some (.fz,kI x3),some (.fz,kI s4),some (.fz,kS s16)]) (gIf (β:=((List Nat))) (Post:=NxP (fun (s16:((List Nat))) Γ'=>Γ'=[some (.fz,(kL kI) v_cells),some (.ow 1,(kL kS) s2),some (.fz,kI x3),some (.fz,kI s4),some (.fz,kS s16)])) (xA (xV (rEq (rV .fz kI s4) (rV .fz kI (2:Int)))) (xV (rGt (rLenL (rV (.bw 1) (kL kS) s2)) (rV .fz kI (0:Int))))) (gPrim1 (pSet 4 (argsC (rIxL (rV (.bw 1) (kL kS) s2) (rNeg (rV .fz kI (1:Int)))) (fun (y18:List Nat)=>argsC (rFdivC (rV .fz kI x3)) (fun (y19:Int)=>argsC (rFdivC (rV .fz kI x3)) (fun (y20:Int)=>argsN (rCallB [kS y18,kI y19,kI y20] (t_law_other y18 y19 y20)))))) trivial) (fun (s22:List Nat)=>gOk (s:=s22) ⟨_,rfl,rfl⟩)) (gNil1 (gOk (s:=s8) ⟨_,rfl,rfl⟩)) trivial) (fun s16=>gPrim (u':=fun (s25:((List Nat)))=>[some (.fz,(kL kI) v_cells),some (.ow 1,(kL kS) s2),some (.fz,kI x3),some (.fz,kI s4),some (.fz,kS s25)]) (gIf (β:=((List Nat))) (Post:=NxP (fun (s25:((List Nat))) Γ'=>Γ'=[some (.fz,(kL kI) v_cells),some (.ow 1,(kL kS) s2),some (.fz,kI x3),some (.fz,kI s4),some (.fz,kS s25)])) (xA (xV (rEq (rV .fz kI s4) (rV .fz kI (3:Int)))) (xV (rGt (rLenL (rV (.bw 1) (kL kS) s2)) (rV .fz kI (0:Int))))) (gPrim1 (pSet 4 (rIxL (rV (.bw 1) (kL kS) s2) (rMod (rFdivC (rV .fz kI x3)) (rLenL (rV (.bw 1) (kL kS) s2)))) trivial) (fun (s28:List Nat)=>gOk (s:=s28) ⟨_,rfl,rfl⟩)) (gNil1 (gOk (s:=s16) ⟨_,rfl,rfl⟩)) trivial) (fun s25=>gPrim1 (pApp 1 (l:=s2) (rV .fz kS s25) trivial rfl) (fun (s29:List (List Nat))=>gOk (s:=s29) ⟨_,.inl rfl,rfl⟩))))))⟩) trivial) (fun (s33:((List (List Nat))))=>gRetV 1 rfl (gOk (s:=s33) (.inl ⟨_,rfl⟩))))):RefG (tv (.ow 1) (kL kS)) (d_law_row [(kL kI) v_cells]) _)
theorem t_law_alike_v2(n:Nat)(v_found:PV)(v_due:PV):RefG (tv .fz kB) (d_law_alike_v2 n [kV v_found,kV v_due]) (f_law_alike_v2 n v_found v_due):=RefG.asB
theorem t_law_name(v_cell:Int):RefG (tv .fz kS) (d_law_name [kI v_cell]) (f_law_name v_cell) :=
 (tFn (gIfD (xV (rEq (rModC (rV .fz kI v_cell)) (rV .fz kI (1:Int)))) (gRetS (rIxL (rV (.ow 1) (kL kS) ([([]:List Nat),([65,98]:List Nat),([97,32,98]:List Nat),([97,49]:List Nat),([97,98,99,100,101,102,103,104,105,106,107,108,109]:List Nat),([97,58]:List Nat),([45]:List Nat),([97,10]:List Nat)]:List (List Nat))) (rModC (rFdivC (rV .fz kI v_cell)))) (fun (r1:List Nat)=>gOk (s:=r1) (.inl ⟨_,rfl⟩)) trivial) (gNil (gRet (argsC (rModC (rFdivC (rV .fz kI v_cell))) (fun (y4:Int)=>argsN (rCallB [kI y4] (t_law_word y4)))) (fun (r5:List Nat)=>gOk (s:=r5) (.inl ⟨_,rfl⟩)) trivial)) trivial):RefG (tv .fz kS) (d_law_name [kI v_cell]) _)
theorem t_law_kind_v1(v_error:PV):RefG (tv .fz kS) (d_law_kind_v1 [kV v_error]) (f_law_kind_v1 v_error) :=
 (tFn (gPrim (u':=fun (s7:List (Bool))=>[some (.fz,kV v_error),some (.fz,(kL kB) s7)]) (pSet 1 (argsC (rIsE (rV .fz kV v_error)) (fun (y1:Bool)=>argsC (rIsE (rV .fz kV v_error)) (fun (y2:Bool)=>argsC (rIsE (rV .fz kV v_error)) (fun (y3:Bool)=>argsE (tv (.ow 1) (kL kB)) ([y1,y2,y3]:List (Bool)) rfl)))) trivial) (fun (s7:List (Bool))=>gIfD (xO (xV (rIsEs (rV .fz kV v_error))) (xV (rNe (rCount (rV .fz (kL kB) s7) (rV .fz kB true)) (rV .fz kI (1:Int))))) (gRetS (rV .fz kS ([111,116,104,101,114]:List Nat)) (fun (r9:List Nat)=>gOk (s:=r9) (.inl ⟨_,rfl⟩)) trivial) (gNil (gRet (rIxL (argsC (rV .fz kS ([110,97,109,101]:List Nat)) (fun (y14:List Nat)=>argsC (rV .fz kS ([116,119,105,99,101]:List Nat)) (fun (y15:List Nat)=>argsC (rV .fz kS ([109,97,110,121]:List Nat)) (fun (y16:List Nat)=>argsE (tv (.ow 1) (kL kS)) ([y14,y15,y16]:List (List Nat)) rfl)))) (rIndexQL (rV .fz (kL kB) s7) (rV .fz kB true))) (fun (r18:List Nat)=>gOk (s:=r18) (.inl ⟨_,rfl⟩)) trivial)) trivial)):RefG (tv .fz kS) (d_law_kind_v1 [kV v_error]) _)
theorem t_House_put(h:Hs)(n:List Nat)(r:List (List Nat))(d:Option Int):RefG (fun h':Hs=>(PV.non,[kH h',kS n,kT kS r,kO kI d])) (d_House_put [kH h,kS n,kT kS r,kO kI d]) (f_House_put h n r d):=tPut (w:=d_is_word) (fw:=f_is_word) (fun n=>t_is_word n) h n r d
theorem t_House_take(h:Hs)(n:List Nat):RefG (fun h':Hs=>(PV.non,[kH h',kS n])) (d_House_take [kH h,kS n]) (f_House_take h n):=tTake h n
theorem t_House_set_prices(h:Hs)(p:List Int):RefG (fun h':Hs=>(PV.non,[kH h',kT kI p])) (d_House_set_prices [kH h,kT kI p]) (f_House_set_prices h p):=tSetP h p
theorem t_House_set_fresh(h:Hs)(p:Int):RefG (fun h':Hs=>(PV.non,[kH h',kI p])) (d_House_set_fresh [kH h,kI p]) (f_House_set_fresh h p):=tSetF h p
theorem t_law_done(v_house:Hs)(v_deed:PV):RefG (fun (r:(Option (List Nat))×Hs)=>((kO kS) r.1,[kH r.2,kV v_deed])) (d_law_done [kH v_house,kV v_deed]) (f_law_done v_house v_deed):=by
 have h:=(tFnX (gPrim (u':=fun (s1:Option (List Nat))=>[some (.ow 2,kH v_house),some (.fz,kV v_deed),some (.fz,(kO kS) s1),none]) (pSet 2 (RefG.co (f':=tv .fz (kO kS)) (c:=some) (rV .fz kS ([110,111,110,101]:List Nat)) (fun _=>rfl)) trivial) (fun (s1:Option (List Nat))=>gPrim (u':=fun (s56:((Hs)×(Option (List Nat))))=>[some (.ow 2,kH s56.1),some (.fz,kV v_deed),some (.fz,(kO kS) s56.2),none]) (gTryT (σ:=((Hs)×(Option (List Nat)))) (P:=(fun (s56:((Hs)×(Option (List Nat)))) Γ'=>Γ'=[some (.ow 2,kH s56.1),some (.fz,kV v_deed),some (.fz,(kO kS) s56.2),none])) (gIf (xA (xVD (rOp2D (rIxD (RefG.co (f':=id) (c:=(tv .fz kV)) (rV .fz kV v_deed) (fun _=>rfl)) (RefG.co (f':=id) (c:=(tv .fz kI)) (rV .fz kI (0:Int)) (fun _=>rfl))) (RefG.co (f':=id) (c:=(tv .fz kS)) (rV .fz kS ([112,117,116]:List Nat)) (fun _=>rfl)))) (xVD (rOp1D (rIxD (RefG.co (f':=id) (c:=(tv .fz kV)) (rV .fz kV v_deed) (fun _=>rfl)) (RefG.co (f':=id) (c:=(tv .fz kI)) (rV .fz kI (3:Int)) (fun _=>rfl)))))) (gPrim1 (pSetX (u:=fun (z:Hs)=>[some (.ow 2,kH z),some (.fz,kV v_deed),some (.fz,(kO kS) ((none:Option (List Nat)))),none]) 2 rfl (xaC (rDecS (rIxD (RefG.co (f':=id) (c:=(tv .fz kV)) (rV .fz kV v_deed) (fun _=>rfl)) (RefG.co (f':=id) (c:=(tv .fz kI)) (rV .fz kI (1:Int)) (fun _=>rfl)))) (fun (y63:List Nat)=>xaC (rDecTSt (rIxD (RefG.co (f':=id) (c:=(tv .fz kV)) (rV .fz kV v_deed) (fun _=>rfl)) (RefG.co (f':=id) (c:=(tv .fz kI)) (rV .fz kI (2:Int)) (fun _=>rfl)))) (fun (y64:List (List Nat))=>xaN (xEndS 2 rfl (t_House_put v_house y63 y64 none) (fun _=>rfl) rfl)) rfl) rfl)) (fun (s67:Hs)=>gOk (s:=(s67,(none:Option (List Nat)))) ⟨_,rfl,rfl⟩)) (gIf (xA (xVD (rOp2D (rIxD (RefG.co (f':=id) (c:=(tv .fz kV)) (rV .fz kV v_deed) (fun _=>rfl)) (RefG.co (f':=id) (c:=(tv .fz kI)) (rV .fz kI (0:Int)) (fun _=>rfl))) (RefG.co (f':=id) (c:=(tv .fz kS)) (rV .fz kS ([112,117,116]:List Nat)) (fun _=>rfl)))) (xV (rEq (rModC (rDecI (rIxD (RefG.co (f':=id) (c:=(tv .fz kV)) (rV .fz kV v_deed) (fun _=>rfl)) (RefG.co (f':=id) (c:=(tv .fz kI)) (rV .fz kI (3:Int)) (fun _=>rfl))))) (rV .fz kI (0:Int))))) (gPrim1 (pSetX (u:=fun (z:Hs)=>[some (.ow 2,kH z),some (.fz,kV v_deed),some (.fz,(kO kS) ((none:Option (List Nat)))),none]) 2 rfl (xaC (rDecS (rIxD (RefG.co (f':=id) (c:=(tv .fz kV)) (rV .fz kV v_deed) (fun _=>rfl)) (RefG.co (f':=id) (c:=(tv .fz kI)) (rV .fz kI (1:Int)) (fun _=>rfl)))) (fun (y74:List Nat)=>xaC (rDecTSt (rIxD (RefG.co (f':=id) (c:=(tv .fz kV)) (rV .fz kV v_deed) (fun _=>rfl)) (RefG.co (f':=id) (c:=(tv .fz kI)) (rV .fz kI (2:Int)) (fun _=>rfl)))) (fun (y75:List (List Nat))=>xaC (rDecOI (rIxD (RefG.co (f':=id) (c:=(tv .fz kV)) (rV .fz kV v_deed) (fun _=>rfl)) (RefG.co (f':=id) (c:=(tv .fz kI)) (rV .fz kI (3:Int)) (fun _=>rfl)))) (fun (y76:Option (Int))=>xaN (xEndS 2 rfl (t_House_put v_house y74 y75 y76) (fun _=>rfl) rfl)) rfl) rfl) rfl)) (fun (s80:Hs)=>gOk (s:=(s80,(none:Option (List Nat)))) ⟨_,rfl,rfl⟩)) (gIf (xVD (rOp2D (rIxD (RefG.co (f':=id) (c:=(tv .fz kV)) (rV .fz kV v_deed) (fun _=>rfl)) (RefG.co (f':=id) (c:=(tv .fz kI)) (rV .fz kI (0:Int)) (fun _=>rfl))) (RefG.co (f':=id) (c:=(tv .fz kS)) (rV .fz kS ([112,117,116]:List Nat)) (fun _=>rfl)))) (gPrim1 (pSetX (u:=fun (z:Hs)=>[some (.ow 2,kH z),some (.fz,kV v_deed),some (.fz,(kO kS) ((none:Option (List Nat)))),none]) 2 rfl (xaC (rDecS (rIxD (RefG.co (f':=id) (c:=(tv .fz kV)) (rV .fz kV v_deed) (fun _=>rfl)) (RefG.co (f':=id) (c:=(tv .fz kI)) (rV .fz kI (1:Int)) (fun _=>rfl)))) (fun (y83:List Nat)=>xaC (rDecTSt (rIxD (RefG.co (f':=id) (c:=(tv .fz kV)) (rV .fz kV v_deed) (fun _=>rfl)) (RefG.co (f':=id) (c:=(tv .fz kI)) (rV .fz kI (2:Int)) (fun _=>rfl)))) (fun (y84:List (List Nat))=>xaC (rDecOI (rIxD (RefG.co (f':=id) (c:=(tv .fz kV)) (rV .fz kV v_deed) (fun _=>rfl)) (RefG.co (f':=id) (c:=(tv .fz kI)) (rV .fz kI (3:Int)) (fun _=>rfl)))) (fun (y85:Option (Int))=>xaN (xEndS 2 rfl (t_House_put v_house y83 y84 y85) (fun _=>rfl) rfl)) rfl) rfl) rfl)) (fun (s89:Hs)=>gOk (s:=(s89,(none:Option (List Nat)))) ⟨_,rfl,rfl⟩)) (gIf (xVD (rOp2D (rIxD (RefG.co (f':=id) (c:=(tv .fz kV)) (rV .fz kV v_deed) (fun _=>rfl)) (RefG.co (f':=id) (c:=(tv .fz kI)) (rV .fz kI (0:Int)) (fun _=>rfl))) (RefG.co (f':=id) (c:=(tv .fz kS)) (rV .fz kS ([116,97,107,101]:List Nat)) (fun _=>rfl)))) (gPrim1 (pSetX (u:=fun (z:Hs)=>[some (.ow 2,kH z),some (.fz,kV v_deed),some (.fz,(kO kS) ((none:Option (List Nat)))),none]) 2 rfl (xaC (rDecS (rIxD (RefG.co (f':=id) (c:=(tv .fz kV)) (rV .fz kV v_deed) (fun _=>rfl)) (RefG.co (f':=id) (c:=(tv .fz kI)) (rV .fz kI (1:Int)) (fun _=>rfl)))) (fun (y92:List Nat)=>xaN (xEndS 2 rfl (t_House_take v_house y92) (fun _=>rfl) rfl)) rfl)) (fun (s94:Hs)=>gOk (s:=(s94,(none:Option (List Nat)))) ⟨_,rfl,rfl⟩)) (gIf (xVD (rOp2D (rIxD (RefG.co (f':=id) (c:=(tv .fz kV)) (rV .fz kV v_deed) (fun _=>rfl)) (RefG.co (f':=id) (c:=(tv .fz kI)) (rV .fz kI (0:Int)) (fun _=>rfl))) (RefG.co (f':=id) (c:=(tv .fz kS)) (rV .fz kS ([112,114,105,99,101,115]:List Nat)) (fun _=>rfl)))) (gPrim1 (pSetX (u:=fun (z:Hs)=>[some (.ow 2,kH z),some (.fz,kV v_deed),some (.fz,(kO kS) ((none:Option (List Nat)))),none]) 2 rfl (xaC (rDecTIn (rIxD (RefG.co (f':=id) (c:=(tv .fz kV)) (rV .fz kV v_deed) (fun _=>rfl)) (RefG.co (f':=id) (c:=(tv .fz kI)) (rV .fz kI (1:Int)) (fun _=>rfl)))) (fun (y97:List (Int))=>xaN (xEndS 2 rfl (t_House_set_prices v_house y97) (fun _=>rfl) rfl)) rfl)) (fun (s99:Hs)=>gOk (s:=(s99,(none:Option (List Nat)))) ⟨_,rfl,rfl⟩)) (gPrim1 (pSetX (u:=fun (z:Hs)=>[some (.ow 2,kH z),some (.fz,kV v_deed),some (.fz,(kO kS) ((none:Option (List Nat)))),none]) 2 rfl (xaC (rDecI (rIxD (RefG.co (f':=id) (c:=(tv .fz kV)) (rV .fz kV v_deed) (fun _=>rfl)) (RefG.co (f':=id) (c:=(tv .fz kI)) (rV .fz kI (1:Int)) (fun _=>rfl)))) (fun (y100:Int)=>xaN (xEndS 2 rfl (t_House_set_fresh v_house y100) (fun _=>rfl) rfl)) rfl)) (fun (s102:Hs)=>gOk (s:=(s102,(none:Option (List Nat)))) ⟨_,rfl,rfl⟩)) rfl) rfl) rfl) rfl) rfl) (fun (ce:Nat)=>gPrim1 (pSet 2 (RefG.co (f':=tv .fz (kO kS)) (c:=some) (argsC (rV .fz kV ((PV.exo (ce+2) []))) (fun (y109:PV)=>argsN (rCallB [kV y109] (t_law_kind_v1 y109)))) (fun _=>rfl)) trivial) (fun (s111:Option (List Nat))=>gOk (s:=(v_house,s111)) ⟨_,rfl,rfl⟩)) trivial) (fun s56=>gRetFp (x:=s56.2) (rV .fz (kO kS) s56.2) (gOk (s:=(s56.2,s56.1)) ⟨_,.inl rfl,rfl⟩)))):RefG (fun (r:(Option (List Nat))×Hs)=>((kO kS) r.1,[kH r.2,kV v_deed])) (d_law_done [kH v_house,kV v_deed]) _)
 refine cast (congrArg (RefG _ _) ?_) h
 unfold f_law_done
 first | done | rfl | (simp only [bind_okN,map_okN]; done) | (simp only [bind_okN,map_okN]; rfl)
theorem t_law_is_name(v_name:List Nat):RefG (tv .fz kB) (d_law_is_name [kS v_name]) (f_law_is_name v_name) :=
 (tFn (gRet (rAnd (rChain (f:=fun x y=>decide (x≤y)) (g:=fun x y=>decide (x≤y)) opLe_i opLe_i (rV .fz kI (1:Int)) (rLenS (rV .fz kS v_name)) (rV .fz kI (12:Int))) (rAll (rLM (iSeqS (rV .fz kS v_name)) (fun (z4:List Nat)=>⟨_,rfl,rInS (rV .fz kS z4) (rV .fz kS ([97,98,99,100,101,102,103,104,105,106,107,108,109,110,111,112,113,114,115,116,117,118,119,120,121,122]:List Nat))⟩)))) (fun (r7:Bool)=>gOk (s:=r7) (.inl ⟨_,rfl⟩)) trivial):RefG (tv .fz kB) (d_law_is_name [kS v_name]) _)
theorem t_law_due_v9(v_state:Md)(v_deed:PV):RefG (fun (r:(Option (List Nat))×Md)=>((kO kS) r.1,[kMs r.2,kV v_deed])) (d_law_due_v9 [kMs v_state,kV v_deed]) (f_law_due_v9 v_state v_deed):=by
 have h:=(tFnX (gPrim (u':=fun (s2:List (List Nat))=>[some (.ow 2,kMs v_state),some (.fz,kV v_deed),some (.fz,(kL kS) s2),none]) (pSet 2 (rLM (iSeqB (rS0 (rV (.bw 2) kMs v_state))) (fun (z1:((List Nat)×(List (List Nat))×Option (Int)))=>⟨_,rfl,rIxP (kb:=kS) (pr:=fun (z:((List Nat)×(List (List Nat))×Option (Int)))=>z.1) (rV .fz (kP3 kS (kT kS) (kO kI)) z1)⟩)) trivial) (fun (s2:List (List Nat))=>gIfD (xVD (rOp2D (rIxD (RefG.co (f':=id) (c:=(tv .fz kV)) (rV .fz kV v_deed) (fun _=>rfl)) (RefG.co (f':=id) (c:=(tv .fz kI)) (rV .fz kI (0:Int)) (fun _=>rfl))) (RefG.co (f':=id) (c:=(tv .fz kS)) (rV .fz kS ([112,117,116]:List Nat)) (fun _=>rfl)))) (gAssoc (gIfD (xN (xV (argsC (rDecS (rIxD (RefG.co (f':=id) (c:=(tv .fz kV)) (rV .fz kV v_deed) (fun _=>rfl)) (RefG.co (f':=id) (c:=(tv .fz kI)) (rV .fz kI (1:Int)) (fun _=>rfl)))) (fun (y5:List Nat)=>argsN (rCallB [kS y5] (t_law_is_name y5)))))) (gRetFpS (x:=some (([110,97,109,101]:List Nat))) (RefG.co (f':=tv .fz (kO kS)) (c:=some) (rV .fz kS ([110,97,109,101]:List Nat)) (fun _=>rfl)) (gOk (s:=(some (([110,97,109,101]:List Nat)),v_state)) ⟨_,.inl rfl,rfl⟩)) (gNil (gAssoc (gIfD (xVD (rOp2D (rIxD (RefG.co (f':=id) (c:=(tv .fz kV)) (rV .fz kV v_deed) (fun _=>rfl)) (RefG.co (f':=id) (c:=(tv .fz kI)) (rV .fz kI (1:Int)) (fun _=>rfl))) (RefG.co (f':=id) (c:=(tv .fz (kL kS))) (rV .fz (kL kS) s2) (fun _=>rfl)))) (gRetFpS (x:=some (([116,119,105,99,101]:List Nat))) (RefG.co (f':=tv .fz (kO kS)) (c:=some) (rV .fz kS ([116,119,105,99,101]:List Nat)) (fun _=>rfl)) (gOk (s:=(some (([116,119,105,99,101]:List Nat)),v_state)) ⟨_,.inl rfl,rfl⟩)) (gNil (gAssoc (gIfD (xV (rGe (rLenL (rV .fz (kL kS) s2)) (rV .fz kI (30:Int)))) (gRetFpS (x:=some (([109,97,110,121]:List Nat))) (RefG.co (f':=tv .fz (kO kS)) (c:=some) (rV .fz kS ([109,97,110,121]:List Nat)) (fun _=>rfl)) (gOk (s:=(some (([109,97,110,121]:List Nat)),v_state)) ⟨_,.inl rfl,rfl⟩)) (gNil (gPrim (u':=fun (s11:Md)=>[some (.ow 2,kMs s11),some (.fz,kV v_deed),some (.fz,(kL kS) s2),none]) (pDApp 0 (m:=v_state) (rDecCpy (RefG.bind (RefG.co (f':=id) (c:=(tv .fz kV)) (rV .fz kV v_deed) (fun _=>rfl)) fun _=>RefG.bind (oS (rV .fz kI (1:Int))) fun _=>RefG.bind (oN) fun _=>RefG.self)) trivial rfl) (fun (s11:Md)=>gIfD (xVD (rOp2D (rIxD (RefG.co (f':=id) (c:=(tv .fz kV)) (rV .fz kV v_deed) (fun _=>rfl)) (RefG.co (f':=id) (c:=(tv .fz kI)) (rV .fz kI (0:Int)) (fun _=>rfl))) (RefG.co (f':=id) (c:=(tv .fz kS)) (rV .fz kS ([116,97,107,101]:List Nat)) (fun _=>rfl)))) (gAssoc (gIfD (xVD (rOp2D (rIxD (RefG.co (f':=id) (c:=(tv .fz kV)) (rV .fz kV v_deed) (fun _=>rfl)) (RefG.co (f':=id) (c:=(tv .fz kI)) (rV .fz kI (1:Int)) (fun _=>rfl))) (RefG.co (f':=id) (c:=(tv .fz (kL kS))) (rV .fz (kL kS) s2) (fun _=>rfl)))) (gRetFpS (x:=some (([110,97,109,101]:List Nat))) (RefG.co (f':=tv .fz (kO kS)) (c:=some) (rV .fz kS ([110,97,109,101]:List Nat)) (fun _=>rfl)) (gOk (s:=(some (([110,97,109,101]:List Nat)),s11)) ⟨_,.inl rfl,rfl⟩)) (gNil (gPrim (u':=fun (s18:Md)=>[some (.ow 2,kMs s18),some (.fz,kV v_deed),some (.fz,(kL kS) s2),none]) (pDPopAt 0 (m:=s11) (rIndexQL (rV .fz (kL kS) s2) (rDecS (rIxD (RefG.co (f':=id) (c:=(tv .fz kV)) (rV .fz kV v_deed) (fun _=>rfl)) (RefG.co (f':=id) (c:=(tv .fz kI)) (rV .fz kI (1:Int)) (fun _=>rfl))))) trivial rfl) (fun (s18:Md)=>gPrim (u':=fun (s27:((Md)))=>[some (.ow 2,kMs s27),some (.fz,kV v_deed),some (.fz,(kL kS) s2),none]) (gIf (β:=((Md))) (Post:=NxP (fun (s27:((Md))) Γ'=>Γ'=[some (.ow 2,kMs s27),some (.fz,kV v_deed),some (.fz,(kL kS) s2),none])) (xO (xVD (rOp2D (rIxD (RefG.co (f':=id) (c:=(tv .fz kV)) (rV .fz kV v_deed) (fun _=>rfl)) (RefG.co (f':=id) (c:=(tv .fz kI)) (rV .fz kI (0:Int)) (fun _=>rfl))) (RefG.co (f':=id) (c:=(tv .fz kS)) (rV .fz kS ([112,114,105,99,101,115]:List Nat)) (fun _=>rfl)))) (xVD (rOp2D (rIxD (RefG.co (f':=id) (c:=(tv .fz kV)) (rV .fz kV v_deed) (fun _=>rfl)) (RefG.co (f':=id) (c:=(tv .fz kI)) (rV .fz kI (0:Int)) (fun _=>rfl))) (RefG.co (f':=id) (c:=(tv .fz kS)) (rV .fz kS ([102,114,101,115,104]:List Nat)) (fun _=>rfl))))) (gPrim1 (pDSet2 0 (m:=s18) (rIxD (RefG.co (f':=id) (c:=(tv .fz kV)) (rV .fz kV v_deed) (fun _=>rfl)) (RefG.co (f':=id) (c:=(tv .fz kI)) (rV .fz kI (1:Int)) (fun _=>rfl))) (rIxD (RefG.co (f':=id) (c:=(tv .fz kV)) (rV .fz kV v_deed) (fun _=>rfl)) (RefG.co (f':=id) (c:=(tv .fz kI)) (rV .fz kI (0:Int)) (fun _=>rfl))) trivial rfl) (fun (s31:Md)=>gOk (s:=s31) ⟨_,rfl,rfl⟩)) (gNil1 (gOk (s:=s18) ⟨_,rfl,rfl⟩)) trivial) (fun s27=>gRetFp (x:=none) (rV .fz (kO kS) none) (gOk (s:=(none,s27)) ⟨_,.inl rfl,rfl⟩))))) trivial)) (gNil (gPrim (u':=fun (s42:((Md)))=>[some (.ow 2,kMs s42),some (.fz,kV v_deed),some (.fz,(kL kS) s2),none]) (gIf (β:=((Md))) (Post:=NxP (fun (s42:((Md))) Γ'=>Γ'=[some (.ow 2,kMs s42),some (.fz,kV v_deed),some (.fz,(kL kS) s2),none])) (xO (xVD (rOp2D (rIxD (RefG.co (f':=id) (c:=(tv .fz kV)) (rV .fz kV v_deed) (fun _=>rfl)) (RefG.co (f':=id) (c:=(tv .fz kI)) (rV .fz kI (0:Int)) (fun _=>rfl))) (RefG.co (f':=id) (c:=(tv .fz kS)) (rV .fz kS ([112,114,105,99,101,115]:List Nat)) (fun _=>rfl)))) (xVD (rOp2D (rIxD (RefG.co (f':=id) (c:=(tv .fz kV)) (rV .fz kV v_deed) (fun _=>rfl)) (RefG.co (f':=id) (c:=(tv .fz kI)) (rV .fz kI (0:Int)) (fun _=>rfl))) (RefG.co (f':=id) (c:=(tv .fz kS)) (rV .fz kS ([102,114,101,115,104]:List Nat)) (fun _=>rfl))))) (gPrim1 (pDSet2 0 (m:=s11) (rIxD (RefG.co (f':=id) (c:=(tv .fz kV)) (rV .fz kV v_deed) (fun _=>rfl)) (RefG.co (f':=id) (c:=(tv .fz kI)) (rV .fz kI (1:Int)) (fun _=>rfl))) (rIxD (RefG.co (f':=id) (c:=(tv .fz kV)) (rV .fz kV v_deed) (fun _=>rfl)) (RefG.co (f':=id) (c:=(tv .fz kI)) (rV .fz kI (0:Int)) (fun _=>rfl))) trivial rfl) (fun (s46:Md)=>gOk (s:=s46) ⟨_,rfl,rfl⟩)) (gNil1 (gOk (s:=s11) ⟨_,rfl,rfl⟩)) trivial) (fun s42=>gRetFp (x:=none) (rV .fz (kO kS) none) (gOk (s:=(none,s42)) ⟨_,.inl rfl,rfl⟩)))) trivial))) trivial))) trivial))) trivial)) (gNil (gIfD (xVD (rOp2D (rIxD (RefG.co (f':=id) (c:=(tv .fz kV)) (rV .fz kV v_deed) (fun _=>rfl)) (RefG.co (f':=id) (c:=(tv .fz kI)) (rV .fz kI (0:Int)) (fun _=>rfl))) (RefG.co (f':=id) (c:=(tv .fz kS)) (rV .fz kS ([116,97,107,101]:List Nat)) (fun _=>rfl)))) (gAssoc (gIfD (xVD (rOp2D (rIxD (RefG.co (f':=id) (c:=(tv .fz kV)) (rV .fz kV v_deed) (fun _=>rfl)) (RefG.co (f':=id) (c:=(tv .fz kI)) (rV .fz kI (1:Int)) (fun _=>rfl))) (RefG.co (f':=id) (c:=(tv .fz (kL kS))) (rV .fz (kL kS) s2) (fun _=>rfl)))) (gRetFpS (x:=some (([110,97,109,101]:List Nat))) (RefG.co (f':=tv .fz (kO kS)) (c:=some) (rV .fz kS ([110,97,109,101]:List Nat)) (fun _=>rfl)) (gOk (s:=(some (([110,97,109,101]:List Nat)),v_state)) ⟨_,.inl rfl,rfl⟩)) (gNil (gPrim (u':=fun (s57:Md)=>[some (.ow 2,kMs s57),some (.fz,kV v_deed),some (.fz,(kL kS) s2),none]) (pDPopAt 0 (m:=v_state) (rIndexQL (rV .fz (kL kS) s2) (rDecS (rIxD (RefG.co (f':=id) (c:=(tv .fz kV)) (rV .fz kV v_deed) (fun _=>rfl)) (RefG.co (f':=id) (c:=(tv .fz kI)) (rV .fz kI (1:Int)) (fun _=>rfl))))) trivial rfl) (fun (s57:Md)=>gPrim (u':=fun (s66:((Md)))=>[some (.ow 2,kMs s66),some (.fz,kV v_deed),some (.fz,(kL kS) s2),none]) (gIf (β:=((Md))) (Post:=NxP (fun (s66:((Md))) Γ'=>Γ'=[some (.ow 2,kMs s66),some (.fz,kV v_deed),some (.fz,(kL kS) s2),none])) (xO (xVD (rOp2D (rIxD (RefG.co (f':=id) (c:=(tv .fz kV)) (rV .fz kV v_deed) (fun _=>rfl)) (RefG.co (f':=id) (c:=(tv .fz kI)) (rV .fz kI (0:Int)) (fun _=>rfl))) (RefG.co (f':=id) (c:=(tv .fz kS)) (rV .fz kS ([112,114,105,99,101,115]:List Nat)) (fun _=>rfl)))) (xVD (rOp2D (rIxD (RefG.co (f':=id) (c:=(tv .fz kV)) (rV .fz kV v_deed) (fun _=>rfl)) (RefG.co (f':=id) (c:=(tv .fz kI)) (rV .fz kI (0:Int)) (fun _=>rfl))) (RefG.co (f':=id) (c:=(tv .fz kS)) (rV .fz kS ([102,114,101,115,104]:List Nat)) (fun _=>rfl))))) (gPrim1 (pDSet2 0 (m:=s57) (rIxD (RefG.co (f':=id) (c:=(tv .fz kV)) (rV .fz kV v_deed) (fun _=>rfl)) (RefG.co (f':=id) (c:=(tv .fz kI)) (rV .fz kI (1:Int)) (fun _=>rfl))) (rIxD (RefG.co (f':=id) (c:=(tv .fz kV)) (rV .fz kV v_deed) (fun _=>rfl)) (RefG.co (f':=id) (c:=(tv .fz kI)) (rV .fz kI (0:Int)) (fun _=>rfl))) trivial rfl) (fun (s70:Md)=>gOk (s:=s70) ⟨_,rfl,rfl⟩)) (gNil1 (gOk (s:=s57) ⟨_,rfl,rfl⟩)) trivial) (fun s66=>gRetFp (x:=none) (rV .fz (kO kS) none) (gOk (s:=(none,s66)) ⟨_,.inl rfl,rfl⟩))))) trivial)) (gNil (gPrim (u':=fun (s81:((Md)))=>[some (.ow 2,kMs s81),some (.fz,kV v_deed),some (.fz,(kL kS) s2),none]) (gIf (β:=((Md))) (Post:=NxP (fun (s81:((Md))) Γ'=>Γ'=[some (.ow 2,kMs s81),some (.fz,kV v_deed),some (.fz,(kL kS) s2),none])) (xO (xVD (rOp2D (rIxD (RefG.co (f':=id) (c:=(tv .fz kV)) (rV .fz kV v_deed) (fun _=>rfl)) (RefG.co (f':=id) (c:=(tv .fz kI)) (rV .fz kI (0:Int)) (fun _=>rfl))) (RefG.co (f':=id) (c:=(tv .fz kS)) (rV .fz kS ([112,114,105,99,101,115]:List Nat)) (fun _=>rfl)))) (xVD (rOp2D (rIxD (RefG.co (f':=id) (c:=(tv .fz kV)) (rV .fz kV v_deed) (fun _=>rfl)) (RefG.co (f':=id) (c:=(tv .fz kI)) (rV .fz kI (0:Int)) (fun _=>rfl))) (RefG.co (f':=id) (c:=(tv .fz kS)) (rV .fz kS ([102,114,101,115,104]:List Nat)) (fun _=>rfl))))) (gPrim1 (pDSet2 0 (m:=v_state) (rIxD (RefG.co (f':=id) (c:=(tv .fz kV)) (rV .fz kV v_deed) (fun _=>rfl)) (RefG.co (f':=id) (c:=(tv .fz kI)) (rV .fz kI (1:Int)) (fun _=>rfl))) (rIxD (RefG.co (f':=id) (c:=(tv .fz kV)) (rV .fz kV v_deed) (fun _=>rfl)) (RefG.co (f':=id) (c:=(tv .fz kI)) (rV .fz kI (0:Int)) (fun _=>rfl))) trivial rfl) (fun (s85:Md)=>gOk (s:=s85) ⟨_,rfl,rfl⟩)) (gNil1 (gOk (s:=v_state) ⟨_,rfl,rfl⟩)) trivial) (fun s81=>gRetFp (x:=none) (rV .fz (kO kS) none) (gOk (s:=(none,s81)) ⟨_,.inl rfl,rfl⟩)))) trivial)) trivial)):RefG (fun (r:(Option (List Nat))×Md)=>((kO kS) r.1,[kMs r.2,kV v_deed])) (d_law_due_v9 [kMs v_state,kV v_deed]) _)
 refine cast (congrArg (RefG _ _) ?_) h
 unfold f_law_due_v9
 first | done | rfl | (simp only [bind_okN,map_okN]; done) | (simp only [bind_okN,map_okN]; rfl)
theorem t_law_deed(v_cells:List (Int))(v_k:Int):RefG (tv .fz kV) (d_law_deed [(kL kI) v_cells,kI v_k]) (f_law_deed v_cells v_k) :=
 (tFn (gPrim (u':=fun (s1:Int)=>[some (.fz,(kL kI) v_cells),some (.fz,kI v_k),some (.fz,kI s1),none,none,none,none,none]) (pSet 2 (rIxL (rV .fz (kL kI) v_cells) (rV .fz kI v_k)) trivial) (fun (s1:Int)=>gPrim (u':=fun (s2:List (Int))=>[some (.fz,(kL kI) v_cells),some (.fz,kI v_k),some (.fz,kI s1),some (.fz,(kL kI) s2),none,none,none,none]) (pSet 3 (rAddL (rSlL (rV .fz (kL kI) v_cells) (oS (rV .fz kI v_k)) (oS (rAddI (rV .fz kI v_k) (rV .fz kI (8:Int))))) (rSlL (rV .fz (kL kI) v_cells) (oN) (oS (rV .fz kI (8:Int))))) trivial) (fun (s2:List (Int))=>gPrim (u':=fun (s3:List Nat)=>[some (.fz,(kL kI) v_cells),some (.fz,kI v_k),some (.fz,kI s1),some (.fz,(kL kI) s2),some (.fz,kS s3),none,none,none]) (pSet 4 (rIxL (rV (.ow 1) (kL kS) ([([112,117,116]:List Nat),([112,117,116]:List Nat),([116,97,107,101]:List Nat),([112,117,116]:List Nat),([112,114,105,99,101,115]:List Nat),([102,114,101,115,104]:List Nat),([116,97,107,101]:List Nat)]:List (List Nat))) (rModC (rV .fz kI s1))) trivial) (fun (s3:List Nat)=>gPrim (u':=fun (s5:List Nat)=>[some (.fz,(kL kI) v_cells),some (.fz,kI v_k),some (.fz,kI s1),some (.fz,(kL kI) s2),some (.fz,kS s3),some (.fz,kS s5),none,none]) (pSet 5 (argsC (rFdivC (rV .fz kI s1)) (fun (y4:Int)=>argsN (rCallB [kI y4] (t_law_name y4)))) trivial) (fun (s5:List Nat)=>gIfD (xV (rEq (rV .fz kS s3) (rV .fz kS ([112,117,116]:List Nat)))) (gAssoc (gPrim (u':=fun (s6:Option (Int))=>[some (.fz,(kL kI) v_cells),some (.fz,kI v_k),some (.fz,kI s1),some (.fz,(kL kI) s2),some (.fz,kS s3),some (.fz,kS s5),some (.fz,(kO kI) s6),none]) (pSet 6 (rV .fz (kO kI) none) trivial) (fun (s6:Option (Int))=>gAssoc (gPrim (u':=fun (s11:((Option (Int))))=>[some (.fz,(kL kI) v_cells),some (.fz,kI v_k),some (.fz,kI s1),some (.fz,(kL kI) s2),some (.fz,kS s3),some (.fz,kS s5),some (.fz,(kO kI) s11),none]) (gIf (β:=((Option (Int)))) (Post:=NxP (fun (s11:((Option (Int)))) Γ'=>Γ'=[some (.fz,(kL kI) v_cells),some (.fz,kI v_k),some (.fz,kI s1),some (.fz,(kL kI) s2),some (.fz,kS s3),some (.fz,kS s5),some (.fz,(kO kI) s11),none])) (xV (rGt (rModC (rFdivC (rV .fz kI s1))) (rV .fz kI (0:Int)))) (gPrim1 (pSet 6 (RefG.co (f':=tv .fz (kO kI)) (c:=some) (rMod (rIxL (rV .fz (kL kI) s2) (rV .fz kI (1:Int))) (rAddI (rPowC 10 9) (rV .fz kI (1:Int)))) (fun _=>rfl)) trivial) (fun (s16:Option (Int))=>gOk (s:=s16) ⟨_,rfl,rfl⟩)) (gNil1 (gOk (s:=s6) ⟨_,rfl,rfl⟩)) trivial) (fun s11=>gRetS (RefG.co (f':=tv .fz kV) (c:=(kP4 kS kS (kT kS) (kO kI))) (argsC (rV .fz kS ([112,117,116]:List Nat)) (fun (y24:List Nat)=>argsC (rV .fz kS s5) (fun (y25:List Nat)=>argsC (rTupL (argsC (rSlL (rV .fz (kL kI) s2) (oN) (oS (rModC (rFdivC (rV .fz kI s1))))) (fun (y23:List (Int))=>argsN (rCallB [(kL kI) y23] (t_law_row y23))))) (fun (y26:List (List Nat))=>argsC (rV .fz (kO kI) s11) (fun (y27:Option (Int))=>argsE (tv .fz (kP4 kS kS (kT kS) (kO kI))) ((y24,y25,y26,y27):((List Nat)×(List Nat)×(List (List Nat))×Option (Int))) rfl))))) (fun _=>rfl)) (fun (r30:PV)=>gOk (s:=r30) (.inl ⟨_,rfl⟩)) trivial))))) (gNil (gIfD (xV (rEq (rV .fz kS s3) (rV .fz kS ([116,97,107,101]:List Nat)))) (gRetS (RefG.co (f':=tv .fz kV) (c:=(kP2 kS kS)) (argsC (rV .fz kS ([116,97,107,101]:List Nat)) (fun (y34:List Nat)=>argsC (rV .fz kS s5) (fun (y35:List Nat)=>argsE (tv .fz (kP2 kS kS)) ((y34,y35):((List Nat)×List Nat)) rfl))) (fun _=>rfl)) (fun (r36:PV)=>gOk (s:=r36) (.inl ⟨_,rfl⟩)) trivial) (gNil (gIfD (xV (rEq (rV .fz kS s3) (rV .fz kS ([112,114,105,99,101,115]:List Nat)))) (gRetS (RefG.co (f':=tv .fz kV) (c:=(kP2 kS (kT kI))) (argsC (rV .fz kS ([112,114,105,99,101,115]:List Nat)) (fun (y50:List Nat)=>argsC (rTupL (rLM (iRng (rV .fz kI (7:Int))) (fun (z45:Int)=>⟨_,rfl,rMod (rFdiv (rIxL (rV .fz (kL kI) s2) (rMod (rV .fz kI z45) (rLenL (rV .fz (kL kI) s2)))) (rAddI (rV .fz kI z45) (rV .fz kI (1:Int)))) (rAddI (rPowC 10 30) (rV .fz kI (1:Int)))⟩))) (fun (y51:List (Int))=>argsE (tv .fz (kP2 kS (kT kI))) ((y50,y51):((List Nat)×List (Int))) rfl))) (fun _=>rfl)) (fun (r54:PV)=>gOk (s:=r54) (.inl ⟨_,rfl⟩)) trivial) (gNil (gRet (RefG.co (f':=tv .fz kV) (c:=(kP2 kS kI)) (argsC (rV .fz kS ([102,114,101,115,104]:List Nat)) (fun (y59:List Nat)=>argsC (rMod (rFdivC (rV .fz kI s1)) (rAddI (rPowC 10 30) (rV .fz kI (1:Int)))) (fun (y60:Int)=>argsE (tv .fz (kP2 kS kI)) ((y59,y60):((List Nat)×Int)) rfl))) (fun _=>rfl)) (fun (r63:PV)=>gOk (s:=r63) (.inl ⟨_,rfl⟩)) trivial)) trivial)) trivial)) trivial))))):RefG (tv .fz kV) (d_law_deed [(kL kI) v_cells,kI v_k]) _)
theorem t_House_day_of(h:Hs)(n:List Nat):RefG (tv .fz (kO kI)) (d_House_day_of [kH h,kS n]) (fDay h n):=tDay h n
theorem t_House_row_of(h:Hs)(n:List Nat):RefG (tv .fz (kT kS)) (d_House_row_of [kH h,kS n]) (fRow h n):=tRow h n
theorem t_law_of(v_house:Hs)(v_name:List Nat)(v_moment:Bool):RefG (tv .fz kV) (d_law_of [kH v_house,kS v_name,kB v_moment]) (f_law_of v_house v_name v_moment) :=
 (tFn (gPrim (u':=fun (s1:PV)=>[some (.fz,kH v_house),some (.fz,kS v_name),some (.fz,kB v_moment),some (.fz,kV s1)]) (pSet 3 (RefG.co (f':=tv .fz kV) (c:=kN) (rV .fz kN ()) (fun _=>rfl)) trivial) (fun (s1:PV)=>gPrim (u':=fun (s11:((PV)))=>[some (.fz,kH v_house),some (.fz,kS v_name),some (.fz,kB v_moment),some (.fz,kV s11)]) (gTry (σ:=((PV))) (P:=(fun (s11:((PV))) Γ'=>Γ'=[some (.fz,kH v_house),some (.fz,kS v_name),some (.fz,kB v_moment),some (.fz,kV s11)])) (gIf (xV (rV .fz kB v_moment)) (gPrim1 (pSet 3 (RefG.co (f':=tv .fz kV) (c:=(kO kI)) (rMeth (h:=v_house) (rV .fz kH v_house) (argsC (rV .fz kH v_house) (fun (y13:Hs)=>argsC (rV .fz kS v_name) (fun (y14:List Nat)=>argsN (rCallS [kH y13,kS y14] (t_House_day_of y13 y14) st_fz))))) (fun _=>rfl)) rfl) (fun (s16:PV)=>gOk (s:=s16) ⟨_,rfl,rfl⟩)) (gPrim1 (pSet 3 (RefG.co (f':=tv .fz kV) (c:=(kT kS)) (rMeth (h:=v_house) (rV .fz kH v_house) (argsC (rV .fz kH v_house) (fun (y17:Hs)=>argsC (rV .fz kS v_name) (fun (y18:List Nat)=>argsN (rCallS [kH y17,kS y18] (t_House_row_of y17 y18) st_fz))))) (fun _=>rfl)) rfl) (fun (s20:PV)=>gOk (s:=s20) ⟨_,rfl,rfl⟩)) rfl) (gPrim1 (pSet 3 (RefG.co (f':=tv .fz kV) (c:=kS) (rV .fz kS ([110,111,32,110,97,109,101]:List Nat)) (fun _=>rfl)) trivial) (fun (s21:PV)=>gOk (s:=s21) ⟨_,rfl,rfl⟩)) trivial) (fun s11=>gRetV 3 rfl (gOk (s:=s11) (.inl ⟨_,rfl⟩))))):RefG (tv .fz kV) (d_law_of [kH v_house,kS v_name,kB v_moment]) _)
theorem t_House_fresh_price(h:Hs):RefG (tv .fz kI) (d_House_fresh_price [kH h]) (.ok h.2.2.2):=tFresh h
theorem t_House_names(h:Hs):RefG (tv .fz (kT kS)) (d_House_names [kH h]) (fNames h):=tNames h
theorem t_House_slip_prices(h:Hs):RefG (tv .fz (kT kI)) (d_House_slip_prices [kH h]) (.ok h.2.2.1):=tPrices h
theorem t_law_seen(v_house:Hs)(v_state:Md)(v_name:List Nat):RefG (tv .fz kB) (d_law_seen [kH v_house,kMs v_state,kS v_name]) (f_law_seen v_house v_state v_name) :=
 (tFn (gPrim (u':=fun (s2:List (List Nat))=>[some (.fz,kH v_house),some (.fz,kMs v_state),some (.fz,kS v_name),some (.fz,(kL kS) s2),none,none,none,none]) (pSet 3 (rLM (iSeqL (rS0 (rV .fz kMs v_state))) (fun (z1:((List Nat)×(List (List Nat))×Option (Int)))=>⟨_,rfl,rIxP (kb:=kS) (pr:=fun (z:((List Nat)×(List (List Nat))×Option (Int)))=>z.1) (rV .fz (kP3 kS (kT kS) (kO kI)) z1)⟩)) trivial) (fun (s2:List (List Nat))=>gIfD (xO (xN (xV (argsC (RefG.co (f':=tv .fz kV) (c:=(kT kS)) (rMeth (h:=v_house) (rV .fz kH v_house) (argsC (rV .fz kH v_house) (fun (y4:Hs)=>argsN (rCallS [kH y4] (t_House_names y4) st_fz)))) (fun _=>rfl)) (fun (y6:PV)=>argsC (RefG.co (f':=tv .fz kV) (c:=(kT kS)) (rTupL (rV .fz (kL kS) s2)) (fun _=>rfl)) (fun (y7:PV)=>argsN (rCallB [kV y6,kV y7] (t_law_alike_v2 8 y6 y7))))))) (xN (xV (argsC (RefG.co (f':=tv .fz kV) (c:=(kT kI)) (rMeth (h:=v_house) (rV .fz kH v_house) (argsC (rV .fz kH v_house) (fun (y11:Hs)=>argsN (rCallS [kH y11] (t_House_slip_prices y11) st_fz)))) (fun _=>rfl)) (fun (y12:PV)=>argsC (RefG.co (f':=tv .fz kV) (c:=(kT kI)) (rS1 (rV .fz kMs v_state)) (fun _=>rfl)) (fun (y13:PV)=>argsN (rCallB [kV y12,kV y13] (t_law_alike_v2 8 y12 y13)))))))) (gRetS (rV .fz kB false) (fun (r16:Bool)=>gOk (s:=r16) (.inl ⟨_,rfl⟩)) trivial) (gNil (gIfD (xN (xV (argsC (RefG.co (f':=tv .fz kV) (c:=kI) (rMeth (h:=v_house) (rV .fz kH v_house) (argsC (rV .fz kH v_house) (fun (y18:Hs)=>argsN (rCallS [kH y18] (t_House_fresh_price y18) st_fz)))) (fun _=>rfl)) (fun (y19:PV)=>argsC (RefG.co (f':=tv .fz kV) (c:=kI) (rS2 (rV .fz kMs v_state)) (fun _=>rfl)) (fun (y20:PV)=>argsN (rCallB [kV y19,kV y20] (t_law_alike_v2 8 y19 y20))))))) (gRetS (rV .fz kB false) (fun (r22:Bool)=>gOk (s:=r22) (.inl ⟨_,rfl⟩)) trivial) (gNil (gCtl (ret:=(fun (r54:Bool)=>Res.ok r54)) (gForT (f:=(tv .fz kB)) (fun (s23:Unit)=>[some (.fz,kH v_house),some (.fz,kMs v_state),some (.fz,kS v_name),some (.fz,(kL kS) s2),none,none,none,none]) (()) (iSeqL (rAddL (argsC (rV .fz kS v_name) (fun (y25:List Nat)=>argsE (tv (.ow 1) (kL kS)) ([y25]:List (List Nat)) rfl)) (rSlL (rV .fz (kL kS) s2) (oS (rNeg (rV .fz kI (1:Int)))) (oN)))) rfl (fun (s23:Unit) (x26:List Nat)=>⟨_,rfl,gPrim (u':=fun (s30:PV)=>[some (.fz,kH v_house),some (.fz,kMs v_state),some (.fz,kS v_name),some (.fz,(kL kS) s2),some (.fz,kS x26),some (.fz,kV s30),none,none]) (pSet 5 (argsC (rV .fz kH v_house) (fun (y27:Hs)=>argsC (rV .fz kS x26) (fun (y28:List Nat)=>argsC (rV .fz kB false) (fun (y29:Bool)=>argsN (rCallB [kH y27,kS y28,kB y29] (t_law_of y27 y28 y29)))))) trivial) (fun (s30:PV)=>gPrim (u':=fun (s34:PV)=>[some (.fz,kH v_house),some (.fz,kMs v_state),some (.fz,kS v_name),some (.fz,(kL kS) s2),some (.fz,kS x26),some (.fz,kV s30),some (.fz,kV s34),none]) (pSet 6 (argsC (rV .fz kH v_house) (fun (y31:Hs)=>argsC (rV .fz kS x26) (fun (y32:List Nat)=>argsC (rV .fz kB true) (fun (y33:Bool)=>argsN (rCallB [kH y31,kS y32,kB y33] (t_law_of y31 y32 y33)))))) trivial) (fun (s34:PV)=>gIf (xV (rNotInL (rV .fz kS x26) (rV .fz (kL kS) s2))) (gIf (xO (xVD (rOp2D (RefG.co (f':=id) (c:=(tv .fz kV)) (rV .fz kV s30) (fun _=>rfl)) (RefG.co (f':=id) (c:=(tv .fz kS)) (rV .fz kS ([110,111,32,110,97,109,101]:List Nat)) (fun _=>rfl)))) (xVD (rOp2D (RefG.co (f':=id) (c:=(tv .fz kV)) (rV .fz kV s34) (fun _=>rfl)) (RefG.co (f':=id) (c:=(tv .fz kS)) (rV .fz kS ([110,111,32,110,97,109,101]:List Nat)) (fun _=>rfl))))) (gRet (rV .fz kB false) (fun (r38:Bool)=>gOk (s:=Ctl.rt r38) ⟨_,rfl⟩) trivial) (gNil1 (gOk (s:=Ctl.nx (())) ⟨_,.inl rfl,rfl⟩)) trivial) (gPrim (u':=fun (s41:((List Nat)×(List (List Nat))×Option (Int)))=>[some (.fz,kH v_house),some (.fz,kMs v_state),some (.fz,kS v_name),some (.fz,(kL kS) s2),some (.fz,kS x26),some (.fz,kV s30),some (.fz,kV s34),some (.fz,(kP3 kS (kT kS) (kO kI)) s41)]) (pSet 7 (rIxL (rS0 (rV .fz kMs v_state)) (rIndexQL (rV .fz (kL kS) s2) (rV .fz kS x26))) trivial) (fun (s41:((List Nat)×(List (List Nat))×Option (Int)))=>gIf (xO (xN (xV (argsC (rV .fz kV s30) (fun (y42:PV)=>argsC (RefG.co (f':=tv .fz kV) (c:=(kT kS)) (rIxP (kb:=(kT kS)) (pr:=fun (z:((List Nat)×(List (List Nat))×Option (Int)))=>z.2.1) (rV .fz (kP3 kS (kT kS) (kO kI)) s41)) (fun _=>rfl)) (fun (y43:PV)=>argsN (rCallB [kV y42,kV y43] (t_law_alike_v2 8 y42 y43))))))) (xN (xV (argsC (rV .fz kV s34) (fun (y45:PV)=>argsC (RefG.co (f':=tv .fz kV) (c:=(kO kI)) (rIxP (kb:=(kO kI)) (pr:=fun (z:((List Nat)×(List (List Nat))×Option (Int)))=>z.2.2) (rV .fz (kP3 kS (kT kS) (kO kI)) s41)) (fun _=>rfl)) (fun (y46:PV)=>argsN (rCallB [kV y45,kV y46] (t_law_alike_v2 8 y45 y46)))))))) (gRet (rV .fz kB false) (fun (r49:Bool)=>gOk (s:=Ctl.rt r49) ⟨_,rfl⟩) trivial) (gNil1 (gOk (s:=Ctl.nx (())) ⟨_,.inl rfl,rfl⟩)) trivial)) trivial))⟩) trivial) (fun (s52:Unit)=>gRet (rV .fz kB true) (fun (r53:Bool)=>gOk (s:=r53) (.inl ⟨_,rfl⟩)) trivial) (fun (r54:Bool) _=>gOk (s:=r54) (.inl ⟨_,rfl⟩)))) trivial)) trivial)):RefG (tv .fz kB) (d_law_seen [kH v_house,kMs v_state,kS v_name]) _)
theorem t_House___init__{Γ:En}:RefG (tv (.ow 2) kH) (eHouse d_House___init__ Γ) (.ok hs0):=rHouse
theorem t_law_v66(v_script:List (Int)):RefG (tv .fz kB) (d_law_v66 [(kL kI) v_script]) (f_law_v66 v_script) :=
 (tFn (gPrim (u':=fun (s1:Hs)=>[some (.fz,(kL kI) v_script),some (.ow 2,kH s1),none,none,none,none,none,none,none,none,none]) (pSetO 1 (t_House___init__) trivial) (fun (s1:Hs)=>gPrim (u':=fun (s2:Hs)=>[some (.fz,(kL kI) v_script),some (.ow 2,kH s1),some (.ow 2,kH s2),none,none,none,none,none,none,none,none]) (pSetO 2 (t_House___init__) trivial) (fun (s2:Hs)=>gPrim (u':=fun (s7:Md)=>[some (.fz,(kL kI) v_script),some (.ow 2,kH s1),some (.ow 2,kH s2),some (.ow 2,kMs s7),none,none,none,none,none,none,none]) (pSetO 3 (rDicM (rV .fz (kT kI) ([(1:Int),(2:Int),(2:Int),(2:Int),(1:Int),(1:Int),(3:Int)]:List (Int))) (rV .fz kI (100:Int))) trivial) (fun (s7:Md)=>gPrim (u':=fun (s12:Md)=>[some (.fz,(kL kI) v_script),some (.ow 2,kH s1),some (.ow 2,kH s2),some (.ow 2,kMs s7),some (.fz,kMs s12),none,none,none,none,none,none]) (pSet 4 (rDicF (rV .fz (kT kI) ([(1:Int),(2:Int),(2:Int),(2:Int),(1:Int),(1:Int),(3:Int)]:List (Int))) (rV .fz kI (100:Int))) trivial) (fun (s12:Md)=>gPrim (u':=fun (s13:List (PV))=>[some (.fz,(kL kI) v_script),some (.ow 2,kH s1),some (.ow 2,kH s2),some (.ow 2,kMs s7),some (.fz,kMs s12),some (.fz,(kL kV) s13),none,none,none,none,none]) (pSet 5 (rV (.ow 1) (kL kV) ([]:List (PV))) trivial) (fun (s13:List (PV))=>gPrim (u':=fun (s61:((List (PV))))=>[some (.fz,(kL kI) v_script),some (.ow 2,kH s1),some (.ow 2,kH s2),some (.ow 2,kMs s7),some (.fz,kMs s12),some (.fz,(kL kV) s61),none,none,none,none,none]) (gIf (β:=((List (PV)))) (Post:=NxP (fun (s61:((List (PV)))) Γ'=>Γ'=[some (.fz,(kL kI) v_script),some (.ow 2,kH s1),some (.ow 2,kH s2),some (.ow 2,kMs s7),some (.fz,kMs s12),some (.fz,(kL kV) s61),none,none,none,none,none])) (xV (rEq (rModC (argsC (rV .fz (kL kI) v_script) (fun (y17:List (Int))=>argsC (rV .fz kI (0:Int)) (fun (y18:Int)=>argsN (rCallB [(kL kI) y17,kI y18] (t_law_cell y17 y18)))))) (rV .fz kI (1:Int)))) (gPrim1 (pSet 5 (rLM (iRng (rV .fz kI (28:Int))) (fun (z82:Int)=>⟨_,rfl,RefG.co (f':=tv .fz kV) (c:=(kP4 kS kS (kT kV) kN)) (argsC (rV .fz kS ([112,117,116]:List Nat)) (fun (y95:List Nat)=>argsC (argsC (rAddI (rV .fz kI z82) (rModC (rFdivC (argsC (rV .fz (kL kI) v_script) (fun (y88:List (Int))=>argsC (rV .fz kI (0:Int)) (fun (y89:Int)=>argsN (rCallB [(kL kI) y88,kI y89] (t_law_cell y88 y89)))))))) (fun (y93:Int)=>argsN (rCallB [kI y93] (t_law_word y93)))) (fun (y96:List Nat)=>argsC (rV .fz (kT kV) ([]:List (PV))) (fun (y97:List (PV))=>argsC (rV .fz kN ()) (fun (y98:Unit)=>argsE (tv .fz (kP4 kS kS (kT kV) kN)) ((y95,y96,y97,y98):((List Nat)×(List Nat)×(List (PV))×Unit)) rfl))))) (fun _=>rfl)⟩)) trivial) (fun (s102:List (PV))=>gOk (s:=s102) ⟨_,rfl,rfl⟩)) (gNil1 (gOk (s:=s13) ⟨_,rfl,rfl⟩)) trivial) (fun s61=>gPrim (u':=fun (s103:List (Int))=>[some (.fz,(kL kI) v_script),some (.ow 2,kH s1),some (.ow 2,kH s2),some (.ow 2,kMs s7),some (.fz,kMs s12),some (.fz,(kL kV) s61),some (.fz,(kL kI) s103),none,none,none,none]) (pSet 6 (rSlL (rV .fz (kL kI) v_script) (oS (rV .fz kI (2:Int))) (oS (rV .fz kI (122:Int)))) trivial) (fun (s103:List (Int))=>gCtl (ret:=(fun (r163:Bool)=>Res.ok r163)) (gForT (f:=(tv .fz kB)) (fun (s104:((Hs)×(Md)))=>[some (.fz,(kL kI) v_script),some (.ow 2,kH s104.1),some (.ow 2,kH s2),some (.ow 2,kMs s104.2),some (.fz,kMs s12),some (.fz,(kL kV) s61),some (.fz,(kL kI) s103),none,none,none,none]) ((s1,s7)) (iRng (rAddI (rLenL (rV .fz (kL kV) s61)) (rLenL (rV .fz (kL kI) s103)))) rfl (fun (s104:((Hs)×(Md))) (x105:Int)=>⟨_,rfl,gPrim (u':=fun (s115:PV)=>[some (.fz,(kL kI) v_script),some (.ow 2,kH s104.1),some (.ow 2,kH s2),some (.ow 2,kMs s104.2),some (.fz,kMs s12),some (.fz,(kL kV) s61),some (.fz,(kL kI) s103),some (.fz,kI x105),some (.fz,kV s115),none,none]) (pSet 8 (rIxL (rAddL (rV .fz (kL kV) s61) (argsC (RefG.co (f':=tv .fz kV) (c:=(kP2 kS kS)) (argsC (rV .fz kS ([116,97,107,101]:List Nat)) (fun (y111:List Nat)=>argsC (rV .fz kS ([]:List Nat)) (fun (y112:List Nat)=>argsE (tv .fz (kP2 kS kS)) ((y111,y112):((List Nat)×List Nat)) rfl))) (fun _=>rfl)) (fun (y113:PV)=>argsE (tv (.ow 1) (kL kV)) ([y113]:List (PV)) rfl))) (rMin2 (rV .fz kI x105) (rLenL (rV .fz (kL kV) s61)))) trivial) (fun (s115:PV)=>gPrim (u':=fun (s119:((PV)))=>[some (.fz,(kL kI) v_script),some (.ow 2,kH s104.1),some (.ow 2,kH s2),some (.ow 2,kMs s104.2),some (.fz,kMs s12),some (.fz,(kL kV) s61),some (.fz,(kL kI) s103),some (.fz,kI x105),some (.fz,kV s119),none,none]) (gIf (β:=((PV))) (Post:=NxP (fun (s119:((PV))) Γ'=>Γ'=[some (.fz,(kL kI) v_script),some (.ow 2,kH s104.1),some (.ow 2,kH s2),some (.ow 2,kMs s104.2),some (.fz,kMs s12),some (.fz,(kL kV) s61),some (.fz,(kL kI) s103),some (.fz,kI x105),some (.fz,kV s119),none,none])) (xV (rGe (rV .fz kI x105) (rLenL (rV .fz (kL kV) s61)))) (gPrim1 (pSet 8 (argsC (rV .fz (kL kI) s103) (fun (y121:List (Int))=>argsC (rSub (rV .fz kI x105) (rLenL (rV .fz (kL kV) s61))) (fun (y122:Int)=>argsN (rCallB [(kL kI) y121,kI y122] (t_law_deed y121 y122))))) trivial) (fun (s123:PV)=>gOk (s:=s123) ⟨_,rfl,rfl⟩)) (gNil1 (gOk (s:=s115) ⟨_,rfl,rfl⟩)) trivial) (fun s119=>gPrim (u':=fun (s125:(Option (List Nat))×Md)=>[some (.fz,(kL kI) v_script),some (.ow 2,kH s104.1),some (.ow 2,kH s2),some (.ow 2,kMs s125.2),some (.fz,kMs s12),some (.fz,(kL kV) s61),some (.fz,(kL kI) s103),some (.fz,kI x105),some (.fz,kV s119),some (.fz,(kO kS) s125.1),none]) (pSetX (u:=fun (z:(Option (List Nat))×Md)=>[some (.fz,(kL kI) v_script),some (.ow 2,kH s104.1),some (.ow 2,kH s2),some (.ow 2,kMs z.2),some (.fz,kMs s12),some (.fz,(kL kV) s61),some (.fz,(kL kI) s103),some (.fz,kI x105),some (.fz,kV s119),some (.fz,(kO kS) z.1),none]) 9 rfl (xaC (rV .fz kV s119) (fun (y124:PV)=>xaN (xEndS 9 rfl (t_law_due_v9 s104.2 y124) (fun _=>rfl) trivial)) trivial)) (fun (s125:(Option (List Nat))×Md)=>gPrim (u':=fun (s127:(Option (List Nat))×Hs)=>[some (.fz,(kL kI) v_script),some (.ow 2,kH s127.2),some (.ow 2,kH s2),some (.ow 2,kMs s125.2),some (.fz,kMs s12),some (.fz,(kL kV) s61),some (.fz,(kL kI) s103),some (.fz,kI x105),some (.fz,kV s119),some (.fz,(kO kS) s125.1),some (.fz,(kO kS) s127.1)]) (pSetX (u:=fun (z:(Option (List Nat))×Hs)=>[some (.fz,(kL kI) v_script),some (.ow 2,kH z.2),some (.ow 2,kH s2),some (.ow 2,kMs s125.2),some (.fz,kMs s12),some (.fz,(kL kV) s61),some (.fz,(kL kI) s103),some (.fz,kI x105),some (.fz,kV s119),some (.fz,(kO kS) s125.1),some (.fz,(kO kS) z.1)]) 10 rfl (xaC (rV .fz kV s119) (fun (y126:PV)=>xaN (xEndS 10 rfl (t_law_done s104.1 y126) (fun _=>rfl) trivial)) trivial)) (fun (s127:(Option (List Nat))×Hs)=>gIfD (xO (xV (rNe (rV .fz (kO kS) s127.1) (rV .fz (kO kS) s125.1))) (xA (xV (rIsN (rV .fz (kO kS) s125.1))) (xV (rNotN (rV .fz (kO kS) s127.1))))) (gRetS (rV .fz kB false) (fun (r128:Bool)=>gOk (s:=Ctl.rt r128) ⟨_,rfl⟩) trivial) (gNil (gIf (xA (xV (rGe (rV .fz kI x105) (rLenL (rV .fz (kL kV) s61)))) (xN (xV (argsC (rV (.bw 2) kH s127.2) (fun (y145:Hs)=>argsC (rV (.bw 2) kMs s125.2) (fun (y146:Md)=>argsC (argsC (rAddI (argsC (rV .fz (kL kI) v_script) (fun (y140:List (Int))=>argsC (rV .fz kI (1:Int)) (fun (y141:Int)=>argsN (rCallB [(kL kI) y140,kI y141] (t_law_cell y140 y141))))) (rV .fz kI x105)) (fun (y143:Int)=>argsN (rCallB [kI y143] (t_law_name y143)))) (fun (y147:List Nat)=>argsN (rCallS [kH y145,kMs y146,kS y147] (t_law_seen y145 y146 y147) st_fz)))))))) (gRet (rV .fz kB false) (fun (r150:Bool)=>gOk (s:=Ctl.rt r150) ⟨_,rfl⟩) trivial) (gNil1 (gOk (s:=Ctl.nx ((s127.2,s125.2))) ⟨_,.inl rfl,rfl⟩)) trivial)) trivial))))⟩) trivial) (fun (s154:((Hs)×(Md)))=>gRet (argsC (rV (.bw 2) kH s2) (fun (y158:Hs)=>argsC (rV .fz kMs s12) (fun (y159:Md)=>argsC (rV .fz kS ([97]:List Nat)) (fun (y160:List Nat)=>argsN (rCallS [kH y158,kMs y159,kS y160] (t_law_seen y158 y159 y160) st_fz))))) (fun (r161:Bool)=>gOk (s:=r161) (.inl ⟨_,rfl⟩)) trivial) (fun (r163:Bool) _=>gOk (s:=r163) (.inl ⟨_,rfl⟩)))))))))):RefG (tv .fz kB) (d_law_v66 [(kL kI) v_script]) _)
end Vm
end
section
set_option linter.all false
set_option maxRecDepth 10000
namespace Vm
theorem s2_law(ns:List Int)(hl:ns.length≤63)(hb:∀ z∈ns,z.natAbs.log2≤1048576):d_law_v66 [.lst (ns.map .int)] = .ok (.fz,.bl true):=by
 have h:=t_law_v66 ns
 rw [m_law ns hl hb] at h
 exact h
end Vm
end
section
set_option Elab.async false
set_option linter.all false
set_option maxRecDepth 100000
set_option maxHeartbeats 4000000
namespace VP
open PySem PySem.Spec PyProof.Rows L2 Vm Vl
abbrev FDn(K:PySem.W.Frag)(x:Str)(st:Stmt):Prop:=∃ (f:Addr) (od an:Option Addr) (sl:Array (Option Value)) (oc kV dc pm cd ct:Value),PySem.W.nsIn K mainGlobals x=some (some (.ref f))∧K.lookup f=some ⟨oc,od,.func (PySem.W.fnOf x x (defArgs st) (defBody st) (defScope st) .none kV dc pm an cd ct),sl⟩∧PySem.W.codeIn K cd x=true∧PySem.W.keepIn K (.ref f)=true
theorem all_mk {l:PySem.W.OpenLaw} {w:World} {K:PySem.W.Frag} {h:Heap} {mg:Str→Option Value} {fa:Addr} (X:K.In h) (G:h.Ns mainGlobals mg) (hfa:mg "law" = some (.ref fa))
  {Ch:Addr} (aH:PySem.W.nsIn K mainGlobals "House" = some (some (.ref Ch))) (Hpg:PySem.W.plainGet K Ch Str.empty=true) (Hhd:PySem.W.hasDictIn K Ch=true) (Hpo:PySem.W.plainOver K Ch=true) (Hsa:PySem.W.findIn K (.ref Ch) "__setattr__" = some (some (.builtin "object.__setattr__"))) (Hmk:PySem.W.makesIn K Ch=true) (Hkc:PySem.W.keepIn K (.ref Ch)=true)
  (Hn_rows_kept:PySem.W.findIn K (.ref Ch) "rows_kept" = some none)
  (Hn_days_kept:PySem.W.findIn K (.ref Ch) "days_kept" = some none)
  (Hn_prices_now:PySem.W.findIn K (.ref Ch) "prices_now" = some none)
  (Hn_fresh_now:PySem.W.findIn K (.ref Ch) "fresh_now" = some none)
  (d0:FDn K "is_word" s_is_word)
  (d1:FDn K "_law_cell" s__law_cell)
  (d2:FDn K "_law_word" s__law_word)
  (d3:FDn K "_law_other" s__law_other)
  (d4:FDn K "_law_row" s__law_row)
  (d5:FDn K "_law_alike" s__law_alike)
  (d6:FDn K "_law_name" s__law_name)
  (d7:FDn K "_law_kind" s__law_kind)
  {f8:Addr} {od8 an8:Option Addr} {sl8:Array (Option Value)} {oc8 kV8 dc8 pm8 cd8 ct8:Value}
  {Td:Addr} {Tc:Value} {To:Option Addr} {Tn:Nat} {Ts:Array (Option Value)} (Tl:K.lookup Td=some ⟨Tc,To,.seq #[.none] Tn,Ts⟩)
  (a8:PySem.W.findIn K (.ref Ch) "put" = some (some (.ref f8))) (i8:PySem.W.isFn K (.ref f8)=true) (l8:K.lookup f8=some ⟨oc8,od8,.func (PySem.W.fnOf "put" "House.put" (defArgs s_House_put) (defBody s_House_put) (defScope s_House_put) (.ref Td) kV8 dc8 pm8 an8 cd8 ct8),sl8⟩) (c8:PySem.W.codeIn K cd8 "House.put" = true) (k8:PySem.W.keepIn K (.ref f8)=true)
  {f9:Addr} {od9 an9:Option Addr} {sl9:Array (Option Value)} {oc9 kV9 dc9 pm9 cd9 ct9:Value}
  (a9:PySem.W.findIn K (.ref Ch) "look_for" = some (some (.ref f9))) (i9:PySem.W.isFn K (.ref f9)=true) (l9:K.lookup f9=some ⟨oc9,od9,.func (PySem.W.fnOf "look_for" "House.look_for" (defArgs s_House_look_for) (defBody s_House_look_for) (defScope s_House_look_for) .none kV9 dc9 pm9 an9 cd9 ct9),sl9⟩) (c9:PySem.W.codeIn K cd9 "House.look_for" = true) (k9:PySem.W.keepIn K (.ref f9)=true)
  {f10:Addr} {od10 an10:Option Addr} {sl10:Array (Option Value)} {oc10 kV10 dc10 pm10 cd10 ct10:Value}
  (a10:PySem.W.findIn K (.ref Ch) "take" = some (some (.ref f10))) (i10:PySem.W.isFn K (.ref f10)=true) (l10:K.lookup f10=some ⟨oc10,od10,.func (PySem.W.fnOf "take" "House.take" (defArgs s_House_take) (defBody s_House_take) (defScope s_House_take) .none kV10 dc10 pm10 an10 cd10 ct10),sl10⟩) (c10:PySem.W.codeIn K cd10 "House.take" = true) (k10:PySem.W.keepIn K (.ref f10)=true)
  {f11:Addr} {od11 an11:Option Addr} {sl11:Array (Option Value)} {oc11 kV11 dc11 pm11 cd11 ct11:Value}
  (a11:PySem.W.findIn K (.ref Ch) "set_prices" = some (some (.ref f11))) (i11:PySem.W.isFn K (.ref f11)=true) (l11:K.lookup f11=some ⟨oc11,od11,.func (PySem.W.fnOf "set_prices" "House.set_prices" (defArgs s_House_set_prices) (defBody s_House_set_prices) (defScope s_House_set_prices) .none kV11 dc11 pm11 an11 cd11 ct11),sl11⟩) (c11:PySem.W.codeIn K cd11 "House.set_prices" = true) (k11:PySem.W.keepIn K (.ref f11)=true)
  {f12:Addr} {od12 an12:Option Addr} {sl12:Array (Option Value)} {oc12 kV12 dc12 pm12 cd12 ct12:Value}
  (a12:PySem.W.findIn K (.ref Ch) "set_fresh" = some (some (.ref f12))) (i12:PySem.W.isFn K (.ref f12)=true) (l12:K.lookup f12=some ⟨oc12,od12,.func (PySem.W.fnOf "set_fresh" "House.set_fresh" (defArgs s_House_set_fresh) (defBody s_House_set_fresh) (defScope s_House_set_fresh) .none kV12 dc12 pm12 an12 cd12 ct12),sl12⟩) (c12:PySem.W.codeIn K cd12 "House.set_fresh" = true) (k12:PySem.W.keepIn K (.ref f12)=true)
  (d13:FDn K "_law_done" s__law_done)
  (d14:FDn K "_law_is_name" s__law_is_name)
  (d15:FDn K "_law_due" s__law_due)
  (d16:FDn K "_law_deed" s__law_deed)
  {f17:Addr} {od17 an17:Option Addr} {sl17:Array (Option Value)} {oc17 kV17 dc17 pm17 cd17 ct17:Value}
  (a17:PySem.W.findIn K (.ref Ch) "day_of" = some (some (.ref f17))) (i17:PySem.W.isFn K (.ref f17)=true) (l17:K.lookup f17=some ⟨oc17,od17,.func (PySem.W.fnOf "day_of" "House.day_of" (defArgs s_House_day_of) (defBody s_House_day_of) (defScope s_House_day_of) .none kV17 dc17 pm17 an17 cd17 ct17),sl17⟩) (c17:PySem.W.codeIn K cd17 "House.day_of" = true) (k17:PySem.W.keepIn K (.ref f17)=true)
  {f18:Addr} {od18 an18:Option Addr} {sl18:Array (Option Value)} {oc18 kV18 dc18 pm18 cd18 ct18:Value}
  (a18:PySem.W.findIn K (.ref Ch) "row_of" = some (some (.ref f18))) (i18:PySem.W.isFn K (.ref f18)=true) (l18:K.lookup f18=some ⟨oc18,od18,.func (PySem.W.fnOf "row_of" "House.row_of" (defArgs s_House_row_of) (defBody s_House_row_of) (defScope s_House_row_of) .none kV18 dc18 pm18 an18 cd18 ct18),sl18⟩) (c18:PySem.W.codeIn K cd18 "House.row_of" = true) (k18:PySem.W.keepIn K (.ref f18)=true)
  (d19:FDn K "_law_of" s__law_of)
  {f20:Addr} {od20 an20:Option Addr} {sl20:Array (Option Value)} {oc20 kV20 dc20 pm20 cd20 ct20:Value}
  (a20:PySem.W.findIn K (.ref Ch) "fresh_price" = some (some (.ref f20))) (i20:PySem.W.isFn K (.ref f20)=true) (l20:K.lookup f20=some ⟨oc20,od20,.func (PySem.W.fnOf "fresh_price" "House.fresh_price" (defArgs s_House_fresh_price) (defBody s_House_fresh_price) (defScope s_House_fresh_price) .none kV20 dc20 pm20 an20 cd20 ct20),sl20⟩) (c20:PySem.W.codeIn K cd20 "House.fresh_price" = true) (k20:PySem.W.keepIn K (.ref f20)=true)
  {f21:Addr} {od21 an21:Option Addr} {sl21:Array (Option Value)} {oc21 kV21 dc21 pm21 cd21 ct21:Value}
  (a21:PySem.W.findIn K (.ref Ch) "names" = some (some (.ref f21))) (i21:PySem.W.isFn K (.ref f21)=true) (l21:K.lookup f21=some ⟨oc21,od21,.func (PySem.W.fnOf "names" "House.names" (defArgs s_House_names) (defBody s_House_names) (defScope s_House_names) .none kV21 dc21 pm21 an21 cd21 ct21),sl21⟩) (c21:PySem.W.codeIn K cd21 "House.names" = true) (k21:PySem.W.keepIn K (.ref f21)=true)
  {f22:Addr} {od22 an22:Option Addr} {sl22:Array (Option Value)} {oc22 kV22 dc22 pm22 cd22 ct22:Value}
  (a22:PySem.W.findIn K (.ref Ch) "slip_prices" = some (some (.ref f22))) (i22:PySem.W.isFn K (.ref f22)=true) (l22:K.lookup f22=some ⟨oc22,od22,.func (PySem.W.fnOf "slip_prices" "House.slip_prices" (defArgs s_House_slip_prices) (defBody s_House_slip_prices) (defScope s_House_slip_prices) .none kV22 dc22 pm22 an22 cd22 ct22),sl22⟩) (c22:PySem.W.codeIn K cd22 "House.slip_prices" = true) (k22:PySem.W.keepIn K (.ref f22)=true)
  (d23:FDn K "_law_seen" s__law_seen)
  {f24:Addr} {od24 an24:Option Addr} {sl24:Array (Option Value)} {oc24 kV24 dc24 pm24 cd24 ct24:Value}
  (a24:PySem.W.findIn K (.ref Ch) "__init__" = some (some (.ref f24))) (i24:PySem.W.isFn K (.ref f24)=true) (l24:K.lookup f24=some ⟨oc24,od24,.func (PySem.W.fnOf "__init__" "House.__init__" (defArgs s_House___init__) (defBody s_House___init__) (defScope s_House___init__) .none kV24 dc24 pm24 an24 cd24 ct24),sl24⟩) (c24:PySem.W.codeIn K cd24 "House.__init__" = true) (k24:PySem.W.keepIn K (.ref f24)=true)
  (d25:FDn K "law" s_law)
  (zz_all:PySem.W.nsIn K mainGlobals "all" = some none)
  (zz_bool:PySem.W.nsIn K mainGlobals "bool" = some none)
  (zz_int:PySem.W.nsIn K mainGlobals "int" = some none)
  (zz_isinstance:PySem.W.nsIn K mainGlobals "isinstance" = some none)
  (zz_len:PySem.W.nsIn K mainGlobals "len" = some none)
  (zz_min:PySem.W.nsIn K mainGlobals "min" = some none)
  (zz_range:PySem.W.nsIn K mainGlobals "range" = some none)
  (zz_str:PySem.W.nsIn K mainGlobals "str" = some none)
  (zz_tuple:PySem.W.nsIn K mainGlobals "tuple" = some none)
  {u_MOST_COPIES:Value} (gg_MOST_COPIES:PySem.W.nsIn K mainGlobals "MOST_COPIES" = some (some u_MOST_COPIES)) (gr_MOST_COPIES:RelV (toV (.int 30)) u_MOST_COPIES)
  {u_MOST_LETTERS:Value} (gg_MOST_LETTERS:PySem.W.nsIn K mainGlobals "MOST_LETTERS" = some (some u_MOST_LETTERS)) (gr_MOST_LETTERS:RelV (toV (.int 12)) u_MOST_LETTERS)
  {u_WORD_LETTERS:Value} (gg_WORD_LETTERS:PySem.W.nsIn K mainGlobals "WORD_LETTERS" = some (some u_WORD_LETTERS)) (gr_WORD_LETTERS:RelV (toV (.str [97,98,99,100,101,102,103,104,105,106,107,108,109,110,111,112,113,114,115,116,117,118,119,120,121,122])) u_WORD_LETTERS)
  {C_NoLine:Addr} (xg_NoLine:PySem.W.nsIn K mainGlobals "NoLine" = some (some (.ref C_NoLine))) (xe_NoLine:PySem.W.excIn K C_NoLine [.type "ValueError",.type "Exception",.type "BaseException",.type "object"] "ValueError.__new__" = true) (xk_NoLine:PySem.W.keepIn K (.ref C_NoLine)=true) (xb_NoLine:PySem.W.subIn K (.ref C_NoLine) (.type "BaseException")=some true) (xt_NoLine:PySem.W.typeIn K (.ref C_NoLine)=some (.type "type"))
  {C_NoName:Addr} (xg_NoName:PySem.W.nsIn K mainGlobals "NoName" = some (some (.ref C_NoName))) (xe_NoName:PySem.W.excIn K C_NoName [.type "ValueError",.type "Exception",.type "BaseException",.type "object"] "ValueError.__new__" = true) (xk_NoName:PySem.W.keepIn K (.ref C_NoName)=true) (xb_NoName:PySem.W.subIn K (.ref C_NoName) (.type "BaseException")=some true) (xt_NoName:PySem.W.typeIn K (.ref C_NoName)=some (.type "type"))
  {C_NoNotes:Addr} (xg_NoNotes:PySem.W.nsIn K mainGlobals "NoNotes" = some (some (.ref C_NoNotes))) (xe_NoNotes:PySem.W.excIn K C_NoNotes [.type "ValueError",.type "Exception",.type "BaseException",.type "object"] "ValueError.__new__" = true) (xk_NoNotes:PySem.W.keepIn K (.ref C_NoNotes)=true) (xb_NoNotes:PySem.W.subIn K (.ref C_NoNotes) (.type "BaseException")=some true) (xt_NoNotes:PySem.W.typeIn K (.ref C_NoNotes)=some (.type "type"))
  {C_NoPrices:Addr} (xg_NoPrices:PySem.W.nsIn K mainGlobals "NoPrices" = some (some (.ref C_NoPrices))) (xe_NoPrices:PySem.W.excIn K C_NoPrices [.type "ValueError",.type "Exception",.type "BaseException",.type "object"] "ValueError.__new__" = true) (xk_NoPrices:PySem.W.keepIn K (.ref C_NoPrices)=true) (xb_NoPrices:PySem.W.subIn K (.ref C_NoPrices) (.type "BaseException")=some true) (xt_NoPrices:PySem.W.typeIn K (.ref C_NoPrices)=some (.type "type"))
  {C_NoRow:Addr} (xg_NoRow:PySem.W.nsIn K mainGlobals "NoRow" = some (some (.ref C_NoRow))) (xe_NoRow:PySem.W.excIn K C_NoRow [.type "ValueError",.type "Exception",.type "BaseException",.type "object"] "ValueError.__new__" = true) (xk_NoRow:PySem.W.keepIn K (.ref C_NoRow)=true) (xb_NoRow:PySem.W.subIn K (.ref C_NoRow) (.type "BaseException")=some true) (xt_NoRow:PySem.W.typeIn K (.ref C_NoRow)=some (.type "type"))
  {C_NoSlips:Addr} (xg_NoSlips:PySem.W.nsIn K mainGlobals "NoSlips" = some (some (.ref C_NoSlips))) (xe_NoSlips:PySem.W.excIn K C_NoSlips [.type "ValueError",.type "Exception",.type "BaseException",.type "object"] "ValueError.__new__" = true) (xk_NoSlips:PySem.W.keepIn K (.ref C_NoSlips)=true) (xb_NoSlips:PySem.W.subIn K (.ref C_NoSlips) (.type "BaseException")=some true) (xt_NoSlips:PySem.W.typeIn K (.ref C_NoSlips)=some (.type "type"))
  {C_TooMany:Addr} (xg_TooMany:PySem.W.nsIn K mainGlobals "TooMany" = some (some (.ref C_TooMany))) (xe_TooMany:PySem.W.excIn K C_TooMany [.type "ValueError",.type "Exception",.type "BaseException",.type "object"] "ValueError.__new__" = true) (xk_TooMany:PySem.W.keepIn K (.ref C_TooMany)=true) (xb_TooMany:PySem.W.subIn K (.ref C_TooMany) (.type "BaseException")=some true) (xt_TooMany:PySem.W.typeIn K (.ref C_TooMany)=some (.type "type"))
  {C_TwiceNamed:Addr} (xg_TwiceNamed:PySem.W.nsIn K mainGlobals "TwiceNamed" = some (some (.ref C_TwiceNamed))) (xe_TwiceNamed:PySem.W.excIn K C_TwiceNamed [.type "ValueError",.type "Exception",.type "BaseException",.type "object"] "ValueError.__new__" = true) (xk_TwiceNamed:PySem.W.keepIn K (.ref C_TwiceNamed)=true) (xb_TwiceNamed:PySem.W.subIn K (.ref C_TwiceNamed) (.type "BaseException")=some true) (xt_TwiceNamed:PySem.W.typeIn K (.ref C_TwiceNamed)=some (.type "type"))
  {C_VellumError:Addr} (xg_VellumError:PySem.W.nsIn K mainGlobals "VellumError" = some (some (.ref C_VellumError))) (xe_VellumError:PySem.W.excIn K C_VellumError [.type "ValueError",.type "Exception",.type "BaseException",.type "object"] "ValueError.__new__" = true) (xk_VellumError:PySem.W.keepIn K (.ref C_VellumError)=true) (xb_VellumError:PySem.W.subIn K (.ref C_VellumError) (.type "BaseException")=some true) (xt_VellumError:PySem.W.typeIn K (.ref C_VellumError)=some (.type "type"))
  (xq_NoName_NoName:PySem.W.exmOne K (.ref C_NoName) (.ref C_NoName)=some true)
  (xq_NoName_TooMany:PySem.W.exmOne K (.ref C_TooMany) (.ref C_NoName)=some false)
  (xq_NoName_TwiceNamed:PySem.W.exmOne K (.ref C_TwiceNamed) (.ref C_NoName)=some false)
  (xq_VellumError_NoName:PySem.W.exmOne K (.ref C_NoName) (.ref C_VellumError)=some true)
  (xq_VellumError_TooMany:PySem.W.exmOne K (.ref C_TooMany) (.ref C_VellumError)=some true)
  (xq_VellumError_TwiceNamed:PySem.W.exmOne K (.ref C_TwiceNamed) (.ref C_VellumError)=some true)
  (xi_NoName:L2.ExcC K C_NoName)
  (xi_TooMany:L2.ExcC K C_TooMany)
  (xi_TwiceNamed:L2.ExcC K C_TwiceNamed)
  (yk_NoLine_NoName:PySem.W.kitOne K (.ref C_NoName) (.ref C_NoLine)=some false)
  (yk_NoLine_TooMany:PySem.W.kitOne K (.ref C_TooMany) (.ref C_NoLine)=some false)
  (yk_NoLine_TwiceNamed:PySem.W.kitOne K (.ref C_TwiceNamed) (.ref C_NoLine)=some false)
  (yk_NoName_NoName:PySem.W.kitOne K (.ref C_NoName) (.ref C_NoName)=some true)
  (yk_NoName_TooMany:PySem.W.kitOne K (.ref C_TooMany) (.ref C_NoName)=some false)
  (yk_NoName_TwiceNamed:PySem.W.kitOne K (.ref C_TwiceNamed) (.ref C_NoName)=some false)
  (yk_NoNotes_NoName:PySem.W.kitOne K (.ref C_NoName) (.ref C_NoNotes)=some false)
  (yk_NoNotes_TooMany:PySem.W.kitOne K (.ref C_TooMany) (.ref C_NoNotes)=some false)
  (yk_NoNotes_TwiceNamed:PySem.W.kitOne K (.ref C_TwiceNamed) (.ref C_NoNotes)=some false)
  (yk_NoPrices_NoName:PySem.W.kitOne K (.ref C_NoName) (.ref C_NoPrices)=some false)
  (yk_NoPrices_TooMany:PySem.W.kitOne K (.ref C_TooMany) (.ref C_NoPrices)=some false)
  (yk_NoPrices_TwiceNamed:PySem.W.kitOne K (.ref C_TwiceNamed) (.ref C_NoPrices)=some false)
  (yk_NoRow_NoName:PySem.W.kitOne K (.ref C_NoName) (.ref C_NoRow)=some false)
  (yk_NoRow_TooMany:PySem.W.kitOne K (.ref C_TooMany) (.ref C_NoRow)=some false)
  (yk_NoRow_TwiceNamed:PySem.W.kitOne K (.ref C_TwiceNamed) (.ref C_NoRow)=some false)
  (yk_NoSlips_NoName:PySem.W.kitOne K (.ref C_NoName) (.ref C_NoSlips)=some false)
  (yk_NoSlips_TooMany:PySem.W.kitOne K (.ref C_TooMany) (.ref C_NoSlips)=some false)
  (yk_NoSlips_TwiceNamed:PySem.W.kitOne K (.ref C_TwiceNamed) (.ref C_NoSlips)=some false)
  (yk_TooMany_NoName:PySem.W.kitOne K (.ref C_NoName) (.ref C_TooMany)=some false)
  (yk_TooMany_TooMany:PySem.W.kitOne K (.ref C_TooMany) (.ref C_TooMany)=some true)
  (yk_TooMany_TwiceNamed:PySem.W.kitOne K (.ref C_TwiceNamed) (.ref C_TooMany)=some false)
  (yk_TwiceNamed_NoName:PySem.W.kitOne K (.ref C_NoName) (.ref C_TwiceNamed)=some false)
  (yk_TwiceNamed_TooMany:PySem.W.kitOne K (.ref C_TooMany) (.ref C_TwiceNamed)=some false)
  (yk_TwiceNamed_TwiceNamed:PySem.W.kitOne K (.ref C_TwiceNamed) (.ref C_TwiceNamed)=some true)
  :∃ fd:FuncData,(∀ (s:Shared) (v:Value),BindsTo s fd ⟨[v],[]⟩ [("script",v)])∧∀ base:Heap,K.In base→base.Ns mainGlobals mg→FnOk l.prog w K mg base (L2.CX l.prog w) 11 fa fd ["script"] (spLaw K):=by
 obtain ⟨fL,odL,anL,slL,ocL,kVL,dcL,pmL,cdL,ctL,aL,lL,cL,kL⟩:=d25
 have e:=hfa.symm.trans (PySem.W.mg_of X G aL)
 cases e
 refine ⟨PySem.W.fnOf "law" "law" (defArgs s_law) (defBody s_law) (defScope s_law) .none kVL dcL pmL anL cdL ctL,fun s v=>.of_eq rfl,fun base _ _=>?_⟩
 have z_all:(Cn.mk ⟨K,l.prog,w,mg⟩ base).mg "all" = none:=PySem.W.mg_none_of X G zz_all
 have z_bool:(Cn.mk ⟨K,l.prog,w,mg⟩ base).mg "bool" = none:=PySem.W.mg_none_of X G zz_bool
 have z_int:(Cn.mk ⟨K,l.prog,w,mg⟩ base).mg "int" = none:=PySem.W.mg_none_of X G zz_int
 have z_isinstance:(Cn.mk ⟨K,l.prog,w,mg⟩ base).mg "isinstance" = none:=PySem.W.mg_none_of X G zz_isinstance
 have z_len:(Cn.mk ⟨K,l.prog,w,mg⟩ base).mg "len" = none:=PySem.W.mg_none_of X G zz_len
 have z_min:(Cn.mk ⟨K,l.prog,w,mg⟩ base).mg "min" = none:=PySem.W.mg_none_of X G zz_min
 have z_range:(Cn.mk ⟨K,l.prog,w,mg⟩ base).mg "range" = none:=PySem.W.mg_none_of X G zz_range
 have z_str:(Cn.mk ⟨K,l.prog,w,mg⟩ base).mg "str" = none:=PySem.W.mg_none_of X G zz_str
 have z_tuple:(Cn.mk ⟨K,l.prog,w,mg⟩ base).mg "tuple" = none:=PySem.W.mg_none_of X G zz_tuple
 have g_MOST_COPIES:Glb (Cn.mk ⟨K,l.prog,w,mg⟩ base) "MOST_COPIES" (.int 30):=⟨_,PySem.W.mg_of X G gg_MOST_COPIES,gr_MOST_COPIES,fun F=>by unfold Rep; rfl⟩
 have g_MOST_LETTERS:Glb (Cn.mk ⟨K,l.prog,w,mg⟩ base) "MOST_LETTERS" (.int 12):=⟨_,PySem.W.mg_of X G gg_MOST_LETTERS,gr_MOST_LETTERS,fun F=>by unfold Rep; rfl⟩
 have g_WORD_LETTERS:Glb (Cn.mk ⟨K,l.prog,w,mg⟩ base) "WORD_LETTERS" (.str [97,98,99,100,101,102,103,104,105,106,107,108,109,110,111,112,113,114,115,116,117,118,119,120,121,122]):=⟨_,PySem.W.mg_of X G gg_WORD_LETTERS,gr_WORD_LETTERS,fun F=>by unfold Rep; exact ⟨rfl,by decide +kernel⟩⟩
 have x_NoLine:Xc (Cn.mk ⟨K,l.prog,w,mg⟩ base) 5:=⟨_,PySem.W.mg_of X G xg_NoLine,xe_NoLine,xk_NoLine,xb_NoLine,xt_NoLine⟩
 have x_NoName:Xc (Cn.mk ⟨K,l.prog,w,mg⟩ base) 6:=⟨_,PySem.W.mg_of X G xg_NoName,xe_NoName,xk_NoName,xb_NoName,xt_NoName⟩
 have x_NoNotes:Xc (Cn.mk ⟨K,l.prog,w,mg⟩ base) 4:=⟨_,PySem.W.mg_of X G xg_NoNotes,xe_NoNotes,xk_NoNotes,xb_NoNotes,xt_NoNotes⟩
 have x_NoPrices:Xc (Cn.mk ⟨K,l.prog,w,mg⟩ base) 2:=⟨_,PySem.W.mg_of X G xg_NoPrices,xe_NoPrices,xk_NoPrices,xb_NoPrices,xt_NoPrices⟩
 have x_NoRow:Xc (Cn.mk ⟨K,l.prog,w,mg⟩ base) 1:=⟨_,PySem.W.mg_of X G xg_NoRow,xe_NoRow,xk_NoRow,xb_NoRow,xt_NoRow⟩
 have x_NoSlips:Xc (Cn.mk ⟨K,l.prog,w,mg⟩ base) 3:=⟨_,PySem.W.mg_of X G xg_NoSlips,xe_NoSlips,xk_NoSlips,xb_NoSlips,xt_NoSlips⟩
 have x_TooMany:Xc (Cn.mk ⟨K,l.prog,w,mg⟩ base) 8:=⟨_,PySem.W.mg_of X G xg_TooMany,xe_TooMany,xk_TooMany,xb_TooMany,xt_TooMany⟩
 have x_TwiceNamed:Xc (Cn.mk ⟨K,l.prog,w,mg⟩ base) 7:=⟨_,PySem.W.mg_of X G xg_TwiceNamed,xe_TwiceNamed,xk_TwiceNamed,xb_TwiceNamed,xt_TwiceNamed⟩
 have x_VellumError:Xc (Cn.mk ⟨K,l.prog,w,mg⟩ base) 0:=⟨_,PySem.W.mg_of X G xg_VellumError,xe_VellumError,xk_VellumError,xb_VellumError,xt_VellumError⟩
 have s_NoName:Xs (Cn.mk ⟨K,l.prog,w,mg⟩ base) 6 [(6,true),(8,false),(7,false)]:=Xs.of (PySem.W.mg_of X G xg_NoName) (XsA.cons (PySem.W.mg_of X G xg_NoName) xq_NoName_NoName (XsA.cons (PySem.W.mg_of X G xg_TooMany) xq_NoName_TooMany (XsA.cons (PySem.W.mg_of X G xg_TwiceNamed) xq_NoName_TwiceNamed (XsA.nil))))
 have s_VellumError:Xs (Cn.mk ⟨K,l.prog,w,mg⟩ base) 0 [(6,true),(8,true),(7,true)]:=Xs.of (PySem.W.mg_of X G xg_VellumError) (XsA.cons (PySem.W.mg_of X G xg_NoName) xq_VellumError_NoName (XsA.cons (PySem.W.mg_of X G xg_TooMany) xq_VellumError_TooMany (XsA.cons (PySem.W.mg_of X G xg_TwiceNamed) xq_VellumError_TwiceNamed (XsA.nil))))
 have q_NoLine:Iq (Cn.mk ⟨K,l.prog,w,mg⟩ base) "NoLine" [(6,false),(8,false),(7,false)]:=Iq.ofC (PySem.W.mg_of X G xg_NoLine) (IqA.cons (PySem.W.mg_of X G xg_NoName) xi_NoName yk_NoLine_NoName (IqA.cons (PySem.W.mg_of X G xg_TooMany) xi_TooMany yk_NoLine_TooMany (IqA.cons (PySem.W.mg_of X G xg_TwiceNamed) xi_TwiceNamed yk_NoLine_TwiceNamed (IqA.nil))))
 have q_NoName:Iq (Cn.mk ⟨K,l.prog,w,mg⟩ base) "NoName" [(6,true),(8,false),(7,false)]:=Iq.ofC (PySem.W.mg_of X G xg_NoName) (IqA.cons (PySem.W.mg_of X G xg_NoName) xi_NoName yk_NoName_NoName (IqA.cons (PySem.W.mg_of X G xg_TooMany) xi_TooMany yk_NoName_TooMany (IqA.cons (PySem.W.mg_of X G xg_TwiceNamed) xi_TwiceNamed yk_NoName_TwiceNamed (IqA.nil))))
 have q_NoNotes:Iq (Cn.mk ⟨K,l.prog,w,mg⟩ base) "NoNotes" [(6,false),(8,false),(7,false)]:=Iq.ofC (PySem.W.mg_of X G xg_NoNotes) (IqA.cons (PySem.W.mg_of X G xg_NoName) xi_NoName yk_NoNotes_NoName (IqA.cons (PySem.W.mg_of X G xg_TooMany) xi_TooMany yk_NoNotes_TooMany (IqA.cons (PySem.W.mg_of X G xg_TwiceNamed) xi_TwiceNamed yk_NoNotes_TwiceNamed (IqA.nil))))
 have q_NoPrices:Iq (Cn.mk ⟨K,l.prog,w,mg⟩ base) "NoPrices" [(6,false),(8,false),(7,false)]:=Iq.ofC (PySem.W.mg_of X G xg_NoPrices) (IqA.cons (PySem.W.mg_of X G xg_NoName) xi_NoName yk_NoPrices_NoName (IqA.cons (PySem.W.mg_of X G xg_TooMany) xi_TooMany yk_NoPrices_TooMany (IqA.cons (PySem.W.mg_of X G xg_TwiceNamed) xi_TwiceNamed yk_NoPrices_TwiceNamed (IqA.nil))))
 have q_NoRow:Iq (Cn.mk ⟨K,l.prog,w,mg⟩ base) "NoRow" [(6,false),(8,false),(7,false)]:=Iq.ofC (PySem.W.mg_of X G xg_NoRow) (IqA.cons (PySem.W.mg_of X G xg_NoName) xi_NoName yk_NoRow_NoName (IqA.cons (PySem.W.mg_of X G xg_TooMany) xi_TooMany yk_NoRow_TooMany (IqA.cons (PySem.W.mg_of X G xg_TwiceNamed) xi_TwiceNamed yk_NoRow_TwiceNamed (IqA.nil))))
 have q_NoSlips:Iq (Cn.mk ⟨K,l.prog,w,mg⟩ base) "NoSlips" [(6,false),(8,false),(7,false)]:=Iq.ofC (PySem.W.mg_of X G xg_NoSlips) (IqA.cons (PySem.W.mg_of X G xg_NoName) xi_NoName yk_NoSlips_NoName (IqA.cons (PySem.W.mg_of X G xg_TooMany) xi_TooMany yk_NoSlips_TooMany (IqA.cons (PySem.W.mg_of X G xg_TwiceNamed) xi_TwiceNamed yk_NoSlips_TwiceNamed (IqA.nil))))
 have q_TooMany:Iq (Cn.mk ⟨K,l.prog,w,mg⟩ base) "TooMany" [(6,false),(8,true),(7,false)]:=Iq.ofC (PySem.W.mg_of X G xg_TooMany) (IqA.cons (PySem.W.mg_of X G xg_NoName) xi_NoName yk_TooMany_NoName (IqA.cons (PySem.W.mg_of X G xg_TooMany) xi_TooMany yk_TooMany_TooMany (IqA.cons (PySem.W.mg_of X G xg_TwiceNamed) xi_TwiceNamed yk_TooMany_TwiceNamed (IqA.nil))))
 have q_TwiceNamed:Iq (Cn.mk ⟨K,l.prog,w,mg⟩ base) "TwiceNamed" [(6,false),(8,false),(7,true)]:=Iq.ofC (PySem.W.mg_of X G xg_TwiceNamed) (IqA.cons (PySem.W.mg_of X G xg_NoName) xi_NoName yk_TwiceNamed_NoName (IqA.cons (PySem.W.mg_of X G xg_TooMany) xi_TooMany yk_TwiceNamed_TooMany (IqA.cons (PySem.W.mg_of X G xg_TwiceNamed) xi_TwiceNamed yk_TwiceNamed_TwiceNamed (IqA.nil))))
 have mgH:(Cn.mk ⟨K,l.prog,w,mg⟩ base).mg "House" = some (.ref Ch):=PySem.W.mg_of X G aH
 have clH:Cls K Ch:=⟨Hpg,Hhd,Hpo,Hsa⟩
 have hs:HsC (Cn.mk ⟨K,l.prog,w,mg⟩ base):=⟨Ch,mgH,clH,fun f hf=>by rcases List.mem_cons.mp hf with rfl | hf; exact Hn_rows_kept; rcases List.mem_cons.mp hf with rfl | hf; exact Hn_days_kept; rcases List.mem_cons.mp hf with rfl | hf; exact Hn_prices_now; rcases List.mem_cons.mp hf with rfl | hf; exact Hn_fresh_now; cases hf⟩
 have c_is_word:Cal (Cn.mk ⟨K,l.prog,w,mg⟩ base) "is_word" 1 1 d_is_word:=by
  obtain ⟨_,_,_,_,_,_,_,_,_,_,a,l1,c,k⟩:=d0
  have F:=fun_mk (st:=s_is_word) l1 c k
  exact ok_is_word F (PySem.W.mg_of X G a) (F.binds (ps:=["text"]) fun _ _ _ _ _ _ us hl=>match us,hl with | [_],_=>rfl) z_len z_all g_MOST_LETTERS g_WORD_LETTERS
 have c__law_cell:Cal (Cn.mk ⟨K,l.prog,w,mg⟩ base) "_law_cell" 2 1 d_law_cell:=by
  obtain ⟨_,_,_,_,_,_,_,_,_,_,a,l1,c,k⟩:=d1
  have F:=fun_mk (st:=s__law_cell) l1 c k
  exact ok__law_cell F (PySem.W.mg_of X G a) (F.binds (ps:=["script","k"]) fun _ _ _ _ _ _ us hl=>match us,hl with | [_,_],_=>rfl) z_len
 have c__law_word:Cal (Cn.mk ⟨K,l.prog,w,mg⟩ base) "_law_word" 1 1 d_law_word:=by
  obtain ⟨_,_,_,_,_,_,_,_,_,_,a,l1,c,k⟩:=d2
  have F:=fun_mk (st:=s__law_word) l1 c k
  exact ok__law_word F (PySem.W.mg_of X G a) (F.binds (ps:=["cell"]) fun _ _ _ _ _ _ us hl=>match us,hl with | [_],_=>rfl) z_range
 have c__law_other:Cal (Cn.mk ⟨K,l.prog,w,mg⟩ base) "_law_other" 3 1 d_law_other:=by
  obtain ⟨_,_,_,_,_,_,_,_,_,_,a,l1,c,k⟩:=d3
  have F:=fun_mk (st:=s__law_other) l1 c k
  exact ok__law_other F (PySem.W.mg_of X G a) (F.binds (ps:=["word","place","step"]) fun _ _ _ _ _ _ us hl=>match us,hl with | [_,_,_],_=>rfl) z_len
 have c__law_row:Cal (Cn.mk ⟨K,l.prog,w,mg⟩ base) "_law_row" 1 2 d_law_row:=by
  obtain ⟨_,_,_,_,_,_,_,_,_,_,a,l1,c,k⟩:=d4
  have F:=fun_mk (st:=s__law_row) l1 c k
  exact ok__law_row F (PySem.W.mg_of X G a) (F.binds (ps:=["cells"]) fun _ _ _ _ _ _ us hl=>match us,hl with | [_],_=>rfl) z_len c__law_word c__law_other
 have c__law_alike:Cal (Cn.mk ⟨K,l.prog,w,mg⟩ base) "_law_alike" 2 9 (d_law_alike_v2 8):=by
  obtain ⟨_,_,_,_,_,_,_,_,_,_,a,l1,c,k⟩:=d5
  have F:=fun_mk (st:=s__law_alike) l1 c k
  exact ok__law_alike F (PySem.W.mg_of X G a) (F.binds (ps:=["found","due"]) fun _ _ _ _ _ _ us hl=>match us,hl with | [_,_],_=>rfl) z_isinstance z_tuple z_len z_range z_str z_int z_bool 8
 have c__law_name:Cal (Cn.mk ⟨K,l.prog,w,mg⟩ base) "_law_name" 1 2 d_law_name:=by
  obtain ⟨_,_,_,_,_,_,_,_,_,_,a,l1,c,k⟩:=d6
  have F:=fun_mk (st:=s__law_name) l1 c k
  exact ok__law_name F (PySem.W.mg_of X G a) (F.binds (ps:=["cell"]) fun _ _ _ _ _ _ us hl=>match us,hl with | [_],_=>rfl) c__law_word
 have c__law_kind:CalC (Cn.mk ⟨K,l.prog,w,mg⟩ base) "_law_kind" 1 1 d_law_kind_v1:=by
  obtain ⟨_,_,_,_,_,_,_,_,_,_,a,l1,c,k⟩:=d7
  have F:=fun_mk (st:=s__law_kind) l1 c k
  exact ok__law_kind F (PySem.W.mg_of X G a) (F.binds (ps:=["error"]) fun _ _ _ _ _ _ us hl=>match us,hl with | [_],_=>rfl) z_isinstance q_TooMany q_TwiceNamed q_NoName q_NoLine q_NoNotes q_NoPrices q_NoRow q_NoSlips
 have F8:FunD K "put" "House.put" (defArgs s_House_put) (defBody s_House_put) (defScope s_House_put) [V.non] [] f8 _:=⟨⟨oc8,od8,.ref Td,kV8,dc8,pm8,an8,cd8,ct8,sl8,rfl,l8,c8,.inr ⟨by simp,Td,_,[.none],Tn,rfl,Tl,rfl,.cons rfl .nil⟩,.inl rfl⟩,k8⟩
 have bA8:=binds_0 (F8.binds1 (ps:=["self","name","row","day"]) 4 1 (by simp) rfl fun _ _ _ _ _ _ _ us its hu hi=>match us,its,hu,hi with | [_,_,_,_],[_],_,_=>⟨_,rfl,rfl⟩)
 have bB8:=binds_1 (F8.binds1 (ps:=["self","name","row","day"]) 3 0 (by simp) rfl fun _ _ _ _ _ _ _ us its hu hi=>match us,its,hu,hi with | [_,_,_],[_],_,_=>⟨_,rfl,rfl⟩)
 have k_House_put:=ok_House_put (C:=Cn.mk ⟨K,l.prog,w,mg⟩ base) F8 hs z_len g_MOST_COPIES x_NoName x_TwiceNamed x_TooMany c_is_word
 have bK8:=bindK_of F8 (ps:=["self","name","row","day"]) (ky:="day") 3 (by simp) rfl fun _ _ _ _ _ _ _ us its w hu hi=>match us,its,hu,hi with | [_,_,_],[_],_,_=>⟨_,rfl,rfl⟩
 have c_House_putk:CalHK (Cn.mk ⟨K,l.prog,w,mg⟩ base) "put" "day" 2 [.ow 2,.fz,.fz,.fz] d_House_put:=⟨f8,_,_,Ch,rfl,k_House_put,bK8,mgH,clH,a8,i8,k8⟩
 have c_House_put0:CalH (Cn.mk ⟨K,l.prog,w,mg⟩ base) "put" 2 [.ow 2,.fz,.fz,.fz] d_House_put 0:=⟨f8,_,_,Ch,rfl,k_House_put,bA8,mgH,clH,a8,i8,k8⟩
 have c_House_put1:CalH (Cn.mk ⟨K,l.prog,w,mg⟩ base) "put" 2 [.ow 2,.fz,.fz,.fz] d_House_put 1:=⟨f8,_,_,Ch,rfl,k_House_put,bB8,mgH,clH,a8,i8,k8⟩
 have F9:=fun_mk (st:=s_House_look_for) l9 c9 k9
 have b9:=F9.binds (ps:=["self","name"]) fun _ _ _ _ _ _ us hl=>match us,hl with | [_,_],_=>rfl
 have k_House_look_for:=ok_House_look_for (C:=Cn.mk ⟨K,l.prog,w,mg⟩ base) F9 hs x_NoName
 have c_House_look_for:CalF (Cn.mk ⟨K,l.prog,w,mg⟩ base) "look_for" 2 1 d_House_look_for:=⟨f9,_,_,Ch,rfl,k_House_look_for,b9,mgH,clH,a9,i9,k9⟩
 have F10:=fun_mk (st:=s_House_take) l10 c10 k10
 have b10:=F10.binds (ps:=["self","name"]) fun _ _ _ _ _ _ us hl=>match us,hl with | [_,_],_=>rfl
 have k_House_take:=ok_House_take (C:=Cn.mk ⟨K,l.prog,w,mg⟩ base) F10 hs c_House_look_for
 have c_House_take:CalH (Cn.mk ⟨K,l.prog,w,mg⟩ base) "take" 2 [.ow 2,.fz] d_House_take 0:=⟨f10,_,_,Ch,rfl,k_House_take,b10,mgH,clH,a10,i10,k10⟩
 have F11:=fun_mk (st:=s_House_set_prices) l11 c11 k11
 have b11:=F11.binds (ps:=["self","prices"]) fun _ _ _ _ _ _ us hl=>match us,hl with | [_,_],_=>rfl
 have k_House_set_prices:=ok_House_set_prices (C:=Cn.mk ⟨K,l.prog,w,mg⟩ base) F11 hs
 have c_House_set_prices:CalH (Cn.mk ⟨K,l.prog,w,mg⟩ base) "set_prices" 1 [.ow 2,.fz] d_House_set_prices 0:=⟨f11,_,_,Ch,rfl,k_House_set_prices,b11,mgH,clH,a11,i11,k11⟩
 have F12:=fun_mk (st:=s_House_set_fresh) l12 c12 k12
 have b12:=F12.binds (ps:=["self","price"]) fun _ _ _ _ _ _ us hl=>match us,hl with | [_,_],_=>rfl
 have k_House_set_fresh:=ok_House_set_fresh (C:=Cn.mk ⟨K,l.prog,w,mg⟩ base) F12 hs
 have c_House_set_fresh:CalH (Cn.mk ⟨K,l.prog,w,mg⟩ base) "set_fresh" 1 [.ow 2,.fz] d_House_set_fresh 0:=⟨f12,_,_,Ch,rfl,k_House_set_fresh,b12,mgH,clH,a12,i12,k12⟩
 have c__law_done:CalX (Cn.mk ⟨K,l.prog,w,mg⟩ base) "_law_done" 3 [.ow 2,.fz] d_law_done:=by
  obtain ⟨_,_,_,_,_,_,_,_,_,_,a,l1,c,k⟩:=d13
  have F:=fun_mk (st:=s__law_done) l1 c k
  exact ok__law_done F (PySem.W.mg_of X G a) (F.binds (ps:=["house","deed"]) fun _ _ _ _ _ _ us hl=>match us,hl with | [_,_],_=>rfl) x_VellumError x_NoName x_TooMany x_TwiceNamed s_VellumError c_House_put1 c_House_put0 c_House_putk c_House_take c_House_set_prices c_House_set_fresh c__law_kind
 have c__law_is_name:Cal (Cn.mk ⟨K,l.prog,w,mg⟩ base) "_law_is_name" 1 1 d_law_is_name:=by
  obtain ⟨_,_,_,_,_,_,_,_,_,_,a,l1,c,k⟩:=d14
  have F:=fun_mk (st:=s__law_is_name) l1 c k
  exact ok__law_is_name F (PySem.W.mg_of X G a) (F.binds (ps:=["name"]) fun _ _ _ _ _ _ us hl=>match us,hl with | [_],_=>rfl) z_len z_all
 have c__law_due:CalX (Cn.mk ⟨K,l.prog,w,mg⟩ base) "_law_due" 2 [.ow 2,.fz] d_law_due_v9:=by
  obtain ⟨_,_,_,_,_,_,_,_,_,_,a,l1,c,k⟩:=d15
  have F:=fun_mk (st:=s__law_due) l1 c k
  exact ok__law_due F (PySem.W.mg_of X G a) (F.binds (ps:=["state","deed"]) fun _ _ _ _ _ _ us hl=>match us,hl with | [_,_],_=>rfl) z_len c__law_is_name
 have c__law_deed:Cal (Cn.mk ⟨K,l.prog,w,mg⟩ base) "_law_deed" 2 3 d_law_deed:=by
  obtain ⟨_,_,_,_,_,_,_,_,_,_,a,l1,c,k⟩:=d16
  have F:=fun_mk (st:=s__law_deed) l1 c k
  exact ok__law_deed F (PySem.W.mg_of X G a) (F.binds (ps:=["cells","k"]) fun _ _ _ _ _ _ us hl=>match us,hl with | [_,_],_=>rfl) z_tuple z_range z_len c__law_name c__law_row
 have F17:=fun_mk (st:=s_House_day_of) l17 c17 k17
 have b17:=F17.binds (ps:=["self","name"]) fun _ _ _ _ _ _ us hl=>match us,hl with | [_,_],_=>rfl
 have k_House_day_of:=ok_House_day_of (C:=Cn.mk ⟨K,l.prog,w,mg⟩ base) F17 hs c_House_look_for
 have c_House_day_of:CalF (Cn.mk ⟨K,l.prog,w,mg⟩ base) "day_of" 2 2 d_House_day_of:=⟨f17,_,_,Ch,rfl,k_House_day_of,b17,mgH,clH,a17,i17,k17⟩
 have F18:=fun_mk (st:=s_House_row_of) l18 c18 k18
 have b18:=F18.binds (ps:=["self","name"]) fun _ _ _ _ _ _ us hl=>match us,hl with | [_,_],_=>rfl
 have k_House_row_of:=ok_House_row_of (C:=Cn.mk ⟨K,l.prog,w,mg⟩ base) F18 hs c_House_look_for
 have c_House_row_of:CalF (Cn.mk ⟨K,l.prog,w,mg⟩ base) "row_of" 2 2 d_House_row_of:=⟨f18,_,_,Ch,rfl,k_House_row_of,b18,mgH,clH,a18,i18,k18⟩
 have c__law_of:Cal (Cn.mk ⟨K,l.prog,w,mg⟩ base) "_law_of" 3 3 d_law_of:=by
  obtain ⟨_,_,_,_,_,_,_,_,_,_,a,l1,c,k⟩:=d19
  have F:=fun_mk (st:=s__law_of) l1 c k
  exact ok__law_of F (PySem.W.mg_of X G a) (F.binds (ps:=["house","name","moment"]) fun _ _ _ _ _ _ us hl=>match us,hl with | [_,_,_],_=>rfl) x_NoName x_TooMany x_TwiceNamed s_NoName c_House_day_of c_House_row_of
 have F20:=fun_mk (st:=s_House_fresh_price) l20 c20 k20
 have b20:=F20.binds (ps:=["self"]) fun _ _ _ _ _ _ us hl=>match us,hl with | [_],_=>rfl
 have k_House_fresh_price:=ok_House_fresh_price (C:=Cn.mk ⟨K,l.prog,w,mg⟩ base) F20 hs
 have c_House_fresh_price:CalF (Cn.mk ⟨K,l.prog,w,mg⟩ base) "fresh_price" 1 1 d_House_fresh_price:=⟨f20,_,_,Ch,rfl,k_House_fresh_price,b20,mgH,clH,a20,i20,k20⟩
 have F21:=fun_mk (st:=s_House_names) l21 c21 k21
 have b21:=F21.binds (ps:=["self"]) fun _ _ _ _ _ _ us hl=>match us,hl with | [_],_=>rfl
 have k_House_names:=ok_House_names (C:=Cn.mk ⟨K,l.prog,w,mg⟩ base) F21 hs z_tuple
 have c_House_names:CalF (Cn.mk ⟨K,l.prog,w,mg⟩ base) "names" 1 1 d_House_names:=⟨f21,_,_,Ch,rfl,k_House_names,b21,mgH,clH,a21,i21,k21⟩
 have F22:=fun_mk (st:=s_House_slip_prices) l22 c22 k22
 have b22:=F22.binds (ps:=["self"]) fun _ _ _ _ _ _ us hl=>match us,hl with | [_],_=>rfl
 have k_House_slip_prices:=ok_House_slip_prices (C:=Cn.mk ⟨K,l.prog,w,mg⟩ base) F22 hs
 have c_House_slip_prices:CalF (Cn.mk ⟨K,l.prog,w,mg⟩ base) "slip_prices" 1 1 d_House_slip_prices:=⟨f22,_,_,Ch,rfl,k_House_slip_prices,b22,mgH,clH,a22,i22,k22⟩
 have c__law_seen:Cal (Cn.mk ⟨K,l.prog,w,mg⟩ base) "_law_seen" 3 10 d_law_seen:=by
  obtain ⟨_,_,_,_,_,_,_,_,_,_,a,l1,c,k⟩:=d23
  have F:=fun_mk (st:=s__law_seen) l1 c k
  exact ok__law_seen F (PySem.W.mg_of X G a) (F.binds (ps:=["house","state","name"]) fun _ _ _ _ _ _ us hl=>match us,hl with | [_,_,_],_=>rfl) z_tuple c_House_names c__law_alike c_House_slip_prices c_House_fresh_price c__law_of
 have F24:=fun_mk (st:=s_House___init__) l24 c24 k24
 have b24:=F24.binds (ps:=["self"]) fun _ _ _ _ _ _ us hl=>match us,hl with | [_],_=>rfl
 have k_House___init__:=ok_House___init__ (C:=Cn.mk ⟨K,l.prog,w,mg⟩ base) F24 hs
 have c_House___init__:CalI (Cn.mk ⟨K,l.prog,w,mg⟩ base) 1 d_House___init__:=⟨f24,_,_,Ch,k_House___init__,b24,mgH,Hmk,a24,i24,Hkc⟩
 have F:=fun_mk (st:=s_law) lL cL kL
 exact law_end (C:=Cn.mk ⟨K,l.prog,w,mg⟩ base) (ok_law F (PySem.W.mg_of X G aL) (F.binds (ps:=["script"]) fun _ _ _ _ _ _ us hl=>match us,hl with | [_],_=>rfl) z_range z_len z_min c_House___init__ c__law_cell c__law_word c__law_deed c__law_due c__law_done c__law_name c__law_seen) s2_law
end VP
open PySem PySem.W PyProof.Rows
set_option maxHeartbeats 0 in
theorem PySem.Challenge.cw_vellum_k56_deeds_of_a_house_holds : PySem.Challenge.rw_vellum_k56_deeds_of_a_house.Holds := by
  w_on; refine vp_hd ?_
  k_fill
  refine L2.walk_ofB (l := PySem.Challenge.rw_vellum_k56_deeds_of_a_house) (n := 63) (k := 11) (x := "script") (CX := fun w => L2.CX PySem.Challenge.rw_vellum_k56_deeds_of_a_house.prog w) (sp := fun w => Vl.spLaw _) rfl (by decide) rfl ⟨rfl, by decide, by decide⟩ (fun w h Y => PySem.W.kIn_of Y) ?F (fun _ _ a ns hl hb ho hS => ⟨a, ns, rfl, hS, hl, hb, ho, fun _ => rfl⟩) (fun _ _ _ _ _ h => Vl.cx_no h)
  case F =>
    intro w mg fa h KX G hmg
    refine' VP.all_mk KX G hmg ?aH ?Hpg ?Hhd ?Hpo ?Hsa ?Hmk ?Hkc ?Hn_rows_kept ?Hn_days_kept ?Hn_prices_now ?Hn_fresh_now ?d0 ?d1 ?d2 ?d3 ?d4 ?d5 ?d6 ?d7 ?Tl ?a8 ?i8 ?l8 ?c8 ?k8 ?a9 ?i9 ?l9 ?c9 ?k9 ?a10 ?i10 ?l10 ?c10 ?k10 ?a11 ?i11 ?l11 ?c11 ?k11 ?a12 ?i12 ?l12 ?c12 ?k12 ?d13 ?d14 ?d15 ?d16 ?a17 ?i17 ?l17 ?c17 ?k17 ?a18 ?i18 ?l18 ?c18 ?k18 ?d19 ?a20 ?i20 ?l20 ?c20 ?k20 ?a21 ?i21 ?l21 ?c21 ?k21 ?a22 ?i22 ?l22 ?c22 ?k22 ?d23 ?a24 ?i24 ?l24 ?c24 ?k24 ?d25 ?zz_all ?zz_bool ?zz_int ?zz_isinstance ?zz_len ?zz_min ?zz_range ?zz_str ?zz_tuple ?gg_MOST_COPIES ?gr_MOST_COPIES ?gg_MOST_LETTERS ?gr_MOST_LETTERS ?gg_WORD_LETTERS ?gr_WORD_LETTERS ?xg_NoLine ?xe_NoLine ?xk_NoLine ?xb_NoLine ?xt_NoLine ?xg_NoName ?xe_NoName ?xk_NoName ?xb_NoName ?xt_NoName ?xg_NoNotes ?xe_NoNotes ?xk_NoNotes ?xb_NoNotes ?xt_NoNotes ?xg_NoPrices ?xe_NoPrices ?xk_NoPrices ?xb_NoPrices ?xt_NoPrices ?xg_NoRow ?xe_NoRow ?xk_NoRow ?xb_NoRow ?xt_NoRow ?xg_NoSlips ?xe_NoSlips ?xk_NoSlips ?xb_NoSlips ?xt_NoSlips ?xg_TooMany ?xe_TooMany ?xk_TooMany ?xb_TooMany ?xt_TooMany ?xg_TwiceNamed ?xe_TwiceNamed ?xk_TwiceNamed ?xb_TwiceNamed ?xt_TwiceNamed ?xg_VellumError ?xe_VellumError ?xk_VellumError ?xb_VellumError ?xt_VellumError ?xq_NoName_NoName ?xq_NoName_TooMany ?xq_NoName_TwiceNamed ?xq_VellumError_NoName ?xq_VellumError_TooMany ?xq_VellumError_TwiceNamed ?xi_NoName ?xi_TooMany ?xi_TwiceNamed ?yk_NoLine_NoName ?yk_NoLine_TooMany ?yk_NoLine_TwiceNamed ?yk_NoName_NoName ?yk_NoName_TooMany ?yk_NoName_TwiceNamed ?yk_NoNotes_NoName ?yk_NoNotes_TooMany ?yk_NoNotes_TwiceNamed ?yk_NoPrices_NoName ?yk_NoPrices_TooMany ?yk_NoPrices_TwiceNamed ?yk_NoRow_NoName ?yk_NoRow_TooMany ?yk_NoRow_TwiceNamed ?yk_NoSlips_NoName ?yk_NoSlips_TooMany ?yk_NoSlips_TwiceNamed ?yk_TooMany_NoName ?yk_TooMany_TooMany ?yk_TooMany_TwiceNamed ?yk_TwiceNamed_NoName ?yk_TwiceNamed_TooMany ?yk_TwiceNamed_TwiceNamed
    (case aH => k_is); (case Hpg => k_is); (case Hhd => k_is); (case Hpo => k_is); (case Hsa => k_is); (case Hmk => k_is); (case Hkc => k_is); (case Hn_rows_kept => k_is); (case Hn_days_kept => k_is); (case Hn_prices_now => k_is); (case Hn_fresh_now => k_is); (case a8 => k_is); (case i8 => k_is); (case l8 => k_is); (case c8 => k_is); (case k8 => k_is); (case a9 => k_is); (case i9 => k_is); (case l9 => k_is); (case c9 => k_is); (case k9 => k_is); (case a10 => k_is); (case i10 => k_is); (case l10 => k_is); (case c10 => k_is); (case k10 => k_is); (case a11 => k_is); (case i11 => k_is); (case l11 => k_is); (case c11 => k_is); (case k11 => k_is); (case a12 => k_is); (case i12 => k_is); (case l12 => k_is); (case c12 => k_is); (case k12 => k_is); (case a17 => k_is); (case i17 => k_is); (case l17 => k_is); (case c17 => k_is); (case k17 => k_is); (case a18 => k_is); (case i18 => k_is); (case l18 => k_is); (case c18 => k_is); (case k18 => k_is); (case a20 => k_is); (case i20 => k_is); (case l20 => k_is); (case c20 => k_is); (case k20 => k_is); (case a21 => k_is); (case i21 => k_is); (case l21 => k_is); (case c21 => k_is); (case k21 => k_is); (case a22 => k_is); (case i22 => k_is); (case l22 => k_is); (case c22 => k_is); (case k22 => k_is); (case a24 => k_is); (case i24 => k_is); (case l24 => k_is); (case c24 => k_is); (case k24 => k_is); (case zz_all => k_is); (case zz_bool => k_is); (case zz_int => k_is); (case zz_isinstance => k_is); (case zz_len => k_is); (case zz_min => k_is); (case zz_range => k_is); (case zz_str => k_is); (case zz_tuple => k_is); (case Tl => k_is)
    (case gg_MOST_COPIES => k_is); (case gr_MOST_COPIES => first | exact rfl | exact ⟨_, rfl⟩)
    (case gg_MOST_LETTERS => k_is); (case gr_MOST_LETTERS => first | exact rfl | exact ⟨_, rfl⟩)
    (case gg_WORD_LETTERS => k_is); (case gr_WORD_LETTERS => first | exact rfl | exact ⟨_, rfl⟩)
    (case xg_NoLine => k_is); (case xe_NoLine => k_exc); (case xk_NoLine => k_is); (case xb_NoLine => k_is); (case xt_NoLine => k_is)
    (case xg_NoName => k_is); (case xe_NoName => k_exc); (case xk_NoName => k_is); (case xb_NoName => k_is); (case xt_NoName => k_is)
    (case xg_NoNotes => k_is); (case xe_NoNotes => k_exc); (case xk_NoNotes => k_is); (case xb_NoNotes => k_is); (case xt_NoNotes => k_is)
    (case xg_NoPrices => k_is); (case xe_NoPrices => k_exc); (case xk_NoPrices => k_is); (case xb_NoPrices => k_is); (case xt_NoPrices => k_is)
    (case xg_NoRow => k_is); (case xe_NoRow => k_exc); (case xk_NoRow => k_is); (case xb_NoRow => k_is); (case xt_NoRow => k_is)
    (case xg_NoSlips => k_is); (case xe_NoSlips => k_exc); (case xk_NoSlips => k_is); (case xb_NoSlips => k_is); (case xt_NoSlips => k_is)
    (case xg_TooMany => k_is); (case xe_TooMany => k_exc); (case xk_TooMany => k_is); (case xb_TooMany => k_is); (case xt_TooMany => k_is)
    (case xg_TwiceNamed => k_is); (case xe_TwiceNamed => k_exc); (case xk_TwiceNamed => k_is); (case xb_TwiceNamed => k_is); (case xt_TwiceNamed => k_is)
    (case xg_VellumError => k_is); (case xe_VellumError => k_exc); (case xk_VellumError => k_is); (case xb_VellumError => k_is); (case xt_VellumError => k_is)
    (case xq_NoName_NoName => kts_exm)
    (case xq_NoName_TooMany => kts_exm)
    (case xq_NoName_TwiceNamed => kts_exm)
    (case xq_VellumError_NoName => kts_exm)
    (case xq_VellumError_TooMany => kts_exm)
    (case xq_VellumError_TwiceNamed => kts_exm)
    (case xi_NoName => constructor <;> k_is)
    (case xi_TooMany => constructor <;> k_is)
    (case xi_TwiceNamed => constructor <;> k_is)
    (case yk_NoLine_NoName => kit_is)
    (case yk_NoLine_TooMany => kit_is)
    (case yk_NoLine_TwiceNamed => kit_is)
    (case yk_NoName_NoName => kit_is)
    (case yk_NoName_TooMany => kit_is)
    (case yk_NoName_TwiceNamed => kit_is)
    (case yk_NoNotes_NoName => kit_is)
    (case yk_NoNotes_TooMany => kit_is)
    (case yk_NoNotes_TwiceNamed => kit_is)
    (case yk_NoPrices_NoName => kit_is)
    (case yk_NoPrices_TooMany => kit_is)
    (case yk_NoPrices_TwiceNamed => kit_is)
    (case yk_NoRow_NoName => kit_is)
    (case yk_NoRow_TooMany => kit_is)
    (case yk_NoRow_TwiceNamed => kit_is)
    (case yk_NoSlips_NoName => kit_is)
    (case yk_NoSlips_TooMany => kit_is)
    (case yk_NoSlips_TwiceNamed => kit_is)
    (case yk_TooMany_NoName => kit_is)
    (case yk_TooMany_TooMany => kit_is)
    (case yk_TooMany_TwiceNamed => kit_is)
    (case yk_TwiceNamed_NoName => kit_is)
    (case yk_TwiceNamed_TooMany => kit_is)
    (case yk_TwiceNamed_TwiceNamed => kit_is)
    all_goals (as_aux_lemma => exact ⟨_, _, _, _, _, _, _, _, _, _, by k_is, by k_is, by k_is, by k_is⟩)
end
